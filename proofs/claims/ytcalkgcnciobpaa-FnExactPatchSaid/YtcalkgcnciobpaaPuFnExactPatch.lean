/- What is left of the law FnExactPatch: over lists and numbers alone. No condition beyond the statement's own. -/
import Derived.Test.YtcalkgcnciobpaaKnFnExactPatch
import Derived.Test.YtcalkgcnciobpaaV
namespace Go.Proofs.Ytcalkgcnciobpaa.PFnExactPatch
open Go.RowKit Go.Proofs.YtcalkgcnciobpaaW.PrintWords Go.Proofs.YtcalkgcnciobpaaW.PrintLast Go.Proofs.YtcalkgcnciobpaaW.PrintMore Go.Proofs.YtcalkgcnciobpaaV
set_option linter.unusedVariables false
set_option linter.unusedSimpArgs false
theorem rd95 {l : List S95} {i : Nat} (h : i < l.length) : rd_T95 l (i : Int) = l[i] := by
  unfold rd_T95
  simp [List.getD, List.getElem?_eq_getElem h]
theorem rds95 {l : List S95} {i : Nat} (h : i < l.length) (v : S95) : rd_T95 (l.set i v) (i : Int) = v := by
  unfold rd_T95
  simp [List.getD, h]

theorem rd97 {l : List S97} {i : Nat} (h : i < l.length) : rd_T97 l (i : Int) = l[i] := by
  unfold rd_T97
  simp [List.getD, List.getElem?_eq_getElem h]
theorem rds97 {l : List S97} {i : Nat} (h : i < l.length) (v : S97) : rd_T97 (l.set i v) (i : Int) = v := by
  unfold rd_T97
  simp [List.getD, h]

theorem rd75 {l : List S75} {i : Nat} (h : i < l.length) : rd_T75 l (i : Int) = l[i] := by
  unfold rd_T75
  simp [List.getD, List.getElem?_eq_getElem h]
theorem rds75 {l : List S75} {i : Nat} (h : i < l.length) (v : S75) : rd_T75 (l.set i v) (i : Int) = v := by
  unfold rd_T75
  simp [List.getD, h]

theorem rd93 {l : List S93} {i : Nat} (h : i < l.length) : rd_T93 l (i : Int) = l[i] := by
  unfold rd_T93
  simp [List.getD, List.getElem?_eq_getElem h]
theorem rds93 {l : List S93} {i : Nat} (h : i < l.length) (v : S93) : rd_T93 (l.set i v) (i : Int) = v := by
  unfold rd_T93
  simp [List.getD, h]

theorem sz_ok_Cell (l : List S97) (a : Int) (ha : 0 ≤ a) (hb : a ≤ 1048576) (hl : (l.length : Int) ≤ a) : laws_szCellS.f l a = some (a - l.length) := by
  unfold laws_szCellS.f
  rw [wr (by omega) (by omega), if_neg (by omega)]
theorem sz_big_Cell (l : List S97) (a : Int) (ha : 0 ≤ a) (hb : a ≤ 1048576) (hm : l.length ≤ maxLen) (hl : ¬ (l.length : Int) ≤ a) : laws_szCellS.f l a = some (-1) := by
  unfold maxLen at hm
  unfold laws_szCellS.f
  rw [wr (by omega) (by omega), if_pos (by omega)]

def cv_Cell (x : S97) : S93 := ⟨x.f0, (⟨x.f1.f0, x.f1.f1⟩ : S75)⟩
theorem ev_toCellS (l : List S97) (hl : l.length ≤ 1048576) : Ev (fun k => laws_toCellS.f k l) (l.map cv_Cell) := by
  unfold laws_toCellS.f
  refine Ev_pos (by omega) ?_
  rw [Int.toNat_natCast]
  refine Ev_pos (by omega) ?_
  refine evFill (fun k xs i => laws_toCellS.l0 k l xs i) l cv_Cell z93 (fun xs hx => ?_) (fun xs i hi r hx ih => ?_)
  · refine Ev_succ ?_
    simp only [laws_toCellS.l0]
    exact Ev_neg (by omega) (Ev.now _)
  · refine Ev_succ ?_
    simp only [laws_toCellS.l0]
    refine Ev_pos (by omega) (Ev_pos (by omega) (Ev_some rfl (Ev_pos (by omega) ?_)))
    rw [wr1 hi (by omega), rd97 hi, Int.toNat_natCast]
    exact ih

theorem eqr_Cell (a0 : Int) (a1 : Bool) (a2 : Int) : laws_eqCell.f a0 a1 a2 a0 a1 a2 = some true := by
  simp [laws_eqCell.f, laws_eqVal.f]
theorem ev_eqCellS (l : List S93) (hl : l.length ≤ 2000000000) : Ev (fun k => laws_eqCellS.f k l l) true := by
  unfold laws_eqCellS.f
  refine Ev_pos rfl ?_
  refine down (P := fun i => Ev (fun k => laws_eqCellS.l0 k l l (i : Int)) true) l.length ?_ ?_ 0 (Nat.zero_le _)
  · refine Ev_succ ?_
    simp only [laws_eqCellS.l0]
    exact Ev_neg (by omega) (Ev.now _)
  · intro i hi ih
    refine Ev_succ ?_
    simp only [laws_eqCellS.l0]
    refine Ev_pos (by omega) (Ev_pos (by omega) (Ev_pos (by omega) (Ev_some (eqr_Cell _ _ _) (Ev_pos rfl ?_))))
    rw [wr1 hi (by omega)]
    exact ih

theorem sz_ok_Val (l : List S95) (a : Int) (ha : 0 ≤ a) (hb : a ≤ 1048576) (hl : (l.length : Int) ≤ a) : laws_szValS.f l a = some (a - l.length) := by
  unfold laws_szValS.f
  rw [wr (by omega) (by omega), if_neg (by omega)]
theorem sz_big_Val (l : List S95) (a : Int) (ha : 0 ≤ a) (hb : a ≤ 1048576) (hm : l.length ≤ maxLen) (hl : ¬ (l.length : Int) ≤ a) : laws_szValS.f l a = some (-1) := by
  unfold maxLen at hm
  unfold laws_szValS.f
  rw [wr (by omega) (by omega), if_pos (by omega)]

def cv_Val (x : S95) : S75 := ⟨x.f0, x.f1⟩
theorem ev_toValS (l : List S95) (hl : l.length ≤ 1048576) : Ev (fun k => laws_toValS.f k l) (l.map cv_Val) := by
  unfold laws_toValS.f
  refine Ev_pos (by omega) ?_
  rw [Int.toNat_natCast]
  refine Ev_pos (by omega) ?_
  refine evFill (fun k xs i => laws_toValS.l0 k l xs i) l cv_Val z75 (fun xs hx => ?_) (fun xs i hi r hx ih => ?_)
  · refine Ev_succ ?_
    simp only [laws_toValS.l0]
    exact Ev_neg (by omega) (Ev.now _)
  · refine Ev_succ ?_
    simp only [laws_toValS.l0]
    refine Ev_pos (by omega) (Ev_pos (by omega) (Ev_some rfl (Ev_pos (by omega) ?_)))
    rw [wr1 hi (by omega), rd95 hi, Int.toNat_natCast]
    exact ih

theorem eqr_Val (a0 : Bool) (a1 : Int) : laws_eqVal.f a0 a1 a0 a1 = some true := by
  simp [laws_eqVal.f]
theorem ev_eqValS (l : List S75) (hl : l.length ≤ 2000000000) : Ev (fun k => laws_eqValS.f k l l) true := by
  unfold laws_eqValS.f
  refine Ev_pos rfl ?_
  refine down (P := fun i => Ev (fun k => laws_eqValS.l0 k l l (i : Int)) true) l.length ?_ ?_ 0 (Nat.zero_le _)
  · refine Ev_succ ?_
    simp only [laws_eqValS.l0]
    exact Ev_neg (by omega) (Ev.now _)
  · intro i hi ih
    refine Ev_succ ?_
    simp only [laws_eqValS.l0]
    refine Ev_pos (by omega) (Ev_pos (by omega) (Ev_pos (by omega) (Ev_some (eqr_Val _ _) (Ev_pos rfl ?_))))
    rw [wr1 hi (by omega)]
    exact ih

def el_Val (a : Int) : S75 := ⟨(Int.tmod (a) 3 == 0), a + 1⟩
def mk_Val (n : Nat) (a : Int) : List S75 := (List.range n).map fun i : Nat => el_Val (a + 2 * (i : Int))

theorem ev_markValS (l : List S75) (a : Int) (h0 : 0 ≤ a) (hb : a + 2 * (l.length : Int) ≤ 1000000000000) : Ev (fun k => laws_markValS.f k l a) (a + 2 * (l.length : Int), mk_Val l.length a) := by
  unfold laws_markValS.f
  refine evMark (fun k xs a i => laws_markValS.l0 k xs a i) 2 (by omega) el_Val l a h0 hb (fun xs a hx => ?_) (fun xs i a r hi hx h0 hb ih => ?_)
  · refine Ev_succ ?_
    simp only [laws_markValS.l0]
    exact Ev_neg (by omega) (Ev.now _)
  · refine Ev_succ ?_
    simp only [laws_markValS.l0]
    refine Ev_pos (by omega) (Ev_pos (by omega) ?_)
    have e1 : wrap64 (a + 1) = a + 1 := wr (by omega) (by omega)
    have e2 : wrap64 (a + 1 + 1) = a + 2 := by rw [wr (by omega) (by omega)]; omega
    simp only [e1, e2, Option.bind_some, Int.toNat_natCast, List.set_set]
    rw [wr1 (n := l.length) (by omega) (by omega)]
    have hi' : i < xs.length := by omega
    simp only [rds75 hi', List.length_set, List.set_set] at ih ⊢
    first | exact ih | (simp only [rd75 hi'] at ih ⊢; exact ih)

def el_Cell (a : Int) : S93 := ⟨a, (⟨(Int.tmod (a + 1) 3 == 0), a + 2⟩ : S75)⟩
def mk_Cell (n : Nat) (a : Int) : List S93 := (List.range n).map fun i : Nat => el_Cell (a + 3 * (i : Int))

theorem ev_markCellS (l : List S93) (a : Int) (h0 : 0 ≤ a) (hb : a + 3 * (l.length : Int) ≤ 1000000000000) : Ev (fun k => laws_markCellS.f k l a) (a + 3 * (l.length : Int), mk_Cell l.length a) := by
  unfold laws_markCellS.f
  refine evMark (fun k xs a i => laws_markCellS.l0 k xs a i) 3 (by omega) el_Cell l a h0 hb (fun xs a hx => ?_) (fun xs i a r hi hx h0 hb ih => ?_)
  · refine Ev_succ ?_
    simp only [laws_markCellS.l0]
    exact Ev_neg (by omega) (Ev.now _)
  · refine Ev_succ ?_
    simp only [laws_markCellS.l0]
    refine Ev_pos (by omega) (Ev_pos (by omega) ?_)
    have e1 : wrap64 (a + 1) = a + 1 := wr (by omega) (by omega)
    have e2 : wrap64 (a + 1 + 1) = a + 2 := by rw [wr (by omega) (by omega)]; omega
    have e3 : wrap64 (a + 2 + 1) = a + 3 := by rw [wr (by omega) (by omega)]; omega
    simp only [e1, e2, e3, Option.bind_some, Int.toNat_natCast, List.set_set]
    rw [wr1 (n := l.length) (by omega) (by omega)]
    have hi' : i < xs.length := by omega
    simp only [rds93 hi', List.length_set, List.set_set] at ih ⊢
    first | exact ih | (simp only [rd93 hi'] at ih ⊢; exact ih)

theorem v_spec_l1In (a b c : Int) : spec_l1In.f a b c = some (decide (b ≤ a ∧ a ≤ c)) := by
  unfold spec_l1In.f
  by_cases h : a ≥ b
  · rw [if_pos h]
    simp [show b ≤ a from h]
  · rw [if_neg h]
    simp [show ¬ b ≤ a from h]

def setC (out : List S75) (c : S93) : List S75 := if 0 ≤ c.f0 ∧ c.f0 ≤ (out.length : Int) - 1 then out.set c.f0.toNat c.f1 else out
def patch (f : List S75) (cs : List S93) : List S75 := cs.foldl setC f
theorem setC_length (out : List S75) (c : S93) : (setC out c).length = out.length := by
  unfold setC; split <;> simp
theorem foldC_length (cs : List S93) (out : List S75) : (cs.foldl setC out).length = out.length := by
  induction cs generalizing out with
  | nil => rfl
  | cons c cs ih => rw [List.foldl_cons, ih, setC_length]
theorem patch_length (f : List S75) (cs : List S93) : (patch f cs).length = f.length := foldC_length cs f

theorem ev_spec_Patch (f : List S75) (cs : List S93) (hf : f.length ≤ 2000000000) (hc : cs.length ≤ 2000000000) : Ev (fun k => spec_Patch.f k f cs) (patch f cs) := by
  unfold spec_Patch.f patch
  simp only [Option.bind_some, List.nil_append, List.length_nil, Nat.zero_add]
  refine Ev_pos (by omega) ?_
  refine (down (P := fun i => ∀ out : List S75, out.length = f.length → Ev (fun k => spec_Patch.l0 k cs out (i : Int)) ((cs.drop i).foldl setC out)) cs.length ?_ ?_ 0 (Nat.zero_le _)) f rfl
  · intro out ho
    refine Ev_succ ?_
    simp only [spec_Patch.l0]
    refine Ev_neg (by omega) ?_
    rw [List.drop_length]
    exact Ev.now _
  · intro i hi ih out ho
    refine Ev_succ ?_
    simp only [spec_Patch.l0, v_spec_l1In, Option.bind_some]
    refine Ev_pos (by omega) (Ev_pos (by omega) ?_)
    rw [List.drop_eq_getElem_cons hi, rd93 hi, wr1 hi (by omega), List.foldl_cons, wr (x := (out.length : Int) - 1) (by omega) (by omega)]
    refine Ev_ite (fun h => ?_) (fun h => ?_)
    · have h' := of_decide_eq_true h
      refine Ev_pos (by omega) (Ev_pos (by omega) ?_)
      have e : setC out cs[i] = out.set cs[i].f0.toNat cs[i].f1 := by unfold setC; rw [if_pos h']
      rw [e]
      exact ih _ (by simpa using ho)
    · have h' : ¬ (0 ≤ cs[i].f0 ∧ cs[i].f0 ≤ (out.length : Int) - 1) := fun e => h (decide_eq_true e)
      have e : setC out cs[i] = out := by unfold setC; rw [if_neg h']
      rw [e]
      exact ih _ ho

theorem v_impl_within (a b c : Int) : impl_within.f a b c = some (decide (b ≤ a ∧ a ≤ c)) := by
  unfold impl_within.f
  by_cases h : a ≥ b
  · rw [if_pos h]
    simp [show b ≤ a from h]
  · rw [if_neg h]
    simp [show ¬ b ≤ a from h]

theorem v_impl_copyVals (l : List S75) (hl : l.length ≤ 2000000000) : impl_copyVals.f l = some l := by
  unfold impl_copyVals.f
  simp only [Option.bind_some, List.nil_append, List.length_nil, Nat.zero_add]
  rw [if_pos (by omega)]

theorem ev_impl_Patch (f : List S75) (cs : List S93) (hf : f.length ≤ 2000000000) (hc : cs.length ≤ 2000000000) : Ev (fun k => impl_Patch.f k f cs) (patch f cs) := by
  unfold impl_Patch.f patch
  refine Ev_some (v_impl_copyVals f hf) ?_
  refine (down (P := fun i => ∀ out : List S75, out.length = f.length → Ev (fun k => impl_Patch.l0 k out cs (cs.length : Int) (i : Int)) ((cs.drop i).foldl setC out)) cs.length ?_ ?_ 0 (Nat.zero_le _)) f rfl
  · intro out ho
    refine Ev_succ ?_
    simp only [impl_Patch.l0]
    refine Ev_neg (by omega) ?_
    rw [List.drop_length]
    exact Ev.now _
  · intro i hi ih out ho
    refine Ev_succ ?_
    simp only [impl_Patch.l0, v_impl_within, Option.bind_some]
    refine Ev_pos (by omega) (Ev_pos (by omega) (Ev_pos (by omega) ?_))
    rw [List.drop_eq_getElem_cons hi, rd93 hi, wr1 hi (by omega), List.foldl_cons, wr (x := (out.length : Int) - 1) (by omega) (by omega)]
    refine Ev_ite (fun h => ?_) (fun h => ?_)
    · have h' := of_decide_eq_true h
      refine Ev_pos (by omega) (Ev_pos (by omega) ?_)
      have e : setC out cs[i] = out.set cs[i].f0.toNat cs[i].f1 := by unfold setC; rw [if_pos h']
      rw [e]
      exact ih _ (by simpa using ho)
    · have h' : ¬ (0 ≤ cs[i].f0 ∧ cs[i].f0 ≤ (out.length : Int) - 1) := fun e => h (decide_eq_true e)
      have e : setC out cs[i] = out := by unfold setC; rw [if_neg h']
      rw [e]
      exact ih _ ho

theorem ev_heldValS (m : Nat) (a : Int) (h0 : 0 ≤ a) (hb : a + 2 * (m : Int) ≤ 1000000000000) : Ev (fun k => laws_heldValS.f k (mk_Val m a) a) (a + 2 * (m : Int)) := by
  unfold laws_heldValS.f
  have hl : (mk_Val m a).length = m := by simp [mk_Val]
  have key : ∀ i, i ≤ m → Ev (fun k => laws_heldValS.l0 k (mk_Val m a) (a + 2 * (i : Int)) (i : Int)) (a + 2 * (m : Int)) := by
    refine down (P := fun i => Ev (fun k => laws_heldValS.l0 k (mk_Val m a) (a + 2 * (i : Int)) (i : Int)) (a + 2 * (m : Int))) m ?_ ?_
    · refine Ev_succ ?_
      simp only [laws_heldValS.l0]
      exact Ev_neg (by omega) (Ev.now _)
    · intro i hi ih
      have hi' : i < (mk_Val m a).length := by omega
      have hr : rd_T75 (mk_Val m a) (i : Int) = el_Val (a + 2 * (i : Int)) := by
        rw [rd75 hi']
        simp [mk_Val]
      refine Ev_succ ?_
      simp only [laws_heldValS.l0]
      refine Ev_pos (by omega) (Ev_pos (by omega) ?_)
      have e1 : wrap64 (a + 2 * (i : Int) + 1) = a + 2 * (i : Int) + 1 := wr (by omega) (by omega)
      have e2 : wrap64 (a + 2 * (i : Int) + 1 + 1) = a + 2 * (i : Int) + 2 := by rw [wr (by omega) (by omega)]; omega
      rw [hr]
      simp only [e1, e2, el_Val, bne_self_eq_false, if_true, if_false, Bool.false_eq_true]
      rw [wr1 (n := m) hi (by omega)]
      have e : a + 2 * ((i + 1 : Nat) : Int) = a + 2 * (i : Int) + 2 := by omega
      rw [e] at ih
      exact ih
  have := key 0 (Nat.zero_le _)
  simpa using this

theorem pure_law : laws_FnExactPatch.Pure := by
  intro l0 l1 hm hg hm1 hg1
  refine Ev.rounds (g := fun k => laws_FnExactPatch.f k l0 l1) ?_
  unfold laws_FnExactPatch.f
  by_cases h0 : (l0.length : Int) ≤ 1048576
  · rw [sz_ok_Val l0 _ (by omega) (by omega) h0]
    simp only [Option.bind_some]
    refine Ev_neg (by omega) ?_
    by_cases h1 : (l1.length : Int) ≤ 1048576 - l0.length
    · rw [sz_ok_Cell l1 _ (by omega) (by omega) h1]
      simp only [Option.bind_some]
      have hn : (l0.map cv_Val).length ≤ 1048576 := by rw [List.length_map]; omega
      have hn1 : (l1.map cv_Cell).length ≤ 1048576 := by rw [List.length_map]; omega
      have hr := patch_length (l0.map cv_Val) (l1.map cv_Cell)
      have t0 := ev_toValS l0 (by omega)
      have t1 := ev_toCellS l1 (by omega)
      have m0 := ev_impl_Patch (l0.map cv_Val) (l1.map cv_Cell) (by omega) (by omega)
      refine Ev_neg (by omega) ?_
      refine Ev.bind t0 ?_
      refine Ev.bind t1 ?_
      refine Ev.bind (ev_spec_Patch _ _ (by omega) (by omega)) ?_
      refine Ev.bind t0 ?_
      refine Ev.bind t1 ?_
      refine Ev.bind m0 ?_
      refine Ev.bind (ev_eqValS _ (by omega)) ?_
      refine Ev_pos (by simp) ?_
      refine Ev.bind t0 ?_
      refine Ev.bind (ev_eqValS _ (by omega)) ?_
      refine Ev_pos (by simp) ?_
      refine Ev.bind t1 ?_
      refine Ev.bind (ev_eqCellS _ (by omega)) ?_
      refine Ev_pos (by simp) ?_
      refine Ev.bind (ev_markValS _ 1 (by omega) (by omega)) ?_
      refine Ev.bind (ev_markCellS _ _ (by simp only; omega) (by simp only; omega)) ?_
      refine Ev_neg (by simp only; omega) ?_
      refine Ev.bind (ev_eqValS _ (by omega)) ?_
      refine Ev_succ ?_
      simp only [laws_FnExactPatch.j0]
      refine Ev_neg (by simp) ?_
      refine Ev.bind (ev_markValS _ 1 (by omega) (by omega)) ?_
      refine Ev.bind (ev_heldValS _ 1 (by omega) (by omega)) ?_
      refine Ev_neg (by omega) ?_
      refine Ev_pos (by simp) ?_
      refine Ev.bind t0 ?_
      refine Ev.bind t1 ?_
      refine Ev.bind m0 ?_
      refine Ev.bind (ev_eqValS _ (by omega)) ?_
      refine Ev_pos (by simp) ?_
      refine Ev.bind (ev_heldValS _ 1 (by omega) (by omega)) ?_
      refine Ev_neg (by omega) ?_
      exact Ev_pos (by simp) (Ev.now _)
    · rw [sz_big_Cell l1 _ (by omega) (by omega) hm1 h1]
      simp only [Option.bind_some]
      exact Ev_pos (by omega) (Ev.now _)
  · rw [sz_big_Val l0 _ (by omega) (by omega) hm h0]
    simp only [Option.bind_some]
    exact Ev_pos (by omega) (Ev.now _)

end Go.Proofs.Ytcalkgcnciobpaa.PFnExactPatch
namespace Go.Proofs.Ytcalkgcnciobpaa.PureOf
theorem FnExactPatch : Go.Proofs.Ytcalkgcnciobpaa.PFnExactPatch.laws_FnExactPatch.Pure := Go.Proofs.Ytcalkgcnciobpaa.PFnExactPatch.pure_law
end Go.Proofs.Ytcalkgcnciobpaa.PureOf
