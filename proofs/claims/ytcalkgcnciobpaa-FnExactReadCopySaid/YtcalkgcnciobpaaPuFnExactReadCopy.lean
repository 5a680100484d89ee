/- What is left of the law FnExactReadCopy: over lists and numbers alone. No condition beyond the statement's own. -/
import Derived.Test.YtcalkgcnciobpaaKnFnExactReadCopy
import Derived.Test.YtcalkgcnciobpaaV
namespace Go.Proofs.Ytcalkgcnciobpaa.PFnExactReadCopy
open Go.RowKit Go.Proofs.YtcalkgcnciobpaaW.PrintWords Go.Proofs.YtcalkgcnciobpaaW.PrintLast Go.Proofs.YtcalkgcnciobpaaW.PrintMore Go.Proofs.YtcalkgcnciobpaaV
set_option linter.unusedVariables false
set_option linter.unusedSimpArgs false
theorem rd95 {l : List S95} {i : Nat} (h : i < l.length) : rd_T95 l (i : Int) = l[i] := by
  unfold rd_T95
  simp [List.getD, List.getElem?_eq_getElem h]
theorem rds95 {l : List S95} {i : Nat} (h : i < l.length) (v : S95) : rd_T95 (l.set i v) (i : Int) = v := by
  unfold rd_T95
  simp [List.getD, h]

theorem rd116 {l : List S116} {i : Nat} (h : i < l.length) : rd_T116 l (i : Int) = l[i] := by
  unfold rd_T116
  simp [List.getD, List.getElem?_eq_getElem h]
theorem rds116 {l : List S116} {i : Nat} (h : i < l.length) (v : S116) : rd_T116 (l.set i v) (i : Int) = v := by
  unfold rd_T116
  simp [List.getD, h]

theorem rd75 {l : List S75} {i : Nat} (h : i < l.length) : rd_T75 l (i : Int) = l[i] := by
  unfold rd_T75
  simp [List.getD, List.getElem?_eq_getElem h]
theorem rds75 {l : List S75} {i : Nat} (h : i < l.length) (v : S75) : rd_T75 (l.set i v) (i : Int) = v := by
  unfold rd_T75
  simp [List.getD, h]

theorem rd119 {l : List S119} {i : Nat} (h : i < l.length) : rd_T119 l (i : Int) = l[i] := by
  unfold rd_T119
  simp [List.getD, List.getElem?_eq_getElem h]
theorem rds119 {l : List S119} {i : Nat} (h : i < l.length) (v : S119) : rd_T119 (l.set i v) (i : Int) = v := by
  unfold rd_T119
  simp [List.getD, h]

theorem sz_ok_Val (l : List S95) (a : Int) (ha : 0 ≤ a) (hb : a ≤ 1048576) (hl : (l.length : Int) ≤ a) : laws_szValS.f l a = some (a - l.length) := by
  unfold laws_szValS.f
  rw [wr (by omega) (by omega), if_neg (by omega)]
theorem sz_big_Val (l : List S95) (a : Int) (ha : 0 ≤ a) (hb : a ≤ 1048576) (hm : l.length ≤ maxLen) (hl : ¬ (l.length : Int) ≤ a) : laws_szValS.f l a = some (-1) := by
  unfold maxLen at hm
  unfold laws_szValS.f
  rw [wr (by omega) (by omega), if_pos (by omega)]

def cv_Val (x : S95) : S75 := ⟨x.f0, x.f1⟩

def cv_Copy (x : S116) : S119 := ⟨x.f0, x.f1, x.f2, x.f3, x.f4.map cv_Val, x.f5.map cv_Val⟩
def B_Copy (x : S116) : Prop := x.f4.length ≤ 1048576 ∧ x.f5.length ≤ 1048576
def BI_Copy (x : S119) : Prop := x.f4.length ≤ 2000000000 ∧ x.f5.length ≤ 2000000000

theorem bi_Copy {l : List S116} (hB : ∀ y ∈ l, B_Copy y) : ∀ y ∈ l.map cv_Copy, BI_Copy y := by
  intro y hy
  obtain ⟨z, hz, rfl⟩ := List.mem_map.1 hy
  have h := hB z hz
  unfold B_Copy at h
  unfold BI_Copy cv_Copy
  simp only [List.length_map]
  omega

theorem sz_Copy (y : S116) (a : Int) (ha : 0 ≤ a) (hb : a ≤ 1048576) (m0 : y.f4.length ≤ maxLen) (m1 : y.f5.length ≤ maxLen) : ∃ r, laws_szCopy.f y.f0 y.f1 y.f2 y.f3 y.f4 y.f5 a = some r ∧ (r = -1 ∨ (0 ≤ r ∧ r ≤ a ∧ B_Copy y)) := by
  unfold laws_szCopy.f
  by_cases h0 : (y.f4.length : Int) ≤ a
  · rw [sz_ok_Val _ _ (by omega) (by omega) h0]
    simp only [Option.bind_some]
    rw [if_neg (by omega)]
    by_cases h1 : (y.f5.length : Int) ≤ a - y.f4.length
    · rw [sz_ok_Val _ _ (by omega) (by omega) h1]
      simp only [Option.bind_some]
      rw [if_neg (by omega)]
      exact ⟨_, rfl, .inr ⟨by omega, by omega, by omega, by omega⟩⟩
    · rw [sz_big_Val _ _ (by omega) (by omega) m1 h1]
      simp only [Option.bind_some]
      rw [if_pos (by omega)]
      exact ⟨_, rfl, .inl rfl⟩
  · rw [sz_big_Val _ _ (by omega) (by omega) m0 h0]
    simp only [Option.bind_some]
    rw [if_pos (by omega)]
    exact ⟨_, rfl, .inl rfl⟩
theorem sz_CopyS (l : List S116) (a : Int) (ha : 0 ≤ a) (hb : a ≤ 1048576) (hm : l.length ≤ maxLen) (hg : ∀ y ∈ l, G116 y) : ∃ r, Ev (fun k => laws_szCopyS.f k l a) r ∧ (r = -1 ∨ (0 ≤ r ∧ r ≤ a ∧ l.length ≤ 1048576 ∧ ∀ y ∈ l, B_Copy y)) := by
  unfold maxLen at hm
  unfold laws_szCopyS.f
  rw [wr (x := a - (l.length : Int)) (by omega) (by omega)]
  by_cases c : (l.length : Int) ≤ a
  · have key : ∀ i, i ≤ l.length → ∀ b : Int, 0 ≤ b → b ≤ a → ∃ r, Ev (fun k => laws_szCopyS.l0 k l b (i : Int)) r ∧ (r = -1 ∨ (0 ≤ r ∧ r ≤ b ∧ ∀ y ∈ l.drop i, B_Copy y)) := by
      refine down (P := fun i => ∀ b : Int, 0 ≤ b → b ≤ a → ∃ r, Ev (fun k => laws_szCopyS.l0 k l b (i : Int)) r ∧ (r = -1 ∨ (0 ≤ r ∧ r ≤ b ∧ ∀ y ∈ l.drop i, B_Copy y))) l.length ?_ ?_
      · intro b h0 h1
        refine ⟨b, ?_, .inr ⟨h0, Int.le_refl _, by simp⟩⟩
        refine Ev_succ ?_
        simp only [laws_szCopyS.l0]
        exact Ev_neg (by omega) (Ev.now _)
      · intro i hi ih b h0 h1
        have hgi := hg _ (List.getElem_mem hi)
        unfold G116 at hgi
        obtain ⟨r, hr, hc⟩ := sz_Copy l[i] b h0 (by omega) (by have := hgi; simp_all) (by have := hgi; simp_all)
        rcases hc with rfl | ⟨c0, c1, hB⟩
        · refine ⟨-1, ?_, .inl rfl⟩
          refine Ev_succ ?_
          simp only [laws_szCopyS.l0]
          refine Ev_pos (by omega) (Ev_pos (by omega) ?_)
          rw [rd116 hi]
          exact Ev_some hr (Ev_pos (by omega) (Ev.now _))
        · obtain ⟨r', hr', hc'⟩ := ih r c0 (by omega)
          refine ⟨r', ?_, ?_⟩
          · refine Ev_succ ?_
            simp only [laws_szCopyS.l0]
            refine Ev_pos (by omega) (Ev_pos (by omega) ?_)
            rw [rd116 hi, wr1 hi (by omega)]
            exact Ev_some hr (Ev_neg (by omega) hr')
          · rcases hc' with h | ⟨d0, d1, d2⟩
            · exact .inl h
            · refine .inr ⟨d0, by omega, fun y hy => ?_⟩
              rw [List.drop_eq_getElem_cons hi] at hy
              rcases List.mem_cons.1 hy with rfl | hy
              · exact hB
              · exact d2 y hy
    obtain ⟨r, hr, hc⟩ := key 0 (Nat.zero_le _) (a - l.length) (by omega) (by omega)
    refine ⟨r, Ev_neg (by omega) hr, ?_⟩
    rcases hc with h | ⟨d0, d1, d2⟩
    · exact .inl h
    · exact .inr ⟨d0, by omega, by omega, by simpa using d2⟩
  · exact ⟨-1, Ev_pos (by omega) (Ev.now _), .inl rfl⟩

theorem v_spec_l1In (a b c : Int) : spec_l1In.f a b c = some (decide (b ≤ a ∧ a ≤ c)) := by
  unfold spec_l1In.f
  by_cases h : a ≥ b
  · rw [if_pos h]
    simp [show b ≤ a from h]
  · rw [if_neg h]
    simp [show ¬ b ≤ a from h]

def copyAtGo (i : Nat) (l : List S119) (id : Int) : Int := match l with
  | [] => -1
  | x :: xs => if x.f0 = id then (i : Int) else copyAtGo (i + 1) xs id
def copyAt (l : List S119) (id : Int) : Int := copyAtGo 0 l id
theorem copyAtGo_range (i : Nat) (l : List S119) (id : Int) : copyAtGo i l id = -1 ∨ ((i : Int) ≤ copyAtGo i l id ∧ copyAtGo i l id < (i : Int) + l.length) := by
  induction l generalizing i with
  | nil => exact .inl rfl
  | cons x xs ih =>
    unfold copyAtGo
    split
    · right; simp; omega
    · rcases ih (i + 1) with h | ⟨h1, h2⟩
      · exact .inl h
      · right; simp; omega
theorem copyAt_range (l : List S119) (id : Int) : copyAt l id = -1 ∨ (0 ≤ copyAt l id ∧ copyAt l id < l.length) := by
  have := copyAtGo_range 0 l id
  unfold copyAt
  omega

theorem ev_spec_l20At (l : List S119) (id : Int) (hl : l.length ≤ 2000000000) : Ev (fun k => spec_l20At.f k l id) (copyAt l id) := by
  unfold spec_l20At.f
  refine down (P := fun i => Ev (fun k => spec_l20At.l0 k l id (i : Int)) (copyAtGo i (l.drop i) id)) l.length ?_ ?_ 0 (Nat.zero_le _)
  · refine Ev_succ ?_
    simp only [spec_l20At.l0]
    rw [List.drop_length]
    exact Ev_neg (by omega) (Ev.now _)
  · intro i hi ih
    refine Ev_succ ?_
    simp only [spec_l20At.l0]
    rw [List.drop_eq_getElem_cons hi, rd119 hi, wr1 hi (by omega)]
    unfold copyAtGo
    refine Ev_pos (by omega) (Ev_pos (by omega) ?_)
    by_cases h : l[i].f0 = id
    · rw [if_pos h]; exact Ev_pos h (Ev.now _)
    · rw [if_neg h]; exact Ev_neg h ih

def readCopy (l : List S119) (id : Int) (a : Int) : Bool × Int × Bool :=
  if copyAt l id < 0 then (false, 0, false) else
  let c := rd_T119 l (copyAt l id)
  if c.f3 = true ∧ 0 ≤ a ∧ a ≤ (c.f4.length : Int) - 1 then ((rd_T75 c.f4 a).f0, (rd_T75 c.f4 a).f1, true) else (false, 0, false)

theorem ev_spec_ReadCopy (l : List S119) (id a : Int) (hl : l.length ≤ 2000000000) (hB : ∀ y ∈ l, BI_Copy y) : Ev (fun k => spec_ReadCopy.f k l id a) (readCopy l id a) := by
  unfold spec_ReadCopy.f
  have hr := copyAt_range l id
  refine Ev.bind (ev_spec_l20At l id hl) ?_
  by_cases c : copyAt l id < 0
  · rw [show readCopy l id a = (false, 0, false) from by unfold readCopy; rw [if_pos c]]
    exact Ev_pos c (Ev.now _)
  · have e : readCopy l id a = (let c := rd_T119 l (copyAt l id); if c.f3 = true ∧ 0 ≤ a ∧ a ≤ (c.f4.length : Int) - 1 then ((rd_T75 c.f4 a).f0, (rd_T75 c.f4 a).f1, true) else (false, 0, false)) := by
      unfold readCopy; rw [if_neg c]
    rw [e]
    clear e
    obtain ⟨n, hn⟩ : ∃ n : Nat, copyAt l id = (n : Int) := ⟨(copyAt l id).toNat, by omega⟩
    rw [hn] at hr c ⊢
    have hnl : n < l.length := by omega
    have hb := hB _ (List.getElem_mem hnl)
    unfold BI_Copy at hb
    refine Ev_neg (by omega) (Ev_pos (by omega) (Ev_pos (by omega) ?_))
    rw [rd119 hnl, wr (x := (l[n].f4.length : Int) - 1) (by omega) (by omega)]
    dsimp only
    simp only [v_spec_l1In, Option.bind_some]
    refine Ev_ite (fun h3 => ?_) (fun h3 => ?_)
    · refine Ev_ite (fun h4 => ?_) (fun h4 => ?_)
      · have h4 := of_decide_eq_true h4
        rw [if_pos (show l[n].f3 = true ∧ 0 ≤ a ∧ a ≤ (l[n].f4.length : Int) - 1 from ⟨h3, h4⟩)]
        exact Ev_pos (by omega) (Ev_pos (by omega) (Ev.now _))
      · rw [if_neg (show ¬ (l[n].f3 = true ∧ 0 ≤ a ∧ a ≤ (l[n].f4.length : Int) - 1) from fun e => h4 (decide_eq_true e.2))]
        exact Ev.now _
    · rw [if_neg (show ¬ (l[n].f3 = true ∧ 0 ≤ a ∧ a ≤ (l[n].f4.length : Int) - 1) from fun e => h3 e.1)]
      exact Ev.now _

theorem ev_toValS (l : List S95) (hl : l.length ≤ 1048576) : Ev (fun k => laws_toValS.f k l) (l.map cv_Val) := by
  unfold laws_toValS.f
  refine Ev_pos (by omega) ?_
  rw [Int.toNat_natCast]
  refine Ev_pos (by omega) ?_
  refine evFill (fun k xs i => laws_toValS.l0 k l xs i) l cv_Val z75 (fun xs hx => ?_) (fun xs i hi r hx ih => ?_)
  · refine Ev_succ ?_
    simp only [laws_toValS.l0]
    exact Ev_neg (by omega) (Ev.now _)
  · refine Ev_succ ?_
    simp only [laws_toValS.l0]
    refine Ev_pos (by omega) (Ev_pos (by omega) (Ev_some rfl (Ev_pos (by omega) ?_)))
    rw [wr1 hi (by omega), rd95 hi, Int.toNat_natCast]
    exact ih

theorem ev_toCopy (y : S116) (hB : B_Copy y) : Ev (fun k => laws_toCopy.f k y.f0 y.f1 y.f2 y.f3 y.f4 y.f5) (y.f0, y.f1, y.f2, y.f3, y.f4.map cv_Val, y.f5.map cv_Val) := by
  unfold laws_toCopy.f
  exact Ev.bind (ev_toValS _ hB.1) (Ev.bind (ev_toValS _ hB.2) (Ev.now _))
theorem ev_toCopyS (l : List S116) (hl : l.length ≤ 1048576) (hB : ∀ y ∈ l, B_Copy y) : Ev (fun k => laws_toCopyS.f k l) (l.map cv_Copy) := by
  unfold laws_toCopyS.f
  refine Ev_pos (by omega) ?_
  rw [Int.toNat_natCast]
  refine Ev_pos (by omega) ?_
  refine evFill (fun k xs i => laws_toCopyS.l0 k l xs i) l cv_Copy z119 (fun xs hx => ?_) (fun xs i hi r hx ih => ?_)
  · refine Ev_succ ?_
    simp only [laws_toCopyS.l0]
    exact Ev_neg (by omega) (Ev.now _)
  · refine Ev_succ ?_
    simp only [laws_toCopyS.l0]
    refine Ev_pos (by omega) (Ev_pos (by omega) ?_)
    rw [rd116 hi]
    refine Ev.bind (ev_toCopy l[i] (hB _ (List.getElem_mem hi))) (Ev_pos (by omega) ?_)
    rw [wr1 hi (by omega), Int.toNat_natCast]
    exact ih

theorem v_impl_within (a b c : Int) : impl_within.f a b c = some (decide (b ≤ a ∧ a ≤ c)) := by
  unfold impl_within.f
  by_cases h : a ≥ b
  · rw [if_pos h]
    simp [show b ≤ a from h]
  · rw [if_neg h]
    simp [show ¬ b ≤ a from h]

theorem ev_impl_copyAt (l : List S119) (id : Int) (hl : l.length ≤ 2000000000) : Ev (fun k => impl_copyAt.f k l id) (copyAt l id) := by
  unfold impl_copyAt.f
  refine down (P := fun i => Ev (fun k => impl_copyAt.l0 k id l (l.length : Int) (i : Int)) (copyAtGo i (l.drop i) id)) l.length ?_ ?_ 0 (Nat.zero_le _)
  · refine Ev_succ ?_
    simp only [impl_copyAt.l0]
    rw [List.drop_length]
    exact Ev_neg (by omega) (Ev.now _)
  · intro i hi ih
    refine Ev_succ ?_
    simp only [impl_copyAt.l0]
    rw [List.drop_eq_getElem_cons hi, rd119 hi, wr1 hi (by omega)]
    unfold copyAtGo
    refine Ev_pos (by omega) (Ev_pos (by omega) (Ev_pos (by omega) ?_))
    by_cases h : l[i].f0 = id
    · rw [if_pos h]; exact Ev_pos h (Ev.now _)
    · rw [if_neg h]; exact Ev_neg h ih

theorem ev_impl_ReadCopy (l : List S119) (id a : Int) (hl : l.length ≤ 2000000000) (hB : ∀ y ∈ l, BI_Copy y) : Ev (fun k => impl_ReadCopy.f k l id a) (readCopy l id a) := by
  unfold impl_ReadCopy.f
  have hr := copyAt_range l id
  refine Ev.bind (ev_impl_copyAt l id hl) ?_
  by_cases c : copyAt l id < 0
  · rw [show readCopy l id a = (false, 0, false) from by unfold readCopy; rw [if_pos c]]
    exact Ev_pos c (Ev.now _)
  · have e : readCopy l id a = (let c := rd_T119 l (copyAt l id); if c.f3 = true ∧ 0 ≤ a ∧ a ≤ (c.f4.length : Int) - 1 then ((rd_T75 c.f4 a).f0, (rd_T75 c.f4 a).f1, true) else (false, 0, false)) := by
      unfold readCopy; rw [if_neg c]
    rw [e]
    clear e
    obtain ⟨n, hn⟩ : ∃ n : Nat, copyAt l id = (n : Int) := ⟨(copyAt l id).toNat, by omega⟩
    rw [hn] at hr c ⊢
    have hnl : n < l.length := by omega
    have hb := hB _ (List.getElem_mem hnl)
    unfold BI_Copy at hb
    refine Ev_neg (by omega) (Ev_pos (by omega) (Ev_pos (by omega) ?_))
    rw [rd119 hnl, wr (x := (l[n].f4.length : Int) - 1) (by omega) (by omega)]
    dsimp only
    simp only [v_impl_within, Option.bind_some]
    refine Ev_ite (fun h3 => ?_) (fun h3 => ?_)
    · refine Ev_ite (fun h4 => ?_) (fun h4 => ?_)
      · have h4 := of_decide_eq_true h4
        rw [if_pos (show l[n].f3 = true ∧ 0 ≤ a ∧ a ≤ (l[n].f4.length : Int) - 1 from ⟨h3, h4⟩)]
        exact Ev_pos (by omega) (Ev_pos (by omega) (Ev.now _))
      · rw [if_neg (show ¬ (l[n].f3 = true ∧ 0 ≤ a ∧ a ≤ (l[n].f4.length : Int) - 1) from fun e => h4 (decide_eq_true e.2))]
        exact Ev.now _
    · rw [if_neg (show ¬ (l[n].f3 = true ∧ 0 ≤ a ∧ a ≤ (l[n].f4.length : Int) - 1) from fun e => h3 e.1)]
      exact Ev.now _

theorem eqr_Val (a0 : Bool) (a1 : Int) : laws_eqVal.f a0 a1 a0 a1 = some true := by
  simp [laws_eqVal.f]
theorem ev_eqValS (l : List S75) (hl : l.length ≤ 2000000000) : Ev (fun k => laws_eqValS.f k l l) true := by
  unfold laws_eqValS.f
  refine Ev_pos rfl ?_
  refine down (P := fun i => Ev (fun k => laws_eqValS.l0 k l l (i : Int)) true) l.length ?_ ?_ 0 (Nat.zero_le _)
  · refine Ev_succ ?_
    simp only [laws_eqValS.l0]
    exact Ev_neg (by omega) (Ev.now _)
  · intro i hi ih
    refine Ev_succ ?_
    simp only [laws_eqValS.l0]
    refine Ev_pos (by omega) (Ev_pos (by omega) (Ev_pos (by omega) (Ev_some (eqr_Val _ _) (Ev_pos rfl ?_))))
    rw [wr1 hi (by omega)]
    exact ih

theorem ev_eqCopy (y : S119) (hB : BI_Copy y) : Ev (fun k => laws_eqCopy.f k y.f0 y.f1 y.f2 y.f3 y.f4 y.f5 y.f0 y.f1 y.f2 y.f3 y.f4 y.f5) true := by
  unfold laws_eqCopy.f
  refine Ev_pos rfl ?_
  refine Ev_pos rfl ?_
  refine Ev_pos rfl ?_
  refine Ev_neg (by simp) ?_
  refine Ev.bind (ev_eqValS _ hB.1) (Ev_pos rfl ?_)
  refine Ev.bind (ev_eqValS _ hB.2) (Ev_pos rfl ?_)
  exact Ev.now _
theorem ev_eqCopyS (l : List S119) (hl : l.length ≤ 2000000000) (hB : ∀ y ∈ l, BI_Copy y) : Ev (fun k => laws_eqCopyS.f k l l) true := by
  unfold laws_eqCopyS.f
  refine Ev_pos rfl ?_
  refine down (P := fun i => Ev (fun k => laws_eqCopyS.l0 k l l (i : Int)) true) l.length ?_ ?_ 0 (Nat.zero_le _)
  · refine Ev_succ ?_
    simp only [laws_eqCopyS.l0]
    exact Ev_neg (by omega) (Ev.now _)
  · intro i hi ih
    refine Ev_succ ?_
    simp only [laws_eqCopyS.l0]
    refine Ev_pos (by omega) (Ev_pos (by omega) (Ev_pos (by omega) ?_))
    rw [rd119 hi, wr1 hi (by omega)]
    exact Ev.bind (ev_eqCopy l[i] (hB _ (List.getElem_mem hi))) (Ev_pos rfl ih)

theorem pure_law : laws_FnExactReadCopy.Pure := by
  intro l0 id a hm hg _ _
  refine Ev.rounds (g := fun k => laws_FnExactReadCopy.f k l0 id a) ?_
  unfold laws_FnExactReadCopy.f
  obtain ⟨r, hr, hc⟩ := sz_CopyS l0 1048576 (by omega) (by omega) hm hg
  refine Ev.bind hr ?_
  rcases hc with rfl | ⟨c0, c1, hl, hB⟩
  · exact Ev_pos (by omega) (Ev.now _)
  · have t0 := ev_toCopyS l0 hl hB
    have hn : (l0.map cv_Copy).length ≤ 2000000000 := by rw [List.length_map]; omega
    have hb := bi_Copy hB
    refine Ev_neg (by omega) ?_
    refine Ev.bind t0 ?_
    refine Ev.bind (ev_spec_ReadCopy _ _ _ hn hb) ?_
    refine Ev.bind t0 ?_
    refine Ev.bind (ev_impl_ReadCopy _ _ _ hn hb) ?_
    refine Ev_some (eqr_Val _ _) ?_
    refine Ev_pos rfl (Ev_succ ?_)
    simp only [laws_FnExactReadCopy.j0]
    refine Ev_neg (by simp) ?_
    refine Ev.bind t0 ?_
    refine Ev.bind (ev_eqCopyS _ hn hb) ?_
    exact Ev_pos (by simp) (Ev.now _)

end Go.Proofs.Ytcalkgcnciobpaa.PFnExactReadCopy
namespace Go.Proofs.Ytcalkgcnciobpaa.PureOf
theorem FnExactReadCopy : Go.Proofs.Ytcalkgcnciobpaa.PFnExactReadCopy.laws_FnExactReadCopy.Pure := Go.Proofs.Ytcalkgcnciobpaa.PFnExactReadCopy.pure_law
end Go.Proofs.Ytcalkgcnciobpaa.PureOf
