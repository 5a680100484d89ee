/- What is left of the law FnExactDirtyOf: over lists and numbers alone. No condition beyond the statement's own. -/
import Derived.Test.YtdmhdfdlljafbaaKnFnExactDirtyOf
import Derived.Test.YtdmhdfdlljafbaaVFnExactDirtyOf
namespace Go.Proofs.Ytdmhdfdlljafbaa.PFnExactDirtyOf
open Go.RowKit Go.Proofs.YtdmhdfdlljafbaaW.PrintWords Go.Proofs.YtdmhdfdlljafbaaW.PrintLast Go.Proofs.YtdmhdfdlljafbaaW.PrintMore Go.Proofs.YtdmhdfdlljafbaaV
set_option linter.unusedVariables false
set_option linter.unusedSimpArgs false
theorem rd160 {l : List S160} {i : Nat} (h : i < l.length) : rd_T160 l (i : Int) = l[i] := by
  unfold rd_T160
  simp [List.getD, List.getElem?_eq_getElem h]
theorem rds160 {l : List S160} {i : Nat} (h : i < l.length) (v : S160) : rd_T160 (l.set i v) (i : Int) = v := by
  unfold rd_T160
  simp [List.getD, h]

theorem rd145 {l : List S145} {i : Nat} (h : i < l.length) : rd_T145 l (i : Int) = l[i] := by
  unfold rd_T145
  simp [List.getD, List.getElem?_eq_getElem h]
theorem rds145 {l : List S145} {i : Nat} (h : i < l.length) (v : S145) : rd_T145 (l.set i v) (i : Int) = v := by
  unfold rd_T145
  simp [List.getD, h]

theorem rd132 {l : List S132} {i : Nat} (h : i < l.length) : rd_T132 l (i : Int) = l[i] := by
  unfold rd_T132
  simp [List.getD, List.getElem?_eq_getElem h]
theorem rds132 {l : List S132} {i : Nat} (h : i < l.length) (v : S132) : rd_T132 (l.set i v) (i : Int) = v := by
  unfold rd_T132
  simp [List.getD, h]

theorem rd96 {l : List S96} {i : Nat} (h : i < l.length) : rd_T96 l (i : Int) = l[i] := by
  unfold rd_T96
  simp [List.getD, List.getElem?_eq_getElem h]
theorem rds96 {l : List S96} {i : Nat} (h : i < l.length) (v : S96) : rd_T96 (l.set i v) (i : Int) = v := by
  unfold rd_T96
  simp [List.getD, h]

theorem sz_ok_Val (l : List S160) (a : Int) (ha : 0 ≤ a) (hb : a ≤ 1048576) (hl : (l.length : Int) ≤ a) : laws_szValS.f l a = some (a - l.length) := by
  unfold laws_szValS.f
  rw [wr (by omega) (by omega), if_neg (by omega)]
theorem sz_big_Val (l : List S160) (a : Int) (ha : 0 ≤ a) (hb : a ≤ 1048576) (hm : l.length ≤ maxLen) (hl : ¬ (l.length : Int) ≤ a) : laws_szValS.f l a = some (-1) := by
  unfold maxLen at hm
  unfold laws_szValS.f
  rw [wr (by omega) (by omega), if_pos (by omega)]

def cv_Val (x : S160) : S132 := ⟨x.f0, x.f1⟩

def cv_Copy (x : S145) : S96 := ⟨x.f0, x.f1, x.f2, x.f3, x.f4.map cv_Val, x.f5.map cv_Val⟩
def B_Copy (x : S145) : Prop := x.f4.length ≤ 1048576 ∧ x.f5.length ≤ 1048576
def BI_Copy (x : S96) : Prop := x.f4.length ≤ 2000000000 ∧ x.f5.length ≤ 2000000000

theorem bi_Copy {l : List S145} (hB : ∀ y ∈ l, B_Copy y) : ∀ y ∈ l.map cv_Copy, BI_Copy y := by
  intro y hy
  obtain ⟨z, hz, rfl⟩ := List.mem_map.1 hy
  have h := hB z hz
  unfold B_Copy at h
  unfold BI_Copy cv_Copy
  simp only [List.length_map]
  omega

theorem sz_Copy (y : S145) (a : Int) (ha : 0 ≤ a) (hb : a ≤ 1048576) (m0 : y.f4.length ≤ maxLen) (m1 : y.f5.length ≤ maxLen) : ∃ r, laws_szCopy.f y.f0 y.f1 y.f2 y.f3 y.f4 y.f5 a = some r ∧ (r = -1 ∨ (0 ≤ r ∧ r ≤ a ∧ B_Copy y)) := by
  unfold laws_szCopy.f
  by_cases h0 : (y.f4.length : Int) ≤ a
  · rw [sz_ok_Val _ _ (by omega) (by omega) h0]
    simp only [Option.bind_some]
    rw [if_neg (by omega)]
    by_cases h1 : (y.f5.length : Int) ≤ a - y.f4.length
    · rw [sz_ok_Val _ _ (by omega) (by omega) h1]
      simp only [Option.bind_some]
      rw [if_neg (by omega)]
      exact ⟨_, rfl, .inr ⟨by omega, by omega, by omega, by omega⟩⟩
    · rw [sz_big_Val _ _ (by omega) (by omega) m1 h1]
      simp only [Option.bind_some]
      rw [if_pos (by omega)]
      exact ⟨_, rfl, .inl rfl⟩
  · rw [sz_big_Val _ _ (by omega) (by omega) m0 h0]
    simp only [Option.bind_some]
    rw [if_pos (by omega)]
    exact ⟨_, rfl, .inl rfl⟩
theorem sz_CopyS (l : List S145) (a : Int) (ha : 0 ≤ a) (hb : a ≤ 1048576) (hm : l.length ≤ maxLen) (hg : ∀ y ∈ l, G145 y) : ∃ r, Ev (fun k => laws_szCopyS.f k l a) r ∧ (r = -1 ∨ (0 ≤ r ∧ r ≤ a ∧ l.length ≤ 1048576 ∧ ∀ y ∈ l, B_Copy y)) := by
  unfold maxLen at hm
  unfold laws_szCopyS.f
  rw [wr (x := a - (l.length : Int)) (by omega) (by omega)]
  by_cases c : (l.length : Int) ≤ a
  · have key : ∀ i, i ≤ l.length → ∀ b : Int, 0 ≤ b → b ≤ a → ∃ r, Ev (fun k => laws_szCopyS.l0 k l b (i : Int)) r ∧ (r = -1 ∨ (0 ≤ r ∧ r ≤ b ∧ ∀ y ∈ l.drop i, B_Copy y)) := by
      refine down (P := fun i => ∀ b : Int, 0 ≤ b → b ≤ a → ∃ r, Ev (fun k => laws_szCopyS.l0 k l b (i : Int)) r ∧ (r = -1 ∨ (0 ≤ r ∧ r ≤ b ∧ ∀ y ∈ l.drop i, B_Copy y))) l.length ?_ ?_
      · intro b h0 h1
        refine ⟨b, ?_, .inr ⟨h0, Int.le_refl _, by simp⟩⟩
        refine Ev_succ ?_
        simp only [laws_szCopyS.l0]
        exact Ev_neg (by omega) (Ev.now _)
      · intro i hi ih b h0 h1
        have hgi := hg _ (List.getElem_mem hi)
        unfold G145 at hgi
        obtain ⟨r, hr, hc⟩ := sz_Copy l[i] b h0 (by omega) (by have := hgi; simp_all) (by have := hgi; simp_all)
        rcases hc with rfl | ⟨c0, c1, hB⟩
        · refine ⟨-1, ?_, .inl rfl⟩
          refine Ev_succ ?_
          simp only [laws_szCopyS.l0]
          refine Ev_pos (by omega) (Ev_pos (by omega) ?_)
          rw [rd145 hi]
          exact Ev_some hr (Ev_pos (by omega) (Ev.now _))
        · obtain ⟨r', hr', hc'⟩ := ih r c0 (by omega)
          refine ⟨r', ?_, ?_⟩
          · refine Ev_succ ?_
            simp only [laws_szCopyS.l0]
            refine Ev_pos (by omega) (Ev_pos (by omega) ?_)
            rw [rd145 hi, wr1 hi (by omega)]
            exact Ev_some hr (Ev_neg (by omega) hr')
          · rcases hc' with h | ⟨d0, d1, d2⟩
            · exact .inl h
            · refine .inr ⟨d0, by omega, fun y hy => ?_⟩
              rw [List.drop_eq_getElem_cons hi] at hy
              rcases List.mem_cons.1 hy with rfl | hy
              · exact hB
              · exact d2 y hy
    obtain ⟨r, hr, hc⟩ := key 0 (Nat.zero_le _) (a - l.length) (by omega) (by omega)
    refine ⟨r, Ev_neg (by omega) hr, ?_⟩
    rcases hc with h | ⟨d0, d1, d2⟩
    · exact .inl h
    · exact .inr ⟨d0, by omega, by omega, by simpa using d2⟩
  · exact ⟨-1, Ev_pos (by omega) (Ev.now _), .inl rfl⟩

def dirtyOf : List S96 → List Int
  | [] => []
  | x :: xs => if (x.f5.length : Int) > 0 then x.f0 :: dirtyOf xs else dirtyOf xs
theorem dirtyOf_length (l : List S96) : (dirtyOf l).length ≤ l.length := by
  induction l with
  | nil => exact Nat.le_refl _
  | cons x xs ih => unfold dirtyOf; split <;> simp <;> omega
theorem dirtyOf_append (a b : List S96) : dirtyOf (a ++ b) = dirtyOf a ++ dirtyOf b := by
  induction a with
  | nil => rfl
  | cons x xs ih =>
    show dirtyOf (x :: (xs ++ b)) = _
    rw [dirtyOf, dirtyOf, ih]
    split <;> rfl

theorem ev_spec_DirtyOf (l : List S96) (hl : l.length ≤ 2000000000) : Ev (fun k => spec_DirtyOf.f k l) (dirtyOf l) := by
  unfold spec_DirtyOf.f
  refine down (P := fun i => Ev (fun k => spec_DirtyOf.l0 k l (dirtyOf (l.take i)) (i : Int)) (dirtyOf l)) l.length ?_ ?_ 0 (Nat.zero_le _)
  · refine Ev_succ ?_
    simp only [spec_DirtyOf.l0]
    exact Ev_neg (by omega) (Ev_eq (by rw [List.take_length]))
  · intro i hi ih
    have hd := dirtyOf_length (l.take i)
    rw [List.length_take] at hd
    rw [List.take_succ_eq_append_getElem hi, dirtyOf_append] at ih
    refine Ev_succ ?_
    simp only [spec_DirtyOf.l0]
    rw [rd96 hi, wr1 hi (by omega)]
    refine Ev_pos (by omega) (Ev_pos (by omega) ?_)
    by_cases c : (l[i].f5.length : Int) > 0
    · rw [show dirtyOf [l[i]] = [l[i].f0] from by unfold dirtyOf; rw [if_pos c]; rfl] at ih
      exact Ev_pos c (Ev_pos (by omega) ih)
    · rw [show dirtyOf [l[i]] = [] from by unfold dirtyOf; rw [if_neg c]; rfl, List.append_nil] at ih
      exact Ev_neg c ih

theorem ev_toValS (l : List S160) (hl : l.length ≤ 1048576) : Ev (fun k => laws_toValS.f k l) (l.map cv_Val) := by
  unfold laws_toValS.f
  refine Ev_pos (by omega) ?_
  rw [Int.toNat_natCast]
  refine Ev_pos (by omega) ?_
  refine evFill (fun k xs i => laws_toValS.l0 k l xs i) l cv_Val z132 (fun xs hx => ?_) (fun xs i hi r hx ih => ?_)
  · refine Ev_succ ?_
    simp only [laws_toValS.l0]
    exact Ev_neg (by omega) (Ev.now _)
  · refine Ev_succ ?_
    simp only [laws_toValS.l0]
    refine Ev_pos (by omega) (Ev_pos (by omega) (Ev_some rfl (Ev_pos (by omega) ?_)))
    rw [wr1 hi (by omega), rd160 hi, Int.toNat_natCast]
    exact ih

theorem ev_toCopy (y : S145) (hB : B_Copy y) : Ev (fun k => laws_toCopy.f k y.f0 y.f1 y.f2 y.f3 y.f4 y.f5) (y.f0, y.f1, y.f2, y.f3, y.f4.map cv_Val, y.f5.map cv_Val) := by
  unfold laws_toCopy.f
  exact Ev.bind (ev_toValS _ hB.1) (Ev.bind (ev_toValS _ hB.2) (Ev.now _))
theorem ev_toCopyS (l : List S145) (hl : l.length ≤ 1048576) (hB : ∀ y ∈ l, B_Copy y) : Ev (fun k => laws_toCopyS.f k l) (l.map cv_Copy) := by
  unfold laws_toCopyS.f
  refine Ev_pos (by omega) ?_
  rw [Int.toNat_natCast]
  refine Ev_pos (by omega) ?_
  refine evFill (fun k xs i => laws_toCopyS.l0 k l xs i) l cv_Copy z96 (fun xs hx => ?_) (fun xs i hi r hx ih => ?_)
  · refine Ev_succ ?_
    simp only [laws_toCopyS.l0]
    exact Ev_neg (by omega) (Ev.now _)
  · refine Ev_succ ?_
    simp only [laws_toCopyS.l0]
    refine Ev_pos (by omega) (Ev_pos (by omega) ?_)
    rw [rd145 hi]
    refine Ev.bind (ev_toCopy l[i] (hB _ (List.getElem_mem hi))) (Ev_pos (by omega) ?_)
    rw [wr1 hi (by omega), Int.toNat_natCast]
    exact ih

theorem ev_impl_DirtyOf (l : List S96) (hl : l.length ≤ 2000000000) : Ev (fun k => impl_DirtyOf.f k l) (dirtyOf l) := by
  unfold impl_DirtyOf.f
  refine down (P := fun i => Ev (fun k => impl_DirtyOf.l0 k (dirtyOf (l.take i)) l (l.length : Int) (i : Int)) (dirtyOf l)) l.length ?_ ?_ 0 (Nat.zero_le _)
  · refine Ev_succ ?_
    simp only [impl_DirtyOf.l0]
    exact Ev_neg (by omega) (Ev_eq (by rw [List.take_length]))
  · intro i hi ih
    have hd := dirtyOf_length (l.take i)
    rw [List.length_take] at hd
    rw [List.take_succ_eq_append_getElem hi, dirtyOf_append] at ih
    refine Ev_succ ?_
    simp only [impl_DirtyOf.l0]
    rw [rd96 hi, wr1 hi (by omega)]
    refine Ev_pos (by omega) (Ev_pos (by omega) (Ev_pos (by omega) ?_))
    by_cases c : (l[i].f5.length : Int) > 0
    · rw [show dirtyOf [l[i]] = [l[i].f0] from by unfold dirtyOf; rw [if_pos c]; rfl] at ih
      exact Ev_pos c (Ev_pos (by omega) ih)
    · rw [show dirtyOf [l[i]] = [] from by unfold dirtyOf; rw [if_neg c]; rfl, List.append_nil] at ih
      exact Ev_neg c ih

theorem ev_eqIntS (l : List Int) (hl : l.length ≤ 2000000000) : Ev (fun k => laws_eqIntS.f k l l) true := by
  unfold laws_eqIntS.f
  refine Ev_pos rfl ?_
  refine down (P := fun i => Ev (fun k => laws_eqIntS.l0 k l l (i : Int)) true) l.length ?_ ?_ 0 (Nat.zero_le _)
  · refine Ev_succ ?_
    simp only [laws_eqIntS.l0]
    exact Ev_neg (by omega) (Ev.now _)
  · intro i hi ih
    refine Ev_succ ?_
    simp only [laws_eqIntS.l0]
    refine Ev_pos (by omega) (Ev_pos (by omega) (Ev_pos (by omega) ?_))
    rw [wr1 hi (by omega)]
    exact Ev_pos (by simp) ih

theorem eqr_Val (a0 : Bool) (a1 : Int) : laws_eqVal.f a0 a1 a0 a1 = some true := by
  simp [laws_eqVal.f]
theorem ev_eqValS (l : List S132) (hl : l.length ≤ 2000000000) : Ev (fun k => laws_eqValS.f k l l) true := by
  unfold laws_eqValS.f
  refine Ev_pos rfl ?_
  refine down (P := fun i => Ev (fun k => laws_eqValS.l0 k l l (i : Int)) true) l.length ?_ ?_ 0 (Nat.zero_le _)
  · refine Ev_succ ?_
    simp only [laws_eqValS.l0]
    exact Ev_neg (by omega) (Ev.now _)
  · intro i hi ih
    refine Ev_succ ?_
    simp only [laws_eqValS.l0]
    refine Ev_pos (by omega) (Ev_pos (by omega) (Ev_pos (by omega) (Ev_some (eqr_Val _ _) (Ev_pos rfl ?_))))
    rw [wr1 hi (by omega)]
    exact ih

theorem ev_eqCopy (y : S96) (hB : BI_Copy y) : Ev (fun k => laws_eqCopy.f k y.f0 y.f1 y.f2 y.f3 y.f4 y.f5 y.f0 y.f1 y.f2 y.f3 y.f4 y.f5) true := by
  unfold laws_eqCopy.f
  refine Ev_pos rfl ?_
  refine Ev_pos rfl ?_
  refine Ev_pos rfl ?_
  refine Ev_neg (by simp) ?_
  refine Ev.bind (ev_eqValS _ hB.1) (Ev_pos rfl ?_)
  refine Ev.bind (ev_eqValS _ hB.2) (Ev_pos rfl ?_)
  exact Ev.now _
theorem ev_eqCopyS (l : List S96) (hl : l.length ≤ 2000000000) (hB : ∀ y ∈ l, BI_Copy y) : Ev (fun k => laws_eqCopyS.f k l l) true := by
  unfold laws_eqCopyS.f
  refine Ev_pos rfl ?_
  refine down (P := fun i => Ev (fun k => laws_eqCopyS.l0 k l l (i : Int)) true) l.length ?_ ?_ 0 (Nat.zero_le _)
  · refine Ev_succ ?_
    simp only [laws_eqCopyS.l0]
    exact Ev_neg (by omega) (Ev.now _)
  · intro i hi ih
    refine Ev_succ ?_
    simp only [laws_eqCopyS.l0]
    refine Ev_pos (by omega) (Ev_pos (by omega) (Ev_pos (by omega) ?_))
    rw [rd96 hi, wr1 hi (by omega)]
    exact Ev.bind (ev_eqCopy l[i] (hB _ (List.getElem_mem hi))) (Ev_pos rfl ih)

def el_Val (a : Int) : S132 := ⟨(Int.tmod (a) 3 == 0), a + 1⟩
def mk_Val (n : Nat) (a : Int) : List S132 := (List.range n).map fun i : Nat => el_Val (a + 2 * (i : Int))

theorem ev_markValS (l : List S132) (a : Int) (h0 : 0 ≤ a) (hb : a + 2 * (l.length : Int) ≤ 1000000000000000000) : Ev (fun k => laws_markValS.f k l a) (a + 2 * (l.length : Int), mk_Val l.length a) := by
  unfold laws_markValS.f
  refine evMark (fun k xs a i => laws_markValS.l0 k xs a i) 2 (by omega) el_Val l a h0 hb (fun xs a hx => ?_) (fun xs i a r hi hx h0 hb ih => ?_)
  · refine Ev_succ ?_
    simp only [laws_markValS.l0]
    exact Ev_neg (by omega) (Ev.now _)
  · refine Ev_succ ?_
    simp only [laws_markValS.l0]
    refine Ev_pos (by omega) (Ev_pos (by omega) ?_)
    have e1 : wrap64 (a + 1) = a + 1 := wr (by omega) (by omega)
    have e2 : wrap64 (a + 1 + 1) = a + 2 := by rw [wr (by omega) (by omega)]; omega
    simp only [e1, e2, Option.bind_some, Int.toNat_natCast, List.set_set]
    rw [wr1 (n := l.length) (by omega) (by omega)]
    have hi' : i < xs.length := by omega
    simp only [rds132 hi', List.length_set, List.set_set] at ih ⊢
    first | exact ih | (simp only [rd132 hi'] at ih ⊢; exact ih)

def mk_Int (n : Nat) (a : Int) : List Int := (List.range n).map fun i : Nat => a + 1 * (i : Int)
theorem ev_markIntS (l : List Int) (a : Int) (h0 : 0 ≤ a) (hb : a + 1 * (l.length : Int) ≤ 1000000000000000000) : Ev (fun k => laws_markIntS.f k l a) (a + 1 * (l.length : Int), mk_Int l.length a) := by
  unfold laws_markIntS.f
  refine evMark (fun k xs a i => laws_markIntS.l0 k xs a i) 1 (by omega) (fun a => a) l a h0 hb (fun xs a hx => ?_) (fun xs i a r hi hx h0 hb ih => ?_)
  · refine Ev_succ ?_
    simp only [laws_markIntS.l0]
    exact Ev_neg (by omega) (Ev.now _)
  · refine Ev_succ ?_
    simp only [laws_markIntS.l0]
    refine Ev_pos (by omega) (Ev_pos (by omega) ?_)
    rw [wr (x := a + 1) (by omega) (by omega), wr1 (n := l.length) hi (by omega), Int.toNat_natCast]
    exact ih
theorem ev_heldIntS (m : Nat) (a : Int) (h0 : 0 ≤ a) (hb : a + 1 * (m : Int) ≤ 1000000000000000000) : Ev (fun k => laws_heldIntS.f k (mk_Int m a) a) (a + 1 * (m : Int)) := by
  unfold laws_heldIntS.f
  have hl : (mk_Int m a).length = m := by simp [mk_Int]
  have key : ∀ i, i ≤ m → Ev (fun k => laws_heldIntS.l0 k (mk_Int m a) (a + 1 * (i : Int)) (i : Int)) (a + 1 * (m : Int)) := by
    refine down (P := fun i => Ev (fun k => laws_heldIntS.l0 k (mk_Int m a) (a + 1 * (i : Int)) (i : Int)) (a + 1 * (m : Int))) m ?_ ?_
    · refine Ev_succ ?_
      simp only [laws_heldIntS.l0]
      exact Ev_neg (by omega) (Ev.now _)
    · intro i hi ih
      have hi' : i < (mk_Int m a).length := by omega
      have hr : rd (mk_Int m a) (i : Int) = a + 1 * (i : Int) := by
        rw [rdI hi']
        simp [mk_Int]
      refine Ev_succ ?_
      simp only [laws_heldIntS.l0]
      refine Ev_pos (by omega) (Ev_pos (by omega) (Ev_pos hr ?_))
      rw [wr (x := a + 1 * (i : Int) + 1) (by omega) (by omega), wr1 (n := m) hi (by omega)]
      have e : a + 1 * ((i + 1 : Nat) : Int) = a + 1 * (i : Int) + 1 := by omega
      rw [e] at ih
      exact ih
  have := key 0 (Nat.zero_le _)
  simpa using this

theorem evP_markCopyS (l : List S96) (a : Int) (h0 : 0 ≤ a) (ha : a ≤ 1000000) (hl : l.length ≤ 1048576) (hB : ∀ y ∈ l, BI_Copy y) : EvP (fun k => laws_markCopyS.f k l a) (fun r => 0 ≤ r.1) := by
  unfold laws_markCopyS.f
  have key : ∀ d i : Nat, i + d = l.length → ∀ (xs : List S96) (a : Int), xs.length = l.length → (∀ y ∈ xs.drop i, BI_Copy y) → 0 ≤ a → a + 8000000004 * (d : Int) ≤ 1000000000000000000 → EvP (fun k => laws_markCopyS.l0 k xs a (i : Int)) (fun r => 0 ≤ r.1) := by
    intro d
    induction d with
    | zero =>
      intro i hi xs a hx hB h0 hb
      refine EvP_succ ?_
      simp only [laws_markCopyS.l0]
      exact EvP_neg (by omega) (EvP_now h0)
    | succ d ih =>
      intro i hi xs a hx hB h0 hb
      have hil : i < xs.length := by omega
      have hb1 : BI_Copy xs[i] := hB _ (by rw [List.drop_eq_getElem_cons hil]; exact List.mem_cons_self)
      have hb2 := hb1
      unfold BI_Copy at hb2
      rw [← rd96 hil] at hb2
      refine EvP_succ ?_
      simp only [laws_markCopyS.l0]
      have e1 : wrap64 (a + 1) = a + 1 := wr (by omega) (by omega)
      have e2 : wrap64 (a + 1 + 1) = a + 2 := by rw [wr (by omega) (by omega)]; omega
      have e3 : wrap64 (a + 2 + 1) = a + 3 := by rw [wr (by omega) (by omega)]; omega
      have e4 : wrap64 (a + 3 + 1) = a + 4 := by rw [wr (by omega) (by omega)]; omega
      simp only [e1, e2, e3, e4, Int.toNat_natCast]
      rw [wr1 hil (by omega)]
      refine EvP_pos (by omega) (EvP_pos (by omega) ?_)
      refine EvP_bindE (ev_markValS _ (a + 4) (by omega) (by omega)) ?_
      refine EvP_bindE (ev_markValS _ (a + 4 + 2 * ((rd_T96 xs (i : Int)).f4.length : Int)) (by omega) (by omega)) ?_
      refine ih (i + 1) (by omega) _ _ (by rw [List.length_set]; exact hx) (fun y hy => hB y ?_) (by omega) (by omega)
      rw [List.drop_set, if_pos (by omega)] at hy
      rw [List.drop_eq_getElem_cons hil]
      exact List.mem_cons_of_mem _ hy
  exact key l.length 0 (by omega) l a rfl (by simpa using hB) h0 (by omega)

theorem pure_law : laws_FnExactDirtyOf.Pure := by
  intro l0 hm hg
  obtain ⟨r, ⟨K0, e0⟩, hc⟩ := sz_CopyS l0 1048576 (by omega) (by omega) hm hg
  rcases hc with rfl | ⟨c0, c1, c2, hB⟩
  · exact ⟨K0, laws_FnExactDirtyOf.good0 K0 l0 (e0 K0 (Nat.le_refl _)) (by omega)⟩
  · have hl : (l0.map cv_Copy).length ≤ 1048576 := by rw [List.length_map]; omega
    have hI := bi_Copy hB
    have hd := dirtyOf_length (l0.map cv_Copy)
    obtain ⟨K1, e1⟩ := ev_toCopyS l0 c2 hB
    obtain ⟨K2, e2⟩ := ev_spec_DirtyOf (l0.map cv_Copy) (by omega)
    obtain ⟨K3, e3⟩ := ev_impl_DirtyOf (l0.map cv_Copy) (by omega)
    obtain ⟨K4, e4⟩ := ev_eqIntS (dirtyOf (l0.map cv_Copy)) (by omega)
    obtain ⟨K5, e5⟩ := ev_eqCopyS _ (by omega) hI
    obtain ⟨r6, ⟨K6, e6⟩, h6⟩ := evP_markCopyS (l0.map cv_Copy) 1 (by omega) (by omega) hl hI
    obtain ⟨K7, e7⟩ := ev_markIntS (dirtyOf (l0.map cv_Copy)) 1 (by omega) (by omega)
    obtain ⟨K8, e8⟩ := ev_heldIntS (dirtyOf (l0.map cv_Copy)).length 1 (by omega) (by omega)
    exact ⟨K0 + K1 + K2 + K3 + K4 + K5 + K6 + K7 + K8, laws_FnExactDirtyOf.good1 _ l0 (e0 _ (by omega)) (by omega) (e1 _ (by omega)) (e2 _ (by omega)) (e3 _ (by omega)) (e4 _ (by omega)) (e5 _ (by omega)) (e6 _ (by omega)) (by omega) (e7 _ (by omega)) (e8 _ (by omega)) (by omega)⟩

end Go.Proofs.Ytdmhdfdlljafbaa.PFnExactDirtyOf
namespace Go.Proofs.Ytdmhdfdlljafbaa.PureOf
theorem FnExactDirtyOf : Go.Proofs.Ytdmhdfdlljafbaa.PFnExactDirtyOf.laws_FnExactDirtyOf.Pure := Go.Proofs.Ytdmhdfdlljafbaa.PFnExactDirtyOf.pure_law
end Go.Proofs.Ytdmhdfdlljafbaa.PureOf
