/- What is left of the law FnExactCleanCopy: over lists and numbers alone. No condition beyond the statement's own. -/
import Derived.Test.YtdmhdfdlljafbaaKnFnExactCleanCopy
import Derived.Test.YtdmhdfdlljafbaaVFnExactCleanCopy
namespace Go.Proofs.Ytdmhdfdlljafbaa.PFnExactCleanCopy
open Go.RowKit Go.Proofs.YtdmhdfdlljafbaaW.PrintWords Go.Proofs.YtdmhdfdlljafbaaW.PrintLast Go.Proofs.YtdmhdfdlljafbaaW.PrintMore Go.Proofs.YtdmhdfdlljafbaaV
set_option linter.unusedVariables false
set_option linter.unusedSimpArgs false
theorem rd160 {l : List S160} {i : Nat} (h : i < l.length) : rd_T160 l (i : Int) = l[i] := by
  unfold rd_T160
  simp [List.getD, List.getElem?_eq_getElem h]
theorem rds160 {l : List S160} {i : Nat} (h : i < l.length) (v : S160) : rd_T160 (l.set i v) (i : Int) = v := by
  unfold rd_T160
  simp [List.getD, h]

theorem rd145 {l : List S145} {i : Nat} (h : i < l.length) : rd_T145 l (i : Int) = l[i] := by
  unfold rd_T145
  simp [List.getD, List.getElem?_eq_getElem h]
theorem rds145 {l : List S145} {i : Nat} (h : i < l.length) (v : S145) : rd_T145 (l.set i v) (i : Int) = v := by
  unfold rd_T145
  simp [List.getD, h]

theorem rd132 {l : List S132} {i : Nat} (h : i < l.length) : rd_T132 l (i : Int) = l[i] := by
  unfold rd_T132
  simp [List.getD, List.getElem?_eq_getElem h]
theorem rds132 {l : List S132} {i : Nat} (h : i < l.length) (v : S132) : rd_T132 (l.set i v) (i : Int) = v := by
  unfold rd_T132
  simp [List.getD, h]

theorem rd96 {l : List S96} {i : Nat} (h : i < l.length) : rd_T96 l (i : Int) = l[i] := by
  unfold rd_T96
  simp [List.getD, List.getElem?_eq_getElem h]
theorem rds96 {l : List S96} {i : Nat} (h : i < l.length) (v : S96) : rd_T96 (l.set i v) (i : Int) = v := by
  unfold rd_T96
  simp [List.getD, h]

theorem sz_ok_Val (l : List S160) (a : Int) (ha : 0 ≤ a) (hb : a ≤ 1048576) (hl : (l.length : Int) ≤ a) : laws_szValS.f l a = some (a - l.length) := by
  unfold laws_szValS.f
  rw [wr (by omega) (by omega), if_neg (by omega)]
theorem sz_big_Val (l : List S160) (a : Int) (ha : 0 ≤ a) (hb : a ≤ 1048576) (hm : l.length ≤ maxLen) (hl : ¬ (l.length : Int) ≤ a) : laws_szValS.f l a = some (-1) := by
  unfold maxLen at hm
  unfold laws_szValS.f
  rw [wr (by omega) (by omega), if_pos (by omega)]

def cv_Val (x : S160) : S132 := ⟨x.f0, x.f1⟩

def cv_Copy (x : S145) : S96 := ⟨x.f0, x.f1, x.f2, x.f3, x.f4.map cv_Val, x.f5.map cv_Val⟩
def B_Copy (x : S145) : Prop := x.f4.length ≤ 1048576 ∧ x.f5.length ≤ 1048576
def BI_Copy (x : S96) : Prop := x.f4.length ≤ 2000000000 ∧ x.f5.length ≤ 2000000000

theorem bi_Copy {l : List S145} (hB : ∀ y ∈ l, B_Copy y) : ∀ y ∈ l.map cv_Copy, BI_Copy y := by
  intro y hy
  obtain ⟨z, hz, rfl⟩ := List.mem_map.1 hy
  have h := hB z hz
  unfold B_Copy at h
  unfold BI_Copy cv_Copy
  simp only [List.length_map]
  omega

theorem sz_Copy (y : S145) (a : Int) (ha : 0 ≤ a) (hb : a ≤ 1048576) (m0 : y.f4.length ≤ maxLen) (m1 : y.f5.length ≤ maxLen) : ∃ r, laws_szCopy.f y.f0 y.f1 y.f2 y.f3 y.f4 y.f5 a = some r ∧ (r = -1 ∨ (0 ≤ r ∧ r ≤ a ∧ B_Copy y)) := by
  unfold laws_szCopy.f
  by_cases h0 : (y.f4.length : Int) ≤ a
  · rw [sz_ok_Val _ _ (by omega) (by omega) h0]
    simp only [Option.bind_some]
    rw [if_neg (by omega)]
    by_cases h1 : (y.f5.length : Int) ≤ a - y.f4.length
    · rw [sz_ok_Val _ _ (by omega) (by omega) h1]
      simp only [Option.bind_some]
      rw [if_neg (by omega)]
      exact ⟨_, rfl, .inr ⟨by omega, by omega, by omega, by omega⟩⟩
    · rw [sz_big_Val _ _ (by omega) (by omega) m1 h1]
      simp only [Option.bind_some]
      rw [if_pos (by omega)]
      exact ⟨_, rfl, .inl rfl⟩
  · rw [sz_big_Val _ _ (by omega) (by omega) m0 h0]
    simp only [Option.bind_some]
    rw [if_pos (by omega)]
    exact ⟨_, rfl, .inl rfl⟩
theorem sz_CopyS (l : List S145) (a : Int) (ha : 0 ≤ a) (hb : a ≤ 1048576) (hm : l.length ≤ maxLen) (hg : ∀ y ∈ l, G145 y) : ∃ r, Ev (fun k => laws_szCopyS.f k l a) r ∧ (r = -1 ∨ (0 ≤ r ∧ r ≤ a ∧ l.length ≤ 1048576 ∧ ∀ y ∈ l, B_Copy y)) := by
  unfold maxLen at hm
  unfold laws_szCopyS.f
  rw [wr (x := a - (l.length : Int)) (by omega) (by omega)]
  by_cases c : (l.length : Int) ≤ a
  · have key : ∀ i, i ≤ l.length → ∀ b : Int, 0 ≤ b → b ≤ a → ∃ r, Ev (fun k => laws_szCopyS.l0 k l b (i : Int)) r ∧ (r = -1 ∨ (0 ≤ r ∧ r ≤ b ∧ ∀ y ∈ l.drop i, B_Copy y)) := by
      refine down (P := fun i => ∀ b : Int, 0 ≤ b → b ≤ a → ∃ r, Ev (fun k => laws_szCopyS.l0 k l b (i : Int)) r ∧ (r = -1 ∨ (0 ≤ r ∧ r ≤ b ∧ ∀ y ∈ l.drop i, B_Copy y))) l.length ?_ ?_
      · intro b h0 h1
        refine ⟨b, ?_, .inr ⟨h0, Int.le_refl _, by simp⟩⟩
        refine Ev_succ ?_
        simp only [laws_szCopyS.l0]
        exact Ev_neg (by omega) (Ev.now _)
      · intro i hi ih b h0 h1
        have hgi := hg _ (List.getElem_mem hi)
        unfold G145 at hgi
        obtain ⟨r, hr, hc⟩ := sz_Copy l[i] b h0 (by omega) (by have := hgi; simp_all) (by have := hgi; simp_all)
        rcases hc with rfl | ⟨c0, c1, hB⟩
        · refine ⟨-1, ?_, .inl rfl⟩
          refine Ev_succ ?_
          simp only [laws_szCopyS.l0]
          refine Ev_pos (by omega) (Ev_pos (by omega) ?_)
          rw [rd145 hi]
          exact Ev_some hr (Ev_pos (by omega) (Ev.now _))
        · obtain ⟨r', hr', hc'⟩ := ih r c0 (by omega)
          refine ⟨r', ?_, ?_⟩
          · refine Ev_succ ?_
            simp only [laws_szCopyS.l0]
            refine Ev_pos (by omega) (Ev_pos (by omega) ?_)
            rw [rd145 hi, wr1 hi (by omega)]
            exact Ev_some hr (Ev_neg (by omega) hr')
          · rcases hc' with h | ⟨d0, d1, d2⟩
            · exact .inl h
            · refine .inr ⟨d0, by omega, fun y hy => ?_⟩
              rw [List.drop_eq_getElem_cons hi] at hy
              rcases List.mem_cons.1 hy with rfl | hy
              · exact hB
              · exact d2 y hy
    obtain ⟨r, hr, hc⟩ := key 0 (Nat.zero_le _) (a - l.length) (by omega) (by omega)
    refine ⟨r, Ev_neg (by omega) hr, ?_⟩
    rcases hc with h | ⟨d0, d1, d2⟩
    · exact .inl h
    · exact .inr ⟨d0, by omega, by omega, by simpa using d2⟩
  · exact ⟨-1, Ev_pos (by omega) (Ev.now _), .inl rfl⟩

theorem ev_toValS (l : List S160) (hl : l.length ≤ 1048576) : Ev (fun k => laws_toValS.f k l) (l.map cv_Val) := by
  unfold laws_toValS.f
  refine Ev_pos (by omega) ?_
  rw [Int.toNat_natCast]
  refine Ev_pos (by omega) ?_
  refine evFill (fun k xs i => laws_toValS.l0 k l xs i) l cv_Val z132 (fun xs hx => ?_) (fun xs i hi r hx ih => ?_)
  · refine Ev_succ ?_
    simp only [laws_toValS.l0]
    exact Ev_neg (by omega) (Ev.now _)
  · refine Ev_succ ?_
    simp only [laws_toValS.l0]
    refine Ev_pos (by omega) (Ev_pos (by omega) (Ev_some rfl (Ev_pos (by omega) ?_)))
    rw [wr1 hi (by omega), rd160 hi, Int.toNat_natCast]
    exact ih

theorem ev_toCopy (y : S145) (hB : B_Copy y) : Ev (fun k => laws_toCopy.f k y.f0 y.f1 y.f2 y.f3 y.f4 y.f5) (y.f0, y.f1, y.f2, y.f3, y.f4.map cv_Val, y.f5.map cv_Val) := by
  unfold laws_toCopy.f
  exact Ev.bind (ev_toValS _ hB.1) (Ev.bind (ev_toValS _ hB.2) (Ev.now _))
theorem ev_toCopyS (l : List S145) (hl : l.length ≤ 1048576) (hB : ∀ y ∈ l, B_Copy y) : Ev (fun k => laws_toCopyS.f k l) (l.map cv_Copy) := by
  unfold laws_toCopyS.f
  refine Ev_pos (by omega) ?_
  rw [Int.toNat_natCast]
  refine Ev_pos (by omega) ?_
  refine evFill (fun k xs i => laws_toCopyS.l0 k l xs i) l cv_Copy z96 (fun xs hx => ?_) (fun xs i hi r hx ih => ?_)
  · refine Ev_succ ?_
    simp only [laws_toCopyS.l0]
    exact Ev_neg (by omega) (Ev.now _)
  · refine Ev_succ ?_
    simp only [laws_toCopyS.l0]
    refine Ev_pos (by omega) (Ev_pos (by omega) ?_)
    rw [rd145 hi]
    refine Ev.bind (ev_toCopy l[i] (hB _ (List.getElem_mem hi))) (Ev_pos (by omega) ?_)
    rw [wr1 hi (by omega), Int.toNat_natCast]
    exact ih

theorem eqr_Val (a0 : Bool) (a1 : Int) : laws_eqVal.f a0 a1 a0 a1 = some true := by
  simp [laws_eqVal.f]
theorem ev_eqValS (l : List S132) (hl : l.length ≤ 2000000000) : Ev (fun k => laws_eqValS.f k l l) true := by
  unfold laws_eqValS.f
  refine Ev_pos rfl ?_
  refine down (P := fun i => Ev (fun k => laws_eqValS.l0 k l l (i : Int)) true) l.length ?_ ?_ 0 (Nat.zero_le _)
  · refine Ev_succ ?_
    simp only [laws_eqValS.l0]
    exact Ev_neg (by omega) (Ev.now _)
  · intro i hi ih
    refine Ev_succ ?_
    simp only [laws_eqValS.l0]
    refine Ev_pos (by omega) (Ev_pos (by omega) (Ev_pos (by omega) (Ev_some (eqr_Val _ _) (Ev_pos rfl ?_))))
    rw [wr1 hi (by omega)]
    exact ih

theorem ev_eqCopy (y : S96) (hB : BI_Copy y) : Ev (fun k => laws_eqCopy.f k y.f0 y.f1 y.f2 y.f3 y.f4 y.f5 y.f0 y.f1 y.f2 y.f3 y.f4 y.f5) true := by
  unfold laws_eqCopy.f
  refine Ev_pos rfl ?_
  refine Ev_pos rfl ?_
  refine Ev_pos rfl ?_
  refine Ev_neg (by simp) ?_
  refine Ev.bind (ev_eqValS _ hB.1) (Ev_pos rfl ?_)
  refine Ev.bind (ev_eqValS _ hB.2) (Ev_pos rfl ?_)
  exact Ev.now _
theorem ev_eqCopyS (l : List S96) (hl : l.length ≤ 2000000000) (hB : ∀ y ∈ l, BI_Copy y) : Ev (fun k => laws_eqCopyS.f k l l) true := by
  unfold laws_eqCopyS.f
  refine Ev_pos rfl ?_
  refine down (P := fun i => Ev (fun k => laws_eqCopyS.l0 k l l (i : Int)) true) l.length ?_ ?_ 0 (Nat.zero_le _)
  · refine Ev_succ ?_
    simp only [laws_eqCopyS.l0]
    exact Ev_neg (by omega) (Ev.now _)
  · intro i hi ih
    refine Ev_succ ?_
    simp only [laws_eqCopyS.l0]
    refine Ev_pos (by omega) (Ev_pos (by omega) (Ev_pos (by omega) ?_))
    rw [rd96 hi, wr1 hi (by omega)]
    exact Ev.bind (ev_eqCopy l[i] (hB _ (List.getElem_mem hi))) (Ev_pos rfl ih)

def el_Val (a : Int) : S132 := ⟨(Int.tmod (a) 3 == 0), a + 1⟩
def mk_Val (n : Nat) (a : Int) : List S132 := (List.range n).map fun i : Nat => el_Val (a + 2 * (i : Int))

theorem ev_markValS (l : List S132) (a : Int) (h0 : 0 ≤ a) (hb : a + 2 * (l.length : Int) ≤ 1000000000000000000) : Ev (fun k => laws_markValS.f k l a) (a + 2 * (l.length : Int), mk_Val l.length a) := by
  unfold laws_markValS.f
  refine evMark (fun k xs a i => laws_markValS.l0 k xs a i) 2 (by omega) el_Val l a h0 hb (fun xs a hx => ?_) (fun xs i a r hi hx h0 hb ih => ?_)
  · refine Ev_succ ?_
    simp only [laws_markValS.l0]
    exact Ev_neg (by omega) (Ev.now _)
  · refine Ev_succ ?_
    simp only [laws_markValS.l0]
    refine Ev_pos (by omega) (Ev_pos (by omega) ?_)
    have e1 : wrap64 (a + 1) = a + 1 := wr (by omega) (by omega)
    have e2 : wrap64 (a + 1 + 1) = a + 2 := by rw [wr (by omega) (by omega)]; omega
    simp only [e1, e2, Option.bind_some, Int.toNat_natCast, List.set_set]
    rw [wr1 (n := l.length) (by omega) (by omega)]
    have hi' : i < xs.length := by omega
    simp only [rds132 hi', List.length_set, List.set_set] at ih ⊢
    first | exact ih | (simp only [rd132 hi'] at ih ⊢; exact ih)

def copyAtGo (i : Nat) (l : List S96) (id : Int) : Int := match l with
  | [] => -1
  | x :: xs => if x.f0 = id then (i : Int) else copyAtGo (i + 1) xs id
def copyAt (l : List S96) (id : Int) : Int := copyAtGo 0 l id
theorem copyAtGo_range (i : Nat) (l : List S96) (id : Int) : copyAtGo i l id = -1 ∨ ((i : Int) ≤ copyAtGo i l id ∧ copyAtGo i l id < (i : Int) + l.length) := by
  induction l generalizing i with
  | nil => exact .inl rfl
  | cons x xs ih =>
    unfold copyAtGo
    split
    · right; simp; omega
    · rcases ih (i + 1) with h | ⟨h1, h2⟩
      · exact .inl h
      · right; simp; omega
theorem copyAt_range (l : List S96) (id : Int) : copyAt l id = -1 ∨ (0 ≤ copyAt l id ∧ copyAt l id < l.length) := by
  have := copyAtGo_range 0 l id
  unfold copyAt
  omega

theorem ev_spec_l20At (l : List S96) (id : Int) (hl : l.length ≤ 2000000000) : Ev (fun k => spec_l20At.f k l id) (copyAt l id) := by
  unfold spec_l20At.f
  refine down (P := fun i => Ev (fun k => spec_l20At.l0 k l id (i : Int)) (copyAtGo i (l.drop i) id)) l.length ?_ ?_ 0 (Nat.zero_le _)
  · refine Ev_succ ?_
    simp only [spec_l20At.l0]
    rw [List.drop_length]
    exact Ev_neg (by omega) (Ev.now _)
  · intro i hi ih
    refine Ev_succ ?_
    simp only [spec_l20At.l0]
    rw [List.drop_eq_getElem_cons hi, rd96 hi, wr1 hi (by omega)]
    unfold copyAtGo
    refine Ev_pos (by omega) (Ev_pos (by omega) ?_)
    by_cases h : l[i].f0 = id
    · rw [if_pos h]; exact Ev_pos h (Ev.now _)
    · rw [if_neg h]; exact Ev_neg h ih

theorem v_spec_l20One (af0 : Int) (af1 : Int) (af2 : Int) (af3 : Bool) (af4 : List S132) (af5 : List S132) (hf4 : af4.length ≤ 2000000000) (hf5 : af5.length ≤ 2000000000) : spec_l20One.f af0 af1 af2 af3 af4 af5 = some (af0, af1, af2, af3, af4, af5) := by
  unfold spec_l20One.f
  simp only [Option.bind_some, List.nil_append, List.length_nil, Nat.zero_add]
  rw [if_pos (by omega), if_pos (by omega)]

theorem ev_spec_l20Copy (l : List S96) (hl : l.length ≤ 2000000000) (hB : ∀ y ∈ l, BI_Copy y) : Ev (fun k => spec_l20Copy.f k l) l := by
  unfold spec_l20Copy.f
  refine down (P := fun i => Ev (fun k => spec_l20Copy.l0 k l (l.take i) (i : Int)) l) l.length ?_ ?_ 0 (Nat.zero_le _)
  · refine Ev_succ ?_
    simp only [spec_l20Copy.l0]
    exact Ev_neg (by omega) (Ev_eq List.take_length)
  · intro i hi ih
    have hb := hB _ (List.getElem_mem hi)
    unfold BI_Copy at hb
    refine Ev_succ ?_
    simp only [spec_l20Copy.l0]
    rw [rd96 hi, wr1 hi (by omega)]
    refine Ev_pos (by omega) (Ev_pos (by omega) (Ev_some (v_spec_l20One _ _ _ _ _ _ hb.1 hb.2) (Ev_pos (by rw [List.length_take]; omega) ?_)))
    rw [List.take_succ_eq_append_getElem hi] at ih
    exact ih

def cleanCopy (l : List S96) (id : Int) : List S96 := if copyAt l id ≥ 0 then l.set (copyAt l id).toNat ⟨(rd_T96 l (copyAt l id)).f0, (rd_T96 l (copyAt l id)).f1, (rd_T96 l (copyAt l id)).f2, (rd_T96 l (copyAt l id)).f3, (rd_T96 l (copyAt l id)).f4, []⟩ else l

theorem ev_spec_CleanCopy (l : List S96) (id : Int) (hl : l.length ≤ 2000000000) (hB : ∀ y ∈ l, BI_Copy y) : Ev (fun k => spec_CleanCopy.f k l id) (cleanCopy l id) := by
  unfold spec_CleanCopy.f
  have hr := copyAt_range l id
  refine Ev.bind (ev_spec_l20Copy l hl hB) (Ev.bind (ev_spec_l20At l id hl) ?_)
  by_cases c : copyAt l id ≥ 0
  · have e : cleanCopy l id = l.set (copyAt l id).toNat ⟨(rd_T96 l (copyAt l id)).f0, (rd_T96 l (copyAt l id)).f1, (rd_T96 l (copyAt l id)).f2, (rd_T96 l (copyAt l id)).f3, (rd_T96 l (copyAt l id)).f4, []⟩ := by unfold cleanCopy; rw [if_pos c]
    rw [e]
    exact Ev_pos c (Ev_pos (by omega) (Ev_pos (by omega) (Ev.now _)))
  · have e : cleanCopy l id = l := by unfold cleanCopy; rw [if_neg c]
    rw [e]
    exact Ev_neg c (Ev.now _)

theorem ev_impl_copyAt (l : List S96) (id : Int) (hl : l.length ≤ 2000000000) : Ev (fun k => impl_copyAt.f k l id) (copyAt l id) := by
  unfold impl_copyAt.f
  refine down (P := fun i => Ev (fun k => impl_copyAt.l0 k id l (l.length : Int) (i : Int)) (copyAtGo i (l.drop i) id)) l.length ?_ ?_ 0 (Nat.zero_le _)
  · refine Ev_succ ?_
    simp only [impl_copyAt.l0]
    rw [List.drop_length]
    exact Ev_neg (by omega) (Ev.now _)
  · intro i hi ih
    refine Ev_succ ?_
    simp only [impl_copyAt.l0]
    rw [List.drop_eq_getElem_cons hi, rd96 hi, wr1 hi (by omega)]
    unfold copyAtGo
    refine Ev_pos (by omega) (Ev_pos (by omega) (Ev_pos (by omega) ?_))
    by_cases h : l[i].f0 = id
    · rw [if_pos h]; exact Ev_pos h (Ev.now _)
    · rw [if_neg h]; exact Ev_neg h ih

theorem v_impl_copyVals (l : List S132) (hl : l.length ≤ 2000000000) : impl_copyVals.f l = some l := by
  unfold impl_copyVals.f
  simp only [Option.bind_some, List.nil_append, List.length_nil, Nat.zero_add]
  rw [if_pos (by omega)]

theorem ev_impl_copyCopies (l : List S96) (hl : l.length ≤ 2000000000) (hB : ∀ y ∈ l, BI_Copy y) : Ev (fun k => impl_copyCopies.f k l) l := by
  unfold impl_copyCopies.f
  refine down (P := fun i => Ev (fun k => impl_copyCopies.l0 k (l.take i) l (l.length : Int) (i : Int)) l) l.length ?_ ?_ 0 (Nat.zero_le _)
  · refine Ev_succ ?_
    simp only [impl_copyCopies.l0]
    exact Ev_neg (by omega) (Ev_eq List.take_length)
  · intro i hi ih
    have hb := hB _ (List.getElem_mem hi)
    unfold BI_Copy at hb
    refine Ev_succ ?_
    simp only [impl_copyCopies.l0]
    rw [rd96 hi, wr1 hi (by omega)]
    refine Ev_pos (by omega) (Ev_pos (by omega) (Ev_pos (by omega) (Ev_some (v_impl_copyVals _ hb.1) (Ev_some (v_impl_copyVals _ hb.2) (Ev_pos (by rw [List.length_take]; omega) ?_)))))
    rw [List.take_succ_eq_append_getElem hi] at ih
    exact ih

theorem ev_impl_CleanCopy (l : List S96) (id : Int) (hl : l.length ≤ 2000000000) (hB : ∀ y ∈ l, BI_Copy y) : Ev (fun k => impl_CleanCopy.f k l id) (cleanCopy l id) := by
  unfold impl_CleanCopy.f
  have hr := copyAt_range l id
  refine Ev.bind (ev_impl_copyCopies l hl hB) (Ev.bind (ev_impl_copyAt l id hl) ?_)
  by_cases c : copyAt l id ≥ 0
  · have e : cleanCopy l id = l.set (copyAt l id).toNat ⟨(rd_T96 l (copyAt l id)).f0, (rd_T96 l (copyAt l id)).f1, (rd_T96 l (copyAt l id)).f2, (rd_T96 l (copyAt l id)).f3, (rd_T96 l (copyAt l id)).f4, []⟩ := by unfold cleanCopy; rw [if_pos c]
    rw [e]
    exact Ev_pos c (Ev_pos (by omega) (Ev_pos (by omega) (Ev.now _)))
  · have e : cleanCopy l id = l := by unfold cleanCopy; rw [if_neg c]
    rw [e]
    exact Ev_neg c (Ev.now _)

theorem ev_heldValS (m : Nat) (a : Int) (h0 : 0 ≤ a) (hb : a + 2 * (m : Int) ≤ 1000000000000000000) : Ev (fun k => laws_heldValS.f k (mk_Val m a) a) (a + 2 * (m : Int)) := by
  unfold laws_heldValS.f
  have hl : (mk_Val m a).length = m := by simp [mk_Val]
  have key : ∀ i, i ≤ m → Ev (fun k => laws_heldValS.l0 k (mk_Val m a) (a + 2 * (i : Int)) (i : Int)) (a + 2 * (m : Int)) := by
    refine down (P := fun i => Ev (fun k => laws_heldValS.l0 k (mk_Val m a) (a + 2 * (i : Int)) (i : Int)) (a + 2 * (m : Int))) m ?_ ?_
    · refine Ev_succ ?_
      simp only [laws_heldValS.l0]
      exact Ev_neg (by omega) (Ev.now _)
    · intro i hi ih
      have hi' : i < (mk_Val m a).length := by omega
      have hr : rd_T132 (mk_Val m a) (i : Int) = el_Val (a + 2 * (i : Int)) := by
        rw [rd132 hi']
        simp [mk_Val]
      refine Ev_succ ?_
      simp only [laws_heldValS.l0]
      refine Ev_pos (by omega) (Ev_pos (by omega) ?_)
      have e1 : wrap64 (a + 2 * (i : Int) + 1) = a + 2 * (i : Int) + 1 := wr (by omega) (by omega)
      have e2 : wrap64 (a + 2 * (i : Int) + 1 + 1) = a + 2 * (i : Int) + 2 := by rw [wr (by omega) (by omega)]; omega
      rw [hr]
      simp only [e1, e2, el_Val, bne_self_eq_false, if_true, if_false, Bool.false_eq_true]
      rw [wr1 (n := m) hi (by omega)]
      have e : a + 2 * ((i + 1 : Nat) : Int) = a + 2 * (i : Int) + 2 := by omega
      rw [e] at ih
      exact ih
  have := key 0 (Nat.zero_le _)
  simpa using this

def sz1_Copy (x : S96) : Int := 4 + 2 * (x.f4.length : Int) + 2 * (x.f5.length : Int)
def mk1_Copy (x : S96) (a : Int) : S96 := ⟨a, a + 1, a + 2, (Int.tmod (a + 3) 3 == 0), mk_Val x.f4.length (a + 4), mk_Val x.f5.length (a + 4 + 2 * (x.f4.length : Int))⟩
def tot_Copy : List S96 → Int
  | [] => 0
  | x :: xs => sz1_Copy x + tot_Copy xs
def mkS_Copy : List S96 → Int → List S96
  | [], _ => []
  | x :: xs, a => mk1_Copy x a :: mkS_Copy xs (a + sz1_Copy x)
theorem tot_nonneg_Copy (l : List S96) : 0 ≤ tot_Copy l := by
  induction l with
  | nil => exact Int.le_refl _
  | cons x xs ih => unfold tot_Copy sz1_Copy; omega
theorem tot_le_Copy (l : List S96) (hB : ∀ y ∈ l, BI_Copy y) : tot_Copy l ≤ (l.length : Int) * 8000000004 := by
  induction l with
  | nil => simp [tot_Copy]
  | cons x xs ih =>
    have := ih (fun y hy => hB y (List.mem_cons_of_mem _ hy))
    have hx := hB x List.mem_cons_self
    unfold BI_Copy at hx
    unfold tot_Copy sz1_Copy
    rw [List.length_cons, show ((xs.length + 1 : Nat) : Int) = (xs.length : Int) + 1 by omega, Int.add_mul, Int.one_mul]
    omega
theorem rd_mid_Copy (done : List S96) (x : S96) (xs : List S96) : rd_T96 (done ++ x :: xs) (done.length : Int) = x := by
  unfold rd_T96
  simp [List.getD]

theorem ev_heldCopyS (l : List S96) (a : Int) (h0 : 0 ≤ a) (hb : a + tot_Copy l ≤ 1000000000000000000) (hl : l.length ≤ 2000000000) : Ev (fun k => laws_heldCopyS.f k (mkS_Copy l a) a) (a + tot_Copy l) := by
  unfold laws_heldCopyS.f
  have key : ∀ (rest done : List S96) (a : Int), done.length + rest.length ≤ 2000000000 → 0 ≤ a → a + tot_Copy rest ≤ 1000000000000000000 → Ev (fun k => laws_heldCopyS.l0 k (done ++ mkS_Copy rest a) a (done.length : Int)) (a + tot_Copy rest) := by
    intro rest
    induction rest with
    | nil =>
      intro done a hd h0 hb
      refine Ev_succ ?_
      simp only [laws_heldCopyS.l0]
      refine Ev_neg (by simp [mkS_Copy]) (Ev_eq ?_)
      simp [tot_Copy]
    | cons x xs ih =>
      intro done a hd h0 hb
      have hn := tot_nonneg_Copy xs
      have hsz : sz1_Copy x = 4 + 2 * (x.f4.length : Int) + 2 * (x.f5.length : Int) := rfl
      unfold tot_Copy at hb
      rw [List.length_cons] at hd
      refine Ev_succ ?_
      simp only [laws_heldCopyS.l0]
      unfold mkS_Copy
      have e1 : wrap64 (a + 1) = a + 1 := wr (by omega) (by omega)
      have e2 : wrap64 (a + 1 + 1) = a + 2 := by rw [wr (by omega) (by omega)]; omega
      have e3 : wrap64 (a + 2 + 1) = a + 3 := by rw [wr (by omega) (by omega)]; omega
      have e4 : wrap64 (a + 3 + 1) = a + 4 := by rw [wr (by omega) (by omega)]; omega
      simp only [e1, e2, e3, e4, rd_mid_Copy]
      rw [wr1 (show done.length < done.length + 1 by omega) (by omega)]
      refine Ev_pos (by rw [List.length_append, List.length_cons]; omega) (Ev_pos (by omega) ?_)
      refine Ev_pos rfl ?_
      refine Ev_pos rfl ?_
      refine Ev_pos rfl ?_
      refine Ev_neg (by simp [mk1_Copy]) ?_
      refine Ev.bind (ev_heldValS x.f4.length (a + 4) (by omega) (by omega)) (Ev_neg (by omega) ?_)
      refine Ev.bind (ev_heldValS x.f5.length (a + 4 + 2 * (x.f4.length : Int)) (by omega) (by omega)) (Ev_neg (by omega) ?_)
      have ih := ih (done ++ [mk1_Copy x a]) (a + sz1_Copy x) (by rw [List.length_append]; simp; omega) (by omega) (by omega)
      have e2 : ((done ++ [mk1_Copy x a]).length : Int) = ((done.length + 1 : Nat) : Int) := by simp
      rw [e2, List.append_assoc] at ih
      have e3 : a + sz1_Copy x + tot_Copy xs = a + tot_Copy (x :: xs) := by
        show _ = a + (sz1_Copy x + tot_Copy xs)
        rw [Int.add_assoc]
      rw [e3] at ih
      have e4 : a + sz1_Copy x = a + 4 + 2 * (x.f4.length : Int) + 2 * (x.f5.length : Int) := by rw [hsz]; omega
      first | (rw [e4] at ih ⊢; exact ih) | (rw [e4] at ih; exact ih)
  exact key l [] a (by simpa using hl) h0 hb

theorem ev_markCopyS (l : List S96) (a : Int) (h0 : 0 ≤ a) (hb : a + tot_Copy l ≤ 1000000000000000000) (hl : l.length ≤ 2000000000) : Ev (fun k => laws_markCopyS.f k l a) (a + tot_Copy l, mkS_Copy l a) := by
  unfold laws_markCopyS.f
  have key : ∀ (rest done : List S96) (a : Int), done.length + rest.length ≤ 2000000000 → 0 ≤ a → a + tot_Copy rest ≤ 1000000000000000000 → Ev (fun k => laws_markCopyS.l0 k (done ++ rest) a (done.length : Int)) (a + tot_Copy rest, done ++ mkS_Copy rest a) := by
    intro rest
    induction rest with
    | nil =>
      intro done a hd h0 hb
      refine Ev_succ ?_
      simp only [laws_markCopyS.l0]
      refine Ev_neg (by simp) (Ev_eq ?_)
      simp [tot_Copy, mkS_Copy]
    | cons x xs ih =>
      intro done a hd h0 hb
      have hn := tot_nonneg_Copy xs
      have hsz : sz1_Copy x = 4 + 2 * (x.f4.length : Int) + 2 * (x.f5.length : Int) := rfl
      unfold tot_Copy at hb
      rw [List.length_cons] at hd
      refine Ev_succ ?_
      simp only [laws_markCopyS.l0]
      have e1 : wrap64 (a + 1) = a + 1 := wr (by omega) (by omega)
      have e2 : wrap64 (a + 1 + 1) = a + 2 := by rw [wr (by omega) (by omega)]; omega
      have e3 : wrap64 (a + 2 + 1) = a + 3 := by rw [wr (by omega) (by omega)]; omega
      have e4 : wrap64 (a + 3 + 1) = a + 4 := by rw [wr (by omega) (by omega)]; omega
      simp only [e1, e2, e3, e4, rd_mid_Copy, Int.toNat_natCast]
      rw [wr1 (show done.length < done.length + 1 by omega) (by omega)]
      refine Ev_pos (by rw [List.length_append, List.length_cons]; omega) (Ev_pos (by omega) ?_)
      refine Ev.bind (ev_markValS _ (a + 4) (by omega) (by omega)) ?_
      refine Ev.bind (ev_markValS _ (a + 4 + 2 * (x.f4.length : Int)) (by omega) (by omega)) ?_
      have e1 : (done ++ x :: xs).set done.length (mk1_Copy x a) = (done ++ [mk1_Copy x a]) ++ xs := by simp [List.set_append]
      have ih := ih (done ++ [mk1_Copy x a]) (a + sz1_Copy x) (by rw [List.length_append]; simp; omega) (by omega) (by omega)
      have e2 : ((done ++ [mk1_Copy x a]).length : Int) = ((done.length + 1 : Nat) : Int) := by simp
      rw [e2, ← e1] at ih
      have e3 : (a + sz1_Copy x + tot_Copy xs, (done ++ [mk1_Copy x a]) ++ mkS_Copy xs (a + sz1_Copy x)) = (a + tot_Copy (x :: xs), done ++ mkS_Copy (x :: xs) a) := by
        show _ = (a + (sz1_Copy x + tot_Copy xs), done ++ (mk1_Copy x a :: mkS_Copy xs (a + sz1_Copy x)))
        rw [List.append_assoc, Int.add_assoc]; rfl
      rw [e3] at ih
      have e4 : a + sz1_Copy x = a + 4 + 2 * (x.f4.length : Int) + 2 * (x.f5.length : Int) := by rw [hsz]; omega
      first | (rw [e4] at ih ⊢; exact ih) | (rw [e4] at ih; exact ih)
  exact key l [] a (by simpa using hl) h0 hb

theorem cleanCopy_ok (l : List S96) (id : Int) (hB : ∀ y ∈ l, BI_Copy y) : (cleanCopy l id).length = l.length ∧ ∀ y ∈ cleanCopy l id, BI_Copy y := by
  unfold cleanCopy
  split
  · rename_i c
    refine ⟨by rw [List.length_set], fun y hy => ?_⟩
    rcases List.mem_or_eq_of_mem_set hy with h | h
    · exact hB y h
    · subst h
      have hr := copyAt_range l id
      obtain ⟨n, hn⟩ : ∃ n : Nat, copyAt l id = (n : Int) := ⟨(copyAt l id).toNat, by omega⟩
      rw [hn] at hr ⊢
      have hnl : n < l.length := by omega
      have hb := hB _ (List.getElem_mem hnl)
      rw [rd96 hnl]
      unfold BI_Copy at hb ⊢
      exact ⟨hb.1, by simp⟩
  · exact ⟨rfl, hB⟩
theorem pure_law : laws_FnExactCleanCopy.Pure := by
  intro l0 a1 hm hg ha
  obtain ⟨r, ⟨K0, e0⟩, hc⟩ := sz_CopyS l0 1048576 (by omega) (by omega) hm hg
  rcases hc with rfl | ⟨c0, c1, c2, hB⟩
  · exact ⟨K0, laws_FnExactCleanCopy.good0 K0 l0 a1 (e0 K0 (Nat.le_refl _)) (by omega)⟩
  · have hl : (l0.map cv_Copy).length ≤ 1048576 := by rw [List.length_map]; omega
    have hI := bi_Copy hB
    obtain ⟨g1, g2⟩ := cleanCopy_ok (l0.map cv_Copy) a1 hI
    have t1 := tot_le_Copy _ hI
    have t2 := tot_le_Copy _ g2
    have n1 := tot_nonneg_Copy (l0.map cv_Copy)
    have n2 := tot_nonneg_Copy (cleanCopy (l0.map cv_Copy) a1)
    obtain ⟨K1, e1⟩ := ev_toCopyS l0 c2 hB
    obtain ⟨K2, e2⟩ := ev_spec_CleanCopy (l0.map cv_Copy) a1 (by omega) hI
    obtain ⟨K3, e3⟩ := ev_impl_CleanCopy (l0.map cv_Copy) a1 (by omega) hI
    obtain ⟨K4, e4⟩ := ev_eqCopyS (cleanCopy (l0.map cv_Copy) a1) (by omega) g2
    obtain ⟨K5, e5⟩ := ev_eqCopyS _ (by omega) hI
    obtain ⟨K6, e6⟩ := ev_markCopyS (l0.map cv_Copy) 1 (by omega) (by omega) (by omega)
    obtain ⟨K7, e7⟩ := ev_markCopyS (cleanCopy (l0.map cv_Copy) a1) 1 (by omega) (by omega) (by omega)
    obtain ⟨K8, e8⟩ := ev_heldCopyS (cleanCopy (l0.map cv_Copy) a1) 1 (by omega) (by omega) (by omega)
    exact ⟨K0 + K1 + K2 + K3 + K4 + K5 + K6 + K7 + K8, laws_FnExactCleanCopy.good1 _ l0 a1 (e0 _ (by omega)) (by omega) (e1 _ (by omega)) (e2 _ (by omega)) (e3 _ (by omega)) (e4 _ (by omega)) (e5 _ (by omega)) (e6 _ (by omega)) (by omega) (e7 _ (by omega)) (e8 _ (by omega)) (by omega)⟩

end Go.Proofs.Ytdmhdfdlljafbaa.PFnExactCleanCopy
namespace Go.Proofs.Ytdmhdfdlljafbaa.PureOf
theorem FnExactCleanCopy : Go.Proofs.Ytdmhdfdlljafbaa.PFnExactCleanCopy.laws_FnExactCleanCopy.Pure := Go.Proofs.Ytdmhdfdlljafbaa.PFnExactCleanCopy.pure_law
end Go.Proofs.Ytdmhdfdlljafbaa.PureOf
