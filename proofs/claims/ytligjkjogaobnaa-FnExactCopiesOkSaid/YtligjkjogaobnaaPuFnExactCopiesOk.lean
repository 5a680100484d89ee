/- What is left of the law FnExactCopiesOk: over lists and numbers alone. No condition beyond the statement's own. -/
import Derived.Test.YtligjkjogaobnaaKnFnExactCopiesOk
import Derived.Test.YtligjkjogaobnaaVFnExactCopiesOk
namespace Go.Proofs.Ytligjkjogaobnaa.PFnExactCopiesOk
open Go.RowKit Go.Proofs.YtligjkjogaobnaaW.PrintWords Go.Proofs.YtligjkjogaobnaaW.PrintLast Go.Proofs.YtligjkjogaobnaaW.PrintMore Go.Proofs.YtligjkjogaobnaaV
set_option linter.unusedVariables false
set_option linter.unusedSimpArgs false
theorem rd48 {l : List S48} {i : Nat} (h : i < l.length) : rd_T48 l (i : Int) = l[i] := by
  unfold rd_T48
  simp [List.getD, List.getElem?_eq_getElem h]
theorem rds48 {l : List S48} {i : Nat} (h : i < l.length) (v : S48) : rd_T48 (l.set i v) (i : Int) = v := by
  unfold rd_T48
  simp [List.getD, h]

theorem rd141 {l : List S141} {i : Nat} (h : i < l.length) : rd_T141 l (i : Int) = l[i] := by
  unfold rd_T141
  simp [List.getD, List.getElem?_eq_getElem h]
theorem rds141 {l : List S141} {i : Nat} (h : i < l.length) (v : S141) : rd_T141 (l.set i v) (i : Int) = v := by
  unfold rd_T141
  simp [List.getD, h]

theorem rd54 {l : List S54} {i : Nat} (h : i < l.length) : rd_T54 l (i : Int) = l[i] := by
  unfold rd_T54
  simp [List.getD, List.getElem?_eq_getElem h]
theorem rds54 {l : List S54} {i : Nat} (h : i < l.length) (v : S54) : rd_T54 (l.set i v) (i : Int) = v := by
  unfold rd_T54
  simp [List.getD, h]

theorem rd144 {l : List S144} {i : Nat} (h : i < l.length) : rd_T144 l (i : Int) = l[i] := by
  unfold rd_T144
  simp [List.getD, List.getElem?_eq_getElem h]
theorem rds144 {l : List S144} {i : Nat} (h : i < l.length) (v : S144) : rd_T144 (l.set i v) (i : Int) = v := by
  unfold rd_T144
  simp [List.getD, h]

theorem rd250 {l : List S250} {i : Nat} (h : i < l.length) : rd_T250 l (i : Int) = l[i] := by
  unfold rd_T250
  simp [List.getD, List.getElem?_eq_getElem h]
theorem rds250 {l : List S250} {i : Nat} (h : i < l.length) (v : S250) : rd_T250 (l.set i v) (i : Int) = v := by
  unfold rd_T250
  simp [List.getD, h]

theorem rd252 {l : List S252} {i : Nat} (h : i < l.length) : rd_T252 l (i : Int) = l[i] := by
  unfold rd_T252
  simp [List.getD, List.getElem?_eq_getElem h]
theorem rds252 {l : List S252} {i : Nat} (h : i < l.length) (v : S252) : rd_T252 (l.set i v) (i : Int) = v := by
  unfold rd_T252
  simp [List.getD, h]

theorem rd271 {l : List S271} {i : Nat} (h : i < l.length) : rd_T271 l (i : Int) = l[i] := by
  unfold rd_T271
  simp [List.getD, List.getElem?_eq_getElem h]
theorem rds271 {l : List S271} {i : Nat} (h : i < l.length) (v : S271) : rd_T271 (l.set i v) (i : Int) = v := by
  unfold rd_T271
  simp [List.getD, h]

theorem rd256 {l : List S256} {i : Nat} (h : i < l.length) : rd_T256 l (i : Int) = l[i] := by
  unfold rd_T256
  simp [List.getD, List.getElem?_eq_getElem h]
theorem rds256 {l : List S256} {i : Nat} (h : i < l.length) (v : S256) : rd_T256 (l.set i v) (i : Int) = v := by
  unfold rd_T256
  simp [List.getD, h]

theorem rd208 {l : List S208} {i : Nat} (h : i < l.length) : rd_T208 l (i : Int) = l[i] := by
  unfold rd_T208
  simp [List.getD, List.getElem?_eq_getElem h]
theorem rds208 {l : List S208} {i : Nat} (h : i < l.length) (v : S208) : rd_T208 (l.set i v) (i : Int) = v := by
  unfold rd_T208
  simp [List.getD, h]

theorem rd242 {l : List S242} {i : Nat} (h : i < l.length) : rd_T242 l (i : Int) = l[i] := by
  unfold rd_T242
  simp [List.getD, List.getElem?_eq_getElem h]
theorem rds242 {l : List S242} {i : Nat} (h : i < l.length) (v : S242) : rd_T242 (l.set i v) (i : Int) = v := by
  unfold rd_T242
  simp [List.getD, h]

theorem rd216 {l : List S216} {i : Nat} (h : i < l.length) : rd_T216 l (i : Int) = l[i] := by
  unfold rd_T216
  simp [List.getD, List.getElem?_eq_getElem h]
theorem rds216 {l : List S216} {i : Nat} (h : i < l.length) (v : S216) : rd_T216 (l.set i v) (i : Int) = v := by
  unfold rd_T216
  simp [List.getD, h]

theorem rd264 {l : List S264} {i : Nat} (h : i < l.length) : rd_T264 l (i : Int) = l[i] := by
  unfold rd_T264
  simp [List.getD, List.getElem?_eq_getElem h]
theorem rds264 {l : List S264} {i : Nat} (h : i < l.length) (v : S264) : rd_T264 (l.set i v) (i : Int) = v := by
  unfold rd_T264
  simp [List.getD, h]

theorem rd246 {l : List S246} {i : Nat} (h : i < l.length) : rd_T246 l (i : Int) = l[i] := by
  unfold rd_T246
  simp [List.getD, List.getElem?_eq_getElem h]
theorem rds246 {l : List S246} {i : Nat} (h : i < l.length) (v : S246) : rd_T246 (l.set i v) (i : Int) = v := by
  unfold rd_T246
  simp [List.getD, h]

theorem rd213 {l : List S213} {i : Nat} (h : i < l.length) : rd_T213 l (i : Int) = l[i] := by
  unfold rd_T213
  simp [List.getD, List.getElem?_eq_getElem h]
theorem rds213 {l : List S213} {i : Nat} (h : i < l.length) (v : S213) : rd_T213 (l.set i v) (i : Int) = v := by
  unfold rd_T213
  simp [List.getD, h]

def d_cv_Val (x : S48) : S54 := ⟨x.f0, x.f1⟩
def d_B_Val (x : S48) : Prop := True
def d_BI_Val (x : S54) : Prop := True

theorem d_bi_Val {x : S48} (_ : d_B_Val x) : d_BI_Val (d_cv_Val x) := by
  unfold d_BI_Val
  trivial

theorem d_szS_Val (l : List S48) (a : Int) (ha : 0 ≤ a) (hb : a ≤ 1048576) (hm : l.length ≤ maxLen) (hg : ∀ y ∈ l, G48 y) : EvP (fun _ => laws_szValS.f l a) (fun r => r = -1 ∨ (0 ≤ r ∧ r ≤ a ∧ (l.length ≤ 1048576 ∧ ∀ y ∈ l, d_B_Val y))) := by
  unfold maxLen at hm
  unfold laws_szValS.f
  rw [wr (x := a - (l.length : Int)) (by omega) (by omega)]
  refine EvP_ite (fun _ => EvP_now (.inl rfl)) (fun h => EvP_now (.inr ⟨by omega, by omega, by omega, fun y _ => by unfold d_B_Val; trivial⟩))

def d_cv_Copy (x : S141) : S144 := ⟨x.f0, x.f1, x.f2, x.f3, x.f4.map d_cv_Val, x.f5.map d_cv_Val⟩
def d_B_Copy (x : S141) : Prop := (x.f4.length ≤ 1048576 ∧ ∀ y ∈ x.f4, d_B_Val y) ∧ (x.f5.length ≤ 1048576 ∧ ∀ y ∈ x.f5, d_B_Val y)
def d_BI_Copy (x : S144) : Prop := (x.f4.length ≤ 2000000000 ∧ ∀ y ∈ x.f4, d_BI_Val y) ∧ (x.f5.length ≤ 2000000000 ∧ ∀ y ∈ x.f5, d_BI_Val y)

theorem d_bi_Copy {x : S141} (h : d_B_Copy x) : d_BI_Copy (d_cv_Copy x) := by
  unfold d_B_Copy at h
  unfold d_BI_Copy d_cv_Copy
  exact ⟨(by have q := h.1; rw [List.length_map]; exact ⟨by have := q.1; omega, fun y hy => by obtain ⟨z, hz, rfl⟩ := List.mem_map.1 hy; exact d_bi_Val (q.2 z hz)⟩), (by have q := h.2; rw [List.length_map]; exact ⟨by have := q.1; omega, fun y hy => by obtain ⟨z, hz, rfl⟩ := List.mem_map.1 hy; exact d_bi_Val (q.2 z hz)⟩)⟩

theorem d_sz1_Copy (y : S141) (a : Int) (ha : 0 ≤ a) (hb : a ≤ 1048576) (hg : G141 y) : EvP (fun _ => laws_szCopy.f y.f0 y.f1 y.f2 y.f3 y.f4 y.f5 a) (fun r => r = -1 ∨ (0 ≤ r ∧ r ≤ a ∧ d_B_Copy y)) := by
  unfold laws_szCopy.f
  have hg2 := hg
  unfold G141 at hg2
  unfold maxLen at hg2
  have n4 := hg2.2.2.2.2.1
  refine EvP_bind (d_szS_Val y.f4 (a) (by omega) (by omega) (by unfold maxLen; exact n4.1) n4.2) (fun r4 hr4 => ?_)
  rcases hr4 with rfl | ⟨c4, e4, b4⟩
  · exact EvP_pos (by omega) (EvP_now (.inl rfl))
  refine EvP_neg (by omega) ?_
  have n5 := hg2.2.2.2.2.2
  refine EvP_bind (d_szS_Val y.f5 (r4) (by omega) (by omega) (by unfold maxLen; exact n5.1) n5.2) (fun r5 hr5 => ?_)
  rcases hr5 with rfl | ⟨c5, e5, b5⟩
  · exact EvP_pos (by omega) (EvP_now (.inl rfl))
  refine EvP_neg (by omega) ?_
  exact EvP_now (.inr ⟨by omega, by omega, ⟨b4, b5⟩⟩)

theorem d_szS_Copy (l : List S141) (a : Int) (ha : 0 ≤ a) (hb : a ≤ 1048576) (hm : l.length ≤ maxLen) (hg : ∀ y ∈ l, G141 y) : EvP (fun k => laws_szCopyS.f k l a) (fun r => r = -1 ∨ (0 ≤ r ∧ r ≤ a ∧ (l.length ≤ 1048576 ∧ ∀ y ∈ l, d_B_Copy y))) := by
  unfold maxLen at hm
  unfold laws_szCopyS.f
  rw [wr (x := a - (l.length : Int)) (by omega) (by omega)]
  refine EvP_ite (fun _ => EvP_now (.inl rfl)) (fun h => ?_)
  have key : ∀ d i : Nat, i + d = l.length → ∀ b : Int, 0 ≤ b → b ≤ a → EvP (fun k => laws_szCopyS.l0 k l b (i : Int)) (fun r => r = -1 ∨ (0 ≤ r ∧ r ≤ b ∧ ∀ y ∈ l.drop i, d_B_Copy y)) := by
    intro d
    induction d with
    | zero =>
      intro i hi b h0 h1
      refine EvP_succ ?_
      simp only [laws_szCopyS.l0]
      refine EvP_neg (by omega) (EvP_now (.inr ⟨h0, Int.le_refl _, by rw [show i = l.length by omega, List.drop_length]; simp⟩))
    | succ d ih =>
      intro i hi0 b h0 h1
      have hi : i < l.length := by omega
      refine EvP_succ ?_
      simp only [laws_szCopyS.l0]
      rw [rd141 hi, wr1 hi (by omega)]
      refine EvP_pos (by omega) (EvP_pos (by omega) ?_)
      refine EvP_bind (d_sz1_Copy l[i] b h0 (by omega) (hg _ (List.getElem_mem hi))) (fun r hr => ?_)
      rcases hr with rfl | ⟨c0, c1, hB⟩
      · exact EvP_pos (by omega) (EvP_now (.inl rfl))
      · refine EvP_neg (by omega) (EvP_mono (ih (i + 1) (by omega) r c0 (by omega)) (fun q hq => ?_))
        rcases hq with h | ⟨d0, d1, d2⟩
        · exact .inl h
        · refine .inr ⟨d0, by omega, fun y hy => ?_⟩
          rw [List.drop_eq_getElem_cons hi] at hy
          rcases List.mem_cons.1 hy with rfl | hy
          · exact hB
          · exact d2 y hy
  refine EvP_mono (key l.length 0 (by omega) _ (by omega) (by omega)) (fun r hr => ?_)
  rcases hr with h | ⟨d0, d1, d2⟩
  · exact .inl h
  · exact .inr ⟨d0, by omega, by omega, by simpa using d2⟩

theorem d_to1_Val (y : S48) (hB : d_B_Val y) : Ev (fun _ => laws_toVal.f y.f0 y.f1) (y.f0, y.f1) := by
  unfold laws_toVal.f
  unfold d_B_Val at hB
  exact Ev.now _

theorem d_toS_Val (l : List S48) (hB : (l.length ≤ 1048576 ∧ ∀ y ∈ l, d_B_Val y)) : Ev (fun k => laws_toValS.f k l) (l.map d_cv_Val) := by
  have hl : l.length ≤ 1048576 := hB.1
  have key : Ev (fun k => laws_toValS.f k l) (l.map d_cv_Val) := by
   unfold laws_toValS.f
   refine Ev_pos (by omega) ?_
   rw [Int.toNat_natCast]
   refine Ev_pos (by omega) ?_
   refine evFill (fun k xs i => laws_toValS.l0 k l xs i) l d_cv_Val z54 (fun xs hx => ?_) (fun xs i hi r hx ih => ?_)
   · refine Ev_succ ?_
     simp only [laws_toValS.l0]
     exact Ev_neg (by omega) (Ev.now _)
   · refine Ev_succ ?_
     simp only [laws_toValS.l0]
     refine Ev_pos (by omega) (Ev_pos (by omega) ?_)
     rw [rd48 hi]
     refine Ev.bind (d_to1_Val l[i] (hB.2 _ (List.getElem_mem hi))) (Ev_pos (by omega) ?_)
     rw [wr1 hi (by omega), Int.toNat_natCast]
     exact ih
  exact key

theorem d_to1_Copy (y : S141) (hB : d_B_Copy y) : Ev (fun k => laws_toCopy.f k y.f0 y.f1 y.f2 y.f3 y.f4 y.f5) (y.f0, y.f1, y.f2, y.f3, y.f4.map d_cv_Val, y.f5.map d_cv_Val) := by
  unfold laws_toCopy.f
  unfold d_B_Copy at hB
  exact Ev.bind (d_toS_Val y.f4 hB.1) (Ev.bind (d_toS_Val y.f5 hB.2) (Ev.now _))

theorem d_toS_Copy (l : List S141) (hB : (l.length ≤ 1048576 ∧ ∀ y ∈ l, d_B_Copy y)) : Ev (fun k => laws_toCopyS.f k l) (l.map d_cv_Copy) := by
  have hl : l.length ≤ 1048576 := hB.1
  have key : Ev (fun k => laws_toCopyS.f k l) (l.map d_cv_Copy) := by
   unfold laws_toCopyS.f
   refine Ev_pos (by omega) ?_
   rw [Int.toNat_natCast]
   refine Ev_pos (by omega) ?_
   refine evFill (fun k xs i => laws_toCopyS.l0 k l xs i) l d_cv_Copy z144 (fun xs hx => ?_) (fun xs i hi r hx ih => ?_)
   · refine Ev_succ ?_
     simp only [laws_toCopyS.l0]
     exact Ev_neg (by omega) (Ev.now _)
   · refine Ev_succ ?_
     simp only [laws_toCopyS.l0]
     refine Ev_pos (by omega) (Ev_pos (by omega) ?_)
     rw [rd141 hi]
     refine Ev.bind (d_to1_Copy l[i] (hB.2 _ (List.getElem_mem hi))) (Ev_pos (by omega) ?_)
     rw [wr1 hi (by omega), Int.toNat_natCast]
     exact ih
  exact key

theorem d_eq1_Val (y : S54) (hB : d_BI_Val y) : Ev (fun _ => laws_eqVal.f y.f0 y.f1 y.f0 y.f1) true := by
  unfold laws_eqVal.f
  unfold d_BI_Val at hB
  refine Ev_neg (by simp) ?_
  refine Ev_pos rfl ?_
  exact Ev.now _

theorem d_eqS_Val (l : List S54) (hB : (l.length ≤ 2000000000 ∧ ∀ y ∈ l, d_BI_Val y)) : Ev (fun k => laws_eqValS.f k l l) true := by
  have hl : l.length ≤ 2000000000 := hB.1
  unfold laws_eqValS.f
  refine Ev_pos rfl ?_
  refine down (P := fun i => Ev (fun k => laws_eqValS.l0 k l l (i : Int)) true) l.length ?_ ?_ 0 (Nat.zero_le _)
  · refine Ev_succ ?_
    simp only [laws_eqValS.l0]
    exact Ev_neg (by omega) (Ev.now _)
  · intro i hi ih
    refine Ev_succ ?_
    simp only [laws_eqValS.l0]
    rw [wr1 hi (by omega)]
    rw [rd54 hi]
    exact Ev_pos (by omega) (Ev_pos (by omega) (Ev_pos (by omega) (Ev.bind (d_eq1_Val l[i] (hB.2 _ (List.getElem_mem hi))) (Ev_pos rfl ih))))

theorem d_eq1_Copy (y : S144) (hB : d_BI_Copy y) : Ev (fun k => laws_eqCopy.f k y.f0 y.f1 y.f2 y.f3 y.f4 y.f5 y.f0 y.f1 y.f2 y.f3 y.f4 y.f5) true := by
  unfold laws_eqCopy.f
  unfold d_BI_Copy at hB
  refine Ev_pos rfl ?_
  refine Ev_pos rfl ?_
  refine Ev_pos rfl ?_
  refine Ev_neg (by simp) ?_
  refine Ev.bind (d_eqS_Val y.f4 hB.1) (Ev_pos rfl ?_)
  refine Ev.bind (d_eqS_Val y.f5 hB.2) (Ev_pos rfl ?_)
  exact Ev.now _

theorem d_eqS_Copy (l : List S144) (hB : (l.length ≤ 2000000000 ∧ ∀ y ∈ l, d_BI_Copy y)) : Ev (fun k => laws_eqCopyS.f k l l) true := by
  have hl : l.length ≤ 2000000000 := hB.1
  unfold laws_eqCopyS.f
  refine Ev_pos rfl ?_
  refine down (P := fun i => Ev (fun k => laws_eqCopyS.l0 k l l (i : Int)) true) l.length ?_ ?_ 0 (Nat.zero_le _)
  · refine Ev_succ ?_
    simp only [laws_eqCopyS.l0]
    exact Ev_neg (by omega) (Ev.now _)
  · intro i hi ih
    refine Ev_succ ?_
    simp only [laws_eqCopyS.l0]
    rw [wr1 hi (by omega)]
    rw [rd144 hi]
    exact Ev_pos (by omega) (Ev_pos (by omega) (Ev_pos (by omega) (Ev.bind (d_eq1_Copy l[i] (hB.2 _ (List.getElem_mem hi))) (Ev_pos rfl ih))))

def d_cv_Const (x : S250) : S242 := ⟨x.f0, x.f1, x.f2, x.f3⟩
def d_B_Const (x : S250) : Prop := True
def d_BI_Const (x : S242) : Prop := True

theorem d_bi_Const {x : S250} (_ : d_B_Const x) : d_BI_Const (d_cv_Const x) := by
  unfold d_BI_Const
  trivial

theorem d_sz1_Const (y : S250) (a : Int) (ha : 0 ≤ a) (hb : a ≤ 1048576) (hg : G250 y) : EvP (fun _ => laws_szConst.f y.f0 y.f1 y.f2 y.f3 a) (fun r => r = -1 ∨ (0 ≤ r ∧ r ≤ a ∧ d_B_Const y)) := by
  unfold laws_szConst.f
  have hg2 := hg
  unfold G250 at hg2
  unfold maxLen at hg2
  have m2 : y.f2.size ≤ 140737488351232 ∨ True := .inr trivial
  have n2 := hg2.2.2.1
  rw [wr (x := a - (y.f2.size : Int)) (by omega) (by omega)]
  refine EvP_ite (fun _ => EvP_now (.inl rfl)) (fun x2 => ?_)
  have m3 : y.f3.size ≤ 140737488351232 ∨ True := .inr trivial
  have n3 := hg2.2.2.2
  rw [wr (x := a - (y.f2.size : Int) - (y.f3.size : Int)) (by omega) (by omega)]
  refine EvP_ite (fun _ => EvP_now (.inl rfl)) (fun x3 => ?_)
  exact EvP_now (.inr ⟨by omega, by omega, trivial⟩)

theorem d_szS_Const (l : List S250) (a : Int) (ha : 0 ≤ a) (hb : a ≤ 1048576) (hm : l.length ≤ maxLen) (hg : ∀ y ∈ l, G250 y) : EvP (fun k => laws_szConstS.f k l a) (fun r => r = -1 ∨ (0 ≤ r ∧ r ≤ a ∧ (l.length ≤ 1048576 ∧ ∀ y ∈ l, d_B_Const y))) := by
  unfold maxLen at hm
  unfold laws_szConstS.f
  rw [wr (x := a - (l.length : Int)) (by omega) (by omega)]
  refine EvP_ite (fun _ => EvP_now (.inl rfl)) (fun h => ?_)
  have key : ∀ d i : Nat, i + d = l.length → ∀ b : Int, 0 ≤ b → b ≤ a → EvP (fun k => laws_szConstS.l0 k l b (i : Int)) (fun r => r = -1 ∨ (0 ≤ r ∧ r ≤ b ∧ ∀ y ∈ l.drop i, d_B_Const y)) := by
    intro d
    induction d with
    | zero =>
      intro i hi b h0 h1
      refine EvP_succ ?_
      simp only [laws_szConstS.l0]
      refine EvP_neg (by omega) (EvP_now (.inr ⟨h0, Int.le_refl _, by rw [show i = l.length by omega, List.drop_length]; simp⟩))
    | succ d ih =>
      intro i hi0 b h0 h1
      have hi : i < l.length := by omega
      refine EvP_succ ?_
      simp only [laws_szConstS.l0]
      rw [rd250 hi, wr1 hi (by omega)]
      refine EvP_pos (by omega) (EvP_pos (by omega) ?_)
      refine EvP_bind (d_sz1_Const l[i] b h0 (by omega) (hg _ (List.getElem_mem hi))) (fun r hr => ?_)
      rcases hr with rfl | ⟨c0, c1, hB⟩
      · exact EvP_pos (by omega) (EvP_now (.inl rfl))
      · refine EvP_neg (by omega) (EvP_mono (ih (i + 1) (by omega) r c0 (by omega)) (fun q hq => ?_))
        rcases hq with h | ⟨d0, d1, d2⟩
        · exact .inl h
        · refine .inr ⟨d0, by omega, fun y hy => ?_⟩
          rw [List.drop_eq_getElem_cons hi] at hy
          rcases List.mem_cons.1 hy with rfl | hy
          · exact hB
          · exact d2 y hy
  refine EvP_mono (key l.length 0 (by omega) _ (by omega) (by omega)) (fun r hr => ?_)
  rcases hr with h | ⟨d0, d1, d2⟩
  · exact .inl h
  · exact .inr ⟨d0, by omega, by omega, by simpa using d2⟩

def d_cv_Field (x : S252) : S216 := ⟨x.f0, x.f1⟩
def d_B_Field (x : S252) : Prop := True
def d_BI_Field (x : S216) : Prop := True

theorem d_bi_Field {x : S252} (_ : d_B_Field x) : d_BI_Field (d_cv_Field x) := by
  unfold d_BI_Field
  trivial

theorem d_sz1_Field (y : S252) (a : Int) (ha : 0 ≤ a) (hb : a ≤ 1048576) (hg : G252 y) : EvP (fun _ => laws_szField.f y.f0 y.f1 a) (fun r => r = -1 ∨ (0 ≤ r ∧ r ≤ a ∧ d_B_Field y)) := by
  unfold laws_szField.f
  have hg2 := hg
  unfold G252 at hg2
  unfold maxLen at hg2
  have m0 : y.f0.size ≤ 140737488351232 ∨ True := .inr trivial
  have n0 := hg2.1
  rw [wr (x := a - (y.f0.size : Int)) (by omega) (by omega)]
  refine EvP_ite (fun _ => EvP_now (.inl rfl)) (fun x0 => ?_)
  have m1 : y.f1.size ≤ 140737488351232 ∨ True := .inr trivial
  have n1 := hg2.2
  rw [wr (x := a - (y.f0.size : Int) - (y.f1.size : Int)) (by omega) (by omega)]
  refine EvP_ite (fun _ => EvP_now (.inl rfl)) (fun x1 => ?_)
  exact EvP_now (.inr ⟨by omega, by omega, trivial⟩)

theorem d_szS_Field (l : List S252) (a : Int) (ha : 0 ≤ a) (hb : a ≤ 1048576) (hm : l.length ≤ maxLen) (hg : ∀ y ∈ l, G252 y) : EvP (fun k => laws_szFieldS.f k l a) (fun r => r = -1 ∨ (0 ≤ r ∧ r ≤ a ∧ (l.length ≤ 1048576 ∧ ∀ y ∈ l, d_B_Field y))) := by
  unfold maxLen at hm
  unfold laws_szFieldS.f
  rw [wr (x := a - (l.length : Int)) (by omega) (by omega)]
  refine EvP_ite (fun _ => EvP_now (.inl rfl)) (fun h => ?_)
  have key : ∀ d i : Nat, i + d = l.length → ∀ b : Int, 0 ≤ b → b ≤ a → EvP (fun k => laws_szFieldS.l0 k l b (i : Int)) (fun r => r = -1 ∨ (0 ≤ r ∧ r ≤ b ∧ ∀ y ∈ l.drop i, d_B_Field y)) := by
    intro d
    induction d with
    | zero =>
      intro i hi b h0 h1
      refine EvP_succ ?_
      simp only [laws_szFieldS.l0]
      refine EvP_neg (by omega) (EvP_now (.inr ⟨h0, Int.le_refl _, by rw [show i = l.length by omega, List.drop_length]; simp⟩))
    | succ d ih =>
      intro i hi0 b h0 h1
      have hi : i < l.length := by omega
      refine EvP_succ ?_
      simp only [laws_szFieldS.l0]
      rw [rd252 hi, wr1 hi (by omega)]
      refine EvP_pos (by omega) (EvP_pos (by omega) ?_)
      refine EvP_bind (d_sz1_Field l[i] b h0 (by omega) (hg _ (List.getElem_mem hi))) (fun r hr => ?_)
      rcases hr with rfl | ⟨c0, c1, hB⟩
      · exact EvP_pos (by omega) (EvP_now (.inl rfl))
      · refine EvP_neg (by omega) (EvP_mono (ih (i + 1) (by omega) r c0 (by omega)) (fun q hq => ?_))
        rcases hq with h | ⟨d0, d1, d2⟩
        · exact .inl h
        · refine .inr ⟨d0, by omega, fun y hy => ?_⟩
          rw [List.drop_eq_getElem_cons hi] at hy
          rcases List.mem_cons.1 hy with rfl | hy
          · exact hB
          · exact d2 y hy
  refine EvP_mono (key l.length 0 (by omega) _ (by omega) (by omega)) (fun r hr => ?_)
  rcases hr with h | ⟨d0, d1, d2⟩
  · exact .inl h
  · exact .inr ⟨d0, by omega, by omega, by simpa using d2⟩

theorem rdS_ {l : List ByteArray} {i : Nat} (h : i < l.length) : rdOf ByteArray.empty l (i : Int) = l[i] := by
  unfold rdOf
  simp [List.getD, List.getElem?_eq_getElem h]

theorem d_szS_String (l : List ByteArray) (a : Int) (ha : 0 ≤ a) (hb : a ≤ 1048576) (hm : l.length ≤ maxLen) (hg : ∀ y ∈ l, y.size ≤ maxLen) : EvP (fun k => laws_szStringS.f k l a) (fun r => r = -1 ∨ (0 ≤ r ∧ r ≤ a ∧ (l.length ≤ 1048576))) := by
  unfold maxLen at hm
  unfold laws_szStringS.f
  rw [wr (x := a - (l.length : Int)) (by omega) (by omega)]
  refine EvP_ite (fun _ => EvP_now (.inl rfl)) (fun h => ?_)
  have key : ∀ d i : Nat, i + d = l.length → ∀ b : Int, 0 ≤ b → b ≤ a → EvP (fun k => laws_szStringS.l0 k l b (i : Int)) (fun r => r = -1 ∨ (0 ≤ r ∧ r ≤ b ∧ True)) := by
    intro d
    induction d with
    | zero =>
      intro i hi b h0 h1
      refine EvP_succ ?_
      simp only [laws_szStringS.l0]
      refine EvP_neg (by omega) (EvP_now (.inr ⟨h0, Int.le_refl _, trivial⟩))
    | succ d ih =>
      intro i hi0 b h0 h1
      have hi : i < l.length := by omega
      refine EvP_succ ?_
      simp only [laws_szStringS.l0]
      rw [rdS_ hi, wr1 hi (by omega)]
      refine EvP_pos (by omega) (EvP_pos (by omega) ?_)
      have hs := hg _ (List.getElem_mem hi)
      unfold maxLen at hs
      rw [wr (x := b - (l[i].size : Int)) (by omega) (by omega)]
      refine EvP_ite (fun _ => EvP_now (.inl rfl)) (fun h => EvP_mono (ih (i + 1) (by omega) _ (by omega) (by omega)) (fun q hq => ?_))
      rcases hq with h | ⟨d0, d1, d2⟩
      · exact .inl h
      · exact .inr ⟨d0, by omega, trivial⟩
  refine EvP_mono (key l.length 0 (by omega) _ (by omega) (by omega)) (fun r hr => ?_)
  rcases hr with h | ⟨d0, d1, d2⟩
  · exact .inl h
  · exact .inr ⟨d0, by omega, by omega⟩

def d_cv_Ins (x : S271) : S264 := ⟨x.f0, x.f1⟩
def d_B_Ins (x : S271) : Prop := True
def d_BI_Ins (x : S264) : Prop := True

theorem d_bi_Ins {x : S271} (_ : d_B_Ins x) : d_BI_Ins (d_cv_Ins x) := by
  unfold d_BI_Ins
  trivial

theorem d_szS_Ins (l : List S271) (a : Int) (ha : 0 ≤ a) (hb : a ≤ 1048576) (hm : l.length ≤ maxLen) (hg : ∀ y ∈ l, G271 y) : EvP (fun _ => laws_szInsS.f l a) (fun r => r = -1 ∨ (0 ≤ r ∧ r ≤ a ∧ (l.length ≤ 1048576 ∧ ∀ y ∈ l, d_B_Ins y))) := by
  unfold maxLen at hm
  unfold laws_szInsS.f
  rw [wr (x := a - (l.length : Int)) (by omega) (by omega)]
  refine EvP_ite (fun _ => EvP_now (.inl rfl)) (fun h => EvP_now (.inr ⟨by omega, by omega, by omega, fun y _ => by unfold d_B_Ins; trivial⟩))

def d_cv_Code (x : S256) : S246 := ⟨x.f0, x.f1, x.f2, x.f3, x.f4, x.f5.map d_cv_Ins⟩
def d_B_Code (x : S256) : Prop := (x.f2.length ≤ 1048576) ∧ (x.f5.length ≤ 1048576 ∧ ∀ y ∈ x.f5, d_B_Ins y)
def d_BI_Code (x : S246) : Prop := (x.f2.length ≤ 2000000000) ∧ (x.f5.length ≤ 2000000000 ∧ ∀ y ∈ x.f5, d_BI_Ins y)

theorem d_bi_Code {x : S256} (h : d_B_Code x) : d_BI_Code (d_cv_Code x) := by
  unfold d_B_Code at h
  unfold d_BI_Code d_cv_Code
  exact ⟨(Nat.le_trans (show x.f2.length ≤ 1048576 from h.1) (by omega)), (by have q := h.2; rw [List.length_map]; exact ⟨by have := q.1; omega, fun y hy => by obtain ⟨z, hz, rfl⟩ := List.mem_map.1 hy; exact d_bi_Ins (q.2 z hz)⟩)⟩

theorem d_sz1_Code (y : S256) (a : Int) (ha : 0 ≤ a) (hb : a ≤ 1048576) (hg : G256 y) : EvP (fun k => laws_szCode.f k y.f0 y.f1 y.f2 y.f3 y.f4 y.f5 a) (fun r => r = -1 ∨ (0 ≤ r ∧ r ≤ a ∧ d_B_Code y)) := by
  unfold laws_szCode.f
  have hg2 := hg
  unfold G256 at hg2
  unfold maxLen at hg2
  have m0 : y.f0.size ≤ 140737488351232 ∨ True := .inr trivial
  have n0 := hg2.1
  rw [wr (x := a - (y.f0.size : Int)) (by omega) (by omega)]
  refine EvP_ite (fun _ => EvP_now (.inl rfl)) (fun x0 => ?_)
  have n2 := hg2.2.2.1
  refine EvP_bind (d_szS_String y.f2 (a - (y.f0.size : Int)) (by omega) (by omega) (by unfold maxLen; exact n2.1) (by unfold maxLen; exact n2.2)) (fun r2 hr2 => ?_)
  rcases hr2 with rfl | ⟨c2, e2, b2⟩
  · exact EvP_pos (by omega) (EvP_now (.inl rfl))
  refine EvP_neg (by omega) ?_
  have m3 : y.f3.size ≤ 140737488351232 ∨ True := .inr trivial
  have n3 := hg2.2.2.2.1
  rw [wr (x := r2 - (y.f3.size : Int)) (by omega) (by omega)]
  refine EvP_ite (fun _ => EvP_now (.inl rfl)) (fun x3 => ?_)
  have n5 := hg2.2.2.2.2.2
  refine EvP_bind (d_szS_Ins y.f5 (r2 - (y.f3.size : Int)) (by omega) (by omega) (by unfold maxLen; exact n5.1) n5.2) (fun r5 hr5 => ?_)
  rcases hr5 with rfl | ⟨c5, e5, b5⟩
  · exact EvP_pos (by omega) (EvP_now (.inl rfl))
  refine EvP_neg (by omega) ?_
  exact EvP_now (.inr ⟨by omega, by omega, ⟨b2, b5⟩⟩)

theorem d_szS_Code (l : List S256) (a : Int) (ha : 0 ≤ a) (hb : a ≤ 1048576) (hm : l.length ≤ maxLen) (hg : ∀ y ∈ l, G256 y) : EvP (fun k => laws_szCodeS.f k l a) (fun r => r = -1 ∨ (0 ≤ r ∧ r ≤ a ∧ (l.length ≤ 1048576 ∧ ∀ y ∈ l, d_B_Code y))) := by
  unfold maxLen at hm
  unfold laws_szCodeS.f
  rw [wr (x := a - (l.length : Int)) (by omega) (by omega)]
  refine EvP_ite (fun _ => EvP_now (.inl rfl)) (fun h => ?_)
  have key : ∀ d i : Nat, i + d = l.length → ∀ b : Int, 0 ≤ b → b ≤ a → EvP (fun k => laws_szCodeS.l0 k l b (i : Int)) (fun r => r = -1 ∨ (0 ≤ r ∧ r ≤ b ∧ ∀ y ∈ l.drop i, d_B_Code y)) := by
    intro d
    induction d with
    | zero =>
      intro i hi b h0 h1
      refine EvP_succ ?_
      simp only [laws_szCodeS.l0]
      refine EvP_neg (by omega) (EvP_now (.inr ⟨h0, Int.le_refl _, by rw [show i = l.length by omega, List.drop_length]; simp⟩))
    | succ d ih =>
      intro i hi0 b h0 h1
      have hi : i < l.length := by omega
      refine EvP_succ ?_
      simp only [laws_szCodeS.l0]
      rw [rd256 hi, wr1 hi (by omega)]
      refine EvP_pos (by omega) (EvP_pos (by omega) ?_)
      refine EvP_bind (d_sz1_Code l[i] b h0 (by omega) (hg _ (List.getElem_mem hi))) (fun r hr => ?_)
      rcases hr with rfl | ⟨c0, c1, hB⟩
      · exact EvP_pos (by omega) (EvP_now (.inl rfl))
      · refine EvP_neg (by omega) (EvP_mono (ih (i + 1) (by omega) r c0 (by omega)) (fun q hq => ?_))
        rcases hq with h | ⟨d0, d1, d2⟩
        · exact .inl h
        · refine .inr ⟨d0, by omega, fun y hy => ?_⟩
          rw [List.drop_eq_getElem_cons hi] at hy
          rcases List.mem_cons.1 hy with rfl | hy
          · exact hB
          · exact d2 y hy
  refine EvP_mono (key l.length 0 (by omega) _ (by omega) (by omega)) (fun r hr => ?_)
  rcases hr with h | ⟨d0, d1, d2⟩
  · exact .inl h
  · exact .inr ⟨d0, by omega, by omega, by simpa using d2⟩

def d_cv_Kind (x : S208) : S213 := ⟨x.f0, x.f1, x.f2.map d_cv_Const, x.f3.map d_cv_Field, x.f4.map d_cv_Code⟩
def d_B_Kind (x : S208) : Prop := (x.f2.length ≤ 1048576 ∧ ∀ y ∈ x.f2, d_B_Const y) ∧ (x.f3.length ≤ 1048576 ∧ ∀ y ∈ x.f3, d_B_Field y) ∧ (x.f4.length ≤ 1048576 ∧ ∀ y ∈ x.f4, d_B_Code y)
def d_BI_Kind (x : S213) : Prop := (x.f2.length ≤ 2000000000 ∧ ∀ y ∈ x.f2, d_BI_Const y) ∧ (x.f3.length ≤ 2000000000 ∧ ∀ y ∈ x.f3, d_BI_Field y) ∧ (x.f4.length ≤ 2000000000 ∧ ∀ y ∈ x.f4, d_BI_Code y)

theorem d_bi_Kind {x : S208} (h : d_B_Kind x) : d_BI_Kind (d_cv_Kind x) := by
  unfold d_B_Kind at h
  unfold d_BI_Kind d_cv_Kind
  exact ⟨(by have q := h.1; rw [List.length_map]; exact ⟨by have := q.1; omega, fun y hy => by obtain ⟨z, hz, rfl⟩ := List.mem_map.1 hy; exact d_bi_Const (q.2 z hz)⟩), (by have q := h.2.1; rw [List.length_map]; exact ⟨by have := q.1; omega, fun y hy => by obtain ⟨z, hz, rfl⟩ := List.mem_map.1 hy; exact d_bi_Field (q.2 z hz)⟩), (by have q := h.2.2; rw [List.length_map]; exact ⟨by have := q.1; omega, fun y hy => by obtain ⟨z, hz, rfl⟩ := List.mem_map.1 hy; exact d_bi_Code (q.2 z hz)⟩)⟩

theorem d_sz1_Kind (y : S208) (a : Int) (ha : 0 ≤ a) (hb : a ≤ 1048576) (hg : G208 y) : EvP (fun k => laws_szKind.f k y.f0 y.f1 y.f2 y.f3 y.f4 a) (fun r => r = -1 ∨ (0 ≤ r ∧ r ≤ a ∧ d_B_Kind y)) := by
  unfold laws_szKind.f
  have hg2 := hg
  unfold G208 at hg2
  unfold maxLen at hg2
  have m0 : y.f0.size ≤ 140737488351232 ∨ True := .inr trivial
  have n0 := hg2.1
  rw [wr (x := a - (y.f0.size : Int)) (by omega) (by omega)]
  refine EvP_ite (fun _ => EvP_now (.inl rfl)) (fun x0 => ?_)
  have n2 := hg2.2.2.1
  refine EvP_bind (d_szS_Const y.f2 (a - (y.f0.size : Int)) (by omega) (by omega) (by unfold maxLen; exact n2.1) n2.2) (fun r2 hr2 => ?_)
  rcases hr2 with rfl | ⟨c2, e2, b2⟩
  · exact EvP_pos (by omega) (EvP_now (.inl rfl))
  refine EvP_neg (by omega) ?_
  have n3 := hg2.2.2.2.1
  refine EvP_bind (d_szS_Field y.f3 (r2) (by omega) (by omega) (by unfold maxLen; exact n3.1) n3.2) (fun r3 hr3 => ?_)
  rcases hr3 with rfl | ⟨c3, e3, b3⟩
  · exact EvP_pos (by omega) (EvP_now (.inl rfl))
  refine EvP_neg (by omega) ?_
  have n4 := hg2.2.2.2.2
  refine EvP_bind (d_szS_Code y.f4 (r3) (by omega) (by omega) (by unfold maxLen; exact n4.1) n4.2) (fun r4 hr4 => ?_)
  rcases hr4 with rfl | ⟨c4, e4, b4⟩
  · exact EvP_pos (by omega) (EvP_now (.inl rfl))
  refine EvP_neg (by omega) ?_
  exact EvP_now (.inr ⟨by omega, by omega, ⟨b2, b3, b4⟩⟩)

theorem d_szS_Kind (l : List S208) (a : Int) (ha : 0 ≤ a) (hb : a ≤ 1048576) (hm : l.length ≤ maxLen) (hg : ∀ y ∈ l, G208 y) : EvP (fun k => laws_szKindS.f k l a) (fun r => r = -1 ∨ (0 ≤ r ∧ r ≤ a ∧ (l.length ≤ 1048576 ∧ ∀ y ∈ l, d_B_Kind y))) := by
  unfold maxLen at hm
  unfold laws_szKindS.f
  rw [wr (x := a - (l.length : Int)) (by omega) (by omega)]
  refine EvP_ite (fun _ => EvP_now (.inl rfl)) (fun h => ?_)
  have key : ∀ d i : Nat, i + d = l.length → ∀ b : Int, 0 ≤ b → b ≤ a → EvP (fun k => laws_szKindS.l0 k l b (i : Int)) (fun r => r = -1 ∨ (0 ≤ r ∧ r ≤ b ∧ ∀ y ∈ l.drop i, d_B_Kind y)) := by
    intro d
    induction d with
    | zero =>
      intro i hi b h0 h1
      refine EvP_succ ?_
      simp only [laws_szKindS.l0]
      refine EvP_neg (by omega) (EvP_now (.inr ⟨h0, Int.le_refl _, by rw [show i = l.length by omega, List.drop_length]; simp⟩))
    | succ d ih =>
      intro i hi0 b h0 h1
      have hi : i < l.length := by omega
      refine EvP_succ ?_
      simp only [laws_szKindS.l0]
      rw [rd208 hi, wr1 hi (by omega)]
      refine EvP_pos (by omega) (EvP_pos (by omega) ?_)
      refine EvP_bind (d_sz1_Kind l[i] b h0 (by omega) (hg _ (List.getElem_mem hi))) (fun r hr => ?_)
      rcases hr with rfl | ⟨c0, c1, hB⟩
      · exact EvP_pos (by omega) (EvP_now (.inl rfl))
      · refine EvP_neg (by omega) (EvP_mono (ih (i + 1) (by omega) r c0 (by omega)) (fun q hq => ?_))
        rcases hq with h | ⟨d0, d1, d2⟩
        · exact .inl h
        · refine .inr ⟨d0, by omega, fun y hy => ?_⟩
          rw [List.drop_eq_getElem_cons hi] at hy
          rcases List.mem_cons.1 hy with rfl | hy
          · exact hB
          · exact d2 y hy
  refine EvP_mono (key l.length 0 (by omega) _ (by omega) (by omega)) (fun r hr => ?_)
  rcases hr with h | ⟨d0, d1, d2⟩
  · exact .inl h
  · exact .inr ⟨d0, by omega, by omega, by simpa using d2⟩

def d_cv_Prog (x : S93) : List S213 := x.f0.map d_cv_Kind
def d_B_Prog (x : S93) : Prop := (x.f0.length ≤ 1048576 ∧ ∀ y ∈ x.f0, d_B_Kind y)
def d_BI_Prog (x : List S213) : Prop := (x.length ≤ 2000000000 ∧ ∀ y ∈ x, d_BI_Kind y)

theorem d_bi_Prog {x : S93} (h : d_B_Prog x) : d_BI_Prog (d_cv_Prog x) := by
  unfold d_B_Prog at h
  unfold d_BI_Prog d_cv_Prog
  exact (by have q := h; rw [List.length_map]; exact ⟨by have := q.1; omega, fun y hy => by obtain ⟨z, hz, rfl⟩ := List.mem_map.1 hy; exact d_bi_Kind (q.2 z hz)⟩)

theorem d_sz1_Prog (y : S93) (a : Int) (ha : 0 ≤ a) (hb : a ≤ 1048576) (hg : G93 y) : EvP (fun k => laws_szProg.f k y.f0 a) (fun r => r = -1 ∨ (0 ≤ r ∧ r ≤ a ∧ d_B_Prog y)) := by
  unfold laws_szProg.f
  have hg2 := hg
  unfold G93 at hg2
  unfold maxLen at hg2
  have n0 := hg2
  refine EvP_bind (d_szS_Kind y.f0 (a) (by omega) (by omega) (by unfold maxLen; exact n0.1) n0.2) (fun r0 hr0 => ?_)
  rcases hr0 with rfl | ⟨c0, e0, b0⟩
  · exact EvP_pos (by omega) (EvP_now (.inl rfl))
  refine EvP_neg (by omega) ?_
  exact EvP_now (.inr ⟨by omega, by omega, b0⟩)

theorem d_to1_Const (y : S250) (hB : d_B_Const y) : Ev (fun _ => laws_toConst.f y.f0 y.f1 y.f2 y.f3) (y.f0, y.f1, y.f2, y.f3) := by
  unfold laws_toConst.f
  unfold d_B_Const at hB
  exact Ev.now _

theorem d_toS_Const (l : List S250) (hB : (l.length ≤ 1048576 ∧ ∀ y ∈ l, d_B_Const y)) : Ev (fun k => laws_toConstS.f k l) (l.map d_cv_Const) := by
  have hl : l.length ≤ 1048576 := hB.1
  have key : Ev (fun k => laws_toConstS.f k l) (l.map d_cv_Const) := by
   unfold laws_toConstS.f
   refine Ev_pos (by omega) ?_
   rw [Int.toNat_natCast]
   refine Ev_pos (by omega) ?_
   refine evFill (fun k xs i => laws_toConstS.l0 k l xs i) l d_cv_Const z242 (fun xs hx => ?_) (fun xs i hi r hx ih => ?_)
   · refine Ev_succ ?_
     simp only [laws_toConstS.l0]
     exact Ev_neg (by omega) (Ev.now _)
   · refine Ev_succ ?_
     simp only [laws_toConstS.l0]
     refine Ev_pos (by omega) (Ev_pos (by omega) ?_)
     rw [rd250 hi]
     refine Ev.bind (d_to1_Const l[i] (hB.2 _ (List.getElem_mem hi))) (Ev_pos (by omega) ?_)
     rw [wr1 hi (by omega), Int.toNat_natCast]
     exact ih
  exact key

theorem d_to1_Field (y : S252) (hB : d_B_Field y) : Ev (fun _ => laws_toField.f y.f0 y.f1) (y.f0, y.f1) := by
  unfold laws_toField.f
  unfold d_B_Field at hB
  exact Ev.now _

theorem d_toS_Field (l : List S252) (hB : (l.length ≤ 1048576 ∧ ∀ y ∈ l, d_B_Field y)) : Ev (fun k => laws_toFieldS.f k l) (l.map d_cv_Field) := by
  have hl : l.length ≤ 1048576 := hB.1
  have key : Ev (fun k => laws_toFieldS.f k l) (l.map d_cv_Field) := by
   unfold laws_toFieldS.f
   refine Ev_pos (by omega) ?_
   rw [Int.toNat_natCast]
   refine Ev_pos (by omega) ?_
   refine evFill (fun k xs i => laws_toFieldS.l0 k l xs i) l d_cv_Field z216 (fun xs hx => ?_) (fun xs i hi r hx ih => ?_)
   · refine Ev_succ ?_
     simp only [laws_toFieldS.l0]
     exact Ev_neg (by omega) (Ev.now _)
   · refine Ev_succ ?_
     simp only [laws_toFieldS.l0]
     refine Ev_pos (by omega) (Ev_pos (by omega) ?_)
     rw [rd252 hi]
     refine Ev.bind (d_to1_Field l[i] (hB.2 _ (List.getElem_mem hi))) (Ev_pos (by omega) ?_)
     rw [wr1 hi (by omega), Int.toNat_natCast]
     exact ih
  exact key

theorem d_toS_String (l : List ByteArray) (hB : (l.length ≤ 1048576)) : Ev (fun k => laws_toStringS.f k l) l := by
  have hl : l.length ≤ 1048576 := hB
  have key : Ev (fun k => laws_toStringS.f k l) (l.map id) := by
   unfold laws_toStringS.f
   refine Ev_pos (by omega) ?_
   rw [Int.toNat_natCast]
   refine Ev_pos (by omega) ?_
   refine evFill (fun k xs i => laws_toStringS.l0 k l xs i) l id (⟨#[]⟩ : ByteArray) (fun xs hx => ?_) (fun xs i hi r hx ih => ?_)
   · refine Ev_succ ?_
     simp only [laws_toStringS.l0]
     exact Ev_neg (by omega) (Ev.now _)
   · refine Ev_succ ?_
     simp only [laws_toStringS.l0]
     refine Ev_pos (by omega) (Ev_pos (by omega) (Ev_pos (by omega) ?_))
     rw [wr1 hi (by omega), rdS_ hi, Int.toNat_natCast]
     exact ih
  simpa using key

theorem d_to1_Ins (y : S271) (hB : d_B_Ins y) : Ev (fun _ => laws_toIns.f y.f0 y.f1) (y.f0, y.f1) := by
  unfold laws_toIns.f
  unfold d_B_Ins at hB
  exact Ev.now _

theorem d_toS_Ins (l : List S271) (hB : (l.length ≤ 1048576 ∧ ∀ y ∈ l, d_B_Ins y)) : Ev (fun k => laws_toInsS.f k l) (l.map d_cv_Ins) := by
  have hl : l.length ≤ 1048576 := hB.1
  have key : Ev (fun k => laws_toInsS.f k l) (l.map d_cv_Ins) := by
   unfold laws_toInsS.f
   refine Ev_pos (by omega) ?_
   rw [Int.toNat_natCast]
   refine Ev_pos (by omega) ?_
   refine evFill (fun k xs i => laws_toInsS.l0 k l xs i) l d_cv_Ins z264 (fun xs hx => ?_) (fun xs i hi r hx ih => ?_)
   · refine Ev_succ ?_
     simp only [laws_toInsS.l0]
     exact Ev_neg (by omega) (Ev.now _)
   · refine Ev_succ ?_
     simp only [laws_toInsS.l0]
     refine Ev_pos (by omega) (Ev_pos (by omega) ?_)
     rw [rd271 hi]
     refine Ev.bind (d_to1_Ins l[i] (hB.2 _ (List.getElem_mem hi))) (Ev_pos (by omega) ?_)
     rw [wr1 hi (by omega), Int.toNat_natCast]
     exact ih
  exact key

theorem d_to1_Code (y : S256) (hB : d_B_Code y) : Ev (fun k => laws_toCode.f k y.f0 y.f1 y.f2 y.f3 y.f4 y.f5) (y.f0, y.f1, y.f2, y.f3, y.f4, y.f5.map d_cv_Ins) := by
  unfold laws_toCode.f
  unfold d_B_Code at hB
  exact Ev.bind (d_toS_String y.f2 hB.1) (Ev.bind (d_toS_Ins y.f5 hB.2) (Ev.now _))

theorem d_toS_Code (l : List S256) (hB : (l.length ≤ 1048576 ∧ ∀ y ∈ l, d_B_Code y)) : Ev (fun k => laws_toCodeS.f k l) (l.map d_cv_Code) := by
  have hl : l.length ≤ 1048576 := hB.1
  have key : Ev (fun k => laws_toCodeS.f k l) (l.map d_cv_Code) := by
   unfold laws_toCodeS.f
   refine Ev_pos (by omega) ?_
   rw [Int.toNat_natCast]
   refine Ev_pos (by omega) ?_
   refine evFill (fun k xs i => laws_toCodeS.l0 k l xs i) l d_cv_Code z246 (fun xs hx => ?_) (fun xs i hi r hx ih => ?_)
   · refine Ev_succ ?_
     simp only [laws_toCodeS.l0]
     exact Ev_neg (by omega) (Ev.now _)
   · refine Ev_succ ?_
     simp only [laws_toCodeS.l0]
     refine Ev_pos (by omega) (Ev_pos (by omega) ?_)
     rw [rd256 hi]
     refine Ev.bind (d_to1_Code l[i] (hB.2 _ (List.getElem_mem hi))) (Ev_pos (by omega) ?_)
     rw [wr1 hi (by omega), Int.toNat_natCast]
     exact ih
  exact key

theorem d_to1_Kind (y : S208) (hB : d_B_Kind y) : Ev (fun k => laws_toKind.f k y.f0 y.f1 y.f2 y.f3 y.f4) (y.f0, y.f1, y.f2.map d_cv_Const, y.f3.map d_cv_Field, y.f4.map d_cv_Code) := by
  unfold laws_toKind.f
  unfold d_B_Kind at hB
  exact Ev.bind (d_toS_Const y.f2 hB.1) (Ev.bind (d_toS_Field y.f3 hB.2.1) (Ev.bind (d_toS_Code y.f4 hB.2.2) (Ev.now _)))

theorem d_toS_Kind (l : List S208) (hB : (l.length ≤ 1048576 ∧ ∀ y ∈ l, d_B_Kind y)) : Ev (fun k => laws_toKindS.f k l) (l.map d_cv_Kind) := by
  have hl : l.length ≤ 1048576 := hB.1
  have key : Ev (fun k => laws_toKindS.f k l) (l.map d_cv_Kind) := by
   unfold laws_toKindS.f
   refine Ev_pos (by omega) ?_
   rw [Int.toNat_natCast]
   refine Ev_pos (by omega) ?_
   refine evFill (fun k xs i => laws_toKindS.l0 k l xs i) l d_cv_Kind z213 (fun xs hx => ?_) (fun xs i hi r hx ih => ?_)
   · refine Ev_succ ?_
     simp only [laws_toKindS.l0]
     exact Ev_neg (by omega) (Ev.now _)
   · refine Ev_succ ?_
     simp only [laws_toKindS.l0]
     refine Ev_pos (by omega) (Ev_pos (by omega) ?_)
     rw [rd208 hi]
     refine Ev.bind (d_to1_Kind l[i] (hB.2 _ (List.getElem_mem hi))) (Ev_pos (by omega) ?_)
     rw [wr1 hi (by omega), Int.toNat_natCast]
     exact ih
  exact key

theorem d_to1_Prog (y : S93) (hB : d_B_Prog y) : Ev (fun k => laws_toProg.f k y.f0) (y.f0.map d_cv_Kind) := by
  unfold laws_toProg.f
  unfold d_B_Prog at hB
  exact Ev.bind (d_toS_Kind y.f0 hB) (Ev.now _)

theorem d_eq1_Const (y : S242) (hB : d_BI_Const y) : Ev (fun _ => laws_eqConst.f y.f0 y.f1 y.f2 y.f3 y.f0 y.f1 y.f2 y.f3) true := by
  unfold laws_eqConst.f
  unfold d_BI_Const at hB
  refine Ev_pos rfl ?_
  refine Ev_pos rfl ?_
  refine Ev_pos rfl ?_
  refine Ev_pos rfl ?_
  exact Ev.now _

theorem d_eqS_Const (l : List S242) (hB : (l.length ≤ 2000000000 ∧ ∀ y ∈ l, d_BI_Const y)) : Ev (fun k => laws_eqConstS.f k l l) true := by
  have hl : l.length ≤ 2000000000 := hB.1
  unfold laws_eqConstS.f
  refine Ev_pos rfl ?_
  refine down (P := fun i => Ev (fun k => laws_eqConstS.l0 k l l (i : Int)) true) l.length ?_ ?_ 0 (Nat.zero_le _)
  · refine Ev_succ ?_
    simp only [laws_eqConstS.l0]
    exact Ev_neg (by omega) (Ev.now _)
  · intro i hi ih
    refine Ev_succ ?_
    simp only [laws_eqConstS.l0]
    rw [wr1 hi (by omega)]
    rw [rd242 hi]
    exact Ev_pos (by omega) (Ev_pos (by omega) (Ev_pos (by omega) (Ev.bind (d_eq1_Const l[i] (hB.2 _ (List.getElem_mem hi))) (Ev_pos rfl ih))))

theorem d_eq1_Field (y : S216) (hB : d_BI_Field y) : Ev (fun _ => laws_eqField.f y.f0 y.f1 y.f0 y.f1) true := by
  unfold laws_eqField.f
  unfold d_BI_Field at hB
  refine Ev_pos rfl ?_
  refine Ev_pos rfl ?_
  exact Ev.now _

theorem d_eqS_Field (l : List S216) (hB : (l.length ≤ 2000000000 ∧ ∀ y ∈ l, d_BI_Field y)) : Ev (fun k => laws_eqFieldS.f k l l) true := by
  have hl : l.length ≤ 2000000000 := hB.1
  unfold laws_eqFieldS.f
  refine Ev_pos rfl ?_
  refine down (P := fun i => Ev (fun k => laws_eqFieldS.l0 k l l (i : Int)) true) l.length ?_ ?_ 0 (Nat.zero_le _)
  · refine Ev_succ ?_
    simp only [laws_eqFieldS.l0]
    exact Ev_neg (by omega) (Ev.now _)
  · intro i hi ih
    refine Ev_succ ?_
    simp only [laws_eqFieldS.l0]
    rw [wr1 hi (by omega)]
    rw [rd216 hi]
    exact Ev_pos (by omega) (Ev_pos (by omega) (Ev_pos (by omega) (Ev.bind (d_eq1_Field l[i] (hB.2 _ (List.getElem_mem hi))) (Ev_pos rfl ih))))

theorem d_eqS_String (l : List ByteArray) (hB : (l.length ≤ 2000000000)) : Ev (fun k => laws_eqStringS.f k l l) true := by
  have hl : l.length ≤ 2000000000 := hB
  unfold laws_eqStringS.f
  refine Ev_pos rfl ?_
  refine down (P := fun i => Ev (fun k => laws_eqStringS.l0 k l l (i : Int)) true) l.length ?_ ?_ 0 (Nat.zero_le _)
  · refine Ev_succ ?_
    simp only [laws_eqStringS.l0]
    exact Ev_neg (by omega) (Ev.now _)
  · intro i hi ih
    refine Ev_succ ?_
    simp only [laws_eqStringS.l0]
    rw [wr1 hi (by omega)]
    exact Ev_pos (by omega) (Ev_pos (by omega) (Ev_pos (by omega) (Ev_pos (by simp) ih)))

theorem d_eq1_Ins (y : S264) (hB : d_BI_Ins y) : Ev (fun _ => laws_eqIns.f y.f0 y.f1 y.f0 y.f1) true := by
  unfold laws_eqIns.f
  unfold d_BI_Ins at hB
  refine Ev_pos rfl ?_
  refine Ev_pos rfl ?_
  exact Ev.now _

theorem d_eqS_Ins (l : List S264) (hB : (l.length ≤ 2000000000 ∧ ∀ y ∈ l, d_BI_Ins y)) : Ev (fun k => laws_eqInsS.f k l l) true := by
  have hl : l.length ≤ 2000000000 := hB.1
  unfold laws_eqInsS.f
  refine Ev_pos rfl ?_
  refine down (P := fun i => Ev (fun k => laws_eqInsS.l0 k l l (i : Int)) true) l.length ?_ ?_ 0 (Nat.zero_le _)
  · refine Ev_succ ?_
    simp only [laws_eqInsS.l0]
    exact Ev_neg (by omega) (Ev.now _)
  · intro i hi ih
    refine Ev_succ ?_
    simp only [laws_eqInsS.l0]
    rw [wr1 hi (by omega)]
    rw [rd264 hi]
    exact Ev_pos (by omega) (Ev_pos (by omega) (Ev_pos (by omega) (Ev.bind (d_eq1_Ins l[i] (hB.2 _ (List.getElem_mem hi))) (Ev_pos rfl ih))))

theorem d_eq1_Code (y : S246) (hB : d_BI_Code y) : Ev (fun k => laws_eqCode.f k y.f0 y.f1 y.f2 y.f3 y.f4 y.f5 y.f0 y.f1 y.f2 y.f3 y.f4 y.f5) true := by
  unfold laws_eqCode.f
  unfold d_BI_Code at hB
  refine Ev_pos rfl ?_
  refine Ev_pos rfl ?_
  refine Ev.bind (d_eqS_String y.f2 hB.1) (Ev_pos rfl ?_)
  refine Ev_pos rfl ?_
  refine Ev_pos rfl ?_
  refine Ev.bind (d_eqS_Ins y.f5 hB.2) (Ev_pos rfl ?_)
  exact Ev.now _

theorem d_eqS_Code (l : List S246) (hB : (l.length ≤ 2000000000 ∧ ∀ y ∈ l, d_BI_Code y)) : Ev (fun k => laws_eqCodeS.f k l l) true := by
  have hl : l.length ≤ 2000000000 := hB.1
  unfold laws_eqCodeS.f
  refine Ev_pos rfl ?_
  refine down (P := fun i => Ev (fun k => laws_eqCodeS.l0 k l l (i : Int)) true) l.length ?_ ?_ 0 (Nat.zero_le _)
  · refine Ev_succ ?_
    simp only [laws_eqCodeS.l0]
    exact Ev_neg (by omega) (Ev.now _)
  · intro i hi ih
    refine Ev_succ ?_
    simp only [laws_eqCodeS.l0]
    rw [wr1 hi (by omega)]
    rw [rd246 hi]
    exact Ev_pos (by omega) (Ev_pos (by omega) (Ev_pos (by omega) (Ev.bind (d_eq1_Code l[i] (hB.2 _ (List.getElem_mem hi))) (Ev_pos rfl ih))))

theorem d_eq1_Kind (y : S213) (hB : d_BI_Kind y) : Ev (fun k => laws_eqKind.f k y.f0 y.f1 y.f2 y.f3 y.f4 y.f0 y.f1 y.f2 y.f3 y.f4) true := by
  unfold laws_eqKind.f
  unfold d_BI_Kind at hB
  refine Ev_pos rfl ?_
  refine Ev_pos rfl ?_
  refine Ev.bind (d_eqS_Const y.f2 hB.1) (Ev_pos rfl ?_)
  refine Ev.bind (d_eqS_Field y.f3 hB.2.1) (Ev_pos rfl ?_)
  refine Ev.bind (d_eqS_Code y.f4 hB.2.2) (Ev_pos rfl ?_)
  exact Ev.now _

theorem d_eqS_Kind (l : List S213) (hB : (l.length ≤ 2000000000 ∧ ∀ y ∈ l, d_BI_Kind y)) : Ev (fun k => laws_eqKindS.f k l l) true := by
  have hl : l.length ≤ 2000000000 := hB.1
  unfold laws_eqKindS.f
  refine Ev_pos rfl ?_
  refine down (P := fun i => Ev (fun k => laws_eqKindS.l0 k l l (i : Int)) true) l.length ?_ ?_ 0 (Nat.zero_le _)
  · refine Ev_succ ?_
    simp only [laws_eqKindS.l0]
    exact Ev_neg (by omega) (Ev.now _)
  · intro i hi ih
    refine Ev_succ ?_
    simp only [laws_eqKindS.l0]
    rw [wr1 hi (by omega)]
    rw [rd213 hi]
    exact Ev_pos (by omega) (Ev_pos (by omega) (Ev_pos (by omega) (Ev.bind (d_eq1_Kind l[i] (hB.2 _ (List.getElem_mem hi))) (Ev_pos rfl ih))))

theorem d_eq1_Prog (y : List S213) (hB : d_BI_Prog y) : Ev (fun k => laws_eqProg.f k y y) true := by
  unfold laws_eqProg.f
  unfold d_BI_Prog at hB
  refine Ev.bind (d_eqS_Kind y hB) (Ev_pos rfl ?_)
  exact Ev.now _

theorem v_spec_l1In (a b c : Int) : spec_l1In.f a b c = some (decide (b ≤ a ∧ a ≤ c)) := by
  unfold spec_l1In.f
  by_cases h : a ≥ b
  · rw [if_pos h]
    simp [show b ≤ a from h]
  · rw [if_neg h]
    simp [show ¬ b ≤ a from h]

theorem v_spec_l1Word (a : Int) : spec_l1Word.f a = some (decide ((-2147483648) ≤ a ∧ a ≤ 2147483647)) := by
  unfold spec_l1Word.f
  rw [v_spec_l1In]
  rfl

def valOk (b : Bool) (n : Int) : Bool := if b = true then decide (0 ≤ n ∧ n ≤ 1000000) else decide ((-2147483648) ≤ n ∧ n ≤ 2147483647)
def vOk (l : List S54) (i : Nat) : Bool := valOk (rd_T54 l (i : Int)).f0 (rd_T54 l (i : Int)).f1
def tOk (fs : List S216) (l : List S54) (i : Nat) : Bool := (rd_T54 l (i : Int)).f0 != ((rd_T216 fs (i : Int)).f1.toList == ([73] : List UInt8))
def valuesOk (ks : List S213) (c : Int) (l : List S54) : Bool := decide (0 ≤ c ∧ c ≤ (ks.length : Int) - 1) && decide (l.length = (rd_T213 ks c).f3.length) && ((List.range l.length).all (vOk l) && (List.range l.length).all (tOk (rd_T213 ks c).f3 l))
theorem all_and (n : Nat) (p q : Nat → Bool) : (List.range n).all (fun i => p i && q i) = ((List.range n).all p && (List.range n).all q) := by
  induction n with
  | zero => rfl
  | succ n ih =>
    rw [List.range_succ, List.all_append, List.all_append, List.all_append, ih]
    simp only [List.all_cons, List.all_nil, Bool.and_true]
    cases (List.range n).all p <;> cases (List.range n).all q <;> cases p n <;> cases q n <;> rfl

theorem v_spec_ValOk (b : Bool) (n : Int) : spec_ValOk.f b n = some (valOk b n) := by
  unfold spec_ValOk.f valOk
  rw [v_spec_l1In, v_spec_l1Word]
  split <;> rfl

theorem ev_spec_l14Vals (l : List S54) (hl : l.length ≤ 2000000000) : Ev (fun k => spec_l14Vals.f k l) ((List.range l.length).all (vOk l) && true) := by
  unfold spec_l14Vals.f
  refine evAll (fun k i => spec_l14Vals.l0 k l i) l (vOk l) true ?_ (fun i hi r ht hf => ?_)
  · refine Ev_succ ?_
    simp only [spec_l14Vals.l0]
    exact Ev_neg (by omega) (Ev.now _)
  · refine Ev_succ ?_
    simp only [spec_l14Vals.l0]
    rw [wr1 hi (by omega)]
    refine Ev_pos (by omega) (Ev_pos (by omega) (Ev_some (v_spec_ValOk _ _) ?_))
    cases h : vOk l i with
    | true => exact Ev_pos h (ht h)
    | false => exact Ev_neg (by unfold vOk at h; rw [h]; simp) (Ev_eq (hf h).symm)

theorem ev_spec_l20Fields (ks : List S213) (c : Int) (l : List S54) (hk : ks.length ≤ 2000000000) (hl : l.length ≤ 2000000000) : Ev (fun k => spec_l20Fields.f k ks c l) (valuesOk ks c l) := by
  unfold spec_l20Fields.f
  rw [wr (x := (ks.length : Int) - 1) (by omega) (by omega)]
  have bad : ∀ q : Bool, q = true → valuesOk ks c l = false → Ev (fun k => spec_l20Fields.j0 k c l q ks) (valuesOk ks c l) := by
    intro q hq h
    refine Ev_succ ?_
    simp only [spec_l20Fields.j0]
    exact Ev_pos hq (Ev_eq h.symm)
  refine Ev_some (v_spec_l1In _ _ _) ?_
  by_cases h1 : 0 ≤ c ∧ c ≤ (ks.length : Int) - 1
  case neg => exact Ev_neg (by simpa using h1) (bad _ rfl (by unfold valuesOk; rw [decide_eq_false h1]; rfl))
  refine Ev_pos (decide_eq_true h1) (Ev_pos (by omega) (Ev_pos (by omega) ?_))
  by_cases h2 : l.length = (rd_T213 ks c).f3.length
  case neg => exact Ev_neg (by omega) (bad _ rfl (by unfold valuesOk; rw [decide_eq_false h2]; simp))
  refine Ev_pos (by omega) (Ev.bind (ev_spec_l14Vals l hl) ?_)
  cases h3 : (List.range l.length).all (vOk l) with
  | false => exact bad _ rfl (by unfold valuesOk; rw [h3]; simp)
  | true =>
    refine Ev_succ ?_
    simp only [spec_l20Fields.j0]
    refine Ev_neg (by simp) ?_
    have e : valuesOk ks c l = ((List.range l.length).all (tOk (rd_T213 ks c).f3 l) && true) := by
      unfold valuesOk
      rw [decide_eq_true h1, decide_eq_true h2, h3]
      simp
    rw [e]
    refine evAll (fun k i => spec_l20Fields.l0 k c l i ks) l (tOk (rd_T213 ks c).f3 l) true ?_ (fun i hi r ht hf => ?_)
    · refine Ev_succ ?_
      simp only [spec_l20Fields.l0]
      exact Ev_neg (by omega) (Ev.now _)
    · refine Ev_succ ?_
      simp only [spec_l20Fields.l0]
      rw [wr1 hi (by omega)]
      refine Ev_pos (by omega) (Ev_pos (by omega) (Ev_pos (by omega) (Ev_pos (by omega) (Ev_pos (by omega) ?_))))
      have et : tOk (rd_T213 ks c).f3 l i = !((rd_T54 l (i : Int)).f0 == ((rd_T216 (rd_T213 ks c).f3 (i : Int)).f1.toList == ([73] : List UInt8))) := rfl
      cases h : ((rd_T54 l (i : Int)).f0 == ((rd_T216 (rd_T213 ks c).f3 (i : Int)).f1.toList == ([73] : List UInt8))) with
      | true => exact Ev_pos rfl (Ev_eq (hf (by rw [et, h]; rfl)).symm)
      | false => exact Ev_neg (by simp) (ht (by rw [et, h]; rfl))

def cOk (ks : List S213) (l : List S144) (i : Nat) : Bool := decide (1 ≤ (rd_T144 l (i : Int)).f0 ∧ (rd_T144 l (i : Int)).f0 ≤ 1000000) && decide (0 ≤ (rd_T144 l (i : Int)).f2 ∧ (rd_T144 l (i : Int)).f2 ≤ 16777215) && valuesOk ks (rd_T144 l (i : Int)).f1 (rd_T144 l (i : Int)).f4 && (decide ((rd_T144 l (i : Int)).f5.length = 0) || valuesOk ks (rd_T144 l (i : Int)).f1 (rd_T144 l (i : Int)).f5) && (decide (i = 0) || decide ((rd_T144 l ((i - 1 : Nat) : Int)).f0 < (rd_T144 l (i : Int)).f0))
def copiesOk (ks : List S213) (l : List S144) : Bool := (List.range l.length).all (cOk ks l) && true

theorem ev_spec_CopiesOk (ks : List S213) (l : List S144) (hk : ks.length ≤ 2000000000) (hl : l.length ≤ 2000000000) (hB4 : ∀ y ∈ l, y.f4.length ≤ 2000000000) (hB5 : ∀ y ∈ l, y.f5.length ≤ 2000000000) : Ev (fun k => spec_CopiesOk.f k ks l) (copiesOk ks l) := by
  unfold spec_CopiesOk.f
  refine evAll (fun k i => spec_CopiesOk.l0 k l i ks) l (cOk ks l) true ?_ (fun i hi r ht hf => ?_)
  · refine Ev_succ ?_
    simp only [spec_CopiesOk.l0]
    exact Ev_neg (by omega) (Ev.now _)
  have hb4 := hB4 _ (List.getElem_mem hi)
  have hb5 := hB5 _ (List.getElem_mem hi)
  rw [← rd144 hi] at hb4 hb5
  have cj : ∀ q : Bool, (cOk ks l i = !q) → Ev (fun k => spec_CopiesOk.j1 k l (i : Int) q ks) r := by
    intro q h
    refine Ev_succ ?_
    simp only [spec_CopiesOk.j1]
    rw [wr1 hi (by omega)]
    cases q with
    | true => exact Ev_pos rfl (Ev_eq (hf h).symm)
    | false => exact Ev_neg (by simp) (ht h)
  refine Ev_succ ?_
  simp only [spec_CopiesOk.l0]
  refine Ev_pos (by omega) (Ev_pos (by omega) (Ev_some (v_spec_l1In _ _ _) ?_))
  by_cases c1 : 1 ≤ (rd_T144 l (i : Int)).f0 ∧ (rd_T144 l (i : Int)).f0 ≤ 1000000
  case neg => exact Ev_neg (by simpa using c1) (cj _ (by unfold cOk; rw [decide_eq_false c1]; simp))
  refine Ev_pos (decide_eq_true c1) ?_
  have tail : (decide (i = 0) || decide ((rd_T144 l ((i - 1 : Nat) : Int)).f0 < (rd_T144 l (i : Int)).f0)) = true → Ev (fun k => (spec_l1In.f (rd_T144 l (i : Int)).f2 0 16777215).bind fun t3 => (if t3 = true then ((spec_l20Fields.f k ks (rd_T144 l (i : Int)).f1 (rd_T144 l (i : Int)).f4).bind fun t4 => (if t4 = true then (if (((rd_T144 l (i : Int)).f5).length : Int) > 0 then ((spec_l20Fields.f k ks (rd_T144 l (i : Int)).f1 (rd_T144 l (i : Int)).f5).bind fun t5 => (spec_CopiesOk.j1 k l (i : Int) (!t5) ks)) else (spec_CopiesOk.j1 k l (i : Int) false ks)) else (spec_CopiesOk.j1 k l (i : Int) true ks))) else (spec_CopiesOk.j1 k l (i : Int) true ks))) r := by
    intro e5
    refine Ev_some (v_spec_l1In _ _ _) ?_
    by_cases c2 : 0 ≤ (rd_T144 l (i : Int)).f2 ∧ (rd_T144 l (i : Int)).f2 ≤ 16777215
    case neg => exact Ev_neg (by simpa using c2) (cj _ (by unfold cOk; rw [decide_eq_false c2]; simp))
    refine Ev_pos (decide_eq_true c2) (Ev.bind (ev_spec_l20Fields ks _ _ hk hb4) ?_)
    cases c3 : valuesOk ks (rd_T144 l (i : Int)).f1 (rd_T144 l (i : Int)).f4 with
    | false => exact Ev_neg (by simp) (cj _ (by unfold cOk; rw [c3]; simp))
    | true =>
      refine Ev_pos rfl ?_
      by_cases c7 : (rd_T144 l (i : Int)).f5.length = 0
      · exact Ev_neg (by omega) (cj _ (by unfold cOk; rw [decide_eq_true c1, decide_eq_true c2, c3, decide_eq_true c7, e5]; rfl))
      · refine Ev_pos (by omega) (Ev.bind (ev_spec_l20Fields ks _ _ hk hb5) (cj _ ?_))
        unfold cOk
        rw [decide_eq_true c1, decide_eq_true c2, c3, decide_eq_false c7, e5]
        simp
  by_cases c5 : i = 0
  · exact Ev_neg (by omega) (tail (by rw [decide_eq_true c5]; rfl))
  · have ew : wrap64 ((i : Int) - 1) = ((i - 1 : Nat) : Int) := by rw [wr (by omega) (by omega)]; omega
    refine Ev_pos (by omega) ?_
    rw [ew]
    refine Ev_pos (by omega) (Ev_pos (by omega) ?_)
    by_cases c6 : (rd_T144 l ((i - 1 : Nat) : Int)).f0 < (rd_T144 l (i : Int)).f0
    · exact Ev_neg (by omega) (tail (by rw [decide_eq_true c6]; simp))
    · exact Ev_pos (by omega) (cj _ (by unfold cOk; rw [decide_eq_false c6, decide_eq_false c5]; simp))

theorem v_impl_within (a b c : Int) : impl_within.f a b c = some (decide (b ≤ a ∧ a ≤ c)) := by
  unfold impl_within.f
  by_cases h : a ≥ b
  · rw [if_pos h]
    simp [show b ≤ a from h]
  · rw [if_neg h]
    simp [show ¬ b ≤ a from h]

theorem v_impl_isId (a : Int) : impl_isId.f a = some (decide (1 ≤ a ∧ a ≤ 1000000)) := by
  unfold impl_isId.f
  rw [v_impl_within]
  rfl

theorem v_impl_isWord (a : Int) : impl_isWord.f a = some (decide ((-2147483648) ≤ a ∧ a ≤ 2147483647)) := by
  unfold impl_isWord.f
  rw [v_impl_within]
  rfl

theorem v_impl_ValOk (b : Bool) (n : Int) : impl_ValOk.f b n = some (valOk b n) := by
  unfold impl_ValOk.f valOk
  rw [v_impl_within, v_impl_isWord]
  split <;> rfl

theorem ev_impl_valuesOk (ks : List S213) (c : Int) (l : List S54) (hk : ks.length ≤ 2000000000) (hl : l.length ≤ 2000000000) : Ev (fun k => impl_valuesOk.f k ks c l) (valuesOk ks c l) := by
  unfold impl_valuesOk.f
  rw [wr (x := (ks.length : Int) - 1) (by omega) (by omega)]
  have bad : ∀ q : Bool, q = true → valuesOk ks c l = false → Ev (fun k => impl_valuesOk.j0 k c l q ks) (valuesOk ks c l) := by
    intro q hq h
    refine Ev_succ ?_
    simp only [impl_valuesOk.j0]
    exact Ev_pos hq (Ev_eq h.symm)
  refine Ev_some (v_impl_within _ _ _) ?_
  by_cases h1 : 0 ≤ c ∧ c ≤ (ks.length : Int) - 1
  case neg => exact Ev_neg (by simpa using h1) (bad _ rfl (by unfold valuesOk; rw [decide_eq_false h1]; rfl))
  refine Ev_pos (decide_eq_true h1) (Ev_pos (by omega) (Ev_pos (by omega) ?_))
  by_cases h2 : l.length = (rd_T213 ks c).f3.length
  case neg => exact bad _ (by simp; omega) (by unfold valuesOk; rw [decide_eq_false h2]; simp)
  refine Ev_succ ?_
  simp only [impl_valuesOk.j0]
  refine Ev_neg (by simp; omega) (Ev_pos (by omega) (Ev_pos (by omega) ?_))
  have e : valuesOk ks c l = ((List.range (rd_T213 ks c).f3.length).all (fun i => vOk l i && tOk (rd_T213 ks c).f3 l i) && true) := by
    unfold valuesOk
    rw [decide_eq_true h1, decide_eq_true h2, all_and, ← h2]
    simp
  rw [e]
  refine evAll (fun k i => impl_valuesOk.l0 k l (rd_T213 ks c).f3 ((rd_T213 ks c).f3.length : Int) i) (rd_T213 ks c).f3 (fun i => vOk l i && tOk (rd_T213 ks c).f3 l i) true ?_ (fun i hi r ht hf => ?_)
  · refine Ev_succ ?_
    simp only [impl_valuesOk.l0]
    exact Ev_neg (by omega) (Ev.now _)
  · refine Ev_succ ?_
    simp only [impl_valuesOk.l0]
    rw [wr1 hi (by omega)]
    refine Ev_pos (by omega) (Ev_pos (by omega) (Ev_pos (by omega) (Ev_pos (by omega) (Ev_some (v_impl_ValOk _ _) ?_))))
    cases h3 : vOk l i with
    | false =>
      rw [h3] at hf
      exact Ev_neg (by unfold vOk at h3; rw [h3]; simp) (Ev_eq (hf rfl).symm)
    | true =>
      rw [h3] at ht hf
      refine Ev_pos (by unfold vOk at h3; exact h3) ?_
      have et : ((rd_T54 l (i : Int)).f0 != ((rd_T216 (rd_T213 ks c).f3 (i : Int)).f1.toList != ([73] : List UInt8))) = !(tOk (rd_T213 ks c).f3 l i) := by
        unfold tOk bne
        cases (rd_T54 l (i : Int)).f0 <;> cases ((rd_T216 (rd_T213 ks c).f3 (i : Int)).f1.toList == ([73] : List UInt8)) <;> rfl
      rw [et]
      cases h4 : tOk (rd_T213 ks c).f3 l i with
      | false => rw [h4] at hf; exact Ev_pos rfl (Ev_eq (hf rfl).symm)
      | true => rw [h4] at ht; exact Ev_neg (by simp) (ht rfl)

theorem ev_impl_CopiesOk (ks : List S213) (l : List S144) (hk : ks.length ≤ 2000000000) (hl : l.length ≤ 2000000000) (hB4 : ∀ y ∈ l, y.f4.length ≤ 2000000000) (hB5 : ∀ y ∈ l, y.f5.length ≤ 2000000000) : Ev (fun k => impl_CopiesOk.f k ks l) (copiesOk ks l) := by
  unfold impl_CopiesOk.f
  refine evAll (fun k i => impl_CopiesOk.l0 k l l (l.length : Int) i ks) l (cOk ks l) true ?_ (fun i hi r ht hf => ?_)
  · refine Ev_succ ?_
    simp only [impl_CopiesOk.l0]
    exact Ev_neg (by omega) (Ev.now _)
  have hb4 := hB4 _ (List.getElem_mem hi)
  have hb5 := hB5 _ (List.getElem_mem hi)
  rw [← rd144 hi] at hb4 hb5
  have cj : ∀ q : Bool, (q = true → cOk ks l i = false) → (q = false → cOk ks l i = (decide ((rd_T144 l (i : Int)).f5.length = 0) || valuesOk ks (rd_T144 l (i : Int)).f1 (rd_T144 l (i : Int)).f5)) → Ev (fun k => impl_CopiesOk.j1 k l l (l.length : Int) (i : Int) q ks (rd_T144 l (i : Int)).f0 (rd_T144 l (i : Int)).f1 (rd_T144 l (i : Int)).f2 (rd_T144 l (i : Int)).f3 (rd_T144 l (i : Int)).f4 (rd_T144 l (i : Int)).f5) r := by
    intro q h1 h2
    refine Ev_succ ?_
    simp only [impl_CopiesOk.j1]
    rw [wr1 hi (by omega)]
    cases q with
    | true => exact Ev_pos rfl (Ev_eq (hf (h1 rfl)).symm)
    | false =>
      refine Ev_neg (by simp) ?_
      have h := h2 rfl
      by_cases c7 : (rd_T144 l (i : Int)).f5.length = 0
      · exact Ev_neg (by omega) (ht (by rw [h, decide_eq_true c7]; rfl))
      · refine Ev_pos (by omega) (Ev.bind (ev_impl_valuesOk ks _ _ hk hb5) ?_)
        cases c8 : valuesOk ks (rd_T144 l (i : Int)).f1 (rd_T144 l (i : Int)).f5 with
        | true => exact Ev_pos rfl (ht (by rw [h, c8]; simp))
        | false => exact Ev_neg (by simp) (Ev_eq (hf (by rw [h, c8, decide_eq_false c7]; rfl)).symm)
  refine Ev_succ ?_
  simp only [impl_CopiesOk.l0]
  refine Ev_pos (by omega) (Ev_pos (by omega) (Ev_pos (by omega) (Ev_some (v_impl_isId _) ?_)))
  by_cases c1 : 1 ≤ (rd_T144 l (i : Int)).f0 ∧ (rd_T144 l (i : Int)).f0 ≤ 1000000
  case neg => exact Ev_neg (by simpa using c1) (cj _ (fun _ => by unfold cOk; rw [decide_eq_false c1]; simp) (fun h => absurd h (by simp)))
  refine Ev_pos (decide_eq_true c1) (Ev_some (v_impl_within _ _ _) ?_)
  by_cases c2 : 0 ≤ (rd_T144 l (i : Int)).f2 ∧ (rd_T144 l (i : Int)).f2 ≤ 16777215
  case neg => exact Ev_neg (by simpa using c2) (cj _ (fun _ => by unfold cOk; rw [decide_eq_false c2]; simp) (fun h => absurd h (by simp)))
  refine Ev_pos (decide_eq_true c2) (Ev.bind (ev_impl_valuesOk ks _ _ hk hb4) ?_)
  cases c3 : valuesOk ks (rd_T144 l (i : Int)).f1 (rd_T144 l (i : Int)).f4 with
  | false => exact Ev_neg (by simp) (cj _ (fun _ => by unfold cOk; rw [c3]; simp) (fun h => absurd h (by simp)))
  | true =>
    refine Ev_pos rfl ?_
    by_cases c5 : i = 0
    · exact Ev_neg (by omega) (cj _ (fun h => absurd h (by simp)) (fun _ => by unfold cOk; rw [decide_eq_true c1, decide_eq_true c2, c3, decide_eq_true c5]; simp))
    · have ew : wrap64 ((i : Int) - 1) = ((i - 1 : Nat) : Int) := by rw [wr (by omega) (by omega)]; omega
      refine Ev_pos (by omega) ?_
      rw [ew]
      refine Ev_pos (by omega) (Ev_pos (by omega) (cj _ (fun h => ?_) (fun h => ?_)))
      · have h3 := of_decide_eq_true h
        unfold cOk
        rw [decide_eq_false c5, decide_eq_false (show ¬ (rd_T144 l ((i - 1 : Nat) : Int)).f0 < (rd_T144 l (i : Int)).f0 by omega)]
        simp
      · have h3 := of_decide_eq_false h
        unfold cOk
        rw [decide_eq_true c1, decide_eq_true c2, c3, decide_eq_true (show (rd_T144 l ((i - 1 : Nat) : Int)).f0 < (rd_T144 l (i : Int)).f0 by omega)]
        simp

theorem pure_law : laws_FnExactCopiesOk.Pure := by
  intro y0 l1 hg0 hm hg
  refine EvP_true (g := fun k => laws_FnExactCopiesOk.f k y0.f0 l1) ?_
  unfold laws_FnExactCopiesOk.f
  refine EvP_bind (d_sz1_Prog y0 1048576 (by omega) (by omega) hg0) (fun r hr => ?_)
  rcases hr with rfl | ⟨c0, c1, hB0⟩
  · exact EvP_pos (by omega) (EvP_now rfl)
  refine EvP_neg (by omega) (EvP_bind (d_szS_Copy l1 r c0 c1 hm hg) (fun q hq => ?_))
  rcases hq with rfl | ⟨d0, d1, hB1⟩
  · exact EvP_pos (by omega) (EvP_now rfl)
  have b0 := d_bi_Prog hB0
  have b1 : (l1.map d_cv_Copy).length ≤ 2000000000 ∧ ∀ y ∈ l1.map d_cv_Copy, d_BI_Copy y := by
    rw [List.length_map]
    refine ⟨by have := hB1.1; omega, fun y hy => ?_⟩
    obtain ⟨z, hz, rfl⟩ := List.mem_map.1 hy
    exact d_bi_Copy (hB1.2 z hz)
  have e0 := d_to1_Prog y0 hB0
  have e1 := d_toS_Copy l1 hB1
  have k0 : (y0.f0.map d_cv_Kind).length ≤ 2000000000 := by rw [List.length_map]; have := hB0.1; omega
  have v4 : ∀ y ∈ l1.map d_cv_Copy, y.f4.length ≤ 2000000000 := fun y hy => (b1.2 y hy).1.1
  have v5 : ∀ y ∈ l1.map d_cv_Copy, y.f5.length ≤ 2000000000 := fun y hy => (b1.2 y hy).2.1
  refine EvP_neg (by omega) (EvP_bindE e0 (EvP_bindE e1 (EvP_bindE (ev_spec_CopiesOk _ _ k0 b1.1 v4 v5) (EvP_bindE e0 (EvP_bindE e1 (EvP_bindE (ev_impl_CopiesOk _ _ k0 b1.1 v4 v5) (EvP_neg (by simp) (EvP_bindE e0 (EvP_bindE (d_eq1_Prog _ b0) (EvP_pos rfl (EvP_bindE e1 (EvP_bindE (d_eqS_Copy _ b1) (EvP_pos rfl (EvP_now rfl))))))))))))))

end Go.Proofs.Ytligjkjogaobnaa.PFnExactCopiesOk
namespace Go.Proofs.Ytligjkjogaobnaa.PureOf
theorem FnExactCopiesOk : Go.Proofs.Ytligjkjogaobnaa.PFnExactCopiesOk.laws_FnExactCopiesOk.Pure := Go.Proofs.Ytligjkjogaobnaa.PFnExactCopiesOk.pure_law
end Go.Proofs.Ytligjkjogaobnaa.PureOf
