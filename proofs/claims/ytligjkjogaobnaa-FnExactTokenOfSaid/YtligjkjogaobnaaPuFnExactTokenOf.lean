/- What is left of the law FnExactTokenOf: over lists and numbers alone. No condition beyond the statement's own. -/
import Derived.Test.YtligjkjogaobnaaKnFnExactTokenOf
import Derived.Test.YtligjkjogaobnaaVFnExactTokenOf
namespace Go.Proofs.Ytligjkjogaobnaa.PFnExactTokenOf
open Go.RowKit Go.Proofs.YtligjkjogaobnaaW.PrintWords Go.Proofs.YtligjkjogaobnaaW.PrintLast Go.Proofs.YtligjkjogaobnaaW.PrintMore Go.Proofs.YtligjkjogaobnaaV
set_option linter.unusedVariables false
set_option linter.unusedSimpArgs false
theorem rd167 {l : List S167} {i : Nat} (h : i < l.length) : rd_T167 l (i : Int) = l[i] := by
  unfold rd_T167
  simp [List.getD, List.getElem?_eq_getElem h]
theorem rds167 {l : List S167} {i : Nat} (h : i < l.length) (v : S167) : rd_T167 (l.set i v) (i : Int) = v := by
  unfold rd_T167
  simp [List.getD, h]

theorem rd133 {l : List S133} {i : Nat} (h : i < l.length) : rd_T133 l (i : Int) = l[i] := by
  unfold rd_T133
  simp [List.getD, List.getElem?_eq_getElem h]
theorem rds133 {l : List S133} {i : Nat} (h : i < l.length) (v : S133) : rd_T133 (l.set i v) (i : Int) = v := by
  unfold rd_T133
  simp [List.getD, h]

theorem rd165 {l : List S165} {i : Nat} (h : i < l.length) : rd_T165 l (i : Int) = l[i] := by
  unfold rd_T165
  simp [List.getD, List.getElem?_eq_getElem h]
theorem rds165 {l : List S165} {i : Nat} (h : i < l.length) (v : S165) : rd_T165 (l.set i v) (i : Int) = v := by
  unfold rd_T165
  simp [List.getD, h]

theorem rd36 {l : List S36} {i : Nat} (h : i < l.length) : rd_T36 l (i : Int) = l[i] := by
  unfold rd_T36
  simp [List.getD, List.getElem?_eq_getElem h]
theorem rds36 {l : List S36} {i : Nat} (h : i < l.length) (v : S36) : rd_T36 (l.set i v) (i : Int) = v := by
  unfold rd_T36
  simp [List.getD, h]

theorem sz_ok_Note (l : List S167) (a : Int) (ha : 0 ≤ a) (hb : a ≤ 1048576) (hl : (l.length : Int) ≤ a) : laws_szNoteS.f l a = some (a - l.length) := by
  unfold laws_szNoteS.f
  rw [wr (by omega) (by omega), if_neg (by omega)]
theorem sz_big_Note (l : List S167) (a : Int) (ha : 0 ≤ a) (hb : a ≤ 1048576) (hm : l.length ≤ maxLen) (hl : ¬ (l.length : Int) ≤ a) : laws_szNoteS.f l a = some (-1) := by
  unfold maxLen at hm
  unfold laws_szNoteS.f
  rw [wr (by omega) (by omega), if_pos (by omega)]

theorem sz_ok_Int (l : List Int) (a : Int) (ha : 0 ≤ a) (hb : a ≤ 1048576) (hl : (l.length : Int) ≤ a) : laws_szIntS.f l a = some (a - l.length) := by
  unfold laws_szIntS.f
  rw [wr (by omega) (by omega), if_neg (by omega)]
theorem sz_big_Int (l : List Int) (a : Int) (ha : 0 ≤ a) (hb : a ≤ 1048576) (hm : l.length ≤ maxLen) (hl : ¬ (l.length : Int) ≤ a) : laws_szIntS.f l a = some (-1) := by
  unfold maxLen at hm
  unfold laws_szIntS.f
  rw [wr (by omega) (by omega), if_pos (by omega)]

def cv_Note (x : S167) : S165 := ⟨x.f0, x.f1⟩

def cv_Token (x : S133) : S36 := ⟨x.f0, x.f1, x.f2, x.f3.map cv_Note⟩
def B_Token (x : S133) : Prop := x.f2.length ≤ 1048576 ∧ x.f3.length ≤ 1048576
def BI_Token (x : S36) : Prop := x.f2.length ≤ 2000000000 ∧ x.f3.length ≤ 2000000000

theorem bi_Token {l : List S133} (hB : ∀ y ∈ l, B_Token y) : ∀ y ∈ l.map cv_Token, BI_Token y := by
  intro y hy
  obtain ⟨z, hz, rfl⟩ := List.mem_map.1 hy
  have h := hB z hz
  unfold B_Token at h
  unfold BI_Token cv_Token
  simp only [List.length_map]
  omega

theorem sz_Token (y : S133) (a : Int) (ha : 0 ≤ a) (hb : a ≤ 1048576) (m0 : y.f2.length ≤ maxLen) (m1 : y.f3.length ≤ maxLen) : ∃ r, laws_szToken.f y.f0 y.f1 y.f2 y.f3 a = some r ∧ (r = -1 ∨ (0 ≤ r ∧ r ≤ a ∧ B_Token y)) := by
  unfold laws_szToken.f
  by_cases h0 : (y.f2.length : Int) ≤ a
  · rw [sz_ok_Int _ _ (by omega) (by omega) h0]
    simp only [Option.bind_some]
    rw [if_neg (by omega)]
    by_cases h1 : (y.f3.length : Int) ≤ a - y.f2.length
    · rw [sz_ok_Note _ _ (by omega) (by omega) h1]
      simp only [Option.bind_some]
      rw [if_neg (by omega)]
      exact ⟨_, rfl, .inr ⟨by omega, by omega, by omega, by omega⟩⟩
    · rw [sz_big_Note _ _ (by omega) (by omega) m1 h1]
      simp only [Option.bind_some]
      rw [if_pos (by omega)]
      exact ⟨_, rfl, .inl rfl⟩
  · rw [sz_big_Int _ _ (by omega) (by omega) m0 h0]
    simp only [Option.bind_some]
    rw [if_pos (by omega)]
    exact ⟨_, rfl, .inl rfl⟩
theorem sz_TokenS (l : List S133) (a : Int) (ha : 0 ≤ a) (hb : a ≤ 1048576) (hm : l.length ≤ maxLen) (hg : ∀ y ∈ l, G133 y) : ∃ r, Ev (fun k => laws_szTokenS.f k l a) r ∧ (r = -1 ∨ (0 ≤ r ∧ r ≤ a ∧ l.length ≤ 1048576 ∧ ∀ y ∈ l, B_Token y)) := by
  unfold maxLen at hm
  unfold laws_szTokenS.f
  rw [wr (x := a - (l.length : Int)) (by omega) (by omega)]
  by_cases c : (l.length : Int) ≤ a
  · have key : ∀ i, i ≤ l.length → ∀ b : Int, 0 ≤ b → b ≤ a → ∃ r, Ev (fun k => laws_szTokenS.l0 k l b (i : Int)) r ∧ (r = -1 ∨ (0 ≤ r ∧ r ≤ b ∧ ∀ y ∈ l.drop i, B_Token y)) := by
      refine down (P := fun i => ∀ b : Int, 0 ≤ b → b ≤ a → ∃ r, Ev (fun k => laws_szTokenS.l0 k l b (i : Int)) r ∧ (r = -1 ∨ (0 ≤ r ∧ r ≤ b ∧ ∀ y ∈ l.drop i, B_Token y))) l.length ?_ ?_
      · intro b h0 h1
        refine ⟨b, ?_, .inr ⟨h0, Int.le_refl _, by simp⟩⟩
        refine Ev_succ ?_
        simp only [laws_szTokenS.l0]
        exact Ev_neg (by omega) (Ev.now _)
      · intro i hi ih b h0 h1
        have hgi := hg _ (List.getElem_mem hi)
        unfold G133 at hgi
        obtain ⟨r, hr, hc⟩ := sz_Token l[i] b h0 (by omega) (by have := hgi; simp_all) (by have := hgi; simp_all)
        rcases hc with rfl | ⟨c0, c1, hB⟩
        · refine ⟨-1, ?_, .inl rfl⟩
          refine Ev_succ ?_
          simp only [laws_szTokenS.l0]
          refine Ev_pos (by omega) (Ev_pos (by omega) ?_)
          rw [rd133 hi]
          exact Ev_some hr (Ev_pos (by omega) (Ev.now _))
        · obtain ⟨r', hr', hc'⟩ := ih r c0 (by omega)
          refine ⟨r', ?_, ?_⟩
          · refine Ev_succ ?_
            simp only [laws_szTokenS.l0]
            refine Ev_pos (by omega) (Ev_pos (by omega) ?_)
            rw [rd133 hi, wr1 hi (by omega)]
            exact Ev_some hr (Ev_neg (by omega) hr')
          · rcases hc' with h | ⟨d0, d1, d2⟩
            · exact .inl h
            · refine .inr ⟨d0, by omega, fun y hy => ?_⟩
              rw [List.drop_eq_getElem_cons hi] at hy
              rcases List.mem_cons.1 hy with rfl | hy
              · exact hB
              · exact d2 y hy
    obtain ⟨r, hr, hc⟩ := key 0 (Nat.zero_le _) (a - l.length) (by omega) (by omega)
    refine ⟨r, Ev_neg (by omega) hr, ?_⟩
    rcases hc with h | ⟨d0, d1, d2⟩
    · exact .inl h
    · exact .inr ⟨d0, by omega, by omega, by simpa using d2⟩
  · exact ⟨-1, Ev_pos (by omega) (Ev.now _), .inl rfl⟩

def tokenAtGo (i : Nat) (l : List S36) (id : Int) : Int := match l with
  | [] => -1
  | x :: xs => if x.f0 = id then (i : Int) else tokenAtGo (i + 1) xs id
def tokenAt (l : List S36) (id : Int) : Int := tokenAtGo 0 l id
theorem tokenAtGo_range (i : Nat) (l : List S36) (id : Int) : tokenAtGo i l id = -1 ∨ ((i : Int) ≤ tokenAtGo i l id ∧ tokenAtGo i l id < (i : Int) + l.length) := by
  induction l generalizing i with
  | nil => exact .inl rfl
  | cons x xs ih =>
    unfold tokenAtGo
    split
    · right; simp; omega
    · rcases ih (i + 1) with h | ⟨h1, h2⟩
      · exact .inl h
      · right; simp; omega
theorem tokenAt_range (l : List S36) (id : Int) : tokenAt l id = -1 ∨ (0 ≤ tokenAt l id ∧ tokenAt l id < l.length) := by
  have := tokenAtGo_range 0 l id
  unfold tokenAt
  omega

theorem ev_spec_l24At (l : List S36) (id : Int) (hl : l.length ≤ 2000000000) : Ev (fun k => spec_l24At.f k l id) (tokenAt l id) := by
  unfold spec_l24At.f
  refine down (P := fun i => Ev (fun k => spec_l24At.l0 k l id (i : Int)) (tokenAtGo i (l.drop i) id)) l.length ?_ ?_ 0 (Nat.zero_le _)
  · refine Ev_succ ?_
    simp only [spec_l24At.l0]
    rw [List.drop_length]
    exact Ev_neg (by omega) (Ev.now _)
  · intro i hi ih
    refine Ev_succ ?_
    simp only [spec_l24At.l0]
    rw [List.drop_eq_getElem_cons hi, rd36 hi, wr1 hi (by omega)]
    unfold tokenAtGo
    refine Ev_pos (by omega) (Ev_pos (by omega) ?_)
    by_cases h : l[i].f0 = id
    · rw [if_pos h]; exact Ev_pos h (Ev.now _)
    · rw [if_neg h]; exact Ev_neg h ih

theorem v_spec_l24One (af0 : Int) (af1 : Int) (af2 : List Int) (af3 : List S165) (hf2 : af2.length ≤ 2000000000) (hf3 : af3.length ≤ 2000000000) : spec_l24One.f af0 af1 af2 af3 = some (af0, af1, af2, af3) := by
  unfold spec_l24One.f
  simp only [Option.bind_some, List.nil_append, List.length_nil, Nat.zero_add]
  rw [if_pos (by omega), if_pos (by omega)]

def of_Token (l : List S36) (id : Int) : Int × Int × (List Int) × (List S165) × Bool := if tokenAt l id < 0 then (0, 0, ([] : List Int), ([] : List S165), false) else ((rd_T36 l (tokenAt l id)).f0, (rd_T36 l (tokenAt l id)).f1, (rd_T36 l (tokenAt l id)).f2, (rd_T36 l (tokenAt l id)).f3, true)
theorem cut_one {α : Type} (l : List α) {i : Nat} (h : i < l.length) : (l.take (i + 1)).drop i = [l[i]] := by
  rw [List.take_succ_eq_append_getElem h]
  exact List.drop_left' (by rw [List.length_take]; omega)

theorem ev_spec_TokenOf (l : List S36) (id : Int) (hl : l.length ≤ 2000000000) (hB : ∀ y ∈ l, BI_Token y) : Ev (fun k => spec_TokenOf.f k l id) (of_Token l id) := by
  unfold spec_TokenOf.f
  refine Ev.bind (ev_spec_l24At l id hl) ?_
  have hr := tokenAt_range l id
  by_cases c : tokenAt l id < 0
  · have e : of_Token l id = (0, 0, ([] : List Int), ([] : List S165), false) := by unfold of_Token; rw [if_pos c]
    rw [e]; exact Ev_pos c (Ev.now _)
  · have e : of_Token l id = ((rd_T36 l (tokenAt l id)).f0, (rd_T36 l (tokenAt l id)).f1, (rd_T36 l (tokenAt l id)).f2, (rd_T36 l (tokenAt l id)).f3, true) := by unfold of_Token; rw [if_neg c]
    rw [e]; clear e
    obtain ⟨n, hn⟩ : ∃ n : Nat, tokenAt l id = (n : Int) := ⟨(tokenAt l id).toNat, by omega⟩
    rw [hn] at hr ⊢
    have hnl : n < l.length := by omega
    have hb := hB _ (List.getElem_mem hnl)
    unfold BI_Token at hb
    rw [rd36 hnl]
    exact Ev_neg (by omega) (Ev_pos (by omega) (Ev_pos (by omega) (Ev_some (v_spec_l24One _ _ _ _ hb.1 hb.2) (Ev.now _))))

theorem ev_toNoteS (l : List S167) (hl : l.length ≤ 1048576) : Ev (fun k => laws_toNoteS.f k l) (l.map cv_Note) := by
  unfold laws_toNoteS.f
  refine Ev_pos (by omega) ?_
  rw [Int.toNat_natCast]
  refine Ev_pos (by omega) ?_
  refine evFill (fun k xs i => laws_toNoteS.l0 k l xs i) l cv_Note z165 (fun xs hx => ?_) (fun xs i hi r hx ih => ?_)
  · refine Ev_succ ?_
    simp only [laws_toNoteS.l0]
    exact Ev_neg (by omega) (Ev.now _)
  · refine Ev_succ ?_
    simp only [laws_toNoteS.l0]
    refine Ev_pos (by omega) (Ev_pos (by omega) (Ev_some rfl (Ev_pos (by omega) ?_)))
    rw [wr1 hi (by omega), rd167 hi, Int.toNat_natCast]
    exact ih

theorem ev_toIntS (l : List Int) (hl : l.length ≤ 1048576) : Ev (fun k => laws_toIntS.f k l) l := by
  have := (?_ : Ev (fun k => laws_toIntS.f k l) (l.map id))
  · simpa using this
  unfold laws_toIntS.f
  refine Ev_pos (by omega) ?_
  rw [Int.toNat_natCast]
  refine Ev_pos (by omega) ?_
  refine evFill (fun k xs i => laws_toIntS.l0 k l xs i) l id 0 (fun xs hx => ?_) (fun xs i hi r hx ih => ?_)
  · refine Ev_succ ?_
    simp only [laws_toIntS.l0]
    exact Ev_neg (by omega) (Ev.now _)
  · refine Ev_succ ?_
    simp only [laws_toIntS.l0]
    refine Ev_pos (by omega) (Ev_pos (by omega) (Ev_pos (by omega) ?_))
    rw [wr1 hi (by omega), rdI hi, Int.toNat_natCast]
    exact ih

theorem ev_toToken (y : S133) (hB : B_Token y) : Ev (fun k => laws_toToken.f k y.f0 y.f1 y.f2 y.f3) (y.f0, y.f1, y.f2, y.f3.map cv_Note) := by
  unfold laws_toToken.f
  exact Ev.bind (ev_toIntS _ hB.1) (Ev.bind (ev_toNoteS _ hB.2) (Ev.now _))
theorem ev_toTokenS (l : List S133) (hl : l.length ≤ 1048576) (hB : ∀ y ∈ l, B_Token y) : Ev (fun k => laws_toTokenS.f k l) (l.map cv_Token) := by
  unfold laws_toTokenS.f
  refine Ev_pos (by omega) ?_
  rw [Int.toNat_natCast]
  refine Ev_pos (by omega) ?_
  refine evFill (fun k xs i => laws_toTokenS.l0 k l xs i) l cv_Token z36 (fun xs hx => ?_) (fun xs i hi r hx ih => ?_)
  · refine Ev_succ ?_
    simp only [laws_toTokenS.l0]
    exact Ev_neg (by omega) (Ev.now _)
  · refine Ev_succ ?_
    simp only [laws_toTokenS.l0]
    refine Ev_pos (by omega) (Ev_pos (by omega) ?_)
    rw [rd133 hi]
    refine Ev.bind (ev_toToken l[i] (hB _ (List.getElem_mem hi))) (Ev_pos (by omega) ?_)
    rw [wr1 hi (by omega), Int.toNat_natCast]
    exact ih

theorem ev_impl_tokenAt (l : List S36) (id : Int) (hl : l.length ≤ 2000000000) : Ev (fun k => impl_tokenAt.f k l id) (tokenAt l id) := by
  unfold impl_tokenAt.f
  refine down (P := fun i => Ev (fun k => impl_tokenAt.l0 k id l (l.length : Int) (i : Int)) (tokenAtGo i (l.drop i) id)) l.length ?_ ?_ 0 (Nat.zero_le _)
  · refine Ev_succ ?_
    simp only [impl_tokenAt.l0]
    rw [List.drop_length]
    exact Ev_neg (by omega) (Ev.now _)
  · intro i hi ih
    refine Ev_succ ?_
    simp only [impl_tokenAt.l0]
    rw [List.drop_eq_getElem_cons hi, rd36 hi, wr1 hi (by omega)]
    unfold tokenAtGo
    refine Ev_pos (by omega) (Ev_pos (by omega) (Ev_pos (by omega) ?_))
    by_cases h : l[i].f0 = id
    · rw [if_pos h]; exact Ev_pos h (Ev.now _)
    · rw [if_neg h]; exact Ev_neg h ih

theorem v_impl_copyNotes (l : List S165) (hl : l.length ≤ 2000000000) : impl_copyNotes.f l = some l := by
  unfold impl_copyNotes.f
  simp only [Option.bind_some, List.nil_append, List.length_nil, Nat.zero_add]
  rw [if_pos (by omega)]

theorem v_impl_copyInts (l : List Int) (hl : l.length ≤ 2000000000) : impl_copyInts.f l = some l := by
  unfold impl_copyInts.f
  simp only [Option.bind_some, List.nil_append, List.length_nil, Nat.zero_add]
  rw [if_pos (by omega)]

theorem ev_impl_copyTokens (l : List S36) (hl : l.length ≤ 2000000000) (hB : ∀ y ∈ l, BI_Token y) : Ev (fun k => impl_copyTokens.f k l) l := by
  unfold impl_copyTokens.f
  refine down (P := fun i => Ev (fun k => impl_copyTokens.l0 k (l.take i) l (l.length : Int) (i : Int)) l) l.length ?_ ?_ 0 (Nat.zero_le _)
  · refine Ev_succ ?_
    simp only [impl_copyTokens.l0]
    exact Ev_neg (by omega) (Ev_eq List.take_length)
  · intro i hi ih
    have hb := hB _ (List.getElem_mem hi)
    unfold BI_Token at hb
    refine Ev_succ ?_
    simp only [impl_copyTokens.l0]
    rw [rd36 hi, wr1 hi (by omega)]
    refine Ev_pos (by omega) (Ev_pos (by omega) (Ev_pos (by omega) (Ev_some (v_impl_copyInts _ hb.1) (Ev_some (v_impl_copyNotes _ hb.2) (Ev_pos (by rw [List.length_take]; omega) ?_)))))
    rw [List.take_succ_eq_append_getElem hi] at ih
    exact ih

theorem ev_impl_TokenOf (l : List S36) (id : Int) (hl : l.length ≤ 2000000000) (hB : ∀ y ∈ l, BI_Token y) : Ev (fun k => impl_TokenOf.f k l id) (of_Token l id) := by
  unfold impl_TokenOf.f
  refine Ev.bind (ev_impl_tokenAt l id hl) ?_
  have hr := tokenAt_range l id
  by_cases c : tokenAt l id < 0
  · have e : of_Token l id = (0, 0, ([] : List Int), ([] : List S165), false) := by unfold of_Token; rw [if_pos c]
    rw [e]; exact Ev_pos c (Ev.now _)
  · have e : of_Token l id = ((rd_T36 l (tokenAt l id)).f0, (rd_T36 l (tokenAt l id)).f1, (rd_T36 l (tokenAt l id)).f2, (rd_T36 l (tokenAt l id)).f3, true) := by unfold of_Token; rw [if_neg c]
    rw [e]; clear e
    obtain ⟨n, hn⟩ : ∃ n : Nat, tokenAt l id = (n : Int) := ⟨(tokenAt l id).toNat, by omega⟩
    rw [hn] at hr ⊢
    have hnl : n < l.length := by omega
    refine Ev_neg (by omega) (Ev_pos (by omega) ?_)
    rw [wr1 hnl (by omega)]
    refine Ev_pos (by omega) (Ev_pos (by omega) ?_)
    rw [Int.toNat_natCast, Int.toNat_natCast, cut_one l hnl, rd36 hnl]
    exact Ev.bind (ev_impl_copyTokens _ (by simp) (fun y hy => by rw [List.mem_singleton] at hy; subst hy; exact hB _ (List.getElem_mem hnl))) (Ev_pos (by simp) (Ev.now _))

theorem eqr_Note (a0 : Int) (a1 : Int) : laws_eqNote.f a0 a1 a0 a1 = some true := by
  simp [laws_eqNote.f]
theorem ev_eqNoteS (l : List S165) (hl : l.length ≤ 2000000000) : Ev (fun k => laws_eqNoteS.f k l l) true := by
  unfold laws_eqNoteS.f
  refine Ev_pos rfl ?_
  refine down (P := fun i => Ev (fun k => laws_eqNoteS.l0 k l l (i : Int)) true) l.length ?_ ?_ 0 (Nat.zero_le _)
  · refine Ev_succ ?_
    simp only [laws_eqNoteS.l0]
    exact Ev_neg (by omega) (Ev.now _)
  · intro i hi ih
    refine Ev_succ ?_
    simp only [laws_eqNoteS.l0]
    refine Ev_pos (by omega) (Ev_pos (by omega) (Ev_pos (by omega) (Ev_some (eqr_Note _ _) (Ev_pos rfl ?_))))
    rw [wr1 hi (by omega)]
    exact ih

theorem ev_eqIntS (l : List Int) (hl : l.length ≤ 2000000000) : Ev (fun k => laws_eqIntS.f k l l) true := by
  unfold laws_eqIntS.f
  refine Ev_pos rfl ?_
  refine down (P := fun i => Ev (fun k => laws_eqIntS.l0 k l l (i : Int)) true) l.length ?_ ?_ 0 (Nat.zero_le _)
  · refine Ev_succ ?_
    simp only [laws_eqIntS.l0]
    exact Ev_neg (by omega) (Ev.now _)
  · intro i hi ih
    refine Ev_succ ?_
    simp only [laws_eqIntS.l0]
    refine Ev_pos (by omega) (Ev_pos (by omega) (Ev_pos (by omega) ?_))
    rw [wr1 hi (by omega)]
    exact Ev_pos (by simp) ih

theorem ev_eqToken (y : S36) (hB : BI_Token y) : Ev (fun k => laws_eqToken.f k y.f0 y.f1 y.f2 y.f3 y.f0 y.f1 y.f2 y.f3) true := by
  unfold laws_eqToken.f
  refine Ev_pos rfl ?_
  refine Ev_pos rfl ?_
  refine Ev.bind (ev_eqIntS _ hB.1) (Ev_pos rfl ?_)
  refine Ev.bind (ev_eqNoteS _ hB.2) (Ev_pos rfl ?_)
  exact Ev.now _
theorem ev_eqTokenS (l : List S36) (hl : l.length ≤ 2000000000) (hB : ∀ y ∈ l, BI_Token y) : Ev (fun k => laws_eqTokenS.f k l l) true := by
  unfold laws_eqTokenS.f
  refine Ev_pos rfl ?_
  refine down (P := fun i => Ev (fun k => laws_eqTokenS.l0 k l l (i : Int)) true) l.length ?_ ?_ 0 (Nat.zero_le _)
  · refine Ev_succ ?_
    simp only [laws_eqTokenS.l0]
    exact Ev_neg (by omega) (Ev.now _)
  · intro i hi ih
    refine Ev_succ ?_
    simp only [laws_eqTokenS.l0]
    refine Ev_pos (by omega) (Ev_pos (by omega) (Ev_pos (by omega) ?_))
    rw [rd36 hi, wr1 hi (by omega)]
    exact Ev.bind (ev_eqToken l[i] (hB _ (List.getElem_mem hi))) (Ev_pos rfl ih)

def el_Note (a : Int) : S165 := ⟨a, a + 1⟩
def mk_Note (n : Nat) (a : Int) : List S165 := (List.range n).map fun i : Nat => el_Note (a + 2 * (i : Int))

theorem ev_markNoteS (l : List S165) (a : Int) (h0 : 0 ≤ a) (hb : a + 2 * (l.length : Int) ≤ 1000000000000000000) : Ev (fun k => laws_markNoteS.f k l a) (a + 2 * (l.length : Int), mk_Note l.length a) := by
  unfold laws_markNoteS.f
  refine evMark (fun k xs a i => laws_markNoteS.l0 k xs a i) 2 (by omega) el_Note l a h0 hb (fun xs a hx => ?_) (fun xs i a r hi hx h0 hb ih => ?_)
  · refine Ev_succ ?_
    simp only [laws_markNoteS.l0]
    exact Ev_neg (by omega) (Ev.now _)
  · refine Ev_succ ?_
    simp only [laws_markNoteS.l0]
    refine Ev_pos (by omega) (Ev_pos (by omega) ?_)
    have e1 : wrap64 (a + 1) = a + 1 := wr (by omega) (by omega)
    have e2 : wrap64 (a + 1 + 1) = a + 2 := by rw [wr (by omega) (by omega)]; omega
    simp only [e1, e2, Option.bind_some, Int.toNat_natCast, List.set_set]
    rw [wr1 (n := l.length) (by omega) (by omega)]
    have hi' : i < xs.length := by omega
    simp only [rds165 hi', List.length_set, List.set_set] at ih ⊢
    first | exact ih | (simp only [rd165 hi'] at ih ⊢; exact ih)

def mk_Int (n : Nat) (a : Int) : List Int := (List.range n).map fun i : Nat => a + 1 * (i : Int)
theorem ev_markIntS (l : List Int) (a : Int) (h0 : 0 ≤ a) (hb : a + 1 * (l.length : Int) ≤ 1000000000000000000) : Ev (fun k => laws_markIntS.f k l a) (a + 1 * (l.length : Int), mk_Int l.length a) := by
  unfold laws_markIntS.f
  refine evMark (fun k xs a i => laws_markIntS.l0 k xs a i) 1 (by omega) (fun a => a) l a h0 hb (fun xs a hx => ?_) (fun xs i a r hi hx h0 hb ih => ?_)
  · refine Ev_succ ?_
    simp only [laws_markIntS.l0]
    exact Ev_neg (by omega) (Ev.now _)
  · refine Ev_succ ?_
    simp only [laws_markIntS.l0]
    refine Ev_pos (by omega) (Ev_pos (by omega) ?_)
    rw [wr (x := a + 1) (by omega) (by omega), wr1 (n := l.length) hi (by omega), Int.toNat_natCast]
    exact ih
theorem ev_heldIntS (m : Nat) (a : Int) (h0 : 0 ≤ a) (hb : a + 1 * (m : Int) ≤ 1000000000000000000) : Ev (fun k => laws_heldIntS.f k (mk_Int m a) a) (a + 1 * (m : Int)) := by
  unfold laws_heldIntS.f
  have hl : (mk_Int m a).length = m := by simp [mk_Int]
  have key : ∀ i, i ≤ m → Ev (fun k => laws_heldIntS.l0 k (mk_Int m a) (a + 1 * (i : Int)) (i : Int)) (a + 1 * (m : Int)) := by
    refine down (P := fun i => Ev (fun k => laws_heldIntS.l0 k (mk_Int m a) (a + 1 * (i : Int)) (i : Int)) (a + 1 * (m : Int))) m ?_ ?_
    · refine Ev_succ ?_
      simp only [laws_heldIntS.l0]
      exact Ev_neg (by omega) (Ev.now _)
    · intro i hi ih
      have hi' : i < (mk_Int m a).length := by omega
      have hr : rd (mk_Int m a) (i : Int) = a + 1 * (i : Int) := by
        rw [rdI hi']
        simp [mk_Int]
      refine Ev_succ ?_
      simp only [laws_heldIntS.l0]
      refine Ev_pos (by omega) (Ev_pos (by omega) (Ev_pos hr ?_))
      rw [wr (x := a + 1 * (i : Int) + 1) (by omega) (by omega), wr1 (n := m) hi (by omega)]
      have e : a + 1 * ((i + 1 : Nat) : Int) = a + 1 * (i : Int) + 1 := by omega
      rw [e] at ih
      exact ih
  have := key 0 (Nat.zero_le _)
  simpa using this

theorem ev_markToken (af0 : Int) (af1 : Int) (af2 : List Int) (af3 : List S165) (a : Int) (h0 : 0 ≤ a) (hb : a + 1 * (af2.length : Int) + 2 * (af3.length : Int) ≤ 1000000000000000000) : Ev (fun k => laws_markToken.f k af0 af1 af2 af3 a) (a + 1 * (af2.length : Int) + 2 * (af3.length : Int), mk_Int af2.length a, mk_Note af3.length (a + 1 * (af2.length : Int))) := by
  unfold laws_markToken.f
  exact Ev.bind (ev_markIntS af2 (a) (by omega) (by omega)) (Ev.bind (ev_markNoteS af3 (a + 1 * (af2.length : Int)) (by omega) (by omega)) (Ev.now _))

theorem ev_heldNoteS (m : Nat) (a : Int) (h0 : 0 ≤ a) (hb : a + 2 * (m : Int) ≤ 1000000000000000000) : Ev (fun k => laws_heldNoteS.f k (mk_Note m a) a) (a + 2 * (m : Int)) := by
  unfold laws_heldNoteS.f
  have hl : (mk_Note m a).length = m := by simp [mk_Note]
  have key : ∀ i, i ≤ m → Ev (fun k => laws_heldNoteS.l0 k (mk_Note m a) (a + 2 * (i : Int)) (i : Int)) (a + 2 * (m : Int)) := by
    refine down (P := fun i => Ev (fun k => laws_heldNoteS.l0 k (mk_Note m a) (a + 2 * (i : Int)) (i : Int)) (a + 2 * (m : Int))) m ?_ ?_
    · refine Ev_succ ?_
      simp only [laws_heldNoteS.l0]
      exact Ev_neg (by omega) (Ev.now _)
    · intro i hi ih
      have hi' : i < (mk_Note m a).length := by omega
      have hr : rd_T165 (mk_Note m a) (i : Int) = el_Note (a + 2 * (i : Int)) := by
        rw [rd165 hi']
        simp [mk_Note]
      refine Ev_succ ?_
      simp only [laws_heldNoteS.l0]
      refine Ev_pos (by omega) (Ev_pos (by omega) ?_)
      have e1 : wrap64 (a + 2 * (i : Int) + 1) = a + 2 * (i : Int) + 1 := wr (by omega) (by omega)
      have e2 : wrap64 (a + 2 * (i : Int) + 1 + 1) = a + 2 * (i : Int) + 2 := by rw [wr (by omega) (by omega)]; omega
      rw [hr]
      simp only [e1, e2, el_Note, bne_self_eq_false, if_true, if_false, Bool.false_eq_true]
      rw [wr1 (n := m) hi (by omega)]
      have e : a + 2 * ((i + 1 : Nat) : Int) = a + 2 * (i : Int) + 2 := by omega
      rw [e] at ih
      exact ih
  have := key 0 (Nat.zero_le _)
  simpa using this

theorem ev_heldToken (af0 : Int) (af1 : Int) (af2 : List Int) (af3 : List S165) (a : Int) (h0 : 0 ≤ a) (hb : a + 1 * (af2.length : Int) + 2 * (af3.length : Int) ≤ 1000000000000000000) : Ev (fun k => laws_heldToken.f k af0 af1 (mk_Int af2.length (a)) (mk_Note af3.length (a + 1 * (af2.length : Int))) a) (a + 1 * (af2.length : Int) + 2 * (af3.length : Int)) := by
  unfold laws_heldToken.f
  exact Ev.bind (ev_heldIntS af2.length (a) (by omega) (by omega)) (Ev_neg (by omega) (Ev.bind (ev_heldNoteS af3.length (a + 1 * (af2.length : Int)) (by omega) (by omega)) (Ev_neg (by omega) (Ev.now _))))

theorem evP_markTokenS (l : List S36) (a : Int) (h0 : 0 ≤ a) (ha : a ≤ 1000000) (hl : l.length ≤ 1048576) (hB : ∀ y ∈ l, BI_Token y) : EvP (fun k => laws_markTokenS.f k l a) (fun r => 0 ≤ r.1) := by
  unfold laws_markTokenS.f
  have key : ∀ d i : Nat, i + d = l.length → ∀ (xs : List S36) (a : Int), xs.length = l.length → (∀ y ∈ xs.drop i, BI_Token y) → 0 ≤ a → a + 6000000002 * (d : Int) ≤ 1000000000000000000 → EvP (fun k => laws_markTokenS.l0 k xs a (i : Int)) (fun r => 0 ≤ r.1) := by
    intro d
    induction d with
    | zero =>
      intro i hi xs a hx hB h0 hb
      refine EvP_succ ?_
      simp only [laws_markTokenS.l0]
      exact EvP_neg (by omega) (EvP_now h0)
    | succ d ih =>
      intro i hi xs a hx hB h0 hb
      have hil : i < xs.length := by omega
      have hb1 : BI_Token xs[i] := hB _ (by rw [List.drop_eq_getElem_cons hil]; exact List.mem_cons_self)
      have hb2 := hb1
      unfold BI_Token at hb2
      rw [← rd36 hil] at hb2
      refine EvP_succ ?_
      simp only [laws_markTokenS.l0]
      have e1 : wrap64 (a + 1) = a + 1 := wr (by omega) (by omega)
      have e2 : wrap64 (a + 1 + 1) = a + 2 := by rw [wr (by omega) (by omega)]; omega
      simp only [e1, e2, Int.toNat_natCast]
      rw [wr1 hil (by omega)]
      refine EvP_pos (by omega) (EvP_pos (by omega) ?_)
      refine EvP_bindE (ev_markIntS _ (a + 2) (by omega) (by omega)) ?_
      refine EvP_bindE (ev_markNoteS _ (a + 2 + 1 * ((rd_T36 xs (i : Int)).f2.length : Int)) (by omega) (by omega)) ?_
      refine ih (i + 1) (by omega) _ _ (by rw [List.length_set]; exact hx) (fun y hy => hB y ?_) (by omega) (by omega)
      rw [List.drop_set, if_pos (by omega)] at hy
      rw [List.drop_eq_getElem_cons hil]
      exact List.mem_cons_of_mem _ hy
  exact key l.length 0 (by omega) l a rfl (by simpa using hB) h0 (by omega)

theorem pure_law : laws_FnExactTokenOf.Pure := by
  intro l0 a1 hm hg ha
  obtain ⟨r, ⟨K0, e0⟩, hc⟩ := sz_TokenS l0 1048576 (by omega) (by omega) hm hg
  rcases hc with rfl | ⟨c0, c1, c2, hB⟩
  · exact ⟨K0, laws_FnExactTokenOf.good0 K0 l0 a1 (e0 K0 (Nat.le_refl _)) (by omega)⟩
  · have hl : (l0.map cv_Token).length ≤ 2000000000 := by rw [List.length_map]; omega
    have hI := bi_Token hB
    obtain ⟨K1, e1⟩ := ev_toTokenS l0 c2 hB
    obtain ⟨K2, e2⟩ := ev_spec_TokenOf _ a1 hl hI
    obtain ⟨K3, e3⟩ := ev_impl_TokenOf _ a1 hl hI
    obtain ⟨K4, e4⟩ := ev_eqTokenS _ hl hI
    obtain ⟨r5, ⟨K5, e5⟩, h5⟩ := evP_markTokenS (l0.map cv_Token) 1 (by omega) (by omega) (by rw [List.length_map]; omega) hI
    obtain ⟨x, hx, hxB⟩ : ∃ x : S36 × Bool, of_Token (l0.map cv_Token) a1 = (x.1.f0, x.1.f1, x.1.f2, x.1.f3, x.2) ∧ BI_Token x.1 := by
      unfold of_Token
      split
      · exact ⟨(⟨0, 0, [], []⟩, false), rfl, by unfold BI_Token; simp⟩
      · rename_i c
        refine ⟨(rd_T36 (l0.map cv_Token) (tokenAt (l0.map cv_Token) a1), true), rfl, hI _ ?_⟩
        have hr := tokenAt_range (l0.map cv_Token) a1
        obtain ⟨n, hn⟩ : ∃ n : Nat, tokenAt (l0.map cv_Token) a1 = (n : Int) := ⟨(tokenAt (l0.map cv_Token) a1).toNat, by omega⟩
        rw [hn] at hr
        have e := rd36 (l := l0.map cv_Token) (i := n) (by omega)
        show rd_T36 (l0.map cv_Token) (tokenAt (l0.map cv_Token) a1) ∈ _
        rw [hn, e]
        exact List.getElem_mem _
    rw [hx] at e2 e3
    have hxb := hxB
    unfold BI_Token at hxb
    obtain ⟨K6, e6⟩ := ev_eqToken x.1 hxB
    obtain ⟨K7, e7⟩ := ev_markToken x.1.f0 x.1.f1 x.1.f2 x.1.f3 1 (by omega) (by omega)
    obtain ⟨K8, e8⟩ := ev_heldToken x.1.f0 x.1.f1 x.1.f2 x.1.f3 1 (by omega) (by omega)
    have z : ∀ i, i ≤ K0 + K1 + K2 + K3 + K4 + K5 + K6 + K7 + K8 → i ≤ K0 + K1 + K2 + K3 + K4 + K5 + K6 + K7 + K8 := fun _ h => h
    exact ⟨K0 + K1 + K2 + K3 + K4 + K5 + K6 + K7 + K8, laws_FnExactTokenOf.good1 _ l0 a1 (e0 _ (by omega)) (by omega) (e1 _ (by omega)) (e2 _ (by omega)) (e3 _ (by omega)) (e6 _ (by omega)) (e4 _ (by omega)) (e5 _ (by omega)) (by omega) (e7 _ (by omega)) (e8 _ (by omega)) (by omega)⟩

end Go.Proofs.Ytligjkjogaobnaa.PFnExactTokenOf
namespace Go.Proofs.Ytligjkjogaobnaa.PureOf
theorem FnExactTokenOf : Go.Proofs.Ytligjkjogaobnaa.PFnExactTokenOf.laws_FnExactTokenOf.Pure := Go.Proofs.Ytligjkjogaobnaa.PFnExactTokenOf.pure_law
end Go.Proofs.Ytligjkjogaobnaa.PureOf
