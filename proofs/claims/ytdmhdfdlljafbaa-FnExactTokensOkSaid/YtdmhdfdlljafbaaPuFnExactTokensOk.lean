/- What is left of the law FnExactTokensOk: over lists and numbers alone. No condition beyond the statement's own. -/
import Derived.Test.YtdmhdfdlljafbaaKnFnExactTokensOk
import Derived.Test.YtdmhdfdlljafbaaVFnExactTokensOk
namespace Go.Proofs.Ytdmhdfdlljafbaa.PFnExactTokensOk
open Go.RowKit Go.Proofs.YtdmhdfdlljafbaaW.PrintWords Go.Proofs.YtdmhdfdlljafbaaW.PrintLast Go.Proofs.YtdmhdfdlljafbaaW.PrintMore Go.Proofs.YtdmhdfdlljafbaaV
set_option linter.unusedVariables false
set_option linter.unusedSimpArgs false
theorem rd178 {l : List S178} {i : Nat} (h : i < l.length) : rd_T178 l (i : Int) = l[i] := by
  unfold rd_T178
  simp [List.getD, List.getElem?_eq_getElem h]
theorem rds178 {l : List S178} {i : Nat} (h : i < l.length) (v : S178) : rd_T178 (l.set i v) (i : Int) = v := by
  unfold rd_T178
  simp [List.getD, h]

theorem rd140 {l : List S140} {i : Nat} (h : i < l.length) : rd_T140 l (i : Int) = l[i] := by
  unfold rd_T140
  simp [List.getD, List.getElem?_eq_getElem h]
theorem rds140 {l : List S140} {i : Nat} (h : i < l.length) (v : S140) : rd_T140 (l.set i v) (i : Int) = v := by
  unfold rd_T140
  simp [List.getD, h]

theorem rd64 {l : List S64} {i : Nat} (h : i < l.length) : rd_T64 l (i : Int) = l[i] := by
  unfold rd_T64
  simp [List.getD, List.getElem?_eq_getElem h]
theorem rds64 {l : List S64} {i : Nat} (h : i < l.length) (v : S64) : rd_T64 (l.set i v) (i : Int) = v := by
  unfold rd_T64
  simp [List.getD, h]

theorem rd68 {l : List S68} {i : Nat} (h : i < l.length) : rd_T68 l (i : Int) = l[i] := by
  unfold rd_T68
  simp [List.getD, List.getElem?_eq_getElem h]
theorem rds68 {l : List S68} {i : Nat} (h : i < l.length) (v : S68) : rd_T68 (l.set i v) (i : Int) = v := by
  unfold rd_T68
  simp [List.getD, h]

theorem sz_ok_Int (l : List Int) (a : Int) (ha : 0 ≤ a) (hb : a ≤ 1048576) (hl : (l.length : Int) ≤ a) : laws_szIntS.f l a = some (a - l.length) := by
  unfold laws_szIntS.f
  rw [wr (by omega) (by omega), if_neg (by omega)]
theorem sz_big_Int (l : List Int) (a : Int) (ha : 0 ≤ a) (hb : a ≤ 1048576) (hm : l.length ≤ maxLen) (hl : ¬ (l.length : Int) ≤ a) : laws_szIntS.f l a = some (-1) := by
  unfold maxLen at hm
  unfold laws_szIntS.f
  rw [wr (by omega) (by omega), if_pos (by omega)]

theorem sz_ok_Note (l : List S178) (a : Int) (ha : 0 ≤ a) (hb : a ≤ 1048576) (hl : (l.length : Int) ≤ a) : laws_szNoteS.f l a = some (a - l.length) := by
  unfold laws_szNoteS.f
  rw [wr (by omega) (by omega), if_neg (by omega)]
theorem sz_big_Note (l : List S178) (a : Int) (ha : 0 ≤ a) (hb : a ≤ 1048576) (hm : l.length ≤ maxLen) (hl : ¬ (l.length : Int) ≤ a) : laws_szNoteS.f l a = some (-1) := by
  unfold maxLen at hm
  unfold laws_szNoteS.f
  rw [wr (by omega) (by omega), if_pos (by omega)]

def cv_Note (x : S178) : S64 := ⟨x.f0, x.f1⟩

def cv_Token (x : S140) : S68 := ⟨x.f0, x.f1, x.f2, x.f3.map cv_Note⟩
def B_Token (x : S140) : Prop := x.f2.length ≤ 1048576 ∧ x.f3.length ≤ 1048576
def BI_Token (x : S68) : Prop := x.f2.length ≤ 2000000000 ∧ x.f3.length ≤ 2000000000

theorem bi_Token {l : List S140} (hB : ∀ y ∈ l, B_Token y) : ∀ y ∈ l.map cv_Token, BI_Token y := by
  intro y hy
  obtain ⟨z, hz, rfl⟩ := List.mem_map.1 hy
  have h := hB z hz
  unfold B_Token at h
  unfold BI_Token cv_Token
  simp only [List.length_map]
  omega

theorem sz_Token (y : S140) (a : Int) (ha : 0 ≤ a) (hb : a ≤ 1048576) (m0 : y.f2.length ≤ maxLen) (m1 : y.f3.length ≤ maxLen) : ∃ r, laws_szToken.f y.f0 y.f1 y.f2 y.f3 a = some r ∧ (r = -1 ∨ (0 ≤ r ∧ r ≤ a ∧ B_Token y)) := by
  unfold laws_szToken.f
  by_cases h0 : (y.f2.length : Int) ≤ a
  · rw [sz_ok_Int _ _ (by omega) (by omega) h0]
    simp only [Option.bind_some]
    rw [if_neg (by omega)]
    by_cases h1 : (y.f3.length : Int) ≤ a - y.f2.length
    · rw [sz_ok_Note _ _ (by omega) (by omega) h1]
      simp only [Option.bind_some]
      rw [if_neg (by omega)]
      exact ⟨_, rfl, .inr ⟨by omega, by omega, by omega, by omega⟩⟩
    · rw [sz_big_Note _ _ (by omega) (by omega) m1 h1]
      simp only [Option.bind_some]
      rw [if_pos (by omega)]
      exact ⟨_, rfl, .inl rfl⟩
  · rw [sz_big_Int _ _ (by omega) (by omega) m0 h0]
    simp only [Option.bind_some]
    rw [if_pos (by omega)]
    exact ⟨_, rfl, .inl rfl⟩
theorem sz_TokenS (l : List S140) (a : Int) (ha : 0 ≤ a) (hb : a ≤ 1048576) (hm : l.length ≤ maxLen) (hg : ∀ y ∈ l, G140 y) : ∃ r, Ev (fun k => laws_szTokenS.f k l a) r ∧ (r = -1 ∨ (0 ≤ r ∧ r ≤ a ∧ l.length ≤ 1048576 ∧ ∀ y ∈ l, B_Token y)) := by
  unfold maxLen at hm
  unfold laws_szTokenS.f
  rw [wr (x := a - (l.length : Int)) (by omega) (by omega)]
  by_cases c : (l.length : Int) ≤ a
  · have key : ∀ i, i ≤ l.length → ∀ b : Int, 0 ≤ b → b ≤ a → ∃ r, Ev (fun k => laws_szTokenS.l0 k l b (i : Int)) r ∧ (r = -1 ∨ (0 ≤ r ∧ r ≤ b ∧ ∀ y ∈ l.drop i, B_Token y)) := by
      refine down (P := fun i => ∀ b : Int, 0 ≤ b → b ≤ a → ∃ r, Ev (fun k => laws_szTokenS.l0 k l b (i : Int)) r ∧ (r = -1 ∨ (0 ≤ r ∧ r ≤ b ∧ ∀ y ∈ l.drop i, B_Token y))) l.length ?_ ?_
      · intro b h0 h1
        refine ⟨b, ?_, .inr ⟨h0, Int.le_refl _, by simp⟩⟩
        refine Ev_succ ?_
        simp only [laws_szTokenS.l0]
        exact Ev_neg (by omega) (Ev.now _)
      · intro i hi ih b h0 h1
        have hgi := hg _ (List.getElem_mem hi)
        unfold G140 at hgi
        obtain ⟨r, hr, hc⟩ := sz_Token l[i] b h0 (by omega) (by have := hgi; simp_all) (by have := hgi; simp_all)
        rcases hc with rfl | ⟨c0, c1, hB⟩
        · refine ⟨-1, ?_, .inl rfl⟩
          refine Ev_succ ?_
          simp only [laws_szTokenS.l0]
          refine Ev_pos (by omega) (Ev_pos (by omega) ?_)
          rw [rd140 hi]
          exact Ev_some hr (Ev_pos (by omega) (Ev.now _))
        · obtain ⟨r', hr', hc'⟩ := ih r c0 (by omega)
          refine ⟨r', ?_, ?_⟩
          · refine Ev_succ ?_
            simp only [laws_szTokenS.l0]
            refine Ev_pos (by omega) (Ev_pos (by omega) ?_)
            rw [rd140 hi, wr1 hi (by omega)]
            exact Ev_some hr (Ev_neg (by omega) hr')
          · rcases hc' with h | ⟨d0, d1, d2⟩
            · exact .inl h
            · refine .inr ⟨d0, by omega, fun y hy => ?_⟩
              rw [List.drop_eq_getElem_cons hi] at hy
              rcases List.mem_cons.1 hy with rfl | hy
              · exact hB
              · exact d2 y hy
    obtain ⟨r, hr, hc⟩ := key 0 (Nat.zero_le _) (a - l.length) (by omega) (by omega)
    refine ⟨r, Ev_neg (by omega) hr, ?_⟩
    rcases hc with h | ⟨d0, d1, d2⟩
    · exact .inl h
    · exact .inr ⟨d0, by omega, by omega, by simpa using d2⟩
  · exact ⟨-1, Ev_pos (by omega) (Ev.now _), .inl rfl⟩

theorem v_spec_l1In (a b c : Int) : spec_l1In.f a b c = some (decide (b ≤ a ∧ a ≤ c)) := by
  unfold spec_l1In.f
  by_cases h : a ≥ b
  · rw [if_pos h]
    simp [show b ≤ a from h]
  · rw [if_neg h]
    simp [show ¬ b ≤ a from h]

def nOk (l : List S64) (i : Nat) : Bool := decide (1 ≤ (rd_T64 l (i : Int)).f0 ∧ (rd_T64 l (i : Int)).f0 ≤ 1000000) && decide (1 ≤ (rd_T64 l (i : Int)).f1 ∧ (rd_T64 l (i : Int)).f1 ≤ 16777215) && (decide (i = 0) || decide ((rd_T64 l ((i - 1 : Nat) : Int)).f0 < (rd_T64 l (i : Int)).f0))
def notesOk (l : List S64) : Bool := (List.range l.length).all (nOk l) && decide ((l.length : Int) ≤ 130)

theorem ev_spec_NotesOk (l : List S64) (hl : l.length ≤ 2000000000) : Ev (fun k => spec_NotesOk.f k l) (notesOk l) := by
  unfold spec_NotesOk.f
  refine evAll (fun k i => spec_NotesOk.l0 k l i) l (nOk l) _ ?_ (fun i hi r ht hf => ?_)
  · refine Ev_succ ?_
    simp only [spec_NotesOk.l0]
    exact Ev_neg (by omega) (Ev.now _)
  · have cj : ∀ q : Bool, (nOk l i = !q) → Ev (fun k => spec_NotesOk.j1 k l (i : Int) q) r := by
      intro q h
      refine Ev_succ ?_
      simp only [spec_NotesOk.j1]
      rw [wr1 hi (by omega)]
      cases q with
      | true => exact Ev_pos rfl (Ev_eq (hf h).symm)
      | false => exact Ev_neg (by simp) (ht h)
    refine Ev_succ ?_
    simp only [spec_NotesOk.l0, v_spec_l1In, Option.bind_some]
    refine Ev_pos (by omega) (Ev_pos (by omega) ?_)
    refine Ev_ite (fun h1 => ?_) (fun h1 => cj _ ?_)
    · refine Ev_ite (fun h2 => ?_) (fun h2 => cj _ ?_)
      · refine Ev_ite (fun h3 => ?_) (fun h3 => cj _ ?_)
        · have e : wrap64 ((i : Int) - 1) = ((i - 1 : Nat) : Int) := by rw [wr (by omega) (by omega)]; omega
          rw [e]
          refine Ev_pos (by omega) (Ev_pos (by omega) (cj _ ?_))
          unfold nOk
          rw [show decide (i = 0) = false from decide_eq_false (by omega), h1, h2]
          by_cases h4 : (rd_T64 l ((i - 1 : Nat) : Int)).f0 < (rd_T64 l (i : Int)).f0
          · rw [decide_eq_true h4, decide_eq_false (by omega : ¬ (rd_T64 l ((i - 1 : Nat) : Int)).f0 ≥ (rd_T64 l (i : Int)).f0)]; rfl
          · rw [decide_eq_false h4, decide_eq_true (by omega : (rd_T64 l ((i - 1 : Nat) : Int)).f0 ≥ (rd_T64 l (i : Int)).f0)]; rfl
        · unfold nOk
          rw [show decide (i = 0) = true from decide_eq_true (by omega), h1, h2]
          rfl
      · unfold nOk
        rw [Bool.eq_false_iff.mpr h2]
        simp
    · unfold nOk
      rw [Bool.eq_false_iff.mpr h1]
      simp

def tokHd (l : List S68) (i : Nat) : Bool := decide (1 ≤ (rd_T68 l (i : Int)).f0 ∧ (rd_T68 l (i : Int)).f0 ≤ 1000000) && decide (0 ≤ (rd_T68 l (i : Int)).f1 ∧ (rd_T68 l (i : Int)).f1 ≤ 1000000) && decide (((rd_T68 l (i : Int)).f2.length : Int) ≤ 200) && notesOk (rd_T68 l (i : Int)).f3 && (decide (i = 0) || decide ((rd_T68 l ((i - 1 : Nat) : Int)).f0 < (rd_T68 l (i : Int)).f0))
def tokTl (w : Int) (q : List Int) : Bool := q.all fun x => decide (1 ≤ x ∧ x ≤ 1000000) && !decide (w = 0)
def tokOk (l : List S68) (i : Nat) : Bool := tokHd l i && tokTl (rd_T68 l (i : Int)).f1 (rd_T68 l (i : Int)).f2
def tokensOk (l : List S68) : Bool := (List.range l.length).all (tokOk l) && true

theorem ev_spec_TokensOk (l : List S68) (hl : l.length ≤ 2000000000) (hB : ∀ y ∈ l, y.f2.length ≤ 2000000000 ∧ y.f3.length ≤ 2000000000) : Ev (fun k => spec_TokensOk.f k l) (tokensOk l) := by
  unfold spec_TokensOk.f
  refine evAll (fun k i => spec_TokensOk.l0 k l i) l (tokOk l) _ ?_ (fun i hi r ht hf => ?_)
  · refine Ev_succ ?_
    simp only [spec_TokensOk.l0]
    exact Ev_neg (by omega) (Ev.now _)
  have hb := hB _ (List.getElem_mem hi)
  rw [← rd68 hi] at hb
  have inner : tokHd l i = true → ((rd_T68 l (i : Int)).f1 = 0 → (rd_T68 l (i : Int)).f2.length = 0) → Ev (fun k => spec_TokensOk.j1 k l (i : Int) false (rd_T68 l (i : Int)).f0 (rd_T68 l (i : Int)).f1 (rd_T68 l (i : Int)).f2 (rd_T68 l (i : Int)).f3) r := by
    intro hh hz
    refine Ev_succ ?_
    simp only [spec_TokensOk.j1]
    refine Ev_neg (by simp) ?_
    have go : ∀ j, j ≤ (rd_T68 l (i : Int)).f2.length → (tokTl (rd_T68 l (i : Int)).f1 ((rd_T68 l (i : Int)).f2.drop j) = true → Ev (fun k => spec_TokensOk.l0 k l ((i + 1 : Nat) : Int)) r) → (tokTl (rd_T68 l (i : Int)).f1 ((rd_T68 l (i : Int)).f2.drop j) = false → r = false) →
        Ev (fun k => spec_TokensOk.l1 k l (i : Int) (j : Int) (rd_T68 l (i : Int)).f0 (rd_T68 l (i : Int)).f1 (rd_T68 l (i : Int)).f2 (rd_T68 l (i : Int)).f3) r := by
      refine down (P := fun j => (tokTl (rd_T68 l (i : Int)).f1 ((rd_T68 l (i : Int)).f2.drop j) = true → Ev (fun k => spec_TokensOk.l0 k l ((i + 1 : Nat) : Int)) r) → (tokTl (rd_T68 l (i : Int)).f1 ((rd_T68 l (i : Int)).f2.drop j) = false → r = false) →
        Ev (fun k => spec_TokensOk.l1 k l (i : Int) (j : Int) (rd_T68 l (i : Int)).f0 (rd_T68 l (i : Int)).f1 (rd_T68 l (i : Int)).f2 (rd_T68 l (i : Int)).f3) r) _ ?_ ?_
      · intro h1 _
        refine Ev_succ ?_
        simp only [spec_TokensOk.l1]
        rw [wr1 hi (by omega)]
        exact Ev_neg (by omega) (h1 (by rw [List.drop_length]; rfl))
      · intro j hj ih h1 h2
        have d : ¬ (rd_T68 l (i : Int)).f1 = 0 := fun e => by have := hz e; omega
        refine Ev_succ ?_
        simp only [spec_TokensOk.l1]
        rw [List.drop_eq_getElem_cons hj] at h1 h2
        simp only [tokTl, List.all_cons] at h1 h2 ih
        rw [rdI hj, wr1 hj (by omega)]
        refine Ev_pos (by omega) (Ev_pos (by omega) (Ev_some (v_spec_l1In _ _ _) ?_))
        by_cases c : 1 ≤ (rd_T68 l (i : Int)).f2[j] ∧ (rd_T68 l (i : Int)).f2[j] ≤ 1000000
        · refine Ev_pos (decide_eq_true c) (ih (fun h => h1 ?_) (fun h => h2 ?_))
          · rw [h, decide_eq_true c, decide_eq_false d]; rfl
          · rw [h]; simp
        · exact Ev_neg (by simpa using c) (Ev_eq (h2 (by rw [decide_eq_false c]; rfl)).symm)
    refine go 0 (Nat.zero_le _) (fun h => ht ?_) (fun h => hf ?_)
    · unfold tokOk; rw [hh]; simpa using h
    · unfold tokOk; rw [hh]; simpa using h
  have bad : ∀ q : Bool, q = true → tokOk l i = false → Ev (fun k => spec_TokensOk.j1 k l (i : Int) q (rd_T68 l (i : Int)).f0 (rd_T68 l (i : Int)).f1 (rd_T68 l (i : Int)).f2 (rd_T68 l (i : Int)).f3) r := by
    intro q hq hh
    refine Ev_succ ?_
    simp only [spec_TokensOk.j1]
    exact Ev_pos hq (Ev_eq (hf hh).symm)
  have rest : decide (1 ≤ (rd_T68 l (i : Int)).f0 ∧ (rd_T68 l (i : Int)).f0 ≤ 1000000) = true → (decide (i = 0) || decide ((rd_T68 l ((i - 1 : Nat) : Int)).f0 < (rd_T68 l (i : Int)).f0)) = true →
      Ev (fun k => (spec_l1In.f (rd_T68 l (i : Int)).f1 0 1000000).bind fun t => (if t = true then (if ((rd_T68 l (i : Int)).f2.length : Int) > 200 then (spec_TokensOk.j1 k l (i : Int) true (rd_T68 l (i : Int)).f0 (rd_T68 l (i : Int)).f1 (rd_T68 l (i : Int)).f2 (rd_T68 l (i : Int)).f3) else (if (rd_T68 l (i : Int)).f1 = 0 then (if ((rd_T68 l (i : Int)).f2.length : Int) > 0 then (spec_TokensOk.j1 k l (i : Int) true (rd_T68 l (i : Int)).f0 (rd_T68 l (i : Int)).f1 (rd_T68 l (i : Int)).f2 (rd_T68 l (i : Int)).f3) else ((spec_NotesOk.f k (rd_T68 l (i : Int)).f3).bind fun t117 => (spec_TokensOk.j1 k l (i : Int) (!t117) (rd_T68 l (i : Int)).f0 (rd_T68 l (i : Int)).f1 (rd_T68 l (i : Int)).f2 (rd_T68 l (i : Int)).f3))) else ((spec_NotesOk.f k (rd_T68 l (i : Int)).f3).bind fun t118 => (spec_TokensOk.j1 k l (i : Int) (!t118) (rd_T68 l (i : Int)).f0 (rd_T68 l (i : Int)).f1 (rd_T68 l (i : Int)).f2 (rd_T68 l (i : Int)).f3)))) else (spec_TokensOk.j1 k l (i : Int) true (rd_T68 l (i : Int)).f0 (rd_T68 l (i : Int)).f1 (rd_T68 l (i : Int)).f2 (rd_T68 l (i : Int)).f3))) r := by
    intro e1 e5
    refine Ev_some (v_spec_l1In _ _ _) ?_
    by_cases c2 : 0 ≤ (rd_T68 l (i : Int)).f1 ∧ (rd_T68 l (i : Int)).f1 ≤ 1000000
    case neg => exact Ev_neg (by simpa using c2) (bad _ rfl (by unfold tokOk tokHd; rw [decide_eq_false c2]; simp))
    refine Ev_pos (decide_eq_true c2) ?_
    by_cases c3 : ((rd_T68 l (i : Int)).f2.length : Int) ≤ 200
    case neg => exact Ev_pos (by omega) (bad _ rfl (by unfold tokOk tokHd; rw [decide_eq_false c3]; simp))
    refine Ev_neg (by omega) ?_
    have last : ((rd_T68 l (i : Int)).f1 = 0 → (rd_T68 l (i : Int)).f2.length = 0) → Ev (fun k => (spec_NotesOk.f k (rd_T68 l (i : Int)).f3).bind fun t117 => (spec_TokensOk.j1 k l (i : Int) (!t117) (rd_T68 l (i : Int)).f0 (rd_T68 l (i : Int)).f1 (rd_T68 l (i : Int)).f2 (rd_T68 l (i : Int)).f3)) r := by
      intro hz
      refine Ev.bind (ev_spec_NotesOk _ hb.2) ?_
      cases c4 : notesOk (rd_T68 l (i : Int)).f3 with
      | false => exact bad _ rfl (by unfold tokOk tokHd; rw [c4]; simp)
      | true => exact inner (by unfold tokHd; rw [e1, decide_eq_true c2, decide_eq_true c3, c4, e5]; rfl) hz
    by_cases c6 : (rd_T68 l (i : Int)).f1 = 0
    · refine Ev_pos c6 ?_
      by_cases c7 : (rd_T68 l (i : Int)).f2.length = 0
      · exact Ev_neg (by omega) (last (fun _ => c7))
      · refine Ev_pos (by omega) (bad _ rfl ?_)
        have ht : tokTl (rd_T68 l (i : Int)).f1 (rd_T68 l (i : Int)).f2 = false := by
          cases hq : (rd_T68 l (i : Int)).f2 with
          | nil => exact absurd (by rw [hq]; rfl) c7
          | cons x xs => unfold tokTl; rw [List.all_cons, decide_eq_true c6]; simp
        unfold tokOk; rw [ht]; simp
    · exact Ev_neg c6 (last (fun e => absurd e c6))
  refine Ev_succ ?_
  simp only [spec_TokensOk.l0]
  refine Ev_pos (by omega) (Ev_pos (by omega) (Ev_some (v_spec_l1In _ _ _) ?_))
  by_cases c1 : 1 ≤ (rd_T68 l (i : Int)).f0 ∧ (rd_T68 l (i : Int)).f0 ≤ 1000000
  case neg => exact Ev_neg (by simpa using c1) (bad _ rfl (by unfold tokOk tokHd; rw [decide_eq_false c1]; rfl))
  refine Ev_pos (decide_eq_true c1) ?_
  by_cases c5 : i = 0
  · exact Ev_neg (by omega) (rest (decide_eq_true c1) (by rw [decide_eq_true c5]; rfl))
  · have ew : wrap64 ((i : Int) - 1) = ((i - 1 : Nat) : Int) := by rw [wr (by omega) (by omega)]; omega
    refine Ev_pos (by omega) ?_
    rw [ew]
    refine Ev_pos (by omega) (Ev_pos (by omega) ?_)
    by_cases c6 : (rd_T68 l ((i - 1 : Nat) : Int)).f0 < (rd_T68 l (i : Int)).f0
    · exact Ev_neg (by omega) (rest (decide_eq_true c1) (by rw [decide_eq_true c6]; simp))
    · exact Ev_pos (by omega) (bad _ rfl (by unfold tokOk tokHd; rw [decide_eq_false c6, decide_eq_false c5]; simp))

theorem ev_toIntS (l : List Int) (hl : l.length ≤ 1048576) : Ev (fun k => laws_toIntS.f k l) l := by
  have := (?_ : Ev (fun k => laws_toIntS.f k l) (l.map id))
  · simpa using this
  unfold laws_toIntS.f
  refine Ev_pos (by omega) ?_
  rw [Int.toNat_natCast]
  refine Ev_pos (by omega) ?_
  refine evFill (fun k xs i => laws_toIntS.l0 k l xs i) l id 0 (fun xs hx => ?_) (fun xs i hi r hx ih => ?_)
  · refine Ev_succ ?_
    simp only [laws_toIntS.l0]
    exact Ev_neg (by omega) (Ev.now _)
  · refine Ev_succ ?_
    simp only [laws_toIntS.l0]
    refine Ev_pos (by omega) (Ev_pos (by omega) (Ev_pos (by omega) ?_))
    rw [wr1 hi (by omega), rdI hi, Int.toNat_natCast]
    exact ih

theorem ev_toNoteS (l : List S178) (hl : l.length ≤ 1048576) : Ev (fun k => laws_toNoteS.f k l) (l.map cv_Note) := by
  unfold laws_toNoteS.f
  refine Ev_pos (by omega) ?_
  rw [Int.toNat_natCast]
  refine Ev_pos (by omega) ?_
  refine evFill (fun k xs i => laws_toNoteS.l0 k l xs i) l cv_Note z64 (fun xs hx => ?_) (fun xs i hi r hx ih => ?_)
  · refine Ev_succ ?_
    simp only [laws_toNoteS.l0]
    exact Ev_neg (by omega) (Ev.now _)
  · refine Ev_succ ?_
    simp only [laws_toNoteS.l0]
    refine Ev_pos (by omega) (Ev_pos (by omega) (Ev_some rfl (Ev_pos (by omega) ?_)))
    rw [wr1 hi (by omega), rd178 hi, Int.toNat_natCast]
    exact ih

theorem ev_toToken (y : S140) (hB : B_Token y) : Ev (fun k => laws_toToken.f k y.f0 y.f1 y.f2 y.f3) (y.f0, y.f1, y.f2, y.f3.map cv_Note) := by
  unfold laws_toToken.f
  exact Ev.bind (ev_toIntS _ hB.1) (Ev.bind (ev_toNoteS _ hB.2) (Ev.now _))
theorem ev_toTokenS (l : List S140) (hl : l.length ≤ 1048576) (hB : ∀ y ∈ l, B_Token y) : Ev (fun k => laws_toTokenS.f k l) (l.map cv_Token) := by
  unfold laws_toTokenS.f
  refine Ev_pos (by omega) ?_
  rw [Int.toNat_natCast]
  refine Ev_pos (by omega) ?_
  refine evFill (fun k xs i => laws_toTokenS.l0 k l xs i) l cv_Token z68 (fun xs hx => ?_) (fun xs i hi r hx ih => ?_)
  · refine Ev_succ ?_
    simp only [laws_toTokenS.l0]
    exact Ev_neg (by omega) (Ev.now _)
  · refine Ev_succ ?_
    simp only [laws_toTokenS.l0]
    refine Ev_pos (by omega) (Ev_pos (by omega) ?_)
    rw [rd140 hi]
    refine Ev.bind (ev_toToken l[i] (hB _ (List.getElem_mem hi))) (Ev_pos (by omega) ?_)
    rw [wr1 hi (by omega), Int.toNat_natCast]
    exact ih

theorem v_impl_within (a b c : Int) : impl_within.f a b c = some (decide (b ≤ a ∧ a ≤ c)) := by
  unfold impl_within.f
  by_cases h : a ≥ b
  · rw [if_pos h]
    simp [show b ≤ a from h]
  · rw [if_neg h]
    simp [show ¬ b ≤ a from h]

theorem v_impl_isId (a : Int) : impl_isId.f a = some (decide (1 ≤ a ∧ a ≤ 1000000)) := by
  unfold impl_isId.f
  rw [v_impl_within]
  rfl

theorem ev_impl_NotesOk (l : List S64) (hl : l.length ≤ 2000000000) : Ev (fun k => impl_NotesOk.f k l) (notesOk l) := by
  unfold impl_NotesOk.f
  refine evAll (fun k i => impl_NotesOk.l0 k l l (l.length : Int) i) l (nOk l) _ ?_ (fun i hi r ht hf => ?_)
  · refine Ev_succ ?_
    simp only [impl_NotesOk.l0]
    exact Ev_neg (by omega) (Ev.now _)
  · have cj : ∀ q : Bool, (nOk l i = !q) → Ev (fun k => impl_NotesOk.j1 k l l (l.length : Int) (i : Int) q) r := by
      intro q h
      refine Ev_succ ?_
      simp only [impl_NotesOk.j1]
      rw [wr1 hi (by omega)]
      cases q with
      | true => exact Ev_pos rfl (Ev_eq (hf h).symm)
      | false => exact Ev_neg (by simp) (ht h)
    refine Ev_succ ?_
    simp only [impl_NotesOk.l0, v_impl_within, v_impl_isId, Option.bind_some]
    refine Ev_pos (by omega) (Ev_pos (by omega) (Ev_pos (by omega) ?_))
    refine Ev_ite (fun h1 => ?_) (fun h1 => cj _ ?_)
    · refine Ev_ite (fun h2 => ?_) (fun h2 => cj _ ?_)
      · refine Ev_ite (fun h3 => ?_) (fun h3 => cj _ ?_)
        · have e : wrap64 ((i : Int) - 1) = ((i - 1 : Nat) : Int) := by rw [wr (by omega) (by omega)]; omega
          rw [e]
          refine Ev_pos (by omega) (Ev_pos (by omega) (cj _ ?_))
          unfold nOk
          rw [show decide (i = 0) = false from decide_eq_false (by omega), h1, h2]
          by_cases h4 : (rd_T64 l ((i - 1 : Nat) : Int)).f0 < (rd_T64 l (i : Int)).f0
          · rw [decide_eq_true h4, decide_eq_false (by omega : ¬ (rd_T64 l ((i - 1 : Nat) : Int)).f0 ≥ (rd_T64 l (i : Int)).f0)]; rfl
          · rw [decide_eq_false h4, decide_eq_true (by omega : (rd_T64 l ((i - 1 : Nat) : Int)).f0 ≥ (rd_T64 l (i : Int)).f0)]; rfl
        · unfold nOk
          rw [show decide (i = 0) = true from decide_eq_true (by omega), h1, h2]
          rfl
      · unfold nOk
        rw [Bool.eq_false_iff.mpr h2]
        simp
    · unfold nOk
      rw [Bool.eq_false_iff.mpr h1]
      simp

theorem ev_impl_TokensOk (l : List S68) (hl : l.length ≤ 2000000000) (hB : ∀ y ∈ l, y.f2.length ≤ 2000000000 ∧ y.f3.length ≤ 2000000000) : Ev (fun k => impl_TokensOk.f k l) (tokensOk l) := by
  unfold impl_TokensOk.f
  refine evAll (fun k i => impl_TokensOk.l0 k l l (l.length : Int) i) l (tokOk l) _ ?_ (fun i hi r ht hf => ?_)
  · refine Ev_succ ?_
    simp only [impl_TokensOk.l0]
    exact Ev_neg (by omega) (Ev.now _)
  have hb := hB _ (List.getElem_mem hi)
  rw [← rd68 hi] at hb
  have inner : tokHd l i = true → Ev (fun k => impl_TokensOk.j1 k l l (l.length : Int) (i : Int) false (rd_T68 l (i : Int)).f0 (rd_T68 l (i : Int)).f1 (rd_T68 l (i : Int)).f2 (rd_T68 l (i : Int)).f3) r := by
    intro hh
    refine Ev_succ ?_
    simp only [impl_TokensOk.j1]
    refine Ev_neg (by simp) ?_
    have go : ∀ j, j ≤ (rd_T68 l (i : Int)).f2.length → (tokTl (rd_T68 l (i : Int)).f1 ((rd_T68 l (i : Int)).f2.drop j) = true → Ev (fun k => impl_TokensOk.l0 k l l (l.length : Int) ((i + 1 : Nat) : Int)) r) → (tokTl (rd_T68 l (i : Int)).f1 ((rd_T68 l (i : Int)).f2.drop j) = false → r = false) →
        Ev (fun k => impl_TokensOk.l1 k l l (l.length : Int) (i : Int) (rd_T68 l (i : Int)).f2 ((rd_T68 l (i : Int)).f2.length : Int) (j : Int) (rd_T68 l (i : Int)).f0 (rd_T68 l (i : Int)).f1 (rd_T68 l (i : Int)).f2 (rd_T68 l (i : Int)).f3) r := by
      refine down (P := fun j => (tokTl (rd_T68 l (i : Int)).f1 ((rd_T68 l (i : Int)).f2.drop j) = true → Ev (fun k => impl_TokensOk.l0 k l l (l.length : Int) ((i + 1 : Nat) : Int)) r) → (tokTl (rd_T68 l (i : Int)).f1 ((rd_T68 l (i : Int)).f2.drop j) = false → r = false) →
        Ev (fun k => impl_TokensOk.l1 k l l (l.length : Int) (i : Int) (rd_T68 l (i : Int)).f2 ((rd_T68 l (i : Int)).f2.length : Int) (j : Int) (rd_T68 l (i : Int)).f0 (rd_T68 l (i : Int)).f1 (rd_T68 l (i : Int)).f2 (rd_T68 l (i : Int)).f3) r) _ ?_ ?_
      · intro h1 _
        refine Ev_succ ?_
        simp only [impl_TokensOk.l1]
        rw [wr1 hi (by omega)]
        exact Ev_neg (by omega) (h1 (by rw [List.drop_length]; rfl))
      · intro j hj ih h1 h2
        refine Ev_succ ?_
        simp only [impl_TokensOk.l1]
        rw [List.drop_eq_getElem_cons hj] at h1 h2
        simp only [tokTl, List.all_cons] at h1 h2 ih
        rw [rdI hj, wr1 hj (by omega)]
        refine Ev_pos (by omega) (Ev_pos (by omega) (Ev_pos (by omega) (Ev_some (v_impl_isId _) ?_)))
        by_cases c : 1 ≤ (rd_T68 l (i : Int)).f2[j] ∧ (rd_T68 l (i : Int)).f2[j] ≤ 1000000
        · refine Ev_pos (decide_eq_true c) ?_
          by_cases d : (rd_T68 l (i : Int)).f1 = 0
          · exact Ev_pos d (Ev_eq (h2 (by simp [d])).symm)
          · refine Ev_neg d (ih (fun h => h1 ?_) (fun h => h2 ?_))
            · rw [h, decide_eq_true c, decide_eq_false d]; rfl
            · rw [h]; simp
        · exact Ev_neg (by simpa using c) (Ev_eq (h2 (by rw [decide_eq_false c]; rfl)).symm)
    refine go 0 (Nat.zero_le _) (fun h => ht ?_) (fun h => hf ?_)
    · unfold tokOk; rw [hh]; simpa using h
    · unfold tokOk; rw [hh]; simpa using h
  have bad : ∀ q : Bool, q = true → tokHd l i = false → Ev (fun k => impl_TokensOk.j1 k l l (l.length : Int) (i : Int) q (rd_T68 l (i : Int)).f0 (rd_T68 l (i : Int)).f1 (rd_T68 l (i : Int)).f2 (rd_T68 l (i : Int)).f3) r := by
    intro q hq hh
    refine Ev_succ ?_
    simp only [impl_TokensOk.j1]
    exact Ev_pos hq (Ev_eq (hf (by unfold tokOk; rw [hh]; rfl)).symm)
  refine Ev_succ ?_
  simp only [impl_TokensOk.l0]
  refine Ev_pos (by omega) (Ev_pos (by omega) (Ev_pos (by omega) (Ev_some (v_impl_isId _) ?_)))
  by_cases c1 : 1 ≤ (rd_T68 l (i : Int)).f0 ∧ (rd_T68 l (i : Int)).f0 ≤ 1000000
  case neg => exact Ev_neg (by simpa using c1) (bad _ rfl (by unfold tokHd; rw [decide_eq_false c1]; rfl))
  refine Ev_pos (decide_eq_true c1) (Ev_some (v_impl_within _ _ _) ?_)
  by_cases c2 : 0 ≤ (rd_T68 l (i : Int)).f1 ∧ (rd_T68 l (i : Int)).f1 ≤ 1000000
  case neg => exact Ev_neg (by simpa using c2) (bad _ rfl (by unfold tokHd; rw [decide_eq_false c2]; simp))
  refine Ev_pos (decide_eq_true c2) ?_
  by_cases c3 : ((rd_T68 l (i : Int)).f2.length : Int) ≤ 200
  case neg => exact Ev_pos (by omega) (bad _ rfl (by unfold tokHd; rw [decide_eq_false c3]; simp))
  refine Ev_neg (by omega) (Ev.bind (ev_impl_NotesOk _ hb.2) ?_)
  cases c4 : notesOk (rd_T68 l (i : Int)).f3 with
  | false => exact Ev_neg (by simp) (bad _ rfl (by unfold tokHd; rw [c4]; simp))
  | true =>
    refine Ev_pos rfl ?_
    by_cases c5 : i = 0
    · subst c5
      exact Ev_neg (by omega) (inner (by unfold tokHd; rw [decide_eq_true c1, decide_eq_true c2, decide_eq_true c3, c4]; simp))
    · have ew : wrap64 ((i : Int) - 1) = ((i - 1 : Nat) : Int) := by rw [wr (by omega) (by omega)]; omega
      refine Ev_pos (by omega) ?_
      rw [ew]
      refine Ev_pos (by omega) (Ev_pos (by omega) ?_)
      by_cases c6 : (rd_T68 l ((i - 1 : Nat) : Int)).f0 < (rd_T68 l (i : Int)).f0
      · rw [show decide ((rd_T68 l ((i - 1 : Nat) : Int)).f0 ≥ (rd_T68 l (i : Int)).f0) = false from decide_eq_false (by omega)]
        exact inner (by unfold tokHd; rw [decide_eq_true c1, decide_eq_true c2, decide_eq_true c3, c4, decide_eq_true c6]; simp)
      · exact bad _ (decide_eq_true (by omega)) (by unfold tokHd; rw [decide_eq_false c6, decide_eq_false c5]; simp)

theorem ev_eqIntS (l : List Int) (hl : l.length ≤ 2000000000) : Ev (fun k => laws_eqIntS.f k l l) true := by
  unfold laws_eqIntS.f
  refine Ev_pos rfl ?_
  refine down (P := fun i => Ev (fun k => laws_eqIntS.l0 k l l (i : Int)) true) l.length ?_ ?_ 0 (Nat.zero_le _)
  · refine Ev_succ ?_
    simp only [laws_eqIntS.l0]
    exact Ev_neg (by omega) (Ev.now _)
  · intro i hi ih
    refine Ev_succ ?_
    simp only [laws_eqIntS.l0]
    refine Ev_pos (by omega) (Ev_pos (by omega) (Ev_pos (by omega) ?_))
    rw [wr1 hi (by omega)]
    exact Ev_pos (by simp) ih

theorem eqr_Note (a0 : Int) (a1 : Int) : laws_eqNote.f a0 a1 a0 a1 = some true := by
  simp [laws_eqNote.f]
theorem ev_eqNoteS (l : List S64) (hl : l.length ≤ 2000000000) : Ev (fun k => laws_eqNoteS.f k l l) true := by
  unfold laws_eqNoteS.f
  refine Ev_pos rfl ?_
  refine down (P := fun i => Ev (fun k => laws_eqNoteS.l0 k l l (i : Int)) true) l.length ?_ ?_ 0 (Nat.zero_le _)
  · refine Ev_succ ?_
    simp only [laws_eqNoteS.l0]
    exact Ev_neg (by omega) (Ev.now _)
  · intro i hi ih
    refine Ev_succ ?_
    simp only [laws_eqNoteS.l0]
    refine Ev_pos (by omega) (Ev_pos (by omega) (Ev_pos (by omega) (Ev_some (eqr_Note _ _) (Ev_pos rfl ?_))))
    rw [wr1 hi (by omega)]
    exact ih

theorem ev_eqToken (y : S68) (hB : BI_Token y) : Ev (fun k => laws_eqToken.f k y.f0 y.f1 y.f2 y.f3 y.f0 y.f1 y.f2 y.f3) true := by
  unfold laws_eqToken.f
  refine Ev_pos rfl ?_
  refine Ev_pos rfl ?_
  refine Ev.bind (ev_eqIntS _ hB.1) (Ev_pos rfl ?_)
  refine Ev.bind (ev_eqNoteS _ hB.2) (Ev_pos rfl ?_)
  exact Ev.now _
theorem ev_eqTokenS (l : List S68) (hl : l.length ≤ 2000000000) (hB : ∀ y ∈ l, BI_Token y) : Ev (fun k => laws_eqTokenS.f k l l) true := by
  unfold laws_eqTokenS.f
  refine Ev_pos rfl ?_
  refine down (P := fun i => Ev (fun k => laws_eqTokenS.l0 k l l (i : Int)) true) l.length ?_ ?_ 0 (Nat.zero_le _)
  · refine Ev_succ ?_
    simp only [laws_eqTokenS.l0]
    exact Ev_neg (by omega) (Ev.now _)
  · intro i hi ih
    refine Ev_succ ?_
    simp only [laws_eqTokenS.l0]
    refine Ev_pos (by omega) (Ev_pos (by omega) (Ev_pos (by omega) ?_))
    rw [rd68 hi, wr1 hi (by omega)]
    exact Ev.bind (ev_eqToken l[i] (hB _ (List.getElem_mem hi))) (Ev_pos rfl ih)

theorem pure_law : laws_FnExactTokensOk.Pure := by
  intro l0 hm hg
  refine Ev.rounds (g := fun k => laws_FnExactTokensOk.f k l0) ?_
  unfold laws_FnExactTokensOk.f
  obtain ⟨r, hr, hc⟩ := sz_TokenS l0 1048576 (by omega) (by omega) hm hg
  refine Ev.bind hr ?_
  rcases hc with rfl | ⟨c0, c1, c2, hB⟩
  · exact Ev_pos (by omega) (Ev.now _)
  · have hl : (l0.map cv_Token).length ≤ 2000000000 := by rw [List.length_map]; omega
    have hI := bi_Token hB
    exact Ev_neg (by omega) (Ev.bind (ev_toTokenS l0 c2 hB) (Ev.bind (ev_spec_TokensOk _ hl hI) (Ev.bind (ev_toTokenS l0 c2 hB) (Ev.bind (ev_impl_TokensOk _ hl hI)
      (Ev_neg (by simp) (Ev.bind (ev_toTokenS l0 c2 hB) (Ev.bind (ev_eqTokenS _ hl hI) (Ev_pos (by simp) (Ev.now _)))))))))

end Go.Proofs.Ytdmhdfdlljafbaa.PFnExactTokensOk
namespace Go.Proofs.Ytdmhdfdlljafbaa.PureOf
theorem FnExactTokensOk : Go.Proofs.Ytdmhdfdlljafbaa.PFnExactTokensOk.laws_FnExactTokensOk.Pure := Go.Proofs.Ytdmhdfdlljafbaa.PFnExactTokensOk.pure_law
end Go.Proofs.Ytdmhdfdlljafbaa.PureOf
