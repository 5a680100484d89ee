/- What is left of the law FnExactMasterOf: over lists and numbers alone. No condition beyond the statement's own. -/
import Derived.Test.YtdmhdfdlljafbaaKnFnExactMasterOf
import Derived.Test.YtdmhdfdlljafbaaVFnExactMasterOf
namespace Go.Proofs.Ytdmhdfdlljafbaa.PFnExactMasterOf
open Go.RowKit Go.Proofs.YtdmhdfdlljafbaaW.PrintWords Go.Proofs.YtdmhdfdlljafbaaW.PrintLast Go.Proofs.YtdmhdfdlljafbaaW.PrintMore Go.Proofs.YtdmhdfdlljafbaaV
set_option linter.unusedVariables false
set_option linter.unusedSimpArgs false
theorem rd160 {l : List S160} {i : Nat} (h : i < l.length) : rd_T160 l (i : Int) = l[i] := by
  unfold rd_T160
  simp [List.getD, List.getElem?_eq_getElem h]
theorem rds160 {l : List S160} {i : Nat} (h : i < l.length) (v : S160) : rd_T160 (l.set i v) (i : Int) = v := by
  unfold rd_T160
  simp [List.getD, h]

theorem rd115 {l : List S115} {i : Nat} (h : i < l.length) : rd_T115 l (i : Int) = l[i] := by
  unfold rd_T115
  simp [List.getD, List.getElem?_eq_getElem h]
theorem rds115 {l : List S115} {i : Nat} (h : i < l.length) (v : S115) : rd_T115 (l.set i v) (i : Int) = v := by
  unfold rd_T115
  simp [List.getD, h]

theorem rd132 {l : List S132} {i : Nat} (h : i < l.length) : rd_T132 l (i : Int) = l[i] := by
  unfold rd_T132
  simp [List.getD, List.getElem?_eq_getElem h]
theorem rds132 {l : List S132} {i : Nat} (h : i < l.length) (v : S132) : rd_T132 (l.set i v) (i : Int) = v := by
  unfold rd_T132
  simp [List.getD, h]

theorem rd74 {l : List S74} {i : Nat} (h : i < l.length) : rd_T74 l (i : Int) = l[i] := by
  unfold rd_T74
  simp [List.getD, List.getElem?_eq_getElem h]
theorem rds74 {l : List S74} {i : Nat} (h : i < l.length) (v : S74) : rd_T74 (l.set i v) (i : Int) = v := by
  unfold rd_T74
  simp [List.getD, h]

theorem sz_ok_Val (l : List S160) (a : Int) (ha : 0 ≤ a) (hb : a ≤ 1048576) (hl : (l.length : Int) ≤ a) : laws_szValS.f l a = some (a - l.length) := by
  unfold laws_szValS.f
  rw [wr (by omega) (by omega), if_neg (by omega)]
theorem sz_big_Val (l : List S160) (a : Int) (ha : 0 ≤ a) (hb : a ≤ 1048576) (hm : l.length ≤ maxLen) (hl : ¬ (l.length : Int) ≤ a) : laws_szValS.f l a = some (-1) := by
  unfold maxLen at hm
  unfold laws_szValS.f
  rw [wr (by omega) (by omega), if_pos (by omega)]

def cv_Val (x : S160) : S132 := ⟨x.f0, x.f1⟩

def cv_Master (x : S115) : S74 := ⟨x.f0, x.f1, x.f2, x.f3.map cv_Val⟩
def B_Master (x : S115) : Prop := x.f3.length ≤ 1048576
def BI_Master (x : S74) : Prop := x.f3.length ≤ 2000000000

theorem bi_Master {l : List S115} (hB : ∀ y ∈ l, B_Master y) : ∀ y ∈ l.map cv_Master, BI_Master y := by
  intro y hy
  obtain ⟨z, hz, rfl⟩ := List.mem_map.1 hy
  have h := hB z hz
  unfold B_Master at h
  unfold BI_Master cv_Master
  simp only [List.length_map]
  omega

theorem sz_Master (y : S115) (a : Int) (ha : 0 ≤ a) (hb : a ≤ 1048576) (m0 : y.f3.length ≤ maxLen) : ∃ r, laws_szMaster.f y.f0 y.f1 y.f2 y.f3 a = some r ∧ (r = -1 ∨ (0 ≤ r ∧ r ≤ a ∧ B_Master y)) := by
  unfold laws_szMaster.f
  by_cases h0 : (y.f3.length : Int) ≤ a
  · rw [sz_ok_Val _ _ (by omega) (by omega) h0]
    simp only [Option.bind_some]
    rw [if_neg (by omega)]
    exact ⟨_, rfl, .inr ⟨by omega, by omega, (by omega : _ ≤ 1048576)⟩⟩
  · rw [sz_big_Val _ _ (by omega) (by omega) m0 h0]
    simp only [Option.bind_some]
    rw [if_pos (by omega)]
    exact ⟨_, rfl, .inl rfl⟩
theorem sz_MasterS (l : List S115) (a : Int) (ha : 0 ≤ a) (hb : a ≤ 1048576) (hm : l.length ≤ maxLen) (hg : ∀ y ∈ l, G115 y) : ∃ r, Ev (fun k => laws_szMasterS.f k l a) r ∧ (r = -1 ∨ (0 ≤ r ∧ r ≤ a ∧ l.length ≤ 1048576 ∧ ∀ y ∈ l, B_Master y)) := by
  unfold maxLen at hm
  unfold laws_szMasterS.f
  rw [wr (x := a - (l.length : Int)) (by omega) (by omega)]
  by_cases c : (l.length : Int) ≤ a
  · have key : ∀ i, i ≤ l.length → ∀ b : Int, 0 ≤ b → b ≤ a → ∃ r, Ev (fun k => laws_szMasterS.l0 k l b (i : Int)) r ∧ (r = -1 ∨ (0 ≤ r ∧ r ≤ b ∧ ∀ y ∈ l.drop i, B_Master y)) := by
      refine down (P := fun i => ∀ b : Int, 0 ≤ b → b ≤ a → ∃ r, Ev (fun k => laws_szMasterS.l0 k l b (i : Int)) r ∧ (r = -1 ∨ (0 ≤ r ∧ r ≤ b ∧ ∀ y ∈ l.drop i, B_Master y))) l.length ?_ ?_
      · intro b h0 h1
        refine ⟨b, ?_, .inr ⟨h0, Int.le_refl _, by simp⟩⟩
        refine Ev_succ ?_
        simp only [laws_szMasterS.l0]
        exact Ev_neg (by omega) (Ev.now _)
      · intro i hi ih b h0 h1
        have hgi := hg _ (List.getElem_mem hi)
        unfold G115 at hgi
        obtain ⟨r, hr, hc⟩ := sz_Master l[i] b h0 (by omega) (by have := hgi; simp_all)
        rcases hc with rfl | ⟨c0, c1, hB⟩
        · refine ⟨-1, ?_, .inl rfl⟩
          refine Ev_succ ?_
          simp only [laws_szMasterS.l0]
          refine Ev_pos (by omega) (Ev_pos (by omega) ?_)
          rw [rd115 hi]
          exact Ev_some hr (Ev_pos (by omega) (Ev.now _))
        · obtain ⟨r', hr', hc'⟩ := ih r c0 (by omega)
          refine ⟨r', ?_, ?_⟩
          · refine Ev_succ ?_
            simp only [laws_szMasterS.l0]
            refine Ev_pos (by omega) (Ev_pos (by omega) ?_)
            rw [rd115 hi, wr1 hi (by omega)]
            exact Ev_some hr (Ev_neg (by omega) hr')
          · rcases hc' with h | ⟨d0, d1, d2⟩
            · exact .inl h
            · refine .inr ⟨d0, by omega, fun y hy => ?_⟩
              rw [List.drop_eq_getElem_cons hi] at hy
              rcases List.mem_cons.1 hy with rfl | hy
              · exact hB
              · exact d2 y hy
    obtain ⟨r, hr, hc⟩ := key 0 (Nat.zero_le _) (a - l.length) (by omega) (by omega)
    refine ⟨r, Ev_neg (by omega) hr, ?_⟩
    rcases hc with h | ⟨d0, d1, d2⟩
    · exact .inl h
    · exact .inr ⟨d0, by omega, by omega, by simpa using d2⟩
  · exact ⟨-1, Ev_pos (by omega) (Ev.now _), .inl rfl⟩

def masterAtGo (i : Nat) (l : List S74) (id : Int) : Int := match l with
  | [] => -1
  | x :: xs => if x.f0 = id then (i : Int) else masterAtGo (i + 1) xs id
def masterAt (l : List S74) (id : Int) : Int := masterAtGo 0 l id
theorem masterAtGo_range (i : Nat) (l : List S74) (id : Int) : masterAtGo i l id = -1 ∨ ((i : Int) ≤ masterAtGo i l id ∧ masterAtGo i l id < (i : Int) + l.length) := by
  induction l generalizing i with
  | nil => exact .inl rfl
  | cons x xs ih =>
    unfold masterAtGo
    split
    · right; simp; omega
    · rcases ih (i + 1) with h | ⟨h1, h2⟩
      · exact .inl h
      · right; simp; omega
theorem masterAt_range (l : List S74) (id : Int) : masterAt l id = -1 ∨ (0 ≤ masterAt l id ∧ masterAt l id < l.length) := by
  have := masterAtGo_range 0 l id
  unfold masterAt
  omega

theorem ev_spec_l23At (l : List S74) (id : Int) (hl : l.length ≤ 2000000000) : Ev (fun k => spec_l23At.f k l id) (masterAt l id) := by
  unfold spec_l23At.f
  refine down (P := fun i => Ev (fun k => spec_l23At.l0 k l id (i : Int)) (masterAtGo i (l.drop i) id)) l.length ?_ ?_ 0 (Nat.zero_le _)
  · refine Ev_succ ?_
    simp only [spec_l23At.l0]
    rw [List.drop_length]
    exact Ev_neg (by omega) (Ev.now _)
  · intro i hi ih
    refine Ev_succ ?_
    simp only [spec_l23At.l0]
    rw [List.drop_eq_getElem_cons hi, rd74 hi, wr1 hi (by omega)]
    unfold masterAtGo
    refine Ev_pos (by omega) (Ev_pos (by omega) ?_)
    by_cases h : l[i].f0 = id
    · rw [if_pos h]; exact Ev_pos h (Ev.now _)
    · rw [if_neg h]; exact Ev_neg h ih

theorem v_spec_l23One (af0 : Int) (af1 : Int) (af2 : Int) (af3 : List S132) (hf3 : af3.length ≤ 2000000000) : spec_l23One.f af0 af1 af2 af3 = some (af0, af1, af2, af3) := by
  unfold spec_l23One.f
  simp only [Option.bind_some, List.nil_append, List.length_nil, Nat.zero_add]
  rw [if_pos (by omega)]

def of_Master (l : List S74) (id : Int) : Int × Int × Int × (List S132) × Bool := if masterAt l id < 0 then (0, 0, 0, ([] : List S132), false) else ((rd_T74 l (masterAt l id)).f0, (rd_T74 l (masterAt l id)).f1, (rd_T74 l (masterAt l id)).f2, (rd_T74 l (masterAt l id)).f3, true)
theorem cut_one {α : Type} (l : List α) {i : Nat} (h : i < l.length) : (l.take (i + 1)).drop i = [l[i]] := by
  rw [List.take_succ_eq_append_getElem h]
  exact List.drop_left' (by rw [List.length_take]; omega)

theorem ev_spec_MasterOf (l : List S74) (id : Int) (hl : l.length ≤ 2000000000) (hB : ∀ y ∈ l, BI_Master y) : Ev (fun k => spec_MasterOf.f k l id) (of_Master l id) := by
  unfold spec_MasterOf.f
  refine Ev.bind (ev_spec_l23At l id hl) ?_
  have hr := masterAt_range l id
  by_cases c : masterAt l id < 0
  · have e : of_Master l id = (0, 0, 0, ([] : List S132), false) := by unfold of_Master; rw [if_pos c]
    rw [e]; exact Ev_pos c (Ev.now _)
  · have e : of_Master l id = ((rd_T74 l (masterAt l id)).f0, (rd_T74 l (masterAt l id)).f1, (rd_T74 l (masterAt l id)).f2, (rd_T74 l (masterAt l id)).f3, true) := by unfold of_Master; rw [if_neg c]
    rw [e]; clear e
    obtain ⟨n, hn⟩ : ∃ n : Nat, masterAt l id = (n : Int) := ⟨(masterAt l id).toNat, by omega⟩
    rw [hn] at hr ⊢
    have hnl : n < l.length := by omega
    have hb := hB _ (List.getElem_mem hnl)
    unfold BI_Master at hb
    rw [rd74 hnl]
    exact Ev_neg (by omega) (Ev_pos (by omega) (Ev_pos (by omega) (Ev_some (v_spec_l23One _ _ _ _ hb) (Ev.now _))))

theorem ev_toValS (l : List S160) (hl : l.length ≤ 1048576) : Ev (fun k => laws_toValS.f k l) (l.map cv_Val) := by
  unfold laws_toValS.f
  refine Ev_pos (by omega) ?_
  rw [Int.toNat_natCast]
  refine Ev_pos (by omega) ?_
  refine evFill (fun k xs i => laws_toValS.l0 k l xs i) l cv_Val z132 (fun xs hx => ?_) (fun xs i hi r hx ih => ?_)
  · refine Ev_succ ?_
    simp only [laws_toValS.l0]
    exact Ev_neg (by omega) (Ev.now _)
  · refine Ev_succ ?_
    simp only [laws_toValS.l0]
    refine Ev_pos (by omega) (Ev_pos (by omega) (Ev_some rfl (Ev_pos (by omega) ?_)))
    rw [wr1 hi (by omega), rd160 hi, Int.toNat_natCast]
    exact ih

theorem ev_toMaster (y : S115) (hB : B_Master y) : Ev (fun k => laws_toMaster.f k y.f0 y.f1 y.f2 y.f3) (y.f0, y.f1, y.f2, y.f3.map cv_Val) := by
  unfold laws_toMaster.f
  exact Ev.bind (ev_toValS _ hB) (Ev.now _)
theorem ev_toMasterS (l : List S115) (hl : l.length ≤ 1048576) (hB : ∀ y ∈ l, B_Master y) : Ev (fun k => laws_toMasterS.f k l) (l.map cv_Master) := by
  unfold laws_toMasterS.f
  refine Ev_pos (by omega) ?_
  rw [Int.toNat_natCast]
  refine Ev_pos (by omega) ?_
  refine evFill (fun k xs i => laws_toMasterS.l0 k l xs i) l cv_Master z74 (fun xs hx => ?_) (fun xs i hi r hx ih => ?_)
  · refine Ev_succ ?_
    simp only [laws_toMasterS.l0]
    exact Ev_neg (by omega) (Ev.now _)
  · refine Ev_succ ?_
    simp only [laws_toMasterS.l0]
    refine Ev_pos (by omega) (Ev_pos (by omega) ?_)
    rw [rd115 hi]
    refine Ev.bind (ev_toMaster l[i] (hB _ (List.getElem_mem hi))) (Ev_pos (by omega) ?_)
    rw [wr1 hi (by omega), Int.toNat_natCast]
    exact ih

theorem ev_impl_masterAt (l : List S74) (id : Int) (hl : l.length ≤ 2000000000) : Ev (fun k => impl_masterAt.f k l id) (masterAt l id) := by
  unfold impl_masterAt.f
  refine down (P := fun i => Ev (fun k => impl_masterAt.l0 k id l (l.length : Int) (i : Int)) (masterAtGo i (l.drop i) id)) l.length ?_ ?_ 0 (Nat.zero_le _)
  · refine Ev_succ ?_
    simp only [impl_masterAt.l0]
    rw [List.drop_length]
    exact Ev_neg (by omega) (Ev.now _)
  · intro i hi ih
    refine Ev_succ ?_
    simp only [impl_masterAt.l0]
    rw [List.drop_eq_getElem_cons hi, rd74 hi, wr1 hi (by omega)]
    unfold masterAtGo
    refine Ev_pos (by omega) (Ev_pos (by omega) (Ev_pos (by omega) ?_))
    by_cases h : l[i].f0 = id
    · rw [if_pos h]; exact Ev_pos h (Ev.now _)
    · rw [if_neg h]; exact Ev_neg h ih

theorem v_impl_copyVals (l : List S132) (hl : l.length ≤ 2000000000) : impl_copyVals.f l = some l := by
  unfold impl_copyVals.f
  simp only [Option.bind_some, List.nil_append, List.length_nil, Nat.zero_add]
  rw [if_pos (by omega)]

theorem ev_impl_copyMasters (l : List S74) (hl : l.length ≤ 2000000000) (hB : ∀ y ∈ l, BI_Master y) : Ev (fun k => impl_copyMasters.f k l) l := by
  unfold impl_copyMasters.f
  refine down (P := fun i => Ev (fun k => impl_copyMasters.l0 k (l.take i) l (l.length : Int) (i : Int)) l) l.length ?_ ?_ 0 (Nat.zero_le _)
  · refine Ev_succ ?_
    simp only [impl_copyMasters.l0]
    exact Ev_neg (by omega) (Ev_eq List.take_length)
  · intro i hi ih
    have hb := hB _ (List.getElem_mem hi)
    unfold BI_Master at hb
    refine Ev_succ ?_
    simp only [impl_copyMasters.l0]
    rw [rd74 hi, wr1 hi (by omega)]
    refine Ev_pos (by omega) (Ev_pos (by omega) (Ev_pos (by omega) (Ev_some (v_impl_copyVals _ hb) (Ev_pos (by rw [List.length_take]; omega) ?_))))
    rw [List.take_succ_eq_append_getElem hi] at ih
    exact ih

theorem ev_impl_MasterOf (l : List S74) (id : Int) (hl : l.length ≤ 2000000000) (hB : ∀ y ∈ l, BI_Master y) : Ev (fun k => impl_MasterOf.f k l id) (of_Master l id) := by
  unfold impl_MasterOf.f
  refine Ev.bind (ev_impl_masterAt l id hl) ?_
  have hr := masterAt_range l id
  by_cases c : masterAt l id < 0
  · have e : of_Master l id = (0, 0, 0, ([] : List S132), false) := by unfold of_Master; rw [if_pos c]
    rw [e]; exact Ev_pos c (Ev.now _)
  · have e : of_Master l id = ((rd_T74 l (masterAt l id)).f0, (rd_T74 l (masterAt l id)).f1, (rd_T74 l (masterAt l id)).f2, (rd_T74 l (masterAt l id)).f3, true) := by unfold of_Master; rw [if_neg c]
    rw [e]; clear e
    obtain ⟨n, hn⟩ : ∃ n : Nat, masterAt l id = (n : Int) := ⟨(masterAt l id).toNat, by omega⟩
    rw [hn] at hr ⊢
    have hnl : n < l.length := by omega
    refine Ev_neg (by omega) (Ev_pos (by omega) ?_)
    rw [wr1 hnl (by omega)]
    refine Ev_pos (by omega) (Ev_pos (by omega) ?_)
    rw [Int.toNat_natCast, Int.toNat_natCast, cut_one l hnl, rd74 hnl]
    exact Ev.bind (ev_impl_copyMasters _ (by simp) (fun y hy => by rw [List.mem_singleton] at hy; subst hy; exact hB _ (List.getElem_mem hnl))) (Ev_pos (by simp) (Ev.now _))

theorem eqr_Val (a0 : Bool) (a1 : Int) : laws_eqVal.f a0 a1 a0 a1 = some true := by
  simp [laws_eqVal.f]
theorem ev_eqValS (l : List S132) (hl : l.length ≤ 2000000000) : Ev (fun k => laws_eqValS.f k l l) true := by
  unfold laws_eqValS.f
  refine Ev_pos rfl ?_
  refine down (P := fun i => Ev (fun k => laws_eqValS.l0 k l l (i : Int)) true) l.length ?_ ?_ 0 (Nat.zero_le _)
  · refine Ev_succ ?_
    simp only [laws_eqValS.l0]
    exact Ev_neg (by omega) (Ev.now _)
  · intro i hi ih
    refine Ev_succ ?_
    simp only [laws_eqValS.l0]
    refine Ev_pos (by omega) (Ev_pos (by omega) (Ev_pos (by omega) (Ev_some (eqr_Val _ _) (Ev_pos rfl ?_))))
    rw [wr1 hi (by omega)]
    exact ih

theorem ev_eqMaster (y : S74) (hB : BI_Master y) : Ev (fun k => laws_eqMaster.f k y.f0 y.f1 y.f2 y.f3 y.f0 y.f1 y.f2 y.f3) true := by
  unfold laws_eqMaster.f
  refine Ev_pos rfl ?_
  refine Ev_pos rfl ?_
  refine Ev_pos rfl ?_
  refine Ev.bind (ev_eqValS _ hB) (Ev_pos rfl ?_)
  exact Ev.now _
theorem ev_eqMasterS (l : List S74) (hl : l.length ≤ 2000000000) (hB : ∀ y ∈ l, BI_Master y) : Ev (fun k => laws_eqMasterS.f k l l) true := by
  unfold laws_eqMasterS.f
  refine Ev_pos rfl ?_
  refine down (P := fun i => Ev (fun k => laws_eqMasterS.l0 k l l (i : Int)) true) l.length ?_ ?_ 0 (Nat.zero_le _)
  · refine Ev_succ ?_
    simp only [laws_eqMasterS.l0]
    exact Ev_neg (by omega) (Ev.now _)
  · intro i hi ih
    refine Ev_succ ?_
    simp only [laws_eqMasterS.l0]
    refine Ev_pos (by omega) (Ev_pos (by omega) (Ev_pos (by omega) ?_))
    rw [rd74 hi, wr1 hi (by omega)]
    exact Ev.bind (ev_eqMaster l[i] (hB _ (List.getElem_mem hi))) (Ev_pos rfl ih)

def el_Val (a : Int) : S132 := ⟨(Int.tmod (a) 3 == 0), a + 1⟩
def mk_Val (n : Nat) (a : Int) : List S132 := (List.range n).map fun i : Nat => el_Val (a + 2 * (i : Int))

theorem ev_markValS (l : List S132) (a : Int) (h0 : 0 ≤ a) (hb : a + 2 * (l.length : Int) ≤ 1000000000000000000) : Ev (fun k => laws_markValS.f k l a) (a + 2 * (l.length : Int), mk_Val l.length a) := by
  unfold laws_markValS.f
  refine evMark (fun k xs a i => laws_markValS.l0 k xs a i) 2 (by omega) el_Val l a h0 hb (fun xs a hx => ?_) (fun xs i a r hi hx h0 hb ih => ?_)
  · refine Ev_succ ?_
    simp only [laws_markValS.l0]
    exact Ev_neg (by omega) (Ev.now _)
  · refine Ev_succ ?_
    simp only [laws_markValS.l0]
    refine Ev_pos (by omega) (Ev_pos (by omega) ?_)
    have e1 : wrap64 (a + 1) = a + 1 := wr (by omega) (by omega)
    have e2 : wrap64 (a + 1 + 1) = a + 2 := by rw [wr (by omega) (by omega)]; omega
    simp only [e1, e2, Option.bind_some, Int.toNat_natCast, List.set_set]
    rw [wr1 (n := l.length) (by omega) (by omega)]
    have hi' : i < xs.length := by omega
    simp only [rds132 hi', List.length_set, List.set_set] at ih ⊢
    first | exact ih | (simp only [rd132 hi'] at ih ⊢; exact ih)

theorem ev_markMaster (af0 : Int) (af1 : Int) (af2 : Int) (af3 : List S132) (a : Int) (h0 : 0 ≤ a) (hb : a + 2 * (af3.length : Int) ≤ 1000000000000000000) : Ev (fun k => laws_markMaster.f k af0 af1 af2 af3 a) (a + 2 * (af3.length : Int), mk_Val af3.length a) := by
  unfold laws_markMaster.f
  exact Ev.bind (ev_markValS af3 (a) (by omega) (by omega)) (Ev.now _)

theorem ev_heldValS (m : Nat) (a : Int) (h0 : 0 ≤ a) (hb : a + 2 * (m : Int) ≤ 1000000000000000000) : Ev (fun k => laws_heldValS.f k (mk_Val m a) a) (a + 2 * (m : Int)) := by
  unfold laws_heldValS.f
  have hl : (mk_Val m a).length = m := by simp [mk_Val]
  have key : ∀ i, i ≤ m → Ev (fun k => laws_heldValS.l0 k (mk_Val m a) (a + 2 * (i : Int)) (i : Int)) (a + 2 * (m : Int)) := by
    refine down (P := fun i => Ev (fun k => laws_heldValS.l0 k (mk_Val m a) (a + 2 * (i : Int)) (i : Int)) (a + 2 * (m : Int))) m ?_ ?_
    · refine Ev_succ ?_
      simp only [laws_heldValS.l0]
      exact Ev_neg (by omega) (Ev.now _)
    · intro i hi ih
      have hi' : i < (mk_Val m a).length := by omega
      have hr : rd_T132 (mk_Val m a) (i : Int) = el_Val (a + 2 * (i : Int)) := by
        rw [rd132 hi']
        simp [mk_Val]
      refine Ev_succ ?_
      simp only [laws_heldValS.l0]
      refine Ev_pos (by omega) (Ev_pos (by omega) ?_)
      have e1 : wrap64 (a + 2 * (i : Int) + 1) = a + 2 * (i : Int) + 1 := wr (by omega) (by omega)
      have e2 : wrap64 (a + 2 * (i : Int) + 1 + 1) = a + 2 * (i : Int) + 2 := by rw [wr (by omega) (by omega)]; omega
      rw [hr]
      simp only [e1, e2, el_Val, bne_self_eq_false, if_true, if_false, Bool.false_eq_true]
      rw [wr1 (n := m) hi (by omega)]
      have e : a + 2 * ((i + 1 : Nat) : Int) = a + 2 * (i : Int) + 2 := by omega
      rw [e] at ih
      exact ih
  have := key 0 (Nat.zero_le _)
  simpa using this

theorem ev_heldMaster (af0 : Int) (af1 : Int) (af2 : Int) (af3 : List S132) (a : Int) (h0 : 0 ≤ a) (hb : a + 2 * (af3.length : Int) ≤ 1000000000000000000) : Ev (fun k => laws_heldMaster.f k af0 af1 af2 (mk_Val af3.length (a)) a) (a + 2 * (af3.length : Int)) := by
  unfold laws_heldMaster.f
  exact Ev.bind (ev_heldValS af3.length (a) (by omega) (by omega)) (Ev_neg (by omega) (Ev.now _))

theorem evP_markMasterS (l : List S74) (a : Int) (h0 : 0 ≤ a) (ha : a ≤ 1000000) (hl : l.length ≤ 1048576) (hB : ∀ y ∈ l, BI_Master y) : EvP (fun k => laws_markMasterS.f k l a) (fun r => 0 ≤ r.1) := by
  unfold laws_markMasterS.f
  have key : ∀ d i : Nat, i + d = l.length → ∀ (xs : List S74) (a : Int), xs.length = l.length → (∀ y ∈ xs.drop i, BI_Master y) → 0 ≤ a → a + 4000000003 * (d : Int) ≤ 1000000000000000000 → EvP (fun k => laws_markMasterS.l0 k xs a (i : Int)) (fun r => 0 ≤ r.1) := by
    intro d
    induction d with
    | zero =>
      intro i hi xs a hx hB h0 hb
      refine EvP_succ ?_
      simp only [laws_markMasterS.l0]
      exact EvP_neg (by omega) (EvP_now h0)
    | succ d ih =>
      intro i hi xs a hx hB h0 hb
      have hil : i < xs.length := by omega
      have hb1 : BI_Master xs[i] := hB _ (by rw [List.drop_eq_getElem_cons hil]; exact List.mem_cons_self)
      have hb2 := hb1
      unfold BI_Master at hb2
      rw [← rd74 hil] at hb2
      refine EvP_succ ?_
      simp only [laws_markMasterS.l0]
      have e1 : wrap64 (a + 1) = a + 1 := wr (by omega) (by omega)
      have e2 : wrap64 (a + 1 + 1) = a + 2 := by rw [wr (by omega) (by omega)]; omega
      have e3 : wrap64 (a + 2 + 1) = a + 3 := by rw [wr (by omega) (by omega)]; omega
      simp only [e1, e2, e3, Int.toNat_natCast]
      rw [wr1 hil (by omega)]
      refine EvP_pos (by omega) (EvP_pos (by omega) ?_)
      refine EvP_bindE (ev_markValS _ (a + 3) (by omega) (by omega)) ?_
      refine ih (i + 1) (by omega) _ _ (by rw [List.length_set]; exact hx) (fun y hy => hB y ?_) (by omega) (by omega)
      rw [List.drop_set, if_pos (by omega)] at hy
      rw [List.drop_eq_getElem_cons hil]
      exact List.mem_cons_of_mem _ hy
  exact key l.length 0 (by omega) l a rfl (by simpa using hB) h0 (by omega)

theorem pure_law : laws_FnExactMasterOf.Pure := by
  intro l0 a1 hm hg ha
  obtain ⟨r, ⟨K0, e0⟩, hc⟩ := sz_MasterS l0 1048576 (by omega) (by omega) hm hg
  rcases hc with rfl | ⟨c0, c1, c2, hB⟩
  · exact ⟨K0, laws_FnExactMasterOf.good0 K0 l0 a1 (e0 K0 (Nat.le_refl _)) (by omega)⟩
  · have hl : (l0.map cv_Master).length ≤ 2000000000 := by rw [List.length_map]; omega
    have hI := bi_Master hB
    obtain ⟨K1, e1⟩ := ev_toMasterS l0 c2 hB
    obtain ⟨K2, e2⟩ := ev_spec_MasterOf _ a1 hl hI
    obtain ⟨K3, e3⟩ := ev_impl_MasterOf _ a1 hl hI
    obtain ⟨K4, e4⟩ := ev_eqMasterS _ hl hI
    obtain ⟨r5, ⟨K5, e5⟩, h5⟩ := evP_markMasterS (l0.map cv_Master) 1 (by omega) (by omega) (by rw [List.length_map]; omega) hI
    obtain ⟨x, hx, hxB⟩ : ∃ x : S74 × Bool, of_Master (l0.map cv_Master) a1 = (x.1.f0, x.1.f1, x.1.f2, x.1.f3, x.2) ∧ BI_Master x.1 := by
      unfold of_Master
      split
      · exact ⟨(⟨0, 0, 0, []⟩, false), rfl, by unfold BI_Master; simp⟩
      · rename_i c
        refine ⟨(rd_T74 (l0.map cv_Master) (masterAt (l0.map cv_Master) a1), true), rfl, hI _ ?_⟩
        have hr := masterAt_range (l0.map cv_Master) a1
        obtain ⟨n, hn⟩ : ∃ n : Nat, masterAt (l0.map cv_Master) a1 = (n : Int) := ⟨(masterAt (l0.map cv_Master) a1).toNat, by omega⟩
        rw [hn] at hr
        have e := rd74 (l := l0.map cv_Master) (i := n) (by omega)
        show rd_T74 (l0.map cv_Master) (masterAt (l0.map cv_Master) a1) ∈ _
        rw [hn, e]
        exact List.getElem_mem _
    rw [hx] at e2 e3
    have hxb := hxB
    unfold BI_Master at hxb
    obtain ⟨K6, e6⟩ := ev_eqMaster x.1 hxB
    obtain ⟨K7, e7⟩ := ev_markMaster x.1.f0 x.1.f1 x.1.f2 x.1.f3 1 (by omega) (by omega)
    obtain ⟨K8, e8⟩ := ev_heldMaster x.1.f0 x.1.f1 x.1.f2 x.1.f3 1 (by omega) (by omega)
    have z : ∀ i, i ≤ K0 + K1 + K2 + K3 + K4 + K5 + K6 + K7 + K8 → i ≤ K0 + K1 + K2 + K3 + K4 + K5 + K6 + K7 + K8 := fun _ h => h
    exact ⟨K0 + K1 + K2 + K3 + K4 + K5 + K6 + K7 + K8, laws_FnExactMasterOf.good1 _ l0 a1 (e0 _ (by omega)) (by omega) (e1 _ (by omega)) (e2 _ (by omega)) (e3 _ (by omega)) (e6 _ (by omega)) (e4 _ (by omega)) (e5 _ (by omega)) (by omega) (e7 _ (by omega)) (e8 _ (by omega)) (by omega)⟩

end Go.Proofs.Ytdmhdfdlljafbaa.PFnExactMasterOf
namespace Go.Proofs.Ytdmhdfdlljafbaa.PureOf
theorem FnExactMasterOf : Go.Proofs.Ytdmhdfdlljafbaa.PFnExactMasterOf.laws_FnExactMasterOf.Pure := Go.Proofs.Ytdmhdfdlljafbaa.PFnExactMasterOf.pure_law
end Go.Proofs.Ytdmhdfdlljafbaa.PureOf
