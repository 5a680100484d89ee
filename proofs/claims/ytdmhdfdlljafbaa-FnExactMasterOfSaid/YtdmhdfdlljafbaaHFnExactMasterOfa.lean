/- Marks by hand. -/
import Derived.Test.YtdmhdfdlljafbaaPFnExactMasterOfx
namespace Go.Proofs.Ytdmhdfdlljafbaa.PFnExactMasterOf
open Go.RowKit Go.Proofs.YtdmhdfdlljafbaaW.PrintWords Go.Proofs.YtdmhdfdlljafbaaW.PrintLast Go.Proofs.YtdmhdfdlljafbaaW.PrintMore
attribute [local go_sem] max2_int min2_int max_two min_two max_three min_three max_four min_four   -- for this text's walks alone
set_option linter.unusedVariables false
set_option linter.unusedSimpArgs false
/-! ### laws_markMasterS: function 59, by hand -/
def laws_markMasterS.l0 : Nat → List S74 → Int → Int → Option (Int × List S74)
  | 0, _, _, _ => none
  | k + 1, x0, x1, x5 => if x5 < (x0.length : Int) then (if 0 ≤ x5 then ((laws_markValS.f k (rd_T74 x0 x5).f3 (wrap64 ((wrap64 ((wrap64 (x1 + 1)) + 1)) + 1))).bind fun t3 => (laws_markMasterS.l0 k (x0.set x5.toNat (⟨x1, wrap64 (x1 + 1), wrap64 ((wrap64 (x1 + 1)) + 1), t3.2⟩ : S74)) t3.1 (wrap64 (x5 + 1)))) else none) else some (x1, x0)
def laws_markMasterS.f (k : Nat) (l0 : List S74) (a1 : Int) : Option (Int × List S74) := laws_markMasterS.l0 k l0 a1 0
set_option maxHeartbeats 8000000 in
set_option maxRecDepth 100000 in
theorem laws_markMasterS.calls (k : Nat) (P0_ : Nat → Prop) (u9000_ : Value) (l0 : List S74) (a1 : Int) (r1 : Int) (r2 : List S74) (w0 w : World) (hB : Below w0.heap.size w0 w) (ho0 : Kd.S k74 74 w w0.heap.size P0_ u9000_ l0) (h : laws_markMasterS.f k l0 a1 = some (r1, r2)) :
    Calls Try.prog 59 #[u9000_, .int .i64 a1] w fun e w' => e = .returned (.int .i64 r1) ∧ Kd.S k74 74 w' w0.heap.size P0_ u9000_ r2 ∧ Below w0.heap.size w0 w' ∧ Kept w w' P0_ := by
  have HO := Aside0.mk ho0; have HK := Aside0.mk (Kept.refl w P0_); have HB := Aside0.mk hB; have H' := Aside0.mk (show laws_markMasterS.l0 k l0 a1 0 = some (r1, r2) from h); clear hB ho0 h
  go_enter Try.func59, Try.ntmps59
  go_wp2
  go_loopg [1, 5] k (fun kq v1 v5 w' => ∃ (x0_1 : List S74) (x1_1 : Int) (x5_1 : Int), v1 = .int .i64 x1_1 ∧ v5 = .int .i64 x5_1 ∧ Aside0 (laws_markMasterS.l0 kq x0_1 x1_1 x5_1 = some (r1, r2)) ∧ Aside0 (kq ≤ k) ∧ Aside0 (Kd.S k74 74 w' w0.heap.size P0_ u9000_ x0_1) ∧ Aside0 (Kept w w' P0_) ∧ Aside0 (Below w0.heap.size w0 w'))
  case atStart => exact ⟨l0, a1, 0, rfl, rfl, H', ⟨Nat.le_refl _⟩, HO, HK, HB⟩
  case round =>
    clear H'
    obtain ⟨x0_1, x1_1, x5_1, rfl, rfl, HA, HK1, HO, HK, HB⟩ := hrel
    cases gk with
    | zero => exact absurd HA.out (by simp [laws_markMasterS.l0])
    | succ k1 =>
      have H := HA.out
      clear HA
      simp only [laws_markMasterS.l0] at H
      by_cases c3 : x5_1 < (x0_1.length : Int)
      · rw [if_pos c3] at H
        have c3b0 : decide (x5_1 < (x0_1.length : Int)) = true := decide_eq_true c3
        by_cases c4 : 0 ≤ x5_1
        · rw [if_pos c4] at H
          have c4b0 : decide (0 ≤ x5_1) = true := decide_eq_true c4
          obtain ⟨⟨t3, y3⟩, A3, H⟩ := Option.bind_eq_some_iff.mp H
          dsimp only at H A3
          have H' := Aside0.mk H; clear H
          replace A3 := Aside0.mk A3
          obtain ⟨g, cap, rfl, gb, gl, hG⟩ := Kd.S_form HO.out (by omega)
          have GB := Aside0.mk gb; have PG := Aside0.mk ((Kd.S_R HO.out).1 g (by simp [Value.ownBlock])); clear gb gl hG
          obtain ⟨oki, c, hcl, hM, hcc, hfr, hoki, hH⟩ := Kd.S_elem HO.out z74 x5_1 c4 c3
          obtain ⟨v3, rfl, R3⟩ := k74_openM hM
          replace R3 := Aside0.mk R3
          have OI := Aside0.mk hoki; have HH := Aside0.mk hH; clear hH hM hoki hcl HO
          have hxa_0 : wr.cell? ⟨g, x5_1.toNat * 4, none⟩ = some (.int .i64 (rd_T74 x0_1 x5_1).f0) := hcc 0 _ rfl
          have hfa_0 : wr.frozen? ⟨g, x5_1.toNat * 4, none⟩ = false := hfr 0
          have hxa_1 : wr.cell? ⟨g, x5_1.toNat * 4 + 1, none⟩ = some (.int .i64 (rd_T74 x0_1 x5_1).f1) := hcc 1 _ rfl
          have hfa_1 : wr.frozen? ⟨g, x5_1.toNat * 4 + 1, none⟩ = false := hfr 1
          have hxa_2 : wr.cell? ⟨g, x5_1.toNat * 4 + 2, none⟩ = some (.int .i64 (rd_T74 x0_1 x5_1).f2) := hcc 2 _ rfl
          have hfa_2 : wr.frozen? ⟨g, x5_1.toNat * 4 + 2, none⟩ = false := hfr 2
          have hxa_3 : wr.cell? ⟨g, x5_1.toNat * 4 + 3, none⟩ = some (v3) := hcc 3 _ rfl
          have hfa_3 : wr.frozen? ⟨g, x5_1.toNat * 4 + 3, none⟩ = false := hfr 3
          clear hcc hfr
          have p5 := eq_true c4; have q5 := eq_true c3; clear c3 c4
          go_wp2_with (first | ((with_reducible refine gate_store (t := 3) (p := 16) rfl ?_); refine store_event (t := 3) (p := 16) (v := ?vo_w20) (w1 := (wr.setCell ⟨g, x5_1.toNat * 4, none⟩ (.int .i64 x1_1))) ?hg ?ho ?hn ?hr ?_; (case ho => rfl); (case hg => rfl); (case hn => rfl); (case hr => first | (go_simp; done) | (go_simp; rfl)); intro w20 hw; have hS := Kd.H_seg HH.out (of_eq_true p5) (of_eq_true q5) (seg := [.int .i64 x1_1]) (j := 0) (show 0 + 1 ≤ 4 from by decide) (by intro q hq; rw [List.mem_singleton.1 hq]; rfl); have hg : wr.grownBy w20 (some g) := (by rw [hw]; exact hS.2); have n0_ : Kd.H k74 74 w20 w0.heap.size P0_ (.slice (some ⟨g, 0, none⟩) x0_1.length cap) x0_1 x5_1 oki [.int .i64 x1_1, .int .i64 (rd_T74 x0_1 x5_1).f1, .int .i64 (rd_T74 x0_1 x5_1).f2, v3] := (by rw [hw]; exact hS.1); have n13_ := Kd.R_grown R3.out hg (fun k_ hk_ e_ => (OI.out k_ hk_).2 (by injection e_)); have n1_ : Below w0.heap.size w0 w20 := (by rw [hw]; exact below_set HB.out GB.out); have n2_ := Kept.of_grown (S := P0_) hg HK.out (fun k_ e_ => .inl (by injection e_ with e_; rw [← e_]; exact PG.out)); clear HH HB HK hS hw hg R3; have HH := Aside0.mk n0_; have HB := Aside0.mk n1_; have HK := Aside0.mk n2_; have R3 := Aside0.mk n13_; clear n0_ n1_ n2_ n13_; obtain ⟨hcc, hfr⟩ := Kd.H_at HH.out (of_eq_true p5) (of_eq_true q5); have hxb0_0 : w20.cell? ⟨g, x5_1.toNat * 4, none⟩ = some (.int .i64 x1_1) := hcc 0 _ rfl; have hfb0_0 : w20.frozen? ⟨g, x5_1.toNat * 4, none⟩ = false := hfr 0; have hxb0_1 : w20.cell? ⟨g, x5_1.toNat * 4 + 1, none⟩ = some (.int .i64 (rd_T74 x0_1 x5_1).f1) := hcc 1 _ rfl; have hfb0_1 : w20.frozen? ⟨g, x5_1.toNat * 4 + 1, none⟩ = false := hfr 1; have hxb0_2 : w20.cell? ⟨g, x5_1.toNat * 4 + 2, none⟩ = some (.int .i64 (rd_T74 x0_1 x5_1).f2) := hcc 2 _ rfl; have hfb0_2 : w20.frozen? ⟨g, x5_1.toNat * 4 + 2, none⟩ = false := hfr 2; have hxb0_3 : w20.cell? ⟨g, x5_1.toNat * 4 + 3, none⟩ = some (v3) := hcc 3 _ rfl; have hfb0_3 : w20.frozen? ⟨g, x5_1.toNat * 4 + 3, none⟩ = false := hfr 3; clear hcc hfr) | ((with_reducible refine gate_store (t := 3) (p := 23) rfl ?_); refine store_event (t := 3) (p := 23) (v := ?vo_w21) (w1 := (w20.setCell ⟨g, x5_1.toNat * 4 + 1, none⟩ (.int .i64 (wrap64 (x1_1 + 1))))) ?hg ?ho ?hn ?hr ?_; (case ho => rfl); (case hg => rfl); (case hn => rfl); (case hr => first | (go_simp; done) | (go_simp; rfl)); intro w21 hw; have hS := Kd.H_seg HH.out (of_eq_true p5) (of_eq_true q5) (seg := [.int .i64 (wrap64 (x1_1 + 1))]) (j := 1) (show 1 + 1 ≤ 4 from by decide) (by intro q hq; rw [List.mem_singleton.1 hq]; rfl); have hg : w20.grownBy w21 (some g) := (by rw [hw]; exact hS.2); have n0_ : Kd.H k74 74 w21 w0.heap.size P0_ (.slice (some ⟨g, 0, none⟩) x0_1.length cap) x0_1 x5_1 oki [.int .i64 x1_1, .int .i64 (wrap64 (x1_1 + 1)), .int .i64 (rd_T74 x0_1 x5_1).f2, v3] := (by rw [hw]; exact hS.1); have n13_ := Kd.R_grown R3.out hg (fun k_ hk_ e_ => (OI.out k_ hk_).2 (by injection e_)); have n1_ : Below w0.heap.size w0 w21 := (by rw [hw]; exact below_set HB.out GB.out); have n2_ := Kept.of_grown (S := P0_) hg HK.out (fun k_ e_ => .inl (by injection e_ with e_; rw [← e_]; exact PG.out)); clear HH HB HK hS hw hg R3; have HH := Aside0.mk n0_; have HB := Aside0.mk n1_; have HK := Aside0.mk n2_; have R3 := Aside0.mk n13_; clear n0_ n1_ n2_ n13_; obtain ⟨hcc, hfr⟩ := Kd.H_at HH.out (of_eq_true p5) (of_eq_true q5); have hxb1_0 : w21.cell? ⟨g, x5_1.toNat * 4, none⟩ = some (.int .i64 x1_1) := hcc 0 _ rfl; have hfb1_0 : w21.frozen? ⟨g, x5_1.toNat * 4, none⟩ = false := hfr 0; have hxb1_1 : w21.cell? ⟨g, x5_1.toNat * 4 + 1, none⟩ = some (.int .i64 (wrap64 (x1_1 + 1))) := hcc 1 _ rfl; have hfb1_1 : w21.frozen? ⟨g, x5_1.toNat * 4 + 1, none⟩ = false := hfr 1; have hxb1_2 : w21.cell? ⟨g, x5_1.toNat * 4 + 2, none⟩ = some (.int .i64 (rd_T74 x0_1 x5_1).f2) := hcc 2 _ rfl; have hfb1_2 : w21.frozen? ⟨g, x5_1.toNat * 4 + 2, none⟩ = false := hfr 2; have hxb1_3 : w21.cell? ⟨g, x5_1.toNat * 4 + 3, none⟩ = some (v3) := hcc 3 _ rfl; have hfb1_3 : w21.frozen? ⟨g, x5_1.toNat * 4 + 3, none⟩ = false := hfr 3; clear hcc hfr) | ((with_reducible refine gate_store (t := 3) (p := 30) rfl ?_); refine store_event (t := 3) (p := 30) (v := ?vo_w22) (w1 := (w21.setCell ⟨g, x5_1.toNat * 4 + 2, none⟩ (.int .i64 (wrap64 ((wrap64 (x1_1 + 1)) + 1))))) ?hg ?ho ?hn ?hr ?_; (case ho => rfl); (case hg => rfl); (case hn => rfl); (case hr => first | (go_simp; done) | (go_simp; rfl)); intro w22 hw; have hS := Kd.H_seg HH.out (of_eq_true p5) (of_eq_true q5) (seg := [.int .i64 (wrap64 ((wrap64 (x1_1 + 1)) + 1))]) (j := 2) (show 2 + 1 ≤ 4 from by decide) (by intro q hq; rw [List.mem_singleton.1 hq]; rfl); have hg : w21.grownBy w22 (some g) := (by rw [hw]; exact hS.2); have n0_ : Kd.H k74 74 w22 w0.heap.size P0_ (.slice (some ⟨g, 0, none⟩) x0_1.length cap) x0_1 x5_1 oki [.int .i64 x1_1, .int .i64 (wrap64 (x1_1 + 1)), .int .i64 (wrap64 ((wrap64 (x1_1 + 1)) + 1)), v3] := (by rw [hw]; exact hS.1); have n13_ := Kd.R_grown R3.out hg (fun k_ hk_ e_ => (OI.out k_ hk_).2 (by injection e_)); have n1_ : Below w0.heap.size w0 w22 := (by rw [hw]; exact below_set HB.out GB.out); have n2_ := Kept.of_grown (S := P0_) hg HK.out (fun k_ e_ => .inl (by injection e_ with e_; rw [← e_]; exact PG.out)); clear HH HB HK hS hw hg R3; have HH := Aside0.mk n0_; have HB := Aside0.mk n1_; have HK := Aside0.mk n2_; have R3 := Aside0.mk n13_; clear n0_ n1_ n2_ n13_; obtain ⟨hcc, hfr⟩ := Kd.H_at HH.out (of_eq_true p5) (of_eq_true q5); have hxb2_0 : w22.cell? ⟨g, x5_1.toNat * 4, none⟩ = some (.int .i64 x1_1) := hcc 0 _ rfl; have hfb2_0 : w22.frozen? ⟨g, x5_1.toNat * 4, none⟩ = false := hfr 0; have hxb2_1 : w22.cell? ⟨g, x5_1.toNat * 4 + 1, none⟩ = some (.int .i64 (wrap64 (x1_1 + 1))) := hcc 1 _ rfl; have hfb2_1 : w22.frozen? ⟨g, x5_1.toNat * 4 + 1, none⟩ = false := hfr 1; have hxb2_2 : w22.cell? ⟨g, x5_1.toNat * 4 + 2, none⟩ = some (.int .i64 (wrap64 ((wrap64 (x1_1 + 1)) + 1))) := hcc 2 _ rfl; have hfb2_2 : w22.frozen? ⟨g, x5_1.toNat * 4 + 2, none⟩ = false := hfr 2; have hxb2_3 : w22.cell? ⟨g, x5_1.toNat * 4 + 3, none⟩ = some (v3) := hcc 3 _ rfl; have hfb2_3 : w22.frozen? ⟨g, x5_1.toNat * 4 + 3, none⟩ = false := hfr 3; clear hcc hfr) | (go_at_call 88; (with_reducible refine (laws_markValS.calls k1 (fun k_ => some k_ = (v3 : Value).ownBlock) v3 (rd_T74 x0_1 x5_1).f3 (wrap64 ((wrap64 ((wrap64 (x1_1 + 1)) + 1)) + 1)) t3 y3 w0 _ HB.out (Kd.R_tight rfl R3.out) A3.out).mono ?_); rintro e w43 ⟨rfl, ho, hb, hkp⟩; have n0_ := Kd.H_kept HH.out hkp (fun k_ _ hn_ hs_ => hn_ (R3.out.1 k_ hs_.symm)); have n13_ := Kd.R_reok (ok := oki) rfl ho (fun k_ e_ => R3.out.1 k_ e_); have n2_ := Kept.then_ HK.out hkp (fun k_ hs_ => .inl (OI.out k_ (R3.out.1 k_ hs_.symm)).1); clear HH HB HK hkp ho R3; have HH := Aside0.mk n0_; have HB := Aside0.mk hb; have HK := Aside0.mk n2_; have R3 := Aside0.mk n13_; clear n0_ n2_ hb n13_; obtain ⟨hcc, hfr⟩ := Kd.H_at HH.out (of_eq_true p5) (of_eq_true q5); have hxc3_0 : w43.cell? ⟨g, x5_1.toNat * 4, none⟩ = some (.int .i64 x1_1) := hcc 0 _ rfl; have hfc3_0 : w43.frozen? ⟨g, x5_1.toNat * 4, none⟩ = false := hfr 0; have hxc3_1 : w43.cell? ⟨g, x5_1.toNat * 4 + 1, none⟩ = some (.int .i64 (wrap64 (x1_1 + 1))) := hcc 1 _ rfl; have hfc3_1 : w43.frozen? ⟨g, x5_1.toNat * 4 + 1, none⟩ = false := hfr 1; have hxc3_2 : w43.cell? ⟨g, x5_1.toNat * 4 + 2, none⟩ = some (.int .i64 (wrap64 ((wrap64 (x1_1 + 1)) + 1))) := hcc 2 _ rfl; have hfc3_2 : w43.frozen? ⟨g, x5_1.toNat * 4 + 2, none⟩ = false := hfr 2; have hxc3_3 : w43.cell? ⟨g, x5_1.toNat * 4 + 3, none⟩ = some (v3) := hcc 3 _ rfl; have hfc3_3 : w43.frozen? ⟨g, x5_1.toNat * 4 + 3, none⟩ = false := hfr 3; clear hcc hfr))
          go_roundg k1
          case measure => have := HK1.out; omega
          case rel => exact ⟨x0_1.set x5_1.toNat (⟨x1_1, wrap64 (x1_1 + 1), wrap64 ((wrap64 (x1_1 + 1)) + 1), y3⟩ : S74), t3, wrap64 (x5_1 + 1), (by first | rfl | (simp; done) | (simp [*]; done)), (by first | rfl | (simp; done) | (simp [*]; done)), H', ⟨by have := HK1.out; omega⟩, ⟨Kd.H_back HH.out (k74_mkM _ _ _ (⟨x1_1, wrap64 (x1_1 + 1), wrap64 ((wrap64 (x1_1 + 1)) + 1), y3⟩ : S74) R3.out) (fun _ hk_ => hk_)⟩, HK, HB⟩
        · rw [if_neg c4] at H
          exact absurd H (by simp)
      · rw [if_neg c3] at H
        have c3b0 : decide (x5_1 < (x0_1.length : Int)) = false := decide_eq_false c3
        clear c3
        simp only [Option.some.injEq, Prod.mk.injEq] at H
        obtain ⟨rfl, rfl⟩ := H
        obtain ⟨Ao, co, eo⟩ := Kd.S_slice HO.out
        subst eo
        go_wp2
        go_ret
        exact ⟨by first | rfl | (simp [*] <;> rfl), HO.out, HB.out, HK.out⟩

end Go.Proofs.Ytdmhdfdlljafbaa.PFnExactMasterOf
