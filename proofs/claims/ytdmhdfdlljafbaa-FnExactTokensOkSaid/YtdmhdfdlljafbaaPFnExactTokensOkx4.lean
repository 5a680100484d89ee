-- Written by a program of ours (wip/gen/trimwords.py, out of the kit's print and its words): this session's own text.
import Derived.Test.YtdmhdfdlljafbaaPFnExactTokensOkx0
import Derived.Test.YtdmhdfdlljafbaaPFnExactTokensOkx3
namespace Go.Proofs.Ytdmhdfdlljafbaa.PFnExactTokensOk
open Go.RowKit Go.Proofs.YtdmhdfdlljafbaaW.PrintWords Go.Proofs.YtdmhdfdlljafbaaW.PrintLast Go.Proofs.YtdmhdfdlljafbaaW.PrintMore
attribute [local go_sem] max2_int min2_int max_two min_two max_three min_three max_four min_four   -- for this text's walks alone
set_option linter.unusedVariables false
set_option linter.unusedSimpArgs false

/-! ### impl_TokensOk: function 36 -/
mutual
def impl_TokensOk.l0 : Nat → List (S68) → List (S68) → Int → Int → Option (Bool)
  | 0, _, _, _, _ => none
  | k + 1, x0, x7, x8, x9 => if x9 < x8 then (if 0 ≤ x9 then (if x9 < (x7.length : Int) then ((impl_isId.f ((rd_T68 x7 x9).f0)).bind fun t169 => (if t169 = true then ((impl_within.f ((rd_T68 x7 x9).f1) 0 1000000).bind fun t170 => (if t170 = true then (if (((rd_T68 x7 x9).f2).length : Int) > 200 then (impl_TokensOk.j1 k x0 x7 x8 x9 true ((rd_T68 x7 x9).f0) ((rd_T68 x7 x9).f1) ((rd_T68 x7 x9).f2) ((rd_T68 x7 x9).f3)) else ((impl_NotesOk.f k ((rd_T68 x7 x9).f3)).bind fun t171 => (if t171 = true then (if x9 > 0 then (if 0 ≤ (wrap64 (x9 - 1)) then (if (wrap64 (x9 - 1)) < (x0.length : Int) then (impl_TokensOk.j1 k x0 x7 x8 x9 (decide (((rd_T68 x0 (wrap64 (x9 - 1))).f0) ≥ ((rd_T68 x7 x9).f0))) ((rd_T68 x7 x9).f0) ((rd_T68 x7 x9).f1) ((rd_T68 x7 x9).f2) ((rd_T68 x7 x9).f3)) else (none)) else (none)) else (impl_TokensOk.j1 k x0 x7 x8 x9 false ((rd_T68 x7 x9).f0) ((rd_T68 x7 x9).f1) ((rd_T68 x7 x9).f2) ((rd_T68 x7 x9).f3))) else (impl_TokensOk.j1 k x0 x7 x8 x9 true ((rd_T68 x7 x9).f0) ((rd_T68 x7 x9).f1) ((rd_T68 x7 x9).f2) ((rd_T68 x7 x9).f3))))) else (impl_TokensOk.j1 k x0 x7 x8 x9 true ((rd_T68 x7 x9).f0) ((rd_T68 x7 x9).f1) ((rd_T68 x7 x9).f2) ((rd_T68 x7 x9).f3)))) else (impl_TokensOk.j1 k x0 x7 x8 x9 true ((rd_T68 x7 x9).f0) ((rd_T68 x7 x9).f1) ((rd_T68 x7 x9).f2) ((rd_T68 x7 x9).f3)))) else (none)) else (none)) else (some true)
def impl_TokensOk.j1 : Nat → List (S68) → List (S68) → Int → Int → Bool → Int → Int → List Int → List (S64) → Option (Bool)
  | 0, _, _, _, _, _, _, _, _, _ => none
  | k + 1, x0, x7, x8, x9, x50, x169000, x169001, x169002, x169003 => if x50 = true then (some false) else (impl_TokensOk.l1 k x0 x7 x8 x9 x169002 (x169002.length : Int) 0 x169000 x169001 x169002 x169003)
def impl_TokensOk.l1 : Nat → List (S68) → List (S68) → Int → Int → List Int → Int → Int → Int → Int → List Int → List (S64) → Option (Bool)
  | 0, _, _, _, _, _, _, _, _, _, _, _ => none
  | k + 1, x0, x7, x8, x9, x52, x53, x54, x169000, x169001, x169002, x169003 => if x54 < x53 then (if 0 ≤ x54 then (if x54 < (x52.length : Int) then ((impl_isId.f (rd x52 x54)).bind fun t174 => (if t174 = true then (if x169001 = 0 then (some false) else (impl_TokensOk.l1 k x0 x7 x8 x9 x52 x53 (wrap64 (x54 + 1)) x169000 x169001 x169002 x169003)) else (some false))) else (none)) else (none)) else (impl_TokensOk.l0 k x0 x7 x8 (wrap64 (x9 + 1)))
end
def impl_TokensOk.f (k : Nat) (l0 : List (S68)) : Option (Bool) := impl_TokensOk.l0 k l0 l0 (l0.length : Int) 0
def impl_TokensOk.T4 : Bool × List (List Nat × List Nat) := (true, [([], []), ([0], [0]), ([1], [1]), ([2], [2]), ([3, 2], [3]), ([4], [4]), ([5, 4], [4, 5]), ([6, 4, 4], [4, 6]), ([7, 4], [4, 7]), ([4, 8], [4, 8]), ([9, 7], [9]), ([10], [10]), ([11, 10], [10, 11]), ([12, 10], [10, 12]), ([13, 10], [10, 13]), ([10, 14], [10, 14]), ([15, 10], [15]), ([16], [16]), ([17, 16], [16, 17]), ([18, 16, 16], [16, 18]), ([19, 16], [16, 19]), ([16, 20], [16, 20]), ([21, 19], [21]), ([22], [22]), ([23, 22], [22, 23]), ([24, 22, 22], [22, 24]), ([25], [25]), ([25], [25]), ([27, 25], [25, 27]), ([26, 28, 25], [25, 26, 28]), ([29, 25], [25, 29]), ([30, 25], [25, 30]), ([25], [25]), ([32, 25], [25, 32]), ([31, 33, 25], [25, 31, 33]), ([25, 34, 22], [22, 25, 34]), ([22, 35], [22, 35])])
def impl_TokensOk.B4 : List Nat := [0, 1, 3, 7, 15, 31, 63, 127, 255, 511, 1023, 2047, 4095, 8191, 16383, 32767, 65535, 131071, 262143, 524287, 1048575, 2097151, 4194303, 8388607, 16777215, 33554431, 67108863, 67108863, 201326591, 536870911, 1073741823, 2147483647, 67108863, 4362076159, 17179869183, 34359738367, 68719476735]
theorem impl_TokensOk.tab4 : rtab .any (opsOf Try.f36 4) = impl_TokensOk.T4 := by kernel_rfl
theorem impl_TokensOk.bits4 : waitsOk impl_TokensOk.T4.2 impl_TokensOk.B4 = true := by kernel_rfl
set_option maxHeartbeats 8000000 in
set_option maxRecDepth 100000 in
theorem impl_TokensOk.calls (k : Nat) (A0 : Option Addr) (c0 : Nat) (l0 : List (S68)) (r : Bool) (w : World) (hr0 : Kd.C k68 w A0 l0.length l0) (hc0 : l0.length ≤ c0) (h : impl_TokensOk.f k l0 = some r) :
    Calls Try.prog 36 #[.slice A0 l0.length c0] w fun e w' => e = .returned (.bool r) ∧ Below w.heap.size w w' := by
  have hu68 := Try.underlying68
  have HR0 := Aside0.mk hr0
  have HC0 := Aside0.mk hc0
  clear hr0 hc0
  have HB := Aside0.mk (Below.refl w.heap.size w)
  have H : (impl_TokensOk.l0 k l0 l0 (l0.length : Int) 0) = some r := h
  clear h
  have H' := Aside0.mk H
  clear H
  go_enter Try.func36, Try.ntmps36
  go_wp2
  go_loopg [9] k (fun kq v9 w' => ∃ (x9_1 : Int), v9 = .int .i64 x9_1 ∧ Aside0 (impl_TokensOk.l0 kq l0 l0 (l0.length : Int) x9_1 = some r) ∧ Aside0 (kq ≤ k) ∧ Aside0 (Below w.heap.size w w'))
  case atStart => exact ⟨(0), (by first | rfl | (simp; done) | (simp [*]; done)), H', ⟨Nat.le_refl _⟩, ⟨by repeat (first | (with_reducible first | exact HB.out | apply below_alloc | apply pw_below_drewN | apply below_drew1) | exact HB.out)⟩⟩
  case round =>
    clear H'
    obtain ⟨x9_1, rfl, HA, HK1, HB⟩ := hrel
    cases gk with
    | zero => exact absurd HA.out (by simp [impl_TokensOk.l0])
    | succ k1 =>
      have H := HA.out
      clear HA
      simp only [impl_TokensOk.l0] at H
      by_cases c2 : x9_1 < (l0.length : Int)
      · rw [if_pos c2] at H
        have c2b0 : decide (x9_1 < (l0.length : Int)) = true := decide_eq_true c2
        clear c2
        by_cases c3 : 0 ≤ x9_1
        · rw [if_pos c3] at H
          have c3b0 : decide (0 ≤ x9_1) = true := decide_eq_true c3
          clear c3
          by_cases c4 : x9_1 < (l0.length : Int)
          · rw [if_pos c4] at H
            have c4b0 : decide (x9_1 < (l0.length : Int)) = true := decide_eq_true c4
            clear c4
            have HC5 := Aside0.mk H
            clear H
            have p167 : 0 ≤ (x9_1 : Int) := of_decide_eq_true (by first | (with_reducible assumption) | assumption)
            have q167 : x9_1 < (l0.length : Int) := of_decide_eq_true (by first | (with_reducible assumption) | assumption)
            obtain ⟨ad167, A167_2, c167_2, A167_3, c167_3, e167, hx167_0, hx167_1, hx167_2, hx167_3, hl167_2, hi167_2, hl167_3, hi167_3⟩ := at_T68 HR0.out x9_1 p167 q167
            cases e167
            replace hx167_0 := (HB.out.cell (World.block_lt_of_cell? w _ hx167_0)).trans hx167_0
            replace hx167_1 := (HB.out.cell (World.block_lt_of_cell? w _ hx167_1)).trans hx167_1
            replace hx167_2 := (HB.out.cell (World.block_lt_of_cell? w _ hx167_2)).trans hx167_2
            replace hx167_3 := (HB.out.cell (World.block_lt_of_cell? w _ hx167_3)).trans hx167_3
            have HR167_2 := Aside0.mk hi167_2
            have HC167_2 := Aside0.mk hl167_2
            clear hi167_2 hl167_2
            have HR167_3 := Aside0.mk hi167_3
            have HC167_3 := Aside0.mk hl167_3
            clear hi167_3 hl167_3
            replace p167 := eq_true p167
            replace q167 := eq_true q167
            go_upto_region 4 with (first | ((with_reducible refine gate_dst (N := 4) rfl ?_); (try (refine gate_guard (by rfl) ?_; dsimp only)); refine box_event ?hg (N := 4) ?hd (cs := #[.int .i64 0, .int .i64 0, .slice none 0 0, .slice none 0 0]) (t := 68) ?hr ?_; (case hd => rfl); (case hg => rfl); (case hr => first | (go_simp; done) | (go_simp; rfl)); intro gb168 hg w6 hbox hb; have n0_ := Aside0.mk (below_step (by repeat (first | (with_reducible first | exact HB.out | apply below_alloc | apply pw_below_drewN | apply below_drew1) | exact HB.out)) hb); have n1_ := Aside0.mk (hbox); have n2_ := Aside0.mk ((by rw [hg]; exact (below_size (by repeat (first | (with_reducible first | exact HB.out | apply below_alloc | apply pw_below_drewN | apply below_drew1) | exact HB.out))) : w.heap.size ≤ gb168)); have n3_ := Aside0.mk ((by rw [hg]; exact (below_size (by repeat (first | (with_reducible first | exact HB.out | apply below_alloc | apply pw_below_drewN | apply below_drew1) | exact HB.out))) : w.heap.size ≤ gb168)); clear HB; have HB := n0_; have BK168 := n1_; have GW168 := n2_; have GE168 := n3_; clear n0_ n1_ n2_ n3_; clear hb hbox hg; have hcz7_0 : w6.cell? ⟨gb168, 0, none⟩ = some (.int .i64 0) := (blk_cell BK168.out 0).trans rfl; have hcz7_1 : w6.cell? ⟨gb168, 1, none⟩ = some (.int .i64 0) := (blk_cell BK168.out 1).trans rfl; have hcz7_2 : w6.cell? ⟨gb168, 2, none⟩ = some (.slice none 0 0) := (blk_cell BK168.out 2).trans rfl; have hcz7_3 : w6.cell? ⟨gb168, 3, none⟩ = some (.slice none 0 0) := (blk_cell BK168.out 3).trans rfl; have hfz7_0 := blk_frozen BK168.out 0; have hfz7_1 := blk_frozen BK168.out 1; have hfz7_2 := blk_frozen BK168.out 2; have hfz7_3 := blk_frozen BK168.out 3))
            (try simp only [Act.put, List.setIfInBounds_toArray, List.set_cons_zero, List.set_cons_succ])
            go_cut [50] (fun v50 wc => ∃ (kq : Nat) (x50_4 : Bool), v50 = .bool x50_4 ∧ Aside0 (impl_TokensOk.j1 kq l0 l0 (l0.length : Int) x9_1 x50_4 ((rd_T68 l0 x9_1).f0) ((rd_T68 l0 x9_1).f1) ((rd_T68 l0 x9_1).f2) ((rd_T68 l0 x9_1).f3) = some r) ∧ Aside0 (kq ≤ k1) ∧ Aside0 (wc.heap[gb168]? = some (.cells #[.int .i64 ((rd_T68 l0 x9_1).f0), .int .i64 ((rd_T68 l0 x9_1).f1), (.slice A167_2 ((rd_T68 l0 x9_1).f2).length c167_2), (.slice A167_3 ((rd_T68 l0 x9_1).f3).length c167_3)] 68 (0, 0))) ∧ Aside0 (Below w.heap.size w wc))
            case first =>
              have H := HC5.out
              clear HC5
              replace H := Option.bind_eq_some_iff.mp H
              obtain ⟨t169, A80, H⟩ := H
              replace H : (if t169 = true then ((impl_within.f ((rd_T68 l0 x9_1).f1) 0 1000000).bind fun t170 => (if t170 = true then (if (((rd_T68 l0 x9_1).f2).length : Int) > 200 then (impl_TokensOk.j1 k1 l0 l0 (l0.length : Int) x9_1 true ((rd_T68 l0 x9_1).f0) ((rd_T68 l0 x9_1).f1) ((rd_T68 l0 x9_1).f2) ((rd_T68 l0 x9_1).f3)) else ((impl_NotesOk.f k1 ((rd_T68 l0 x9_1).f3)).bind fun t171 => (if t171 = true then (if x9_1 > 0 then (if 0 ≤ (wrap64 (x9_1 - 1)) then (if (wrap64 (x9_1 - 1)) < (l0.length : Int) then (impl_TokensOk.j1 k1 l0 l0 (l0.length : Int) x9_1 (decide (((rd_T68 l0 (wrap64 (x9_1 - 1))).f0) ≥ ((rd_T68 l0 x9_1).f0))) ((rd_T68 l0 x9_1).f0) ((rd_T68 l0 x9_1).f1) ((rd_T68 l0 x9_1).f2) ((rd_T68 l0 x9_1).f3)) else (none)) else (none)) else (impl_TokensOk.j1 k1 l0 l0 (l0.length : Int) x9_1 false ((rd_T68 l0 x9_1).f0) ((rd_T68 l0 x9_1).f1) ((rd_T68 l0 x9_1).f2) ((rd_T68 l0 x9_1).f3))) else (impl_TokensOk.j1 k1 l0 l0 (l0.length : Int) x9_1 true ((rd_T68 l0 x9_1).f0) ((rd_T68 l0 x9_1).f1) ((rd_T68 l0 x9_1).f2) ((rd_T68 l0 x9_1).f3))))) else (impl_TokensOk.j1 k1 l0 l0 (l0.length : Int) x9_1 true ((rd_T68 l0 x9_1).f0) ((rd_T68 l0 x9_1).f1) ((rd_T68 l0 x9_1).f2) ((rd_T68 l0 x9_1).f3)))) else (impl_TokensOk.j1 k1 l0 l0 (l0.length : Int) x9_1 true ((rd_T68 l0 x9_1).f0) ((rd_T68 l0 x9_1).f1) ((rd_T68 l0 x9_1).f2) ((rd_T68 l0 x9_1).f3))) = some r := H
              have A8 := Aside0.mk A80
              clear A80
              by_cases c9 : t169 = true
              · subst c9
                have H1 : ((impl_within.f ((rd_T68 l0 x9_1).f1) 0 1000000).bind fun t170 => (if t170 = true then (if (((rd_T68 l0 x9_1).f2).length : Int) > 200 then (impl_TokensOk.j1 k1 l0 l0 (l0.length : Int) x9_1 true ((rd_T68 l0 x9_1).f0) ((rd_T68 l0 x9_1).f1) ((rd_T68 l0 x9_1).f2) ((rd_T68 l0 x9_1).f3)) else ((impl_NotesOk.f k1 ((rd_T68 l0 x9_1).f3)).bind fun t171 => (if t171 = true then (if x9_1 > 0 then (if 0 ≤ (wrap64 (x9_1 - 1)) then (if (wrap64 (x9_1 - 1)) < (l0.length : Int) then (impl_TokensOk.j1 k1 l0 l0 (l0.length : Int) x9_1 (decide (((rd_T68 l0 (wrap64 (x9_1 - 1))).f0) ≥ ((rd_T68 l0 x9_1).f0))) ((rd_T68 l0 x9_1).f0) ((rd_T68 l0 x9_1).f1) ((rd_T68 l0 x9_1).f2) ((rd_T68 l0 x9_1).f3)) else (none)) else (none)) else (impl_TokensOk.j1 k1 l0 l0 (l0.length : Int) x9_1 false ((rd_T68 l0 x9_1).f0) ((rd_T68 l0 x9_1).f1) ((rd_T68 l0 x9_1).f2) ((rd_T68 l0 x9_1).f3))) else (impl_TokensOk.j1 k1 l0 l0 (l0.length : Int) x9_1 true ((rd_T68 l0 x9_1).f0) ((rd_T68 l0 x9_1).f1) ((rd_T68 l0 x9_1).f2) ((rd_T68 l0 x9_1).f3))))) else (impl_TokensOk.j1 k1 l0 l0 (l0.length : Int) x9_1 true ((rd_T68 l0 x9_1).f0) ((rd_T68 l0 x9_1).f1) ((rd_T68 l0 x9_1).f2) ((rd_T68 l0 x9_1).f3)))) = some r := by rw [if_pos rfl] at H; exact H
                clear H
                have H := H1
                clear H1
                replace H := Option.bind_eq_some_iff.mp H
                obtain ⟨t170, A100, H⟩ := H
                replace H : (if t170 = true then (if (((rd_T68 l0 x9_1).f2).length : Int) > 200 then (impl_TokensOk.j1 k1 l0 l0 (l0.length : Int) x9_1 true ((rd_T68 l0 x9_1).f0) ((rd_T68 l0 x9_1).f1) ((rd_T68 l0 x9_1).f2) ((rd_T68 l0 x9_1).f3)) else ((impl_NotesOk.f k1 ((rd_T68 l0 x9_1).f3)).bind fun t171 => (if t171 = true then (if x9_1 > 0 then (if 0 ≤ (wrap64 (x9_1 - 1)) then (if (wrap64 (x9_1 - 1)) < (l0.length : Int) then (impl_TokensOk.j1 k1 l0 l0 (l0.length : Int) x9_1 (decide (((rd_T68 l0 (wrap64 (x9_1 - 1))).f0) ≥ ((rd_T68 l0 x9_1).f0))) ((rd_T68 l0 x9_1).f0) ((rd_T68 l0 x9_1).f1) ((rd_T68 l0 x9_1).f2) ((rd_T68 l0 x9_1).f3)) else (none)) else (none)) else (impl_TokensOk.j1 k1 l0 l0 (l0.length : Int) x9_1 false ((rd_T68 l0 x9_1).f0) ((rd_T68 l0 x9_1).f1) ((rd_T68 l0 x9_1).f2) ((rd_T68 l0 x9_1).f3))) else (impl_TokensOk.j1 k1 l0 l0 (l0.length : Int) x9_1 true ((rd_T68 l0 x9_1).f0) ((rd_T68 l0 x9_1).f1) ((rd_T68 l0 x9_1).f2) ((rd_T68 l0 x9_1).f3))))) else (impl_TokensOk.j1 k1 l0 l0 (l0.length : Int) x9_1 true ((rd_T68 l0 x9_1).f0) ((rd_T68 l0 x9_1).f1) ((rd_T68 l0 x9_1).f2) ((rd_T68 l0 x9_1).f3))) = some r := H
                have A10 := Aside0.mk A100
                clear A100
                by_cases c11 : t170 = true
                · subst c11
                  have H1 : (if (((rd_T68 l0 x9_1).f2).length : Int) > 200 then (impl_TokensOk.j1 k1 l0 l0 (l0.length : Int) x9_1 true ((rd_T68 l0 x9_1).f0) ((rd_T68 l0 x9_1).f1) ((rd_T68 l0 x9_1).f2) ((rd_T68 l0 x9_1).f3)) else ((impl_NotesOk.f k1 ((rd_T68 l0 x9_1).f3)).bind fun t171 => (if t171 = true then (if x9_1 > 0 then (if 0 ≤ (wrap64 (x9_1 - 1)) then (if (wrap64 (x9_1 - 1)) < (l0.length : Int) then (impl_TokensOk.j1 k1 l0 l0 (l0.length : Int) x9_1 (decide (((rd_T68 l0 (wrap64 (x9_1 - 1))).f0) ≥ ((rd_T68 l0 x9_1).f0))) ((rd_T68 l0 x9_1).f0) ((rd_T68 l0 x9_1).f1) ((rd_T68 l0 x9_1).f2) ((rd_T68 l0 x9_1).f3)) else (none)) else (none)) else (impl_TokensOk.j1 k1 l0 l0 (l0.length : Int) x9_1 false ((rd_T68 l0 x9_1).f0) ((rd_T68 l0 x9_1).f1) ((rd_T68 l0 x9_1).f2) ((rd_T68 l0 x9_1).f3))) else (impl_TokensOk.j1 k1 l0 l0 (l0.length : Int) x9_1 true ((rd_T68 l0 x9_1).f0) ((rd_T68 l0 x9_1).f1) ((rd_T68 l0 x9_1).f2) ((rd_T68 l0 x9_1).f3))))) = some r := by rw [if_pos rfl] at H; exact H
                  clear H
                  have H := H1
                  clear H1
                  by_cases c12 : (((rd_T68 l0 x9_1).f2).length : Int) > 200
                  · rw [if_pos c12] at H
                    have c12b0 : decide (200 < (((rd_T68 l0 x9_1).f2).length : Int)) = true := decide_eq_true c12
                    have c12b1 : decide (200 < ((rd_T68 l0 x9_1).f2).length) = true := decide_eq_true (by omega)
                    clear c12
                    (first | rw [c12b0] | (simp only [i64_w, i32_w]; rw [c12b0]) | skip)
                    have H' := Aside0.mk H
                    clear H
                    try go_wp2
                    have n0_ : Aside0 (((((w6.setCell ⟨gb168, 0, none⟩ (.int .i64 ((rd_T68 l0 x9_1).f0))).setCell ⟨gb168, 1, none⟩ (.int .i64 ((rd_T68 l0 x9_1).f1))).setCell ⟨gb168, 2, none⟩ (.slice A167_2 ((rd_T68 l0 x9_1).f2).length c167_2)).setCell ⟨gb168, 3, none⟩ (.slice A167_3 ((rd_T68 l0 x9_1).f3).length c167_3)).heap[gb168]? = some (.cells #[.int .i64 ((rd_T68 l0 x9_1).f0), .int .i64 ((rd_T68 l0 x9_1).f1), .slice A167_2 ((rd_T68 l0 x9_1).f2).length c167_2, .slice A167_3 ((rd_T68 l0 x9_1).f3).length c167_3] 68 (0, 0))) := ⟨by (with_reducible repeat (first | refine blk_drewN ?_ _ | refine blk_drew ?_ | refine blk_alloc ?_ _)); refine blk_put (cs := #[.int .i64 ((rd_T68 l0 x9_1).f0), .int .i64 ((rd_T68 l0 x9_1).f1), .slice A167_2 ((rd_T68 l0 x9_1).f2).length c167_2, .slice none 0 0]) ?_ 3 _ rfl; (with_reducible repeat (first | refine blk_drewN ?_ _ | refine blk_drew ?_ | refine blk_alloc ?_ _)); refine blk_put (cs := #[.int .i64 ((rd_T68 l0 x9_1).f0), .int .i64 ((rd_T68 l0 x9_1).f1), .slice none 0 0, .slice none 0 0]) ?_ 2 _ rfl; (with_reducible repeat (first | refine blk_drewN ?_ _ | refine blk_drew ?_ | refine blk_alloc ?_ _)); refine blk_put (cs := #[.int .i64 ((rd_T68 l0 x9_1).f0), .int .i64 0, .slice none 0 0, .slice none 0 0]) ?_ 1 _ rfl; (with_reducible repeat (first | refine blk_drewN ?_ _ | refine blk_drew ?_ | refine blk_alloc ?_ _)); refine blk_put (cs := #[.int .i64 0, .int .i64 0, .slice none 0 0, .slice none 0 0]) ?_ 0 _ rfl; (with_reducible repeat (first | refine blk_drewN ?_ _ | refine blk_drew ?_ | refine blk_alloc ?_ _)); exact BK168.out⟩
                    have n1_ : Aside0 (Below w.heap.size w ((((w6.setCell ⟨gb168, 0, none⟩ (.int .i64 ((rd_T68 l0 x9_1).f0))).setCell ⟨gb168, 1, none⟩ (.int .i64 ((rd_T68 l0 x9_1).f1))).setCell ⟨gb168, 2, none⟩ (.slice A167_2 ((rd_T68 l0 x9_1).f2).length c167_2)).setCell ⟨gb168, 3, none⟩ (.slice A167_3 ((rd_T68 l0 x9_1).f3).length c167_3))) := ⟨by repeat (first | (with_reducible first | exact HB.out | apply below_alloc | apply pw_below_drewN | apply below_drew1 | refine below_set ?_ GE168.out) | exact HB.out)⟩
                    (try clear BK168)
                    (try clear HB)
                    generalize ((((w6.setCell ⟨gb168, 0, none⟩ (.int .i64 ((rd_T68 l0 x9_1).f0))).setCell ⟨gb168, 1, none⟩ (.int .i64 ((rd_T68 l0 x9_1).f1))).setCell ⟨gb168, 2, none⟩ (.slice A167_2 ((rd_T68 l0 x9_1).f2).length c167_2)).setCell ⟨gb168, 3, none⟩ (.slice A167_3 ((rd_T68 l0 x9_1).f3).length c167_3)) = w13 at n0_ n1_ ⊢
                    have BK168 := n0_
                    have HB := n1_
                    clear n0_ n1_
                    have n0_ := Aside0.mk (blk_drew BK168.out)
                    have n1_ := Aside0.mk (below_drew1 HB.out)
                    clear BK168
                    clear HB
                    have BK168 := n0_
                    have HB := n1_
                    clear n0_ n1_
                    refine start_ (n := 37) (S := fun w' => w'.cell? ⟨gb168, 0, none⟩ = some (.int .i64 ((rd_T68 l0 x9_1).f0)) ∧ w'.cell? ⟨gb168, 1, none⟩ = some (.int .i64 ((rd_T68 l0 x9_1).f1)) ∧ w'.cell? ⟨gb168, 2, none⟩ = some (.slice A167_2 ((rd_T68 l0 x9_1).f2).length c167_2) ∧ w'.cell? ⟨gb168, 3, none⟩ = some (.slice A167_3 ((rd_T68 l0 x9_1).f3).length c167_3)) (ds := []) #[O,O,O,O,O,O,O,O,O,O,O,O,O,O,O,O,O,O,O,O,O,O,O,O,O,O,O,O,O,O,O,O,O,O,O,O,O] (by kernel_rfl) rfl rfl ⟨(blk_cell BK168.out 0).trans rfl, (blk_cell BK168.out 1).trans rfl, (blk_cell BK168.out 2).trans rfl, (blk_cell BK168.out 3).trans rfl⟩ (fun hHeld => ?_); refine with_tabW impl_TokensOk.tab4 impl_TokensOk.bits4 (fun HT_ HW_ => ?_)
                    generalize w13.drew = w14 at BK168 HB hHeld ⊢
                    refine pu_ (i := 0) (N := some 14) #[I,O,O,O,O,O,O,O,O,O,O,O,O,O,O,O,O,O,O,O,O,O,O,O,O,O,O,O,O,O,O,O,O,O,O,O,O] HT_.out (h := ?_)
                    refine tk_ (i := 1) (N := some 15) #[I,I,O,O,O,O,O,O,O,O,O,O,O,O,O,O,O,O,O,O,O,O,O,O,O,O,O,O,O,O,O,O,O,O,O,O,O] HT_.out HW_.out hHeld (hy := by (rintro w' ⟨s0, s1, s2, s3⟩; go_simp; with_reducible rfl)) (h := ?_)
                    refine one_ (i := 2) (N := some 16) #[I,I,I,O,O,O,O,O,O,O,O,O,O,O,O,O,O,O,O,O,O,O,O,O,O,O,O,O,O,O,O,O,O,O,O,O,O] rfl rfl (one_of HT_.out (by kernel_rfl)) (by decide) (fun K hK => ?_)
                    refine goes_ Try.func112 (by kernel_rfl) rfl #[.int .i64 ((rd_T68 l0 x9_1).f0)] (by rfl) rfl rfl (by (try simp only [List.map_toArray, List.map_cons, List.map_nil]); first | done | rfl | (simp only [List.length_drop, List.length_take]; rfl)) ?_
                    with_reducible refine (impl_isId.calls ((rd_T68 l0 x9_1).f0) true _ A8.out).mono ?_
                    rintro e w' ⟨rfl, ⟨nd, rfl⟩⟩
                    refine ⟨_, rfl, ?_⟩
                    refine hK.out _ _ ⟨(blk_cell BK168.out 0).trans rfl, (blk_cell BK168.out 1).trans rfl, (blk_cell BK168.out 2).trans rfl, (blk_cell BK168.out 3).trans rfl⟩ (fun hHeld => ?_)
                    clear hK K
                    refine norm_ (a' := ?_) ?_ ?_
                    rotate_left
                    · show Act.put _ (some 16) _ = _
                      simp only [Act.put, List.setIfInBounds_toArray, List.set_cons_zero, List.set_cons_succ, i64_w, i32_w]
                      rfl
                    refine pu_ (i := 3) (N := some 17) #[I,I,I,I,O,O,O,O,O,O,O,O,O,O,O,O,O,O,O,O,O,O,O,O,O,O,O,O,O,O,O,O,O,O,O,O,O] HT_.out (h := ?_)
                    refine pu_ (i := 4) (N := some 18) #[I,I,I,I,I,O,O,O,O,O,O,O,O,O,O,O,O,O,O,O,O,O,O,O,O,O,O,O,O,O,O,O,O,O,O,O,O] HT_.out (h := ?_)
                    refine pu_ (i := 5) (N := some 19) #[I,I,I,I,I,I,O,O,O,O,O,O,O,O,O,O,O,O,O,O,O,O,O,O,O,O,O,O,O,O,O,O,O,O,O,O,O] HT_.out (h := ?_)
                    refine tk_ (i := 6) (N := some 20) #[I,I,I,I,I,I,I,O,O,O,O,O,O,O,O,O,O,O,O,O,O,O,O,O,O,O,O,O,O,O,O,O,O,O,O,O,O] HT_.out HW_.out hHeld (hy := by (rintro w' ⟨s0, s1, s2, s3⟩; go_simp; with_reducible rfl)) (h := ?_)
                    refine one_ (i := 7) (N := some 21) #[I,I,I,I,I,I,I,I,O,O,O,O,O,O,O,O,O,O,O,O,O,O,O,O,O,O,O,O,O,O,O,O,O,O,O,O,O] rfl rfl (one_of HT_.out (by kernel_rfl)) (by decide) (fun K hK => ?_)
                    refine goes_ Try.func113 (by kernel_rfl) rfl #[.int .i64 ((rd_T68 l0 x9_1).f1), .int .i64 0, .int .i64 1000000] (by rfl) rfl rfl (by (try simp only [List.map_toArray, List.map_cons, List.map_nil]); first | done | rfl | (simp only [List.length_drop, List.length_take]; rfl)) ?_
                    with_reducible refine (impl_within.calls ((rd_T68 l0 x9_1).f1) 0 1000000 true _ A10.out).mono ?_
                    rintro e w' ⟨rfl, ⟨nd, rfl⟩⟩
                    refine ⟨_, rfl, ?_⟩
                    refine hK.out _ _ ⟨(blk_cell BK168.out 0).trans rfl, (blk_cell BK168.out 1).trans rfl, (blk_cell BK168.out 2).trans rfl, (blk_cell BK168.out 3).trans rfl⟩ (fun hHeld => ?_)
                    clear hK K
                    refine norm_ (a' := ?_) ?_ ?_
                    rotate_left
                    · show Act.put _ (some 21) _ = _
                      simp only [Act.put, List.setIfInBounds_toArray, List.set_cons_zero, List.set_cons_succ, i64_w, i32_w]
                      rfl
                    refine pu_ (i := 8) (N := some 22) #[I,I,I,I,I,I,I,I,I,O,O,O,O,O,O,O,O,O,O,O,O,O,O,O,O,O,O,O,O,O,O,O,O,O,O,O,O] HT_.out (h := ?_)
                    refine pu_ (i := 9) (N := some 23) #[I,I,I,I,I,I,I,I,I,I,O,O,O,O,O,O,O,O,O,O,O,O,O,O,O,O,O,O,O,O,O,O,O,O,O,O,O] HT_.out (h := ?_)
                    refine pu_ (i := 10) (N := some 24) #[I,I,I,I,I,I,I,I,I,I,I,O,O,O,O,O,O,O,O,O,O,O,O,O,O,O,O,O,O,O,O,O,O,O,O,O,O] HT_.out (h := ?_)
                    refine pu_ (i := 11) (N := some 25) #[I,I,I,I,I,I,I,I,I,I,I,I,O,O,O,O,O,O,O,O,O,O,O,O,O,O,O,O,O,O,O,O,O,O,O,O,O] HT_.out (h := ?_)
                    refine tk_ (i := 12) (N := some 26) #[I,I,I,I,I,I,I,I,I,I,I,I,I,O,O,O,O,O,O,O,O,O,O,O,O,O,O,O,O,O,O,O,O,O,O,O,O] HT_.out HW_.out hHeld (hy := by (rintro w' ⟨s0, s1, s2, s3⟩; go_simp; with_reducible rfl)) (h := ?_)
                    refine pu_ (i := 13) (N := some 27) #[I,I,I,I,I,I,I,I,I,I,I,I,I,I,O,O,O,O,O,O,O,O,O,O,O,O,O,O,O,O,O,O,O,O,O,O,O] HT_.out (h := ?_)
                    refine pu_ (i := 14) (N := some 28) #[I,I,I,I,I,I,I,I,I,I,I,I,I,I,I,O,O,O,O,O,O,O,O,O,O,O,O,O,O,O,O,O,O,O,O,O,O] HT_.out (h := ?_)
                    refine pu_ (i := 15) (N := some 29) #[I,I,I,I,I,I,I,I,I,I,I,I,I,I,I,I,O,O,O,O,O,O,O,O,O,O,O,O,O,O,O,O,O,O,O,O,O] HT_.out (h := ?_)
                    refine pu_ (i := 16) (N := some 30) #[I,I,I,I,I,I,I,I,I,I,I,I,I,I,I,I,I,O,O,O,O,O,O,O,O,O,O,O,O,O,O,O,O,O,O,O,O] HT_.out (h := ?_)
                    refine pn_ (i := 17) (N := some 31) #[I,I,I,I,I,I,I,I,I,I,I,I,I,I,I,I,I,I,O,O,O,O,O,O,O,O,O,O,O,O,O,O,O,O,O,O,O] HT_.out (h := ?_)
                    refine pn_ (i := 18) (N := some 32) #[I,I,I,I,I,I,I,I,I,I,I,I,I,I,I,I,I,I,I,O,O,O,O,O,O,O,O,O,O,O,O,O,O,O,O,O,O] HT_.out (h := ?_)
                    refine pn_ (i := 19) (N := some 33) #[I,I,I,I,I,I,I,I,I,I,I,I,I,I,I,I,I,I,I,I,O,O,O,O,O,O,O,O,O,O,O,O,O,O,O,O,O] HT_.out (h := ?_)
                    refine pn_ (i := 20) (N := some 34) #[I,I,I,I,I,I,I,I,I,I,I,I,I,I,I,I,I,I,I,I,I,O,O,O,O,O,O,O,O,O,O,O,O,O,O,O,O] HT_.out (h := ?_)
                    refine pu_ (i := 21) (N := some 35) #[I,I,I,I,I,I,I,I,I,I,I,I,I,I,I,I,I,I,I,I,I,I,O,O,O,O,O,O,O,O,O,O,O,O,O,O,O] HT_.out (h := ?_)
                    refine pu_ (i := 22) (N := some 36) #[I,I,I,I,I,I,I,I,I,I,I,I,I,I,I,I,I,I,I,I,I,I,I,O,O,O,O,O,O,O,O,O,O,O,O,O,O] HT_.out (h := ?_)
                    refine pn_ (i := 23) (N := some 37) #[I,I,I,I,I,I,I,I,I,I,I,I,I,I,I,I,I,I,I,I,I,I,I,I,O,O,O,O,O,O,O,O,O,O,O,O,O] HT_.out (h := ?_)
                    refine pn_ (i := 24) (N := some 38) #[I,I,I,I,I,I,I,I,I,I,I,I,I,I,I,I,I,I,I,I,I,I,I,I,I,O,O,O,O,O,O,O,O,O,O,O,O] HT_.out (h := ?_)
                    refine pn_ (i := 25) (N := some 39) #[I,I,I,I,I,I,I,I,I,I,I,I,I,I,I,I,I,I,I,I,I,I,I,I,I,I,O,O,O,O,O,O,O,O,O,O,O] HT_.out (h := ?_)
                    refine pn_ (i := 26) (N := some 40) #[I,I,I,I,I,I,I,I,I,I,I,I,I,I,I,I,I,I,I,I,I,I,I,I,I,I,I,O,O,O,O,O,O,O,O,O,O] HT_.out (h := ?_)
                    refine pn_ (i := 27) (N := some 41) #[I,I,I,I,I,I,I,I,I,I,I,I,I,I,I,I,I,I,I,I,I,I,I,I,I,I,I,I,O,O,O,O,O,O,O,O,O] HT_.out (h := ?_)
                    refine pn_ (i := 28) (N := some 42) #[I,I,I,I,I,I,I,I,I,I,I,I,I,I,I,I,I,I,I,I,I,I,I,I,I,I,I,I,I,O,O,O,O,O,O,O,O] HT_.out (h := ?_)
                    refine pn_ (i := 29) (N := some 43) #[I,I,I,I,I,I,I,I,I,I,I,I,I,I,I,I,I,I,I,I,I,I,I,I,I,I,I,I,I,I,O,O,O,O,O,O,O] HT_.out (h := ?_)
                    refine pn_ (i := 30) (N := some 44) #[I,I,I,I,I,I,I,I,I,I,I,I,I,I,I,I,I,I,I,I,I,I,I,I,I,I,I,I,I,I,I,O,O,O,O,O,O] HT_.out (h := ?_)
                    refine pn_ (i := 31) (N := some 45) #[I,I,I,I,I,I,I,I,I,I,I,I,I,I,I,I,I,I,I,I,I,I,I,I,I,I,I,I,I,I,I,I,O,O,O,O,O] HT_.out (h := ?_)
                    refine pn_ (i := 32) (N := some 46) #[I,I,I,I,I,I,I,I,I,I,I,I,I,I,I,I,I,I,I,I,I,I,I,I,I,I,I,I,I,I,I,I,I,O,O,O,O] HT_.out (h := ?_)
                    refine pn_ (i := 33) (N := some 47) #[I,I,I,I,I,I,I,I,I,I,I,I,I,I,I,I,I,I,I,I,I,I,I,I,I,I,I,I,I,I,I,I,I,I,O,O,O] HT_.out (h := ?_)
                    refine pn_ (i := 34) (N := some 48) #[I,I,I,I,I,I,I,I,I,I,I,I,I,I,I,I,I,I,I,I,I,I,I,I,I,I,I,I,I,I,I,I,I,I,I,O,O] HT_.out (h := ?_)
                    refine pn_ (i := 35) (N := some 49) #[I,I,I,I,I,I,I,I,I,I,I,I,I,I,I,I,I,I,I,I,I,I,I,I,I,I,I,I,I,I,I,I,I,I,I,I,O] HT_.out (h := ?_)
                    refine pu_ (i := 36) (N := some 50) #[I,I,I,I,I,I,I,I,I,I,I,I,I,I,I,I,I,I,I,I,I,I,I,I,I,I,I,I,I,I,I,I,I,I,I,I,I] HT_.out (h := ?_)
                    refine done_ (done_of HT_.out (by kernel_rfl)) ?_
                    try go_wp2
                    go_meet
                    case rel => exact ⟨_, (true), (by first | rfl | (simp; done) | (simp [*]; done)), H', ⟨by have := HK1.out; first | omega | exact Nat.le_refl _⟩, ⟨by (with_reducible repeat (first | refine blk_drewN ?_ _ | refine blk_drew ?_ | refine blk_alloc ?_ _)); exact BK168.out⟩, ⟨by repeat (first | (with_reducible first | exact HB.out | apply below_alloc | apply pw_below_drewN | apply below_drew1 | refine below_set ?_ GE168.out) | exact HB.out)⟩⟩
                  · rw [if_neg c12] at H
                    have c12b0 : decide (200 < (((rd_T68 l0 x9_1).f2).length : Int)) = false := decide_eq_false c12
                    have c12b1 : decide (200 < ((rd_T68 l0 x9_1).f2).length) = false := decide_eq_false (by omega)
                    clear c12
                    (first | rw [c12b0] | (simp only [i64_w, i32_w]; rw [c12b0]) | skip)
                    replace H := Option.bind_eq_some_iff.mp H
                    obtain ⟨t171, A150, H⟩ := H
                    replace H : (if t171 = true then (if x9_1 > 0 then (if 0 ≤ (wrap64 (x9_1 - 1)) then (if (wrap64 (x9_1 - 1)) < (l0.length : Int) then (impl_TokensOk.j1 k1 l0 l0 (l0.length : Int) x9_1 (decide (((rd_T68 l0 (wrap64 (x9_1 - 1))).f0) ≥ ((rd_T68 l0 x9_1).f0))) ((rd_T68 l0 x9_1).f0) ((rd_T68 l0 x9_1).f1) ((rd_T68 l0 x9_1).f2) ((rd_T68 l0 x9_1).f3)) else (none)) else (none)) else (impl_TokensOk.j1 k1 l0 l0 (l0.length : Int) x9_1 false ((rd_T68 l0 x9_1).f0) ((rd_T68 l0 x9_1).f1) ((rd_T68 l0 x9_1).f2) ((rd_T68 l0 x9_1).f3))) else (impl_TokensOk.j1 k1 l0 l0 (l0.length : Int) x9_1 true ((rd_T68 l0 x9_1).f0) ((rd_T68 l0 x9_1).f1) ((rd_T68 l0 x9_1).f2) ((rd_T68 l0 x9_1).f3))) = some r := H
                    have A15 := Aside0.mk A150
                    clear A150
                    by_cases c16 : t171 = true
                    · subst c16
                      have H1 : (if x9_1 > 0 then (if 0 ≤ (wrap64 (x9_1 - 1)) then (if (wrap64 (x9_1 - 1)) < (l0.length : Int) then (impl_TokensOk.j1 k1 l0 l0 (l0.length : Int) x9_1 (decide (((rd_T68 l0 (wrap64 (x9_1 - 1))).f0) ≥ ((rd_T68 l0 x9_1).f0))) ((rd_T68 l0 x9_1).f0) ((rd_T68 l0 x9_1).f1) ((rd_T68 l0 x9_1).f2) ((rd_T68 l0 x9_1).f3)) else (none)) else (none)) else (impl_TokensOk.j1 k1 l0 l0 (l0.length : Int) x9_1 false ((rd_T68 l0 x9_1).f0) ((rd_T68 l0 x9_1).f1) ((rd_T68 l0 x9_1).f2) ((rd_T68 l0 x9_1).f3))) = some r := by rw [if_pos rfl] at H; exact H
                      clear H
                      have H := H1
                      clear H1
                      by_cases c17 : x9_1 > 0
                      · rw [if_pos c17] at H
                        have c17b0 : decide (0 < x9_1) = true := decide_eq_true c17
                        clear c17
                        obtain ⟨ji18, hji18⟩ : ∃ j_ : Int, (wrap64 (x9_1 - 1)) = j_ := ⟨_, rfl⟩
                        replace H : (if 0 ≤ (ji18) then (if (ji18) < (l0.length : Int) then (impl_TokensOk.j1 k1 l0 l0 (l0.length : Int) x9_1 (decide (((rd_T68 l0 (ji18)).f0) ≥ ((rd_T68 l0 x9_1).f0))) ((rd_T68 l0 x9_1).f0) ((rd_T68 l0 x9_1).f1) ((rd_T68 l0 x9_1).f2) ((rd_T68 l0 x9_1).f3)) else (none)) else (none)) = some r := by first | (rw [hji18] at H; exact H) | (simp only [hji18] at H ⊢; exact H)
                        (try rw [hji18] at A8)
                        (try rw [hji18] at A10)
                        (try rw [hji18] at A15)
                        have hji18w : (IntKind.i64.wrap (x9_1 - 1)) = ji18 := (i64_w _).trans hji18
                        by_cases c19 : 0 ≤ (ji18)
                        · rw [if_pos c19] at H
                          have c19b0 : decide (0 ≤ (ji18)) = true := decide_eq_true c19
                          clear c19
                          by_cases c20 : (ji18) < (l0.length : Int)
                          · rw [if_pos c20] at H
                            have c20b0 : decide ((ji18) < (l0.length : Int)) = true := decide_eq_true c20
                            clear c20
                            have H' := Aside0.mk H
                            clear H
                            try go_wp2
                            have n0_ : Aside0 (((((w6.setCell ⟨gb168, 0, none⟩ (.int .i64 ((rd_T68 l0 x9_1).f0))).setCell ⟨gb168, 1, none⟩ (.int .i64 ((rd_T68 l0 x9_1).f1))).setCell ⟨gb168, 2, none⟩ (.slice A167_2 ((rd_T68 l0 x9_1).f2).length c167_2)).setCell ⟨gb168, 3, none⟩ (.slice A167_3 ((rd_T68 l0 x9_1).f3).length c167_3)).heap[gb168]? = some (.cells #[.int .i64 ((rd_T68 l0 x9_1).f0), .int .i64 ((rd_T68 l0 x9_1).f1), .slice A167_2 ((rd_T68 l0 x9_1).f2).length c167_2, .slice A167_3 ((rd_T68 l0 x9_1).f3).length c167_3] 68 (0, 0))) := ⟨by (with_reducible repeat (first | refine blk_drewN ?_ _ | refine blk_drew ?_ | refine blk_alloc ?_ _)); refine blk_put (cs := #[.int .i64 ((rd_T68 l0 x9_1).f0), .int .i64 ((rd_T68 l0 x9_1).f1), .slice A167_2 ((rd_T68 l0 x9_1).f2).length c167_2, .slice none 0 0]) ?_ 3 _ rfl; (with_reducible repeat (first | refine blk_drewN ?_ _ | refine blk_drew ?_ | refine blk_alloc ?_ _)); refine blk_put (cs := #[.int .i64 ((rd_T68 l0 x9_1).f0), .int .i64 ((rd_T68 l0 x9_1).f1), .slice none 0 0, .slice none 0 0]) ?_ 2 _ rfl; (with_reducible repeat (first | refine blk_drewN ?_ _ | refine blk_drew ?_ | refine blk_alloc ?_ _)); refine blk_put (cs := #[.int .i64 ((rd_T68 l0 x9_1).f0), .int .i64 0, .slice none 0 0, .slice none 0 0]) ?_ 1 _ rfl; (with_reducible repeat (first | refine blk_drewN ?_ _ | refine blk_drew ?_ | refine blk_alloc ?_ _)); refine blk_put (cs := #[.int .i64 0, .int .i64 0, .slice none 0 0, .slice none 0 0]) ?_ 0 _ rfl; (with_reducible repeat (first | refine blk_drewN ?_ _ | refine blk_drew ?_ | refine blk_alloc ?_ _)); exact BK168.out⟩
                            have n1_ : Aside0 (Below w.heap.size w ((((w6.setCell ⟨gb168, 0, none⟩ (.int .i64 ((rd_T68 l0 x9_1).f0))).setCell ⟨gb168, 1, none⟩ (.int .i64 ((rd_T68 l0 x9_1).f1))).setCell ⟨gb168, 2, none⟩ (.slice A167_2 ((rd_T68 l0 x9_1).f2).length c167_2)).setCell ⟨gb168, 3, none⟩ (.slice A167_3 ((rd_T68 l0 x9_1).f3).length c167_3))) := ⟨by repeat (first | (with_reducible first | exact HB.out | apply below_alloc | apply pw_below_drewN | apply below_drew1 | refine below_set ?_ GE168.out) | exact HB.out)⟩
                            (try clear BK168)
                            (try clear HB)
                            generalize ((((w6.setCell ⟨gb168, 0, none⟩ (.int .i64 ((rd_T68 l0 x9_1).f0))).setCell ⟨gb168, 1, none⟩ (.int .i64 ((rd_T68 l0 x9_1).f1))).setCell ⟨gb168, 2, none⟩ (.slice A167_2 ((rd_T68 l0 x9_1).f2).length c167_2)).setCell ⟨gb168, 3, none⟩ (.slice A167_3 ((rd_T68 l0 x9_1).f3).length c167_3)) = w21 at n0_ n1_ ⊢
                            have BK168 := n0_
                            have HB := n1_
                            clear n0_ n1_
                            have n0_ := Aside0.mk (blk_drew BK168.out)
                            have n1_ := Aside0.mk (below_drew1 HB.out)
                            clear BK168
                            clear HB
                            have BK168 := n0_
                            have HB := n1_
                            clear n0_ n1_
                            have p172 : 0 ≤ ((ji18) : Int) := of_decide_eq_true (by first | (with_reducible assumption) | assumption)
                            have q172 : (ji18) < (l0.length : Int) := of_decide_eq_true (by first | (with_reducible assumption) | assumption)
                            obtain ⟨ad172, A172_2, c172_2, A172_3, c172_3, e172, hx172_0, hx172_1, hx172_2, hx172_3, hl172_2, hi172_2, hl172_3, hi172_3⟩ := at_T68 HR0.out (ji18) p172 q172
                            have hw172_3 := hx172_3
                            have hw172_2 := hx172_2
                            have hw172_1 := hx172_1
                            have hw172_0 := hx172_0
                            obtain rfl : ad167 = ad172 := (by injection e172)
                            replace hx172_0 := (HB.out.cell (World.block_lt_of_cell? w _ hx172_0)).trans hx172_0
                            replace hx172_1 := (HB.out.cell (World.block_lt_of_cell? w _ hx172_1)).trans hx172_1
                            replace hx172_2 := (HB.out.cell (World.block_lt_of_cell? w _ hx172_2)).trans hx172_2
                            replace hx172_3 := (HB.out.cell (World.block_lt_of_cell? w _ hx172_3)).trans hx172_3
                            have HR172_2 := Aside0.mk hi172_2
                            have HC172_2 := Aside0.mk hl172_2
                            clear hi172_2 hl172_2
                            have HR172_3 := Aside0.mk hi172_3
                            have HC172_3 := Aside0.mk hl172_3
                            clear hi172_3 hl172_3
                            replace p172 := eq_true p172
                            replace q172 := eq_true q172
                            refine start_ (n := 37) (S := fun w' => w'.cell? ⟨gb168, 0, none⟩ = some (.int .i64 ((rd_T68 l0 x9_1).f0)) ∧ w'.cell? ⟨gb168, 1, none⟩ = some (.int .i64 ((rd_T68 l0 x9_1).f1)) ∧ w'.cell? ⟨gb168, 2, none⟩ = some (.slice A167_2 ((rd_T68 l0 x9_1).f2).length c167_2) ∧ w'.cell? ⟨gb168, 3, none⟩ = some (.slice A167_3 ((rd_T68 l0 x9_1).f3).length c167_3) ∧ w'.cell? (ad167.add (((ji18)).toNat * 4)) = some (.int .i64 ((rd_T68 l0 (ji18)).f0)) ∧ w'.cell? ⟨(ad167.add (((ji18)).toNat * 4)).block, (ad167.add (((ji18)).toNat * 4)).off + 1, none⟩ = some (.int .i64 ((rd_T68 l0 (ji18)).f1)) ∧ w'.cell? ⟨(ad167.add (((ji18)).toNat * 4)).block, (ad167.add (((ji18)).toNat * 4)).off + 2, none⟩ = some (.slice A172_2 ((rd_T68 l0 (ji18)).f2).length c172_2) ∧ w'.cell? ⟨(ad167.add (((ji18)).toNat * 4)).block, (ad167.add (((ji18)).toNat * 4)).off + 3, none⟩ = some (.slice A172_3 ((rd_T68 l0 (ji18)).f3).length c172_3)) (ds := []) #[O,O,O,O,O,O,O,O,O,O,O,O,O,O,O,O,O,O,O,O,O,O,O,O,O,O,O,O,O,O,O,O,O,O,O,O,O] (by kernel_rfl) rfl rfl ⟨(blk_cell BK168.out 0).trans rfl, (blk_cell BK168.out 1).trans rfl, (blk_cell BK168.out 2).trans rfl, (blk_cell BK168.out 3).trans rfl, ((HB.out.cell (World.block_lt_of_cell? w _ hw172_0)).trans hw172_0), ((HB.out.cell (World.block_lt_of_cell? w _ hw172_1)).trans hw172_1), ((HB.out.cell (World.block_lt_of_cell? w _ hw172_2)).trans hw172_2), ((HB.out.cell (World.block_lt_of_cell? w _ hw172_3)).trans hw172_3)⟩ (fun hHeld => ?_); refine with_tabW impl_TokensOk.tab4 impl_TokensOk.bits4 (fun HT_ HW_ => ?_)
                            generalize w21.drew = w22 at BK168 HB HR172_2 HR172_3 hx172_0 hx172_1 hx172_2 hx172_3 hHeld ⊢
                            refine pu_ (i := 0) (N := some 14) #[I,O,O,O,O,O,O,O,O,O,O,O,O,O,O,O,O,O,O,O,O,O,O,O,O,O,O,O,O,O,O,O,O,O,O,O,O] HT_.out (h := ?_)
                            refine tk_ (i := 1) (N := some 15) #[I,I,O,O,O,O,O,O,O,O,O,O,O,O,O,O,O,O,O,O,O,O,O,O,O,O,O,O,O,O,O,O,O,O,O,O,O] HT_.out HW_.out hHeld (hy := by (rintro w' ⟨s0, s1, s2, s3, s4, s5, s6, s7⟩; go_simp; with_reducible rfl)) (h := ?_)
                            refine one_ (i := 2) (N := some 16) #[I,I,I,O,O,O,O,O,O,O,O,O,O,O,O,O,O,O,O,O,O,O,O,O,O,O,O,O,O,O,O,O,O,O,O,O,O] rfl rfl (one_of HT_.out (by kernel_rfl)) (by decide) (fun K hK => ?_)
                            refine goes_ Try.func112 (by kernel_rfl) rfl #[.int .i64 ((rd_T68 l0 x9_1).f0)] (by rfl) rfl rfl (by (try simp only [List.map_toArray, List.map_cons, List.map_nil]); first | done | rfl | (simp only [List.length_drop, List.length_take]; rfl)) ?_
                            with_reducible refine (impl_isId.calls ((rd_T68 l0 x9_1).f0) true _ A8.out).mono ?_
                            rintro e w' ⟨rfl, ⟨nd, rfl⟩⟩
                            refine ⟨_, rfl, ?_⟩
                            refine hK.out _ _ ⟨(blk_cell BK168.out 0).trans rfl, (blk_cell BK168.out 1).trans rfl, (blk_cell BK168.out 2).trans rfl, (blk_cell BK168.out 3).trans rfl, ((HB.out.cell (World.block_lt_of_cell? w _ hw172_0)).trans hw172_0), ((HB.out.cell (World.block_lt_of_cell? w _ hw172_1)).trans hw172_1), ((HB.out.cell (World.block_lt_of_cell? w _ hw172_2)).trans hw172_2), ((HB.out.cell (World.block_lt_of_cell? w _ hw172_3)).trans hw172_3)⟩ (fun hHeld => ?_)
                            clear hK K
                            refine norm_ (a' := ?_) ?_ ?_
                            rotate_left
                            · show Act.put _ (some 16) _ = _
                              simp only [Act.put, List.setIfInBounds_toArray, List.set_cons_zero, List.set_cons_succ, i64_w, i32_w]
                              rfl
                            refine pu_ (i := 3) (N := some 17) #[I,I,I,I,O,O,O,O,O,O,O,O,O,O,O,O,O,O,O,O,O,O,O,O,O,O,O,O,O,O,O,O,O,O,O,O,O] HT_.out (h := ?_)
                            refine pu_ (i := 4) (N := some 18) #[I,I,I,I,I,O,O,O,O,O,O,O,O,O,O,O,O,O,O,O,O,O,O,O,O,O,O,O,O,O,O,O,O,O,O,O,O] HT_.out (h := ?_)
                            refine pu_ (i := 5) (N := some 19) #[I,I,I,I,I,I,O,O,O,O,O,O,O,O,O,O,O,O,O,O,O,O,O,O,O,O,O,O,O,O,O,O,O,O,O,O,O] HT_.out (h := ?_)
                            refine tk_ (i := 6) (N := some 20) #[I,I,I,I,I,I,I,O,O,O,O,O,O,O,O,O,O,O,O,O,O,O,O,O,O,O,O,O,O,O,O,O,O,O,O,O,O] HT_.out HW_.out hHeld (hy := by (rintro w' ⟨s0, s1, s2, s3, s4, s5, s6, s7⟩; go_simp; with_reducible rfl)) (h := ?_)
                            refine one_ (i := 7) (N := some 21) #[I,I,I,I,I,I,I,I,O,O,O,O,O,O,O,O,O,O,O,O,O,O,O,O,O,O,O,O,O,O,O,O,O,O,O,O,O] rfl rfl (one_of HT_.out (by kernel_rfl)) (by decide) (fun K hK => ?_)
                            refine goes_ Try.func113 (by kernel_rfl) rfl #[.int .i64 ((rd_T68 l0 x9_1).f1), .int .i64 0, .int .i64 1000000] (by rfl) rfl rfl (by (try simp only [List.map_toArray, List.map_cons, List.map_nil]); first | done | rfl | (simp only [List.length_drop, List.length_take]; rfl)) ?_
                            with_reducible refine (impl_within.calls ((rd_T68 l0 x9_1).f1) 0 1000000 true _ A10.out).mono ?_
                            rintro e w' ⟨rfl, ⟨nd, rfl⟩⟩
                            refine ⟨_, rfl, ?_⟩
                            refine hK.out _ _ ⟨(blk_cell BK168.out 0).trans rfl, (blk_cell BK168.out 1).trans rfl, (blk_cell BK168.out 2).trans rfl, (blk_cell BK168.out 3).trans rfl, ((HB.out.cell (World.block_lt_of_cell? w _ hw172_0)).trans hw172_0), ((HB.out.cell (World.block_lt_of_cell? w _ hw172_1)).trans hw172_1), ((HB.out.cell (World.block_lt_of_cell? w _ hw172_2)).trans hw172_2), ((HB.out.cell (World.block_lt_of_cell? w _ hw172_3)).trans hw172_3)⟩ (fun hHeld => ?_)
                            clear hK K
                            refine norm_ (a' := ?_) ?_ ?_
                            rotate_left
                            · show Act.put _ (some 21) _ = _
                              simp only [Act.put, List.setIfInBounds_toArray, List.set_cons_zero, List.set_cons_succ, i64_w, i32_w]
                              rfl
                            refine pu_ (i := 8) (N := some 22) #[I,I,I,I,I,I,I,I,I,O,O,O,O,O,O,O,O,O,O,O,O,O,O,O,O,O,O,O,O,O,O,O,O,O,O,O,O] HT_.out (h := ?_)
                            refine pu_ (i := 9) (N := some 23) #[I,I,I,I,I,I,I,I,I,I,O,O,O,O,O,O,O,O,O,O,O,O,O,O,O,O,O,O,O,O,O,O,O,O,O,O,O] HT_.out (h := ?_)
                            refine pu_ (i := 10) (N := some 24) #[I,I,I,I,I,I,I,I,I,I,I,O,O,O,O,O,O,O,O,O,O,O,O,O,O,O,O,O,O,O,O,O,O,O,O,O,O] HT_.out (h := ?_)
                            refine pu_ (i := 11) (N := some 25) #[I,I,I,I,I,I,I,I,I,I,I,I,O,O,O,O,O,O,O,O,O,O,O,O,O,O,O,O,O,O,O,O,O,O,O,O,O] HT_.out (h := ?_)
                            refine tk_ (i := 12) (N := some 26) #[I,I,I,I,I,I,I,I,I,I,I,I,I,O,O,O,O,O,O,O,O,O,O,O,O,O,O,O,O,O,O,O,O,O,O,O,O] HT_.out HW_.out hHeld (hy := by (rintro w' ⟨s0, s1, s2, s3, s4, s5, s6, s7⟩; go_simp; with_reducible rfl)) (h := ?_)
                            refine pu_ (i := 13) (N := some 27) #[I,I,I,I,I,I,I,I,I,I,I,I,I,I,O,O,O,O,O,O,O,O,O,O,O,O,O,O,O,O,O,O,O,O,O,O,O] HT_.out (h := ?_)
                            refine pu_ (i := 14) (N := some 28) #[I,I,I,I,I,I,I,I,I,I,I,I,I,I,I,O,O,O,O,O,O,O,O,O,O,O,O,O,O,O,O,O,O,O,O,O,O] HT_.out (h := ?_)
                            refine pu_ (i := 15) (N := some 29) #[I,I,I,I,I,I,I,I,I,I,I,I,I,I,I,I,O,O,O,O,O,O,O,O,O,O,O,O,O,O,O,O,O,O,O,O,O] HT_.out (h := ?_)
                            refine pu_ (i := 16) (N := some 30) #[I,I,I,I,I,I,I,I,I,I,I,I,I,I,I,I,I,O,O,O,O,O,O,O,O,O,O,O,O,O,O,O,O,O,O,O,O] HT_.out (h := ?_)
                            refine pu_ (i := 17) (N := some 31) #[I,I,I,I,I,I,I,I,I,I,I,I,I,I,I,I,I,I,O,O,O,O,O,O,O,O,O,O,O,O,O,O,O,O,O,O,O] HT_.out (h := ?_)
                            refine tk_ (i := 18) (N := some 32) #[I,I,I,I,I,I,I,I,I,I,I,I,I,I,I,I,I,I,I,O,O,O,O,O,O,O,O,O,O,O,O,O,O,O,O,O,O] HT_.out HW_.out hHeld (hy := by (rintro w' ⟨s0, s1, s2, s3, s4, s5, s6, s7⟩; go_simp; with_reducible rfl)) (h := ?_)
                            refine one_ (i := 19) (N := some 33) #[I,I,I,I,I,I,I,I,I,I,I,I,I,I,I,I,I,I,I,I,O,O,O,O,O,O,O,O,O,O,O,O,O,O,O,O,O] rfl rfl (one_of HT_.out (by kernel_rfl)) (by decide) (fun K hK => ?_)
                            refine goes_ Try.func21 (by kernel_rfl) rfl #[.slice A167_3 ((rd_T68 l0 x9_1).f3).length c167_3] (by rfl) rfl rfl (by (try simp only [List.map_toArray, List.map_cons, List.map_nil]); first | done | rfl | (simp only [List.length_drop, List.length_take]; rfl)) ?_
                            with_reducible refine (impl_NotesOk.calls k1 _ _ ((rd_T68 l0 x9_1).f3) true _ ?side1 ?side2 A15.out).mono ?_
                            (case side1 => repeat (first | exact (Kd.C_below HR167_3.out (by repeat (first | (with_reducible first | exact HB.out | apply below_alloc | apply pw_below_drewN | apply below_drew1 | refine below_set ?_ GE168.out) | exact HB.out))) | (with_reducible refine Kd.C_alloc ?_ _) | (with_reducible refine Kd.C_drewN ?_ _) | (with_reducible refine Kd.C_drew ?_)))
                            (case side2 => exact HC167_3.out)
                            rintro e w23 ⟨rfl, hb⟩
                            refine ⟨_, rfl, ?_⟩
                            have n0_ := Aside0.mk (blk_below (g := gb168) (o := .cells #[.int .i64 ((rd_T68 l0 x9_1).f0), .int .i64 ((rd_T68 l0 x9_1).f1), .slice A167_2 ((rd_T68 l0 x9_1).f2).length c167_2, .slice A167_3 ((rd_T68 l0 x9_1).f3).length c167_3] 68 (0, 0)) (by (with_reducible repeat (first | refine blk_drewN ?_ _ | refine blk_drew ?_ | refine blk_alloc ?_ _)); exact BK168.out) hb)
                            have n1_ := Aside0.mk (below_step (by repeat (first | (with_reducible first | exact HB.out | apply below_alloc | apply pw_below_drewN | apply below_drew1 | refine below_set ?_ GE168.out) | exact HB.out)) hb)
                            clear BK168
                            clear HB
                            have BK168 := n0_
                            have HB := n1_
                            clear n0_ n1_
                            (try clear hb)
                            (try clear hb2)
                            (try clear hk)
                            (try clear hi)
                            refine hK.out _ _ ⟨(blk_cell BK168.out 0).trans rfl, (blk_cell BK168.out 1).trans rfl, (blk_cell BK168.out 2).trans rfl, (blk_cell BK168.out 3).trans rfl, ((HB.out.cell (World.block_lt_of_cell? w _ hw172_0)).trans hw172_0), ((HB.out.cell (World.block_lt_of_cell? w _ hw172_1)).trans hw172_1), ((HB.out.cell (World.block_lt_of_cell? w _ hw172_2)).trans hw172_2), ((HB.out.cell (World.block_lt_of_cell? w _ hw172_3)).trans hw172_3)⟩ (fun hHeld => ?_)
                            clear hK K
                            refine norm_ (a' := ?_) ?_ ?_
                            rotate_left
                            · show Act.put _ (some 33) _ = _
                              simp only [Act.put, List.setIfInBounds_toArray, List.set_cons_zero, List.set_cons_succ, i64_w, i32_w]
                              rfl
                            refine pu_ (i := 20) (N := some 34) #[I,I,I,I,I,I,I,I,I,I,I,I,I,I,I,I,I,I,I,I,I,O,O,O,O,O,O,O,O,O,O,O,O,O,O,O,O] HT_.out (h := ?_)
                            refine pu_ (i := 21) (N := some 35) #[I,I,I,I,I,I,I,I,I,I,I,I,I,I,I,I,I,I,I,I,I,I,O,O,O,O,O,O,O,O,O,O,O,O,O,O,O] HT_.out (h := ?_)
                            refine pu_ (i := 22) (N := some 36) #[I,I,I,I,I,I,I,I,I,I,I,I,I,I,I,I,I,I,I,I,I,I,I,O,O,O,O,O,O,O,O,O,O,O,O,O,O] HT_.out (h := ?_)
                            refine pu_ (i := 23) (N := some 37) #[I,I,I,I,I,I,I,I,I,I,I,I,I,I,I,I,I,I,I,I,I,I,I,I,O,O,O,O,O,O,O,O,O,O,O,O,O] HT_.out (h := ?_)
                            refine pu_ (i := 24) (N := some 38) #[I,I,I,I,I,I,I,I,I,I,I,I,I,I,I,I,I,I,I,I,I,I,I,I,I,O,O,O,O,O,O,O,O,O,O,O,O] HT_.out (h := ?_)
                            refine pu_ (i := 25) (N := some 39) #[I,I,I,I,I,I,I,I,I,I,I,I,I,I,I,I,I,I,I,I,I,I,I,I,I,I,O,O,O,O,O,O,O,O,O,O,O] HT_.out (h := ?_)
                            refine pu_ (i := 26) (N := some 40) #[I,I,I,I,I,I,I,I,I,I,I,I,I,I,I,I,I,I,I,I,I,I,I,I,I,I,I,O,O,O,O,O,O,O,O,O,O] HT_.out (h := ?_)
                            refine pu_ (i := 27) (N := some 41) #[I,I,I,I,I,I,I,I,I,I,I,I,I,I,I,I,I,I,I,I,I,I,I,I,I,I,I,I,O,O,O,O,O,O,O,O,O] HT_.out (h := ?_)
                            refine pu_ (i := 28) (N := some 42) #[I,I,I,I,I,I,I,I,I,I,I,I,I,I,I,I,I,I,I,I,I,I,I,I,I,I,I,I,I,O,O,O,O,O,O,O,O] HT_.out (h := ?_)
                            refine pu_ (i := 29) (N := some 43) #[I,I,I,I,I,I,I,I,I,I,I,I,I,I,I,I,I,I,I,I,I,I,I,I,I,I,I,I,I,I,O,O,O,O,O,O,O] HT_.out (h := ?_)
                            refine pu_ (i := 30) (N := some 44) #[I,I,I,I,I,I,I,I,I,I,I,I,I,I,I,I,I,I,I,I,I,I,I,I,I,I,I,I,I,I,I,O,O,O,O,O,O] HT_.out (h := ?_)
                            refine pu_ (i := 32) (N := some 46) #[I,I,I,I,I,I,I,I,I,I,I,I,I,I,I,I,I,I,I,I,I,I,I,I,I,I,I,I,I,I,I,O,I,O,O,O,O] HT_.out (h := ?_)
                            refine tk_ (i := 31) (N := some 45) #[I,I,I,I,I,I,I,I,I,I,I,I,I,I,I,I,I,I,I,I,I,I,I,I,I,I,I,I,I,I,I,I,I,O,O,O,O] HT_.out HW_.out hHeld (hy := by (rintro w' ⟨s0, s1, s2, s3, s4, s5, s6, s7⟩; go_simp; with_reducible rfl)) (h := ?_)
                            refine tk_ (i := 33) (N := some 47) #[I,I,I,I,I,I,I,I,I,I,I,I,I,I,I,I,I,I,I,I,I,I,I,I,I,I,I,I,I,I,I,I,I,I,O,O,O] HT_.out HW_.out hHeld (hy := by (rintro w' ⟨s0, s1, s2, s3, s4, s5, s6, s7⟩; go_simp; with_reducible rfl)) (h := ?_)
                            refine pu_ (i := 34) (N := some 48) #[I,I,I,I,I,I,I,I,I,I,I,I,I,I,I,I,I,I,I,I,I,I,I,I,I,I,I,I,I,I,I,I,I,I,I,O,O] HT_.out (h := ?_)
                            refine pu_ (i := 35) (N := some 49) #[I,I,I,I,I,I,I,I,I,I,I,I,I,I,I,I,I,I,I,I,I,I,I,I,I,I,I,I,I,I,I,I,I,I,I,I,O] HT_.out (h := ?_)
                            refine pu_ (i := 36) (N := some 50) #[I,I,I,I,I,I,I,I,I,I,I,I,I,I,I,I,I,I,I,I,I,I,I,I,I,I,I,I,I,I,I,I,I,I,I,I,I] HT_.out (h := ?_)
                            refine done_ (done_of HT_.out (by kernel_rfl)) ?_
                            try go_wp2
                            go_meet
                            case rel => exact ⟨_, (decide (((rd_T68 l0 (ji18)).f0) ≥ ((rd_T68 l0 x9_1).f0))), (by first | rfl | (simp; done) | (simp only [← hji18] <;> (first | rfl | simp)) | (simp [*]; done)), H', ⟨by have := HK1.out; first | omega | exact Nat.le_refl _⟩, ⟨by (with_reducible repeat (first | refine blk_drewN ?_ _ | refine blk_drew ?_ | refine blk_alloc ?_ _)); exact BK168.out⟩, ⟨by repeat (first | (with_reducible first | exact HB.out | apply below_alloc | apply pw_below_drewN | apply below_drew1 | refine below_set ?_ GE168.out) | exact HB.out)⟩⟩
                          · rw [if_neg c20] at H
                            exact absurd H (by simp)
                        · rw [if_neg c19] at H
                          exact absurd H (by simp)
                      · rw [if_neg c17] at H
                        have c17b0 : decide (0 < x9_1) = false := decide_eq_false c17
                        clear c17
                        have H' := Aside0.mk H
                        clear H
                        try go_wp2
                        have n0_ : Aside0 (((((w6.setCell ⟨gb168, 0, none⟩ (.int .i64 ((rd_T68 l0 x9_1).f0))).setCell ⟨gb168, 1, none⟩ (.int .i64 ((rd_T68 l0 x9_1).f1))).setCell ⟨gb168, 2, none⟩ (.slice A167_2 ((rd_T68 l0 x9_1).f2).length c167_2)).setCell ⟨gb168, 3, none⟩ (.slice A167_3 ((rd_T68 l0 x9_1).f3).length c167_3)).heap[gb168]? = some (.cells #[.int .i64 ((rd_T68 l0 x9_1).f0), .int .i64 ((rd_T68 l0 x9_1).f1), .slice A167_2 ((rd_T68 l0 x9_1).f2).length c167_2, .slice A167_3 ((rd_T68 l0 x9_1).f3).length c167_3] 68 (0, 0))) := ⟨by (with_reducible repeat (first | refine blk_drewN ?_ _ | refine blk_drew ?_ | refine blk_alloc ?_ _)); refine blk_put (cs := #[.int .i64 ((rd_T68 l0 x9_1).f0), .int .i64 ((rd_T68 l0 x9_1).f1), .slice A167_2 ((rd_T68 l0 x9_1).f2).length c167_2, .slice none 0 0]) ?_ 3 _ rfl; (with_reducible repeat (first | refine blk_drewN ?_ _ | refine blk_drew ?_ | refine blk_alloc ?_ _)); refine blk_put (cs := #[.int .i64 ((rd_T68 l0 x9_1).f0), .int .i64 ((rd_T68 l0 x9_1).f1), .slice none 0 0, .slice none 0 0]) ?_ 2 _ rfl; (with_reducible repeat (first | refine blk_drewN ?_ _ | refine blk_drew ?_ | refine blk_alloc ?_ _)); refine blk_put (cs := #[.int .i64 ((rd_T68 l0 x9_1).f0), .int .i64 0, .slice none 0 0, .slice none 0 0]) ?_ 1 _ rfl; (with_reducible repeat (first | refine blk_drewN ?_ _ | refine blk_drew ?_ | refine blk_alloc ?_ _)); refine blk_put (cs := #[.int .i64 0, .int .i64 0, .slice none 0 0, .slice none 0 0]) ?_ 0 _ rfl; (with_reducible repeat (first | refine blk_drewN ?_ _ | refine blk_drew ?_ | refine blk_alloc ?_ _)); exact BK168.out⟩
                        have n1_ : Aside0 (Below w.heap.size w ((((w6.setCell ⟨gb168, 0, none⟩ (.int .i64 ((rd_T68 l0 x9_1).f0))).setCell ⟨gb168, 1, none⟩ (.int .i64 ((rd_T68 l0 x9_1).f1))).setCell ⟨gb168, 2, none⟩ (.slice A167_2 ((rd_T68 l0 x9_1).f2).length c167_2)).setCell ⟨gb168, 3, none⟩ (.slice A167_3 ((rd_T68 l0 x9_1).f3).length c167_3))) := ⟨by repeat (first | (with_reducible first | exact HB.out | apply below_alloc | apply pw_below_drewN | apply below_drew1 | refine below_set ?_ GE168.out) | exact HB.out)⟩
                        (try clear BK168)
                        (try clear HB)
                        generalize ((((w6.setCell ⟨gb168, 0, none⟩ (.int .i64 ((rd_T68 l0 x9_1).f0))).setCell ⟨gb168, 1, none⟩ (.int .i64 ((rd_T68 l0 x9_1).f1))).setCell ⟨gb168, 2, none⟩ (.slice A167_2 ((rd_T68 l0 x9_1).f2).length c167_2)).setCell ⟨gb168, 3, none⟩ (.slice A167_3 ((rd_T68 l0 x9_1).f3).length c167_3)) = w24 at n0_ n1_ ⊢
                        have BK168 := n0_
                        have HB := n1_
                        clear n0_ n1_
                        have n0_ := Aside0.mk (blk_drew BK168.out)
                        have n1_ := Aside0.mk (below_drew1 HB.out)
                        clear BK168
                        clear HB
                        have BK168 := n0_
                        have HB := n1_
                        clear n0_ n1_
                        refine start_ (n := 37) (S := fun w' => w'.cell? ⟨gb168, 0, none⟩ = some (.int .i64 ((rd_T68 l0 x9_1).f0)) ∧ w'.cell? ⟨gb168, 1, none⟩ = some (.int .i64 ((rd_T68 l0 x9_1).f1)) ∧ w'.cell? ⟨gb168, 2, none⟩ = some (.slice A167_2 ((rd_T68 l0 x9_1).f2).length c167_2) ∧ w'.cell? ⟨gb168, 3, none⟩ = some (.slice A167_3 ((rd_T68 l0 x9_1).f3).length c167_3)) (ds := []) #[O,O,O,O,O,O,O,O,O,O,O,O,O,O,O,O,O,O,O,O,O,O,O,O,O,O,O,O,O,O,O,O,O,O,O,O,O] (by kernel_rfl) rfl rfl ⟨(blk_cell BK168.out 0).trans rfl, (blk_cell BK168.out 1).trans rfl, (blk_cell BK168.out 2).trans rfl, (blk_cell BK168.out 3).trans rfl⟩ (fun hHeld => ?_); refine with_tabW impl_TokensOk.tab4 impl_TokensOk.bits4 (fun HT_ HW_ => ?_)
                        generalize w24.drew = w25 at BK168 HB hHeld ⊢
                        refine pu_ (i := 0) (N := some 14) #[I,O,O,O,O,O,O,O,O,O,O,O,O,O,O,O,O,O,O,O,O,O,O,O,O,O,O,O,O,O,O,O,O,O,O,O,O] HT_.out (h := ?_)
                        refine tk_ (i := 1) (N := some 15) #[I,I,O,O,O,O,O,O,O,O,O,O,O,O,O,O,O,O,O,O,O,O,O,O,O,O,O,O,O,O,O,O,O,O,O,O,O] HT_.out HW_.out hHeld (hy := by (rintro w' ⟨s0, s1, s2, s3⟩; go_simp; with_reducible rfl)) (h := ?_)
                        refine one_ (i := 2) (N := some 16) #[I,I,I,O,O,O,O,O,O,O,O,O,O,O,O,O,O,O,O,O,O,O,O,O,O,O,O,O,O,O,O,O,O,O,O,O,O] rfl rfl (one_of HT_.out (by kernel_rfl)) (by decide) (fun K hK => ?_)
                        refine goes_ Try.func112 (by kernel_rfl) rfl #[.int .i64 ((rd_T68 l0 x9_1).f0)] (by rfl) rfl rfl (by (try simp only [List.map_toArray, List.map_cons, List.map_nil]); first | done | rfl | (simp only [List.length_drop, List.length_take]; rfl)) ?_
                        with_reducible refine (impl_isId.calls ((rd_T68 l0 x9_1).f0) true _ A8.out).mono ?_
                        rintro e w' ⟨rfl, ⟨nd, rfl⟩⟩
                        refine ⟨_, rfl, ?_⟩
                        refine hK.out _ _ ⟨(blk_cell BK168.out 0).trans rfl, (blk_cell BK168.out 1).trans rfl, (blk_cell BK168.out 2).trans rfl, (blk_cell BK168.out 3).trans rfl⟩ (fun hHeld => ?_)
                        clear hK K
                        refine norm_ (a' := ?_) ?_ ?_
                        rotate_left
                        · show Act.put _ (some 16) _ = _
                          simp only [Act.put, List.setIfInBounds_toArray, List.set_cons_zero, List.set_cons_succ, i64_w, i32_w]
                          rfl
                        refine pu_ (i := 3) (N := some 17) #[I,I,I,I,O,O,O,O,O,O,O,O,O,O,O,O,O,O,O,O,O,O,O,O,O,O,O,O,O,O,O,O,O,O,O,O,O] HT_.out (h := ?_)
                        refine pu_ (i := 4) (N := some 18) #[I,I,I,I,I,O,O,O,O,O,O,O,O,O,O,O,O,O,O,O,O,O,O,O,O,O,O,O,O,O,O,O,O,O,O,O,O] HT_.out (h := ?_)
                        refine pu_ (i := 5) (N := some 19) #[I,I,I,I,I,I,O,O,O,O,O,O,O,O,O,O,O,O,O,O,O,O,O,O,O,O,O,O,O,O,O,O,O,O,O,O,O] HT_.out (h := ?_)
                        refine tk_ (i := 6) (N := some 20) #[I,I,I,I,I,I,I,O,O,O,O,O,O,O,O,O,O,O,O,O,O,O,O,O,O,O,O,O,O,O,O,O,O,O,O,O,O] HT_.out HW_.out hHeld (hy := by (rintro w' ⟨s0, s1, s2, s3⟩; go_simp; with_reducible rfl)) (h := ?_)
                        refine one_ (i := 7) (N := some 21) #[I,I,I,I,I,I,I,I,O,O,O,O,O,O,O,O,O,O,O,O,O,O,O,O,O,O,O,O,O,O,O,O,O,O,O,O,O] rfl rfl (one_of HT_.out (by kernel_rfl)) (by decide) (fun K hK => ?_)
                        refine goes_ Try.func113 (by kernel_rfl) rfl #[.int .i64 ((rd_T68 l0 x9_1).f1), .int .i64 0, .int .i64 1000000] (by rfl) rfl rfl (by (try simp only [List.map_toArray, List.map_cons, List.map_nil]); first | done | rfl | (simp only [List.length_drop, List.length_take]; rfl)) ?_
                        with_reducible refine (impl_within.calls ((rd_T68 l0 x9_1).f1) 0 1000000 true _ A10.out).mono ?_
                        rintro e w' ⟨rfl, ⟨nd, rfl⟩⟩
                        refine ⟨_, rfl, ?_⟩
                        refine hK.out _ _ ⟨(blk_cell BK168.out 0).trans rfl, (blk_cell BK168.out 1).trans rfl, (blk_cell BK168.out 2).trans rfl, (blk_cell BK168.out 3).trans rfl⟩ (fun hHeld => ?_)
                        clear hK K
                        refine norm_ (a' := ?_) ?_ ?_
                        rotate_left
                        · show Act.put _ (some 21) _ = _
                          simp only [Act.put, List.setIfInBounds_toArray, List.set_cons_zero, List.set_cons_succ, i64_w, i32_w]
                          rfl
                        refine pu_ (i := 8) (N := some 22) #[I,I,I,I,I,I,I,I,I,O,O,O,O,O,O,O,O,O,O,O,O,O,O,O,O,O,O,O,O,O,O,O,O,O,O,O,O] HT_.out (h := ?_)
                        refine pu_ (i := 9) (N := some 23) #[I,I,I,I,I,I,I,I,I,I,O,O,O,O,O,O,O,O,O,O,O,O,O,O,O,O,O,O,O,O,O,O,O,O,O,O,O] HT_.out (h := ?_)
                        refine pu_ (i := 10) (N := some 24) #[I,I,I,I,I,I,I,I,I,I,I,O,O,O,O,O,O,O,O,O,O,O,O,O,O,O,O,O,O,O,O,O,O,O,O,O,O] HT_.out (h := ?_)
                        refine pu_ (i := 11) (N := some 25) #[I,I,I,I,I,I,I,I,I,I,I,I,O,O,O,O,O,O,O,O,O,O,O,O,O,O,O,O,O,O,O,O,O,O,O,O,O] HT_.out (h := ?_)
                        refine tk_ (i := 12) (N := some 26) #[I,I,I,I,I,I,I,I,I,I,I,I,I,O,O,O,O,O,O,O,O,O,O,O,O,O,O,O,O,O,O,O,O,O,O,O,O] HT_.out HW_.out hHeld (hy := by (rintro w' ⟨s0, s1, s2, s3⟩; go_simp; with_reducible rfl)) (h := ?_)
                        refine pu_ (i := 13) (N := some 27) #[I,I,I,I,I,I,I,I,I,I,I,I,I,I,O,O,O,O,O,O,O,O,O,O,O,O,O,O,O,O,O,O,O,O,O,O,O] HT_.out (h := ?_)
                        refine pu_ (i := 14) (N := some 28) #[I,I,I,I,I,I,I,I,I,I,I,I,I,I,I,O,O,O,O,O,O,O,O,O,O,O,O,O,O,O,O,O,O,O,O,O,O] HT_.out (h := ?_)
                        refine pu_ (i := 15) (N := some 29) #[I,I,I,I,I,I,I,I,I,I,I,I,I,I,I,I,O,O,O,O,O,O,O,O,O,O,O,O,O,O,O,O,O,O,O,O,O] HT_.out (h := ?_)
                        refine pu_ (i := 16) (N := some 30) #[I,I,I,I,I,I,I,I,I,I,I,I,I,I,I,I,I,O,O,O,O,O,O,O,O,O,O,O,O,O,O,O,O,O,O,O,O] HT_.out (h := ?_)
                        refine pu_ (i := 17) (N := some 31) #[I,I,I,I,I,I,I,I,I,I,I,I,I,I,I,I,I,I,O,O,O,O,O,O,O,O,O,O,O,O,O,O,O,O,O,O,O] HT_.out (h := ?_)
                        refine tk_ (i := 18) (N := some 32) #[I,I,I,I,I,I,I,I,I,I,I,I,I,I,I,I,I,I,I,O,O,O,O,O,O,O,O,O,O,O,O,O,O,O,O,O,O] HT_.out HW_.out hHeld (hy := by (rintro w' ⟨s0, s1, s2, s3⟩; go_simp; with_reducible rfl)) (h := ?_)
                        refine one_ (i := 19) (N := some 33) #[I,I,I,I,I,I,I,I,I,I,I,I,I,I,I,I,I,I,I,I,O,O,O,O,O,O,O,O,O,O,O,O,O,O,O,O,O] rfl rfl (one_of HT_.out (by kernel_rfl)) (by decide) (fun K hK => ?_)
                        refine goes_ Try.func21 (by kernel_rfl) rfl #[.slice A167_3 ((rd_T68 l0 x9_1).f3).length c167_3] (by rfl) rfl rfl (by (try simp only [List.map_toArray, List.map_cons, List.map_nil]); first | done | rfl | (simp only [List.length_drop, List.length_take]; rfl)) ?_
                        with_reducible refine (impl_NotesOk.calls k1 _ _ ((rd_T68 l0 x9_1).f3) true _ ?side1 ?side2 A15.out).mono ?_
                        (case side1 => repeat (first | exact (Kd.C_below HR167_3.out (by repeat (first | (with_reducible first | exact HB.out | apply below_alloc | apply pw_below_drewN | apply below_drew1 | refine below_set ?_ GE168.out) | exact HB.out))) | (with_reducible refine Kd.C_alloc ?_ _) | (with_reducible refine Kd.C_drewN ?_ _) | (with_reducible refine Kd.C_drew ?_)))
                        (case side2 => exact HC167_3.out)
                        rintro e w26 ⟨rfl, hb⟩
                        refine ⟨_, rfl, ?_⟩
                        have n0_ := Aside0.mk (blk_below (g := gb168) (o := .cells #[.int .i64 ((rd_T68 l0 x9_1).f0), .int .i64 ((rd_T68 l0 x9_1).f1), .slice A167_2 ((rd_T68 l0 x9_1).f2).length c167_2, .slice A167_3 ((rd_T68 l0 x9_1).f3).length c167_3] 68 (0, 0)) (by (with_reducible repeat (first | refine blk_drewN ?_ _ | refine blk_drew ?_ | refine blk_alloc ?_ _)); exact BK168.out) hb)
                        have n1_ := Aside0.mk (below_step (by repeat (first | (with_reducible first | exact HB.out | apply below_alloc | apply pw_below_drewN | apply below_drew1 | refine below_set ?_ GE168.out) | exact HB.out)) hb)
                        clear BK168
                        clear HB
                        have BK168 := n0_
                        have HB := n1_
                        clear n0_ n1_
                        (try clear hb)
                        (try clear hb2)
                        (try clear hk)
                        (try clear hi)
                        refine hK.out _ _ ⟨(blk_cell BK168.out 0).trans rfl, (blk_cell BK168.out 1).trans rfl, (blk_cell BK168.out 2).trans rfl, (blk_cell BK168.out 3).trans rfl⟩ (fun hHeld => ?_)
                        clear hK K
                        refine norm_ (a' := ?_) ?_ ?_
                        rotate_left
                        · show Act.put _ (some 33) _ = _
                          simp only [Act.put, List.setIfInBounds_toArray, List.set_cons_zero, List.set_cons_succ, i64_w, i32_w]
                          rfl
                        refine pu_ (i := 20) (N := some 34) #[I,I,I,I,I,I,I,I,I,I,I,I,I,I,I,I,I,I,I,I,I,O,O,O,O,O,O,O,O,O,O,O,O,O,O,O,O] HT_.out (h := ?_)
                        refine pu_ (i := 21) (N := some 35) #[I,I,I,I,I,I,I,I,I,I,I,I,I,I,I,I,I,I,I,I,I,I,O,O,O,O,O,O,O,O,O,O,O,O,O,O,O] HT_.out (h := ?_)
                        refine pu_ (i := 22) (N := some 36) #[I,I,I,I,I,I,I,I,I,I,I,I,I,I,I,I,I,I,I,I,I,I,I,O,O,O,O,O,O,O,O,O,O,O,O,O,O] HT_.out (h := ?_)
                        refine pu_ (i := 23) (N := some 37) #[I,I,I,I,I,I,I,I,I,I,I,I,I,I,I,I,I,I,I,I,I,I,I,I,O,O,O,O,O,O,O,O,O,O,O,O,O] HT_.out (h := ?_)
                        refine pu_ (i := 24) (N := some 38) #[I,I,I,I,I,I,I,I,I,I,I,I,I,I,I,I,I,I,I,I,I,I,I,I,I,O,O,O,O,O,O,O,O,O,O,O,O] HT_.out (h := ?_)
                        refine pu_ (i := 25) (N := some 39) #[I,I,I,I,I,I,I,I,I,I,I,I,I,I,I,I,I,I,I,I,I,I,I,I,I,I,O,O,O,O,O,O,O,O,O,O,O] HT_.out (h := ?_)
                        refine pn_ (i := 26) (N := some 40) #[I,I,I,I,I,I,I,I,I,I,I,I,I,I,I,I,I,I,I,I,I,I,I,I,I,I,I,O,O,O,O,O,O,O,O,O,O] HT_.out (h := ?_)
                        refine pn_ (i := 27) (N := some 41) #[I,I,I,I,I,I,I,I,I,I,I,I,I,I,I,I,I,I,I,I,I,I,I,I,I,I,I,I,O,O,O,O,O,O,O,O,O] HT_.out (h := ?_)
                        refine pn_ (i := 28) (N := some 42) #[I,I,I,I,I,I,I,I,I,I,I,I,I,I,I,I,I,I,I,I,I,I,I,I,I,I,I,I,I,O,O,O,O,O,O,O,O] HT_.out (h := ?_)
                        refine pn_ (i := 29) (N := some 43) #[I,I,I,I,I,I,I,I,I,I,I,I,I,I,I,I,I,I,I,I,I,I,I,I,I,I,I,I,I,I,O,O,O,O,O,O,O] HT_.out (h := ?_)
                        refine pn_ (i := 30) (N := some 44) #[I,I,I,I,I,I,I,I,I,I,I,I,I,I,I,I,I,I,I,I,I,I,I,I,I,I,I,I,I,I,I,O,O,O,O,O,O] HT_.out (h := ?_)
                        refine pn_ (i := 31) (N := some 45) #[I,I,I,I,I,I,I,I,I,I,I,I,I,I,I,I,I,I,I,I,I,I,I,I,I,I,I,I,I,I,I,I,O,O,O,O,O] HT_.out (h := ?_)
                        refine pn_ (i := 32) (N := some 46) #[I,I,I,I,I,I,I,I,I,I,I,I,I,I,I,I,I,I,I,I,I,I,I,I,I,I,I,I,I,I,I,I,I,O,O,O,O] HT_.out (h := ?_)
                        refine pn_ (i := 33) (N := some 47) #[I,I,I,I,I,I,I,I,I,I,I,I,I,I,I,I,I,I,I,I,I,I,I,I,I,I,I,I,I,I,I,I,I,I,O,O,O] HT_.out (h := ?_)
                        refine pn_ (i := 34) (N := some 48) #[I,I,I,I,I,I,I,I,I,I,I,I,I,I,I,I,I,I,I,I,I,I,I,I,I,I,I,I,I,I,I,I,I,I,I,O,O] HT_.out (h := ?_)
                        refine pu_ (i := 35) (N := some 49) #[I,I,I,I,I,I,I,I,I,I,I,I,I,I,I,I,I,I,I,I,I,I,I,I,I,I,I,I,I,I,I,I,I,I,I,I,O] HT_.out (h := ?_)
                        refine pu_ (i := 36) (N := some 50) #[I,I,I,I,I,I,I,I,I,I,I,I,I,I,I,I,I,I,I,I,I,I,I,I,I,I,I,I,I,I,I,I,I,I,I,I,I] HT_.out (h := ?_)
                        refine done_ (done_of HT_.out (by kernel_rfl)) ?_
                        try go_wp2
                        go_meet
                        case rel => exact ⟨_, (false), (by first | rfl | (simp; done) | (simp [*]; done)), H', ⟨by have := HK1.out; first | omega | exact Nat.le_refl _⟩, ⟨by (with_reducible repeat (first | refine blk_drewN ?_ _ | refine blk_drew ?_ | refine blk_alloc ?_ _)); exact BK168.out⟩, ⟨by repeat (first | (with_reducible first | exact HB.out | apply below_alloc | apply pw_below_drewN | apply below_drew1 | refine below_set ?_ GE168.out) | exact HB.out)⟩⟩
                    · replace c16 := Bool.eq_false_iff.mpr c16
                      subst c16
                      have H1 : (impl_TokensOk.j1 k1 l0 l0 (l0.length : Int) x9_1 true ((rd_T68 l0 x9_1).f0) ((rd_T68 l0 x9_1).f1) ((rd_T68 l0 x9_1).f2) ((rd_T68 l0 x9_1).f3)) = some r := by rw [if_neg (show ¬ (false = true) by decide)] at H; exact H
                      clear H
                      have H := H1
                      clear H1
                      have H' := Aside0.mk H
                      clear H
                      try go_wp2
                      have n0_ : Aside0 (((((w6.setCell ⟨gb168, 0, none⟩ (.int .i64 ((rd_T68 l0 x9_1).f0))).setCell ⟨gb168, 1, none⟩ (.int .i64 ((rd_T68 l0 x9_1).f1))).setCell ⟨gb168, 2, none⟩ (.slice A167_2 ((rd_T68 l0 x9_1).f2).length c167_2)).setCell ⟨gb168, 3, none⟩ (.slice A167_3 ((rd_T68 l0 x9_1).f3).length c167_3)).heap[gb168]? = some (.cells #[.int .i64 ((rd_T68 l0 x9_1).f0), .int .i64 ((rd_T68 l0 x9_1).f1), .slice A167_2 ((rd_T68 l0 x9_1).f2).length c167_2, .slice A167_3 ((rd_T68 l0 x9_1).f3).length c167_3] 68 (0, 0))) := ⟨by (with_reducible repeat (first | refine blk_drewN ?_ _ | refine blk_drew ?_ | refine blk_alloc ?_ _)); refine blk_put (cs := #[.int .i64 ((rd_T68 l0 x9_1).f0), .int .i64 ((rd_T68 l0 x9_1).f1), .slice A167_2 ((rd_T68 l0 x9_1).f2).length c167_2, .slice none 0 0]) ?_ 3 _ rfl; (with_reducible repeat (first | refine blk_drewN ?_ _ | refine blk_drew ?_ | refine blk_alloc ?_ _)); refine blk_put (cs := #[.int .i64 ((rd_T68 l0 x9_1).f0), .int .i64 ((rd_T68 l0 x9_1).f1), .slice none 0 0, .slice none 0 0]) ?_ 2 _ rfl; (with_reducible repeat (first | refine blk_drewN ?_ _ | refine blk_drew ?_ | refine blk_alloc ?_ _)); refine blk_put (cs := #[.int .i64 ((rd_T68 l0 x9_1).f0), .int .i64 0, .slice none 0 0, .slice none 0 0]) ?_ 1 _ rfl; (with_reducible repeat (first | refine blk_drewN ?_ _ | refine blk_drew ?_ | refine blk_alloc ?_ _)); refine blk_put (cs := #[.int .i64 0, .int .i64 0, .slice none 0 0, .slice none 0 0]) ?_ 0 _ rfl; (with_reducible repeat (first | refine blk_drewN ?_ _ | refine blk_drew ?_ | refine blk_alloc ?_ _)); exact BK168.out⟩
                      have n1_ : Aside0 (Below w.heap.size w ((((w6.setCell ⟨gb168, 0, none⟩ (.int .i64 ((rd_T68 l0 x9_1).f0))).setCell ⟨gb168, 1, none⟩ (.int .i64 ((rd_T68 l0 x9_1).f1))).setCell ⟨gb168, 2, none⟩ (.slice A167_2 ((rd_T68 l0 x9_1).f2).length c167_2)).setCell ⟨gb168, 3, none⟩ (.slice A167_3 ((rd_T68 l0 x9_1).f3).length c167_3))) := ⟨by repeat (first | (with_reducible first | exact HB.out | apply below_alloc | apply pw_below_drewN | apply below_drew1 | refine below_set ?_ GE168.out) | exact HB.out)⟩
                      (try clear BK168)
                      (try clear HB)
                      generalize ((((w6.setCell ⟨gb168, 0, none⟩ (.int .i64 ((rd_T68 l0 x9_1).f0))).setCell ⟨gb168, 1, none⟩ (.int .i64 ((rd_T68 l0 x9_1).f1))).setCell ⟨gb168, 2, none⟩ (.slice A167_2 ((rd_T68 l0 x9_1).f2).length c167_2)).setCell ⟨gb168, 3, none⟩ (.slice A167_3 ((rd_T68 l0 x9_1).f3).length c167_3)) = w27 at n0_ n1_ ⊢
                      have BK168 := n0_
                      have HB := n1_
                      clear n0_ n1_
                      have n0_ := Aside0.mk (blk_drew BK168.out)
                      have n1_ := Aside0.mk (below_drew1 HB.out)
                      clear BK168
                      clear HB
                      have BK168 := n0_
                      have HB := n1_
                      clear n0_ n1_
                      refine start_ (n := 37) (S := fun w' => w'.cell? ⟨gb168, 0, none⟩ = some (.int .i64 ((rd_T68 l0 x9_1).f0)) ∧ w'.cell? ⟨gb168, 1, none⟩ = some (.int .i64 ((rd_T68 l0 x9_1).f1)) ∧ w'.cell? ⟨gb168, 2, none⟩ = some (.slice A167_2 ((rd_T68 l0 x9_1).f2).length c167_2) ∧ w'.cell? ⟨gb168, 3, none⟩ = some (.slice A167_3 ((rd_T68 l0 x9_1).f3).length c167_3)) (ds := []) #[O,O,O,O,O,O,O,O,O,O,O,O,O,O,O,O,O,O,O,O,O,O,O,O,O,O,O,O,O,O,O,O,O,O,O,O,O] (by kernel_rfl) rfl rfl ⟨(blk_cell BK168.out 0).trans rfl, (blk_cell BK168.out 1).trans rfl, (blk_cell BK168.out 2).trans rfl, (blk_cell BK168.out 3).trans rfl⟩ (fun hHeld => ?_); refine with_tabW impl_TokensOk.tab4 impl_TokensOk.bits4 (fun HT_ HW_ => ?_)
                      generalize w27.drew = w28 at BK168 HB hHeld ⊢
                      refine pu_ (i := 0) (N := some 14) #[I,O,O,O,O,O,O,O,O,O,O,O,O,O,O,O,O,O,O,O,O,O,O,O,O,O,O,O,O,O,O,O,O,O,O,O,O] HT_.out (h := ?_)
                      refine tk_ (i := 1) (N := some 15) #[I,I,O,O,O,O,O,O,O,O,O,O,O,O,O,O,O,O,O,O,O,O,O,O,O,O,O,O,O,O,O,O,O,O,O,O,O] HT_.out HW_.out hHeld (hy := by (rintro w' ⟨s0, s1, s2, s3⟩; go_simp; with_reducible rfl)) (h := ?_)
                      refine one_ (i := 2) (N := some 16) #[I,I,I,O,O,O,O,O,O,O,O,O,O,O,O,O,O,O,O,O,O,O,O,O,O,O,O,O,O,O,O,O,O,O,O,O,O] rfl rfl (one_of HT_.out (by kernel_rfl)) (by decide) (fun K hK => ?_)
                      refine goes_ Try.func112 (by kernel_rfl) rfl #[.int .i64 ((rd_T68 l0 x9_1).f0)] (by rfl) rfl rfl (by (try simp only [List.map_toArray, List.map_cons, List.map_nil]); first | done | rfl | (simp only [List.length_drop, List.length_take]; rfl)) ?_
                      with_reducible refine (impl_isId.calls ((rd_T68 l0 x9_1).f0) true _ A8.out).mono ?_
                      rintro e w' ⟨rfl, ⟨nd, rfl⟩⟩
                      refine ⟨_, rfl, ?_⟩
                      refine hK.out _ _ ⟨(blk_cell BK168.out 0).trans rfl, (blk_cell BK168.out 1).trans rfl, (blk_cell BK168.out 2).trans rfl, (blk_cell BK168.out 3).trans rfl⟩ (fun hHeld => ?_)
                      clear hK K
                      refine norm_ (a' := ?_) ?_ ?_
                      rotate_left
                      · show Act.put _ (some 16) _ = _
                        simp only [Act.put, List.setIfInBounds_toArray, List.set_cons_zero, List.set_cons_succ, i64_w, i32_w]
                        rfl
                      refine pu_ (i := 3) (N := some 17) #[I,I,I,I,O,O,O,O,O,O,O,O,O,O,O,O,O,O,O,O,O,O,O,O,O,O,O,O,O,O,O,O,O,O,O,O,O] HT_.out (h := ?_)
                      refine pu_ (i := 4) (N := some 18) #[I,I,I,I,I,O,O,O,O,O,O,O,O,O,O,O,O,O,O,O,O,O,O,O,O,O,O,O,O,O,O,O,O,O,O,O,O] HT_.out (h := ?_)
                      refine pu_ (i := 5) (N := some 19) #[I,I,I,I,I,I,O,O,O,O,O,O,O,O,O,O,O,O,O,O,O,O,O,O,O,O,O,O,O,O,O,O,O,O,O,O,O] HT_.out (h := ?_)
                      refine tk_ (i := 6) (N := some 20) #[I,I,I,I,I,I,I,O,O,O,O,O,O,O,O,O,O,O,O,O,O,O,O,O,O,O,O,O,O,O,O,O,O,O,O,O,O] HT_.out HW_.out hHeld (hy := by (rintro w' ⟨s0, s1, s2, s3⟩; go_simp; with_reducible rfl)) (h := ?_)
                      refine one_ (i := 7) (N := some 21) #[I,I,I,I,I,I,I,I,O,O,O,O,O,O,O,O,O,O,O,O,O,O,O,O,O,O,O,O,O,O,O,O,O,O,O,O,O] rfl rfl (one_of HT_.out (by kernel_rfl)) (by decide) (fun K hK => ?_)
                      refine goes_ Try.func113 (by kernel_rfl) rfl #[.int .i64 ((rd_T68 l0 x9_1).f1), .int .i64 0, .int .i64 1000000] (by rfl) rfl rfl (by (try simp only [List.map_toArray, List.map_cons, List.map_nil]); first | done | rfl | (simp only [List.length_drop, List.length_take]; rfl)) ?_
                      with_reducible refine (impl_within.calls ((rd_T68 l0 x9_1).f1) 0 1000000 true _ A10.out).mono ?_
                      rintro e w' ⟨rfl, ⟨nd, rfl⟩⟩
                      refine ⟨_, rfl, ?_⟩
                      refine hK.out _ _ ⟨(blk_cell BK168.out 0).trans rfl, (blk_cell BK168.out 1).trans rfl, (blk_cell BK168.out 2).trans rfl, (blk_cell BK168.out 3).trans rfl⟩ (fun hHeld => ?_)
                      clear hK K
                      refine norm_ (a' := ?_) ?_ ?_
                      rotate_left
                      · show Act.put _ (some 21) _ = _
                        simp only [Act.put, List.setIfInBounds_toArray, List.set_cons_zero, List.set_cons_succ, i64_w, i32_w]
                        rfl
                      refine pu_ (i := 8) (N := some 22) #[I,I,I,I,I,I,I,I,I,O,O,O,O,O,O,O,O,O,O,O,O,O,O,O,O,O,O,O,O,O,O,O,O,O,O,O,O] HT_.out (h := ?_)
                      refine pu_ (i := 9) (N := some 23) #[I,I,I,I,I,I,I,I,I,I,O,O,O,O,O,O,O,O,O,O,O,O,O,O,O,O,O,O,O,O,O,O,O,O,O,O,O] HT_.out (h := ?_)
                      refine pu_ (i := 10) (N := some 24) #[I,I,I,I,I,I,I,I,I,I,I,O,O,O,O,O,O,O,O,O,O,O,O,O,O,O,O,O,O,O,O,O,O,O,O,O,O] HT_.out (h := ?_)
                      refine pu_ (i := 11) (N := some 25) #[I,I,I,I,I,I,I,I,I,I,I,I,O,O,O,O,O,O,O,O,O,O,O,O,O,O,O,O,O,O,O,O,O,O,O,O,O] HT_.out (h := ?_)
                      refine tk_ (i := 12) (N := some 26) #[I,I,I,I,I,I,I,I,I,I,I,I,I,O,O,O,O,O,O,O,O,O,O,O,O,O,O,O,O,O,O,O,O,O,O,O,O] HT_.out HW_.out hHeld (hy := by (rintro w' ⟨s0, s1, s2, s3⟩; go_simp; with_reducible rfl)) (h := ?_)
                      refine pu_ (i := 13) (N := some 27) #[I,I,I,I,I,I,I,I,I,I,I,I,I,I,O,O,O,O,O,O,O,O,O,O,O,O,O,O,O,O,O,O,O,O,O,O,O] HT_.out (h := ?_)
                      refine pu_ (i := 14) (N := some 28) #[I,I,I,I,I,I,I,I,I,I,I,I,I,I,I,O,O,O,O,O,O,O,O,O,O,O,O,O,O,O,O,O,O,O,O,O,O] HT_.out (h := ?_)
                      refine pu_ (i := 15) (N := some 29) #[I,I,I,I,I,I,I,I,I,I,I,I,I,I,I,I,O,O,O,O,O,O,O,O,O,O,O,O,O,O,O,O,O,O,O,O,O] HT_.out (h := ?_)
                      refine pu_ (i := 16) (N := some 30) #[I,I,I,I,I,I,I,I,I,I,I,I,I,I,I,I,I,O,O,O,O,O,O,O,O,O,O,O,O,O,O,O,O,O,O,O,O] HT_.out (h := ?_)
                      refine pu_ (i := 17) (N := some 31) #[I,I,I,I,I,I,I,I,I,I,I,I,I,I,I,I,I,I,O,O,O,O,O,O,O,O,O,O,O,O,O,O,O,O,O,O,O] HT_.out (h := ?_)
                      refine tk_ (i := 18) (N := some 32) #[I,I,I,I,I,I,I,I,I,I,I,I,I,I,I,I,I,I,I,O,O,O,O,O,O,O,O,O,O,O,O,O,O,O,O,O,O] HT_.out HW_.out hHeld (hy := by (rintro w' ⟨s0, s1, s2, s3⟩; go_simp; with_reducible rfl)) (h := ?_)
                      refine one_ (i := 19) (N := some 33) #[I,I,I,I,I,I,I,I,I,I,I,I,I,I,I,I,I,I,I,I,O,O,O,O,O,O,O,O,O,O,O,O,O,O,O,O,O] rfl rfl (one_of HT_.out (by kernel_rfl)) (by decide) (fun K hK => ?_)
                      refine goes_ Try.func21 (by kernel_rfl) rfl #[.slice A167_3 ((rd_T68 l0 x9_1).f3).length c167_3] (by rfl) rfl rfl (by (try simp only [List.map_toArray, List.map_cons, List.map_nil]); first | done | rfl | (simp only [List.length_drop, List.length_take]; rfl)) ?_
                      with_reducible refine (impl_NotesOk.calls k1 _ _ ((rd_T68 l0 x9_1).f3) false _ ?side1 ?side2 A15.out).mono ?_
                      (case side1 => repeat (first | exact (Kd.C_below HR167_3.out (by repeat (first | (with_reducible first | exact HB.out | apply below_alloc | apply pw_below_drewN | apply below_drew1 | refine below_set ?_ GE168.out) | exact HB.out))) | (with_reducible refine Kd.C_alloc ?_ _) | (with_reducible refine Kd.C_drewN ?_ _) | (with_reducible refine Kd.C_drew ?_)))
                      (case side2 => exact HC167_3.out)
                      rintro e w29 ⟨rfl, hb⟩
                      refine ⟨_, rfl, ?_⟩
                      have n0_ := Aside0.mk (blk_below (g := gb168) (o := .cells #[.int .i64 ((rd_T68 l0 x9_1).f0), .int .i64 ((rd_T68 l0 x9_1).f1), .slice A167_2 ((rd_T68 l0 x9_1).f2).length c167_2, .slice A167_3 ((rd_T68 l0 x9_1).f3).length c167_3] 68 (0, 0)) (by (with_reducible repeat (first | refine blk_drewN ?_ _ | refine blk_drew ?_ | refine blk_alloc ?_ _)); exact BK168.out) hb)
                      have n1_ := Aside0.mk (below_step (by repeat (first | (with_reducible first | exact HB.out | apply below_alloc | apply pw_below_drewN | apply below_drew1 | refine below_set ?_ GE168.out) | exact HB.out)) hb)
                      clear BK168
                      clear HB
                      have BK168 := n0_
                      have HB := n1_
                      clear n0_ n1_
                      (try clear hb)
                      (try clear hb2)
                      (try clear hk)
                      (try clear hi)
                      refine hK.out _ _ ⟨(blk_cell BK168.out 0).trans rfl, (blk_cell BK168.out 1).trans rfl, (blk_cell BK168.out 2).trans rfl, (blk_cell BK168.out 3).trans rfl⟩ (fun hHeld => ?_)
                      clear hK K
                      refine norm_ (a' := ?_) ?_ ?_
                      rotate_left
                      · show Act.put _ (some 33) _ = _
                        simp only [Act.put, List.setIfInBounds_toArray, List.set_cons_zero, List.set_cons_succ, i64_w, i32_w]
                        rfl
                      refine pu_ (i := 20) (N := some 34) #[I,I,I,I,I,I,I,I,I,I,I,I,I,I,I,I,I,I,I,I,I,O,O,O,O,O,O,O,O,O,O,O,O,O,O,O,O] HT_.out (h := ?_)
                      refine pu_ (i := 21) (N := some 35) #[I,I,I,I,I,I,I,I,I,I,I,I,I,I,I,I,I,I,I,I,I,I,O,O,O,O,O,O,O,O,O,O,O,O,O,O,O] HT_.out (h := ?_)
                      refine pu_ (i := 22) (N := some 36) #[I,I,I,I,I,I,I,I,I,I,I,I,I,I,I,I,I,I,I,I,I,I,I,O,O,O,O,O,O,O,O,O,O,O,O,O,O] HT_.out (h := ?_)
                      refine pn_ (i := 23) (N := some 37) #[I,I,I,I,I,I,I,I,I,I,I,I,I,I,I,I,I,I,I,I,I,I,I,I,O,O,O,O,O,O,O,O,O,O,O,O,O] HT_.out (h := ?_)
                      refine pn_ (i := 24) (N := some 38) #[I,I,I,I,I,I,I,I,I,I,I,I,I,I,I,I,I,I,I,I,I,I,I,I,I,O,O,O,O,O,O,O,O,O,O,O,O] HT_.out (h := ?_)
                      refine pn_ (i := 25) (N := some 39) #[I,I,I,I,I,I,I,I,I,I,I,I,I,I,I,I,I,I,I,I,I,I,I,I,I,I,O,O,O,O,O,O,O,O,O,O,O] HT_.out (h := ?_)
                      refine pn_ (i := 26) (N := some 40) #[I,I,I,I,I,I,I,I,I,I,I,I,I,I,I,I,I,I,I,I,I,I,I,I,I,I,I,O,O,O,O,O,O,O,O,O,O] HT_.out (h := ?_)
                      refine pn_ (i := 27) (N := some 41) #[I,I,I,I,I,I,I,I,I,I,I,I,I,I,I,I,I,I,I,I,I,I,I,I,I,I,I,I,O,O,O,O,O,O,O,O,O] HT_.out (h := ?_)
                      refine pn_ (i := 28) (N := some 42) #[I,I,I,I,I,I,I,I,I,I,I,I,I,I,I,I,I,I,I,I,I,I,I,I,I,I,I,I,I,O,O,O,O,O,O,O,O] HT_.out (h := ?_)
                      refine pn_ (i := 29) (N := some 43) #[I,I,I,I,I,I,I,I,I,I,I,I,I,I,I,I,I,I,I,I,I,I,I,I,I,I,I,I,I,I,O,O,O,O,O,O,O] HT_.out (h := ?_)
                      refine pn_ (i := 30) (N := some 44) #[I,I,I,I,I,I,I,I,I,I,I,I,I,I,I,I,I,I,I,I,I,I,I,I,I,I,I,I,I,I,I,O,O,O,O,O,O] HT_.out (h := ?_)
                      refine pn_ (i := 31) (N := some 45) #[I,I,I,I,I,I,I,I,I,I,I,I,I,I,I,I,I,I,I,I,I,I,I,I,I,I,I,I,I,I,I,I,O,O,O,O,O] HT_.out (h := ?_)
                      refine pn_ (i := 32) (N := some 46) #[I,I,I,I,I,I,I,I,I,I,I,I,I,I,I,I,I,I,I,I,I,I,I,I,I,I,I,I,I,I,I,I,I,O,O,O,O] HT_.out (h := ?_)
                      refine pn_ (i := 33) (N := some 47) #[I,I,I,I,I,I,I,I,I,I,I,I,I,I,I,I,I,I,I,I,I,I,I,I,I,I,I,I,I,I,I,I,I,I,O,O,O] HT_.out (h := ?_)
                      refine pn_ (i := 34) (N := some 48) #[I,I,I,I,I,I,I,I,I,I,I,I,I,I,I,I,I,I,I,I,I,I,I,I,I,I,I,I,I,I,I,I,I,I,I,O,O] HT_.out (h := ?_)
                      refine pn_ (i := 35) (N := some 49) #[I,I,I,I,I,I,I,I,I,I,I,I,I,I,I,I,I,I,I,I,I,I,I,I,I,I,I,I,I,I,I,I,I,I,I,I,O] HT_.out (h := ?_)
                      refine pu_ (i := 36) (N := some 50) #[I,I,I,I,I,I,I,I,I,I,I,I,I,I,I,I,I,I,I,I,I,I,I,I,I,I,I,I,I,I,I,I,I,I,I,I,I] HT_.out (h := ?_)
                      refine done_ (done_of HT_.out (by kernel_rfl)) ?_
                      try go_wp2
                      go_meet
                      case rel => exact ⟨_, (true), (by first | rfl | (simp; done) | (simp [*]; done)), H', ⟨by have := HK1.out; first | omega | exact Nat.le_refl _⟩, ⟨by (with_reducible repeat (first | refine blk_drewN ?_ _ | refine blk_drew ?_ | refine blk_alloc ?_ _)); exact BK168.out⟩, ⟨by repeat (first | (with_reducible first | exact HB.out | apply below_alloc | apply pw_below_drewN | apply below_drew1 | refine below_set ?_ GE168.out) | exact HB.out)⟩⟩
                · replace c11 := Bool.eq_false_iff.mpr c11
                  subst c11
                  have H1 : (impl_TokensOk.j1 k1 l0 l0 (l0.length : Int) x9_1 true ((rd_T68 l0 x9_1).f0) ((rd_T68 l0 x9_1).f1) ((rd_T68 l0 x9_1).f2) ((rd_T68 l0 x9_1).f3)) = some r := by rw [if_neg (show ¬ (false = true) by decide)] at H; exact H
                  clear H
                  have H := H1
                  clear H1
                  have H' := Aside0.mk H
                  clear H
                  try go_wp2
                  have n0_ : Aside0 (((((w6.setCell ⟨gb168, 0, none⟩ (.int .i64 ((rd_T68 l0 x9_1).f0))).setCell ⟨gb168, 1, none⟩ (.int .i64 ((rd_T68 l0 x9_1).f1))).setCell ⟨gb168, 2, none⟩ (.slice A167_2 ((rd_T68 l0 x9_1).f2).length c167_2)).setCell ⟨gb168, 3, none⟩ (.slice A167_3 ((rd_T68 l0 x9_1).f3).length c167_3)).heap[gb168]? = some (.cells #[.int .i64 ((rd_T68 l0 x9_1).f0), .int .i64 ((rd_T68 l0 x9_1).f1), .slice A167_2 ((rd_T68 l0 x9_1).f2).length c167_2, .slice A167_3 ((rd_T68 l0 x9_1).f3).length c167_3] 68 (0, 0))) := ⟨by (with_reducible repeat (first | refine blk_drewN ?_ _ | refine blk_drew ?_ | refine blk_alloc ?_ _)); refine blk_put (cs := #[.int .i64 ((rd_T68 l0 x9_1).f0), .int .i64 ((rd_T68 l0 x9_1).f1), .slice A167_2 ((rd_T68 l0 x9_1).f2).length c167_2, .slice none 0 0]) ?_ 3 _ rfl; (with_reducible repeat (first | refine blk_drewN ?_ _ | refine blk_drew ?_ | refine blk_alloc ?_ _)); refine blk_put (cs := #[.int .i64 ((rd_T68 l0 x9_1).f0), .int .i64 ((rd_T68 l0 x9_1).f1), .slice none 0 0, .slice none 0 0]) ?_ 2 _ rfl; (with_reducible repeat (first | refine blk_drewN ?_ _ | refine blk_drew ?_ | refine blk_alloc ?_ _)); refine blk_put (cs := #[.int .i64 ((rd_T68 l0 x9_1).f0), .int .i64 0, .slice none 0 0, .slice none 0 0]) ?_ 1 _ rfl; (with_reducible repeat (first | refine blk_drewN ?_ _ | refine blk_drew ?_ | refine blk_alloc ?_ _)); refine blk_put (cs := #[.int .i64 0, .int .i64 0, .slice none 0 0, .slice none 0 0]) ?_ 0 _ rfl; (with_reducible repeat (first | refine blk_drewN ?_ _ | refine blk_drew ?_ | refine blk_alloc ?_ _)); exact BK168.out⟩
                  have n1_ : Aside0 (Below w.heap.size w ((((w6.setCell ⟨gb168, 0, none⟩ (.int .i64 ((rd_T68 l0 x9_1).f0))).setCell ⟨gb168, 1, none⟩ (.int .i64 ((rd_T68 l0 x9_1).f1))).setCell ⟨gb168, 2, none⟩ (.slice A167_2 ((rd_T68 l0 x9_1).f2).length c167_2)).setCell ⟨gb168, 3, none⟩ (.slice A167_3 ((rd_T68 l0 x9_1).f3).length c167_3))) := ⟨by repeat (first | (with_reducible first | exact HB.out | apply below_alloc | apply pw_below_drewN | apply below_drew1 | refine below_set ?_ GE168.out) | exact HB.out)⟩
                  (try clear BK168)
                  (try clear HB)
                  generalize ((((w6.setCell ⟨gb168, 0, none⟩ (.int .i64 ((rd_T68 l0 x9_1).f0))).setCell ⟨gb168, 1, none⟩ (.int .i64 ((rd_T68 l0 x9_1).f1))).setCell ⟨gb168, 2, none⟩ (.slice A167_2 ((rd_T68 l0 x9_1).f2).length c167_2)).setCell ⟨gb168, 3, none⟩ (.slice A167_3 ((rd_T68 l0 x9_1).f3).length c167_3)) = w30 at n0_ n1_ ⊢
                  have BK168 := n0_
                  have HB := n1_
                  clear n0_ n1_
                  have n0_ := Aside0.mk (blk_drew BK168.out)
                  have n1_ := Aside0.mk (below_drew1 HB.out)
                  clear BK168
                  clear HB
                  have BK168 := n0_
                  have HB := n1_
                  clear n0_ n1_
                  refine start_ (n := 37) (S := fun w' => w'.cell? ⟨gb168, 0, none⟩ = some (.int .i64 ((rd_T68 l0 x9_1).f0)) ∧ w'.cell? ⟨gb168, 1, none⟩ = some (.int .i64 ((rd_T68 l0 x9_1).f1)) ∧ w'.cell? ⟨gb168, 2, none⟩ = some (.slice A167_2 ((rd_T68 l0 x9_1).f2).length c167_2) ∧ w'.cell? ⟨gb168, 3, none⟩ = some (.slice A167_3 ((rd_T68 l0 x9_1).f3).length c167_3)) (ds := []) #[O,O,O,O,O,O,O,O,O,O,O,O,O,O,O,O,O,O,O,O,O,O,O,O,O,O,O,O,O,O,O,O,O,O,O,O,O] (by kernel_rfl) rfl rfl ⟨(blk_cell BK168.out 0).trans rfl, (blk_cell BK168.out 1).trans rfl, (blk_cell BK168.out 2).trans rfl, (blk_cell BK168.out 3).trans rfl⟩ (fun hHeld => ?_); refine with_tabW impl_TokensOk.tab4 impl_TokensOk.bits4 (fun HT_ HW_ => ?_)
                  generalize w30.drew = w31 at BK168 HB hHeld ⊢
                  refine pu_ (i := 0) (N := some 14) #[I,O,O,O,O,O,O,O,O,O,O,O,O,O,O,O,O,O,O,O,O,O,O,O,O,O,O,O,O,O,O,O,O,O,O,O,O] HT_.out (h := ?_)
                  refine tk_ (i := 1) (N := some 15) #[I,I,O,O,O,O,O,O,O,O,O,O,O,O,O,O,O,O,O,O,O,O,O,O,O,O,O,O,O,O,O,O,O,O,O,O,O] HT_.out HW_.out hHeld (hy := by (rintro w' ⟨s0, s1, s2, s3⟩; go_simp; with_reducible rfl)) (h := ?_)
                  refine one_ (i := 2) (N := some 16) #[I,I,I,O,O,O,O,O,O,O,O,O,O,O,O,O,O,O,O,O,O,O,O,O,O,O,O,O,O,O,O,O,O,O,O,O,O] rfl rfl (one_of HT_.out (by kernel_rfl)) (by decide) (fun K hK => ?_)
                  refine goes_ Try.func112 (by kernel_rfl) rfl #[.int .i64 ((rd_T68 l0 x9_1).f0)] (by rfl) rfl rfl (by (try simp only [List.map_toArray, List.map_cons, List.map_nil]); first | done | rfl | (simp only [List.length_drop, List.length_take]; rfl)) ?_
                  with_reducible refine (impl_isId.calls ((rd_T68 l0 x9_1).f0) true _ A8.out).mono ?_
                  rintro e w' ⟨rfl, ⟨nd, rfl⟩⟩
                  refine ⟨_, rfl, ?_⟩
                  refine hK.out _ _ ⟨(blk_cell BK168.out 0).trans rfl, (blk_cell BK168.out 1).trans rfl, (blk_cell BK168.out 2).trans rfl, (blk_cell BK168.out 3).trans rfl⟩ (fun hHeld => ?_)
                  clear hK K
                  refine norm_ (a' := ?_) ?_ ?_
                  rotate_left
                  · show Act.put _ (some 16) _ = _
                    simp only [Act.put, List.setIfInBounds_toArray, List.set_cons_zero, List.set_cons_succ, i64_w, i32_w]
                    rfl
                  refine pu_ (i := 3) (N := some 17) #[I,I,I,I,O,O,O,O,O,O,O,O,O,O,O,O,O,O,O,O,O,O,O,O,O,O,O,O,O,O,O,O,O,O,O,O,O] HT_.out (h := ?_)
                  refine pu_ (i := 4) (N := some 18) #[I,I,I,I,I,O,O,O,O,O,O,O,O,O,O,O,O,O,O,O,O,O,O,O,O,O,O,O,O,O,O,O,O,O,O,O,O] HT_.out (h := ?_)
                  refine pu_ (i := 5) (N := some 19) #[I,I,I,I,I,I,O,O,O,O,O,O,O,O,O,O,O,O,O,O,O,O,O,O,O,O,O,O,O,O,O,O,O,O,O,O,O] HT_.out (h := ?_)
                  refine tk_ (i := 6) (N := some 20) #[I,I,I,I,I,I,I,O,O,O,O,O,O,O,O,O,O,O,O,O,O,O,O,O,O,O,O,O,O,O,O,O,O,O,O,O,O] HT_.out HW_.out hHeld (hy := by (rintro w' ⟨s0, s1, s2, s3⟩; go_simp; with_reducible rfl)) (h := ?_)
                  refine one_ (i := 7) (N := some 21) #[I,I,I,I,I,I,I,I,O,O,O,O,O,O,O,O,O,O,O,O,O,O,O,O,O,O,O,O,O,O,O,O,O,O,O,O,O] rfl rfl (one_of HT_.out (by kernel_rfl)) (by decide) (fun K hK => ?_)
                  refine goes_ Try.func113 (by kernel_rfl) rfl #[.int .i64 ((rd_T68 l0 x9_1).f1), .int .i64 0, .int .i64 1000000] (by rfl) rfl rfl (by (try simp only [List.map_toArray, List.map_cons, List.map_nil]); first | done | rfl | (simp only [List.length_drop, List.length_take]; rfl)) ?_
                  with_reducible refine (impl_within.calls ((rd_T68 l0 x9_1).f1) 0 1000000 false _ A10.out).mono ?_
                  rintro e w' ⟨rfl, ⟨nd, rfl⟩⟩
                  refine ⟨_, rfl, ?_⟩
                  refine hK.out _ _ ⟨(blk_cell BK168.out 0).trans rfl, (blk_cell BK168.out 1).trans rfl, (blk_cell BK168.out 2).trans rfl, (blk_cell BK168.out 3).trans rfl⟩ (fun hHeld => ?_)
                  clear hK K
                  refine norm_ (a' := ?_) ?_ ?_
                  rotate_left
                  · show Act.put _ (some 21) _ = _
                    simp only [Act.put, List.setIfInBounds_toArray, List.set_cons_zero, List.set_cons_succ, i64_w, i32_w]
                    rfl
                  refine pu_ (i := 8) (N := some 22) #[I,I,I,I,I,I,I,I,I,O,O,O,O,O,O,O,O,O,O,O,O,O,O,O,O,O,O,O,O,O,O,O,O,O,O,O,O] HT_.out (h := ?_)
                  refine pu_ (i := 9) (N := some 23) #[I,I,I,I,I,I,I,I,I,I,O,O,O,O,O,O,O,O,O,O,O,O,O,O,O,O,O,O,O,O,O,O,O,O,O,O,O] HT_.out (h := ?_)
                  refine pu_ (i := 10) (N := some 24) #[I,I,I,I,I,I,I,I,I,I,I,O,O,O,O,O,O,O,O,O,O,O,O,O,O,O,O,O,O,O,O,O,O,O,O,O,O] HT_.out (h := ?_)
                  refine pn_ (i := 11) (N := some 25) #[I,I,I,I,I,I,I,I,I,I,I,I,O,O,O,O,O,O,O,O,O,O,O,O,O,O,O,O,O,O,O,O,O,O,O,O,O] HT_.out (h := ?_)
                  refine pn_ (i := 12) (N := some 26) #[I,I,I,I,I,I,I,I,I,I,I,I,I,O,O,O,O,O,O,O,O,O,O,O,O,O,O,O,O,O,O,O,O,O,O,O,O] HT_.out (h := ?_)
                  refine pn_ (i := 13) (N := some 27) #[I,I,I,I,I,I,I,I,I,I,I,I,I,I,O,O,O,O,O,O,O,O,O,O,O,O,O,O,O,O,O,O,O,O,O,O,O] HT_.out (h := ?_)
                  refine pn_ (i := 14) (N := some 28) #[I,I,I,I,I,I,I,I,I,I,I,I,I,I,I,O,O,O,O,O,O,O,O,O,O,O,O,O,O,O,O,O,O,O,O,O,O] HT_.out (h := ?_)
                  refine pu_ (i := 15) (N := some 29) #[I,I,I,I,I,I,I,I,I,I,I,I,I,I,I,I,O,O,O,O,O,O,O,O,O,O,O,O,O,O,O,O,O,O,O,O,O] HT_.out (h := ?_)
                  refine pu_ (i := 16) (N := some 30) #[I,I,I,I,I,I,I,I,I,I,I,I,I,I,I,I,I,O,O,O,O,O,O,O,O,O,O,O,O,O,O,O,O,O,O,O,O] HT_.out (h := ?_)
                  refine pn_ (i := 17) (N := some 31) #[I,I,I,I,I,I,I,I,I,I,I,I,I,I,I,I,I,I,O,O,O,O,O,O,O,O,O,O,O,O,O,O,O,O,O,O,O] HT_.out (h := ?_)
                  refine pn_ (i := 18) (N := some 32) #[I,I,I,I,I,I,I,I,I,I,I,I,I,I,I,I,I,I,I,O,O,O,O,O,O,O,O,O,O,O,O,O,O,O,O,O,O] HT_.out (h := ?_)
                  refine pn_ (i := 19) (N := some 33) #[I,I,I,I,I,I,I,I,I,I,I,I,I,I,I,I,I,I,I,I,O,O,O,O,O,O,O,O,O,O,O,O,O,O,O,O,O] HT_.out (h := ?_)
                  refine pn_ (i := 20) (N := some 34) #[I,I,I,I,I,I,I,I,I,I,I,I,I,I,I,I,I,I,I,I,I,O,O,O,O,O,O,O,O,O,O,O,O,O,O,O,O] HT_.out (h := ?_)
                  refine pu_ (i := 21) (N := some 35) #[I,I,I,I,I,I,I,I,I,I,I,I,I,I,I,I,I,I,I,I,I,I,O,O,O,O,O,O,O,O,O,O,O,O,O,O,O] HT_.out (h := ?_)
                  refine pu_ (i := 22) (N := some 36) #[I,I,I,I,I,I,I,I,I,I,I,I,I,I,I,I,I,I,I,I,I,I,I,O,O,O,O,O,O,O,O,O,O,O,O,O,O] HT_.out (h := ?_)
                  refine pn_ (i := 23) (N := some 37) #[I,I,I,I,I,I,I,I,I,I,I,I,I,I,I,I,I,I,I,I,I,I,I,I,O,O,O,O,O,O,O,O,O,O,O,O,O] HT_.out (h := ?_)
                  refine pn_ (i := 24) (N := some 38) #[I,I,I,I,I,I,I,I,I,I,I,I,I,I,I,I,I,I,I,I,I,I,I,I,I,O,O,O,O,O,O,O,O,O,O,O,O] HT_.out (h := ?_)
                  refine pn_ (i := 25) (N := some 39) #[I,I,I,I,I,I,I,I,I,I,I,I,I,I,I,I,I,I,I,I,I,I,I,I,I,I,O,O,O,O,O,O,O,O,O,O,O] HT_.out (h := ?_)
                  refine pn_ (i := 26) (N := some 40) #[I,I,I,I,I,I,I,I,I,I,I,I,I,I,I,I,I,I,I,I,I,I,I,I,I,I,I,O,O,O,O,O,O,O,O,O,O] HT_.out (h := ?_)
                  refine pn_ (i := 27) (N := some 41) #[I,I,I,I,I,I,I,I,I,I,I,I,I,I,I,I,I,I,I,I,I,I,I,I,I,I,I,I,O,O,O,O,O,O,O,O,O] HT_.out (h := ?_)
                  refine pn_ (i := 28) (N := some 42) #[I,I,I,I,I,I,I,I,I,I,I,I,I,I,I,I,I,I,I,I,I,I,I,I,I,I,I,I,I,O,O,O,O,O,O,O,O] HT_.out (h := ?_)
                  refine pn_ (i := 29) (N := some 43) #[I,I,I,I,I,I,I,I,I,I,I,I,I,I,I,I,I,I,I,I,I,I,I,I,I,I,I,I,I,I,O,O,O,O,O,O,O] HT_.out (h := ?_)
                  refine pn_ (i := 30) (N := some 44) #[I,I,I,I,I,I,I,I,I,I,I,I,I,I,I,I,I,I,I,I,I,I,I,I,I,I,I,I,I,I,I,O,O,O,O,O,O] HT_.out (h := ?_)
                  refine pn_ (i := 31) (N := some 45) #[I,I,I,I,I,I,I,I,I,I,I,I,I,I,I,I,I,I,I,I,I,I,I,I,I,I,I,I,I,I,I,I,O,O,O,O,O] HT_.out (h := ?_)
                  refine pn_ (i := 32) (N := some 46) #[I,I,I,I,I,I,I,I,I,I,I,I,I,I,I,I,I,I,I,I,I,I,I,I,I,I,I,I,I,I,I,I,I,O,O,O,O] HT_.out (h := ?_)
                  refine pn_ (i := 33) (N := some 47) #[I,I,I,I,I,I,I,I,I,I,I,I,I,I,I,I,I,I,I,I,I,I,I,I,I,I,I,I,I,I,I,I,I,I,O,O,O] HT_.out (h := ?_)
                  refine pn_ (i := 34) (N := some 48) #[I,I,I,I,I,I,I,I,I,I,I,I,I,I,I,I,I,I,I,I,I,I,I,I,I,I,I,I,I,I,I,I,I,I,I,O,O] HT_.out (h := ?_)
                  refine pn_ (i := 35) (N := some 49) #[I,I,I,I,I,I,I,I,I,I,I,I,I,I,I,I,I,I,I,I,I,I,I,I,I,I,I,I,I,I,I,I,I,I,I,I,O] HT_.out (h := ?_)
                  refine pu_ (i := 36) (N := some 50) #[I,I,I,I,I,I,I,I,I,I,I,I,I,I,I,I,I,I,I,I,I,I,I,I,I,I,I,I,I,I,I,I,I,I,I,I,I] HT_.out (h := ?_)
                  refine done_ (done_of HT_.out (by kernel_rfl)) ?_
                  try go_wp2
                  go_meet
                  case rel => exact ⟨_, (true), (by first | rfl | (simp; done) | (simp [*]; done)), H', ⟨by have := HK1.out; first | omega | exact Nat.le_refl _⟩, ⟨by (with_reducible repeat (first | refine blk_drewN ?_ _ | refine blk_drew ?_ | refine blk_alloc ?_ _)); exact BK168.out⟩, ⟨by repeat (first | (with_reducible first | exact HB.out | apply below_alloc | apply pw_below_drewN | apply below_drew1 | refine below_set ?_ GE168.out) | exact HB.out)⟩⟩
              · replace c9 := Bool.eq_false_iff.mpr c9
                subst c9
                have H1 : (impl_TokensOk.j1 k1 l0 l0 (l0.length : Int) x9_1 true ((rd_T68 l0 x9_1).f0) ((rd_T68 l0 x9_1).f1) ((rd_T68 l0 x9_1).f2) ((rd_T68 l0 x9_1).f3)) = some r := by rw [if_neg (show ¬ (false = true) by decide)] at H; exact H
                clear H
                have H := H1
                clear H1
                have H' := Aside0.mk H
                clear H
                try go_wp2
                have n0_ : Aside0 (((((w6.setCell ⟨gb168, 0, none⟩ (.int .i64 ((rd_T68 l0 x9_1).f0))).setCell ⟨gb168, 1, none⟩ (.int .i64 ((rd_T68 l0 x9_1).f1))).setCell ⟨gb168, 2, none⟩ (.slice A167_2 ((rd_T68 l0 x9_1).f2).length c167_2)).setCell ⟨gb168, 3, none⟩ (.slice A167_3 ((rd_T68 l0 x9_1).f3).length c167_3)).heap[gb168]? = some (.cells #[.int .i64 ((rd_T68 l0 x9_1).f0), .int .i64 ((rd_T68 l0 x9_1).f1), .slice A167_2 ((rd_T68 l0 x9_1).f2).length c167_2, .slice A167_3 ((rd_T68 l0 x9_1).f3).length c167_3] 68 (0, 0))) := ⟨by (with_reducible repeat (first | refine blk_drewN ?_ _ | refine blk_drew ?_ | refine blk_alloc ?_ _)); refine blk_put (cs := #[.int .i64 ((rd_T68 l0 x9_1).f0), .int .i64 ((rd_T68 l0 x9_1).f1), .slice A167_2 ((rd_T68 l0 x9_1).f2).length c167_2, .slice none 0 0]) ?_ 3 _ rfl; (with_reducible repeat (first | refine blk_drewN ?_ _ | refine blk_drew ?_ | refine blk_alloc ?_ _)); refine blk_put (cs := #[.int .i64 ((rd_T68 l0 x9_1).f0), .int .i64 ((rd_T68 l0 x9_1).f1), .slice none 0 0, .slice none 0 0]) ?_ 2 _ rfl; (with_reducible repeat (first | refine blk_drewN ?_ _ | refine blk_drew ?_ | refine blk_alloc ?_ _)); refine blk_put (cs := #[.int .i64 ((rd_T68 l0 x9_1).f0), .int .i64 0, .slice none 0 0, .slice none 0 0]) ?_ 1 _ rfl; (with_reducible repeat (first | refine blk_drewN ?_ _ | refine blk_drew ?_ | refine blk_alloc ?_ _)); refine blk_put (cs := #[.int .i64 0, .int .i64 0, .slice none 0 0, .slice none 0 0]) ?_ 0 _ rfl; (with_reducible repeat (first | refine blk_drewN ?_ _ | refine blk_drew ?_ | refine blk_alloc ?_ _)); exact BK168.out⟩
                have n1_ : Aside0 (Below w.heap.size w ((((w6.setCell ⟨gb168, 0, none⟩ (.int .i64 ((rd_T68 l0 x9_1).f0))).setCell ⟨gb168, 1, none⟩ (.int .i64 ((rd_T68 l0 x9_1).f1))).setCell ⟨gb168, 2, none⟩ (.slice A167_2 ((rd_T68 l0 x9_1).f2).length c167_2)).setCell ⟨gb168, 3, none⟩ (.slice A167_3 ((rd_T68 l0 x9_1).f3).length c167_3))) := ⟨by repeat (first | (with_reducible first | exact HB.out | apply below_alloc | apply pw_below_drewN | apply below_drew1 | refine below_set ?_ GE168.out) | exact HB.out)⟩
                (try clear BK168)
                (try clear HB)
                generalize ((((w6.setCell ⟨gb168, 0, none⟩ (.int .i64 ((rd_T68 l0 x9_1).f0))).setCell ⟨gb168, 1, none⟩ (.int .i64 ((rd_T68 l0 x9_1).f1))).setCell ⟨gb168, 2, none⟩ (.slice A167_2 ((rd_T68 l0 x9_1).f2).length c167_2)).setCell ⟨gb168, 3, none⟩ (.slice A167_3 ((rd_T68 l0 x9_1).f3).length c167_3)) = w32 at n0_ n1_ ⊢
                have BK168 := n0_
                have HB := n1_
                clear n0_ n1_
                have n0_ := Aside0.mk (blk_drew BK168.out)
                have n1_ := Aside0.mk (below_drew1 HB.out)
                clear BK168
                clear HB
                have BK168 := n0_
                have HB := n1_
                clear n0_ n1_
                refine start_ (n := 37) (S := fun w' => w'.cell? ⟨gb168, 0, none⟩ = some (.int .i64 ((rd_T68 l0 x9_1).f0)) ∧ w'.cell? ⟨gb168, 1, none⟩ = some (.int .i64 ((rd_T68 l0 x9_1).f1)) ∧ w'.cell? ⟨gb168, 2, none⟩ = some (.slice A167_2 ((rd_T68 l0 x9_1).f2).length c167_2) ∧ w'.cell? ⟨gb168, 3, none⟩ = some (.slice A167_3 ((rd_T68 l0 x9_1).f3).length c167_3)) (ds := []) #[O,O,O,O,O,O,O,O,O,O,O,O,O,O,O,O,O,O,O,O,O,O,O,O,O,O,O,O,O,O,O,O,O,O,O,O,O] (by kernel_rfl) rfl rfl ⟨(blk_cell BK168.out 0).trans rfl, (blk_cell BK168.out 1).trans rfl, (blk_cell BK168.out 2).trans rfl, (blk_cell BK168.out 3).trans rfl⟩ (fun hHeld => ?_); refine with_tabW impl_TokensOk.tab4 impl_TokensOk.bits4 (fun HT_ HW_ => ?_)
                generalize w32.drew = w33 at BK168 HB hHeld ⊢
                refine pu_ (i := 0) (N := some 14) #[I,O,O,O,O,O,O,O,O,O,O,O,O,O,O,O,O,O,O,O,O,O,O,O,O,O,O,O,O,O,O,O,O,O,O,O,O] HT_.out (h := ?_)
                refine tk_ (i := 1) (N := some 15) #[I,I,O,O,O,O,O,O,O,O,O,O,O,O,O,O,O,O,O,O,O,O,O,O,O,O,O,O,O,O,O,O,O,O,O,O,O] HT_.out HW_.out hHeld (hy := by (rintro w' ⟨s0, s1, s2, s3⟩; go_simp; with_reducible rfl)) (h := ?_)
                refine one_ (i := 2) (N := some 16) #[I,I,I,O,O,O,O,O,O,O,O,O,O,O,O,O,O,O,O,O,O,O,O,O,O,O,O,O,O,O,O,O,O,O,O,O,O] rfl rfl (one_of HT_.out (by kernel_rfl)) (by decide) (fun K hK => ?_)
                refine goes_ Try.func112 (by kernel_rfl) rfl #[.int .i64 ((rd_T68 l0 x9_1).f0)] (by rfl) rfl rfl (by (try simp only [List.map_toArray, List.map_cons, List.map_nil]); first | done | rfl | (simp only [List.length_drop, List.length_take]; rfl)) ?_
                with_reducible refine (impl_isId.calls ((rd_T68 l0 x9_1).f0) false _ A8.out).mono ?_
                rintro e w' ⟨rfl, ⟨nd, rfl⟩⟩
                refine ⟨_, rfl, ?_⟩
                refine hK.out _ _ ⟨(blk_cell BK168.out 0).trans rfl, (blk_cell BK168.out 1).trans rfl, (blk_cell BK168.out 2).trans rfl, (blk_cell BK168.out 3).trans rfl⟩ (fun hHeld => ?_)
                clear hK K
                refine norm_ (a' := ?_) ?_ ?_
                rotate_left
                · show Act.put _ (some 16) _ = _
                  simp only [Act.put, List.setIfInBounds_toArray, List.set_cons_zero, List.set_cons_succ, i64_w, i32_w]
                  rfl
                refine pu_ (i := 3) (N := some 17) #[I,I,I,I,O,O,O,O,O,O,O,O,O,O,O,O,O,O,O,O,O,O,O,O,O,O,O,O,O,O,O,O,O,O,O,O,O] HT_.out (h := ?_)
                refine pu_ (i := 4) (N := some 18) #[I,I,I,I,I,O,O,O,O,O,O,O,O,O,O,O,O,O,O,O,O,O,O,O,O,O,O,O,O,O,O,O,O,O,O,O,O] HT_.out (h := ?_)
                refine pn_ (i := 5) (N := some 19) #[I,I,I,I,I,I,O,O,O,O,O,O,O,O,O,O,O,O,O,O,O,O,O,O,O,O,O,O,O,O,O,O,O,O,O,O,O] HT_.out (h := ?_)
                refine pn_ (i := 6) (N := some 20) #[I,I,I,I,I,I,I,O,O,O,O,O,O,O,O,O,O,O,O,O,O,O,O,O,O,O,O,O,O,O,O,O,O,O,O,O,O] HT_.out (h := ?_)
                refine pn_ (i := 7) (N := some 21) #[I,I,I,I,I,I,I,I,O,O,O,O,O,O,O,O,O,O,O,O,O,O,O,O,O,O,O,O,O,O,O,O,O,O,O,O,O] HT_.out (h := ?_)
                refine pn_ (i := 8) (N := some 22) #[I,I,I,I,I,I,I,I,I,O,O,O,O,O,O,O,O,O,O,O,O,O,O,O,O,O,O,O,O,O,O,O,O,O,O,O,O] HT_.out (h := ?_)
                refine pu_ (i := 9) (N := some 23) #[I,I,I,I,I,I,I,I,I,I,O,O,O,O,O,O,O,O,O,O,O,O,O,O,O,O,O,O,O,O,O,O,O,O,O,O,O] HT_.out (h := ?_)
                refine pu_ (i := 10) (N := some 24) #[I,I,I,I,I,I,I,I,I,I,I,O,O,O,O,O,O,O,O,O,O,O,O,O,O,O,O,O,O,O,O,O,O,O,O,O,O] HT_.out (h := ?_)
                refine pn_ (i := 11) (N := some 25) #[I,I,I,I,I,I,I,I,I,I,I,I,O,O,O,O,O,O,O,O,O,O,O,O,O,O,O,O,O,O,O,O,O,O,O,O,O] HT_.out (h := ?_)
                refine pn_ (i := 12) (N := some 26) #[I,I,I,I,I,I,I,I,I,I,I,I,I,O,O,O,O,O,O,O,O,O,O,O,O,O,O,O,O,O,O,O,O,O,O,O,O] HT_.out (h := ?_)
                refine pn_ (i := 13) (N := some 27) #[I,I,I,I,I,I,I,I,I,I,I,I,I,I,O,O,O,O,O,O,O,O,O,O,O,O,O,O,O,O,O,O,O,O,O,O,O] HT_.out (h := ?_)
                refine pn_ (i := 14) (N := some 28) #[I,I,I,I,I,I,I,I,I,I,I,I,I,I,I,O,O,O,O,O,O,O,O,O,O,O,O,O,O,O,O,O,O,O,O,O,O] HT_.out (h := ?_)
                refine pu_ (i := 15) (N := some 29) #[I,I,I,I,I,I,I,I,I,I,I,I,I,I,I,I,O,O,O,O,O,O,O,O,O,O,O,O,O,O,O,O,O,O,O,O,O] HT_.out (h := ?_)
                refine pu_ (i := 16) (N := some 30) #[I,I,I,I,I,I,I,I,I,I,I,I,I,I,I,I,I,O,O,O,O,O,O,O,O,O,O,O,O,O,O,O,O,O,O,O,O] HT_.out (h := ?_)
                refine pn_ (i := 17) (N := some 31) #[I,I,I,I,I,I,I,I,I,I,I,I,I,I,I,I,I,I,O,O,O,O,O,O,O,O,O,O,O,O,O,O,O,O,O,O,O] HT_.out (h := ?_)
                refine pn_ (i := 18) (N := some 32) #[I,I,I,I,I,I,I,I,I,I,I,I,I,I,I,I,I,I,I,O,O,O,O,O,O,O,O,O,O,O,O,O,O,O,O,O,O] HT_.out (h := ?_)
                refine pn_ (i := 19) (N := some 33) #[I,I,I,I,I,I,I,I,I,I,I,I,I,I,I,I,I,I,I,I,O,O,O,O,O,O,O,O,O,O,O,O,O,O,O,O,O] HT_.out (h := ?_)
                refine pn_ (i := 20) (N := some 34) #[I,I,I,I,I,I,I,I,I,I,I,I,I,I,I,I,I,I,I,I,I,O,O,O,O,O,O,O,O,O,O,O,O,O,O,O,O] HT_.out (h := ?_)
                refine pu_ (i := 21) (N := some 35) #[I,I,I,I,I,I,I,I,I,I,I,I,I,I,I,I,I,I,I,I,I,I,O,O,O,O,O,O,O,O,O,O,O,O,O,O,O] HT_.out (h := ?_)
                refine pu_ (i := 22) (N := some 36) #[I,I,I,I,I,I,I,I,I,I,I,I,I,I,I,I,I,I,I,I,I,I,I,O,O,O,O,O,O,O,O,O,O,O,O,O,O] HT_.out (h := ?_)
                refine pn_ (i := 23) (N := some 37) #[I,I,I,I,I,I,I,I,I,I,I,I,I,I,I,I,I,I,I,I,I,I,I,I,O,O,O,O,O,O,O,O,O,O,O,O,O] HT_.out (h := ?_)
                refine pn_ (i := 24) (N := some 38) #[I,I,I,I,I,I,I,I,I,I,I,I,I,I,I,I,I,I,I,I,I,I,I,I,I,O,O,O,O,O,O,O,O,O,O,O,O] HT_.out (h := ?_)
                refine pn_ (i := 25) (N := some 39) #[I,I,I,I,I,I,I,I,I,I,I,I,I,I,I,I,I,I,I,I,I,I,I,I,I,I,O,O,O,O,O,O,O,O,O,O,O] HT_.out (h := ?_)
                refine pn_ (i := 26) (N := some 40) #[I,I,I,I,I,I,I,I,I,I,I,I,I,I,I,I,I,I,I,I,I,I,I,I,I,I,I,O,O,O,O,O,O,O,O,O,O] HT_.out (h := ?_)
                refine pn_ (i := 27) (N := some 41) #[I,I,I,I,I,I,I,I,I,I,I,I,I,I,I,I,I,I,I,I,I,I,I,I,I,I,I,I,O,O,O,O,O,O,O,O,O] HT_.out (h := ?_)
                refine pn_ (i := 28) (N := some 42) #[I,I,I,I,I,I,I,I,I,I,I,I,I,I,I,I,I,I,I,I,I,I,I,I,I,I,I,I,I,O,O,O,O,O,O,O,O] HT_.out (h := ?_)
                refine pn_ (i := 29) (N := some 43) #[I,I,I,I,I,I,I,I,I,I,I,I,I,I,I,I,I,I,I,I,I,I,I,I,I,I,I,I,I,I,O,O,O,O,O,O,O] HT_.out (h := ?_)
                refine pn_ (i := 30) (N := some 44) #[I,I,I,I,I,I,I,I,I,I,I,I,I,I,I,I,I,I,I,I,I,I,I,I,I,I,I,I,I,I,I,O,O,O,O,O,O] HT_.out (h := ?_)
                refine pn_ (i := 31) (N := some 45) #[I,I,I,I,I,I,I,I,I,I,I,I,I,I,I,I,I,I,I,I,I,I,I,I,I,I,I,I,I,I,I,I,O,O,O,O,O] HT_.out (h := ?_)
                refine pn_ (i := 32) (N := some 46) #[I,I,I,I,I,I,I,I,I,I,I,I,I,I,I,I,I,I,I,I,I,I,I,I,I,I,I,I,I,I,I,I,I,O,O,O,O] HT_.out (h := ?_)
                refine pn_ (i := 33) (N := some 47) #[I,I,I,I,I,I,I,I,I,I,I,I,I,I,I,I,I,I,I,I,I,I,I,I,I,I,I,I,I,I,I,I,I,I,O,O,O] HT_.out (h := ?_)
                refine pn_ (i := 34) (N := some 48) #[I,I,I,I,I,I,I,I,I,I,I,I,I,I,I,I,I,I,I,I,I,I,I,I,I,I,I,I,I,I,I,I,I,I,I,O,O] HT_.out (h := ?_)
                refine pn_ (i := 35) (N := some 49) #[I,I,I,I,I,I,I,I,I,I,I,I,I,I,I,I,I,I,I,I,I,I,I,I,I,I,I,I,I,I,I,I,I,I,I,I,O] HT_.out (h := ?_)
                refine pu_ (i := 36) (N := some 50) #[I,I,I,I,I,I,I,I,I,I,I,I,I,I,I,I,I,I,I,I,I,I,I,I,I,I,I,I,I,I,I,I,I,I,I,I,I] HT_.out (h := ?_)
                refine done_ (done_of HT_.out (by kernel_rfl)) ?_
                try go_wp2
                go_meet
                case rel => exact ⟨_, (true), (by first | rfl | (simp; done) | (simp [*]; done)), H', ⟨by have := HK1.out; first | omega | exact Nat.le_refl _⟩, ⟨by (with_reducible repeat (first | refine blk_drewN ?_ _ | refine blk_drew ?_ | refine blk_alloc ?_ _)); exact BK168.out⟩, ⟨by repeat (first | (with_reducible first | exact HB.out | apply below_alloc | apply pw_below_drewN | apply below_drew1 | refine below_set ?_ GE168.out) | exact HB.out)⟩⟩
            case rest =>
              clear HC5
              try clear c1
              try clear c2
              try clear p2
              try clear c9
              try clear c11
              try clear c16
              try clear c21
              obtain ⟨kq, x50_4, rfl, HA, HJ4, BK168, HB⟩ := hcut
              cases kq with
              | zero => exact absurd HA.out (by simp [impl_TokensOk.j1])
              | succ kj4 =>
                have H := HA.out
                clear HA
                simp only [impl_TokensOk.j1] at H
                by_cases c34 : x50_4 = true
                · subst c34
                  have H1 : (some false) = some r := by rw [if_pos rfl] at H; exact H
                  clear H
                  have H := H1
                  clear H1
                  obtain rfl := Option.some.inj H
                  go_wp2
                  go_ret
                  exact ⟨by first | rfl | (simp [errW_none, errW_some] <;> rfl) | (simp [*, errW_none, errW_some] <;> rfl), by repeat (first | (with_reducible first | exact HB.out | apply below_alloc | apply pw_below_drewN | apply below_drew1 | refine below_set ?_ GE168.out) | exact HB.out)⟩
                · replace c34 := Bool.eq_false_iff.mpr c34
                  subst c34
                  have H1 : (impl_TokensOk.l1 kj4 l0 l0 (l0.length : Int) x9_1 ((rd_T68 l0 x9_1).f2) (((rd_T68 l0 x9_1).f2).length : Int) 0 ((rd_T68 l0 x9_1).f0) ((rd_T68 l0 x9_1).f1) ((rd_T68 l0 x9_1).f2) ((rd_T68 l0 x9_1).f3)) = some r := by rw [if_neg (show ¬ (false = true) by decide)] at H; exact H
                  clear H
                  have H := H1
                  clear H1
                  have H' := Aside0.mk H
                  clear H
                  have hcz35_0 : wc.cell? ⟨gb168, 0, none⟩ = some (.int .i64 ((rd_T68 l0 x9_1).f0)) := (blk_cell BK168.out 0).trans rfl
                  have hcz35_1 : wc.cell? ⟨gb168, 1, none⟩ = some (.int .i64 ((rd_T68 l0 x9_1).f1)) := (blk_cell BK168.out 1).trans rfl
                  have hcz35_2 : wc.cell? ⟨gb168, 2, none⟩ = some (.slice A167_2 ((rd_T68 l0 x9_1).f2).length c167_2) := (blk_cell BK168.out 2).trans rfl
                  have hcz35_3 : wc.cell? ⟨gb168, 3, none⟩ = some (.slice A167_3 ((rd_T68 l0 x9_1).f3).length c167_3) := (blk_cell BK168.out 3).trans rfl
                  have hfz35_0 := blk_frozen BK168.out 0
                  have hfz35_1 := blk_frozen BK168.out 1
                  have hfz35_2 := blk_frozen BK168.out 2
                  have hfz35_3 := blk_frozen BK168.out 3
                  go_wp2
                  go_loopg [54] kj4 (fun kq v54 w' => ∃ (x54_3 : Int), v54 = .int .i64 x54_3 ∧ Aside0 (impl_TokensOk.l1 kq l0 l0 (l0.length : Int) x9_1 ((rd_T68 l0 x9_1).f2) (((rd_T68 l0 x9_1).f2).length : Int) x54_3 ((rd_T68 l0 x9_1).f0) ((rd_T68 l0 x9_1).f1) ((rd_T68 l0 x9_1).f2) ((rd_T68 l0 x9_1).f3) = some r) ∧ Aside0 (kq ≤ kj4) ∧ Aside0 (w'.heap[gb168]? = some (.cells #[.int .i64 ((rd_T68 l0 x9_1).f0), .int .i64 ((rd_T68 l0 x9_1).f1), (.slice A167_2 ((rd_T68 l0 x9_1).f2).length c167_2), (.slice A167_3 ((rd_T68 l0 x9_1).f3).length c167_3)] 68 (0, 0))) ∧ Aside0 (Below w.heap.size w w'))
                  case atStart => exact ⟨(0), (by first | rfl | (simp; done) | (simp [*]; done)), H', ⟨Nat.le_refl _⟩, ⟨by (with_reducible repeat (first | refine blk_drewN ?_ _ | refine blk_drew ?_ | refine blk_alloc ?_ _)); exact BK168.out⟩, ⟨by repeat (first | (with_reducible first | exact HB.out | apply below_alloc | apply pw_below_drewN | apply below_drew1 | refine below_set ?_ GE168.out) | exact HB.out)⟩⟩
                  case round =>
                    clear H'
                    try clear c1
                    try clear c2
                    try clear p2
                    try clear c3
                    try clear c9
                    try clear c11
                    try clear c16
                    try clear c21
                    try clear c34
                    try clear hcz35_0
                    try clear hcz35_1
                    try clear hcz35_2
                    try clear hcz35_3
                    try clear hfz35_0
                    try clear hfz35_1
                    try clear hfz35_2
                    try clear hfz35_3
                    try clear p2
                    obtain ⟨x54_3, rfl, HA, HK3, BK168, HB⟩ := hrel
                    cases gk with
                    | zero => exact absurd HA.out (by simp [impl_TokensOk.l1])
                    | succ k3 =>
                      have H := HA.out
                      clear HA
                      simp only [impl_TokensOk.l1] at H
                      by_cases c36 : x54_3 < (((rd_T68 l0 x9_1).f2).length : Int)
                      · rw [if_pos c36] at H
                        have c36b0 : decide (x54_3 < (((rd_T68 l0 x9_1).f2).length : Int)) = true := decide_eq_true c36
                        clear c36
                        by_cases c37 : 0 ≤ x54_3
                        · rw [if_pos c37] at H
                          have c37b0 : decide (0 ≤ x54_3) = true := decide_eq_true c37
                          clear c37
                          by_cases c38 : x54_3 < (((rd_T68 l0 x9_1).f2).length : Int)
                          · rw [if_pos c38] at H
                            have c38b0 : decide (x54_3 < (((rd_T68 l0 x9_1).f2).length : Int)) = true := decide_eq_true c38
                            clear c38
                            replace H := Option.bind_eq_some_iff.mp H
                            obtain ⟨t174, A390, H⟩ := H
                            replace H : (if t174 = true then (if ((rd_T68 l0 x9_1).f1) = 0 then (some false) else (impl_TokensOk.l1 k3 l0 l0 (l0.length : Int) x9_1 ((rd_T68 l0 x9_1).f2) (((rd_T68 l0 x9_1).f2).length : Int) (wrap64 (x54_3 + 1)) ((rd_T68 l0 x9_1).f0) ((rd_T68 l0 x9_1).f1) ((rd_T68 l0 x9_1).f2) ((rd_T68 l0 x9_1).f3))) else (some false)) = some r := H
                            have A39 := Aside0.mk A390
                            clear A390
                            by_cases c40 : t174 = true
                            · subst c40
                              have H1 : (if ((rd_T68 l0 x9_1).f1) = 0 then (some false) else (impl_TokensOk.l1 k3 l0 l0 (l0.length : Int) x9_1 ((rd_T68 l0 x9_1).f2) (((rd_T68 l0 x9_1).f2).length : Int) (wrap64 (x54_3 + 1)) ((rd_T68 l0 x9_1).f0) ((rd_T68 l0 x9_1).f1) ((rd_T68 l0 x9_1).f2) ((rd_T68 l0 x9_1).f3))) = some r := by rw [if_pos rfl] at H; exact H
                              clear H
                              have H := H1
                              clear H1
                              by_cases c41 : ((rd_T68 l0 x9_1).f1) = 0
                              · rw [if_pos c41] at H
                                have c41b0 : (((rd_T68 l0 x9_1).f1) == 0) = true := beq_iff_eq.mpr c41
                                have c41b1 : (((rd_T68 l0 x9_1).f1) != 0) = false := bne_eq_false_iff_eq.mpr c41
                                clear c41
                                obtain rfl := Option.some.inj H
                                have p173 : 0 ≤ (x54_3 : Int) := of_decide_eq_true (by first | (with_reducible assumption) | assumption)
                                have q173 : x54_3 < (((rd_T68 l0 x9_1).f2).length : Int) := of_decide_eq_true (by first | (with_reducible assumption) | assumption)
                                obtain ⟨ad173, e173, hx173_0⟩ := Kd.at_int HR167_2.out x54_3 p173 q173
                                cases e173
                                replace hx173_0 := (HB.out.cell (World.block_lt_of_cell? w _ hx173_0)).trans hx173_0
                                replace p173 := eq_true p173
                                replace q173 := eq_true q173
                                go_wp2_with (first | ((with_reducible refine gate_callee (f := 112) rfl ?_); refine goesL_ (some 59) rfl rfl Try.func112 (by kernel_rfl) rfl #[.int .i64 (rd ((rd_T68 l0 x9_1).f2) x54_3)] rfl (by (try simp only [List.map_toArray, List.map_cons, List.map_nil]); first | done | rfl | (simp only [List.length_drop, List.length_take]; rfl)) ?_; (with_reducible refine (impl_isId.calls (rd ((rd_T68 l0 x9_1).f2) x54_3) true _ A39.out).mono ?_); rintro e w' ⟨rfl, ⟨nd, rfl⟩⟩; refine ⟨_, rfl, ?_⟩; have hcz42_0 : wr.cell? ⟨gb168, 0, none⟩ = some (.int .i64 ((rd_T68 l0 x9_1).f0)) := (blk_cell BK168.out 0).trans rfl; have hcz42_1 : wr.cell? ⟨gb168, 1, none⟩ = some (.int .i64 ((rd_T68 l0 x9_1).f1)) := (blk_cell BK168.out 1).trans rfl; have hcz42_2 : wr.cell? ⟨gb168, 2, none⟩ = some (.slice (some ad173) ((rd_T68 l0 x9_1).f2).length c167_2) := (blk_cell BK168.out 2).trans rfl; have hcz42_3 : wr.cell? ⟨gb168, 3, none⟩ = some (.slice A167_3 ((rd_T68 l0 x9_1).f3).length c167_3) := (blk_cell BK168.out 3).trans rfl; have hfz42_0 := blk_frozen BK168.out 0; have hfz42_1 := blk_frozen BK168.out 1; have hfz42_2 := blk_frozen BK168.out 2; have hfz42_3 := blk_frozen BK168.out 3))
                                go_ret
                                exact ⟨by first | rfl | (simp [errW_none, errW_some] <;> rfl) | (simp [*, errW_none, errW_some] <;> rfl), by repeat (first | (with_reducible first | exact HB.out | apply below_alloc | apply pw_below_drewN | apply below_drew1 | refine below_set ?_ GE168.out) | exact HB.out)⟩
                              · rw [if_neg c41] at H
                                have c41b0 : (((rd_T68 l0 x9_1).f1) == 0) = false := beq_eq_false_iff_ne.mpr c41
                                have c41b1 : (((rd_T68 l0 x9_1).f1) != 0) = true := bne_iff_ne.mpr c41
                                have H' := Aside0.mk H
                                clear H
                                have p173 : 0 ≤ (x54_3 : Int) := of_decide_eq_true (by first | (with_reducible assumption) | assumption)
                                have q173 : x54_3 < (((rd_T68 l0 x9_1).f2).length : Int) := of_decide_eq_true (by first | (with_reducible assumption) | assumption)
                                obtain ⟨ad173, e173, hx173_0⟩ := Kd.at_int HR167_2.out x54_3 p173 q173
                                cases e173
                                replace hx173_0 := (HB.out.cell (World.block_lt_of_cell? w _ hx173_0)).trans hx173_0
                                replace p173 := eq_true p173
                                replace q173 := eq_true q173
                                go_wp2_with (first | ((with_reducible refine gate_callee (f := 112) rfl ?_); refine goesL_ (some 59) rfl rfl Try.func112 (by kernel_rfl) rfl #[.int .i64 (rd ((rd_T68 l0 x9_1).f2) x54_3)] rfl (by (try simp only [List.map_toArray, List.map_cons, List.map_nil]); first | done | rfl | (simp only [List.length_drop, List.length_take]; rfl)) ?_; (with_reducible refine (impl_isId.calls (rd ((rd_T68 l0 x9_1).f2) x54_3) true _ A39.out).mono ?_); rintro e w' ⟨rfl, ⟨nd, rfl⟩⟩; refine ⟨_, rfl, ?_⟩; have hcz43_0 : wr.cell? ⟨gb168, 0, none⟩ = some (.int .i64 ((rd_T68 l0 x9_1).f0)) := (blk_cell BK168.out 0).trans rfl; have hcz43_1 : wr.cell? ⟨gb168, 1, none⟩ = some (.int .i64 ((rd_T68 l0 x9_1).f1)) := (blk_cell BK168.out 1).trans rfl; have hcz43_2 : wr.cell? ⟨gb168, 2, none⟩ = some (.slice (some ad173) ((rd_T68 l0 x9_1).f2).length c167_2) := (blk_cell BK168.out 2).trans rfl; have hcz43_3 : wr.cell? ⟨gb168, 3, none⟩ = some (.slice A167_3 ((rd_T68 l0 x9_1).f3).length c167_3) := (blk_cell BK168.out 3).trans rfl; have hfz43_0 := blk_frozen BK168.out 0; have hfz43_1 := blk_frozen BK168.out 1; have hfz43_2 := blk_frozen BK168.out 2; have hfz43_3 := blk_frozen BK168.out 3))
                                go_roundg k3
                                case measure => have := HK1.out; have := HJ4.out; have := HK3.out; omega
                                case rel => exact ⟨(wrap64 (x54_3 + 1)), (by first | rfl | (simp; done) | (simp [*]; done)), H', ⟨by have := HK1.out; have := HJ4.out; have := HK3.out; omega⟩, ⟨by (with_reducible repeat (first | refine blk_drewN ?_ _ | refine blk_drew ?_ | refine blk_alloc ?_ _)); exact BK168.out⟩, ⟨by repeat (first | (with_reducible first | exact HB.out | apply below_alloc | apply pw_below_drewN | apply below_drew1 | refine below_set ?_ GE168.out) | exact HB.out)⟩⟩
                            · replace c40 := Bool.eq_false_iff.mpr c40
                              subst c40
                              have H1 : (some false) = some r := by rw [if_neg (show ¬ (false = true) by decide)] at H; exact H
                              clear H
                              have H := H1
                              clear H1
                              obtain rfl := Option.some.inj H
                              have p173 : 0 ≤ (x54_3 : Int) := of_decide_eq_true (by first | (with_reducible assumption) | assumption)
                              have q173 : x54_3 < (((rd_T68 l0 x9_1).f2).length : Int) := of_decide_eq_true (by first | (with_reducible assumption) | assumption)
                              obtain ⟨ad173, e173, hx173_0⟩ := Kd.at_int HR167_2.out x54_3 p173 q173
                              cases e173
                              replace hx173_0 := (HB.out.cell (World.block_lt_of_cell? w _ hx173_0)).trans hx173_0
                              replace p173 := eq_true p173
                              replace q173 := eq_true q173
                              go_wp2_with (first | ((with_reducible refine gate_callee (f := 112) rfl ?_); refine goesL_ (some 59) rfl rfl Try.func112 (by kernel_rfl) rfl #[.int .i64 (rd ((rd_T68 l0 x9_1).f2) x54_3)] rfl (by (try simp only [List.map_toArray, List.map_cons, List.map_nil]); first | done | rfl | (simp only [List.length_drop, List.length_take]; rfl)) ?_; (with_reducible refine (impl_isId.calls (rd ((rd_T68 l0 x9_1).f2) x54_3) false _ A39.out).mono ?_); rintro e w' ⟨rfl, ⟨nd, rfl⟩⟩; refine ⟨_, rfl, ?_⟩))
                              go_ret
                              exact ⟨by first | rfl | (simp [errW_none, errW_some] <;> rfl) | (simp [*, errW_none, errW_some] <;> rfl), by repeat (first | (with_reducible first | exact HB.out | apply below_alloc | apply pw_below_drewN | apply below_drew1 | refine below_set ?_ GE168.out) | exact HB.out)⟩
                          · rw [if_neg c38] at H
                            exact absurd H (by simp)
                        · rw [if_neg c37] at H
                          exact absurd H (by simp)
                      · rw [if_neg c36] at H
                        have c36b0 : decide (x54_3 < (((rd_T68 l0 x9_1).f2).length : Int)) = false := decide_eq_false c36
                        clear c36
                        have H' := Aside0.mk H
                        clear H
                        go_wp2
                        go_roundg k3
                        case measure => have := HK1.out; have := HJ4.out; have := HK3.out; omega
                        case rel => exact ⟨(wrap64 (x9_1 + 1)), (by first | rfl | (simp; done) | (simp [*]; done)), H', ⟨by have := HK1.out; have := HJ4.out; have := HK3.out; omega⟩, ⟨by repeat (first | (with_reducible first | exact HB.out | apply below_alloc | apply pw_below_drewN | apply below_drew1 | refine below_set ?_ GE168.out) | exact HB.out)⟩⟩
          · rw [if_neg c4] at H
            exact absurd H (by simp)
        · rw [if_neg c3] at H
          exact absurd H (by simp)
      · rw [if_neg c2] at H
        have c2b0 : decide (x9_1 < (l0.length : Int)) = false := decide_eq_false c2
        clear c2
        obtain rfl := Option.some.inj H
        go_wp2
        go_ret
        exact ⟨by first | rfl | (simp [errW_none, errW_some] <;> rfl) | (simp [*, errW_none, errW_some] <;> rfl), by repeat (first | (with_reducible first | exact HB.out | apply below_alloc | apply pw_below_drewN | apply below_drew1) | exact HB.out)⟩

end Go.Proofs.Ytdmhdfdlljafbaa.PFnExactTokensOk
