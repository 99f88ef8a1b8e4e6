/- Proves that soundservice/soundservicelaw09.IntsetCombines returns true for every input, never panics, and leaves its input as it was (the given statement IntsetCombinesSaid). Conditions: none but those of the given statement. This text is part 4 of 6 of that proof; it was written by a program (wip/pack.py) out of this claim's own texts, in build order; Lean checks it. -/
import Derived.Test.YtbahibaohehojaaZIntsetCombines2
namespace Go.Proofs.Ytbahibaohehojaa.Q
open Go.RowKit Go.Proofs.YtbahibaohehojaaW.PrintWords Go.Proofs.YtbahibaohehojaaW.PrintLast Go.Proofs.YtbahibaohehojaaW.PrintMore
attribute [local go_sem] max2_int min2_int max_two min_two max_three min_three max_four min_four
set_option linter.unusedVariables false
set_option linter.unusedSimpArgs false
mutual
def soundserviceref09_joined.l0 : Nat → List (S56) → List (S56) → Int → Int → Option ((List (S56)))
  | 0, _, _, _, _ => none
  | k + 1, x3, x11, x12, x13 => if x13 < x12 then (if 0 ≤ x13 then (if x13 < (x11.length : Int) then (soundserviceref09_joined.l1 k x3 (x3.length : Int) x11 x12 x13 ((rd_T56 x11 x13).f0) ((rd_T56 x11 x13).f1)) else (none)) else (none)) else (soundserviceref09_joined.l2 k ([] : List (S56)) x3 (x3.length : Int) 0)
def soundserviceref09_joined.l1 : Nat → List (S56) → Int → List (S56) → Int → Int → Int → Int → Option ((List (S56)))
  | 0, _, _, _, _, _, _, _ => none
  | k + 1, x3, x7, x11, x12, x13, x467000, x467001 => if x7 > 0 then (if 0 ≤ (wrap64 (x7 - 1)) then (if (wrap64 (x7 - 1)) < (x3.length : Int) then (if ((rd_T56 x3 (wrap64 (x7 - 1))).f0) > x467000 then (soundserviceref09_joined.l1 k x3 (wrap64 (x7 - 1)) x11 x12 x13 x467000 x467001) else (if 0 ≤ x7 then (if x7 ≤ (x3.length : Int) then ((some (x3.take (x7 : Int).toNat : List (S56))).bind fun y468 => (if ([] : List (S56)).length + y468.length < 8796093022208 then ((some (([] : List (S56)) ++ y468 : List (S56))).bind fun y473 => ((some (([(⟨x467000, x467001⟩ : S56)] : List (S56)) : List (S56))).bind fun y476 => (if y473.length + y476.length < 8796093022208 then ((some (y473 ++ y476 : List (S56))).bind fun y479 => ((some (x3.drop (x7 : Int).toNat : List (S56))).bind fun y482 => (if y479.length + y482.length < 8796093022208 then (soundserviceref09_joined.l0 k (y479 ++ y482) x11 x12 (wrap64 (x13 + 1))) else (none)))) else (none)))) else (none))) else (none)) else (none))) else (none)) else (none)) else (if 0 ≤ x7 then (if x7 ≤ (x3.length : Int) then ((some (x3.take (x7 : Int).toNat : List (S56))).bind fun y490 => (if ([] : List (S56)).length + y490.length < 8796093022208 then ((some (([] : List (S56)) ++ y490 : List (S56))).bind fun y495 => ((some (([(⟨x467000, x467001⟩ : S56)] : List (S56)) : List (S56))).bind fun y498 => (if y495.length + y498.length < 8796093022208 then ((some (y495 ++ y498 : List (S56))).bind fun y501 => ((some (x3.drop (x7 : Int).toNat : List (S56))).bind fun y504 => (if y501.length + y504.length < 8796093022208 then (soundserviceref09_joined.l0 k (y501 ++ y504) x11 x12 (wrap64 (x13 + 1))) else (none)))) else (none)))) else (none))) else (none)) else (none))
def soundserviceref09_joined.l2 : Nat → List (S56) → List (S56) → Int → Int → Option ((List (S56)))
  | 0, _, _, _, _ => none
  | k + 1, x4, x46, x47, x48 => if x48 < x47 then (if 0 ≤ x48 then (if x48 < (x46.length : Int) then (if (wrap64 ((x4.length : Int) - 1)) ≥ 0 then (if 0 ≤ (wrap64 ((x4.length : Int) - 1)) then (if (wrap64 ((x4.length : Int) - 1)) < (x4.length : Int) then (if (wrap64 (((rd_T56 x46 x48).f0) - 1)) ≤ ((rd_T56 x4 (wrap64 ((x4.length : Int) - 1))).f1) then (soundserviceref09_joined.l2 k (x4.set ((wrap64 ((x4.length : Int) - 1)) : Int).toNat (⟨(rd_T56 x4 (wrap64 ((x4.length : Int) - 1))).f0, mx ((rd_T56 x4 (wrap64 ((x4.length : Int) - 1))).f1) ((rd_T56 x46 x48).f1)⟩ : S56)) x46 x47 (wrap64 (x48 + 1))) else ((some (([(⟨(rd_T56 x46 x48).f0, (rd_T56 x46 x48).f1⟩ : S56)] : List (S56)) : List (S56))).bind fun y517 => (if x4.length + y517.length < 8796093022208 then (soundserviceref09_joined.l2 k (x4 ++ y517) x46 x47 (wrap64 (x48 + 1))) else (none)))) else (none)) else (none)) else ((some (([(⟨(rd_T56 x46 x48).f0, (rd_T56 x46 x48).f1⟩ : S56)] : List (S56)) : List (S56))).bind fun y523 => (if x4.length + y523.length < 8796093022208 then (soundserviceref09_joined.l2 k (x4 ++ y523) x46 x47 (wrap64 (x48 + 1))) else (none)))) else (none)) else (none)) else (some x4)
end
def soundserviceref09_joined.f (k : Nat) (l0 : List (S56)) : Option ((List (S56))) := soundserviceref09_joined.l0 k ([] : List (S56)) l0 (l0.length : Int) 0
def soundserviceref09_joined.T6 : Bool × List (List Nat × List Nat) := (true, [([], []), ([0], [0]), ([1], [1]), ([2], [2]), ([2], [2]), ([4, 2], [2, 4]), ([3, 5, 2], [2, 3, 5]), ([6, 2], [2, 6]), ([7, 2], [2, 7]), ([2], [2]), ([9, 2], [2, 9]), ([8, 10, 2], [2, 8, 10]), ([2, 11], [2, 11])])
def soundserviceref09_joined.B6 : List Nat := [0, 1, 3, 7, 7, 23, 63, 127, 255, 7, 519, 2047, 4095]
theorem soundserviceref09_joined.tab6 : rtab .any (opsOf Try.f89 6) = soundserviceref09_joined.T6 := by kernel_rfl
theorem soundserviceref09_joined.bits6 : waitsOk soundserviceref09_joined.T6.2 soundserviceref09_joined.B6 = true := by kernel_rfl
def soundserviceref09_joined.T8 : Bool × List (List Nat × List Nat) := (true, [([], []), ([], []), ([0, 1], [0, 1]), ([2], [2]), ([], []), ([4], [4]), ([3, 5, 3], [3, 5]), ([], []), ([], []), ([7, 8], [7, 8]), ([6, 9, 6], [6, 9]), ([10, 10, 0, 1, 2, 3, 4, 5, 6, 7, 8, 9, 10], [0, 7, 10])])
def soundserviceref09_joined.B8 : List Nat := [0, 0, 3, 7, 0, 16, 63, 0, 0, 384, 1023, 2047]
theorem soundserviceref09_joined.tab8 : rtab .any (opsOf Try.f89 8) = soundserviceref09_joined.T8 := by kernel_rfl
theorem soundserviceref09_joined.bits8 : waitsOk soundserviceref09_joined.T8.2 soundserviceref09_joined.B8 = true := by kernel_rfl
def soundserviceref09_joined.T14 : Bool × List (List Nat × List Nat) := (true, [([], []), ([0], [0]), ([1], [1]), ([2], [2]), ([3, 2], [2, 3]), ([4, 2], [2, 4]), ([2], [2]), ([2], [2]), ([6, 7, 2], [2, 6, 7]), ([8, 2], [2, 8]), ([9, 2], [2, 9]), ([5, 10, 2], [2, 5, 10]), ([2, 11], [2, 11])])
def soundserviceref09_joined.B14 : List Nat := [0, 1, 3, 7, 15, 31, 7, 7, 199, 455, 967, 2047, 4095]
theorem soundserviceref09_joined.tab14 : rtab .any (opsOf Try.f89 14) = soundserviceref09_joined.T14 := by kernel_rfl
theorem soundserviceref09_joined.bits14 : waitsOk soundserviceref09_joined.T14.2 soundserviceref09_joined.B14 = true := by kernel_rfl
def soundserviceref09_joined.T15 : Bool × List (List Nat × List Nat) := (true, [([], []), ([], []), ([], []), ([], []), ([2, 3], [2, 3]), ([4], [4]), ([5], [5]), ([], []), ([7], [7]), ([6, 8], [6, 8]), ([0, 1, 0, 1, 2, 3, 4, 5, 6, 7, 8, 9], [0, 1]), ([10, 0, 1, 2, 3, 4, 5, 6, 7, 8, 9], [10]), ([11, 9, 0, 1, 2, 3, 4, 5, 6, 7, 8, 9], [9, 11])])
def soundserviceref09_joined.B15 : List Nat := [0, 0, 0, 0, 12, 28, 60, 0, 128, 508, 1023, 2047, 4095]
theorem soundserviceref09_joined.tab15 : rtab .any (opsOf Try.f89 15) = soundserviceref09_joined.T15 := by kernel_rfl
theorem soundserviceref09_joined.bits15 : waitsOk soundserviceref09_joined.T15.2 soundserviceref09_joined.B15 = true := by kernel_rfl
set_option maxHeartbeats 8000000 in
set_option maxRecDepth 100000 in
theorem soundserviceref09_joined.calls (k : Nat) (A0 : Option Addr) (c0 : Nat) (l0 : List (S56)) (r : List (S56)) (w : World) (hr0 : Kd.C k56 w A0 l0.length l0) (hc0 : l0.length ≤ c0) (h : soundserviceref09_joined.f k l0 = some r) :
    Calls Try.prog 89 #[.slice A0 l0.length c0] w fun e w' => ∃ v0_ : Value, e = .returned (v0_) ∧ Kd.R k56 56 w' w.heap.size (fun _ => True) v0_ r ∧ Below w.heap.size w w' := by
  have hu56 := Try.underlying56
  have HR0 := Aside0.mk hr0
  have HC0 := Aside0.mk hc0
  clear hr0 hc0
  have HB := Aside0.mk (Below.refl w.heap.size w)
  have H : (soundserviceref09_joined.l0 k ([] : List (S56)) l0 (l0.length : Int) 0) = some r := h
  clear h
  have H' := Aside0.mk H
  clear H
  go_enter Try.func89, Try.ntmps89
  go_wp2
  go_loopg [3, 13] k (fun kq v3 v13 w' => ∃ (x3_1 : List (S56)) (x13_1 : Int), v13 = .int .i64 x13_1 ∧ Aside0 (soundserviceref09_joined.l0 kq x3_1 l0 (l0.length : Int) x13_1 = some r) ∧ Aside0 (kq ≤ k) ∧ Aside0 (Kd.V k56 56 w' w.heap.size (fun _ => True) v3 x3_1) ∧ Aside0 (Below w.heap.size w w'))
  case atStart => exact ⟨(([] : List (S56))), (0), (by first | rfl | (simp; done) | (simp [*]; done)), H', ⟨Nat.le_refl _⟩, ⟨by first | exact Kd.V_nil _ _ _ _ _ | (show Kd.V _ _ _ _ _ (Value.slice none 0 0) []; exact Kd.V_nil _ _ _ _ _)⟩, ⟨by repeat (first | (with_reducible first | exact HB.out | apply below_alloc | apply pw_below_drewN | apply below_drew1) | exact HB.out)⟩⟩
  case round =>
    clear H'
    obtain ⟨x3_1, x13_1, rfl, HA, HK1, HO_3, HB⟩ := hrel
    cases gk with
    | zero => exact absurd HA.out (by simp [soundserviceref09_joined.l0])
    | succ k1 =>
      have H := HA.out
      clear HA
      simp only [soundserviceref09_joined.l0] at H
      by_cases c2 : x13_1 < (l0.length : Int)
      · rw [if_pos c2] at H
        have c2b0 : decide (x13_1 < (l0.length : Int)) = true := decide_eq_true c2
        clear c2
        by_cases c3 : 0 ≤ x13_1
        · rw [if_pos c3] at H
          have c3b0 : decide (0 ≤ x13_1) = true := decide_eq_true c3
          clear c3
          by_cases c4 : x13_1 < (l0.length : Int)
          · rw [if_pos c4] at H
            have c4b0 : decide (x13_1 < (l0.length : Int)) = true := decide_eq_true c4
            clear c4
            have H' := Aside0.mk H
            clear H
            have p465 : 0 ≤ (x13_1 : Int) := of_decide_eq_true (by first | (with_reducible assumption) | assumption)
            have q465 : x13_1 < (l0.length : Int) := of_decide_eq_true (by first | (with_reducible assumption) | assumption)
            obtain ⟨ad465, e465, hx465_0, hx465_1⟩ := at_T56 HR0.out x13_1 p465 q465
            cases e465
            replace hx465_0 := (HB.out.cell (World.block_lt_of_cell? w _ hx465_0)).trans hx465_0
            replace hx465_1 := (HB.out.cell (World.block_lt_of_cell? w _ hx465_1)).trans hx465_1
            replace p465 := eq_true p465
            replace q465 := eq_true q465
            go_wp2_with (first | ((with_reducible refine gate_dst (N := 6) rfl ?_); refine box_event ?hg (N := 6) ?hd (cs := #[.int .i64 0, .int .i64 0]) (t := 56) ?hr ?_; (case hd => rfl); (case hg => rfl); (case hr => first | (go_simp; done) | (go_simp; rfl)); intro gb466 hg w5 hbox hb; have n0_ := Aside0.mk (Kd.V_below (Kd.V_elderB (by (with_reducible repeat (first | apply Kd.V_alloc | apply Kd.V_drewN | apply Kd.V_drew)); exact HO_3.out) gb466 (Nat.le_of_eq hg.symm)) hb); have n1_ := Aside0.mk (below_step (by repeat (first | (with_reducible first | exact HB.out | apply below_alloc | apply pw_below_drewN | apply below_drew1) | exact HB.out)) hb); have n2_ := Aside0.mk (hbox); have n3_ := Aside0.mk ((by rw [hg]; exact (below_size (by repeat (first | (with_reducible first | exact HB.out | apply below_alloc | apply pw_below_drewN | apply below_drew1) | exact HB.out))) : w.heap.size ≤ gb466)); have n4_ := Aside0.mk ((by rw [hg]; exact (below_size (by repeat (first | (with_reducible first | exact HB.out | apply below_alloc | apply pw_below_drewN | apply below_drew1) | exact HB.out))) : w.heap.size ≤ gb466)); clear HO_3; clear HB; have HO_3 := n0_; have HB := n1_; have BK466 := n2_; have GW466 := n3_; have GE466 := n4_; clear n0_ n1_ n2_ n3_ n4_; clear hb hbox hg; have hcz6_0 : w5.cell? ⟨gb466, 0, none⟩ = some (.int .i64 0) := (blk_cell BK466.out 0).trans rfl; have hcz6_1 : w5.cell? ⟨gb466, 1, none⟩ = some (.int .i64 0) := (blk_cell BK466.out 1).trans rfl; have hfz6_0 := blk_frozen BK466.out 0; have hfz6_1 := blk_frozen BK466.out 1; obtain ⟨Ao7, co7, eo7⟩ := Kd.V_slice HO_3.out; subst eo7))
            go_loopg [7] k1 (fun kq v7 w' => ∃ (x7_2 : Int), v7 = .int .i64 x7_2 ∧ Aside0 (soundserviceref09_joined.l1 kq x3_1 x7_2 l0 (l0.length : Int) x13_1 ((rd_T56 l0 x13_1).f0) ((rd_T56 l0 x13_1).f1) = some r) ∧ Aside0 (kq ≤ k1) ∧ Aside0 (Kd.V k56 56 w' w.heap.size (fun k_ => k_ ≠ gb466) (.slice Ao7 x3_1.length co7) x3_1) ∧ Aside0 (w'.heap[gb466]? = some (.cells #[.int .i64 ((rd_T56 l0 x13_1).f0), .int .i64 ((rd_T56 l0 x13_1).f1)] 56 (0, 0))) ∧ Aside0 (Below w.heap.size w w'))
            case atStart => exact ⟨((x3_1.length : Int)), (by first | rfl | (simp; done) | (simp [*]; done)), H', ⟨Nat.le_refl _⟩, ⟨by (with_reducible repeat (first | apply Kd.V_alloc | apply Kd.V_drewN | apply Kd.V_drew)); exact Kd.V_mono (Kd.V_far (p := ⟨gb466, 1, none⟩) (Kd.V_far (p := ⟨gb466, 0, none⟩) (Kd.V_mono HO_3.out (fun k_ hk => (⟨hk, hk.2⟩ : _ ∧ k_ ≠ gb466))) (fun _ hk => hk.2) (.int .i64 ((rd_T56 l0 x13_1).f0))) (fun _ hk => hk.2) (.int .i64 ((rd_T56 l0 x13_1).f1))) (fun _ hk => hk.1.2)⟩, ⟨by (with_reducible repeat (first | refine blk_drewN ?_ _ | refine blk_drew ?_ | refine blk_alloc ?_ _)); refine blk_put (cs := #[.int .i64 ((rd_T56 l0 x13_1).f0), .int .i64 0]) ?_ 1 _ rfl; (with_reducible repeat (first | refine blk_drewN ?_ _ | refine blk_drew ?_ | refine blk_alloc ?_ _)); refine blk_put (cs := #[.int .i64 0, .int .i64 0]) ?_ 0 _ rfl; (with_reducible repeat (first | refine blk_drewN ?_ _ | refine blk_drew ?_ | refine blk_alloc ?_ _)); exact BK466.out⟩, ⟨by repeat (first | (with_reducible first | exact HB.out | apply below_alloc | apply pw_below_drewN | apply below_drew1 | refine below_set ?_ GE466.out) | exact HB.out)⟩⟩
            case round =>
              clear H'
              try clear c2
              try clear c2b0
              try clear p2
              try clear c3
              try clear c3b0
              try clear c4
              try clear c4b0
              try clear p4
              try clear q4
              try clear hx4
              try clear hcz6_0
              try clear hcz6_1
              try clear hfz6_0
              try clear hfz6_1
              try clear hx465_0
              try clear hx465_1
              try clear p465
              try clear q465
              obtain ⟨x7_2, rfl, HA, HK2, HO_3, BK466, HB⟩ := hrel
              cases gk with
              | zero => exact absurd HA.out (by simp [soundserviceref09_joined.l1])
              | succ k2 =>
                have H := HA.out
                clear HA
                simp only [soundserviceref09_joined.l1] at H
                by_cases c8 : x7_2 > 0
                · rw [if_pos c8] at H
                  have c8b0 : decide (0 < x7_2) = true := decide_eq_true c8
                  clear c8
                  obtain ⟨ji9, hji9⟩ : ∃ j_ : Int, (wrap64 (x7_2 - 1)) = j_ := ⟨_, rfl⟩
                  replace H : (if 0 ≤ (ji9) then (if (ji9) < (x3_1.length : Int) then (if ((rd_T56 x3_1 (ji9)).f0) > ((rd_T56 l0 x13_1).f0) then (soundserviceref09_joined.l1 k2 x3_1 ji9 l0 (l0.length : Int) x13_1 ((rd_T56 l0 x13_1).f0) ((rd_T56 l0 x13_1).f1)) else (if 0 ≤ x7_2 then (if x7_2 ≤ (x3_1.length : Int) then ((some (x3_1.take (x7_2 : Int).toNat : List (S56))).bind fun y468 => (if ([] : List (S56)).length + y468.length < 8796093022208 then ((some (([] : List (S56)) ++ y468 : List (S56))).bind fun y473 => ((some (([(⟨((rd_T56 l0 x13_1).f0), ((rd_T56 l0 x13_1).f1)⟩ : S56)] : List (S56)) : List (S56))).bind fun y476 => (if y473.length + y476.length < 8796093022208 then ((some (y473 ++ y476 : List (S56))).bind fun y479 => ((some (x3_1.drop (x7_2 : Int).toNat : List (S56))).bind fun y482 => (if y479.length + y482.length < 8796093022208 then (soundserviceref09_joined.l0 k2 (y479 ++ y482) l0 (l0.length : Int) (wrap64 (x13_1 + 1))) else (none)))) else (none)))) else (none))) else (none)) else (none))) else (none)) else (none)) = some r := by first | (rw [hji9] at H; exact H) | (simp only [hji9] at H ⊢; exact H)
                  have hji9w : (IntKind.i64.wrap (x7_2 - 1)) = ji9 := (i64_w _).trans hji9
                  by_cases c10 : 0 ≤ (ji9)
                  · rw [if_pos c10] at H
                    have c10b0 : decide (0 ≤ (ji9)) = true := decide_eq_true c10
                    clear c10
                    by_cases c11 : (ji9) < (x3_1.length : Int)
                    · rw [if_pos c11] at H
                      have c11b0 : decide ((ji9) < (x3_1.length : Int)) = true := decide_eq_true c11
                      clear c11
                      by_cases c12 : ((rd_T56 x3_1 (ji9)).f0) > ((rd_T56 l0 x13_1).f0)
                      · rw [if_pos c12] at H
                        have c12b0 : decide (((rd_T56 l0 x13_1).f0) < ((rd_T56 x3_1 (ji9)).f0)) = true := decide_eq_true c12
                        clear c12
                        have H' := Aside0.mk H
                        clear H
                        try go_wp2
                        have n0_ := Aside0.mk (Kd.V_drew HO_3.out)
                        have n1_ := Aside0.mk (blk_drew BK466.out)
                        have n2_ := Aside0.mk (below_drew1 HB.out)
                        clear HO_3
                        clear BK466
                        clear HB
                        have HO_3 := n0_
                        have BK466 := n1_
                        have HB := n2_
                        clear n0_ n1_ n2_
                        have p467 : 0 ≤ ((ji9) : Int) := of_decide_eq_true (by first | (with_reducible assumption) | assumption)
                        have q467 : (ji9) < (x3_1.length : Int) := of_decide_eq_true (by first | (with_reducible assumption) | assumption)
                        obtain ⟨ad467, e467, hx467_0, hx467_1⟩ := at_T56 (Kd.V_reads' HO_3.out).2.2 (ji9) p467 q467
                        cases e467
                        replace p467 := eq_true p467
                        replace q467 := eq_true q467
                        refine start_ (n := 13) (S := fun w' => w'.cell? ⟨gb466, 0, none⟩ = some (.int .i64 ((rd_T56 l0 x13_1).f0)) ∧ w'.cell? ⟨gb466, 1, none⟩ = some (.int .i64 ((rd_T56 l0 x13_1).f1)) ∧ w'.cell? (ad467.add (((ji9)).toNat * 2)) = some (.int .i64 ((rd_T56 x3_1 (ji9)).f0)) ∧ w'.cell? ⟨(ad467.add (((ji9)).toNat * 2)).block, (ad467.add (((ji9)).toNat * 2)).off + 1, none⟩ = some (.int .i64 ((rd_T56 x3_1 (ji9)).f1))) (ds := []) #[false, false, false, false, false, false, false, false, false, false, false, false, false] (by kernel_rfl) rfl rfl ⟨(blk_cell BK466.out 0).trans rfl, (blk_cell BK466.out 1).trans rfl, hx467_0, hx467_1⟩ (fun hHeld => ?_); refine with_tabW soundserviceref09_joined.tab6 soundserviceref09_joined.bits6 (fun HT_ HW_ => ?_)
                        generalize wr.drew = w13 at HO_3 BK466 HB hx467_0 hx467_1 hHeld ⊢
                        refine pure_ (i := 0) (N := some 19) (v := ?_) (a' := ?_) #[true, false, false, false, false, false, false, false, false, false, false, false, false] rfl rfl (any_of HT_.out (by kernel_rfl)) (fun _ _ _ h => h) (Or.inl ⟨by rfl, ?_⟩) ?_ ?_
                        rotate_left
                        · intro w'
                          go_simp
                          with_reducible rfl
                        rotate_left
                        · simp only [Act.put, List.setIfInBounds_toArray, List.set_cons_zero, List.set_cons_succ, i64_w, i32_w]
                          rfl
                        refine pure_ (i := 1) (N := some 20) (v := ?_) (a' := ?_) #[true, true, false, false, false, false, false, false, false, false, false, false, false] rfl rfl (any_of HT_.out (by kernel_rfl)) (fun _ _ _ h => h) (Or.inl ⟨by rfl, ?_⟩) ?_ ?_
                        rotate_left
                        · intro w'
                          go_simp
                          with_reducible rfl
                        rotate_left
                        · simp only [Act.put, List.setIfInBounds_toArray, List.set_cons_zero, List.set_cons_succ, i64_w, i32_w]
                          rfl
                        refine pure_ (i := 2) (N := some 21) (v := ?_) (a' := ?_) #[true, true, true, false, false, false, false, false, false, false, false, false, false] rfl rfl (any_of HT_.out (by kernel_rfl)) (fun _ _ _ h => h) (Or.inl ⟨by rfl, ?_⟩) ?_ ?_
                        rotate_left
                        · intro w'
                          go_simp
                          with_reducible rfl
                        rotate_left
                        · simp only [Act.put, List.setIfInBounds_toArray, List.set_cons_zero, List.set_cons_succ, i64_w, i32_w]
                          rfl
                        refine pure_ (i := 3) (N := some 22) (v := ?_) (a' := ?_) #[true, true, true, true, false, false, false, false, false, false, false, false, false] rfl rfl (any_of HT_.out (by kernel_rfl)) (fun _ _ _ h => h) (Or.inl ⟨by rfl, ?_⟩) ?_ ?_
                        rotate_left
                        · intro w'
                          go_simp
                          with_reducible rfl
                        rotate_left
                        · simp only [Act.put, List.setIfInBounds_toArray, List.set_cons_zero, List.set_cons_succ, i64_w, i32_w]
                          rfl
                        refine pure_ (i := 4) (N := some 23) (v := ?_) (a' := ?_) #[true, true, true, true, true, false, false, false, false, false, false, false, false] rfl rfl (any_of HT_.out (by kernel_rfl)) (fun _ _ _ h => h) (Or.inl ⟨by rfl, ?_⟩) ?_ ?_
                        rotate_left
                        · intro w'
                          go_simp
                          with_reducible rfl
                        rotate_left
                        · simp only [Act.put, List.setIfInBounds_toArray, List.set_cons_zero, List.set_cons_succ, i64_w, i32_w]
                          rfl
                        refine pure_ (i := 5) (N := some 24) (v := ?_) (a' := ?_) #[true, true, true, true, true, true, false, false, false, false, false, false, false] rfl rfl (any_of HT_.out (by kernel_rfl)) (fun _ _ _ h => h) (Or.inl ⟨by rfl, ?_⟩) ?_ ?_
                        rotate_left
                        · intro w'
                          go_simp
                          with_reducible rfl
                        rotate_left
                        · simp only [Act.put, List.setIfInBounds_toArray, List.set_cons_zero, List.set_cons_succ, i64_w, i32_w]
                          rfl
                        refine pure_ (i := 6) (N := some 25) (v := ?_) (a' := ?_) #[true, true, true, true, true, true, true, false, false, false, false, false, false] rfl rfl (any_of HT_.out (by kernel_rfl)) (fun _ _ _ h => h) (Or.inl ⟨by rfl, ?_⟩) ?_ ?_
                        rotate_left
                        · intro w'
                          go_simp
                          with_reducible rfl
                        rotate_left
                        · simp only [Act.put, List.setIfInBounds_toArray, List.set_cons_zero, List.set_cons_succ, i64_w, i32_w]
                          rfl
                        refine pure_ (i := 7) (N := some 26) (v := ?_) (a' := ?_) #[true, true, true, true, true, true, true, true, false, false, false, false, false] rfl rfl (any_of HT_.out (by kernel_rfl)) (fun _ _ _ h => h) (Or.inl ⟨by rfl, ?_⟩) ?_ ?_
                        rotate_left
                        · intro w'
                          go_simp
                          with_reducible rfl
                        rotate_left
                        · simp only [Act.put, List.setIfInBounds_toArray, List.set_cons_zero, List.set_cons_succ, i64_w, i32_w]
                          rfl
                        refine pure_ (i := 9) (N := some 28) (v := ?_) (a' := ?_) #[true, true, true, true, true, true, true, true, false, true, false, false, false] rfl rfl (any_of HT_.out (by kernel_rfl)) (fun _ _ _ h => h) (Or.inl ⟨by rfl, ?_⟩) ?_ ?_
                        rotate_left
                        · intro w'
                          go_simp
                          with_reducible rfl
                        rotate_left
                        · simp only [Act.put, List.setIfInBounds_toArray, List.set_cons_zero, List.set_cons_succ, i64_w, i32_w]
                          rfl
                        refine take_ (i := 8) (N := some 27) (v := ?_) (a' := ?_) #[true, true, true, true, true, true, true, true, true, true, false, false, false] rfl rfl (take_ofW HT_.out HW_.out (by kernel_rfl)) (fun _ _ _ h => h) (Or.inl ⟨by rfl, ?_⟩) hHeld ?_ ?_
                        rotate_left
                        · rintro w' ⟨s0, s1, s2, s3⟩
                          go_simp
                          with_reducible rfl
                        rotate_left
                        · simp only [Act.put, List.setIfInBounds_toArray, List.set_cons_zero, List.set_cons_succ, i64_w, i32_w]
                          rfl
                        refine take_ (i := 10) (N := some 29) (v := ?_) (a' := ?_) #[true, true, true, true, true, true, true, true, true, true, true, false, false] rfl rfl (take_ofW HT_.out HW_.out (by kernel_rfl)) (fun _ _ _ h => h) (Or.inl ⟨by rfl, ?_⟩) hHeld ?_ ?_
                        rotate_left
                        · rintro w' ⟨s0, s1, s2, s3⟩
                          go_simp
                          with_reducible rfl
                        rotate_left
                        · simp only [Act.put, List.setIfInBounds_toArray, List.set_cons_zero, List.set_cons_succ, i64_w, i32_w]
                          rfl
                        refine pure_ (i := 11) (N := some 30) (v := ?_) (a' := ?_) #[true, true, true, true, true, true, true, true, true, true, true, true, false] rfl rfl (any_of HT_.out (by kernel_rfl)) (fun _ _ _ h => h) (Or.inl ⟨by rfl, ?_⟩) ?_ ?_
                        rotate_left
                        · intro w'
                          go_simp
                          with_reducible rfl
                        rotate_left
                        · simp only [Act.put, List.setIfInBounds_toArray, List.set_cons_zero, List.set_cons_succ, i64_w, i32_w]
                          rfl
                        refine pure_ (i := 12) (N := some 31) (v := ?_) (a' := ?_) #[true, true, true, true, true, true, true, true, true, true, true, true, true] rfl rfl (any_of HT_.out (by kernel_rfl)) (fun _ _ _ h => h) (Or.inl ⟨by rfl, ?_⟩) ?_ ?_
                        rotate_left
                        · intro w'
                          go_simp
                          with_reducible rfl
                        rotate_left
                        · simp only [Act.put, List.setIfInBounds_toArray, List.set_cons_zero, List.set_cons_succ, i64_w, i32_w]
                          rfl
                        refine done_ (done_of HT_.out (by kernel_rfl)) ?_
                        try go_wp2
                        go_roundg k2
                        case measure => have := HK1.out; have := HK2.out; omega
                        case rel => exact ⟨(ji9), (by first | rfl | (simp; done) | (simp only [← hji9] <;> (first | rfl | simp)) | (simp [*]; done)), H', ⟨by have := HK1.out; have := HK2.out; omega⟩, ⟨by (with_reducible repeat (first | apply Kd.V_alloc | apply Kd.V_drewN | apply Kd.V_drew)); exact HO_3.out⟩, ⟨by (with_reducible repeat (first | refine blk_drewN ?_ _ | refine blk_drew ?_ | refine blk_alloc ?_ _)); exact BK466.out⟩, ⟨by repeat (first | (with_reducible first | exact HB.out | apply below_alloc | apply pw_below_drewN | apply below_drew1 | refine below_set ?_ GE466.out) | exact HB.out)⟩⟩
                      · rw [if_neg c12] at H
                        have c12b0 : decide (((rd_T56 l0 x13_1).f0) < ((rd_T56 x3_1 (ji9)).f0)) = false := decide_eq_false c12
                        clear c12
                        by_cases c14 : 0 ≤ x7_2
                        · rw [if_pos c14] at H
                          have c14b0 := eq_true c14
                          have c14b1 : decide (0 ≤ x7_2) = true := decide_eq_true c14
                          clear c14
                          by_cases c15 : x7_2 ≤ (x3_1.length : Int)
                          · rw [if_pos c15] at H
                            have c15b0 := eq_true c15
                            have c15b1 : decide (x7_2 ≤ (x3_1.length : Int)) = true := decide_eq_true c15
                            clear c15
                            obtain ⟨y468, hy468⟩ : ∃ y_ : List (S56), y_ = (x3_1.take (x7_2 : Int).toNat) := ⟨_, rfl⟩
                            replace H : (if ([] : List (S56)).length + y468.length < 8796093022208 then ((some (([] : List (S56)) ++ y468 : List (S56))).bind fun y473 => ((some (([(⟨((rd_T56 l0 x13_1).f0), ((rd_T56 l0 x13_1).f1)⟩ : S56)] : List (S56)) : List (S56))).bind fun y476 => (if y473.length + y476.length < 8796093022208 then ((some (y473 ++ y476 : List (S56))).bind fun y479 => ((some (x3_1.drop (x7_2 : Int).toNat : List (S56))).bind fun y482 => (if y479.length + y482.length < 8796093022208 then (soundserviceref09_joined.l0 k2 (y479 ++ y482) l0 (l0.length : Int) (wrap64 (x13_1 + 1))) else (none)))) else (none)))) else (none)) = some r := by first | (rw [hy468]; with_reducible exact H) | (have H2_ := (Option.bind_some _ _).symm.trans H; rw [hy468]; with_reducible exact H2_) | (have H2_ := (Option.bind_some _ _).symm.trans H; with_reducible exact H2_) | with_reducible exact H | (rw [hy468]; exact H) | exact H
                            have Ny468 := Aside0.mk hy468
                            clear hy468
                            by_cases c16 : ([] : List (S56)).length + y468.length < 8796093022208
                            · rw [if_pos c16] at H
                              have LMc16 := Aside0.mk c16
                              clear c16
                              obtain ⟨y473, hy473⟩ : ∃ y_ : List (S56), y_ = (([] : List (S56)) ++ y468) := ⟨_, rfl⟩
                              replace H : ((some (([(⟨((rd_T56 l0 x13_1).f0), ((rd_T56 l0 x13_1).f1)⟩ : S56)] : List (S56)) : List (S56))).bind fun y476 => (if y473.length + y476.length < 8796093022208 then ((some (y473 ++ y476 : List (S56))).bind fun y479 => ((some (x3_1.drop (x7_2 : Int).toNat : List (S56))).bind fun y482 => (if y479.length + y482.length < 8796093022208 then (soundserviceref09_joined.l0 k2 (y479 ++ y482) l0 (l0.length : Int) (wrap64 (x13_1 + 1))) else (none)))) else (none))) = some r := by first | (rw [hy473]; with_reducible exact H) | (have H2_ := (Option.bind_some _ _).symm.trans H; rw [hy473]; with_reducible exact H2_) | (have H2_ := (Option.bind_some _ _).symm.trans H; with_reducible exact H2_) | with_reducible exact H | (rw [hy473]; exact H) | exact H
                              have Ny473 := Aside0.mk hy473
                              clear hy473
                              obtain ⟨y476, hy476⟩ : ∃ y_ : List (S56), y_ = (([(⟨((rd_T56 l0 x13_1).f0), ((rd_T56 l0 x13_1).f1)⟩ : S56)] : List (S56))) := ⟨_, rfl⟩
                              replace H : (if y473.length + y476.length < 8796093022208 then ((some (y473 ++ y476 : List (S56))).bind fun y479 => ((some (x3_1.drop (x7_2 : Int).toNat : List (S56))).bind fun y482 => (if y479.length + y482.length < 8796093022208 then (soundserviceref09_joined.l0 k2 (y479 ++ y482) l0 (l0.length : Int) (wrap64 (x13_1 + 1))) else (none)))) else (none)) = some r := by first | (rw [hy476]; with_reducible exact H) | (have H2_ := (Option.bind_some _ _).symm.trans H; rw [hy476]; with_reducible exact H2_) | (have H2_ := (Option.bind_some _ _).symm.trans H; with_reducible exact H2_) | with_reducible exact H | (rw [hy476]; exact H) | exact H
                              have Ny476 := Aside0.mk hy476
                              clear hy476
                              by_cases c17 : y473.length + y476.length < 8796093022208
                              · rw [if_pos c17] at H
                                have LMc17 := Aside0.mk c17
                                clear c17
                                obtain ⟨y479, hy479⟩ : ∃ y_ : List (S56), y_ = (y473 ++ y476) := ⟨_, rfl⟩
                                replace H : ((some (x3_1.drop (x7_2 : Int).toNat : List (S56))).bind fun y482 => (if y479.length + y482.length < 8796093022208 then (soundserviceref09_joined.l0 k2 (y479 ++ y482) l0 (l0.length : Int) (wrap64 (x13_1 + 1))) else (none))) = some r := by first | (rw [hy479]; with_reducible exact H) | (have H2_ := (Option.bind_some _ _).symm.trans H; rw [hy479]; with_reducible exact H2_) | (have H2_ := (Option.bind_some _ _).symm.trans H; with_reducible exact H2_) | with_reducible exact H | (rw [hy479]; exact H) | exact H
                                have Ny479 := Aside0.mk hy479
                                clear hy479
                                have c18b0 := eq_true (of_decide_eq_true (by first | (with_reducible assumption) | assumption) : 0 ≤ x7_2)
                                have c19b0 := eq_true (of_decide_eq_true (by first | (with_reducible assumption) | assumption) : x7_2 ≤ (x3_1.length : Int))
                                obtain ⟨y482, hy482⟩ : ∃ y_ : List (S56), y_ = (x3_1.drop (x7_2 : Int).toNat) := ⟨_, rfl⟩
                                replace H : (if y479.length + y482.length < 8796093022208 then (soundserviceref09_joined.l0 k2 (y479 ++ y482) l0 (l0.length : Int) (wrap64 (x13_1 + 1))) else (none)) = some r := by first | (rw [hy482]; with_reducible exact H) | (have H2_ := (Option.bind_some _ _).symm.trans H; rw [hy482]; with_reducible exact H2_) | (have H2_ := (Option.bind_some _ _).symm.trans H; with_reducible exact H2_) | with_reducible exact H | (rw [hy482]; exact H) | exact H
                                have Ny482 := Aside0.mk hy482
                                clear hy482
                                by_cases c20 : y479.length + y482.length < 8796093022208
                                · rw [if_pos c20] at H
                                  have LMc20 := Aside0.mk c20
                                  clear c20
                                  obtain ⟨y487, hy487⟩ : ∃ y_ : List (S56), y_ = (y479 ++ y482) := ⟨_, rfl⟩
                                  replace H : (soundserviceref09_joined.l0 k2 y487 l0 (l0.length : Int) (wrap64 (x13_1 + 1))) = some r := by first | (rw [hy487]; with_reducible exact H) | (have H2_ := (Option.bind_some _ _).symm.trans H; rw [hy487]; with_reducible exact H2_) | (have H2_ := (Option.bind_some _ _).symm.trans H; with_reducible exact H2_) | with_reducible exact H | (rw [hy487]; exact H) | exact H
                                  have Ny487 := Aside0.mk hy487
                                  clear hy487
                                  have H' := Aside0.mk H
                                  clear H
                                  try go_wp2
                                  have n0_ := Aside0.mk (Kd.V_drew HO_3.out)
                                  have n1_ := Aside0.mk (blk_drew BK466.out)
                                  have n2_ := Aside0.mk (below_drew1 HB.out)
                                  clear HO_3
                                  clear BK466
                                  clear HB
                                  have HO_3 := n0_
                                  have BK466 := n1_
                                  have HB := n2_
                                  clear n0_ n1_ n2_
                                  have p467 : 0 ≤ ((ji9) : Int) := of_decide_eq_true (by first | (with_reducible assumption) | assumption)
                                  have q467 : (ji9) < (x3_1.length : Int) := of_decide_eq_true (by first | (with_reducible assumption) | assumption)
                                  obtain ⟨ad467, e467, hx467_0, hx467_1⟩ := at_T56 (Kd.V_reads' HO_3.out).2.2 (ji9) p467 q467
                                  cases e467
                                  replace p467 := eq_true p467
                                  replace q467 := eq_true q467
                                  refine start_ (n := 13) (S := fun w' => w'.cell? ⟨gb466, 0, none⟩ = some (.int .i64 ((rd_T56 l0 x13_1).f0)) ∧ w'.cell? ⟨gb466, 1, none⟩ = some (.int .i64 ((rd_T56 l0 x13_1).f1)) ∧ w'.cell? (ad467.add (((ji9)).toNat * 2)) = some (.int .i64 ((rd_T56 x3_1 (ji9)).f0)) ∧ w'.cell? ⟨(ad467.add (((ji9)).toNat * 2)).block, (ad467.add (((ji9)).toNat * 2)).off + 1, none⟩ = some (.int .i64 ((rd_T56 x3_1 (ji9)).f1))) (ds := []) #[false, false, false, false, false, false, false, false, false, false, false, false, false] (by kernel_rfl) rfl rfl ⟨(blk_cell BK466.out 0).trans rfl, (blk_cell BK466.out 1).trans rfl, hx467_0, hx467_1⟩ (fun hHeld => ?_); refine with_tabW soundserviceref09_joined.tab6 soundserviceref09_joined.bits6 (fun HT_ HW_ => ?_)
                                  generalize wr.drew = w21 at HO_3 BK466 HB hx467_0 hx467_1 hHeld ⊢
                                  refine pure_ (i := 0) (N := some 19) (v := ?_) (a' := ?_) #[true, false, false, false, false, false, false, false, false, false, false, false, false] rfl rfl (any_of HT_.out (by kernel_rfl)) (fun _ _ _ h => h) (Or.inl ⟨by rfl, ?_⟩) ?_ ?_
                                  rotate_left
                                  · intro w'
                                    go_simp
                                    with_reducible rfl
                                  rotate_left
                                  · simp only [Act.put, List.setIfInBounds_toArray, List.set_cons_zero, List.set_cons_succ, i64_w, i32_w]
                                    rfl
                                  refine pure_ (i := 1) (N := some 20) (v := ?_) (a' := ?_) #[true, true, false, false, false, false, false, false, false, false, false, false, false] rfl rfl (any_of HT_.out (by kernel_rfl)) (fun _ _ _ h => h) (Or.inl ⟨by rfl, ?_⟩) ?_ ?_
                                  rotate_left
                                  · intro w'
                                    go_simp
                                    with_reducible rfl
                                  rotate_left
                                  · simp only [Act.put, List.setIfInBounds_toArray, List.set_cons_zero, List.set_cons_succ, i64_w, i32_w]
                                    rfl
                                  refine pure_ (i := 2) (N := some 21) (v := ?_) (a' := ?_) #[true, true, true, false, false, false, false, false, false, false, false, false, false] rfl rfl (any_of HT_.out (by kernel_rfl)) (fun _ _ _ h => h) (Or.inl ⟨by rfl, ?_⟩) ?_ ?_
                                  rotate_left
                                  · intro w'
                                    go_simp
                                    with_reducible rfl
                                  rotate_left
                                  · simp only [Act.put, List.setIfInBounds_toArray, List.set_cons_zero, List.set_cons_succ, i64_w, i32_w]
                                    rfl
                                  refine pure_ (i := 3) (N := some 22) (v := ?_) (a' := ?_) #[true, true, true, true, false, false, false, false, false, false, false, false, false] rfl rfl (any_of HT_.out (by kernel_rfl)) (fun _ _ _ h => h) (Or.inl ⟨by rfl, ?_⟩) ?_ ?_
                                  rotate_left
                                  · intro w'
                                    go_simp
                                    with_reducible rfl
                                  rotate_left
                                  · simp only [Act.put, List.setIfInBounds_toArray, List.set_cons_zero, List.set_cons_succ, i64_w, i32_w]
                                    rfl
                                  refine pure_ (i := 4) (N := some 23) (v := ?_) (a' := ?_) #[true, true, true, true, true, false, false, false, false, false, false, false, false] rfl rfl (any_of HT_.out (by kernel_rfl)) (fun _ _ _ h => h) (Or.inl ⟨by rfl, ?_⟩) ?_ ?_
                                  rotate_left
                                  · intro w'
                                    go_simp
                                    with_reducible rfl
                                  rotate_left
                                  · simp only [Act.put, List.setIfInBounds_toArray, List.set_cons_zero, List.set_cons_succ, i64_w, i32_w]
                                    rfl
                                  refine pure_ (i := 5) (N := some 24) (v := ?_) (a' := ?_) #[true, true, true, true, true, true, false, false, false, false, false, false, false] rfl rfl (any_of HT_.out (by kernel_rfl)) (fun _ _ _ h => h) (Or.inl ⟨by rfl, ?_⟩) ?_ ?_
                                  rotate_left
                                  · intro w'
                                    go_simp
                                    with_reducible rfl
                                  rotate_left
                                  · simp only [Act.put, List.setIfInBounds_toArray, List.set_cons_zero, List.set_cons_succ, i64_w, i32_w]
                                    rfl
                                  refine pure_ (i := 6) (N := some 25) (v := ?_) (a' := ?_) #[true, true, true, true, true, true, true, false, false, false, false, false, false] rfl rfl (any_of HT_.out (by kernel_rfl)) (fun _ _ _ h => h) (Or.inl ⟨by rfl, ?_⟩) ?_ ?_
                                  rotate_left
                                  · intro w'
                                    go_simp
                                    with_reducible rfl
                                  rotate_left
                                  · simp only [Act.put, List.setIfInBounds_toArray, List.set_cons_zero, List.set_cons_succ, i64_w, i32_w]
                                    rfl
                                  refine pure_ (i := 7) (N := some 26) (v := ?_) (a' := ?_) #[true, true, true, true, true, true, true, true, false, false, false, false, false] rfl rfl (any_of HT_.out (by kernel_rfl)) (fun _ _ _ h => h) (Or.inl ⟨by rfl, ?_⟩) ?_ ?_
                                  rotate_left
                                  · intro w'
                                    go_simp
                                    with_reducible rfl
                                  rotate_left
                                  · simp only [Act.put, List.setIfInBounds_toArray, List.set_cons_zero, List.set_cons_succ, i64_w, i32_w]
                                    rfl
                                  refine pure_ (i := 9) (N := some 28) (v := ?_) (a' := ?_) #[true, true, true, true, true, true, true, true, false, true, false, false, false] rfl rfl (any_of HT_.out (by kernel_rfl)) (fun _ _ _ h => h) (Or.inl ⟨by rfl, ?_⟩) ?_ ?_
                                  rotate_left
                                  · intro w'
                                    go_simp
                                    with_reducible rfl
                                  rotate_left
                                  · simp only [Act.put, List.setIfInBounds_toArray, List.set_cons_zero, List.set_cons_succ, i64_w, i32_w]
                                    rfl
                                  refine take_ (i := 8) (N := some 27) (v := ?_) (a' := ?_) #[true, true, true, true, true, true, true, true, true, true, false, false, false] rfl rfl (take_ofW HT_.out HW_.out (by kernel_rfl)) (fun _ _ _ h => h) (Or.inl ⟨by rfl, ?_⟩) hHeld ?_ ?_
                                  rotate_left
                                  · rintro w' ⟨s0, s1, s2, s3⟩
                                    go_simp
                                    with_reducible rfl
                                  rotate_left
                                  · simp only [Act.put, List.setIfInBounds_toArray, List.set_cons_zero, List.set_cons_succ, i64_w, i32_w]
                                    rfl
                                  refine take_ (i := 10) (N := some 29) (v := ?_) (a' := ?_) #[true, true, true, true, true, true, true, true, true, true, true, false, false] rfl rfl (take_ofW HT_.out HW_.out (by kernel_rfl)) (fun _ _ _ h => h) (Or.inl ⟨by rfl, ?_⟩) hHeld ?_ ?_
                                  rotate_left
                                  · rintro w' ⟨s0, s1, s2, s3⟩
                                    go_simp
                                    with_reducible rfl
                                  rotate_left
                                  · simp only [Act.put, List.setIfInBounds_toArray, List.set_cons_zero, List.set_cons_succ, i64_w, i32_w]
                                    rfl
                                  refine pure_ (i := 11) (N := some 30) (v := ?_) (a' := ?_) #[true, true, true, true, true, true, true, true, true, true, true, true, false] rfl rfl (any_of HT_.out (by kernel_rfl)) (fun _ _ _ h => h) (Or.inl ⟨by rfl, ?_⟩) ?_ ?_
                                  rotate_left
                                  · intro w'
                                    go_simp
                                    with_reducible rfl
                                  rotate_left
                                  · simp only [Act.put, List.setIfInBounds_toArray, List.set_cons_zero, List.set_cons_succ, i64_w, i32_w]
                                    rfl
                                  refine pure_ (i := 12) (N := some 31) (v := ?_) (a' := ?_) #[true, true, true, true, true, true, true, true, true, true, true, true, true] rfl rfl (any_of HT_.out (by kernel_rfl)) (fun _ _ _ h => h) (Or.inl ⟨by rfl, ?_⟩) ?_ ?_
                                  rotate_left
                                  · intro w'
                                    go_simp
                                    with_reducible rfl
                                  rotate_left
                                  · simp only [Act.put, List.setIfInBounds_toArray, List.set_cons_zero, List.set_cons_succ, i64_w, i32_w]
                                    rfl
                                  refine done_ (done_of HT_.out (by kernel_rfl)) ?_
                                  try go_wp2
                                  have n0_ := Aside0.mk (Kd.V_drew HO_3.out)
                                  have n1_ := Aside0.mk (blk_drew BK466.out)
                                  have n2_ := Aside0.mk (below_drew1 HB.out)
                                  clear HO_3
                                  clear BK466
                                  clear HB
                                  have HO_3 := n0_
                                  have BK466 := n1_
                                  have HB := n2_
                                  clear n0_ n1_ n2_
                                  have q23 : (x7_2 : Int) ≤ ((x3_1.length : Int) : Int) := of_decide_eq_true (by first | (with_reducible assumption) | assumption)
                                  obtain ⟨i023, hi023, _, hsz23, _⟩ := info_parts info56
                                  have hroom23 : x3_1.length ≤ co7 := (Kd.V_reads' HO_3.out).2.1
                                  have hC23 : Kd.F k56 _ _ (some ad467) x3_1.length x3_1 := (Kd.V_at (base := w.heap.size) HO_3.out).2.2
                                  have hcut23 := cut_to (P := Try.prog) 40 56 .i64 Try.underlying40 hi023 (some ad467) x3_1.length co7 x7_2 (of_decide_eq_true (by first | (with_reducible assumption) | assumption)) q23 hroom23
                                  have hr23 := Kd.F_take (m := (x7_2 : Int).toNat) hC23 (by omega)
                                  have hy23 : y468.length = (x7_2 : Int).toNat := (by rw [Ny468.out, List.length_take]; omega)
                                  rw [← Ny468.out] at hr23
                                  rw [← hy23] at hcut23
                                  have HO472 := Aside0.mk (show Kd.V k56 56 _ w.heap.size _ (.slice (some ad467) y468.length co7) y468 from Kd.V_mk (by omega) hr23)
                                  have HC472 := Aside0.mk (show y468.length ≤ co7 from by omega)
                                  clear hr23 hC23 hroom23 hi023 hsz23
                                  have KY23 := Aside0.mk hy23
                                  clear hy23
                                  replace q23 := eq_true q23
                                  have q24 : (x7_2 : Int) ≤ ((x3_1.length : Int) : Int) := of_decide_eq_true (by first | (with_reducible assumption) | assumption)
                                  obtain ⟨i024, hi024, _, hsz24, _⟩ := info_parts info56
                                  have hroom24 : x3_1.length ≤ co7 := (Kd.V_reads' HO_3.out).2.1
                                  have hC24 : Kd.F k56 _ _ (some ad467) x3_1.length x3_1 := (Kd.V_at (base := w.heap.size) HO_3.out).2.2
                                  have q024 : (0 : Int) ≤ (x7_2 : Int) := of_decide_eq_true (by first | (with_reducible assumption) | assumption)
                                  have hcut24 := cut_from (P := Try.prog) 40 56 .i64 Try.underlying40 hi024 2 hsz24 (some ad467) x3_1.length co7 x7_2 q024 q24
                                  have hr24 := Kd.F_cut (m := (x7_2 : Int).toNat) (c := co7) hC24 (by omega) hroom24
                                  obtain ⟨A24, hA24⟩ : ∃ A1, A1 = (if co7 = (x7_2 : Int).toNat then (some ad467) else ((some ad467) : Option Addr).map (·.add ((x7_2 : Int).toNat * 2))) := ⟨_, rfl⟩
                                  obtain ⟨c24, hc24⟩ : ∃ c1, c1 = co7 - (x7_2 : Int).toNat := ⟨_, rfl⟩
                                  have hy24 : y482.length = x3_1.length - (x7_2 : Int).toNat := (by rw [Ny482.out, List.length_drop] <;> omega)
                                  rw [show (x3_1).drop (x7_2 : Int).toNat = y482 from Ny482.out.symm] at hr24
                                  replace hr24 : Kd.F k56 _ _ A24 y482.length y482 := (by rw [hA24]; exact hr24)
                                  rw [← hy24, ← hA24, ← hc24] at hcut24
                                  have HO486 := Aside0.mk (show Kd.V k56 56 _ w.heap.size _ (.slice A24 y482.length c24) y482 from Kd.V_mk (by rw [hy24, hc24]; exact Nat.sub_le_sub_right hroom24 _) hr24)
                                  have HC486 := Aside0.mk (show y482.length ≤ c24 from by rw [hy24, hc24]; exact Nat.sub_le_sub_right hroom24 _)
                                  clear hr24 hC24 hroom24 hi024 hsz24 hc24
                                  have KY24 := Aside0.mk hy24
                                  have KA24 := Aside0.mk hA24
                                  clear hy24 hA24
                                  replace q24 := eq_true q24
                                  refine start_ (n := 12) (S := fun w' => w'.cell? ⟨gb466, 0, none⟩ = some (.int .i64 ((rd_T56 l0 x13_1).f0)) ∧ w'.cell? ⟨gb466, 1, none⟩ = some (.int .i64 ((rd_T56 l0 x13_1).f1))) (ds := []) #[false, false, false, false, false, false, false, false, false, false, false, false] (by kernel_rfl) rfl rfl ⟨(blk_cell BK466.out 0).trans rfl, (blk_cell BK466.out 1).trans rfl⟩ (fun hHeld => ?_); refine with_tabW soundserviceref09_joined.tab8 soundserviceref09_joined.bits8 (fun HT_ HW_ => ?_)
                                  generalize w21.drew = w22 at HO_3 BK466 HB HO472 HO486 hHeld ⊢
                                  refine pure_ (i := 0) (N := some 34) (v := ?_) (a' := ?_) #[true, false, false, false, false, false, false, false, false, false, false, false] rfl rfl (any_of HT_.out (by kernel_rfl)) (fun _ _ _ h => h) (Or.inl ⟨by rfl, ?_⟩) ?_ ?_
                                  rotate_left
                                  · intro w'
                                    go_simp
                                    with_reducible rfl
                                  rotate_left
                                  · simp only [Act.put, List.setIfInBounds_toArray, List.set_cons_zero, List.set_cons_succ, i64_w, i32_w]
                                    rfl
                                  refine pure_ (i := 1) (N := some 35) (v := ?_) (a' := ?_) #[true, true, false, false, false, false, false, false, false, false, false, false] rfl rfl (any_of HT_.out (by kernel_rfl)) (fun _ _ _ h => h) (Or.inl ⟨by rfl, ?_⟩) ?_ ?_
                                  rotate_left
                                  · intro w'
                                    go_simp
                                    with_reducible rfl
                                  rotate_left
                                  · simp only [Act.put, List.setIfInBounds_toArray, List.set_cons_zero, List.set_cons_succ, i64_w, i32_w]
                                    rfl
                                  refine pure_ (i := 2) (N := some 36) (v := ?_) (a' := ?_) #[true, true, true, false, false, false, false, false, false, false, false, false] rfl rfl (any_of HT_.out (by kernel_rfl)) (fun _ _ _ h => h) (Or.inl ⟨by rfl, ?_⟩) ?_ ?_
                                  rotate_left
                                  · intro w'
                                    go_simp
                                    with_reducible rfl
                                  rotate_left
                                  · simp only [Act.put, List.setIfInBounds_toArray, List.set_cons_zero, List.set_cons_succ, i64_w, i32_w]
                                    rfl
                                  refine pure_ (i := 7) (N := some 41) (v := ?_) (a' := ?_) #[true, true, true, false, false, false, false, true, false, false, false, false] rfl rfl (any_of HT_.out (by kernel_rfl)) (fun _ _ _ h => h) (Or.inl ⟨by rfl, ?_⟩) ?_ ?_
                                  rotate_left
                                  · intro w'
                                    go_simp
                                    with_reducible rfl
                                  rotate_left
                                  · simp only [Act.put, List.setIfInBounds_toArray, List.set_cons_zero, List.set_cons_succ, i64_w, i32_w]
                                    rfl
                                  refine pure_ (i := 8) (N := some 42) (v := ?_) (a' := ?_) #[true, true, true, false, false, false, false, true, true, false, false, false] rfl rfl (any_of HT_.out (by kernel_rfl)) (fun _ _ _ h => h) (Or.inl ⟨by rfl, ?_⟩) ?_ ?_
                                  rotate_left
                                  · intro w'
                                    go_simp
                                    with_reducible rfl
                                  rotate_left
                                  · simp only [Act.put, List.setIfInBounds_toArray, List.set_cons_zero, List.set_cons_succ, i64_w, i32_w]
                                    rfl
                                  refine pure_ (i := 9) (N := some 43) (v := ?_) (a' := ?_) #[true, true, true, false, false, false, false, true, true, true, false, false] rfl rfl (any_of HT_.out (by kernel_rfl)) (fun _ _ _ h => h) (Or.inl ⟨by rfl, ?_⟩) ?_ ?_
                                  rotate_left
                                  · intro w'
                                    go_simp
                                    with_reducible rfl
                                  rotate_left
                                  · simp only [Act.put, List.setIfInBounds_toArray, List.set_cons_zero, List.set_cons_succ, i64_w, i32_w]
                                    rfl
                                  refine take_ (i := 4) (N := some 38) (v := ?_) (a' := ?_) #[true, true, true, false, true, false, false, true, true, true, false, false] rfl rfl (take_ofW HT_.out HW_.out (by kernel_rfl)) (fun _ _ _ h => h) (Or.inl ⟨by rfl, ?_⟩) hHeld ?_ ?_
                                  rotate_left
                                  · rintro w' ⟨s0, s1⟩
                                    go_simp
                                    with_reducible rfl
                                  rotate_left
                                  · simp only [Act.put, List.setIfInBounds_toArray, List.set_cons_zero, List.set_cons_succ, i64_w, i32_w]
                                    rfl
                                  refine join_ (σ := Value × Value) 3 #[true, true, true, true, true, true, false, true, true, true, false, false] (fun s_ => [(37, s_.1), (39, s_.2)]) (fun s_ w' => (w'.cell? ⟨gb466, 0, none⟩ = some (.int .i64 ((rd_T56 l0 x13_1).f0)) ∧ w'.cell? ⟨gb466, 1, none⟩ = some (.int .i64 ((rd_T56 l0 x13_1).f1))) ∧ (Kd.V k56 56 w' w.heap.size (fun k_ => some k_ ≠ (s_.1 : Value).ownBlock ∧ some k_ ≠ (s_.2 : Value).ownBlock ∧ k_ ≠ gb466) (.slice (some ad467) y468.length co7) y468) ∧ (Kd.R k56 56 w' w.heap.size (fun k_ => some k_ ≠ (s_.2 : Value).ownBlock ∧ k_ ≠ gb466) s_.1 y473) ∧ (Kd.R k56 56 w' w.heap.size (fun k_ => some k_ ≠ (s_.1 : Value).ownBlock ∧ k_ ≠ gb466) s_.2 y476) ∧ (Kd.V k56 56 w' w.heap.size (fun k_ => some k_ ≠ (s_.1 : Value).ownBlock ∧ some k_ ≠ (s_.2 : Value).ownBlock ∧ k_ ≠ gb466) (.slice A24 y482.length c24) y482) ∧ (Kd.V k56 56 w' w.heap.size (fun k_ => some k_ ≠ (s_.1 : Value).ownBlock ∧ some k_ ≠ (s_.2 : Value).ownBlock ∧ k_ ≠ gb466) (.slice (some ad467) x3_1.length co7) x3_1) ∧ (w'.heap[gb466]? = some (.cells #[.int .i64 ((rd_T56 l0 x13_1).f0), .int .i64 ((rd_T56 l0 x13_1).f1)] 56 (0, 0))) ∧ (Below w.heap.size w w')) ?_ ?_
                                  rotate_left
                                  · intro hCont
                                    refine two_ (i := 3) (j := 5) (Ni := some 37) (Nj := some 39) #[true, true, true, true, true, false, false, true, true, true, false, false] #[true, true, true, false, true, true, false, true, true, true, false, false] rfl rfl rfl rfl (two_of HT_.out (by kernel_rfl)) (by decide) (by decide) (fun K hK => ?_) (fun K hK => ?_)
                                    · skip
                                      refine Kd.R_append_rows_step k56 (w0 := w) w.heap.size rfl (.const (.slice none 0 0)) (.tmp 36) 40 56 (.agg #[(.int .i64 0), (.int .i64 0)]) 16 rfl Try.underlying40 info56 rfl (by decide) (by omega) (.slice none 0 0) ([] : List (S56)) y468 _ _ _ (fun k_ => k_ ≠ gb466) (fun _ => False) rfl rfl ?aO ?aR (fun _ _ h => h) (fun _ h => h.elim) ?aF ?aB ?aS ?aL ?_
                                      (case aR => repeat (first | exact (Kd.V_reads' HO472.out).2.2 | (with_reducible refine Kd.C_alloc ?_ _) | (with_reducible refine Kd.C_drewN ?_ _) | (with_reducible refine Kd.C_drew ?_)))
                                      (case aB => exact (by repeat (first | (with_reducible first | exact HB.out | apply below_alloc | apply pw_below_drewN | apply below_drew1 | refine below_set ?_ GE466.out) | exact HB.out)))
                                      (case aF => exact (fun k_ hk => Kd.freshB (g := gb466) (o := .cells #[.int .i64 ((rd_T56 l0 x13_1).f0), .int .i64 ((rd_T56 l0 x13_1).f1)] 56 (0, 0)) (by (with_reducible repeat (first | refine blk_drewN ?_ _ | refine blk_drew ?_ | refine blk_alloc ?_ _)); exact BK466.out) k_ hk))
                                      (case aO => exact ((Kd.R_nil _ _ _ _ (fun k_ => k_ ≠ gb466))))
                                      (case aS => exact (below_size (by repeat (first | (with_reducible first | exact HB.out | apply below_alloc | apply pw_below_drewN | apply below_drew1 | refine below_set ?_ GE466.out) | exact HB.out))))
                                      (case aL => have := LMc16.out; omega)
                                      intro v474 w25 ho hb hg hat
                                      rw [← Ny473.out] at ho
                                      have n0_ := Aside0.mk (Kd.V_afterv (Kd.V_apart_nil (by (with_reducible repeat (first | apply Kd.V_alloc | apply Kd.V_drewN | apply Kd.V_drew)); exact HO_3.out)) hg hat)
                                      have n1_ := Aside0.mk (blk_grown (g := gb466) (o := .cells #[.int .i64 ((rd_T56 l0 x13_1).f0), .int .i64 ((rd_T56 l0 x13_1).f1)] 56 (0, 0)) (by (with_reducible repeat (first | refine blk_drewN ?_ _ | refine blk_drew ?_ | refine blk_alloc ?_ _)); exact BK466.out) hg (by simp [Value.ownBlock]))
                                      have n2_ := Aside0.mk (Kd.V_afterv (Kd.V_apart_nil (by (with_reducible repeat (first | apply Kd.V_alloc | apply Kd.V_drewN | apply Kd.V_drew)); exact HO472.out)) hg hat)
                                      have n3_ := Aside0.mk (Kd.V_afterv (Kd.V_apart_nil (by (with_reducible repeat (first | apply Kd.V_alloc | apply Kd.V_drewN | apply Kd.V_drew)); exact HO486.out)) hg hat)
                                      have n4_ := Aside0.mk (hb)
                                      have n5_ := Aside0.mk (ho)
                                      clear HO_3
                                      clear BK466
                                      clear HO472
                                      clear HO486
                                      clear HB
                                      have HO_3 := n0_
                                      have BK466 := n1_
                                      have HO472 := n2_
                                      have HO486 := n3_
                                      have HB := n4_
                                      have HO475 := n5_
                                      clear n0_ n1_ n2_ n3_ n4_ n5_
                                      clear ho hb hg hat
                                      refine hK.out _ _ ⟨(blk_cell BK466.out 0).trans rfl, (blk_cell BK466.out 1).trans rfl⟩ (fun hHeld => ?_)
                                      clear hK K
                                      refine norm_ (a' := ?_) ?_ ?_
                                      rotate_left
                                      · show Act.put _ (some 37) _ = _
                                        simp only [Act.put, List.setIfInBounds_toArray, List.set_cons_zero, List.set_cons_succ, i64_w, i32_w]
                                        rfl
                                      refine one_ (i := 5) (N := some 39) #[true, true, true, true, true, true, false, true, true, true, false, false] rfl rfl (one_of HT_.out (by kernel_rfl)) (by decide) (fun K hK => ?_)
                                      refine Kd.R_lit_step k56 _ 56 ?hg (N := 39) ?hd (xs := ([(⟨((rd_T56 l0 x13_1).f0), ((rd_T56 l0 x13_1).f1)⟩ : S56)] : List (S56))) (inner := [.int .i64 ((rd_T56 l0 x13_1).f0), .int .i64 ((rd_T56 l0 x13_1).f1)]) (ok := fun _ => True) (okp := fun _ => True) ?hr ?hp (fun _ hk => hk) trivial (Below.refl _ _) (Nat.le_refl _) (by simp) ?_; (case hd => rfl); (case hg => rfl); (case hr => first | (go_simp; done) | (go_simp; rfl)); (case hp => exact (Reps.c2 (show Kd.M k56 _ _ _ (⟨((rd_T56 l0 x13_1).f0), ((rd_T56 l0 x13_1).f1)⟩ : S56) [.int .i64 ((rd_T56 l0 x13_1).f0), .int .i64 ((rd_T56 l0 x13_1).f1)] from (k56_mkM _ _ _ (⟨((rd_T56 l0 x13_1).f0), ((rd_T56 l0 x13_1).f1)⟩ : S56) )) (Reps.none _ _)))
                                      intro v477 w26 ho27 hb hg_ hnew_
                                      clear hg_ hnew_
                                      (first | rw [← Ny476.out] at ho27 | (simp only [Int.reduceToNat] at ho27; rw [← Ny476.out] at ho27))
                                      have n0_ := Aside0.mk (Kd.V_elder' (by (with_reducible repeat (first | apply Kd.V_alloc | apply Kd.V_drewN | apply Kd.V_drew)); exact HO_3.out) (Kd.R_base ho27) hb)
                                      have n1_ := Aside0.mk (Kd.V_elder' (by (with_reducible repeat (first | apply Kd.V_alloc | apply Kd.V_drewN | apply Kd.V_drew)); exact HO472.out) (Kd.R_base ho27) hb)
                                      have n2_ := Aside0.mk (Kd.V_elder' (by (with_reducible repeat (first | apply Kd.V_alloc | apply Kd.V_drewN | apply Kd.V_drew)); exact HO486.out) (Kd.R_base ho27) hb)
                                      have n3_ := Aside0.mk (Kd.R_elder' (by (with_reducible repeat (first | apply Kd.R_alloc | apply Kd.R_drewN | apply Kd.R_drew)); exact HO475.out) (Kd.R_base ho27) hb)
                                      have n4_ := Aside0.mk (Kd.R_lower (Kd.R_newB (Kd.R_new' ho27 (Kd.R_lt (by (with_reducible repeat (first | apply Kd.R_alloc | apply Kd.R_drewN | apply Kd.R_drew)); exact HO475.out))) (g := gb466) (o := .cells #[.int .i64 ((rd_T56 l0 x13_1).f0), .int .i64 ((rd_T56 l0 x13_1).f1)] 56 (0, 0)) (by (with_reducible repeat (first | refine blk_drewN ?_ _ | refine blk_drew ?_ | refine blk_alloc ?_ _)); exact BK466.out)) (below_size (by repeat (first | (with_reducible first | exact HB.out | apply below_alloc | apply pw_below_drewN | apply below_drew1 | refine below_set ?_ GE466.out) | exact HB.out))))
                                      have n5_ := Aside0.mk (blk_below (g := gb466) (o := .cells #[.int .i64 ((rd_T56 l0 x13_1).f0), .int .i64 ((rd_T56 l0 x13_1).f1)] 56 (0, 0)) (by (with_reducible repeat (first | refine blk_drewN ?_ _ | refine blk_drew ?_ | refine blk_alloc ?_ _)); exact BK466.out) hb)
                                      have n6_ := Aside0.mk (below_step (by repeat (first | (with_reducible first | exact HB.out | apply below_alloc | apply pw_below_drewN | apply below_drew1 | refine below_set ?_ GE466.out) | exact HB.out)) hb)
                                      clear HO_3
                                      clear HO472
                                      clear HO486
                                      clear HO475
                                      clear BK466
                                      clear HB
                                      have HO_3 := n0_
                                      have HO472 := n1_
                                      have HO486 := n2_
                                      have HO475 := n3_
                                      have HO478 := n4_
                                      have BK466 := n5_
                                      have HB := n6_
                                      clear n0_ n1_ n2_ n3_ n4_ n5_ n6_
                                      clear hb ho27
                                      refine hK.out _ _ ⟨(blk_cell BK466.out 0).trans rfl, (blk_cell BK466.out 1).trans rfl⟩ (fun hHeld => ?_)
                                      clear hK K
                                      refine norm_ (a' := ?_) ?_ ?_
                                      rotate_left
                                      · show Act.put _ (some 39) _ = _
                                        simp only [Act.put, List.setIfInBounds_toArray, List.set_cons_zero, List.set_cons_succ, i64_w, i32_w]
                                        rfl
                                      exact norm_ (by simp only [putAll, Act.put, List.setIfInBounds_toArray, List.set_cons_zero, List.set_cons_succ]) (hCont (v474, v477) _ ⟨hHeld, (by (with_reducible repeat (first | apply Kd.V_alloc | apply Kd.V_drewN | apply Kd.V_drew)); exact Kd.V_mono HO472.out (fun _ hk => ⟨hk.1.2, ⟨hk.2, hk.1.1⟩⟩)), (by (with_reducible repeat (first | apply Kd.R_alloc | apply Kd.R_drewN | apply Kd.R_drew)); exact Kd.R_mono HO475.out (fun _ hk => ⟨hk.2, hk.1⟩)), (by (with_reducible repeat (first | apply Kd.R_alloc | apply Kd.R_drewN | apply Kd.R_drew)); exact Kd.R_mono HO478.out (fun _ hk => ⟨hk.1.2, hk.2⟩)), (by (with_reducible repeat (first | apply Kd.V_alloc | apply Kd.V_drewN | apply Kd.V_drew)); exact Kd.V_mono HO486.out (fun _ hk => ⟨hk.1.2, ⟨hk.2, hk.1.1⟩⟩)), (by (with_reducible repeat (first | apply Kd.V_alloc | apply Kd.V_drewN | apply Kd.V_drew)); exact Kd.V_mono HO_3.out (fun _ hk => ⟨hk.1.2, ⟨hk.2, hk.1.1⟩⟩)), (by (with_reducible repeat (first | refine blk_drewN ?_ _ | refine blk_drew ?_ | refine blk_alloc ?_ _)); exact BK466.out), (by repeat (first | (with_reducible first | exact HB.out | apply below_alloc | apply pw_below_drewN | apply below_drew1 | refine below_set ?_ GE466.out) | exact HB.out))⟩)
                                    · skip
                                      refine Kd.R_lit_step k56 _ 56 ?hg (N := 39) ?hd (xs := ([(⟨((rd_T56 l0 x13_1).f0), ((rd_T56 l0 x13_1).f1)⟩ : S56)] : List (S56))) (inner := [.int .i64 ((rd_T56 l0 x13_1).f0), .int .i64 ((rd_T56 l0 x13_1).f1)]) (ok := fun _ => True) (okp := fun _ => True) ?hr ?hp (fun _ hk => hk) trivial (Below.refl _ _) (Nat.le_refl _) (by simp) ?_; (case hd => rfl); (case hg => rfl); (case hr => first | (go_simp; done) | (go_simp; rfl)); (case hp => exact (Reps.c2 (show Kd.M k56 _ _ _ (⟨((rd_T56 l0 x13_1).f0), ((rd_T56 l0 x13_1).f1)⟩ : S56) [.int .i64 ((rd_T56 l0 x13_1).f0), .int .i64 ((rd_T56 l0 x13_1).f1)] from (k56_mkM _ _ _ (⟨((rd_T56 l0 x13_1).f0), ((rd_T56 l0 x13_1).f1)⟩ : S56) )) (Reps.none _ _)))
                                      intro v477 w25 ho26 hb hg_ hnew_
                                      clear hg_ hnew_
                                      (first | rw [← Ny476.out] at ho26 | (simp only [Int.reduceToNat] at ho26; rw [← Ny476.out] at ho26))
                                      have n0_ := Aside0.mk (Kd.V_elder' (by (with_reducible repeat (first | apply Kd.V_alloc | apply Kd.V_drewN | apply Kd.V_drew)); exact HO_3.out) (Kd.R_base ho26) hb)
                                      have n1_ := Aside0.mk (Kd.V_elder' (by (with_reducible repeat (first | apply Kd.V_alloc | apply Kd.V_drewN | apply Kd.V_drew)); exact HO472.out) (Kd.R_base ho26) hb)
                                      have n2_ := Aside0.mk (Kd.V_elder' (by (with_reducible repeat (first | apply Kd.V_alloc | apply Kd.V_drewN | apply Kd.V_drew)); exact HO486.out) (Kd.R_base ho26) hb)
                                      have n3_ := Aside0.mk (Kd.R_lower (Kd.R_newB ho26 (g := gb466) (o := .cells #[.int .i64 ((rd_T56 l0 x13_1).f0), .int .i64 ((rd_T56 l0 x13_1).f1)] 56 (0, 0)) (by (with_reducible repeat (first | refine blk_drewN ?_ _ | refine blk_drew ?_ | refine blk_alloc ?_ _)); exact BK466.out)) (below_size (by repeat (first | (with_reducible first | exact HB.out | apply below_alloc | apply pw_below_drewN | apply below_drew1 | refine below_set ?_ GE466.out) | exact HB.out))))
                                      have n4_ := Aside0.mk (blk_below (g := gb466) (o := .cells #[.int .i64 ((rd_T56 l0 x13_1).f0), .int .i64 ((rd_T56 l0 x13_1).f1)] 56 (0, 0)) (by (with_reducible repeat (first | refine blk_drewN ?_ _ | refine blk_drew ?_ | refine blk_alloc ?_ _)); exact BK466.out) hb)
                                      have n5_ := Aside0.mk (below_step (by repeat (first | (with_reducible first | exact HB.out | apply below_alloc | apply pw_below_drewN | apply below_drew1 | refine below_set ?_ GE466.out) | exact HB.out)) hb)
                                      clear HO_3
                                      clear HO472
                                      clear HO486
                                      clear BK466
                                      clear HB
                                      have HO_3 := n0_
                                      have HO472 := n1_
                                      have HO486 := n2_
                                      have HO478 := n3_
                                      have BK466 := n4_
                                      have HB := n5_
                                      clear n0_ n1_ n2_ n3_ n4_ n5_
                                      clear hb ho26
                                      refine hK.out _ _ ⟨(blk_cell BK466.out 0).trans rfl, (blk_cell BK466.out 1).trans rfl⟩ (fun hHeld => ?_)
                                      clear hK K
                                      refine norm_ (a' := ?_) ?_ ?_
                                      rotate_left
                                      · show Act.put _ (some 39) _ = _
                                        simp only [Act.put, List.setIfInBounds_toArray, List.set_cons_zero, List.set_cons_succ, i64_w, i32_w]
                                        rfl
                                      refine one_ (i := 3) (N := some 37) #[true, true, true, true, true, true, false, true, true, true, false, false] rfl rfl (one_of HT_.out (by kernel_rfl)) (by decide) (fun K hK => ?_)
                                      refine Kd.R_append_rows_step k56 (w0 := w) w.heap.size rfl (.const (.slice none 0 0)) (.tmp 36) 40 56 (.agg #[(.int .i64 0), (.int .i64 0)]) 16 rfl Try.underlying40 info56 rfl (by decide) (by omega) (.slice none 0 0) ([] : List (S56)) y468 _ _ _ (fun k_ => some k_ ≠ (v477 : Value).ownBlock ∧ k_ ≠ gb466) (fun _ => False) rfl rfl ?aO ?aR (fun _ _ h => h) (fun _ h => h.elim) ?aF ?aB ?aS ?aL ?_
                                      (case aR => repeat (first | exact (Kd.V_reads' HO472.out).2.2 | (with_reducible refine Kd.C_alloc ?_ _) | (with_reducible refine Kd.C_drewN ?_ _) | (with_reducible refine Kd.C_drew ?_)))
                                      (case aB => exact (by repeat (first | (with_reducible first | exact HB.out | apply below_alloc | apply pw_below_drewN | apply below_drew1 | refine below_set ?_ GE466.out) | exact HB.out)))
                                      (case aF => exact (fun k_ hk => ⟨Kd.fresh' (Kd.R_lt (by (with_reducible repeat (first | apply Kd.R_alloc | apply Kd.R_drewN | apply Kd.R_drew)); exact HO478.out)) k_ hk, Kd.freshB (g := gb466) (o := .cells #[.int .i64 ((rd_T56 l0 x13_1).f0), .int .i64 ((rd_T56 l0 x13_1).f1)] 56 (0, 0)) (by (with_reducible repeat (first | refine blk_drewN ?_ _ | refine blk_drew ?_ | refine blk_alloc ?_ _)); exact BK466.out) k_ hk⟩))
                                      (case aO => exact ((Kd.R_nil _ _ _ _ (fun k_ => some k_ ≠ (v477 : Value).ownBlock ∧ k_ ≠ gb466))))
                                      (case aS => exact (below_size (by repeat (first | (with_reducible first | exact HB.out | apply below_alloc | apply pw_below_drewN | apply below_drew1 | refine below_set ?_ GE466.out) | exact HB.out))))
                                      (case aL => have := LMc16.out; omega)
                                      intro v474 w27 ho hb hg hat
                                      rw [← Ny473.out] at ho
                                      have n0_ := Aside0.mk (Kd.V_afterv (Kd.V_apart_nil (by (with_reducible repeat (first | apply Kd.V_alloc | apply Kd.V_drewN | apply Kd.V_drew)); exact HO_3.out)) hg hat)
                                      have n1_ := Aside0.mk (blk_grown (g := gb466) (o := .cells #[.int .i64 ((rd_T56 l0 x13_1).f0), .int .i64 ((rd_T56 l0 x13_1).f1)] 56 (0, 0)) (by (with_reducible repeat (first | refine blk_drewN ?_ _ | refine blk_drew ?_ | refine blk_alloc ?_ _)); exact BK466.out) hg (by simp [Value.ownBlock]))
                                      have n2_ := Aside0.mk (Kd.V_afterv (Kd.V_apart_nil (by (with_reducible repeat (first | apply Kd.V_alloc | apply Kd.V_drewN | apply Kd.V_drew)); exact HO472.out)) hg hat)
                                      have n3_ := Aside0.mk (Kd.V_afterv (Kd.V_apart_nil (by (with_reducible repeat (first | apply Kd.V_alloc | apply Kd.V_drewN | apply Kd.V_drew)); exact HO486.out)) hg hat)
                                      have n4_ := Aside0.mk (Kd.R_after (Kd.R_apart_nil (by (with_reducible repeat (first | apply Kd.R_alloc | apply Kd.R_drewN | apply Kd.R_drew)); exact HO478.out)) hg hat)
                                      have n5_ := Aside0.mk (hb)
                                      have n6_ := Aside0.mk (ho)
                                      clear HO_3
                                      clear BK466
                                      clear HO472
                                      clear HO486
                                      clear HO478
                                      clear HB
                                      have HO_3 := n0_
                                      have BK466 := n1_
                                      have HO472 := n2_
                                      have HO486 := n3_
                                      have HO478 := n4_
                                      have HB := n5_
                                      have HO475 := n6_
                                      clear n0_ n1_ n2_ n3_ n4_ n5_ n6_
                                      clear ho hb hg hat
                                      refine hK.out _ _ ⟨(blk_cell BK466.out 0).trans rfl, (blk_cell BK466.out 1).trans rfl⟩ (fun hHeld => ?_)
                                      clear hK K
                                      refine norm_ (a' := ?_) ?_ ?_
                                      rotate_left
                                      · show Act.put _ (some 37) _ = _
                                        simp only [Act.put, List.setIfInBounds_toArray, List.set_cons_zero, List.set_cons_succ, i64_w, i32_w]
                                        rfl
                                      exact norm_ (by simp only [putAll, Act.put, List.setIfInBounds_toArray, List.set_cons_zero, List.set_cons_succ]) (hCont (v474, v477) _ ⟨hHeld, (by (with_reducible repeat (first | apply Kd.V_alloc | apply Kd.V_drewN | apply Kd.V_drew)); exact Kd.V_mono HO472.out (fun _ hk => ⟨hk.2, ⟨hk.1.2, hk.1.1⟩⟩)), (by (with_reducible repeat (first | apply Kd.R_alloc | apply Kd.R_drewN | apply Kd.R_drew)); exact HO475.out), (by (with_reducible repeat (first | apply Kd.R_alloc | apply Kd.R_drewN | apply Kd.R_drew)); exact Kd.R_mono HO478.out (fun _ hk => ⟨hk.2, hk.1.2⟩)), (by (with_reducible repeat (first | apply Kd.V_alloc | apply Kd.V_drewN | apply Kd.V_drew)); exact Kd.V_mono HO486.out (fun _ hk => ⟨hk.2, ⟨hk.1.2, hk.1.1⟩⟩)), (by (with_reducible repeat (first | apply Kd.V_alloc | apply Kd.V_drewN | apply Kd.V_drew)); exact Kd.V_mono HO_3.out (fun _ hk => ⟨hk.2, ⟨hk.1.2, hk.1.1⟩⟩)), (by (with_reducible repeat (first | refine blk_drewN ?_ _ | refine blk_drew ?_ | refine blk_alloc ?_ _)); exact BK466.out), (by repeat (first | (with_reducible first | exact HB.out | apply below_alloc | apply pw_below_drewN | apply below_drew1 | refine below_set ?_ GE466.out) | exact HB.out))⟩)
                                  rintro ⟨v474, v477⟩ w28 ⟨hS_, h0_, h1_, h2_, h3_, h4_, h5_, h6_⟩
                                  have n0_ : Aside0 (Kd.V k56 56 w28 w.heap.size (fun k_ => some k_ ≠ (v474 : Value).ownBlock ∧ some k_ ≠ (v477 : Value).ownBlock ∧ k_ ≠ gb466) (.slice (some ad467) y468.length co7) y468) := ⟨h0_⟩
                                  have n1_ : Aside0 (Kd.R k56 56 w28 w.heap.size (fun k_ => some k_ ≠ (v477 : Value).ownBlock ∧ k_ ≠ gb466) v474 y473) := ⟨h1_⟩
                                  have n2_ : Aside0 (Kd.R k56 56 w28 w.heap.size (fun k_ => some k_ ≠ (v474 : Value).ownBlock ∧ k_ ≠ gb466) v477 y476) := ⟨h2_⟩
                                  have n3_ : Aside0 (Kd.V k56 56 w28 w.heap.size (fun k_ => some k_ ≠ (v474 : Value).ownBlock ∧ some k_ ≠ (v477 : Value).ownBlock ∧ k_ ≠ gb466) (.slice A24 y482.length c24) y482) := ⟨h3_⟩
                                  have n4_ : Aside0 (Kd.V k56 56 w28 w.heap.size (fun k_ => some k_ ≠ (v474 : Value).ownBlock ∧ some k_ ≠ (v477 : Value).ownBlock ∧ k_ ≠ gb466) (.slice (some ad467) x3_1.length co7) x3_1) := ⟨h4_⟩
                                  have n5_ : Aside0 (w28.heap[gb466]? = some (.cells #[.int .i64 ((rd_T56 l0 x13_1).f0), .int .i64 ((rd_T56 l0 x13_1).f1)] 56 (0, 0))) := ⟨h5_⟩
                                  have n6_ : Aside0 (Below w.heap.size w w28) := ⟨h6_⟩
                                  clear HO_3
                                  clear BK466
                                  clear HB
                                  clear h0_ h1_ h2_ h3_ h4_ h5_ h6_
                                  have HO472 := n0_
                                  have HO475 := n1_
                                  have HO478 := n2_
                                  have HO486 := n3_
                                  have HO_3 := n4_
                                  have BK466 := n5_
                                  have HB := n6_
                                  clear n0_ n1_ n2_ n3_ n4_ n5_ n6_
                                  have hHeld : w28.cell? ⟨gb466, 0, none⟩ = some (.int .i64 ((rd_T56 l0 x13_1).f0)) ∧ w28.cell? ⟨gb466, 1, none⟩ = some (.int .i64 ((rd_T56 l0 x13_1).f1)) := hS_
                                  obtain ⟨Ao30, co30, eo30⟩ := Kd.R_slice HO478.out
                                  (first | subst eo30 | (injection eo30 with f1_ f2_ f3_; have f4_ := f1_.symm; have f5_ := f3_.symm; clear f1_ f2_ f3_; subst f4_; subst f5_))
                                  refine norm_ (a' := ?_) ?_ ?_
                                  rotate_left
                                  · simp only [putAll, Act.put, List.setIfInBounds_toArray, List.set_cons_zero, List.set_cons_succ]
                                    rfl
                                  refine one_ (i := 6) (N := some 40) #[true, true, true, true, true, true, true, true, true, true, false, false] rfl rfl (one_of HT_.out (by kernel_rfl)) (by decide) (fun K hK => ?_)
                                  refine Kd.R_append_rows_step k56 (w0 := w) w.heap.size (by rfl) (.tmp 37) (.tmp 39) 40 56 (.agg #[(.int .i64 0), (.int .i64 0)]) 16 rfl Try.underlying40 info56 rfl (by decide) (by omega) v474 y473 y476 _ _ _ (fun k_ => some k_ ≠ (.slice Ao30 y476.length co30 : Value).ownBlock ∧ k_ ≠ gb466) (fun _ => False) rfl rfl ?aO ?aR (fun _ _ h => h) (fun _ h => h.elim) ?aF ?aB ?aS ?aL ?_
                                  (case aR => repeat (first | exact (Kd.R_reads' HO478.out).2.2 | (with_reducible refine Kd.C_alloc ?_ _) | (with_reducible refine Kd.C_drewN ?_ _) | (with_reducible refine Kd.C_drew ?_)))
                                  (case aB => exact (by repeat (first | (with_reducible first | exact HB.out | apply below_alloc | apply pw_below_drewN | apply below_drew1 | refine below_set ?_ GE466.out) | exact HB.out)))
                                  (case aF => exact (fun k_ hk => ⟨Kd.fresh' (Kd.R_lt (by (with_reducible repeat (first | apply Kd.R_alloc | apply Kd.R_drewN | apply Kd.R_drew)); exact HO478.out)) k_ hk, Kd.freshB (g := gb466) (o := .cells #[.int .i64 ((rd_T56 l0 x13_1).f0), .int .i64 ((rd_T56 l0 x13_1).f1)] 56 (0, 0)) (by (with_reducible repeat (first | refine blk_drewN ?_ _ | refine blk_drew ?_ | refine blk_alloc ?_ _)); exact BK466.out) k_ hk⟩))
                                  (case aO => exact (by (with_reducible repeat (first | apply Kd.R_alloc | apply Kd.R_drewN | apply Kd.R_drew)); exact HO475.out))
                                  (case aS => exact (below_size (by repeat (first | (with_reducible first | exact HB.out | apply below_alloc | apply pw_below_drewN | apply below_drew1 | refine below_set ?_ GE466.out) | exact HB.out))))
                                  (case aL => have := LMc17.out; omega)
                                  intro v480 w29 ho hb hg hat
                                  rw [← Ny479.out] at ho
                                  have n0_ := Aside0.mk (Kd.V_afterv (ok := (fun k_ => some k_ ≠ (.slice Ao30 y476.length co30 : Value).ownBlock ∧ k_ ≠ gb466)) (by (with_reducible repeat (first | apply Kd.V_alloc | apply Kd.V_drewN | apply Kd.V_drew)); exact Kd.V_mono HO_3.out (fun _ hk => ⟨⟨hk.2.1, hk.2.2⟩, hk.1⟩)) hg hat)
                                  have n1_ := Aside0.mk (blk_grown (g := gb466) (o := .cells #[.int .i64 ((rd_T56 l0 x13_1).f0), .int .i64 ((rd_T56 l0 x13_1).f1)] 56 (0, 0)) (by (with_reducible repeat (first | refine blk_drewN ?_ _ | refine blk_drew ?_ | refine blk_alloc ?_ _)); exact BK466.out) hg (Kd.R_away HO475.out (fun _ hk => hk.2)))
                                  have n2_ := Aside0.mk (Kd.V_afterv (ok := (fun k_ => some k_ ≠ (.slice Ao30 y476.length co30 : Value).ownBlock ∧ k_ ≠ gb466)) (by (with_reducible repeat (first | apply Kd.V_alloc | apply Kd.V_drewN | apply Kd.V_drew)); exact Kd.V_mono HO472.out (fun _ hk => ⟨⟨hk.2.1, hk.2.2⟩, hk.1⟩)) hg hat)
                                  have n3_ := Aside0.mk (Kd.V_afterv (ok := (fun k_ => some k_ ≠ (.slice Ao30 y476.length co30 : Value).ownBlock ∧ k_ ≠ gb466)) (by (with_reducible repeat (first | apply Kd.V_alloc | apply Kd.V_drewN | apply Kd.V_drew)); exact Kd.V_mono HO486.out (fun _ hk => ⟨⟨hk.2.1, hk.2.2⟩, hk.1⟩)) hg hat)
                                  have n4_ := Aside0.mk (Kd.R_after (ok := (fun k_ => k_ ≠ gb466)) (by (with_reducible repeat (first | apply Kd.R_alloc | apply Kd.R_drewN | apply Kd.R_drew)); exact Kd.R_mono HO478.out (fun _ hk => ⟨hk.2, hk.1⟩)) hg hat)
                                  have n5_ := Aside0.mk (hb)
                                  have n6_ := Aside0.mk (ho)
                                  clear HO_3
                                  clear BK466
                                  clear HO472
                                  clear HO486
                                  clear HO478
                                  clear HB
                                  clear HO475
                                  have HO_3 := n0_
                                  have BK466 := n1_
                                  have HO472 := n2_
                                  have HO486 := n3_
                                  have HO478 := n4_
                                  have HB := n5_
                                  have HO481 := n6_
                                  clear n0_ n1_ n2_ n3_ n4_ n5_ n6_
                                  clear ho hb hg hat
                                  refine hK.out _ _ ⟨(blk_cell BK466.out 0).trans rfl, (blk_cell BK466.out 1).trans rfl⟩ (fun hHeld => ?_)
                                  clear hK K
                                  refine norm_ (a' := ?_) ?_ ?_
                                  rotate_left
                                  · show Act.put _ (some 40) _ = _
                                    simp only [Act.put, List.setIfInBounds_toArray, List.set_cons_zero, List.set_cons_succ, i64_w, i32_w]
                                    rfl
                                  refine one_ (i := 10) (N := some 44) #[true, true, true, true, true, true, true, true, true, true, true, false] rfl rfl (one_of HT_.out (by kernel_rfl)) (by decide) (fun K hK => ?_)
                                  refine Kd.R_append_rows_step k56 (w0 := w) w.heap.size (by rfl) (.tmp 40) (.tmp 43) 40 56 (.agg #[(.int .i64 0), (.int .i64 0)]) 16 rfl Try.underlying40 info56 rfl (by decide) (by omega) v480 y479 y482 _ _ _ (fun k_ => some k_ ≠ (.slice Ao30 y476.length co30 : Value).ownBlock ∧ k_ ≠ gb466) (fun _ => False) rfl rfl ?aO ?aR (fun _ _ h => h) (fun _ h => h.elim) ?aF ?aB ?aS ?aL ?_
                                  (case aR => repeat (first | exact (Kd.V_reads' HO486.out).2.2 | (with_reducible refine Kd.C_alloc ?_ _) | (with_reducible refine Kd.C_drewN ?_ _) | (with_reducible refine Kd.C_drew ?_)))
                                  (case aB => exact (by repeat (first | (with_reducible first | exact HB.out | apply below_alloc | apply pw_below_drewN | apply below_drew1 | refine below_set ?_ GE466.out) | exact HB.out)))
                                  (case aF => exact (fun k_ hk => ⟨Kd.fresh' (Kd.R_lt (by (with_reducible repeat (first | apply Kd.R_alloc | apply Kd.R_drewN | apply Kd.R_drew)); exact HO478.out)) k_ hk, Kd.freshB (g := gb466) (o := .cells #[.int .i64 ((rd_T56 l0 x13_1).f0), .int .i64 ((rd_T56 l0 x13_1).f1)] 56 (0, 0)) (by (with_reducible repeat (first | refine blk_drewN ?_ _ | refine blk_drew ?_ | refine blk_alloc ?_ _)); exact BK466.out) k_ hk⟩))
                                  (case aO => exact (by (with_reducible repeat (first | apply Kd.R_alloc | apply Kd.R_drewN | apply Kd.R_drew)); exact HO481.out))
                                  (case aS => exact (below_size (by repeat (first | (with_reducible first | exact HB.out | apply below_alloc | apply pw_below_drewN | apply below_drew1 | refine below_set ?_ GE466.out) | exact HB.out))))
                                  (case aL => have := LMc20.out; omega)
                                  intro v488 w31 ho hb hg hat
                                  rw [← Ny487.out] at ho
                                  have n0_ := Aside0.mk (Kd.V_afterv (ok := (fun k_ => some k_ ≠ (.slice Ao30 y476.length co30 : Value).ownBlock ∧ k_ ≠ gb466)) (by (with_reducible repeat (first | apply Kd.V_alloc | apply Kd.V_drewN | apply Kd.V_drew)); exact HO_3.out) hg hat)
                                  have n1_ := Aside0.mk (blk_grown (g := gb466) (o := .cells #[.int .i64 ((rd_T56 l0 x13_1).f0), .int .i64 ((rd_T56 l0 x13_1).f1)] 56 (0, 0)) (by (with_reducible repeat (first | refine blk_drewN ?_ _ | refine blk_drew ?_ | refine blk_alloc ?_ _)); exact BK466.out) hg (Kd.R_away HO481.out (fun _ hk => hk.2)))
                                  have n2_ := Aside0.mk (Kd.V_afterv (ok := (fun k_ => some k_ ≠ (.slice Ao30 y476.length co30 : Value).ownBlock ∧ k_ ≠ gb466)) (by (with_reducible repeat (first | apply Kd.V_alloc | apply Kd.V_drewN | apply Kd.V_drew)); exact HO472.out) hg hat)
                                  have n3_ := Aside0.mk (Kd.V_afterv (ok := (fun k_ => some k_ ≠ (.slice Ao30 y476.length co30 : Value).ownBlock ∧ k_ ≠ gb466)) (by (with_reducible repeat (first | apply Kd.V_alloc | apply Kd.V_drewN | apply Kd.V_drew)); exact HO486.out) hg hat)
                                  have n4_ := Aside0.mk (Kd.R_after (ok := (fun k_ => k_ ≠ gb466)) (by (with_reducible repeat (first | apply Kd.R_alloc | apply Kd.R_drewN | apply Kd.R_drew)); exact HO478.out) hg hat)
                                  have n5_ := Aside0.mk (hb)
                                  have n6_ := Aside0.mk (ho)
                                  clear HO_3
                                  clear BK466
                                  clear HO472
                                  clear HO486
                                  clear HO478
                                  clear HB
                                  clear HO481
                                  have HO_3 := n0_
                                  have BK466 := n1_
                                  have HO472 := n2_
                                  have HO486 := n3_
                                  have HO478 := n4_
                                  have HB := n5_
                                  have HO489 := n6_
                                  clear n0_ n1_ n2_ n3_ n4_ n5_ n6_
                                  clear ho hb hg hat
                                  refine hK.out _ _ ⟨(blk_cell BK466.out 0).trans rfl, (blk_cell BK466.out 1).trans rfl⟩ (fun hHeld => ?_)
                                  clear hK K
                                  refine norm_ (a' := ?_) ?_ ?_
                                  rotate_left
                                  · show Act.put _ (some 44) _ = _
                                    simp only [Act.put, List.setIfInBounds_toArray, List.set_cons_zero, List.set_cons_succ, i64_w, i32_w]
                                    rfl
                                  refine pure_ (i := 11) (N := some 3) (v := ?_) (a' := ?_) #[true, true, true, true, true, true, true, true, true, true, true, true] rfl rfl (any_of HT_.out (by kernel_rfl)) (fun _ _ _ h => h) (Or.inl ⟨by rfl, ?_⟩) ?_ ?_
                                  rotate_left
                                  · intro w'
                                    go_simp
                                    with_reducible rfl
                                  rotate_left
                                  · simp only [Act.put, List.setIfInBounds_toArray, List.set_cons_zero, List.set_cons_succ, i64_w, i32_w]
                                    rfl
                                  refine done_ (done_of HT_.out (by kernel_rfl)) ?_
                                  try go_wp2
                                  go_roundg k2
                                  case measure => have := HK1.out; have := HK2.out; omega
                                  case rel => exact ⟨(y487), (wrap64 (x13_1 + 1)), (by first | rfl | (simp; done) | (simp [*]; done)), H', ⟨by have := HK1.out; have := HK2.out; omega⟩, ⟨Kd.R_V (by (with_reducible repeat (first | apply Kd.R_alloc | apply Kd.R_drewN | apply Kd.R_drew)); exact Kd.R_mono HO489.out (fun _ hk => trivial))⟩, ⟨by repeat (first | (with_reducible first | exact HB.out | apply below_alloc | apply pw_below_drewN | apply below_drew1 | refine below_set ?_ GE466.out) | exact HB.out)⟩⟩
                                · rw [if_neg c20] at H
                                  exact absurd H (by simp)
                              · rw [if_neg c17] at H
                                exact absurd H (by simp)
                            · rw [if_neg c16] at H
                              exact absurd H (by simp)
                          · rw [if_neg c15] at H
                            exact absurd H (by simp)
                        · rw [if_neg c14] at H
                          exact absurd H (by simp)
                    · rw [if_neg c11] at H
                      exact absurd H (by simp)
                  · rw [if_neg c10] at H
                    exact absurd H (by simp)
                · rw [if_neg c8] at H
                  have c8b0 : decide (0 < x7_2) = false := decide_eq_false c8
                  clear c8
                  by_cases c32 : 0 ≤ x7_2
                  · rw [if_pos c32] at H
                    have c32b0 := eq_true c32
                    have c32b1 : decide (0 ≤ x7_2) = true := decide_eq_true c32
                    clear c32
                    by_cases c33 : x7_2 ≤ (x3_1.length : Int)
                    · rw [if_pos c33] at H
                      have c33b0 := eq_true c33
                      have c33b1 : decide (x7_2 ≤ (x3_1.length : Int)) = true := decide_eq_true c33
                      clear c33
                      obtain ⟨y490, hy490⟩ : ∃ y_ : List (S56), y_ = (x3_1.take (x7_2 : Int).toNat) := ⟨_, rfl⟩
                      replace H : (if ([] : List (S56)).length + y490.length < 8796093022208 then ((some (([] : List (S56)) ++ y490 : List (S56))).bind fun y495 => ((some (([(⟨((rd_T56 l0 x13_1).f0), ((rd_T56 l0 x13_1).f1)⟩ : S56)] : List (S56)) : List (S56))).bind fun y498 => (if y495.length + y498.length < 8796093022208 then ((some (y495 ++ y498 : List (S56))).bind fun y501 => ((some (x3_1.drop (x7_2 : Int).toNat : List (S56))).bind fun y504 => (if y501.length + y504.length < 8796093022208 then (soundserviceref09_joined.l0 k2 (y501 ++ y504) l0 (l0.length : Int) (wrap64 (x13_1 + 1))) else (none)))) else (none)))) else (none)) = some r := by first | (rw [hy490]; with_reducible exact H) | (have H2_ := (Option.bind_some _ _).symm.trans H; rw [hy490]; with_reducible exact H2_) | (have H2_ := (Option.bind_some _ _).symm.trans H; with_reducible exact H2_) | with_reducible exact H | (rw [hy490]; exact H) | exact H
                      have Ny490 := Aside0.mk hy490
                      clear hy490
                      by_cases c34 : ([] : List (S56)).length + y490.length < 8796093022208
                      · rw [if_pos c34] at H
                        have LMc34 := Aside0.mk c34
                        clear c34
                        obtain ⟨y495, hy495⟩ : ∃ y_ : List (S56), y_ = (([] : List (S56)) ++ y490) := ⟨_, rfl⟩
                        replace H : ((some (([(⟨((rd_T56 l0 x13_1).f0), ((rd_T56 l0 x13_1).f1)⟩ : S56)] : List (S56)) : List (S56))).bind fun y498 => (if y495.length + y498.length < 8796093022208 then ((some (y495 ++ y498 : List (S56))).bind fun y501 => ((some (x3_1.drop (x7_2 : Int).toNat : List (S56))).bind fun y504 => (if y501.length + y504.length < 8796093022208 then (soundserviceref09_joined.l0 k2 (y501 ++ y504) l0 (l0.length : Int) (wrap64 (x13_1 + 1))) else (none)))) else (none))) = some r := by first | (rw [hy495]; with_reducible exact H) | (have H2_ := (Option.bind_some _ _).symm.trans H; rw [hy495]; with_reducible exact H2_) | (have H2_ := (Option.bind_some _ _).symm.trans H; with_reducible exact H2_) | with_reducible exact H | (rw [hy495]; exact H) | exact H
                        have Ny495 := Aside0.mk hy495
                        clear hy495
                        obtain ⟨y498, hy498⟩ : ∃ y_ : List (S56), y_ = (([(⟨((rd_T56 l0 x13_1).f0), ((rd_T56 l0 x13_1).f1)⟩ : S56)] : List (S56))) := ⟨_, rfl⟩
                        replace H : (if y495.length + y498.length < 8796093022208 then ((some (y495 ++ y498 : List (S56))).bind fun y501 => ((some (x3_1.drop (x7_2 : Int).toNat : List (S56))).bind fun y504 => (if y501.length + y504.length < 8796093022208 then (soundserviceref09_joined.l0 k2 (y501 ++ y504) l0 (l0.length : Int) (wrap64 (x13_1 + 1))) else (none)))) else (none)) = some r := by first | (rw [hy498]; with_reducible exact H) | (have H2_ := (Option.bind_some _ _).symm.trans H; rw [hy498]; with_reducible exact H2_) | (have H2_ := (Option.bind_some _ _).symm.trans H; with_reducible exact H2_) | with_reducible exact H | (rw [hy498]; exact H) | exact H
                        have Ny498 := Aside0.mk hy498
                        clear hy498
                        by_cases c35 : y495.length + y498.length < 8796093022208
                        · rw [if_pos c35] at H
                          have LMc35 := Aside0.mk c35
                          clear c35
                          obtain ⟨y501, hy501⟩ : ∃ y_ : List (S56), y_ = (y495 ++ y498) := ⟨_, rfl⟩
                          replace H : ((some (x3_1.drop (x7_2 : Int).toNat : List (S56))).bind fun y504 => (if y501.length + y504.length < 8796093022208 then (soundserviceref09_joined.l0 k2 (y501 ++ y504) l0 (l0.length : Int) (wrap64 (x13_1 + 1))) else (none))) = some r := by first | (rw [hy501]; with_reducible exact H) | (have H2_ := (Option.bind_some _ _).symm.trans H; rw [hy501]; with_reducible exact H2_) | (have H2_ := (Option.bind_some _ _).symm.trans H; with_reducible exact H2_) | with_reducible exact H | (rw [hy501]; exact H) | exact H
                          have Ny501 := Aside0.mk hy501
                          clear hy501
                          have c36b0 := eq_true (of_decide_eq_true (by first | (with_reducible assumption) | assumption) : 0 ≤ x7_2)
                          have c37b0 := eq_true (of_decide_eq_true (by first | (with_reducible assumption) | assumption) : x7_2 ≤ (x3_1.length : Int))
                          obtain ⟨y504, hy504⟩ : ∃ y_ : List (S56), y_ = (x3_1.drop (x7_2 : Int).toNat) := ⟨_, rfl⟩
                          replace H : (if y501.length + y504.length < 8796093022208 then (soundserviceref09_joined.l0 k2 (y501 ++ y504) l0 (l0.length : Int) (wrap64 (x13_1 + 1))) else (none)) = some r := by first | (rw [hy504]; with_reducible exact H) | (have H2_ := (Option.bind_some _ _).symm.trans H; rw [hy504]; with_reducible exact H2_) | (have H2_ := (Option.bind_some _ _).symm.trans H; with_reducible exact H2_) | with_reducible exact H | (rw [hy504]; exact H) | exact H
                          have Ny504 := Aside0.mk hy504
                          clear hy504
                          by_cases c38 : y501.length + y504.length < 8796093022208
                          · rw [if_pos c38] at H
                            have LMc38 := Aside0.mk c38
                            clear c38
                            obtain ⟨y509, hy509⟩ : ∃ y_ : List (S56), y_ = (y501 ++ y504) := ⟨_, rfl⟩
                            replace H : (soundserviceref09_joined.l0 k2 y509 l0 (l0.length : Int) (wrap64 (x13_1 + 1))) = some r := by first | (rw [hy509]; with_reducible exact H) | (have H2_ := (Option.bind_some _ _).symm.trans H; rw [hy509]; with_reducible exact H2_) | (have H2_ := (Option.bind_some _ _).symm.trans H; with_reducible exact H2_) | with_reducible exact H | (rw [hy509]; exact H) | exact H
                            have Ny509 := Aside0.mk hy509
                            clear hy509
                            have H' := Aside0.mk H
                            clear H
                            try go_wp2
                            have n0_ := Aside0.mk (Kd.V_drew HO_3.out)
                            have n1_ := Aside0.mk (blk_drew BK466.out)
                            have n2_ := Aside0.mk (below_drew1 HB.out)
                            clear HO_3
                            clear BK466
                            clear HB
                            have HO_3 := n0_
                            have BK466 := n1_
                            have HB := n2_
                            clear n0_ n1_ n2_
                            refine start_ (n := 13) (S := fun w' => True) (ds := []) #[false, false, false, false, false, false, false, false, false, false, false, false, false] (by kernel_rfl) rfl rfl trivial (fun hHeld => ?_); refine with_tabW soundserviceref09_joined.tab6 soundserviceref09_joined.bits6 (fun HT_ HW_ => ?_)
                            generalize wr.drew = w39 at HO_3 BK466 HB hHeld ⊢
                            refine pure_ (i := 0) (N := some 19) (v := ?_) (a' := ?_) #[true, false, false, false, false, false, false, false, false, false, false, false, false] rfl rfl (any_of HT_.out (by kernel_rfl)) (fun _ _ _ h => h) (Or.inl ⟨by rfl, ?_⟩) ?_ ?_
                            rotate_left
                            · intro w'
                              go_simp
                              with_reducible rfl
                            rotate_left
                            · simp only [Act.put, List.setIfInBounds_toArray, List.set_cons_zero, List.set_cons_succ, i64_w, i32_w]
                              rfl
                            refine pure_ (i := 1) (N := some 20) (v := ?_) (a' := ?_) #[true, true, false, false, false, false, false, false, false, false, false, false, false] rfl rfl (any_of HT_.out (by kernel_rfl)) (fun _ _ _ h => h) (Or.inl ⟨by rfl, ?_⟩) ?_ ?_
                            rotate_left
                            · intro w'
                              go_simp
                              with_reducible rfl
                            rotate_left
                            · simp only [Act.put, List.setIfInBounds_toArray, List.set_cons_zero, List.set_cons_succ, i64_w, i32_w]
                              rfl
                            refine pure_ (i := 2) (N := some 21) (v := ?_) (a' := ?_) #[true, true, true, false, false, false, false, false, false, false, false, false, false] rfl rfl (any_of HT_.out (by kernel_rfl)) (fun _ _ _ h => h) (Or.inl ⟨by rfl, ?_⟩) ?_ ?_
                            rotate_left
                            · intro w'
                              go_simp
                              with_reducible rfl
                            rotate_left
                            · simp only [Act.put, List.setIfInBounds_toArray, List.set_cons_zero, List.set_cons_succ, i64_w, i32_w]
                              rfl
                            refine pure_ (i := 3) (N := some 22) (v := undef) (a' := ?_) #[true, true, true, true, false, false, false, false, false, false, false, false, false] rfl rfl (any_of HT_.out (by kernel_rfl)) (fun _ _ _ h => h) (Or.inr ⟨by rfl, rfl⟩) ?_ ?_
                            rotate_left
                            · simp only [Act.put, List.setIfInBounds_toArray, List.set_cons_zero, List.set_cons_succ, i64_w, i32_w]
                              rfl
                            refine pure_ (i := 4) (N := some 23) (v := undef) (a' := ?_) #[true, true, true, true, true, false, false, false, false, false, false, false, false] rfl rfl (any_of HT_.out (by kernel_rfl)) (fun _ _ _ h => h) (Or.inr ⟨by rfl, rfl⟩) ?_ ?_
                            rotate_left
                            · simp only [Act.put, List.setIfInBounds_toArray, List.set_cons_zero, List.set_cons_succ, i64_w, i32_w]
                              rfl
                            refine pure_ (i := 5) (N := some 24) (v := undef) (a' := ?_) #[true, true, true, true, true, true, false, false, false, false, false, false, false] rfl rfl (any_of HT_.out (by kernel_rfl)) (fun _ _ _ h => h) (Or.inr ⟨by rfl, rfl⟩) ?_ ?_
                            rotate_left
                            · simp only [Act.put, List.setIfInBounds_toArray, List.set_cons_zero, List.set_cons_succ, i64_w, i32_w]
                              rfl
                            refine pure_ (i := 6) (N := some 25) (v := undef) (a' := ?_) #[true, true, true, true, true, true, true, false, false, false, false, false, false] rfl rfl (any_of HT_.out (by kernel_rfl)) (fun _ _ _ h => h) (Or.inr ⟨by rfl, rfl⟩) ?_ ?_
                            rotate_left
                            · simp only [Act.put, List.setIfInBounds_toArray, List.set_cons_zero, List.set_cons_succ, i64_w, i32_w]
                              rfl
                            refine pure_ (i := 7) (N := some 26) (v := undef) (a' := ?_) #[true, true, true, true, true, true, true, true, false, false, false, false, false] rfl rfl (any_of HT_.out (by kernel_rfl)) (fun _ _ _ h => h) (Or.inr ⟨by rfl, rfl⟩) ?_ ?_
                            rotate_left
                            · simp only [Act.put, List.setIfInBounds_toArray, List.set_cons_zero, List.set_cons_succ, i64_w, i32_w]
                              rfl
                            refine pure_ (i := 8) (N := some 27) (v := undef) (a' := ?_) #[true, true, true, true, true, true, true, true, true, false, false, false, false] rfl rfl (any_of HT_.out (by kernel_rfl)) (fun _ _ _ h => h) (Or.inr ⟨by rfl, rfl⟩) ?_ ?_
                            rotate_left
                            · simp only [Act.put, List.setIfInBounds_toArray, List.set_cons_zero, List.set_cons_succ, i64_w, i32_w]
                              rfl
                            refine pure_ (i := 9) (N := some 28) (v := undef) (a' := ?_) #[true, true, true, true, true, true, true, true, true, true, false, false, false] rfl rfl (any_of HT_.out (by kernel_rfl)) (fun _ _ _ h => h) (Or.inr ⟨by rfl, rfl⟩) ?_ ?_
                            rotate_left
                            · simp only [Act.put, List.setIfInBounds_toArray, List.set_cons_zero, List.set_cons_succ, i64_w, i32_w]
                              rfl
                            refine pure_ (i := 10) (N := some 29) (v := undef) (a' := ?_) #[true, true, true, true, true, true, true, true, true, true, true, false, false] rfl rfl (any_of HT_.out (by kernel_rfl)) (fun _ _ _ h => h) (Or.inr ⟨by rfl, rfl⟩) ?_ ?_
                            rotate_left
                            · simp only [Act.put, List.setIfInBounds_toArray, List.set_cons_zero, List.set_cons_succ, i64_w, i32_w]
                              rfl
                            refine pure_ (i := 11) (N := some 30) (v := undef) (a' := ?_) #[true, true, true, true, true, true, true, true, true, true, true, true, false] rfl rfl (any_of HT_.out (by kernel_rfl)) (fun _ _ _ h => h) (Or.inr ⟨by rfl, rfl⟩) ?_ ?_
                            rotate_left
                            · simp only [Act.put, List.setIfInBounds_toArray, List.set_cons_zero, List.set_cons_succ, i64_w, i32_w]
                              rfl
                            refine pure_ (i := 12) (N := some 31) (v := ?_) (a' := ?_) #[true, true, true, true, true, true, true, true, true, true, true, true, true] rfl rfl (any_of HT_.out (by kernel_rfl)) (fun _ _ _ h => h) (Or.inl ⟨by rfl, ?_⟩) ?_ ?_
                            rotate_left
                            · intro w'
                              go_simp
                              with_reducible rfl
                            rotate_left
                            · simp only [Act.put, List.setIfInBounds_toArray, List.set_cons_zero, List.set_cons_succ, i64_w, i32_w]
                              rfl
                            refine done_ (done_of HT_.out (by kernel_rfl)) ?_
                            try go_wp2
                            have n0_ := Aside0.mk (Kd.V_drew HO_3.out)
                            have n1_ := Aside0.mk (blk_drew BK466.out)
                            have n2_ := Aside0.mk (below_drew1 HB.out)
                            clear HO_3
                            clear BK466
                            clear HB
                            have HO_3 := n0_
                            have BK466 := n1_
                            have HB := n2_
                            clear n0_ n1_ n2_
                            have q41 : (x7_2 : Int) ≤ ((x3_1.length : Int) : Int) := of_decide_eq_true (by first | (with_reducible assumption) | assumption)
                            obtain ⟨i041, hi041, _, hsz41, _⟩ := info_parts info56
                            have hroom41 : x3_1.length ≤ co7 := (Kd.V_reads' HO_3.out).2.1
                            have hC41 : Kd.F k56 _ _ Ao7 x3_1.length x3_1 := (Kd.V_at (base := w.heap.size) HO_3.out).2.2
                            have hcut41 := cut_to (P := Try.prog) 40 56 .i64 Try.underlying40 hi041 Ao7 x3_1.length co7 x7_2 (of_decide_eq_true (by first | (with_reducible assumption) | assumption)) q41 hroom41
                            have hr41 := Kd.F_take (m := (x7_2 : Int).toNat) hC41 (by omega)
                            have hy41 : y490.length = (x7_2 : Int).toNat := (by rw [Ny490.out, List.length_take]; omega)
                            rw [← Ny490.out] at hr41
                            rw [← hy41] at hcut41
                            have HO494 := Aside0.mk (show Kd.V k56 56 _ w.heap.size _ (.slice Ao7 y490.length co7) y490 from Kd.V_mk (by omega) hr41)
                            have HC494 := Aside0.mk (show y490.length ≤ co7 from by omega)
                            clear hr41 hC41 hroom41 hi041 hsz41
                            have KY41 := Aside0.mk hy41
                            clear hy41
                            replace q41 := eq_true q41
                            have q42 : (x7_2 : Int) ≤ ((x3_1.length : Int) : Int) := of_decide_eq_true (by first | (with_reducible assumption) | assumption)
                            obtain ⟨i042, hi042, _, hsz42, _⟩ := info_parts info56
                            have hroom42 : x3_1.length ≤ co7 := (Kd.V_reads' HO_3.out).2.1
                            have hC42 : Kd.F k56 _ _ Ao7 x3_1.length x3_1 := (Kd.V_at (base := w.heap.size) HO_3.out).2.2
                            have q042 : (0 : Int) ≤ (x7_2 : Int) := of_decide_eq_true (by first | (with_reducible assumption) | assumption)
                            have hcut42 := cut_from (P := Try.prog) 40 56 .i64 Try.underlying40 hi042 2 hsz42 Ao7 x3_1.length co7 x7_2 q042 q42
                            have hr42 := Kd.F_cut (m := (x7_2 : Int).toNat) (c := co7) hC42 (by omega) hroom42
                            obtain ⟨A42, hA42⟩ : ∃ A1, A1 = (if co7 = (x7_2 : Int).toNat then Ao7 else (Ao7 : Option Addr).map (·.add ((x7_2 : Int).toNat * 2))) := ⟨_, rfl⟩
                            obtain ⟨c42, hc42⟩ : ∃ c1, c1 = co7 - (x7_2 : Int).toNat := ⟨_, rfl⟩
                            have hy42 : y504.length = x3_1.length - (x7_2 : Int).toNat := (by rw [Ny504.out, List.length_drop] <;> omega)
                            rw [show (x3_1).drop (x7_2 : Int).toNat = y504 from Ny504.out.symm] at hr42
                            replace hr42 : Kd.F k56 _ _ A42 y504.length y504 := (by rw [hA42]; exact hr42)
                            rw [← hy42, ← hA42, ← hc42] at hcut42
                            have HO508 := Aside0.mk (show Kd.V k56 56 _ w.heap.size _ (.slice A42 y504.length c42) y504 from Kd.V_mk (by rw [hy42, hc42]; exact Nat.sub_le_sub_right hroom42 _) hr42)
                            have HC508 := Aside0.mk (show y504.length ≤ c42 from by rw [hy42, hc42]; exact Nat.sub_le_sub_right hroom42 _)
                            clear hr42 hC42 hroom42 hi042 hsz42 hc42
                            have KY42 := Aside0.mk hy42
                            have KA42 := Aside0.mk hA42
                            clear hy42 hA42
                            replace q42 := eq_true q42
                            refine start_ (n := 12) (S := fun w' => w'.cell? ⟨gb466, 0, none⟩ = some (.int .i64 ((rd_T56 l0 x13_1).f0)) ∧ w'.cell? ⟨gb466, 1, none⟩ = some (.int .i64 ((rd_T56 l0 x13_1).f1))) (ds := []) #[false, false, false, false, false, false, false, false, false, false, false, false] (by kernel_rfl) rfl rfl ⟨(blk_cell BK466.out 0).trans rfl, (blk_cell BK466.out 1).trans rfl⟩ (fun hHeld => ?_); refine with_tabW soundserviceref09_joined.tab8 soundserviceref09_joined.bits8 (fun HT_ HW_ => ?_)
                            generalize w39.drew = w40 at HO_3 BK466 HB HO494 HO508 hHeld ⊢
                            refine pure_ (i := 0) (N := some 34) (v := ?_) (a' := ?_) #[true, false, false, false, false, false, false, false, false, false, false, false] rfl rfl (any_of HT_.out (by kernel_rfl)) (fun _ _ _ h => h) (Or.inl ⟨by rfl, ?_⟩) ?_ ?_
                            rotate_left
                            · intro w'
                              go_simp
                              with_reducible rfl
                            rotate_left
                            · simp only [Act.put, List.setIfInBounds_toArray, List.set_cons_zero, List.set_cons_succ, i64_w, i32_w]
                              rfl
                            refine pure_ (i := 1) (N := some 35) (v := ?_) (a' := ?_) #[true, true, false, false, false, false, false, false, false, false, false, false] rfl rfl (any_of HT_.out (by kernel_rfl)) (fun _ _ _ h => h) (Or.inl ⟨by rfl, ?_⟩) ?_ ?_
                            rotate_left
                            · intro w'
                              go_simp
                              with_reducible rfl
                            rotate_left
                            · simp only [Act.put, List.setIfInBounds_toArray, List.set_cons_zero, List.set_cons_succ, i64_w, i32_w]
                              rfl
                            refine pure_ (i := 2) (N := some 36) (v := ?_) (a' := ?_) #[true, true, true, false, false, false, false, false, false, false, false, false] rfl rfl (any_of HT_.out (by kernel_rfl)) (fun _ _ _ h => h) (Or.inl ⟨by rfl, ?_⟩) ?_ ?_
                            rotate_left
                            · intro w'
                              go_simp
                              with_reducible rfl
                            rotate_left
                            · simp only [Act.put, List.setIfInBounds_toArray, List.set_cons_zero, List.set_cons_succ, i64_w, i32_w]
                              rfl
                            refine pure_ (i := 7) (N := some 41) (v := ?_) (a' := ?_) #[true, true, true, false, false, false, false, true, false, false, false, false] rfl rfl (any_of HT_.out (by kernel_rfl)) (fun _ _ _ h => h) (Or.inl ⟨by rfl, ?_⟩) ?_ ?_
                            rotate_left
                            · intro w'
                              go_simp
                              with_reducible rfl
                            rotate_left
                            · simp only [Act.put, List.setIfInBounds_toArray, List.set_cons_zero, List.set_cons_succ, i64_w, i32_w]
                              rfl
                            refine pure_ (i := 8) (N := some 42) (v := ?_) (a' := ?_) #[true, true, true, false, false, false, false, true, true, false, false, false] rfl rfl (any_of HT_.out (by kernel_rfl)) (fun _ _ _ h => h) (Or.inl ⟨by rfl, ?_⟩) ?_ ?_
                            rotate_left
                            · intro w'
                              go_simp
                              with_reducible rfl
                            rotate_left
                            · simp only [Act.put, List.setIfInBounds_toArray, List.set_cons_zero, List.set_cons_succ, i64_w, i32_w]
                              rfl
                            refine pure_ (i := 9) (N := some 43) (v := ?_) (a' := ?_) #[true, true, true, false, false, false, false, true, true, true, false, false] rfl rfl (any_of HT_.out (by kernel_rfl)) (fun _ _ _ h => h) (Or.inl ⟨by rfl, ?_⟩) ?_ ?_
                            rotate_left
                            · intro w'
                              go_simp
                              with_reducible rfl
                            rotate_left
                            · simp only [Act.put, List.setIfInBounds_toArray, List.set_cons_zero, List.set_cons_succ, i64_w, i32_w]
                              rfl
                            refine take_ (i := 4) (N := some 38) (v := ?_) (a' := ?_) #[true, true, true, false, true, false, false, true, true, true, false, false] rfl rfl (take_ofW HT_.out HW_.out (by kernel_rfl)) (fun _ _ _ h => h) (Or.inl ⟨by rfl, ?_⟩) hHeld ?_ ?_
                            rotate_left
                            · rintro w' ⟨s0, s1⟩
                              go_simp
                              with_reducible rfl
                            rotate_left
                            · simp only [Act.put, List.setIfInBounds_toArray, List.set_cons_zero, List.set_cons_succ, i64_w, i32_w]
                              rfl
                            refine join_ (σ := Value × Value) 3 #[true, true, true, true, true, true, false, true, true, true, false, false] (fun s_ => [(37, s_.1), (39, s_.2)]) (fun s_ w' => (w'.cell? ⟨gb466, 0, none⟩ = some (.int .i64 ((rd_T56 l0 x13_1).f0)) ∧ w'.cell? ⟨gb466, 1, none⟩ = some (.int .i64 ((rd_T56 l0 x13_1).f1))) ∧ (Kd.V k56 56 w' w.heap.size (fun k_ => some k_ ≠ (s_.1 : Value).ownBlock ∧ some k_ ≠ (s_.2 : Value).ownBlock ∧ k_ ≠ gb466) (.slice Ao7 y490.length co7) y490) ∧ (Kd.R k56 56 w' w.heap.size (fun k_ => some k_ ≠ (s_.2 : Value).ownBlock ∧ k_ ≠ gb466) s_.1 y495) ∧ (Kd.R k56 56 w' w.heap.size (fun k_ => some k_ ≠ (s_.1 : Value).ownBlock ∧ k_ ≠ gb466) s_.2 y498) ∧ (Kd.V k56 56 w' w.heap.size (fun k_ => some k_ ≠ (s_.1 : Value).ownBlock ∧ some k_ ≠ (s_.2 : Value).ownBlock ∧ k_ ≠ gb466) (.slice A42 y504.length c42) y504) ∧ (Kd.V k56 56 w' w.heap.size (fun k_ => some k_ ≠ (s_.1 : Value).ownBlock ∧ some k_ ≠ (s_.2 : Value).ownBlock ∧ k_ ≠ gb466) (.slice Ao7 x3_1.length co7) x3_1) ∧ (w'.heap[gb466]? = some (.cells #[.int .i64 ((rd_T56 l0 x13_1).f0), .int .i64 ((rd_T56 l0 x13_1).f1)] 56 (0, 0))) ∧ (Below w.heap.size w w')) ?_ ?_
                            rotate_left
                            · intro hCont
                              refine two_ (i := 3) (j := 5) (Ni := some 37) (Nj := some 39) #[true, true, true, true, true, false, false, true, true, true, false, false] #[true, true, true, false, true, true, false, true, true, true, false, false] rfl rfl rfl rfl (two_of HT_.out (by kernel_rfl)) (by decide) (by decide) (fun K hK => ?_) (fun K hK => ?_)
                              · skip
                                refine Kd.R_append_rows_step k56 (w0 := w) w.heap.size rfl (.const (.slice none 0 0)) (.tmp 36) 40 56 (.agg #[(.int .i64 0), (.int .i64 0)]) 16 rfl Try.underlying40 info56 rfl (by decide) (by omega) (.slice none 0 0) ([] : List (S56)) y490 _ _ _ (fun k_ => k_ ≠ gb466) (fun _ => False) rfl rfl ?aO ?aR (fun _ _ h => h) (fun _ h => h.elim) ?aF ?aB ?aS ?aL ?_
                                (case aR => repeat (first | exact (Kd.V_reads' HO494.out).2.2 | (with_reducible refine Kd.C_alloc ?_ _) | (with_reducible refine Kd.C_drewN ?_ _) | (with_reducible refine Kd.C_drew ?_)))
                                (case aB => exact (by repeat (first | (with_reducible first | exact HB.out | apply below_alloc | apply pw_below_drewN | apply below_drew1 | refine below_set ?_ GE466.out) | exact HB.out)))
                                (case aF => exact (fun k_ hk => Kd.freshB (g := gb466) (o := .cells #[.int .i64 ((rd_T56 l0 x13_1).f0), .int .i64 ((rd_T56 l0 x13_1).f1)] 56 (0, 0)) (by (with_reducible repeat (first | refine blk_drewN ?_ _ | refine blk_drew ?_ | refine blk_alloc ?_ _)); exact BK466.out) k_ hk))
                                (case aO => exact ((Kd.R_nil _ _ _ _ (fun k_ => k_ ≠ gb466))))
                                (case aS => exact (below_size (by repeat (first | (with_reducible first | exact HB.out | apply below_alloc | apply pw_below_drewN | apply below_drew1 | refine below_set ?_ GE466.out) | exact HB.out))))
                                (case aL => have := LMc34.out; omega)
                                intro v496 w43 ho hb hg hat
                                rw [← Ny495.out] at ho
                                have n0_ := Aside0.mk (Kd.V_afterv (Kd.V_apart_nil (by (with_reducible repeat (first | apply Kd.V_alloc | apply Kd.V_drewN | apply Kd.V_drew)); exact HO_3.out)) hg hat)
                                have n1_ := Aside0.mk (blk_grown (g := gb466) (o := .cells #[.int .i64 ((rd_T56 l0 x13_1).f0), .int .i64 ((rd_T56 l0 x13_1).f1)] 56 (0, 0)) (by (with_reducible repeat (first | refine blk_drewN ?_ _ | refine blk_drew ?_ | refine blk_alloc ?_ _)); exact BK466.out) hg (by simp [Value.ownBlock]))
                                have n2_ := Aside0.mk (Kd.V_afterv (Kd.V_apart_nil (by (with_reducible repeat (first | apply Kd.V_alloc | apply Kd.V_drewN | apply Kd.V_drew)); exact HO494.out)) hg hat)
                                have n3_ := Aside0.mk (Kd.V_afterv (Kd.V_apart_nil (by (with_reducible repeat (first | apply Kd.V_alloc | apply Kd.V_drewN | apply Kd.V_drew)); exact HO508.out)) hg hat)
                                have n4_ := Aside0.mk (hb)
                                have n5_ := Aside0.mk (ho)
                                clear HO_3
                                clear BK466
                                clear HO494
                                clear HO508
                                clear HB
                                have HO_3 := n0_
                                have BK466 := n1_
                                have HO494 := n2_
                                have HO508 := n3_
                                have HB := n4_
                                have HO497 := n5_
                                clear n0_ n1_ n2_ n3_ n4_ n5_
                                clear ho hb hg hat
                                refine hK.out _ _ ⟨(blk_cell BK466.out 0).trans rfl, (blk_cell BK466.out 1).trans rfl⟩ (fun hHeld => ?_)
                                clear hK K
                                refine norm_ (a' := ?_) ?_ ?_
                                rotate_left
                                · show Act.put _ (some 37) _ = _
                                  simp only [Act.put, List.setIfInBounds_toArray, List.set_cons_zero, List.set_cons_succ, i64_w, i32_w]
                                  rfl
                                refine one_ (i := 5) (N := some 39) #[true, true, true, true, true, true, false, true, true, true, false, false] rfl rfl (one_of HT_.out (by kernel_rfl)) (by decide) (fun K hK => ?_)
                                refine Kd.R_lit_step k56 _ 56 ?hg (N := 39) ?hd (xs := ([(⟨((rd_T56 l0 x13_1).f0), ((rd_T56 l0 x13_1).f1)⟩ : S56)] : List (S56))) (inner := [.int .i64 ((rd_T56 l0 x13_1).f0), .int .i64 ((rd_T56 l0 x13_1).f1)]) (ok := fun _ => True) (okp := fun _ => True) ?hr ?hp (fun _ hk => hk) trivial (Below.refl _ _) (Nat.le_refl _) (by simp) ?_; (case hd => rfl); (case hg => rfl); (case hr => first | (go_simp; done) | (go_simp; rfl)); (case hp => exact (Reps.c2 (show Kd.M k56 _ _ _ (⟨((rd_T56 l0 x13_1).f0), ((rd_T56 l0 x13_1).f1)⟩ : S56) [.int .i64 ((rd_T56 l0 x13_1).f0), .int .i64 ((rd_T56 l0 x13_1).f1)] from (k56_mkM _ _ _ (⟨((rd_T56 l0 x13_1).f0), ((rd_T56 l0 x13_1).f1)⟩ : S56) )) (Reps.none _ _)))
                                intro v499 w44 ho45 hb hg_ hnew_
                                clear hg_ hnew_
                                (first | rw [← Ny498.out] at ho45 | (simp only [Int.reduceToNat] at ho45; rw [← Ny498.out] at ho45))
                                have n0_ := Aside0.mk (Kd.V_elder' (by (with_reducible repeat (first | apply Kd.V_alloc | apply Kd.V_drewN | apply Kd.V_drew)); exact HO_3.out) (Kd.R_base ho45) hb)
                                have n1_ := Aside0.mk (Kd.V_elder' (by (with_reducible repeat (first | apply Kd.V_alloc | apply Kd.V_drewN | apply Kd.V_drew)); exact HO494.out) (Kd.R_base ho45) hb)
                                have n2_ := Aside0.mk (Kd.V_elder' (by (with_reducible repeat (first | apply Kd.V_alloc | apply Kd.V_drewN | apply Kd.V_drew)); exact HO508.out) (Kd.R_base ho45) hb)
                                have n3_ := Aside0.mk (Kd.R_elder' (by (with_reducible repeat (first | apply Kd.R_alloc | apply Kd.R_drewN | apply Kd.R_drew)); exact HO497.out) (Kd.R_base ho45) hb)
                                have n4_ := Aside0.mk (Kd.R_lower (Kd.R_newB (Kd.R_new' ho45 (Kd.R_lt (by (with_reducible repeat (first | apply Kd.R_alloc | apply Kd.R_drewN | apply Kd.R_drew)); exact HO497.out))) (g := gb466) (o := .cells #[.int .i64 ((rd_T56 l0 x13_1).f0), .int .i64 ((rd_T56 l0 x13_1).f1)] 56 (0, 0)) (by (with_reducible repeat (first | refine blk_drewN ?_ _ | refine blk_drew ?_ | refine blk_alloc ?_ _)); exact BK466.out)) (below_size (by repeat (first | (with_reducible first | exact HB.out | apply below_alloc | apply pw_below_drewN | apply below_drew1 | refine below_set ?_ GE466.out) | exact HB.out))))
                                have n5_ := Aside0.mk (blk_below (g := gb466) (o := .cells #[.int .i64 ((rd_T56 l0 x13_1).f0), .int .i64 ((rd_T56 l0 x13_1).f1)] 56 (0, 0)) (by (with_reducible repeat (first | refine blk_drewN ?_ _ | refine blk_drew ?_ | refine blk_alloc ?_ _)); exact BK466.out) hb)
                                have n6_ := Aside0.mk (below_step (by repeat (first | (with_reducible first | exact HB.out | apply below_alloc | apply pw_below_drewN | apply below_drew1 | refine below_set ?_ GE466.out) | exact HB.out)) hb)
                                clear HO_3
                                clear HO494
                                clear HO508
                                clear HO497
                                clear BK466
                                clear HB
                                have HO_3 := n0_
                                have HO494 := n1_
                                have HO508 := n2_
                                have HO497 := n3_
                                have HO500 := n4_
                                have BK466 := n5_
                                have HB := n6_
                                clear n0_ n1_ n2_ n3_ n4_ n5_ n6_
                                clear hb ho45
                                refine hK.out _ _ ⟨(blk_cell BK466.out 0).trans rfl, (blk_cell BK466.out 1).trans rfl⟩ (fun hHeld => ?_)
                                clear hK K
                                refine norm_ (a' := ?_) ?_ ?_
                                rotate_left
                                · show Act.put _ (some 39) _ = _
                                  simp only [Act.put, List.setIfInBounds_toArray, List.set_cons_zero, List.set_cons_succ, i64_w, i32_w]
                                  rfl
                                exact norm_ (by simp only [putAll, Act.put, List.setIfInBounds_toArray, List.set_cons_zero, List.set_cons_succ]) (hCont (v496, v499) _ ⟨hHeld, (by (with_reducible repeat (first | apply Kd.V_alloc | apply Kd.V_drewN | apply Kd.V_drew)); exact Kd.V_mono HO494.out (fun _ hk => ⟨hk.1.2, ⟨hk.2, hk.1.1⟩⟩)), (by (with_reducible repeat (first | apply Kd.R_alloc | apply Kd.R_drewN | apply Kd.R_drew)); exact Kd.R_mono HO497.out (fun _ hk => ⟨hk.2, hk.1⟩)), (by (with_reducible repeat (first | apply Kd.R_alloc | apply Kd.R_drewN | apply Kd.R_drew)); exact Kd.R_mono HO500.out (fun _ hk => ⟨hk.1.2, hk.2⟩)), (by (with_reducible repeat (first | apply Kd.V_alloc | apply Kd.V_drewN | apply Kd.V_drew)); exact Kd.V_mono HO508.out (fun _ hk => ⟨hk.1.2, ⟨hk.2, hk.1.1⟩⟩)), (by (with_reducible repeat (first | apply Kd.V_alloc | apply Kd.V_drewN | apply Kd.V_drew)); exact Kd.V_mono HO_3.out (fun _ hk => ⟨hk.1.2, ⟨hk.2, hk.1.1⟩⟩)), (by (with_reducible repeat (first | refine blk_drewN ?_ _ | refine blk_drew ?_ | refine blk_alloc ?_ _)); exact BK466.out), (by repeat (first | (with_reducible first | exact HB.out | apply below_alloc | apply pw_below_drewN | apply below_drew1 | refine below_set ?_ GE466.out) | exact HB.out))⟩)
                              · skip
                                refine Kd.R_lit_step k56 _ 56 ?hg (N := 39) ?hd (xs := ([(⟨((rd_T56 l0 x13_1).f0), ((rd_T56 l0 x13_1).f1)⟩ : S56)] : List (S56))) (inner := [.int .i64 ((rd_T56 l0 x13_1).f0), .int .i64 ((rd_T56 l0 x13_1).f1)]) (ok := fun _ => True) (okp := fun _ => True) ?hr ?hp (fun _ hk => hk) trivial (Below.refl _ _) (Nat.le_refl _) (by simp) ?_; (case hd => rfl); (case hg => rfl); (case hr => first | (go_simp; done) | (go_simp; rfl)); (case hp => exact (Reps.c2 (show Kd.M k56 _ _ _ (⟨((rd_T56 l0 x13_1).f0), ((rd_T56 l0 x13_1).f1)⟩ : S56) [.int .i64 ((rd_T56 l0 x13_1).f0), .int .i64 ((rd_T56 l0 x13_1).f1)] from (k56_mkM _ _ _ (⟨((rd_T56 l0 x13_1).f0), ((rd_T56 l0 x13_1).f1)⟩ : S56) )) (Reps.none _ _)))
                                intro v499 w43 ho44 hb hg_ hnew_
                                clear hg_ hnew_
                                (first | rw [← Ny498.out] at ho44 | (simp only [Int.reduceToNat] at ho44; rw [← Ny498.out] at ho44))
                                have n0_ := Aside0.mk (Kd.V_elder' (by (with_reducible repeat (first | apply Kd.V_alloc | apply Kd.V_drewN | apply Kd.V_drew)); exact HO_3.out) (Kd.R_base ho44) hb)
                                have n1_ := Aside0.mk (Kd.V_elder' (by (with_reducible repeat (first | apply Kd.V_alloc | apply Kd.V_drewN | apply Kd.V_drew)); exact HO494.out) (Kd.R_base ho44) hb)
                                have n2_ := Aside0.mk (Kd.V_elder' (by (with_reducible repeat (first | apply Kd.V_alloc | apply Kd.V_drewN | apply Kd.V_drew)); exact HO508.out) (Kd.R_base ho44) hb)
                                have n3_ := Aside0.mk (Kd.R_lower (Kd.R_newB ho44 (g := gb466) (o := .cells #[.int .i64 ((rd_T56 l0 x13_1).f0), .int .i64 ((rd_T56 l0 x13_1).f1)] 56 (0, 0)) (by (with_reducible repeat (first | refine blk_drewN ?_ _ | refine blk_drew ?_ | refine blk_alloc ?_ _)); exact BK466.out)) (below_size (by repeat (first | (with_reducible first | exact HB.out | apply below_alloc | apply pw_below_drewN | apply below_drew1 | refine below_set ?_ GE466.out) | exact HB.out))))
                                have n4_ := Aside0.mk (blk_below (g := gb466) (o := .cells #[.int .i64 ((rd_T56 l0 x13_1).f0), .int .i64 ((rd_T56 l0 x13_1).f1)] 56 (0, 0)) (by (with_reducible repeat (first | refine blk_drewN ?_ _ | refine blk_drew ?_ | refine blk_alloc ?_ _)); exact BK466.out) hb)
                                have n5_ := Aside0.mk (below_step (by repeat (first | (with_reducible first | exact HB.out | apply below_alloc | apply pw_below_drewN | apply below_drew1 | refine below_set ?_ GE466.out) | exact HB.out)) hb)
                                clear HO_3
                                clear HO494
                                clear HO508
                                clear BK466
                                clear HB
                                have HO_3 := n0_
                                have HO494 := n1_
                                have HO508 := n2_
                                have HO500 := n3_
                                have BK466 := n4_
                                have HB := n5_
                                clear n0_ n1_ n2_ n3_ n4_ n5_
                                clear hb ho44
                                refine hK.out _ _ ⟨(blk_cell BK466.out 0).trans rfl, (blk_cell BK466.out 1).trans rfl⟩ (fun hHeld => ?_)
                                clear hK K
                                refine norm_ (a' := ?_) ?_ ?_
                                rotate_left
                                · show Act.put _ (some 39) _ = _
                                  simp only [Act.put, List.setIfInBounds_toArray, List.set_cons_zero, List.set_cons_succ, i64_w, i32_w]
                                  rfl
                                refine one_ (i := 3) (N := some 37) #[true, true, true, true, true, true, false, true, true, true, false, false] rfl rfl (one_of HT_.out (by kernel_rfl)) (by decide) (fun K hK => ?_)
                                refine Kd.R_append_rows_step k56 (w0 := w) w.heap.size rfl (.const (.slice none 0 0)) (.tmp 36) 40 56 (.agg #[(.int .i64 0), (.int .i64 0)]) 16 rfl Try.underlying40 info56 rfl (by decide) (by omega) (.slice none 0 0) ([] : List (S56)) y490 _ _ _ (fun k_ => some k_ ≠ (v499 : Value).ownBlock ∧ k_ ≠ gb466) (fun _ => False) rfl rfl ?aO ?aR (fun _ _ h => h) (fun _ h => h.elim) ?aF ?aB ?aS ?aL ?_
                                (case aR => repeat (first | exact (Kd.V_reads' HO494.out).2.2 | (with_reducible refine Kd.C_alloc ?_ _) | (with_reducible refine Kd.C_drewN ?_ _) | (with_reducible refine Kd.C_drew ?_)))
                                (case aB => exact (by repeat (first | (with_reducible first | exact HB.out | apply below_alloc | apply pw_below_drewN | apply below_drew1 | refine below_set ?_ GE466.out) | exact HB.out)))
                                (case aF => exact (fun k_ hk => ⟨Kd.fresh' (Kd.R_lt (by (with_reducible repeat (first | apply Kd.R_alloc | apply Kd.R_drewN | apply Kd.R_drew)); exact HO500.out)) k_ hk, Kd.freshB (g := gb466) (o := .cells #[.int .i64 ((rd_T56 l0 x13_1).f0), .int .i64 ((rd_T56 l0 x13_1).f1)] 56 (0, 0)) (by (with_reducible repeat (first | refine blk_drewN ?_ _ | refine blk_drew ?_ | refine blk_alloc ?_ _)); exact BK466.out) k_ hk⟩))
                                (case aO => exact ((Kd.R_nil _ _ _ _ (fun k_ => some k_ ≠ (v499 : Value).ownBlock ∧ k_ ≠ gb466))))
                                (case aS => exact (below_size (by repeat (first | (with_reducible first | exact HB.out | apply below_alloc | apply pw_below_drewN | apply below_drew1 | refine below_set ?_ GE466.out) | exact HB.out))))
                                (case aL => have := LMc34.out; omega)
                                intro v496 w45 ho hb hg hat
                                rw [← Ny495.out] at ho
                                have n0_ := Aside0.mk (Kd.V_afterv (Kd.V_apart_nil (by (with_reducible repeat (first | apply Kd.V_alloc | apply Kd.V_drewN | apply Kd.V_drew)); exact HO_3.out)) hg hat)
                                have n1_ := Aside0.mk (blk_grown (g := gb466) (o := .cells #[.int .i64 ((rd_T56 l0 x13_1).f0), .int .i64 ((rd_T56 l0 x13_1).f1)] 56 (0, 0)) (by (with_reducible repeat (first | refine blk_drewN ?_ _ | refine blk_drew ?_ | refine blk_alloc ?_ _)); exact BK466.out) hg (by simp [Value.ownBlock]))
                                have n2_ := Aside0.mk (Kd.V_afterv (Kd.V_apart_nil (by (with_reducible repeat (first | apply Kd.V_alloc | apply Kd.V_drewN | apply Kd.V_drew)); exact HO494.out)) hg hat)
                                have n3_ := Aside0.mk (Kd.V_afterv (Kd.V_apart_nil (by (with_reducible repeat (first | apply Kd.V_alloc | apply Kd.V_drewN | apply Kd.V_drew)); exact HO508.out)) hg hat)
                                have n4_ := Aside0.mk (Kd.R_after (Kd.R_apart_nil (by (with_reducible repeat (first | apply Kd.R_alloc | apply Kd.R_drewN | apply Kd.R_drew)); exact HO500.out)) hg hat)
                                have n5_ := Aside0.mk (hb)
                                have n6_ := Aside0.mk (ho)
                                clear HO_3
                                clear BK466
                                clear HO494
                                clear HO508
                                clear HO500
                                clear HB
                                have HO_3 := n0_
                                have BK466 := n1_
                                have HO494 := n2_
                                have HO508 := n3_
                                have HO500 := n4_
                                have HB := n5_
                                have HO497 := n6_
                                clear n0_ n1_ n2_ n3_ n4_ n5_ n6_
                                clear ho hb hg hat
                                refine hK.out _ _ ⟨(blk_cell BK466.out 0).trans rfl, (blk_cell BK466.out 1).trans rfl⟩ (fun hHeld => ?_)
                                clear hK K
                                refine norm_ (a' := ?_) ?_ ?_
                                rotate_left
                                · show Act.put _ (some 37) _ = _
                                  simp only [Act.put, List.setIfInBounds_toArray, List.set_cons_zero, List.set_cons_succ, i64_w, i32_w]
                                  rfl
                                exact norm_ (by simp only [putAll, Act.put, List.setIfInBounds_toArray, List.set_cons_zero, List.set_cons_succ]) (hCont (v496, v499) _ ⟨hHeld, (by (with_reducible repeat (first | apply Kd.V_alloc | apply Kd.V_drewN | apply Kd.V_drew)); exact Kd.V_mono HO494.out (fun _ hk => ⟨hk.2, ⟨hk.1.2, hk.1.1⟩⟩)), (by (with_reducible repeat (first | apply Kd.R_alloc | apply Kd.R_drewN | apply Kd.R_drew)); exact HO497.out), (by (with_reducible repeat (first | apply Kd.R_alloc | apply Kd.R_drewN | apply Kd.R_drew)); exact Kd.R_mono HO500.out (fun _ hk => ⟨hk.2, hk.1.2⟩)), (by (with_reducible repeat (first | apply Kd.V_alloc | apply Kd.V_drewN | apply Kd.V_drew)); exact Kd.V_mono HO508.out (fun _ hk => ⟨hk.2, ⟨hk.1.2, hk.1.1⟩⟩)), (by (with_reducible repeat (first | apply Kd.V_alloc | apply Kd.V_drewN | apply Kd.V_drew)); exact Kd.V_mono HO_3.out (fun _ hk => ⟨hk.2, ⟨hk.1.2, hk.1.1⟩⟩)), (by (with_reducible repeat (first | refine blk_drewN ?_ _ | refine blk_drew ?_ | refine blk_alloc ?_ _)); exact BK466.out), (by repeat (first | (with_reducible first | exact HB.out | apply below_alloc | apply pw_below_drewN | apply below_drew1 | refine below_set ?_ GE466.out) | exact HB.out))⟩)
                            rintro ⟨v496, v499⟩ w46 ⟨hS_, h0_, h1_, h2_, h3_, h4_, h5_, h6_⟩
                            have n0_ : Aside0 (Kd.V k56 56 w46 w.heap.size (fun k_ => some k_ ≠ (v496 : Value).ownBlock ∧ some k_ ≠ (v499 : Value).ownBlock ∧ k_ ≠ gb466) (.slice Ao7 y490.length co7) y490) := ⟨h0_⟩
                            have n1_ : Aside0 (Kd.R k56 56 w46 w.heap.size (fun k_ => some k_ ≠ (v499 : Value).ownBlock ∧ k_ ≠ gb466) v496 y495) := ⟨h1_⟩
                            have n2_ : Aside0 (Kd.R k56 56 w46 w.heap.size (fun k_ => some k_ ≠ (v496 : Value).ownBlock ∧ k_ ≠ gb466) v499 y498) := ⟨h2_⟩
                            have n3_ : Aside0 (Kd.V k56 56 w46 w.heap.size (fun k_ => some k_ ≠ (v496 : Value).ownBlock ∧ some k_ ≠ (v499 : Value).ownBlock ∧ k_ ≠ gb466) (.slice A42 y504.length c42) y504) := ⟨h3_⟩
                            have n4_ : Aside0 (Kd.V k56 56 w46 w.heap.size (fun k_ => some k_ ≠ (v496 : Value).ownBlock ∧ some k_ ≠ (v499 : Value).ownBlock ∧ k_ ≠ gb466) (.slice Ao7 x3_1.length co7) x3_1) := ⟨h4_⟩
                            have n5_ : Aside0 (w46.heap[gb466]? = some (.cells #[.int .i64 ((rd_T56 l0 x13_1).f0), .int .i64 ((rd_T56 l0 x13_1).f1)] 56 (0, 0))) := ⟨h5_⟩
                            have n6_ : Aside0 (Below w.heap.size w w46) := ⟨h6_⟩
                            clear HO_3
                            clear BK466
                            clear HB
                            clear h0_ h1_ h2_ h3_ h4_ h5_ h6_
                            have HO494 := n0_
                            have HO497 := n1_
                            have HO500 := n2_
                            have HO508 := n3_
                            have HO_3 := n4_
                            have BK466 := n5_
                            have HB := n6_
                            clear n0_ n1_ n2_ n3_ n4_ n5_ n6_
                            have hHeld : w46.cell? ⟨gb466, 0, none⟩ = some (.int .i64 ((rd_T56 l0 x13_1).f0)) ∧ w46.cell? ⟨gb466, 1, none⟩ = some (.int .i64 ((rd_T56 l0 x13_1).f1)) := hS_
                            obtain ⟨Ao48, co48, eo48⟩ := Kd.R_slice HO500.out
                            (first | subst eo48 | (injection eo48 with f1_ f2_ f3_; have f4_ := f1_.symm; have f5_ := f3_.symm; clear f1_ f2_ f3_; subst f4_; subst f5_))
                            refine norm_ (a' := ?_) ?_ ?_
                            rotate_left
                            · simp only [putAll, Act.put, List.setIfInBounds_toArray, List.set_cons_zero, List.set_cons_succ]
                              rfl
                            refine one_ (i := 6) (N := some 40) #[true, true, true, true, true, true, true, true, true, true, false, false] rfl rfl (one_of HT_.out (by kernel_rfl)) (by decide) (fun K hK => ?_)
                            refine Kd.R_append_rows_step k56 (w0 := w) w.heap.size (by rfl) (.tmp 37) (.tmp 39) 40 56 (.agg #[(.int .i64 0), (.int .i64 0)]) 16 rfl Try.underlying40 info56 rfl (by decide) (by omega) v496 y495 y498 _ _ _ (fun k_ => some k_ ≠ (.slice Ao48 y498.length co48 : Value).ownBlock ∧ k_ ≠ gb466) (fun _ => False) rfl rfl ?aO ?aR (fun _ _ h => h) (fun _ h => h.elim) ?aF ?aB ?aS ?aL ?_
                            (case aR => repeat (first | exact (Kd.R_reads' HO500.out).2.2 | (with_reducible refine Kd.C_alloc ?_ _) | (with_reducible refine Kd.C_drewN ?_ _) | (with_reducible refine Kd.C_drew ?_)))
                            (case aB => exact (by repeat (first | (with_reducible first | exact HB.out | apply below_alloc | apply pw_below_drewN | apply below_drew1 | refine below_set ?_ GE466.out) | exact HB.out)))
                            (case aF => exact (fun k_ hk => ⟨Kd.fresh' (Kd.R_lt (by (with_reducible repeat (first | apply Kd.R_alloc | apply Kd.R_drewN | apply Kd.R_drew)); exact HO500.out)) k_ hk, Kd.freshB (g := gb466) (o := .cells #[.int .i64 ((rd_T56 l0 x13_1).f0), .int .i64 ((rd_T56 l0 x13_1).f1)] 56 (0, 0)) (by (with_reducible repeat (first | refine blk_drewN ?_ _ | refine blk_drew ?_ | refine blk_alloc ?_ _)); exact BK466.out) k_ hk⟩))
                            (case aO => exact (by (with_reducible repeat (first | apply Kd.R_alloc | apply Kd.R_drewN | apply Kd.R_drew)); exact HO497.out))
                            (case aS => exact (below_size (by repeat (first | (with_reducible first | exact HB.out | apply below_alloc | apply pw_below_drewN | apply below_drew1 | refine below_set ?_ GE466.out) | exact HB.out))))
                            (case aL => have := LMc35.out; omega)
                            intro v502 w47 ho hb hg hat
                            rw [← Ny501.out] at ho
                            have n0_ := Aside0.mk (Kd.V_afterv (ok := (fun k_ => some k_ ≠ (.slice Ao48 y498.length co48 : Value).ownBlock ∧ k_ ≠ gb466)) (by (with_reducible repeat (first | apply Kd.V_alloc | apply Kd.V_drewN | apply Kd.V_drew)); exact Kd.V_mono HO_3.out (fun _ hk => ⟨⟨hk.2.1, hk.2.2⟩, hk.1⟩)) hg hat)
                            have n1_ := Aside0.mk (blk_grown (g := gb466) (o := .cells #[.int .i64 ((rd_T56 l0 x13_1).f0), .int .i64 ((rd_T56 l0 x13_1).f1)] 56 (0, 0)) (by (with_reducible repeat (first | refine blk_drewN ?_ _ | refine blk_drew ?_ | refine blk_alloc ?_ _)); exact BK466.out) hg (Kd.R_away HO497.out (fun _ hk => hk.2)))
                            have n2_ := Aside0.mk (Kd.V_afterv (ok := (fun k_ => some k_ ≠ (.slice Ao48 y498.length co48 : Value).ownBlock ∧ k_ ≠ gb466)) (by (with_reducible repeat (first | apply Kd.V_alloc | apply Kd.V_drewN | apply Kd.V_drew)); exact Kd.V_mono HO494.out (fun _ hk => ⟨⟨hk.2.1, hk.2.2⟩, hk.1⟩)) hg hat)
                            have n3_ := Aside0.mk (Kd.V_afterv (ok := (fun k_ => some k_ ≠ (.slice Ao48 y498.length co48 : Value).ownBlock ∧ k_ ≠ gb466)) (by (with_reducible repeat (first | apply Kd.V_alloc | apply Kd.V_drewN | apply Kd.V_drew)); exact Kd.V_mono HO508.out (fun _ hk => ⟨⟨hk.2.1, hk.2.2⟩, hk.1⟩)) hg hat)
                            have n4_ := Aside0.mk (Kd.R_after (ok := (fun k_ => k_ ≠ gb466)) (by (with_reducible repeat (first | apply Kd.R_alloc | apply Kd.R_drewN | apply Kd.R_drew)); exact Kd.R_mono HO500.out (fun _ hk => ⟨hk.2, hk.1⟩)) hg hat)
                            have n5_ := Aside0.mk (hb)
                            have n6_ := Aside0.mk (ho)
                            clear HO_3
                            clear BK466
                            clear HO494
                            clear HO508
                            clear HO500
                            clear HB
                            clear HO497
                            have HO_3 := n0_
                            have BK466 := n1_
                            have HO494 := n2_
                            have HO508 := n3_
                            have HO500 := n4_
                            have HB := n5_
                            have HO503 := n6_
                            clear n0_ n1_ n2_ n3_ n4_ n5_ n6_
                            clear ho hb hg hat
                            refine hK.out _ _ ⟨(blk_cell BK466.out 0).trans rfl, (blk_cell BK466.out 1).trans rfl⟩ (fun hHeld => ?_)
                            clear hK K
                            refine norm_ (a' := ?_) ?_ ?_
                            rotate_left
                            · show Act.put _ (some 40) _ = _
                              simp only [Act.put, List.setIfInBounds_toArray, List.set_cons_zero, List.set_cons_succ, i64_w, i32_w]
                              rfl
                            refine one_ (i := 10) (N := some 44) #[true, true, true, true, true, true, true, true, true, true, true, false] rfl rfl (one_of HT_.out (by kernel_rfl)) (by decide) (fun K hK => ?_)
                            refine Kd.R_append_rows_step k56 (w0 := w) w.heap.size (by rfl) (.tmp 40) (.tmp 43) 40 56 (.agg #[(.int .i64 0), (.int .i64 0)]) 16 rfl Try.underlying40 info56 rfl (by decide) (by omega) v502 y501 y504 _ _ _ (fun k_ => some k_ ≠ (.slice Ao48 y498.length co48 : Value).ownBlock ∧ k_ ≠ gb466) (fun _ => False) rfl rfl ?aO ?aR (fun _ _ h => h) (fun _ h => h.elim) ?aF ?aB ?aS ?aL ?_
                            (case aR => repeat (first | exact (Kd.V_reads' HO508.out).2.2 | (with_reducible refine Kd.C_alloc ?_ _) | (with_reducible refine Kd.C_drewN ?_ _) | (with_reducible refine Kd.C_drew ?_)))
                            (case aB => exact (by repeat (first | (with_reducible first | exact HB.out | apply below_alloc | apply pw_below_drewN | apply below_drew1 | refine below_set ?_ GE466.out) | exact HB.out)))
                            (case aF => exact (fun k_ hk => ⟨Kd.fresh' (Kd.R_lt (by (with_reducible repeat (first | apply Kd.R_alloc | apply Kd.R_drewN | apply Kd.R_drew)); exact HO500.out)) k_ hk, Kd.freshB (g := gb466) (o := .cells #[.int .i64 ((rd_T56 l0 x13_1).f0), .int .i64 ((rd_T56 l0 x13_1).f1)] 56 (0, 0)) (by (with_reducible repeat (first | refine blk_drewN ?_ _ | refine blk_drew ?_ | refine blk_alloc ?_ _)); exact BK466.out) k_ hk⟩))
                            (case aO => exact (by (with_reducible repeat (first | apply Kd.R_alloc | apply Kd.R_drewN | apply Kd.R_drew)); exact HO503.out))
                            (case aS => exact (below_size (by repeat (first | (with_reducible first | exact HB.out | apply below_alloc | apply pw_below_drewN | apply below_drew1 | refine below_set ?_ GE466.out) | exact HB.out))))
                            (case aL => have := LMc38.out; omega)
                            intro v510 w49 ho hb hg hat
                            rw [← Ny509.out] at ho
                            have n0_ := Aside0.mk (Kd.V_afterv (ok := (fun k_ => some k_ ≠ (.slice Ao48 y498.length co48 : Value).ownBlock ∧ k_ ≠ gb466)) (by (with_reducible repeat (first | apply Kd.V_alloc | apply Kd.V_drewN | apply Kd.V_drew)); exact HO_3.out) hg hat)
                            have n1_ := Aside0.mk (blk_grown (g := gb466) (o := .cells #[.int .i64 ((rd_T56 l0 x13_1).f0), .int .i64 ((rd_T56 l0 x13_1).f1)] 56 (0, 0)) (by (with_reducible repeat (first | refine blk_drewN ?_ _ | refine blk_drew ?_ | refine blk_alloc ?_ _)); exact BK466.out) hg (Kd.R_away HO503.out (fun _ hk => hk.2)))
                            have n2_ := Aside0.mk (Kd.V_afterv (ok := (fun k_ => some k_ ≠ (.slice Ao48 y498.length co48 : Value).ownBlock ∧ k_ ≠ gb466)) (by (with_reducible repeat (first | apply Kd.V_alloc | apply Kd.V_drewN | apply Kd.V_drew)); exact HO494.out) hg hat)
                            have n3_ := Aside0.mk (Kd.V_afterv (ok := (fun k_ => some k_ ≠ (.slice Ao48 y498.length co48 : Value).ownBlock ∧ k_ ≠ gb466)) (by (with_reducible repeat (first | apply Kd.V_alloc | apply Kd.V_drewN | apply Kd.V_drew)); exact HO508.out) hg hat)
                            have n4_ := Aside0.mk (Kd.R_after (ok := (fun k_ => k_ ≠ gb466)) (by (with_reducible repeat (first | apply Kd.R_alloc | apply Kd.R_drewN | apply Kd.R_drew)); exact HO500.out) hg hat)
                            have n5_ := Aside0.mk (hb)
                            have n6_ := Aside0.mk (ho)
                            clear HO_3
                            clear BK466
                            clear HO494
                            clear HO508
                            clear HO500
                            clear HB
                            clear HO503
                            have HO_3 := n0_
                            have BK466 := n1_
                            have HO494 := n2_
                            have HO508 := n3_
                            have HO500 := n4_
                            have HB := n5_
                            have HO511 := n6_
                            clear n0_ n1_ n2_ n3_ n4_ n5_ n6_
                            clear ho hb hg hat
                            refine hK.out _ _ ⟨(blk_cell BK466.out 0).trans rfl, (blk_cell BK466.out 1).trans rfl⟩ (fun hHeld => ?_)
                            clear hK K
                            refine norm_ (a' := ?_) ?_ ?_
                            rotate_left
                            · show Act.put _ (some 44) _ = _
                              simp only [Act.put, List.setIfInBounds_toArray, List.set_cons_zero, List.set_cons_succ, i64_w, i32_w]
                              rfl
                            refine pure_ (i := 11) (N := some 3) (v := ?_) (a' := ?_) #[true, true, true, true, true, true, true, true, true, true, true, true] rfl rfl (any_of HT_.out (by kernel_rfl)) (fun _ _ _ h => h) (Or.inl ⟨by rfl, ?_⟩) ?_ ?_
                            rotate_left
                            · intro w'
                              go_simp
                              with_reducible rfl
                            rotate_left
                            · simp only [Act.put, List.setIfInBounds_toArray, List.set_cons_zero, List.set_cons_succ, i64_w, i32_w]
                              rfl
                            refine done_ (done_of HT_.out (by kernel_rfl)) ?_
                            try go_wp2
                            go_roundg k2
                            case measure => have := HK1.out; have := HK2.out; omega
                            case rel => exact ⟨(y509), (wrap64 (x13_1 + 1)), (by first | rfl | (simp; done) | (simp [*]; done)), H', ⟨by have := HK1.out; have := HK2.out; omega⟩, ⟨Kd.R_V (by (with_reducible repeat (first | apply Kd.R_alloc | apply Kd.R_drewN | apply Kd.R_drew)); exact Kd.R_mono HO511.out (fun _ hk => trivial))⟩, ⟨by repeat (first | (with_reducible first | exact HB.out | apply below_alloc | apply pw_below_drewN | apply below_drew1 | refine below_set ?_ GE466.out) | exact HB.out)⟩⟩
                          · rw [if_neg c38] at H
                            exact absurd H (by simp)
                        · rw [if_neg c35] at H
                          exact absurd H (by simp)
                      · rw [if_neg c34] at H
                        exact absurd H (by simp)
                    · rw [if_neg c33] at H
                      exact absurd H (by simp)
                  · rw [if_neg c32] at H
                    exact absurd H (by simp)
          · rw [if_neg c4] at H
            exact absurd H (by simp)
        · rw [if_neg c3] at H
          exact absurd H (by simp)
      · rw [if_neg c2] at H
        have c2b0 : decide (x13_1 < (l0.length : Int)) = false := decide_eq_false c2
        clear c2
        have H' := Aside0.mk H
        clear H
        obtain ⟨Ao50, co50, eo50⟩ := Kd.V_slice HO_3.out
        subst eo50
        go_wp2
        go_loopg [4, 48] k1 (fun kq v4 v48 w' => ∃ (x4_2 : List (S56)) (x46_2 : List (S56)) (x48_2 : Int), v48 = .int .i64 x48_2 ∧ Aside0 (soundserviceref09_joined.l2 kq x4_2 x46_2 (x3_1.length : Int) x48_2 = some r) ∧ Aside0 (kq ≤ k1) ∧ Aside0 (Kd.R k56 56 w' w.heap.size (fun _ => True) v4 x4_2) ∧ Aside0 (Kd.V k56 56 w' w.heap.size (fun k_ => some k_ ≠ (v4 : Value).ownBlock) (.slice Ao50 x3_1.length co50) x46_2) ∧ Aside0 (Below w.heap.size w w'))
        case atStart => exact ⟨(([] : List (S56))), (x3_1), (0), (by first | rfl | (simp; done) | (simp [*]; done)), H', ⟨Nat.le_refl _⟩, ⟨by first | exact Kd.R_nil _ _ _ _ _ | exact Kd.N_nil _ _ _ _ _ | exact Kd.V_nil _ _ _ _ _ | exact Kd.Q_nil _ _ _ _ _ | exact Kd.S_nil _ _ _ _ _⟩, ⟨by (with_reducible repeat (first | apply Kd.V_alloc | apply Kd.V_drewN | apply Kd.V_drew)); exact Kd.V_mono HO_3.out (fun _ hk => (by simp [Value.ownBlock]))⟩, ⟨by repeat (first | (with_reducible first | exact HB.out | apply below_alloc | apply pw_below_drewN | apply below_drew1) | exact HB.out)⟩⟩
        case round =>
          clear H'
          try clear c1
          try clear c2
          try clear c2b0
          try clear p2
          try clear c3
          try clear c4
          try clear q4
          try clear p6
          try clear c8
          try clear c8b0
          try clear c10
          try clear c11
          try clear c14
          try clear c15
          try clear c16
          try clear c17
          try clear c20
          try clear c32
          try clear c32b0
          try clear c32b1
          try clear c33
          try clear c33b0
          try clear c33b1
          try clear c34
          try clear c35
          try clear c36
          try clear c36b0
          try clear c37
          try clear c37b0
          try clear c38
          try clear q41
          try clear c42
          try clear q42
          try clear q042
          try clear q41
          try clear q42
          obtain ⟨x4_2, x46_2, x48_2, rfl, HA, HK2, HO_4, HO_46, HB⟩ := hrel
          have hl46_2 := (Kd.V_reads' HO_46.out).1
          rw [hl46_2] at HO_46
          (try simp only [hl46_2])
          (try simp only [hl46_2] at HO_4)
          cases gk with
          | zero => exact absurd HA.out (by simp [soundserviceref09_joined.l2])
          | succ k2 =>
            have H := HA.out
            clear HA
            simp only [soundserviceref09_joined.l2] at H
            by_cases c51 : x48_2 < (x3_1.length : Int)
            · rw [if_pos c51] at H
              have c51b0 : decide (x48_2 < (x3_1.length : Int)) = true := decide_eq_true c51
              clear c51
              by_cases c52 : 0 ≤ x48_2
              · rw [if_pos c52] at H
                have c52b0 : decide (0 ≤ x48_2) = true := decide_eq_true c52
                clear c52
                by_cases c53 : x48_2 < (x46_2.length : Int)
                · rw [if_pos c53] at H
                  have c53b0 : decide (x48_2 < (x46_2.length : Int)) = true := decide_eq_true c53
                  clear c53
                  by_cases c54 : (wrap64 ((x4_2.length : Int) - 1)) ≥ 0
                  · rw [if_pos c54] at H
                    have c54b0 : decide (0 ≤ (wrap64 ((x4_2.length : Int) - 1))) = true := decide_eq_true c54
                    clear c54
                    obtain ⟨ji55, hji55⟩ : ∃ j_ : Int, (wrap64 ((x4_2.length : Int) - 1)) = j_ := ⟨_, rfl⟩
                    replace H : (if 0 ≤ (ji55) then (if (ji55) < (x4_2.length : Int) then (if (wrap64 (((rd_T56 x46_2 x48_2).f0) - 1)) ≤ ((rd_T56 x4_2 (ji55)).f1) then (soundserviceref09_joined.l2 k2 (x4_2.set ((ji55) : Int).toNat (⟨(rd_T56 x4_2 (ji55)).f0, mx ((rd_T56 x4_2 (ji55)).f1) ((rd_T56 x46_2 x48_2).f1)⟩ : S56)) x46_2 (x3_1.length : Int) (wrap64 (x48_2 + 1))) else ((some (([(⟨(rd_T56 x46_2 x48_2).f0, (rd_T56 x46_2 x48_2).f1⟩ : S56)] : List (S56)) : List (S56))).bind fun y517 => (if x4_2.length + y517.length < 8796093022208 then (soundserviceref09_joined.l2 k2 (x4_2 ++ y517) x46_2 (x3_1.length : Int) (wrap64 (x48_2 + 1))) else (none)))) else (none)) else (none)) = some r := by first | (rw [hji55] at H; exact H) | (simp only [hji55] at H ⊢; exact H)
                    (try rw [hji55] at c54b0)
                    have hji55w : (IntKind.i64.wrap ((x4_2.length : Int) - 1)) = ji55 := (i64_w _).trans hji55
                    by_cases c56 : 0 ≤ (ji55)
                    · rw [if_pos c56] at H
                      have c56b0 : decide (0 ≤ (ji55)) = true := decide_eq_true c56
                      clear c56
                      by_cases c57 : (ji55) < (x4_2.length : Int)
                      · rw [if_pos c57] at H
                        have c57b0 : decide ((ji55) < (x4_2.length : Int)) = true := decide_eq_true c57
                        clear c57
                        by_cases c58 : (wrap64 (((rd_T56 x46_2 x48_2).f0) - 1)) ≤ ((rd_T56 x4_2 (ji55)).f1)
                        · rw [if_pos c58] at H
                          have c58b0 : decide ((wrap64 (((rd_T56 x46_2 x48_2).f0) - 1)) ≤ ((rd_T56 x4_2 (ji55)).f1)) = true := decide_eq_true c58
                          clear c58
                          obtain ⟨ji59, hji59⟩ : ∃ j_ : Int, (mx ((rd_T56 x4_2 (ji55)).f1) ((rd_T56 x46_2 x48_2).f1)) = j_ := ⟨_, rfl⟩
                          replace H : (soundserviceref09_joined.l2 k2 (x4_2.set ((ji55) : Int).toNat (⟨(rd_T56 x4_2 (ji55)).f0, ji59⟩ : S56)) x46_2 (x3_1.length : Int) (wrap64 (x48_2 + 1))) = some r := by first | (rw [hji59] at H; exact H) | (simp only [hji59] at H ⊢; exact H)
                          have hji59_ : (if ((rd_T56 x4_2 (ji55)).f1) < ((rd_T56 x46_2 x48_2).f1) then ((rd_T56 x46_2 x48_2).f1) else ((rd_T56 x4_2 (ji55)).f1)) = ji59 := hji59
                          obtain ⟨y516, hy516⟩ : ∃ y_ : List (S56), y_ = (x4_2.set ((ji55) : Int).toNat (⟨(rd_T56 x4_2 (ji55)).f0, ji59⟩ : S56)) := ⟨_, rfl⟩
                          replace H : (soundserviceref09_joined.l2 k2 y516 x46_2 (x3_1.length : Int) (wrap64 (x48_2 + 1))) = some r := by first | (rw [hy516]; with_reducible exact H) | (have H2_ := (Option.bind_some _ _).symm.trans H; rw [hy516]; with_reducible exact H2_) | (have H2_ := (Option.bind_some _ _).symm.trans H; with_reducible exact H2_) | with_reducible exact H | (rw [hy516]; exact H) | exact H
                          have Ny516 := Aside0.mk hy516
                          clear hy516
                          have H' := Aside0.mk H
                          clear H
                          have p512 : 0 ≤ (x48_2 : Int) := of_decide_eq_true (by first | (with_reducible assumption) | assumption)
                          have q512 : x48_2 < (x46_2.length : Int) := of_decide_eq_true (by first | (with_reducible assumption) | assumption)
                          obtain ⟨ad512, e512, hx512_0, hx512_1⟩ := at_T56 (Kd.V_reads' HO_46.out).2.2 x48_2 p512 q512
                          cases e512
                          replace p512 := eq_true p512
                          replace q512 := eq_true q512
                          try go_wp2_with (first | ((with_reducible refine gate_dst (N := 9) rfl ?_); refine box_event ?hg (N := 9) ?hd (cs := #[.int .i64 0, .int .i64 0]) (t := 56) ?hr ?_; (case hd => rfl); (case hg => rfl); (case hr => first | (go_simp; done) | (go_simp; rfl)); intro gb513 hg w61 hbox hb; have n0_ := Aside0.mk (Kd.R_below (Kd.R_elderB (by (with_reducible repeat (first | apply Kd.R_alloc | apply Kd.R_drewN | apply Kd.R_drew)); exact HO_4.out) gb513 (Nat.le_of_eq hg.symm)) hb); have n1_ := Aside0.mk (Kd.V_below (Kd.V_elderB (by (with_reducible repeat (first | apply Kd.V_alloc | apply Kd.V_drewN | apply Kd.V_drew)); exact HO_46.out) gb513 (Nat.le_of_eq hg.symm)) hb); have n2_ := Aside0.mk (below_step (by repeat (first | (with_reducible first | exact HB.out | apply below_alloc | apply pw_below_drewN | apply below_drew1) | exact HB.out)) hb); have n3_ := Aside0.mk (hbox); have n4_ := Aside0.mk ((by rw [hg]; exact (below_size (by repeat (first | (with_reducible first | exact HB.out | apply below_alloc | apply pw_below_drewN | apply below_drew1) | exact HB.out))) : w.heap.size ≤ gb513)); have n5_ := Aside0.mk ((by rw [hg]; exact (below_size (by repeat (first | (with_reducible first | exact HB.out | apply below_alloc | apply pw_below_drewN | apply below_drew1) | exact HB.out))) : w.heap.size ≤ gb513)); clear HO_4; clear HO_46; clear HB; have HO_4 := n0_; have HO_46 := n1_; have HB := n2_; have BK513 := n3_; have GW513 := n4_; have GE513 := n5_; clear n0_ n1_ n2_ n3_ n4_ n5_; clear hb hbox hg; have hcz62_0 : w61.cell? ⟨gb513, 0, none⟩ = some (.int .i64 0) := (blk_cell BK513.out 0).trans rfl; have hcz62_1 : w61.cell? ⟨gb513, 1, none⟩ = some (.int .i64 0) := (blk_cell BK513.out 1).trans rfl; have hfz62_0 := blk_frozen BK513.out 0; have hfz62_1 := blk_frozen BK513.out 1; obtain ⟨Ao63, co63, eo63⟩ := Kd.R_slice HO_4.out; subst eo63))
                          have n0_ : Aside0 (Kd.R k56 56 ((w61.setCell ⟨gb513, 0, none⟩ (.int .i64 ((rd_T56 x46_2 x48_2).f0))).setCell ⟨gb513, 1, none⟩ (.int .i64 ((rd_T56 x46_2 x48_2).f1))) w.heap.size (fun k_ => k_ ≠ gb513) (.slice Ao63 x4_2.length co63) x4_2) := ⟨by (with_reducible repeat (first | apply Kd.R_alloc | apply Kd.R_drewN | apply Kd.R_drew)); exact Kd.R_mono (Kd.R_far (p := ⟨gb513, 1, none⟩) (Kd.R_far (p := ⟨gb513, 0, none⟩) (Kd.R_mono HO_4.out (fun k_ hk => (⟨hk, hk.2⟩ : _ ∧ k_ ≠ gb513))) (fun _ hk => hk.2) (.int .i64 ((rd_T56 x46_2 x48_2).f0))) (fun _ hk => hk.2) (.int .i64 ((rd_T56 x46_2 x48_2).f1))) (fun _ hk => hk.1.2)⟩
                          have n1_ : Aside0 (Kd.V k56 56 ((w61.setCell ⟨gb513, 0, none⟩ (.int .i64 ((rd_T56 x46_2 x48_2).f0))).setCell ⟨gb513, 1, none⟩ (.int .i64 ((rd_T56 x46_2 x48_2).f1))) w.heap.size (fun k_ => some k_ ≠ (.slice Ao63 x4_2.length co63 : Value).ownBlock ∧ k_ ≠ gb513) (.slice (some ad512) x46_2.length co50) x46_2) := ⟨by (with_reducible repeat (first | apply Kd.V_alloc | apply Kd.V_drewN | apply Kd.V_drew)); exact Kd.V_mono (Kd.V_far (p := ⟨gb513, 1, none⟩) (Kd.V_far (p := ⟨gb513, 0, none⟩) (Kd.V_mono HO_46.out (fun k_ hk => (⟨hk, hk.2⟩ : _ ∧ k_ ≠ gb513))) (fun _ hk => hk.2) (.int .i64 ((rd_T56 x46_2 x48_2).f0))) (fun _ hk => hk.2) (.int .i64 ((rd_T56 x46_2 x48_2).f1))) (fun _ hk => ⟨hk.1.1, hk.1.2⟩)⟩
                          have n2_ : Aside0 (((w61.setCell ⟨gb513, 0, none⟩ (.int .i64 ((rd_T56 x46_2 x48_2).f0))).setCell ⟨gb513, 1, none⟩ (.int .i64 ((rd_T56 x46_2 x48_2).f1))).heap[gb513]? = some (.cells #[.int .i64 ((rd_T56 x46_2 x48_2).f0), .int .i64 ((rd_T56 x46_2 x48_2).f1)] 56 (0, 0))) := ⟨by (with_reducible repeat (first | refine blk_drewN ?_ _ | refine blk_drew ?_ | refine blk_alloc ?_ _)); refine blk_put (cs := #[.int .i64 ((rd_T56 x46_2 x48_2).f0), .int .i64 0]) ?_ 1 _ rfl; (with_reducible repeat (first | refine blk_drewN ?_ _ | refine blk_drew ?_ | refine blk_alloc ?_ _)); refine blk_put (cs := #[.int .i64 0, .int .i64 0]) ?_ 0 _ rfl; (with_reducible repeat (first | refine blk_drewN ?_ _ | refine blk_drew ?_ | refine blk_alloc ?_ _)); exact BK513.out⟩
                          have n3_ : Aside0 (Below w.heap.size w ((w61.setCell ⟨gb513, 0, none⟩ (.int .i64 ((rd_T56 x46_2 x48_2).f0))).setCell ⟨gb513, 1, none⟩ (.int .i64 ((rd_T56 x46_2 x48_2).f1)))) := ⟨by repeat (first | (with_reducible first | exact HB.out | apply below_alloc | apply pw_below_drewN | apply below_drew1 | refine below_set ?_ GE513.out) | exact HB.out)⟩
                          (try clear HO_4)
                          (try clear HO_46)
                          (try clear BK513)
                          (try clear HB)
                          generalize ((w61.setCell ⟨gb513, 0, none⟩ (.int .i64 ((rd_T56 x46_2 x48_2).f0))).setCell ⟨gb513, 1, none⟩ (.int .i64 ((rd_T56 x46_2 x48_2).f1))) = w64 at n0_ n1_ n2_ n3_ ⊢
                          have HO_4 := n0_
                          have HO_46 := n1_
                          have BK513 := n2_
                          have HB := n3_
                          clear n0_ n1_ n2_ n3_
                          have n0_ := Aside0.mk (Kd.R_drew HO_4.out)
                          have n1_ := Aside0.mk (Kd.V_drew HO_46.out)
                          have n2_ := Aside0.mk (blk_drew BK513.out)
                          have n3_ := Aside0.mk (below_drew1 HB.out)
                          clear HO_4
                          clear HO_46
                          clear BK513
                          clear HB
                          have HO_4 := n0_
                          have HO_46 := n1_
                          have BK513 := n2_
                          have HB := n3_
                          clear n0_ n1_ n2_ n3_
                          have p514 : 0 ≤ ((ji55) : Int) := of_decide_eq_true (by first | (with_reducible assumption) | assumption)
                          have q514 : (ji55) < (x4_2.length : Int) := of_decide_eq_true (by first | (with_reducible assumption) | assumption)
                          obtain ⟨ad514, e514, hx514_0, hx514_1⟩ := at_T56 (Kd.R_reads' HO_4.out).2.2 (ji55) p514 q514
                          cases e514
                          replace p514 := eq_true p514
                          replace q514 := eq_true q514
                          refine start_ (n := 13) (S := fun w' => w'.cell? ⟨gb513, 0, none⟩ = some (.int .i64 ((rd_T56 x46_2 x48_2).f0)) ∧ w'.cell? ⟨gb513, 1, none⟩ = some (.int .i64 ((rd_T56 x46_2 x48_2).f1)) ∧ w'.cell? (ad514.add (((ji55)).toNat * 2)) = some (.int .i64 ((rd_T56 x4_2 (ji55)).f0)) ∧ w'.cell? ⟨(ad514.add (((ji55)).toNat * 2)).block, (ad514.add (((ji55)).toNat * 2)).off + 1, none⟩ = some (.int .i64 ((rd_T56 x4_2 (ji55)).f1))) (ds := []) #[false, false, false, false, false, false, false, false, false, false, false, false, false] (by kernel_rfl) rfl rfl ⟨(blk_cell BK513.out 0).trans rfl, (blk_cell BK513.out 1).trans rfl, hx514_0, hx514_1⟩ (fun hHeld => ?_); refine with_tabW soundserviceref09_joined.tab14 soundserviceref09_joined.bits14 (fun HT_ HW_ => ?_)
                          generalize w64.drew = w65 at HO_4 HO_46 BK513 HB hx514_0 hx514_1 hHeld ⊢
                          refine pure_ (i := 0) (N := some 55) (v := ?_) (a' := ?_) #[true, false, false, false, false, false, false, false, false, false, false, false, false] rfl rfl (any_of HT_.out (by kernel_rfl)) (fun _ _ _ h => h) (Or.inl ⟨by rfl, ?_⟩) ?_ ?_
                          rotate_left
                          · intro w'
                            go_simp
                            with_reducible rfl
                          rotate_left
                          · simp only [Act.put, List.setIfInBounds_toArray, List.set_cons_zero, List.set_cons_succ, i64_w, i32_w]
                            rfl
                          refine pure_ (i := 1) (N := some 56) (v := ?_) (a' := ?_) #[true, true, false, false, false, false, false, false, false, false, false, false, false] rfl rfl (any_of HT_.out (by kernel_rfl)) (fun _ _ _ h => h) (Or.inl ⟨by rfl, ?_⟩) ?_ ?_
                          rotate_left
                          · intro w'
                            go_simp
                            with_reducible rfl
                          rotate_left
                          · simp only [Act.put, List.setIfInBounds_toArray, List.set_cons_zero, List.set_cons_succ, i64_w, i32_w]
                            rfl
                          refine pure_ (i := 2) (N := some 57) (v := ?_) (a' := ?_) #[true, true, true, false, false, false, false, false, false, false, false, false, false] rfl rfl (any_of HT_.out (by kernel_rfl)) (fun _ _ _ h => h) (Or.inl ⟨by rfl, ?_⟩) ?_ ?_
                          rotate_left
                          · intro w'
                            go_simp
                            with_reducible rfl
                          rotate_left
                          · simp only [Act.put, List.setIfInBounds_toArray, List.set_cons_zero, List.set_cons_succ, i64_w, i32_w]
                            rfl
                          refine pure_ (i := 3) (N := some 58) (v := ?_) (a' := ?_) #[true, true, true, true, false, false, false, false, false, false, false, false, false] rfl rfl (any_of HT_.out (by kernel_rfl)) (fun _ _ _ h => h) (Or.inl ⟨by rfl, ?_⟩) ?_ ?_
                          rotate_left
                          · intro w'
                            go_simp
                            with_reducible rfl
                          rotate_left
                          · simp only [Act.put, List.setIfInBounds_toArray, List.set_cons_zero, List.set_cons_succ, i64_w, i32_w]
                            rfl
                          refine pure_ (i := 6) (N := some 61) (v := ?_) (a' := ?_) #[true, true, true, true, false, false, true, false, false, false, false, false, false] rfl rfl (any_of HT_.out (by kernel_rfl)) (fun _ _ _ h => h) (Or.inl ⟨by rfl, ?_⟩) ?_ ?_
                          rotate_left
                          · intro w'
                            go_simp
                            with_reducible rfl
                          rotate_left
                          · simp only [Act.put, List.setIfInBounds_toArray, List.set_cons_zero, List.set_cons_succ, i64_w, i32_w]
                            rfl
                          refine pure_ (i := 7) (N := some 62) (v := ?_) (a' := ?_) #[true, true, true, true, false, false, true, true, false, false, false, false, false] rfl rfl (any_of HT_.out (by kernel_rfl)) (fun _ _ _ h => h) (Or.inl ⟨by rfl, ?_⟩) ?_ ?_
                          rotate_left
                          · intro w'
                            go_simp
                            with_reducible rfl
                          rotate_left
                          · simp only [Act.put, List.setIfInBounds_toArray, List.set_cons_zero, List.set_cons_succ, i64_w, i32_w]
                            rfl
                          refine pure_ (i := 8) (N := some 63) (v := ?_) (a' := ?_) #[true, true, true, true, false, false, true, true, true, false, false, false, false] rfl rfl (any_of HT_.out (by kernel_rfl)) (fun _ _ _ h => h) (Or.inl ⟨by rfl, ?_⟩) ?_ ?_
                          rotate_left
                          · intro w'
                            go_simp
                            with_reducible rfl
                          rotate_left
                          · simp only [Act.put, List.setIfInBounds_toArray, List.set_cons_zero, List.set_cons_succ, i64_w, i32_w]
                            rfl
                          refine pure_ (i := 9) (N := some 64) (v := ?_) (a' := ?_) #[true, true, true, true, false, false, true, true, true, true, false, false, false] rfl rfl (any_of HT_.out (by kernel_rfl)) (fun _ _ _ h => h) (Or.inl ⟨by rfl, ?_⟩) ?_ ?_
                          rotate_left
                          · intro w'
                            go_simp
                            with_reducible rfl
                          rotate_left
                          · simp only [Act.put, List.setIfInBounds_toArray, List.set_cons_zero, List.set_cons_succ, i64_w, i32_w]
                            rfl
                          refine take_ (i := 4) (N := some 59) (v := ?_) (a' := ?_) #[true, true, true, true, true, false, true, true, true, true, false, false, false] rfl rfl (take_ofW HT_.out HW_.out (by kernel_rfl)) (fun _ _ _ h => h) (Or.inl ⟨by rfl, ?_⟩) hHeld ?_ ?_
                          rotate_left
                          · rintro w' ⟨s0, s1, s2, s3⟩
                            go_simp
                            with_reducible rfl
                          rotate_left
                          · simp only [Act.put, List.setIfInBounds_toArray, List.set_cons_zero, List.set_cons_succ, i64_w, i32_w]
                            rfl
                          refine pure_ (i := 5) (N := some 60) (v := ?_) (a' := ?_) #[true, true, true, true, true, true, true, true, true, true, false, false, false] rfl rfl (any_of HT_.out (by kernel_rfl)) (fun _ _ _ h => h) (Or.inl ⟨by rfl, ?_⟩) ?_ ?_
                          rotate_left
                          · intro w'
                            go_simp
                            with_reducible rfl
                          rotate_left
                          · simp only [Act.put, List.setIfInBounds_toArray, List.set_cons_zero, List.set_cons_succ, i64_w, i32_w]
                            rfl
                          refine take_ (i := 10) (N := some 65) (v := ?_) (a' := ?_) #[true, true, true, true, true, true, true, true, true, true, true, false, false] rfl rfl (take_ofW HT_.out HW_.out (by kernel_rfl)) (fun _ _ _ h => h) (Or.inl ⟨by rfl, ?_⟩) hHeld ?_ ?_
                          rotate_left
                          · rintro w' ⟨s0, s1, s2, s3⟩
                            go_simp
                            with_reducible rfl
                          rotate_left
                          · simp only [Act.put, List.setIfInBounds_toArray, List.set_cons_zero, List.set_cons_succ, i64_w, i32_w]
                            rfl
                          refine pure_ (i := 11) (N := some 66) (v := ?_) (a' := ?_) #[true, true, true, true, true, true, true, true, true, true, true, true, false] rfl rfl (any_of HT_.out (by kernel_rfl)) (fun _ _ _ h => h) (Or.inl ⟨by rfl, ?_⟩) ?_ ?_
                          rotate_left
                          · intro w'
                            go_simp
                            with_reducible rfl
                          rotate_left
                          · simp only [Act.put, List.setIfInBounds_toArray, List.set_cons_zero, List.set_cons_succ, i64_w, i32_w]
                            rfl
                          refine pure_ (i := 12) (N := some 67) (v := ?_) (a' := ?_) #[true, true, true, true, true, true, true, true, true, true, true, true, true] rfl rfl (any_of HT_.out (by kernel_rfl)) (fun _ _ _ h => h) (Or.inl ⟨by rfl, ?_⟩) ?_ ?_
                          rotate_left
                          · intro w'
                            go_simp
                            with_reducible rfl
                          rotate_left
                          · simp only [Act.put, List.setIfInBounds_toArray, List.set_cons_zero, List.set_cons_succ, i64_w, i32_w]
                            rfl
                          refine done_ (done_of HT_.out (by kernel_rfl)) ?_
                          try go_wp2
                          have n0_ := Aside0.mk (Kd.R_drew HO_4.out)
                          have n1_ := Aside0.mk (Kd.V_drew HO_46.out)
                          have n2_ := Aside0.mk (blk_drew BK513.out)
                          have n3_ := Aside0.mk (below_drew1 HB.out)
                          clear HO_4
                          clear HO_46
                          clear BK513
                          clear HB
                          have HO_4 := n0_
                          have HO_46 := n1_
                          have BK513 := n2_
                          have HB := n3_
                          clear n0_ n1_ n2_ n3_
                          have p515 : 0 ≤ ((ji55) : Int) := of_decide_eq_true (by first | (with_reducible assumption) | assumption)
                          have q515 : (ji55) < (x4_2.length : Int) := of_decide_eq_true (by first | (with_reducible assumption) | assumption)
                          obtain ⟨ad515, e515, hx515_0, hx515_1⟩ := at_T56 (Kd.R_reads' HO_4.out).2.2 (ji55) p515 q515
                          obtain rfl : ad514 = ad515 := (by injection e515)
                          replace p515 := eq_true p515
                          replace q515 := eq_true q515
                          have p60 : 0 ≤ ((ji55) : Int) := of_decide_eq_true (by first | (with_reducible assumption) | assumption)
                          have q60 : ((ji55) : Int) < ((x4_2.length : Int) : Int) := of_decide_eq_true (by first | (with_reducible assumption) | assumption)
                          obtain ⟨go60, co60, eo60, gb60, gl60, cl60, HG60⟩ := Kd.R_form HO_4.out (by omega)
                          (first | cases eo60 | (injection eo60 with ea_ en_ ec_; (first | subst ea_ | (injection ea_ with ea_; subst ea_)); subst ec_; clear en_))
                          have GB60 := Aside0.mk gb60
                          have GG60 := Aside0.mk HG60
                          clear gb60 gl60 HG60
                          (first | simp only [add_plain] at hx514_0 | skip)
                          (first | simp only [add_plain] at hx514_1 | skip)
                          (first | simp only [add_plain] at hx515_0 | skip)
                          (first | simp only [add_plain] at hx515_1 | skip)
                          obtain ⟨ce60, hcl60, hM60, hcc60, hfr60⟩ := Kd.R_elem HO_4.out z56 ((ji55) : Int) p60 q60
                          obtain rfl := k56_openM hM60
                          have hx60_0 : World.cell? _ ⟨go60, ((ji55) : Int).toNat * 2, none⟩ = some (.int .i64 ((rd_T56 x4_2 (ji55)).f0)) := hcc60 0 _ rfl
                          have hx60_1 : World.cell? _ ⟨go60, ((ji55) : Int).toNat * 2 + 1, none⟩ = some (.int .i64 ((rd_T56 x4_2 (ji55)).f1)) := hcc60 1 _ rfl
                          have hf60_0 : World.frozen? _ ⟨go60, ((ji55) : Int).toNat * 2, none⟩ = false := hfr60 0
                          have hf60_1 : World.frozen? _ ⟨go60, ((ji55) : Int).toNat * 2 + 1, none⟩ = false := hfr60 1
                          clear hcl60 hcc60 hfr60 hM60
                          replace p60 := eq_true p60
                          replace q60 := eq_true q60
                          obtain ⟨ce67, hcl67, hM67, hcc67, hfr67⟩ := Kd.R_elem HO_4.out z56 ((ji55) : Int) (of_decide_eq_true (by first | (with_reducible assumption) | assumption)) (by have h_ : ((ji55) : Int) < ((x4_2.length : Int) : Int) := of_decide_eq_true (by first | (with_reducible assumption) | assumption); first | exact h_ | (have e_ := (Kd.R_reads' HO_4.out).1; omega) | simpa using h_)
                          obtain rfl := k56_openM hM67
                          have HP67 := (Kd.R_seg HO_4.out ((ji55) : Int) (of_decide_eq_true (by first | (with_reducible assumption) | assumption)) (by have h_ : ((ji55) : Int) < ((x4_2.length : Int) : Int) := of_decide_eq_true (by first | (with_reducible assumption) | assumption); first | exact h_ | (have e_ := (Kd.R_reads' HO_4.out).1; omega) | simpa using h_) (seg := [.int .i64 ji59]) (j := 1) hcl67 hcc67 (show 2 ≤ 2 from by decide) (x' := (⟨(rd_T56 x4_2 (ji55)).f0, ji59⟩ : S56)) (k56_mkM _ _ _ (⟨(rd_T56 x4_2 (ji55)).f0, ji59⟩ : S56) ) (fun _ hk => hk)).1
                          rw [← Ny516.out] at HP67
                          have HQ67 := Aside0.mk HP67
                          clear hcl67 hcc67 hfr67 hM67 HP67
                          refine start_ (n := 13) (S := fun w' => w'.cell? ⟨gb513, 0, none⟩ = some (.int .i64 ((rd_T56 x46_2 x48_2).f0)) ∧ w'.cell? ⟨gb513, 1, none⟩ = some (.int .i64 ((rd_T56 x46_2 x48_2).f1)) ∧ w'.cell? ⟨go60, ((ji55) : Int).toNat * 2, none⟩ = some (.int .i64 ((rd_T56 x4_2 (ji55)).f0)) ∧ w'.cell? ⟨go60, ((ji55) : Int).toNat * 2 + 1, none⟩ = some (.int .i64 ((rd_T56 x4_2 (ji55)).f1))) (ds := [12]) #[false, false, false, false, false, false, false, false, false, false, false, false, false] (by kernel_rfl) rfl rfl ⟨(blk_cell BK513.out 0).trans rfl, (blk_cell BK513.out 1).trans rfl, hx515_0, hx515_1⟩ (fun hHeld => ?_); refine with_tabW soundserviceref09_joined.tab15 soundserviceref09_joined.bits15 (fun HT_ HW_ => ?_)
                          generalize w65.drew = w66 at HO_4 HO_46 BK513 HB GG60 HQ67 hf60_0 hf60_1 hx514_0 hx514_1 hx515_0 hx515_1 hx60_0 hx60_1 hHeld ⊢
                          refine pure_ (i := 0) (N := some 68) (v := ?_) (a' := ?_) #[true, false, false, false, false, false, false, false, false, false, false, false, false] rfl rfl (any_of HT_.out (by kernel_rfl)) (fun _ _ _ h => h) (Or.inl ⟨by rfl, ?_⟩) ?_ ?_
                          rotate_left
                          · intro w'
                            go_simp
                            with_reducible rfl
                          rotate_left
                          · simp only [Act.put, List.setIfInBounds_toArray, List.set_cons_zero, List.set_cons_succ, i64_w, i32_w]
                            rfl
                          refine pure_ (i := 1) (N := some 69) (v := ?_) (a' := ?_) #[true, true, false, false, false, false, false, false, false, false, false, false, false] rfl rfl (any_of HT_.out (by kernel_rfl)) (fun _ _ _ h => h) (Or.inl ⟨by rfl, ?_⟩) ?_ ?_
                          rotate_left
                          · intro w'
                            go_simp
                            with_reducible rfl
                          rotate_left
                          · simp only [Act.put, List.setIfInBounds_toArray, List.set_cons_zero, List.set_cons_succ, i64_w, i32_w]
                            rfl
                          refine pure_ (i := 2) (N := some 70) (v := ?_) (a' := ?_) #[true, true, true, false, false, false, false, false, false, false, false, false, false] rfl rfl (any_of HT_.out (by kernel_rfl)) (fun _ _ _ h => h) (Or.inl ⟨by rfl, ?_⟩) ?_ ?_
                          rotate_left
                          · intro w'
                            go_simp
                            with_reducible rfl
                          rotate_left
                          · simp only [Act.put, List.setIfInBounds_toArray, List.set_cons_zero, List.set_cons_succ, i64_w, i32_w]
                            rfl
                          refine pure_ (i := 3) (N := some 71) (v := ?_) (a' := ?_) #[true, true, true, true, false, false, false, false, false, false, false, false, false] rfl rfl (any_of HT_.out (by kernel_rfl)) (fun _ _ _ h => h) (Or.inl ⟨by rfl, ?_⟩) ?_ ?_
                          rotate_left
                          · intro w'
                            go_simp
                            with_reducible rfl
                          rotate_left
                          · simp only [Act.put, List.setIfInBounds_toArray, List.set_cons_zero, List.set_cons_succ, i64_w, i32_w]
                            rfl
                          refine pure_ (i := 4) (N := some 72) (v := ?_) (a' := ?_) #[true, true, true, true, true, false, false, false, false, false, false, false, false] rfl rfl (any_of HT_.out (by kernel_rfl)) (fun _ _ _ h => h) (Or.inl ⟨by rfl, ?_⟩) ?_ ?_
                          rotate_left
                          · intro w'
                            go_simp
                            with_reducible rfl
                          rotate_left
                          · simp only [Act.put, List.setIfInBounds_toArray, List.set_cons_zero, List.set_cons_succ, i64_w, i32_w]
                            rfl
                          refine pure_ (i := 5) (N := some 73) (v := ?_) (a' := ?_) #[true, true, true, true, true, true, false, false, false, false, false, false, false] rfl rfl (any_of HT_.out (by kernel_rfl)) (fun _ _ _ h => h) (Or.inl ⟨by rfl, ?_⟩) ?_ ?_
                          rotate_left
                          · intro w'
                            go_simp
                            with_reducible rfl
                          rotate_left
                          · simp only [Act.put, List.setIfInBounds_toArray, List.set_cons_zero, List.set_cons_succ, i64_w, i32_w]
                            rfl
                          refine pure_ (i := 7) (N := some 75) (v := ?_) (a' := ?_) #[true, true, true, true, true, true, false, true, false, false, false, false, false] rfl rfl (any_of HT_.out (by kernel_rfl)) (fun _ _ _ h => h) (Or.inl ⟨by rfl, ?_⟩) ?_ ?_
                          rotate_left
                          · intro w'
                            go_simp
                            with_reducible rfl
                          rotate_left
                          · simp only [Act.put, List.setIfInBounds_toArray, List.set_cons_zero, List.set_cons_succ, i64_w, i32_w]
                            rfl
                          refine take_ (i := 6) (N := some 74) (v := ?_) (a' := ?_) #[true, true, true, true, true, true, true, true, false, false, false, false, false] rfl rfl (take_ofW HT_.out HW_.out (by kernel_rfl)) (fun _ _ _ h => h) (Or.inl ⟨by rfl, ?_⟩) hHeld ?_ ?_
                          rotate_left
                          · rintro w' ⟨s0, s1, s2, s3⟩
                            go_simp
                            with_reducible rfl
                          rotate_left
                          · simp only [Act.put, List.setIfInBounds_toArray, List.set_cons_zero, List.set_cons_succ, i64_w, i32_w]
                            rfl
                          refine take_ (i := 8) (N := some 76) (v := ?_) (a' := ?_) #[true, true, true, true, true, true, true, true, true, false, false, false, false] rfl rfl (take_ofW HT_.out HW_.out (by kernel_rfl)) (fun _ _ _ h => h) (Or.inl ⟨by rfl, ?_⟩) hHeld ?_ ?_
                          rotate_left
                          · rintro w' ⟨s0, s1, s2, s3⟩
                            go_simp
                            with_reducible rfl
                          rotate_left
                          · simp only [Act.put, List.setIfInBounds_toArray, List.set_cons_zero, List.set_cons_succ, i64_w, i32_w]
                            rfl
                          refine pure_ (i := 9) (N := some 77) (v := ?_) (a' := ?_) #[true, true, true, true, true, true, true, true, true, true, false, false, false] rfl rfl (any_of HT_.out (by kernel_rfl)) (fun _ _ _ h => h) (Or.inl ⟨by rfl, ?_⟩) ?_ ?_
                          rotate_left
                          · intro w'
                            go_simp
                            with_reducible rfl
                          rotate_left
                          · simp only [Act.put, List.setIfInBounds_toArray, List.set_cons_zero, List.set_cons_succ, i64_w, i32_w]
                            rfl
                          refine pure_ (i := 10) (N := some 78) (v := ?_) (a' := ?_) #[true, true, true, true, true, true, true, true, true, true, true, false, false] rfl rfl (any_of HT_.out (by kernel_rfl)) (fun _ _ _ h => h) (Or.inl ⟨by rfl, ?_⟩) ?_ ?_
                          rotate_left
                          · intro w'
                            go_simp
                            with_reducible rfl
                          rotate_left
                          · simp only [Act.put, List.setIfInBounds_toArray, List.set_cons_zero, List.set_cons_succ, i64_w, i32_w]
                            rfl
                          refine pure_ (i := 11) (N := some 79) (v := ?_) (a' := ?_) #[true, true, true, true, true, true, true, true, true, true, true, true, false] rfl rfl (any_of HT_.out (by kernel_rfl)) (fun _ _ _ h => h) (Or.inl ⟨by rfl, ?_⟩) ?_ ?_
                          rotate_left
                          · intro w'
                            go_simp
                            with_reducible rfl
                          rotate_left
                          · simp only [Act.put, List.setIfInBounds_toArray, List.set_cons_zero, List.set_cons_succ, i64_w, i32_w]
                            rfl
                          refine last_ (i := 12) (N := none) #[true, true, true, true, true, true, true, true, true, true, true, true, true] rfl rfl (one_of HT_.out (by kernel_rfl)) (by decide) (fun K hK => ?_)
                          refine skip_ (w1 := ?_) (by rfl) rfl ?_ ?_
                          rotate_left
                          · go_simp
                            rfl
                          refine hK.out _ _ ?_
                          clear hK K
                          refine done_ (done_of HT_.out (by kernel_rfl)) ?_
                          try go_wp2
                          (try simp only [← hl46_2])
                          go_roundg k2
                          case measure => have := HK1.out; have := HK2.out; omega
                          case rel => exact ⟨(y516), (x46_2), (wrap64 (x48_2 + 1)), (by first | rfl | (simp; done) | (simp [*]; done)), H', ⟨by have := HK1.out; have := HK2.out; omega⟩, ⟨by (try simp only [hl46_2]); (with_reducible repeat (first | apply Kd.R_alloc | apply Kd.R_drewN | apply Kd.R_drew)); exact Kd.R_mono HQ67.out (fun _ hk => trivial)⟩, ⟨by (try simp only [hl46_2]); (with_reducible repeat (first | apply Kd.V_alloc | apply Kd.V_drewN | apply Kd.V_drew)); exact Kd.V_mono (Kd.V_far (p := ⟨go60, ((ji55) : Int).toNat * 2 + 1, none⟩) (Kd.V_mono HO_46.out (fun k_ hk => (⟨hk, fun e_ => hk.1 (by rw [e_]; rfl)⟩ : _ ∧ k_ ≠ go60))) (fun _ hk => hk.2) (.int .i64 ji59)) (fun _ hk => hk.1.1)⟩, ⟨by repeat (first | (with_reducible first | exact HB.out | apply below_alloc | apply pw_below_drewN | apply below_drew1 | refine below_set ?_ GB60.out | refine below_set ?_ GE513.out) | exact HB.out)⟩⟩
                        · rw [if_neg c58] at H
                          have c58b0 : decide ((wrap64 (((rd_T56 x46_2 x48_2).f0) - 1)) ≤ ((rd_T56 x4_2 (ji55)).f1)) = false := decide_eq_false c58
                          clear c58
                          obtain ⟨y517, hy517⟩ : ∃ y_ : List (S56), y_ = (([(⟨(rd_T56 x46_2 x48_2).f0, (rd_T56 x46_2 x48_2).f1⟩ : S56)] : List (S56))) := ⟨_, rfl⟩
                          replace H : (if x4_2.length + y517.length < 8796093022208 then (soundserviceref09_joined.l2 k2 (x4_2 ++ y517) x46_2 (x3_1.length : Int) (wrap64 (x48_2 + 1))) else (none)) = some r := by first | (rw [hy517]; with_reducible exact H) | (have H2_ := (Option.bind_some _ _).symm.trans H; rw [hy517]; with_reducible exact H2_) | (have H2_ := (Option.bind_some _ _).symm.trans H; with_reducible exact H2_) | with_reducible exact H | (rw [hy517]; exact H) | exact H
                          have Ny517 := Aside0.mk hy517
                          clear hy517
                          by_cases c68 : x4_2.length + y517.length < 8796093022208
                          · rw [if_pos c68] at H
                            have LMc68 := Aside0.mk c68
                            clear c68
                            obtain ⟨y520, hy520⟩ : ∃ y_ : List (S56), y_ = (x4_2 ++ y517) := ⟨_, rfl⟩
                            replace H : (soundserviceref09_joined.l2 k2 y520 x46_2 (x3_1.length : Int) (wrap64 (x48_2 + 1))) = some r := by first | (rw [hy520]; with_reducible exact H) | (have H2_ := (Option.bind_some _ _).symm.trans H; rw [hy520]; with_reducible exact H2_) | (have H2_ := (Option.bind_some _ _).symm.trans H; with_reducible exact H2_) | with_reducible exact H | (rw [hy520]; exact H) | exact H
                            have Ny520 := Aside0.mk hy520
                            clear hy520
                            have H' := Aside0.mk H
                            clear H
                            have p512 : 0 ≤ (x48_2 : Int) := of_decide_eq_true (by first | (with_reducible assumption) | assumption)
                            have q512 : x48_2 < (x46_2.length : Int) := of_decide_eq_true (by first | (with_reducible assumption) | assumption)
                            obtain ⟨ad512, e512, hx512_0, hx512_1⟩ := at_T56 (Kd.V_reads' HO_46.out).2.2 x48_2 p512 q512
                            cases e512
                            replace p512 := eq_true p512
                            replace q512 := eq_true q512
                            try go_wp2_with (first | ((with_reducible refine gate_dst (N := 9) rfl ?_); refine box_event ?hg (N := 9) ?hd (cs := #[.int .i64 0, .int .i64 0]) (t := 56) ?hr ?_; (case hd => rfl); (case hg => rfl); (case hr => first | (go_simp; done) | (go_simp; rfl)); intro gb513 hg w69 hbox hb; have n0_ := Aside0.mk (Kd.R_below (Kd.R_elderB (by (with_reducible repeat (first | apply Kd.R_alloc | apply Kd.R_drewN | apply Kd.R_drew)); exact HO_4.out) gb513 (Nat.le_of_eq hg.symm)) hb); have n1_ := Aside0.mk (Kd.V_below (Kd.V_elderB (by (with_reducible repeat (first | apply Kd.V_alloc | apply Kd.V_drewN | apply Kd.V_drew)); exact HO_46.out) gb513 (Nat.le_of_eq hg.symm)) hb); have n2_ := Aside0.mk (below_step (by repeat (first | (with_reducible first | exact HB.out | apply below_alloc | apply pw_below_drewN | apply below_drew1) | exact HB.out)) hb); have n3_ := Aside0.mk (hbox); have n4_ := Aside0.mk ((by rw [hg]; exact (below_size (by repeat (first | (with_reducible first | exact HB.out | apply below_alloc | apply pw_below_drewN | apply below_drew1) | exact HB.out))) : w.heap.size ≤ gb513)); have n5_ := Aside0.mk ((by rw [hg]; exact (below_size (by repeat (first | (with_reducible first | exact HB.out | apply below_alloc | apply pw_below_drewN | apply below_drew1) | exact HB.out))) : w.heap.size ≤ gb513)); clear HO_4; clear HO_46; clear HB; have HO_4 := n0_; have HO_46 := n1_; have HB := n2_; have BK513 := n3_; have GW513 := n4_; have GE513 := n5_; clear n0_ n1_ n2_ n3_ n4_ n5_; clear hb hbox hg; have hcz70_0 : w69.cell? ⟨gb513, 0, none⟩ = some (.int .i64 0) := (blk_cell BK513.out 0).trans rfl; have hcz70_1 : w69.cell? ⟨gb513, 1, none⟩ = some (.int .i64 0) := (blk_cell BK513.out 1).trans rfl; have hfz70_0 := blk_frozen BK513.out 0; have hfz70_1 := blk_frozen BK513.out 1; obtain ⟨Ao71, co71, eo71⟩ := Kd.R_slice HO_4.out; subst eo71))
                            have n0_ : Aside0 (Kd.R k56 56 ((w69.setCell ⟨gb513, 0, none⟩ (.int .i64 ((rd_T56 x46_2 x48_2).f0))).setCell ⟨gb513, 1, none⟩ (.int .i64 ((rd_T56 x46_2 x48_2).f1))) w.heap.size (fun k_ => k_ ≠ gb513) (.slice Ao71 x4_2.length co71) x4_2) := ⟨by (with_reducible repeat (first | apply Kd.R_alloc | apply Kd.R_drewN | apply Kd.R_drew)); exact Kd.R_mono (Kd.R_far (p := ⟨gb513, 1, none⟩) (Kd.R_far (p := ⟨gb513, 0, none⟩) (Kd.R_mono HO_4.out (fun k_ hk => (⟨hk, hk.2⟩ : _ ∧ k_ ≠ gb513))) (fun _ hk => hk.2) (.int .i64 ((rd_T56 x46_2 x48_2).f0))) (fun _ hk => hk.2) (.int .i64 ((rd_T56 x46_2 x48_2).f1))) (fun _ hk => hk.1.2)⟩
                            have n1_ : Aside0 (Kd.V k56 56 ((w69.setCell ⟨gb513, 0, none⟩ (.int .i64 ((rd_T56 x46_2 x48_2).f0))).setCell ⟨gb513, 1, none⟩ (.int .i64 ((rd_T56 x46_2 x48_2).f1))) w.heap.size (fun k_ => some k_ ≠ (.slice Ao71 x4_2.length co71 : Value).ownBlock ∧ k_ ≠ gb513) (.slice (some ad512) x46_2.length co50) x46_2) := ⟨by (with_reducible repeat (first | apply Kd.V_alloc | apply Kd.V_drewN | apply Kd.V_drew)); exact Kd.V_mono (Kd.V_far (p := ⟨gb513, 1, none⟩) (Kd.V_far (p := ⟨gb513, 0, none⟩) (Kd.V_mono HO_46.out (fun k_ hk => (⟨hk, hk.2⟩ : _ ∧ k_ ≠ gb513))) (fun _ hk => hk.2) (.int .i64 ((rd_T56 x46_2 x48_2).f0))) (fun _ hk => hk.2) (.int .i64 ((rd_T56 x46_2 x48_2).f1))) (fun _ hk => ⟨hk.1.1, hk.1.2⟩)⟩
                            have n2_ : Aside0 (((w69.setCell ⟨gb513, 0, none⟩ (.int .i64 ((rd_T56 x46_2 x48_2).f0))).setCell ⟨gb513, 1, none⟩ (.int .i64 ((rd_T56 x46_2 x48_2).f1))).heap[gb513]? = some (.cells #[.int .i64 ((rd_T56 x46_2 x48_2).f0), .int .i64 ((rd_T56 x46_2 x48_2).f1)] 56 (0, 0))) := ⟨by (with_reducible repeat (first | refine blk_drewN ?_ _ | refine blk_drew ?_ | refine blk_alloc ?_ _)); refine blk_put (cs := #[.int .i64 ((rd_T56 x46_2 x48_2).f0), .int .i64 0]) ?_ 1 _ rfl; (with_reducible repeat (first | refine blk_drewN ?_ _ | refine blk_drew ?_ | refine blk_alloc ?_ _)); refine blk_put (cs := #[.int .i64 0, .int .i64 0]) ?_ 0 _ rfl; (with_reducible repeat (first | refine blk_drewN ?_ _ | refine blk_drew ?_ | refine blk_alloc ?_ _)); exact BK513.out⟩
                            have n3_ : Aside0 (Below w.heap.size w ((w69.setCell ⟨gb513, 0, none⟩ (.int .i64 ((rd_T56 x46_2 x48_2).f0))).setCell ⟨gb513, 1, none⟩ (.int .i64 ((rd_T56 x46_2 x48_2).f1)))) := ⟨by repeat (first | (with_reducible first | exact HB.out | apply below_alloc | apply pw_below_drewN | apply below_drew1 | refine below_set ?_ GE513.out) | exact HB.out)⟩
                            (try clear HO_4)
                            (try clear HO_46)
                            (try clear BK513)
                            (try clear HB)
                            generalize ((w69.setCell ⟨gb513, 0, none⟩ (.int .i64 ((rd_T56 x46_2 x48_2).f0))).setCell ⟨gb513, 1, none⟩ (.int .i64 ((rd_T56 x46_2 x48_2).f1))) = w72 at n0_ n1_ n2_ n3_ ⊢
                            have HO_4 := n0_
                            have HO_46 := n1_
                            have BK513 := n2_
                            have HB := n3_
                            clear n0_ n1_ n2_ n3_
                            have n0_ := Aside0.mk (Kd.R_drew HO_4.out)
                            have n1_ := Aside0.mk (Kd.V_drew HO_46.out)
                            have n2_ := Aside0.mk (blk_drew BK513.out)
                            have n3_ := Aside0.mk (below_drew1 HB.out)
                            clear HO_4
                            clear HO_46
                            clear BK513
                            clear HB
                            have HO_4 := n0_
                            have HO_46 := n1_
                            have BK513 := n2_
                            have HB := n3_
                            clear n0_ n1_ n2_ n3_
                            have p514 : 0 ≤ ((ji55) : Int) := of_decide_eq_true (by first | (with_reducible assumption) | assumption)
                            have q514 : (ji55) < (x4_2.length : Int) := of_decide_eq_true (by first | (with_reducible assumption) | assumption)
                            obtain ⟨ad514, e514, hx514_0, hx514_1⟩ := at_T56 (Kd.R_reads' HO_4.out).2.2 (ji55) p514 q514
                            cases e514
                            replace p514 := eq_true p514
                            replace q514 := eq_true q514
                            refine start_ (n := 13) (S := fun w' => w'.cell? ⟨gb513, 0, none⟩ = some (.int .i64 ((rd_T56 x46_2 x48_2).f0)) ∧ w'.cell? ⟨gb513, 1, none⟩ = some (.int .i64 ((rd_T56 x46_2 x48_2).f1)) ∧ w'.cell? (ad514.add (((ji55)).toNat * 2)) = some (.int .i64 ((rd_T56 x4_2 (ji55)).f0)) ∧ w'.cell? ⟨(ad514.add (((ji55)).toNat * 2)).block, (ad514.add (((ji55)).toNat * 2)).off + 1, none⟩ = some (.int .i64 ((rd_T56 x4_2 (ji55)).f1))) (ds := []) #[false, false, false, false, false, false, false, false, false, false, false, false, false] (by kernel_rfl) rfl rfl ⟨(blk_cell BK513.out 0).trans rfl, (blk_cell BK513.out 1).trans rfl, hx514_0, hx514_1⟩ (fun hHeld => ?_); refine with_tabW soundserviceref09_joined.tab14 soundserviceref09_joined.bits14 (fun HT_ HW_ => ?_)
                            generalize w72.drew = w73 at HO_4 HO_46 BK513 HB hx514_0 hx514_1 hHeld ⊢
                            refine pure_ (i := 0) (N := some 55) (v := ?_) (a' := ?_) #[true, false, false, false, false, false, false, false, false, false, false, false, false] rfl rfl (any_of HT_.out (by kernel_rfl)) (fun _ _ _ h => h) (Or.inl ⟨by rfl, ?_⟩) ?_ ?_
                            rotate_left
                            · intro w'
                              go_simp
                              with_reducible rfl
                            rotate_left
                            · simp only [Act.put, List.setIfInBounds_toArray, List.set_cons_zero, List.set_cons_succ, i64_w, i32_w]
                              rfl
                            refine pure_ (i := 1) (N := some 56) (v := ?_) (a' := ?_) #[true, true, false, false, false, false, false, false, false, false, false, false, false] rfl rfl (any_of HT_.out (by kernel_rfl)) (fun _ _ _ h => h) (Or.inl ⟨by rfl, ?_⟩) ?_ ?_
                            rotate_left
                            · intro w'
                              go_simp
                              with_reducible rfl
                            rotate_left
                            · simp only [Act.put, List.setIfInBounds_toArray, List.set_cons_zero, List.set_cons_succ, i64_w, i32_w]
                              rfl
                            refine pure_ (i := 2) (N := some 57) (v := ?_) (a' := ?_) #[true, true, true, false, false, false, false, false, false, false, false, false, false] rfl rfl (any_of HT_.out (by kernel_rfl)) (fun _ _ _ h => h) (Or.inl ⟨by rfl, ?_⟩) ?_ ?_
                            rotate_left
                            · intro w'
                              go_simp
                              with_reducible rfl
                            rotate_left
                            · simp only [Act.put, List.setIfInBounds_toArray, List.set_cons_zero, List.set_cons_succ, i64_w, i32_w]
                              rfl
                            refine pure_ (i := 3) (N := some 58) (v := ?_) (a' := ?_) #[true, true, true, true, false, false, false, false, false, false, false, false, false] rfl rfl (any_of HT_.out (by kernel_rfl)) (fun _ _ _ h => h) (Or.inl ⟨by rfl, ?_⟩) ?_ ?_
                            rotate_left
                            · intro w'
                              go_simp
                              with_reducible rfl
                            rotate_left
                            · simp only [Act.put, List.setIfInBounds_toArray, List.set_cons_zero, List.set_cons_succ, i64_w, i32_w]
                              rfl
                            refine pure_ (i := 6) (N := some 61) (v := ?_) (a' := ?_) #[true, true, true, true, false, false, true, false, false, false, false, false, false] rfl rfl (any_of HT_.out (by kernel_rfl)) (fun _ _ _ h => h) (Or.inl ⟨by rfl, ?_⟩) ?_ ?_
                            rotate_left
                            · intro w'
                              go_simp
                              with_reducible rfl
                            rotate_left
                            · simp only [Act.put, List.setIfInBounds_toArray, List.set_cons_zero, List.set_cons_succ, i64_w, i32_w]
                              rfl
                            refine pure_ (i := 7) (N := some 62) (v := ?_) (a' := ?_) #[true, true, true, true, false, false, true, true, false, false, false, false, false] rfl rfl (any_of HT_.out (by kernel_rfl)) (fun _ _ _ h => h) (Or.inl ⟨by rfl, ?_⟩) ?_ ?_
                            rotate_left
                            · intro w'
                              go_simp
                              with_reducible rfl
                            rotate_left
                            · simp only [Act.put, List.setIfInBounds_toArray, List.set_cons_zero, List.set_cons_succ, i64_w, i32_w]
                              rfl
                            refine pure_ (i := 8) (N := some 63) (v := ?_) (a' := ?_) #[true, true, true, true, false, false, true, true, true, false, false, false, false] rfl rfl (any_of HT_.out (by kernel_rfl)) (fun _ _ _ h => h) (Or.inl ⟨by rfl, ?_⟩) ?_ ?_
                            rotate_left
                            · intro w'
                              go_simp
                              with_reducible rfl
                            rotate_left
                            · simp only [Act.put, List.setIfInBounds_toArray, List.set_cons_zero, List.set_cons_succ, i64_w, i32_w]
                              rfl
                            refine pure_ (i := 9) (N := some 64) (v := ?_) (a' := ?_) #[true, true, true, true, false, false, true, true, true, true, false, false, false] rfl rfl (any_of HT_.out (by kernel_rfl)) (fun _ _ _ h => h) (Or.inl ⟨by rfl, ?_⟩) ?_ ?_
                            rotate_left
                            · intro w'
                              go_simp
                              with_reducible rfl
                            rotate_left
                            · simp only [Act.put, List.setIfInBounds_toArray, List.set_cons_zero, List.set_cons_succ, i64_w, i32_w]
                              rfl
                            refine take_ (i := 4) (N := some 59) (v := ?_) (a' := ?_) #[true, true, true, true, true, false, true, true, true, true, false, false, false] rfl rfl (take_ofW HT_.out HW_.out (by kernel_rfl)) (fun _ _ _ h => h) (Or.inl ⟨by rfl, ?_⟩) hHeld ?_ ?_
                            rotate_left
                            · rintro w' ⟨s0, s1, s2, s3⟩
                              go_simp
                              with_reducible rfl
                            rotate_left
                            · simp only [Act.put, List.setIfInBounds_toArray, List.set_cons_zero, List.set_cons_succ, i64_w, i32_w]
                              rfl
                            refine pure_ (i := 5) (N := some 60) (v := ?_) (a' := ?_) #[true, true, true, true, true, true, true, true, true, true, false, false, false] rfl rfl (any_of HT_.out (by kernel_rfl)) (fun _ _ _ h => h) (Or.inl ⟨by rfl, ?_⟩) ?_ ?_
                            rotate_left
                            · intro w'
                              go_simp
                              with_reducible rfl
                            rotate_left
                            · simp only [Act.put, List.setIfInBounds_toArray, List.set_cons_zero, List.set_cons_succ, i64_w, i32_w]
                              rfl
                            refine take_ (i := 10) (N := some 65) (v := ?_) (a' := ?_) #[true, true, true, true, true, true, true, true, true, true, true, false, false] rfl rfl (take_ofW HT_.out HW_.out (by kernel_rfl)) (fun _ _ _ h => h) (Or.inl ⟨by rfl, ?_⟩) hHeld ?_ ?_
                            rotate_left
                            · rintro w' ⟨s0, s1, s2, s3⟩
                              go_simp
                              with_reducible rfl
                            rotate_left
                            · simp only [Act.put, List.setIfInBounds_toArray, List.set_cons_zero, List.set_cons_succ, i64_w, i32_w]
                              rfl
                            refine pure_ (i := 11) (N := some 66) (v := ?_) (a' := ?_) #[true, true, true, true, true, true, true, true, true, true, true, true, false] rfl rfl (any_of HT_.out (by kernel_rfl)) (fun _ _ _ h => h) (Or.inl ⟨by rfl, ?_⟩) ?_ ?_
                            rotate_left
                            · intro w'
                              go_simp
                              with_reducible rfl
                            rotate_left
                            · simp only [Act.put, List.setIfInBounds_toArray, List.set_cons_zero, List.set_cons_succ, i64_w, i32_w]
                              rfl
                            refine pure_ (i := 12) (N := some 67) (v := ?_) (a' := ?_) #[true, true, true, true, true, true, true, true, true, true, true, true, true] rfl rfl (any_of HT_.out (by kernel_rfl)) (fun _ _ _ h => h) (Or.inl ⟨by rfl, ?_⟩) ?_ ?_
                            rotate_left
                            · intro w'
                              go_simp
                              with_reducible rfl
                            rotate_left
                            · simp only [Act.put, List.setIfInBounds_toArray, List.set_cons_zero, List.set_cons_succ, i64_w, i32_w]
                              rfl
                            refine done_ (done_of HT_.out (by kernel_rfl)) ?_
                            have hcz74_0 : w73.cell? ⟨gb513, 0, none⟩ = some (.int .i64 ((rd_T56 x46_2 x48_2).f0)) := (blk_cell BK513.out 0).trans rfl
                            have hcz74_1 : w73.cell? ⟨gb513, 1, none⟩ = some (.int .i64 ((rd_T56 x46_2 x48_2).f1)) := (blk_cell BK513.out 1).trans rfl
                            have hfz74_0 := blk_frozen BK513.out 0
                            have hfz74_1 := blk_frozen BK513.out 1
                            try go_wp2_with (first | ((with_reducible refine gate_dst (N := 82) rfl ?_); refine Kd.R_lit k56 _ 56 ?hg (N := 82) ?hd (xs := ([(⟨(rd_T56 x46_2 x48_2).f0, (rd_T56 x46_2 x48_2).f1⟩ : S56)] : List (S56))) (inner := [.int .i64 ((rd_T56 x46_2 x48_2).f0), .int .i64 ((rd_T56 x46_2 x48_2).f1)]) (ok := fun _ => True) (okp := fun _ => True) ?hr ?hp (fun _ hk => hk) trivial (Below.refl _ _) (Nat.le_refl _) (by simp) ?_; (case hd => rfl); (case hg => rfl); (case hr => first | (go_simp; done) | (go_simp; rfl)); (case hp => exact (Reps.c2 (show Kd.M k56 _ _ _ (⟨(rd_T56 x46_2 x48_2).f0, (rd_T56 x46_2 x48_2).f1⟩ : S56) [.int .i64 ((rd_T56 x46_2 x48_2).f0), .int .i64 ((rd_T56 x46_2 x48_2).f1)] from (k56_mkM _ _ _ (⟨(rd_T56 x46_2 x48_2).f0, (rd_T56 x46_2 x48_2).f1⟩ : S56) )) (Reps.none _ _))); intro v518 w75 ho76 hb hg_ hnew_; clear hg_ hnew_; (first | rw [← Ny517.out] at ho76 | (simp only [Int.reduceToNat] at ho76; rw [← Ny517.out] at ho76)); have n0_ := Aside0.mk (Kd.R_elder' (by (with_reducible repeat (first | apply Kd.R_alloc | apply Kd.R_drewN | apply Kd.R_drew)); exact HO_4.out) (Kd.R_base ho76) hb); have n1_ := Aside0.mk (Kd.V_elder' (by (with_reducible repeat (first | apply Kd.V_alloc | apply Kd.V_drewN | apply Kd.V_drew)); exact HO_46.out) (Kd.R_base ho76) hb); have n2_ := Aside0.mk (Kd.R_lower (Kd.R_newB (Kd.R_new' ho76 (Kd.R_lt (by (with_reducible repeat (first | apply Kd.R_alloc | apply Kd.R_drewN | apply Kd.R_drew)); exact HO_4.out))) (g := gb513) (o := .cells #[.int .i64 ((rd_T56 x46_2 x48_2).f0), .int .i64 ((rd_T56 x46_2 x48_2).f1)] 56 (0, 0)) (by (with_reducible repeat (first | refine blk_drewN ?_ _ | refine blk_drew ?_ | refine blk_alloc ?_ _)); exact BK513.out)) (below_size (by repeat (first | (with_reducible first | exact HB.out | apply below_alloc | apply pw_below_drewN | apply below_drew1 | refine below_set ?_ GE513.out) | exact HB.out)))); have n3_ := Aside0.mk (blk_below (g := gb513) (o := .cells #[.int .i64 ((rd_T56 x46_2 x48_2).f0), .int .i64 ((rd_T56 x46_2 x48_2).f1)] 56 (0, 0)) (by (with_reducible repeat (first | refine blk_drewN ?_ _ | refine blk_drew ?_ | refine blk_alloc ?_ _)); exact BK513.out) hb); have n4_ := Aside0.mk (below_step (by repeat (first | (with_reducible first | exact HB.out | apply below_alloc | apply pw_below_drewN | apply below_drew1 | refine below_set ?_ GE513.out) | exact HB.out)) hb); clear HO_4; clear HO_46; clear BK513; clear HB; have HO_4 := n0_; have HO_46 := n1_; have HO519 := n2_; have BK513 := n3_; have HB := n4_; clear n0_ n1_ n2_ n3_ n4_; clear hb ho76; obtain ⟨Ao78, co78, eo78⟩ := Kd.R_slice HO519.out; subst eo78) | ((with_reducible refine gate_builtin (b := .append) (xs := #[.tmp 80, .tmp 82]) rfl ?_); at_builtin; refine Kd.R_append_rows k56 (w0 := w) w.heap.size rfl (.tmp 80) (.tmp 82) 40 56 (.agg #[(.int .i64 0), (.int .i64 0)]) 16 rfl Try.underlying40 info56 rfl (by decide) (by omega) (.slice (some ad514) x4_2.length co71) x4_2 y517 _ _ _ (fun k_ => some k_ ≠ (.slice Ao78 y517.length co78 : Value).ownBlock ∧ k_ ≠ gb513) (fun _ => False) rfl rfl ?aO ?aR (fun _ _ h => h) (fun _ h => h.elim) ?aF ?aB ?aS ?aL ?_; (case aR => repeat (first | exact (Kd.R_reads' HO519.out).2.2 | (with_reducible refine Kd.C_alloc ?_ _) | (with_reducible refine Kd.C_drewN ?_ _) | (with_reducible refine Kd.C_drew ?_))); (case aB => exact (by repeat (first | (with_reducible first | exact HB.out | apply below_alloc | apply pw_below_drewN | apply below_drew1 | refine below_set ?_ GE513.out) | exact HB.out))); (case aF => exact (fun k_ hk => ⟨Kd.fresh' (Kd.R_lt (by (with_reducible repeat (first | apply Kd.R_alloc | apply Kd.R_drewN | apply Kd.R_drew)); exact HO519.out)) k_ hk, Kd.freshB (g := gb513) (o := .cells #[.int .i64 ((rd_T56 x46_2 x48_2).f0), .int .i64 ((rd_T56 x46_2 x48_2).f1)] 56 (0, 0)) (by (with_reducible repeat (first | refine blk_drewN ?_ _ | refine blk_drew ?_ | refine blk_alloc ?_ _)); exact BK513.out) k_ hk⟩)); (case aO => exact (by (with_reducible repeat (first | apply Kd.R_alloc | apply Kd.R_drewN | apply Kd.R_drew)); exact Kd.R_mono HO_4.out (fun _ hk => ⟨hk.2, hk.1⟩))); (case aS => exact (below_size (by repeat (first | (with_reducible first | exact HB.out | apply below_alloc | apply pw_below_drewN | apply below_drew1 | refine below_set ?_ GE513.out) | exact HB.out)))); (case aL => have := LMc68.out; omega); intro v521 w77 ho hb hg hat; rw [← Ny520.out] at ho; have n0_ := Aside0.mk (Kd.V_afterv (ok := (fun k_ => some k_ ≠ (.slice Ao78 y517.length co78 : Value).ownBlock ∧ k_ ≠ gb513)) (by (with_reducible repeat (first | apply Kd.V_alloc | apply Kd.V_drewN | apply Kd.V_drew)); exact Kd.V_mono HO_46.out (fun _ hk => ⟨⟨hk.2, hk.1.2⟩, hk.1.1⟩)) hg hat); have n1_ := Aside0.mk (blk_grown (g := gb513) (o := .cells #[.int .i64 ((rd_T56 x46_2 x48_2).f0), .int .i64 ((rd_T56 x46_2 x48_2).f1)] 56 (0, 0)) (by (with_reducible repeat (first | refine blk_drewN ?_ _ | refine blk_drew ?_ | refine blk_alloc ?_ _)); exact BK513.out) hg (Kd.R_away HO_4.out (fun _ hk => hk.1))); have n2_ := Aside0.mk (Kd.R_after (ok := (fun k_ => k_ ≠ gb513)) (by (with_reducible repeat (first | apply Kd.R_alloc | apply Kd.R_drewN | apply Kd.R_drew)); exact Kd.R_mono HO519.out (fun _ hk => ⟨hk.2, hk.1.2⟩)) hg hat); have n3_ := Aside0.mk (hb); have n4_ := Aside0.mk (ho); clear HO_46; clear BK513; clear HO519; clear HB; clear HO_4; have HO_46 := n0_; have BK513 := n1_; have HO519 := n2_; have HB := n3_; have HO522 := n4_; clear n0_ n1_ n2_ n3_ n4_; clear ho hb hg hat))
                            (try simp only [← hl46_2])
                            go_roundg k2
                            case measure => have := HK1.out; have := HK2.out; omega
                            case rel => exact ⟨(y520), (x46_2), (wrap64 (x48_2 + 1)), (by first | rfl | (simp; done) | (simp [*]; done)), H', ⟨by have := HK1.out; have := HK2.out; omega⟩, ⟨by (try simp only [hl46_2]); (with_reducible repeat (first | apply Kd.R_alloc | apply Kd.R_drewN | apply Kd.R_drew)); exact Kd.R_mono HO522.out (fun _ hk => trivial)⟩, ⟨by (try simp only [hl46_2]); (with_reducible repeat (first | apply Kd.V_alloc | apply Kd.V_drewN | apply Kd.V_drew)); exact Kd.V_mono HO_46.out (fun _ hk => hk.2)⟩, ⟨by repeat (first | (with_reducible first | exact HB.out | apply below_alloc | apply pw_below_drewN | apply below_drew1 | refine below_set ?_ GE513.out) | exact HB.out)⟩⟩
                          · rw [if_neg c68] at H
                            exact absurd H (by simp)
                      · rw [if_neg c57] at H
                        exact absurd H (by simp)
                    · rw [if_neg c56] at H
                      exact absurd H (by simp)
                  · rw [if_neg c54] at H
                    have c54b0 : decide (0 ≤ (wrap64 ((x4_2.length : Int) - 1))) = false := decide_eq_false c54
                    clear c54
                    obtain ⟨y523, hy523⟩ : ∃ y_ : List (S56), y_ = (([(⟨(rd_T56 x46_2 x48_2).f0, (rd_T56 x46_2 x48_2).f1⟩ : S56)] : List (S56))) := ⟨_, rfl⟩
                    replace H : (if x4_2.length + y523.length < 8796093022208 then (soundserviceref09_joined.l2 k2 (x4_2 ++ y523) x46_2 (x3_1.length : Int) (wrap64 (x48_2 + 1))) else (none)) = some r := by first | (rw [hy523]; with_reducible exact H) | (have H2_ := (Option.bind_some _ _).symm.trans H; rw [hy523]; with_reducible exact H2_) | (have H2_ := (Option.bind_some _ _).symm.trans H; with_reducible exact H2_) | with_reducible exact H | (rw [hy523]; exact H) | exact H
                    have Ny523 := Aside0.mk hy523
                    clear hy523
                    by_cases c79 : x4_2.length + y523.length < 8796093022208
                    · rw [if_pos c79] at H
                      have LMc79 := Aside0.mk c79
                      clear c79
                      obtain ⟨y526, hy526⟩ : ∃ y_ : List (S56), y_ = (x4_2 ++ y523) := ⟨_, rfl⟩
                      replace H : (soundserviceref09_joined.l2 k2 y526 x46_2 (x3_1.length : Int) (wrap64 (x48_2 + 1))) = some r := by first | (rw [hy526]; with_reducible exact H) | (have H2_ := (Option.bind_some _ _).symm.trans H; rw [hy526]; with_reducible exact H2_) | (have H2_ := (Option.bind_some _ _).symm.trans H; with_reducible exact H2_) | with_reducible exact H | (rw [hy526]; exact H) | exact H
                      have Ny526 := Aside0.mk hy526
                      clear hy526
                      have H' := Aside0.mk H
                      clear H
                      have p512 : 0 ≤ (x48_2 : Int) := of_decide_eq_true (by first | (with_reducible assumption) | assumption)
                      have q512 : x48_2 < (x46_2.length : Int) := of_decide_eq_true (by first | (with_reducible assumption) | assumption)
                      obtain ⟨ad512, e512, hx512_0, hx512_1⟩ := at_T56 (Kd.V_reads' HO_46.out).2.2 x48_2 p512 q512
                      cases e512
                      replace p512 := eq_true p512
                      replace q512 := eq_true q512
                      try go_wp2_with (first | ((with_reducible refine gate_dst (N := 9) rfl ?_); refine box_event ?hg (N := 9) ?hd (cs := #[.int .i64 0, .int .i64 0]) (t := 56) ?hr ?_; (case hd => rfl); (case hg => rfl); (case hr => first | (go_simp; done) | (go_simp; rfl)); intro gb513 hg w80 hbox hb; have n0_ := Aside0.mk (Kd.R_below (Kd.R_elderB (by (with_reducible repeat (first | apply Kd.R_alloc | apply Kd.R_drewN | apply Kd.R_drew)); exact HO_4.out) gb513 (Nat.le_of_eq hg.symm)) hb); have n1_ := Aside0.mk (Kd.V_below (Kd.V_elderB (by (with_reducible repeat (first | apply Kd.V_alloc | apply Kd.V_drewN | apply Kd.V_drew)); exact HO_46.out) gb513 (Nat.le_of_eq hg.symm)) hb); have n2_ := Aside0.mk (below_step (by repeat (first | (with_reducible first | exact HB.out | apply below_alloc | apply pw_below_drewN | apply below_drew1) | exact HB.out)) hb); have n3_ := Aside0.mk (hbox); have n4_ := Aside0.mk ((by rw [hg]; exact (below_size (by repeat (first | (with_reducible first | exact HB.out | apply below_alloc | apply pw_below_drewN | apply below_drew1) | exact HB.out))) : w.heap.size ≤ gb513)); have n5_ := Aside0.mk ((by rw [hg]; exact (below_size (by repeat (first | (with_reducible first | exact HB.out | apply below_alloc | apply pw_below_drewN | apply below_drew1) | exact HB.out))) : w.heap.size ≤ gb513)); clear HO_4; clear HO_46; clear HB; have HO_4 := n0_; have HO_46 := n1_; have HB := n2_; have BK513 := n3_; have GW513 := n4_; have GE513 := n5_; clear n0_ n1_ n2_ n3_ n4_ n5_; clear hb hbox hg; have hcz81_0 : w80.cell? ⟨gb513, 0, none⟩ = some (.int .i64 0) := (blk_cell BK513.out 0).trans rfl; have hcz81_1 : w80.cell? ⟨gb513, 1, none⟩ = some (.int .i64 0) := (blk_cell BK513.out 1).trans rfl; have hfz81_0 := blk_frozen BK513.out 0; have hfz81_1 := blk_frozen BK513.out 1; obtain ⟨Ao82, co82, eo82⟩ := Kd.R_slice HO_4.out; subst eo82))
                      have n0_ : Aside0 (Kd.R k56 56 ((w80.setCell ⟨gb513, 0, none⟩ (.int .i64 ((rd_T56 x46_2 x48_2).f0))).setCell ⟨gb513, 1, none⟩ (.int .i64 ((rd_T56 x46_2 x48_2).f1))) w.heap.size (fun k_ => k_ ≠ gb513) (.slice Ao82 x4_2.length co82) x4_2) := ⟨by (with_reducible repeat (first | apply Kd.R_alloc | apply Kd.R_drewN | apply Kd.R_drew)); exact Kd.R_mono (Kd.R_far (p := ⟨gb513, 1, none⟩) (Kd.R_far (p := ⟨gb513, 0, none⟩) (Kd.R_mono HO_4.out (fun k_ hk => (⟨hk, hk.2⟩ : _ ∧ k_ ≠ gb513))) (fun _ hk => hk.2) (.int .i64 ((rd_T56 x46_2 x48_2).f0))) (fun _ hk => hk.2) (.int .i64 ((rd_T56 x46_2 x48_2).f1))) (fun _ hk => hk.1.2)⟩
                      have n1_ : Aside0 (Kd.V k56 56 ((w80.setCell ⟨gb513, 0, none⟩ (.int .i64 ((rd_T56 x46_2 x48_2).f0))).setCell ⟨gb513, 1, none⟩ (.int .i64 ((rd_T56 x46_2 x48_2).f1))) w.heap.size (fun k_ => some k_ ≠ (.slice Ao82 x4_2.length co82 : Value).ownBlock ∧ k_ ≠ gb513) (.slice (some ad512) x46_2.length co50) x46_2) := ⟨by (with_reducible repeat (first | apply Kd.V_alloc | apply Kd.V_drewN | apply Kd.V_drew)); exact Kd.V_mono (Kd.V_far (p := ⟨gb513, 1, none⟩) (Kd.V_far (p := ⟨gb513, 0, none⟩) (Kd.V_mono HO_46.out (fun k_ hk => (⟨hk, hk.2⟩ : _ ∧ k_ ≠ gb513))) (fun _ hk => hk.2) (.int .i64 ((rd_T56 x46_2 x48_2).f0))) (fun _ hk => hk.2) (.int .i64 ((rd_T56 x46_2 x48_2).f1))) (fun _ hk => ⟨hk.1.1, hk.1.2⟩)⟩
                      have n2_ : Aside0 (((w80.setCell ⟨gb513, 0, none⟩ (.int .i64 ((rd_T56 x46_2 x48_2).f0))).setCell ⟨gb513, 1, none⟩ (.int .i64 ((rd_T56 x46_2 x48_2).f1))).heap[gb513]? = some (.cells #[.int .i64 ((rd_T56 x46_2 x48_2).f0), .int .i64 ((rd_T56 x46_2 x48_2).f1)] 56 (0, 0))) := ⟨by (with_reducible repeat (first | refine blk_drewN ?_ _ | refine blk_drew ?_ | refine blk_alloc ?_ _)); refine blk_put (cs := #[.int .i64 ((rd_T56 x46_2 x48_2).f0), .int .i64 0]) ?_ 1 _ rfl; (with_reducible repeat (first | refine blk_drewN ?_ _ | refine blk_drew ?_ | refine blk_alloc ?_ _)); refine blk_put (cs := #[.int .i64 0, .int .i64 0]) ?_ 0 _ rfl; (with_reducible repeat (first | refine blk_drewN ?_ _ | refine blk_drew ?_ | refine blk_alloc ?_ _)); exact BK513.out⟩
                      have n3_ : Aside0 (Below w.heap.size w ((w80.setCell ⟨gb513, 0, none⟩ (.int .i64 ((rd_T56 x46_2 x48_2).f0))).setCell ⟨gb513, 1, none⟩ (.int .i64 ((rd_T56 x46_2 x48_2).f1)))) := ⟨by repeat (first | (with_reducible first | exact HB.out | apply below_alloc | apply pw_below_drewN | apply below_drew1 | refine below_set ?_ GE513.out) | exact HB.out)⟩
                      (try clear HO_4)
                      (try clear HO_46)
                      (try clear BK513)
                      (try clear HB)
                      generalize ((w80.setCell ⟨gb513, 0, none⟩ (.int .i64 ((rd_T56 x46_2 x48_2).f0))).setCell ⟨gb513, 1, none⟩ (.int .i64 ((rd_T56 x46_2 x48_2).f1))) = w83 at n0_ n1_ n2_ n3_ ⊢
                      have HO_4 := n0_
                      have HO_46 := n1_
                      have BK513 := n2_
                      have HB := n3_
                      clear n0_ n1_ n2_ n3_
                      have n0_ := Aside0.mk (Kd.R_drew HO_4.out)
                      have n1_ := Aside0.mk (Kd.V_drew HO_46.out)
                      have n2_ := Aside0.mk (blk_drew BK513.out)
                      have n3_ := Aside0.mk (below_drew1 HB.out)
                      clear HO_4
                      clear HO_46
                      clear BK513
                      clear HB
                      have HO_4 := n0_
                      have HO_46 := n1_
                      have BK513 := n2_
                      have HB := n3_
                      clear n0_ n1_ n2_ n3_
                      refine start_ (n := 13) (S := fun w' => True) (ds := []) #[false, false, false, false, false, false, false, false, false, false, false, false, false] (by kernel_rfl) rfl rfl trivial (fun hHeld => ?_); refine with_tabW soundserviceref09_joined.tab14 soundserviceref09_joined.bits14 (fun HT_ HW_ => ?_)
                      generalize w83.drew = w84 at HO_4 HO_46 BK513 HB hHeld ⊢
                      refine pure_ (i := 0) (N := some 55) (v := ?_) (a' := ?_) #[true, false, false, false, false, false, false, false, false, false, false, false, false] rfl rfl (any_of HT_.out (by kernel_rfl)) (fun _ _ _ h => h) (Or.inl ⟨by rfl, ?_⟩) ?_ ?_
                      rotate_left
                      · intro w'
                        go_simp
                        with_reducible rfl
                      rotate_left
                      · simp only [Act.put, List.setIfInBounds_toArray, List.set_cons_zero, List.set_cons_succ, i64_w, i32_w]
                        rfl
                      refine pure_ (i := 1) (N := some 56) (v := ?_) (a' := ?_) #[true, true, false, false, false, false, false, false, false, false, false, false, false] rfl rfl (any_of HT_.out (by kernel_rfl)) (fun _ _ _ h => h) (Or.inl ⟨by rfl, ?_⟩) ?_ ?_
                      rotate_left
                      · intro w'
                        go_simp
                        with_reducible rfl
                      rotate_left
                      · simp only [Act.put, List.setIfInBounds_toArray, List.set_cons_zero, List.set_cons_succ, i64_w, i32_w]
                        rfl
                      refine pure_ (i := 2) (N := some 57) (v := ?_) (a' := ?_) #[true, true, true, false, false, false, false, false, false, false, false, false, false] rfl rfl (any_of HT_.out (by kernel_rfl)) (fun _ _ _ h => h) (Or.inl ⟨by rfl, ?_⟩) ?_ ?_
                      rotate_left
                      · intro w'
                        go_simp
                        with_reducible rfl
                      rotate_left
                      · simp only [Act.put, List.setIfInBounds_toArray, List.set_cons_zero, List.set_cons_succ, i64_w, i32_w]
                        rfl
                      refine pure_ (i := 3) (N := some 58) (v := undef) (a' := ?_) #[true, true, true, true, false, false, false, false, false, false, false, false, false] rfl rfl (any_of HT_.out (by kernel_rfl)) (fun _ _ _ h => h) (Or.inr ⟨by rfl, rfl⟩) ?_ ?_
                      rotate_left
                      · simp only [Act.put, List.setIfInBounds_toArray, List.set_cons_zero, List.set_cons_succ, i64_w, i32_w]
                        rfl
                      refine pure_ (i := 4) (N := some 59) (v := undef) (a' := ?_) #[true, true, true, true, true, false, false, false, false, false, false, false, false] rfl rfl (any_of HT_.out (by kernel_rfl)) (fun _ _ _ h => h) (Or.inr ⟨by rfl, rfl⟩) ?_ ?_
                      rotate_left
                      · simp only [Act.put, List.setIfInBounds_toArray, List.set_cons_zero, List.set_cons_succ, i64_w, i32_w]
                        rfl
                      refine pure_ (i := 5) (N := some 60) (v := undef) (a' := ?_) #[true, true, true, true, true, true, false, false, false, false, false, false, false] rfl rfl (any_of HT_.out (by kernel_rfl)) (fun _ _ _ h => h) (Or.inr ⟨by rfl, rfl⟩) ?_ ?_
                      rotate_left
                      · simp only [Act.put, List.setIfInBounds_toArray, List.set_cons_zero, List.set_cons_succ, i64_w, i32_w]
                        rfl
                      refine pure_ (i := 6) (N := some 61) (v := undef) (a' := ?_) #[true, true, true, true, true, true, true, false, false, false, false, false, false] rfl rfl (any_of HT_.out (by kernel_rfl)) (fun _ _ _ h => h) (Or.inr ⟨by rfl, rfl⟩) ?_ ?_
                      rotate_left
                      · simp only [Act.put, List.setIfInBounds_toArray, List.set_cons_zero, List.set_cons_succ, i64_w, i32_w]
                        rfl
                      refine pure_ (i := 7) (N := some 62) (v := undef) (a' := ?_) #[true, true, true, true, true, true, true, true, false, false, false, false, false] rfl rfl (any_of HT_.out (by kernel_rfl)) (fun _ _ _ h => h) (Or.inr ⟨by rfl, rfl⟩) ?_ ?_
                      rotate_left
                      · simp only [Act.put, List.setIfInBounds_toArray, List.set_cons_zero, List.set_cons_succ, i64_w, i32_w]
                        rfl
                      refine pure_ (i := 8) (N := some 63) (v := undef) (a' := ?_) #[true, true, true, true, true, true, true, true, true, false, false, false, false] rfl rfl (any_of HT_.out (by kernel_rfl)) (fun _ _ _ h => h) (Or.inr ⟨by rfl, rfl⟩) ?_ ?_
                      rotate_left
                      · simp only [Act.put, List.setIfInBounds_toArray, List.set_cons_zero, List.set_cons_succ, i64_w, i32_w]
                        rfl
                      refine pure_ (i := 9) (N := some 64) (v := undef) (a' := ?_) #[true, true, true, true, true, true, true, true, true, true, false, false, false] rfl rfl (any_of HT_.out (by kernel_rfl)) (fun _ _ _ h => h) (Or.inr ⟨by rfl, rfl⟩) ?_ ?_
                      rotate_left
                      · simp only [Act.put, List.setIfInBounds_toArray, List.set_cons_zero, List.set_cons_succ, i64_w, i32_w]
                        rfl
                      refine pure_ (i := 10) (N := some 65) (v := undef) (a' := ?_) #[true, true, true, true, true, true, true, true, true, true, true, false, false] rfl rfl (any_of HT_.out (by kernel_rfl)) (fun _ _ _ h => h) (Or.inr ⟨by rfl, rfl⟩) ?_ ?_
                      rotate_left
                      · simp only [Act.put, List.setIfInBounds_toArray, List.set_cons_zero, List.set_cons_succ, i64_w, i32_w]
                        rfl
                      refine pure_ (i := 11) (N := some 66) (v := undef) (a' := ?_) #[true, true, true, true, true, true, true, true, true, true, true, true, false] rfl rfl (any_of HT_.out (by kernel_rfl)) (fun _ _ _ h => h) (Or.inr ⟨by rfl, rfl⟩) ?_ ?_
                      rotate_left
                      · simp only [Act.put, List.setIfInBounds_toArray, List.set_cons_zero, List.set_cons_succ, i64_w, i32_w]
                        rfl
                      refine pure_ (i := 12) (N := some 67) (v := ?_) (a' := ?_) #[true, true, true, true, true, true, true, true, true, true, true, true, true] rfl rfl (any_of HT_.out (by kernel_rfl)) (fun _ _ _ h => h) (Or.inl ⟨by rfl, ?_⟩) ?_ ?_
                      rotate_left
                      · intro w'
                        go_simp
                        with_reducible rfl
                      rotate_left
                      · simp only [Act.put, List.setIfInBounds_toArray, List.set_cons_zero, List.set_cons_succ, i64_w, i32_w]
                        rfl
                      refine done_ (done_of HT_.out (by kernel_rfl)) ?_
                      have hcz85_0 : w84.cell? ⟨gb513, 0, none⟩ = some (.int .i64 ((rd_T56 x46_2 x48_2).f0)) := (blk_cell BK513.out 0).trans rfl
                      have hcz85_1 : w84.cell? ⟨gb513, 1, none⟩ = some (.int .i64 ((rd_T56 x46_2 x48_2).f1)) := (blk_cell BK513.out 1).trans rfl
                      have hfz85_0 := blk_frozen BK513.out 0
                      have hfz85_1 := blk_frozen BK513.out 1
                      try go_wp2_with (first | ((with_reducible refine gate_dst (N := 82) rfl ?_); refine Kd.R_lit k56 _ 56 ?hg (N := 82) ?hd (xs := ([(⟨(rd_T56 x46_2 x48_2).f0, (rd_T56 x46_2 x48_2).f1⟩ : S56)] : List (S56))) (inner := [.int .i64 ((rd_T56 x46_2 x48_2).f0), .int .i64 ((rd_T56 x46_2 x48_2).f1)]) (ok := fun _ => True) (okp := fun _ => True) ?hr ?hp (fun _ hk => hk) trivial (Below.refl _ _) (Nat.le_refl _) (by simp) ?_; (case hd => rfl); (case hg => rfl); (case hr => first | (go_simp; done) | (go_simp; rfl)); (case hp => exact (Reps.c2 (show Kd.M k56 _ _ _ (⟨(rd_T56 x46_2 x48_2).f0, (rd_T56 x46_2 x48_2).f1⟩ : S56) [.int .i64 ((rd_T56 x46_2 x48_2).f0), .int .i64 ((rd_T56 x46_2 x48_2).f1)] from (k56_mkM _ _ _ (⟨(rd_T56 x46_2 x48_2).f0, (rd_T56 x46_2 x48_2).f1⟩ : S56) )) (Reps.none _ _))); intro v524 w86 ho87 hb hg_ hnew_; clear hg_ hnew_; (first | rw [← Ny523.out] at ho87 | (simp only [Int.reduceToNat] at ho87; rw [← Ny523.out] at ho87)); have n0_ := Aside0.mk (Kd.R_elder' (by (with_reducible repeat (first | apply Kd.R_alloc | apply Kd.R_drewN | apply Kd.R_drew)); exact HO_4.out) (Kd.R_base ho87) hb); have n1_ := Aside0.mk (Kd.V_elder' (by (with_reducible repeat (first | apply Kd.V_alloc | apply Kd.V_drewN | apply Kd.V_drew)); exact HO_46.out) (Kd.R_base ho87) hb); have n2_ := Aside0.mk (Kd.R_lower (Kd.R_newB (Kd.R_new' ho87 (Kd.R_lt (by (with_reducible repeat (first | apply Kd.R_alloc | apply Kd.R_drewN | apply Kd.R_drew)); exact HO_4.out))) (g := gb513) (o := .cells #[.int .i64 ((rd_T56 x46_2 x48_2).f0), .int .i64 ((rd_T56 x46_2 x48_2).f1)] 56 (0, 0)) (by (with_reducible repeat (first | refine blk_drewN ?_ _ | refine blk_drew ?_ | refine blk_alloc ?_ _)); exact BK513.out)) (below_size (by repeat (first | (with_reducible first | exact HB.out | apply below_alloc | apply pw_below_drewN | apply below_drew1 | refine below_set ?_ GE513.out) | exact HB.out)))); have n3_ := Aside0.mk (blk_below (g := gb513) (o := .cells #[.int .i64 ((rd_T56 x46_2 x48_2).f0), .int .i64 ((rd_T56 x46_2 x48_2).f1)] 56 (0, 0)) (by (with_reducible repeat (first | refine blk_drewN ?_ _ | refine blk_drew ?_ | refine blk_alloc ?_ _)); exact BK513.out) hb); have n4_ := Aside0.mk (below_step (by repeat (first | (with_reducible first | exact HB.out | apply below_alloc | apply pw_below_drewN | apply below_drew1 | refine below_set ?_ GE513.out) | exact HB.out)) hb); clear HO_4; clear HO_46; clear BK513; clear HB; have HO_4 := n0_; have HO_46 := n1_; have HO525 := n2_; have BK513 := n3_; have HB := n4_; clear n0_ n1_ n2_ n3_ n4_; clear hb ho87; obtain ⟨Ao89, co89, eo89⟩ := Kd.R_slice HO525.out; subst eo89) | ((with_reducible refine gate_builtin (b := .append) (xs := #[.tmp 80, .tmp 82]) rfl ?_); at_builtin; refine Kd.R_append_rows k56 (w0 := w) w.heap.size rfl (.tmp 80) (.tmp 82) 40 56 (.agg #[(.int .i64 0), (.int .i64 0)]) 16 rfl Try.underlying40 info56 rfl (by decide) (by omega) (.slice Ao82 x4_2.length co82) x4_2 y523 _ _ _ (fun k_ => some k_ ≠ (.slice Ao89 y523.length co89 : Value).ownBlock ∧ k_ ≠ gb513) (fun _ => False) rfl rfl ?aO ?aR (fun _ _ h => h) (fun _ h => h.elim) ?aF ?aB ?aS ?aL ?_; (case aR => repeat (first | exact (Kd.R_reads' HO525.out).2.2 | (with_reducible refine Kd.C_alloc ?_ _) | (with_reducible refine Kd.C_drewN ?_ _) | (with_reducible refine Kd.C_drew ?_))); (case aB => exact (by repeat (first | (with_reducible first | exact HB.out | apply below_alloc | apply pw_below_drewN | apply below_drew1 | refine below_set ?_ GE513.out) | exact HB.out))); (case aF => exact (fun k_ hk => ⟨Kd.fresh' (Kd.R_lt (by (with_reducible repeat (first | apply Kd.R_alloc | apply Kd.R_drewN | apply Kd.R_drew)); exact HO525.out)) k_ hk, Kd.freshB (g := gb513) (o := .cells #[.int .i64 ((rd_T56 x46_2 x48_2).f0), .int .i64 ((rd_T56 x46_2 x48_2).f1)] 56 (0, 0)) (by (with_reducible repeat (first | refine blk_drewN ?_ _ | refine blk_drew ?_ | refine blk_alloc ?_ _)); exact BK513.out) k_ hk⟩)); (case aO => exact (by (with_reducible repeat (first | apply Kd.R_alloc | apply Kd.R_drewN | apply Kd.R_drew)); exact Kd.R_mono HO_4.out (fun _ hk => ⟨hk.2, hk.1⟩))); (case aS => exact (below_size (by repeat (first | (with_reducible first | exact HB.out | apply below_alloc | apply pw_below_drewN | apply below_drew1 | refine below_set ?_ GE513.out) | exact HB.out)))); (case aL => have := LMc79.out; omega); intro v527 w88 ho hb hg hat; rw [← Ny526.out] at ho; have n0_ := Aside0.mk (Kd.V_afterv (ok := (fun k_ => some k_ ≠ (.slice Ao89 y523.length co89 : Value).ownBlock ∧ k_ ≠ gb513)) (by (with_reducible repeat (first | apply Kd.V_alloc | apply Kd.V_drewN | apply Kd.V_drew)); exact Kd.V_mono HO_46.out (fun _ hk => ⟨⟨hk.2, hk.1.2⟩, hk.1.1⟩)) hg hat); have n1_ := Aside0.mk (blk_grown (g := gb513) (o := .cells #[.int .i64 ((rd_T56 x46_2 x48_2).f0), .int .i64 ((rd_T56 x46_2 x48_2).f1)] 56 (0, 0)) (by (with_reducible repeat (first | refine blk_drewN ?_ _ | refine blk_drew ?_ | refine blk_alloc ?_ _)); exact BK513.out) hg (Kd.R_away HO_4.out (fun _ hk => hk.1))); have n2_ := Aside0.mk (Kd.R_after (ok := (fun k_ => k_ ≠ gb513)) (by (with_reducible repeat (first | apply Kd.R_alloc | apply Kd.R_drewN | apply Kd.R_drew)); exact Kd.R_mono HO525.out (fun _ hk => ⟨hk.2, hk.1.2⟩)) hg hat); have n3_ := Aside0.mk (hb); have n4_ := Aside0.mk (ho); clear HO_46; clear BK513; clear HO525; clear HB; clear HO_4; have HO_46 := n0_; have BK513 := n1_; have HO525 := n2_; have HB := n3_; have HO528 := n4_; clear n0_ n1_ n2_ n3_ n4_; clear ho hb hg hat))
                      (try simp only [← hl46_2])
                      go_roundg k2
                      case measure => have := HK1.out; have := HK2.out; omega
                      case rel => exact ⟨(y526), (x46_2), (wrap64 (x48_2 + 1)), (by first | rfl | (simp; done) | (simp [*]; done)), H', ⟨by have := HK1.out; have := HK2.out; omega⟩, ⟨by (try simp only [hl46_2]); (with_reducible repeat (first | apply Kd.R_alloc | apply Kd.R_drewN | apply Kd.R_drew)); exact Kd.R_mono HO528.out (fun _ hk => trivial)⟩, ⟨by (try simp only [hl46_2]); (with_reducible repeat (first | apply Kd.V_alloc | apply Kd.V_drewN | apply Kd.V_drew)); exact Kd.V_mono HO_46.out (fun _ hk => hk.2)⟩, ⟨by repeat (first | (with_reducible first | exact HB.out | apply below_alloc | apply pw_below_drewN | apply below_drew1 | refine below_set ?_ GE513.out) | exact HB.out)⟩⟩
                    · rw [if_neg c79] at H
                      exact absurd H (by simp)
                · rw [if_neg c53] at H
                  exact absurd H (by simp)
              · rw [if_neg c52] at H
                exact absurd H (by simp)
            · rw [if_neg c51] at H
              have c51b0 : decide (x48_2 < (x3_1.length : Int)) = false := decide_eq_false c51
              clear c51
              (try simp only [hl46_2] at c51b0)
              obtain rfl := Option.some.inj H
              go_wp2
              go_ret
              exact ⟨_, by first | rfl | (simp [errW_none, errW_some] <;> rfl) | (simp [*, errW_none, errW_some] <;> rfl), by (with_reducible repeat (first | apply Kd.R_alloc | apply Kd.R_drewN | apply Kd.R_drew)); exact HO_4.out, by repeat (first | (with_reducible first | exact HB.out | apply below_alloc | apply pw_below_drewN | apply below_drew1) | exact HB.out)⟩
end Go.Proofs.Ytbahibaohehojaa.Q
