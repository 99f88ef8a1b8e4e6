/- Proves that soundservice/soundservicelaw09.IntsetCombines returns true for every input, never panics, and leaves its input as it was (the given statement IntsetCombinesSaid). Conditions: none but those of the given statement. This text is the last: it holds the theorem; it was written by a program (wip/pack.py) out of this claim's own texts, in build order; Lean checks it. -/
import Derived.Test.YtbahibaohehojaaZIntsetCombines4
import Derived.Below
import Derived.ChangeOld
import Derived.Deep.RegionHeld3
import Derived.Deep.RegionWith
import Derived.KernelRfl
import Derived.OpenShut
import Derived.ProofKit
import Derived.ShutString
import Derived.SizedLaws
import Derived.Test.YtbahibaohehojaaChecked
import Derived.Test.YtbahibaohehojaaRows
import Derived.WalkKit
import GoSem.ClaimJoined
namespace Go.Proofs.Ytbahibaohehojaa.Q
open Go.RowKit Go.Proofs.YtbahibaohehojaaW.PrintWords Go.Proofs.YtbahibaohehojaaW.PrintLast Go.Proofs.YtbahibaohehojaaW.PrintMore
attribute [local go_sem] max2_int min2_int max_two min_two max_three min_three max_four min_four
set_option linter.unusedVariables false
set_option linter.unusedSimpArgs false
attribute [local go_sem high] eqA56
def soundservicelaw09_sane.f (k : Nat)  : Option (Bool) := (intset_Make.f k (([(⟨5, 9⟩ : S56), (⟨1, 4⟩ : S56), (⟨20, 20⟩ : S56)] : List (S56)))).bind fun bt616 => ((intset_Nearest.f k bt616.1 14).bind fun bt621 => ((intset_Nearest.f k bt616.1 15).bind fun bt623 => (if bt616.2 = 0 then (if (bt616.1.length : Int) = 2 then (if 0 < (bt616.1.length : Int) then (if (((rd_T56 bt616.1 0).f0) == 1 && (((rd_T56 bt616.1 0).f1) == 9)) = true then (if bt621.2 = true then (if bt623.2 = true then (if bt621.1 = 9 then (if bt623.1 = 20 then ((intset_Valid.f k bt616.1).bind fun t626 => (if t626 = true then ((intset_Has.f k bt616.1 20).bind fun t627 => (if t627 = true then ((intset_Has.f k bt616.1 10).bind fun t628 => (some (!t628))) else (some false))) else (some false))) else (some false)) else (some false)) else (some false)) else (some false)) else (some false)) else (none)) else (some false)) else (some false))))
set_option maxHeartbeats 8000000 in
set_option maxRecDepth 100000 in
theorem soundservicelaw09_sane.calls (k : Nat)  (r : Bool) (w : World) (h : soundservicelaw09_sane.f k  = some r) :
    Calls Try.prog 25 #[] w fun e w' => e = .returned (.bool r) ∧ Below w.heap.size w w' := by
  have hu56 := Try.underlying56
  have hu42 := Try.underlying42
  have HB := Aside0.mk (Below.refl w.heap.size w)
  have H : ((intset_Make.f k (([(⟨5, 9⟩ : S56), (⟨1, 4⟩ : S56), (⟨20, 20⟩ : S56)] : List (S56)))).bind fun bt616 => ((intset_Nearest.f k bt616.1 14).bind fun bt621 => ((intset_Nearest.f k bt616.1 15).bind fun bt623 => (if bt616.2 = 0 then (if (bt616.1.length : Int) = 2 then (if 0 < (bt616.1.length : Int) then (if (((rd_T56 bt616.1 0).f0) == 1 && (((rd_T56 bt616.1 0).f1) == 9)) = true then (if bt621.2 = true then (if bt623.2 = true then (if bt621.1 = 9 then (if bt623.1 = 20 then ((intset_Valid.f k bt616.1).bind fun t626 => (if t626 = true then ((intset_Has.f k bt616.1 20).bind fun t627 => (if t627 = true then ((intset_Has.f k bt616.1 10).bind fun t628 => (some (!t628))) else (some false))) else (some false))) else (some false)) else (some false)) else (some false)) else (some false)) else (some false)) else (none)) else (some false)) else (some false))))) = some r := h
  clear h
  obtain ⟨y613, hy613⟩ : ∃ y_ : List (S56), y_ = (([(⟨5, 9⟩ : S56), (⟨1, 4⟩ : S56), (⟨20, 20⟩ : S56)] : List (S56))) := ⟨_, rfl⟩
  replace H : ((intset_Make.f k y613).bind fun bt616 => ((intset_Nearest.f k bt616.1 14).bind fun bt621 => ((intset_Nearest.f k bt616.1 15).bind fun bt623 => (if bt616.2 = 0 then (if (bt616.1.length : Int) = 2 then (if 0 < (bt616.1.length : Int) then (if (((rd_T56 bt616.1 0).f0) == 1 && (((rd_T56 bt616.1 0).f1) == 9)) = true then (if bt621.2 = true then (if bt623.2 = true then (if bt621.1 = 9 then (if bt623.1 = 20 then ((intset_Valid.f k bt616.1).bind fun t626 => (if t626 = true then ((intset_Has.f k bt616.1 20).bind fun t627 => (if t627 = true then ((intset_Has.f k bt616.1 10).bind fun t628 => (some (!t628))) else (some false))) else (some false))) else (some false)) else (some false)) else (some false)) else (some false)) else (some false)) else (none)) else (some false)) else (some false))))) = some r := by first | (rw [hy613]; with_reducible exact H) | (have H2_ := (Option.bind_some _ _).symm.trans H; rw [hy613]; with_reducible exact H2_) | (have H2_ := (Option.bind_some _ _).symm.trans H; with_reducible exact H2_) | with_reducible exact H | (rw [hy613]; exact H) | exact H
  have Ny613 := Aside0.mk hy613
  clear hy613
  replace H := Option.bind_eq_some_iff.mp H
  obtain ⟨⟨t616, t619⟩, A10, H⟩ := H
  replace H : ((intset_Nearest.f k t616 14).bind fun bt621 => ((intset_Nearest.f k t616 15).bind fun bt623 => (if t619 = 0 then (if (t616.length : Int) = 2 then (if 0 < (t616.length : Int) then (if (((rd_T56 t616 0).f0) == 1 && (((rd_T56 t616 0).f1) == 9)) = true then (if bt621.2 = true then (if bt623.2 = true then (if bt621.1 = 9 then (if bt623.1 = 20 then ((intset_Valid.f k t616).bind fun t626 => (if t626 = true then ((intset_Has.f k t616 20).bind fun t627 => (if t627 = true then ((intset_Has.f k t616 10).bind fun t628 => (some (!t628))) else (some false))) else (some false))) else (some false)) else (some false)) else (some false)) else (some false)) else (some false)) else (none)) else (some false)) else (some false)))) = some r := H
  have A1 := Aside0.mk A10
  clear A10
  replace H := Option.bind_eq_some_iff.mp H
  obtain ⟨⟨t621, t622⟩, A20, H⟩ := H
  replace H : ((intset_Nearest.f k t616 15).bind fun bt623 => (if t619 = 0 then (if (t616.length : Int) = 2 then (if 0 < (t616.length : Int) then (if (((rd_T56 t616 0).f0) == 1 && (((rd_T56 t616 0).f1) == 9)) = true then (if t622 = true then (if bt623.2 = true then (if t621 = 9 then (if bt623.1 = 20 then ((intset_Valid.f k t616).bind fun t626 => (if t626 = true then ((intset_Has.f k t616 20).bind fun t627 => (if t627 = true then ((intset_Has.f k t616 10).bind fun t628 => (some (!t628))) else (some false))) else (some false))) else (some false)) else (some false)) else (some false)) else (some false)) else (some false)) else (none)) else (some false)) else (some false))) = some r := H
  have A2 := Aside0.mk A20
  clear A20
  replace H := Option.bind_eq_some_iff.mp H
  obtain ⟨⟨t623, t624⟩, A30, H⟩ := H
  replace H : (if t619 = 0 then (if (t616.length : Int) = 2 then (if 0 < (t616.length : Int) then (if (((rd_T56 t616 0).f0) == 1 && (((rd_T56 t616 0).f1) == 9)) = true then (if t622 = true then (if t624 = true then (if t621 = 9 then (if t623 = 20 then ((intset_Valid.f k t616).bind fun t626 => (if t626 = true then ((intset_Has.f k t616 20).bind fun t627 => (if t627 = true then ((intset_Has.f k t616 10).bind fun t628 => (some (!t628))) else (some false))) else (some false))) else (some false)) else (some false)) else (some false)) else (some false)) else (some false)) else (none)) else (some false)) else (some false)) = some r := H
  have A3 := Aside0.mk A30
  clear A30
  by_cases c4 : t619 = 0
  · rw [if_pos c4] at H
    have c4b0 : (t619 == 0) = true := beq_iff_eq.mpr c4
    have c4b1 : (t619 != 0) = false := bne_eq_false_iff_eq.mpr c4
    clear c4
    by_cases c5 : (t616.length : Int) = 2
    · rw [if_pos c5] at H
      have c5b0 : ((t616.length : Int) == 2) = true := beq_iff_eq.mpr c5
      have c5b1 : ((t616.length : Int) != 2) = false := bne_eq_false_iff_eq.mpr c5
      clear c5
      by_cases c6 : 0 < (t616.length : Int)
      · rw [if_pos c6] at H
        have c6b0 : decide (0 < (t616.length : Int)) = true := decide_eq_true c6
        have c6b1 : decide (0 < t616.length) = true := decide_eq_true (by omega)
        clear c6
        by_cases c7 : (((rd_T56 t616 0).f0) == 1 && (((rd_T56 t616 0).f1) == 9)) = true
        · rw [if_pos c7] at H
          have c7b0 : (((rd_T56 t616 0).f0) == 1 && (((rd_T56 t616 0).f1) == 9)) = true := c7
          (try (have c7b1 : decide (((rd_T56 t616 0).f0) = 1 && (((rd_T56 t616 0).f1) == 9)) = true := by simpa using c7))
          (try (have c7b2 : (((rd_T56 t616 0).f0) == 1 && (((rd_T56 t616 0).f1) == 9)) = true := by simpa using c7))
          clear c7
          by_cases c8 : t622 = true
          · subst c8
            have H1 : (if t624 = true then (if t621 = 9 then (if t623 = 20 then ((intset_Valid.f k t616).bind fun t626 => (if t626 = true then ((intset_Has.f k t616 20).bind fun t627 => (if t627 = true then ((intset_Has.f k t616 10).bind fun t628 => (some (!t628))) else (some false))) else (some false))) else (some false)) else (some false)) else (some false)) = some r := by rw [if_pos rfl] at H; exact H
            clear H
            have H := H1
            clear H1
            by_cases c9 : t624 = true
            · subst c9
              have H1 : (if t621 = 9 then (if t623 = 20 then ((intset_Valid.f k t616).bind fun t626 => (if t626 = true then ((intset_Has.f k t616 20).bind fun t627 => (if t627 = true then ((intset_Has.f k t616 10).bind fun t628 => (some (!t628))) else (some false))) else (some false))) else (some false)) else (some false)) = some r := by rw [if_pos rfl] at H; exact H
              clear H
              have H := H1
              clear H1
              by_cases c10 : t621 = 9
              · rw [if_pos c10] at H
                have c10b0 : (t621 == 9) = true := beq_iff_eq.mpr c10
                have c10b1 : (t621 != 9) = false := bne_eq_false_iff_eq.mpr c10
                clear c10
                by_cases c11 : t623 = 20
                · rw [if_pos c11] at H
                  have c11b0 : (t623 == 20) = true := beq_iff_eq.mpr c11
                  have c11b1 : (t623 != 20) = false := bne_eq_false_iff_eq.mpr c11
                  clear c11
                  replace H := Option.bind_eq_some_iff.mp H
                  obtain ⟨t626, A120, H⟩ := H
                  replace H : (if t626 = true then ((intset_Has.f k t616 20).bind fun t627 => (if t627 = true then ((intset_Has.f k t616 10).bind fun t628 => (some (!t628))) else (some false))) else (some false)) = some r := H
                  have A12 := Aside0.mk A120
                  clear A120
                  by_cases c13 : t626 = true
                  · subst c13
                    have H1 : ((intset_Has.f k t616 20).bind fun t627 => (if t627 = true then ((intset_Has.f k t616 10).bind fun t628 => (some (!t628))) else (some false))) = some r := by rw [if_pos rfl] at H; exact H
                    clear H
                    have H := H1
                    clear H1
                    replace H := Option.bind_eq_some_iff.mp H
                    obtain ⟨t627, A140, H⟩ := H
                    replace H : (if t627 = true then ((intset_Has.f k t616 10).bind fun t628 => (some (!t628))) else (some false)) = some r := H
                    have A14 := Aside0.mk A140
                    clear A140
                    by_cases c15 : t627 = true
                    · subst c15
                      have H1 : ((intset_Has.f k t616 10).bind fun t628 => (some (!t628))) = some r := by rw [if_pos rfl] at H; exact H
                      clear H
                      have H := H1
                      clear H1
                      replace H := Option.bind_eq_some_iff.mp H
                      obtain ⟨t628, A160, H⟩ := H
                      replace H : (some (!t628)) = some r := H
                      have A16 := Aside0.mk A160
                      clear A160
                      obtain rfl := Option.some.inj H
                      go_enter Try.func25, Try.ntmps25
                      go_wp2_with (first | ((with_reducible refine gate_dst (N := 11) rfl ?_); (try (refine gate_guard (by rfl) ?_; dsimp only)); refine Kd.R_lit k56 _ 56 ?hg (N := 11) ?hd (xs := ([(⟨5, 9⟩ : S56), (⟨1, 4⟩ : S56), (⟨20, 20⟩ : S56)] : List (S56))) (inner := [.int .i64 5, .int .i64 9, .int .i64 1, .int .i64 4, .int .i64 20, .int .i64 20]) (ok := fun _ => True) (okp := fun _ => True) ?hr ?hp (fun _ hk => hk) trivial (Below.refl _ _) (Nat.le_refl _) (by simp) ?_; (case hd => rfl); (case hg => rfl); (case hr => first | (go_simp; done) | (go_simp; rfl)); (case hp => exact (Reps.c2 (show Kd.M k56 _ _ _ (⟨5, 9⟩ : S56) [.int .i64 5, .int .i64 9] from (k56_mkM _ _ _ (⟨5, 9⟩ : S56) )) (Reps.c2 (show Kd.M k56 _ _ _ (⟨1, 4⟩ : S56) [.int .i64 1, .int .i64 4] from (k56_mkM _ _ _ (⟨1, 4⟩ : S56) )) (Reps.c2 (show Kd.M k56 _ _ _ (⟨20, 20⟩ : S56) [.int .i64 20, .int .i64 20] from (k56_mkM _ _ _ (⟨20, 20⟩ : S56) )) (Reps.none _ _))))); intro v614 w17 ho18 hb hg_ hnew_; clear hg_ hnew_; (first | rw [← Ny613.out] at ho18 | (simp only [Int.reduceToNat] at ho18; rw [← Ny613.out] at ho18)); have n0_ := Aside0.mk (Kd.R_lower ho18 (below_size (by repeat (first | (with_reducible first | exact HB.out | apply below_alloc | apply pw_below_drewN | apply below_drew1) | exact HB.out)))); have n1_ := Aside0.mk (below_step (by repeat (first | (with_reducible first | exact HB.out | apply below_alloc | apply pw_below_drewN | apply below_drew1) | exact HB.out)) hb); clear HB; have HO615 := n0_; have HB := n1_; clear n0_ n1_; clear hb ho18; obtain ⟨Ao19, co19, eo19⟩ := Kd.R_slice HO615.out; subst eo19) | ((with_reducible refine gate_callee (f := 27) rfl ?_); refine goesL_ (some 12) rfl rfl Try.func27 (by kernel_rfl) rfl #[.slice Ao19 y613.length co19] rfl (by (try simp only [List.map_toArray, List.map_cons, List.map_nil]); first | done | rfl | (simp only [List.length_drop, List.length_take]; rfl)) ?_; (with_reducible refine (intset_Make.calls k _ _ y613 t616 t619 _ ?side1 ?side2 A1.out).mono ?_); (case side1 => repeat (first | exact (Kd.R_reads' HO615.out).2.2 | (with_reducible refine Kd.C_alloc ?_ _) | (with_reducible refine Kd.C_drewN ?_ _) | (with_reducible refine Kd.C_drew ?_))); (case side2 => exact (Kd.R_reads' HO615.out).2.1); rintro e w20 ⟨v617, rfl, ho0, hb⟩; refine ⟨_, rfl, ?_⟩; have n0_ := Aside0.mk (Kd.R_elder' (by (with_reducible repeat (first | apply Kd.R_alloc | apply Kd.R_drewN | apply Kd.R_drew)); exact HO615.out) (Kd.R_base ho0) hb); have n1_ := Aside0.mk (Kd.R_lower (Kd.R_new' ho0 (Kd.R_lt (by (with_reducible repeat (first | apply Kd.R_alloc | apply Kd.R_drewN | apply Kd.R_drew)); exact HO615.out))) (below_size (by repeat (first | (with_reducible first | exact HB.out | apply below_alloc | apply pw_below_drewN | apply below_drew1) | exact HB.out)))); have n2_ := Aside0.mk (below_step (by repeat (first | (with_reducible first | exact HB.out | apply below_alloc | apply pw_below_drewN | apply below_drew1) | exact HB.out)) hb); clear HO615; clear HB; have HO615 := n0_; have HO618 := n1_; have HB := n2_; clear n0_ n1_ n2_; (try clear hb); (try clear hb2); (try clear hk); (try clear hi); (try clear ho0)) | ((with_reducible refine gate_dst (N := 1) rfl ?_); (try (refine gate_guard (by rfl) ?_; dsimp only)); refine box_event ?hg (N := 1) ?hd (cs := #[.slice none 0 0]) (t := 42) ?hr ?_; (case hd => rfl); (case hg => rfl); (case hr => first | (go_simp; done) | (go_simp; rfl)); intro gb620 hg w21 hbox hb; have n0_ := Aside0.mk (Kd.R_below (by (with_reducible repeat (first | apply Kd.R_alloc | apply Kd.R_drewN | apply Kd.R_drew)); exact HO615.out) hb); have n1_ := Aside0.mk (Kd.R_below (by (with_reducible repeat (first | apply Kd.R_alloc | apply Kd.R_drewN | apply Kd.R_drew)); exact HO618.out) hb); have n2_ := Aside0.mk (below_step (by repeat (first | (with_reducible first | exact HB.out | apply below_alloc | apply pw_below_drewN | apply below_drew1) | exact HB.out)) hb); have n3_ := Aside0.mk (hbox); have n4_ := Aside0.mk ((by rw [hg]; exact (below_size (by repeat (first | (with_reducible first | exact HB.out | apply below_alloc | apply pw_below_drewN | apply below_drew1) | exact HB.out))) : w.heap.size ≤ gb620)); have n5_ := Aside0.mk ((by rw [hg]; exact (below_size (by repeat (first | (with_reducible first | exact HB.out | apply below_alloc | apply pw_below_drewN | apply below_drew1) | exact HB.out))) : w.heap.size ≤ gb620)); clear HO615; clear HO618; clear HB; have HO615 := n0_; have HO618 := n1_; have HB := n2_; have BK620 := n3_; have GW620 := n4_; have GE620 := n5_; clear n0_ n1_ n2_ n3_ n4_ n5_; clear hb hbox hg; obtain ⟨Ao22, co22, eo22⟩ := Kd.R_slice HO618.out; subst eo22; have hcz23_0 : w21.cell? ⟨gb620, 0, none⟩ = some (.slice none 0 0) := (blk_cell BK620.out 0).trans rfl; have hfz23_0 := blk_frozen BK620.out 0) | ((with_reducible refine gate_callee (f := 35) rfl ?_); refine goesL_ (some 17) rfl rfl Try.func35 (by kernel_rfl) rfl #[.agg #[.slice Ao22 t616.length co22], .int .i64 14] rfl (by (try simp only [List.map_toArray, List.map_cons, List.map_nil]); first | done | rfl | (simp only [List.length_drop, List.length_take]; rfl)) ?_; (with_reducible refine (intset_Nearest.calls k _ _ t616 14 t621 true _ ?side1 ?side2 A2.out).mono ?_); (case side1 => refine (Kd.R_reads' (e := 56) (base := w.heap.size) (ok := fun k_ => (True ∧ some k_ ≠ (.slice Ao19 y613.length co19 : Value).ownBlock)) (n := t616.length) (c := co22) ?_).2.2; exact (by (with_reducible repeat (first | apply Kd.R_alloc | apply Kd.R_drewN | apply Kd.R_drew)); exact (Kd.R_mono (Kd.R_far (p := ⟨gb620, 0, none⟩) (Kd.R_types HO618.out BK620.out (by decide)) (fun _ hk => hk.2) (.slice Ao22 t616.length co22)) (fun _ h_ => h_.1)))); (case side2 => exact (Kd.R_reads' HO618.out).2.1); rintro e w24 ⟨rfl, hb⟩; refine ⟨_, rfl, ?_⟩; have n0_ := Aside0.mk (Kd.R_below (by (with_reducible repeat (first | apply Kd.R_alloc | apply Kd.R_drewN | apply Kd.R_drew)); exact (Kd.R_mono (Kd.R_far (p := ⟨gb620, 0, none⟩) (Kd.R_types HO615.out BK620.out (by decide)) (fun _ hk => hk.2) (.slice Ao22 t616.length co22)) (fun _ h_ => h_.1))) hb); have n1_ := Aside0.mk (Kd.R_below (by (with_reducible repeat (first | apply Kd.R_alloc | apply Kd.R_drewN | apply Kd.R_drew)); exact (Kd.R_mono (Kd.R_far (p := ⟨gb620, 0, none⟩) (Kd.R_types HO618.out BK620.out (by decide)) (fun _ hk => hk.2) (.slice Ao22 t616.length co22)) (fun _ h_ => h_.1))) hb); have n2_ := Aside0.mk (blk_below (g := gb620) (o := .cells #[.slice Ao22 t616.length co22] 42 (0, 0)) (by (with_reducible repeat (first | refine blk_drewN ?_ _ | refine blk_drew ?_ | refine blk_alloc ?_ _)); refine blk_put (cs := #[.slice none 0 0]) ?_ 0 _ rfl; (with_reducible repeat (first | refine blk_drewN ?_ _ | refine blk_drew ?_ | refine blk_alloc ?_ _)); exact BK620.out) hb); have n3_ := Aside0.mk (below_step (by repeat (first | (with_reducible first | exact HB.out | apply below_alloc | apply pw_below_drewN | apply below_drew1 | refine below_set ?_ GE620.out) | exact HB.out)) hb); clear HO615; clear HO618; clear BK620; clear HB; have HO615 := n0_; have HO618 := n1_; have BK620 := n2_; have HB := n3_; clear n0_ n1_ n2_ n3_; (try clear hb); (try clear hb2); (try clear hk); (try clear hi); have hcz25_0 : w24.cell? ⟨gb620, 0, none⟩ = some (.slice Ao22 t616.length co22) := (blk_cell BK620.out 0).trans rfl; have hfz25_0 := blk_frozen BK620.out 0) | ((with_reducible refine gate_callee (f := 35) rfl ?_); refine goesL_ (some 22) rfl rfl Try.func35 (by kernel_rfl) rfl #[.agg #[.slice Ao22 t616.length co22], .int .i64 15] rfl (by (try simp only [List.map_toArray, List.map_cons, List.map_nil]); first | done | rfl | (simp only [List.length_drop, List.length_take]; rfl)) ?_; (with_reducible refine (intset_Nearest.calls k _ _ t616 15 t623 true _ ?side1 ?side2 A3.out).mono ?_); (case side1 => repeat (first | exact (Kd.R_reads' HO618.out).2.2 | (with_reducible refine Kd.C_alloc ?_ _) | (with_reducible refine Kd.C_drewN ?_ _) | (with_reducible refine Kd.C_drew ?_))); (case side2 => exact (Kd.R_reads' HO618.out).2.1); rintro e w26 ⟨rfl, hb⟩; refine ⟨_, rfl, ?_⟩; have n0_ := Aside0.mk (Kd.R_below (by (with_reducible repeat (first | apply Kd.R_alloc | apply Kd.R_drewN | apply Kd.R_drew)); exact HO615.out) hb); have n1_ := Aside0.mk (Kd.R_below (by (with_reducible repeat (first | apply Kd.R_alloc | apply Kd.R_drewN | apply Kd.R_drew)); exact HO618.out) hb); have n2_ := Aside0.mk (blk_below (g := gb620) (o := .cells #[.slice Ao22 t616.length co22] 42 (0, 0)) (by (with_reducible repeat (first | refine blk_drewN ?_ _ | refine blk_drew ?_ | refine blk_alloc ?_ _)); exact BK620.out) hb); have n3_ := Aside0.mk (below_step (by repeat (first | (with_reducible first | exact HB.out | apply below_alloc | apply pw_below_drewN | apply below_drew1 | refine below_set ?_ GE620.out) | exact HB.out)) hb); clear HO615; clear HO618; clear BK620; clear HB; have HO615 := n0_; have HO618 := n1_; have BK620 := n2_; have HB := n3_; clear n0_ n1_ n2_ n3_; (try clear hb); (try clear hb2); (try clear hk); (try clear hi); have hcz27_0 : w26.cell? ⟨gb620, 0, none⟩ = some (.slice Ao22 t616.length co22) := (blk_cell BK620.out 0).trans rfl; have hfz27_0 := blk_frozen BK620.out 0; have p625 : 0 ≤ (0 : Int) := (by omega); have q625 : 0 < (t616.length : Int) := of_decide_eq_true (by first | (with_reducible assumption) | assumption); obtain ⟨ad625, e625, hx625_0, hx625_1⟩ := at_T56 (Kd.R_reads' HO618.out).2.2 0 p625 q625; cases e625; have qi625 : (0 < t616.length) = True := eq_true (by omega); (try rw [show ((0 : Int)).toNat = 0 from rfl] at hx625_0); (try rw [show 0 * 2 = 0 from rfl] at hx625_0); (try rw [Addr.add_zero'] at hx625_0); (try rw [show ((0 : Int)).toNat = 0 from rfl] at hx625_1); (try rw [show 0 * 2 = 0 from rfl] at hx625_1); (try rw [Addr.add_zero'] at hx625_1); replace p625 := eq_true p625; replace q625 := eq_true q625) | (go_at_call 30; (with_reducible refine (intset_Valid.calls k _ _ t616 true _ ?side1 ?side2 A12.out).mono ?_); (case side1 => repeat (first | exact (Kd.R_reads' HO618.out).2.2 | (with_reducible refine Kd.C_alloc ?_ _) | (with_reducible refine Kd.C_drewN ?_ _) | (with_reducible refine Kd.C_drew ?_))); (case side2 => exact (Kd.R_reads' HO618.out).2.1); rintro e w28 ⟨rfl, hb⟩; have n0_ := Aside0.mk (Kd.R_below (by (with_reducible repeat (first | apply Kd.R_alloc | apply Kd.R_drewN | apply Kd.R_drew)); exact HO615.out) hb); have n1_ := Aside0.mk (Kd.R_below (by (with_reducible repeat (first | apply Kd.R_alloc | apply Kd.R_drewN | apply Kd.R_drew)); exact HO618.out) hb); have n2_ := Aside0.mk (blk_below (g := gb620) (o := .cells #[.slice (some ad625) t616.length co22] 42 (0, 0)) (by (with_reducible repeat (first | refine blk_drewN ?_ _ | refine blk_drew ?_ | refine blk_alloc ?_ _)); exact BK620.out) hb); have n3_ := Aside0.mk (below_step (by repeat (first | (with_reducible first | exact HB.out | apply below_alloc | apply pw_below_drewN | apply below_drew1 | refine below_set ?_ GE620.out) | exact HB.out)) hb); clear HO615; clear HO618; clear BK620; clear HB; have HO615 := n0_; have HO618 := n1_; have BK620 := n2_; have HB := n3_; clear n0_ n1_ n2_ n3_; (try clear hb); (try clear hb2); (try clear hk); (try clear hi); have hcz29_0 : w28.cell? ⟨gb620, 0, none⟩ = some (.slice (some ad625) t616.length co22) := (blk_cell BK620.out 0).trans rfl; have hfz29_0 := blk_frozen BK620.out 0) | (go_at_call 32; (with_reducible refine (intset_Has.calls k _ _ t616 20 true _ ?side1 ?side2 A14.out).mono ?_); (case side1 => repeat (first | exact (Kd.R_reads' HO618.out).2.2 | (with_reducible refine Kd.C_alloc ?_ _) | (with_reducible refine Kd.C_drewN ?_ _) | (with_reducible refine Kd.C_drew ?_))); (case side2 => exact (Kd.R_reads' HO618.out).2.1); rintro e w30 ⟨rfl, hb⟩; have n0_ := Aside0.mk (Kd.R_below (by (with_reducible repeat (first | apply Kd.R_alloc | apply Kd.R_drewN | apply Kd.R_drew)); exact HO615.out) hb); have n1_ := Aside0.mk (Kd.R_below (by (with_reducible repeat (first | apply Kd.R_alloc | apply Kd.R_drewN | apply Kd.R_drew)); exact HO618.out) hb); have n2_ := Aside0.mk (blk_below (g := gb620) (o := .cells #[.slice (some ad625) t616.length co22] 42 (0, 0)) (by (with_reducible repeat (first | refine blk_drewN ?_ _ | refine blk_drew ?_ | refine blk_alloc ?_ _)); exact BK620.out) hb); have n3_ := Aside0.mk (below_step (by repeat (first | (with_reducible first | exact HB.out | apply below_alloc | apply pw_below_drewN | apply below_drew1 | refine below_set ?_ GE620.out) | exact HB.out)) hb); clear HO615; clear HO618; clear BK620; clear HB; have HO615 := n0_; have HO618 := n1_; have BK620 := n2_; have HB := n3_; clear n0_ n1_ n2_ n3_; (try clear hb); (try clear hb2); (try clear hk); (try clear hi); have hcz31_0 : w30.cell? ⟨gb620, 0, none⟩ = some (.slice (some ad625) t616.length co22) := (blk_cell BK620.out 0).trans rfl; have hfz31_0 := blk_frozen BK620.out 0) | (go_at_call 32; (with_reducible refine (intset_Has.calls k _ _ t616 10 t628 _ ?side1 ?side2 A16.out).mono ?_); (case side1 => repeat (first | exact (Kd.R_reads' HO618.out).2.2 | (with_reducible refine Kd.C_alloc ?_ _) | (with_reducible refine Kd.C_drewN ?_ _) | (with_reducible refine Kd.C_drew ?_))); (case side2 => exact (Kd.R_reads' HO618.out).2.1); rintro e w32 ⟨rfl, hb⟩; have n0_ := Aside0.mk (Kd.R_below (by (with_reducible repeat (first | apply Kd.R_alloc | apply Kd.R_drewN | apply Kd.R_drew)); exact HO615.out) hb); have n1_ := Aside0.mk (Kd.R_below (by (with_reducible repeat (first | apply Kd.R_alloc | apply Kd.R_drewN | apply Kd.R_drew)); exact HO618.out) hb); have n2_ := Aside0.mk (blk_below (g := gb620) (o := .cells #[.slice (some ad625) t616.length co22] 42 (0, 0)) (by (with_reducible repeat (first | refine blk_drewN ?_ _ | refine blk_drew ?_ | refine blk_alloc ?_ _)); exact BK620.out) hb); have n3_ := Aside0.mk (below_step (by repeat (first | (with_reducible first | exact HB.out | apply below_alloc | apply pw_below_drewN | apply below_drew1 | refine below_set ?_ GE620.out) | exact HB.out)) hb); clear HO615; clear HO618; clear BK620; clear HB; have HO615 := n0_; have HO618 := n1_; have BK620 := n2_; have HB := n3_; clear n0_ n1_ n2_ n3_; (try clear hb); (try clear hb2); (try clear hk); (try clear hi)))
                      go_ret
                      exact ⟨by first | rfl | (simp [errW_none, errW_some] <;> rfl) | (simp [*, errW_none, errW_some] <;> rfl), by repeat (first | (with_reducible first | exact HB.out | apply below_alloc | apply pw_below_drewN | apply below_drew1 | refine below_set ?_ GE620.out) | exact HB.out)⟩
                    · replace c15 := Bool.eq_false_iff.mpr c15
                      subst c15
                      have H1 : (some false) = some r := by rw [if_neg (show ¬ (false = true) by decide)] at H; exact H
                      clear H
                      have H := H1
                      clear H1
                      obtain rfl := Option.some.inj H
                      go_enter Try.func25, Try.ntmps25
                      go_wp2_with (first | ((with_reducible refine gate_dst (N := 11) rfl ?_); (try (refine gate_guard (by rfl) ?_; dsimp only)); refine Kd.R_lit k56 _ 56 ?hg (N := 11) ?hd (xs := ([(⟨5, 9⟩ : S56), (⟨1, 4⟩ : S56), (⟨20, 20⟩ : S56)] : List (S56))) (inner := [.int .i64 5, .int .i64 9, .int .i64 1, .int .i64 4, .int .i64 20, .int .i64 20]) (ok := fun _ => True) (okp := fun _ => True) ?hr ?hp (fun _ hk => hk) trivial (Below.refl _ _) (Nat.le_refl _) (by simp) ?_; (case hd => rfl); (case hg => rfl); (case hr => first | (go_simp; done) | (go_simp; rfl)); (case hp => exact (Reps.c2 (show Kd.M k56 _ _ _ (⟨5, 9⟩ : S56) [.int .i64 5, .int .i64 9] from (k56_mkM _ _ _ (⟨5, 9⟩ : S56) )) (Reps.c2 (show Kd.M k56 _ _ _ (⟨1, 4⟩ : S56) [.int .i64 1, .int .i64 4] from (k56_mkM _ _ _ (⟨1, 4⟩ : S56) )) (Reps.c2 (show Kd.M k56 _ _ _ (⟨20, 20⟩ : S56) [.int .i64 20, .int .i64 20] from (k56_mkM _ _ _ (⟨20, 20⟩ : S56) )) (Reps.none _ _))))); intro v614 w33 ho34 hb hg_ hnew_; clear hg_ hnew_; (first | rw [← Ny613.out] at ho34 | (simp only [Int.reduceToNat] at ho34; rw [← Ny613.out] at ho34)); have n0_ := Aside0.mk (Kd.R_lower ho34 (below_size (by repeat (first | (with_reducible first | exact HB.out | apply below_alloc | apply pw_below_drewN | apply below_drew1) | exact HB.out)))); have n1_ := Aside0.mk (below_step (by repeat (first | (with_reducible first | exact HB.out | apply below_alloc | apply pw_below_drewN | apply below_drew1) | exact HB.out)) hb); clear HB; have HO615 := n0_; have HB := n1_; clear n0_ n1_; clear hb ho34; obtain ⟨Ao35, co35, eo35⟩ := Kd.R_slice HO615.out; subst eo35) | ((with_reducible refine gate_callee (f := 27) rfl ?_); refine goesL_ (some 12) rfl rfl Try.func27 (by kernel_rfl) rfl #[.slice Ao35 y613.length co35] rfl (by (try simp only [List.map_toArray, List.map_cons, List.map_nil]); first | done | rfl | (simp only [List.length_drop, List.length_take]; rfl)) ?_; (with_reducible refine (intset_Make.calls k _ _ y613 t616 t619 _ ?side1 ?side2 A1.out).mono ?_); (case side1 => repeat (first | exact (Kd.R_reads' HO615.out).2.2 | (with_reducible refine Kd.C_alloc ?_ _) | (with_reducible refine Kd.C_drewN ?_ _) | (with_reducible refine Kd.C_drew ?_))); (case side2 => exact (Kd.R_reads' HO615.out).2.1); rintro e w36 ⟨v617, rfl, ho0, hb⟩; refine ⟨_, rfl, ?_⟩; have n0_ := Aside0.mk (Kd.R_elder' (by (with_reducible repeat (first | apply Kd.R_alloc | apply Kd.R_drewN | apply Kd.R_drew)); exact HO615.out) (Kd.R_base ho0) hb); have n1_ := Aside0.mk (Kd.R_lower (Kd.R_new' ho0 (Kd.R_lt (by (with_reducible repeat (first | apply Kd.R_alloc | apply Kd.R_drewN | apply Kd.R_drew)); exact HO615.out))) (below_size (by repeat (first | (with_reducible first | exact HB.out | apply below_alloc | apply pw_below_drewN | apply below_drew1) | exact HB.out)))); have n2_ := Aside0.mk (below_step (by repeat (first | (with_reducible first | exact HB.out | apply below_alloc | apply pw_below_drewN | apply below_drew1) | exact HB.out)) hb); clear HO615; clear HB; have HO615 := n0_; have HO618 := n1_; have HB := n2_; clear n0_ n1_ n2_; (try clear hb); (try clear hb2); (try clear hk); (try clear hi); (try clear ho0)) | ((with_reducible refine gate_dst (N := 1) rfl ?_); (try (refine gate_guard (by rfl) ?_; dsimp only)); refine box_event ?hg (N := 1) ?hd (cs := #[.slice none 0 0]) (t := 42) ?hr ?_; (case hd => rfl); (case hg => rfl); (case hr => first | (go_simp; done) | (go_simp; rfl)); intro gb620 hg w37 hbox hb; have n0_ := Aside0.mk (Kd.R_below (by (with_reducible repeat (first | apply Kd.R_alloc | apply Kd.R_drewN | apply Kd.R_drew)); exact HO615.out) hb); have n1_ := Aside0.mk (Kd.R_below (by (with_reducible repeat (first | apply Kd.R_alloc | apply Kd.R_drewN | apply Kd.R_drew)); exact HO618.out) hb); have n2_ := Aside0.mk (below_step (by repeat (first | (with_reducible first | exact HB.out | apply below_alloc | apply pw_below_drewN | apply below_drew1) | exact HB.out)) hb); have n3_ := Aside0.mk (hbox); have n4_ := Aside0.mk ((by rw [hg]; exact (below_size (by repeat (first | (with_reducible first | exact HB.out | apply below_alloc | apply pw_below_drewN | apply below_drew1) | exact HB.out))) : w.heap.size ≤ gb620)); have n5_ := Aside0.mk ((by rw [hg]; exact (below_size (by repeat (first | (with_reducible first | exact HB.out | apply below_alloc | apply pw_below_drewN | apply below_drew1) | exact HB.out))) : w.heap.size ≤ gb620)); clear HO615; clear HO618; clear HB; have HO615 := n0_; have HO618 := n1_; have HB := n2_; have BK620 := n3_; have GW620 := n4_; have GE620 := n5_; clear n0_ n1_ n2_ n3_ n4_ n5_; clear hb hbox hg; obtain ⟨Ao38, co38, eo38⟩ := Kd.R_slice HO618.out; subst eo38; have hcz39_0 : w37.cell? ⟨gb620, 0, none⟩ = some (.slice none 0 0) := (blk_cell BK620.out 0).trans rfl; have hfz39_0 := blk_frozen BK620.out 0) | ((with_reducible refine gate_callee (f := 35) rfl ?_); refine goesL_ (some 17) rfl rfl Try.func35 (by kernel_rfl) rfl #[.agg #[.slice Ao38 t616.length co38], .int .i64 14] rfl (by (try simp only [List.map_toArray, List.map_cons, List.map_nil]); first | done | rfl | (simp only [List.length_drop, List.length_take]; rfl)) ?_; (with_reducible refine (intset_Nearest.calls k _ _ t616 14 t621 true _ ?side1 ?side2 A2.out).mono ?_); (case side1 => refine (Kd.R_reads' (e := 56) (base := w.heap.size) (ok := fun k_ => (True ∧ some k_ ≠ (.slice Ao35 y613.length co35 : Value).ownBlock)) (n := t616.length) (c := co38) ?_).2.2; exact (by (with_reducible repeat (first | apply Kd.R_alloc | apply Kd.R_drewN | apply Kd.R_drew)); exact (Kd.R_mono (Kd.R_far (p := ⟨gb620, 0, none⟩) (Kd.R_types HO618.out BK620.out (by decide)) (fun _ hk => hk.2) (.slice Ao38 t616.length co38)) (fun _ h_ => h_.1)))); (case side2 => exact (Kd.R_reads' HO618.out).2.1); rintro e w40 ⟨rfl, hb⟩; refine ⟨_, rfl, ?_⟩; have n0_ := Aside0.mk (Kd.R_below (by (with_reducible repeat (first | apply Kd.R_alloc | apply Kd.R_drewN | apply Kd.R_drew)); exact (Kd.R_mono (Kd.R_far (p := ⟨gb620, 0, none⟩) (Kd.R_types HO615.out BK620.out (by decide)) (fun _ hk => hk.2) (.slice Ao38 t616.length co38)) (fun _ h_ => h_.1))) hb); have n1_ := Aside0.mk (Kd.R_below (by (with_reducible repeat (first | apply Kd.R_alloc | apply Kd.R_drewN | apply Kd.R_drew)); exact (Kd.R_mono (Kd.R_far (p := ⟨gb620, 0, none⟩) (Kd.R_types HO618.out BK620.out (by decide)) (fun _ hk => hk.2) (.slice Ao38 t616.length co38)) (fun _ h_ => h_.1))) hb); have n2_ := Aside0.mk (blk_below (g := gb620) (o := .cells #[.slice Ao38 t616.length co38] 42 (0, 0)) (by (with_reducible repeat (first | refine blk_drewN ?_ _ | refine blk_drew ?_ | refine blk_alloc ?_ _)); refine blk_put (cs := #[.slice none 0 0]) ?_ 0 _ rfl; (with_reducible repeat (first | refine blk_drewN ?_ _ | refine blk_drew ?_ | refine blk_alloc ?_ _)); exact BK620.out) hb); have n3_ := Aside0.mk (below_step (by repeat (first | (with_reducible first | exact HB.out | apply below_alloc | apply pw_below_drewN | apply below_drew1 | refine below_set ?_ GE620.out) | exact HB.out)) hb); clear HO615; clear HO618; clear BK620; clear HB; have HO615 := n0_; have HO618 := n1_; have BK620 := n2_; have HB := n3_; clear n0_ n1_ n2_ n3_; (try clear hb); (try clear hb2); (try clear hk); (try clear hi); have hcz41_0 : w40.cell? ⟨gb620, 0, none⟩ = some (.slice Ao38 t616.length co38) := (blk_cell BK620.out 0).trans rfl; have hfz41_0 := blk_frozen BK620.out 0) | ((with_reducible refine gate_callee (f := 35) rfl ?_); refine goesL_ (some 22) rfl rfl Try.func35 (by kernel_rfl) rfl #[.agg #[.slice Ao38 t616.length co38], .int .i64 15] rfl (by (try simp only [List.map_toArray, List.map_cons, List.map_nil]); first | done | rfl | (simp only [List.length_drop, List.length_take]; rfl)) ?_; (with_reducible refine (intset_Nearest.calls k _ _ t616 15 t623 true _ ?side1 ?side2 A3.out).mono ?_); (case side1 => repeat (first | exact (Kd.R_reads' HO618.out).2.2 | (with_reducible refine Kd.C_alloc ?_ _) | (with_reducible refine Kd.C_drewN ?_ _) | (with_reducible refine Kd.C_drew ?_))); (case side2 => exact (Kd.R_reads' HO618.out).2.1); rintro e w42 ⟨rfl, hb⟩; refine ⟨_, rfl, ?_⟩; have n0_ := Aside0.mk (Kd.R_below (by (with_reducible repeat (first | apply Kd.R_alloc | apply Kd.R_drewN | apply Kd.R_drew)); exact HO615.out) hb); have n1_ := Aside0.mk (Kd.R_below (by (with_reducible repeat (first | apply Kd.R_alloc | apply Kd.R_drewN | apply Kd.R_drew)); exact HO618.out) hb); have n2_ := Aside0.mk (blk_below (g := gb620) (o := .cells #[.slice Ao38 t616.length co38] 42 (0, 0)) (by (with_reducible repeat (first | refine blk_drewN ?_ _ | refine blk_drew ?_ | refine blk_alloc ?_ _)); exact BK620.out) hb); have n3_ := Aside0.mk (below_step (by repeat (first | (with_reducible first | exact HB.out | apply below_alloc | apply pw_below_drewN | apply below_drew1 | refine below_set ?_ GE620.out) | exact HB.out)) hb); clear HO615; clear HO618; clear BK620; clear HB; have HO615 := n0_; have HO618 := n1_; have BK620 := n2_; have HB := n3_; clear n0_ n1_ n2_ n3_; (try clear hb); (try clear hb2); (try clear hk); (try clear hi); have hcz43_0 : w42.cell? ⟨gb620, 0, none⟩ = some (.slice Ao38 t616.length co38) := (blk_cell BK620.out 0).trans rfl; have hfz43_0 := blk_frozen BK620.out 0; have p625 : 0 ≤ (0 : Int) := (by omega); have q625 : 0 < (t616.length : Int) := of_decide_eq_true (by first | (with_reducible assumption) | assumption); obtain ⟨ad625, e625, hx625_0, hx625_1⟩ := at_T56 (Kd.R_reads' HO618.out).2.2 0 p625 q625; cases e625; have qi625 : (0 < t616.length) = True := eq_true (by omega); (try rw [show ((0 : Int)).toNat = 0 from rfl] at hx625_0); (try rw [show 0 * 2 = 0 from rfl] at hx625_0); (try rw [Addr.add_zero'] at hx625_0); (try rw [show ((0 : Int)).toNat = 0 from rfl] at hx625_1); (try rw [show 0 * 2 = 0 from rfl] at hx625_1); (try rw [Addr.add_zero'] at hx625_1); replace p625 := eq_true p625; replace q625 := eq_true q625) | (go_at_call 30; (with_reducible refine (intset_Valid.calls k _ _ t616 true _ ?side1 ?side2 A12.out).mono ?_); (case side1 => repeat (first | exact (Kd.R_reads' HO618.out).2.2 | (with_reducible refine Kd.C_alloc ?_ _) | (with_reducible refine Kd.C_drewN ?_ _) | (with_reducible refine Kd.C_drew ?_))); (case side2 => exact (Kd.R_reads' HO618.out).2.1); rintro e w44 ⟨rfl, hb⟩; have n0_ := Aside0.mk (Kd.R_below (by (with_reducible repeat (first | apply Kd.R_alloc | apply Kd.R_drewN | apply Kd.R_drew)); exact HO615.out) hb); have n1_ := Aside0.mk (Kd.R_below (by (with_reducible repeat (first | apply Kd.R_alloc | apply Kd.R_drewN | apply Kd.R_drew)); exact HO618.out) hb); have n2_ := Aside0.mk (blk_below (g := gb620) (o := .cells #[.slice (some ad625) t616.length co38] 42 (0, 0)) (by (with_reducible repeat (first | refine blk_drewN ?_ _ | refine blk_drew ?_ | refine blk_alloc ?_ _)); exact BK620.out) hb); have n3_ := Aside0.mk (below_step (by repeat (first | (with_reducible first | exact HB.out | apply below_alloc | apply pw_below_drewN | apply below_drew1 | refine below_set ?_ GE620.out) | exact HB.out)) hb); clear HO615; clear HO618; clear BK620; clear HB; have HO615 := n0_; have HO618 := n1_; have BK620 := n2_; have HB := n3_; clear n0_ n1_ n2_ n3_; (try clear hb); (try clear hb2); (try clear hk); (try clear hi); have hcz45_0 : w44.cell? ⟨gb620, 0, none⟩ = some (.slice (some ad625) t616.length co38) := (blk_cell BK620.out 0).trans rfl; have hfz45_0 := blk_frozen BK620.out 0) | (go_at_call 32; (with_reducible refine (intset_Has.calls k _ _ t616 20 false _ ?side1 ?side2 A14.out).mono ?_); (case side1 => repeat (first | exact (Kd.R_reads' HO618.out).2.2 | (with_reducible refine Kd.C_alloc ?_ _) | (with_reducible refine Kd.C_drewN ?_ _) | (with_reducible refine Kd.C_drew ?_))); (case side2 => exact (Kd.R_reads' HO618.out).2.1); rintro e w46 ⟨rfl, hb⟩; have n0_ := Aside0.mk (Kd.R_below (by (with_reducible repeat (first | apply Kd.R_alloc | apply Kd.R_drewN | apply Kd.R_drew)); exact HO615.out) hb); have n1_ := Aside0.mk (Kd.R_below (by (with_reducible repeat (first | apply Kd.R_alloc | apply Kd.R_drewN | apply Kd.R_drew)); exact HO618.out) hb); have n2_ := Aside0.mk (blk_below (g := gb620) (o := .cells #[.slice (some ad625) t616.length co38] 42 (0, 0)) (by (with_reducible repeat (first | refine blk_drewN ?_ _ | refine blk_drew ?_ | refine blk_alloc ?_ _)); exact BK620.out) hb); have n3_ := Aside0.mk (below_step (by repeat (first | (with_reducible first | exact HB.out | apply below_alloc | apply pw_below_drewN | apply below_drew1 | refine below_set ?_ GE620.out) | exact HB.out)) hb); clear HO615; clear HO618; clear BK620; clear HB; have HO615 := n0_; have HO618 := n1_; have BK620 := n2_; have HB := n3_; clear n0_ n1_ n2_ n3_; (try clear hb); (try clear hb2); (try clear hk); (try clear hi)))
                      go_ret
                      exact ⟨by first | rfl | (simp [errW_none, errW_some] <;> rfl) | (simp [*, errW_none, errW_some] <;> rfl), by repeat (first | (with_reducible first | exact HB.out | apply below_alloc | apply pw_below_drewN | apply below_drew1 | refine below_set ?_ GE620.out) | exact HB.out)⟩
                  · replace c13 := Bool.eq_false_iff.mpr c13
                    subst c13
                    have H1 : (some false) = some r := by rw [if_neg (show ¬ (false = true) by decide)] at H; exact H
                    clear H
                    have H := H1
                    clear H1
                    obtain rfl := Option.some.inj H
                    go_enter Try.func25, Try.ntmps25
                    go_wp2_with (first | ((with_reducible refine gate_dst (N := 11) rfl ?_); (try (refine gate_guard (by rfl) ?_; dsimp only)); refine Kd.R_lit k56 _ 56 ?hg (N := 11) ?hd (xs := ([(⟨5, 9⟩ : S56), (⟨1, 4⟩ : S56), (⟨20, 20⟩ : S56)] : List (S56))) (inner := [.int .i64 5, .int .i64 9, .int .i64 1, .int .i64 4, .int .i64 20, .int .i64 20]) (ok := fun _ => True) (okp := fun _ => True) ?hr ?hp (fun _ hk => hk) trivial (Below.refl _ _) (Nat.le_refl _) (by simp) ?_; (case hd => rfl); (case hg => rfl); (case hr => first | (go_simp; done) | (go_simp; rfl)); (case hp => exact (Reps.c2 (show Kd.M k56 _ _ _ (⟨5, 9⟩ : S56) [.int .i64 5, .int .i64 9] from (k56_mkM _ _ _ (⟨5, 9⟩ : S56) )) (Reps.c2 (show Kd.M k56 _ _ _ (⟨1, 4⟩ : S56) [.int .i64 1, .int .i64 4] from (k56_mkM _ _ _ (⟨1, 4⟩ : S56) )) (Reps.c2 (show Kd.M k56 _ _ _ (⟨20, 20⟩ : S56) [.int .i64 20, .int .i64 20] from (k56_mkM _ _ _ (⟨20, 20⟩ : S56) )) (Reps.none _ _))))); intro v614 w47 ho48 hb hg_ hnew_; clear hg_ hnew_; (first | rw [← Ny613.out] at ho48 | (simp only [Int.reduceToNat] at ho48; rw [← Ny613.out] at ho48)); have n0_ := Aside0.mk (Kd.R_lower ho48 (below_size (by repeat (first | (with_reducible first | exact HB.out | apply below_alloc | apply pw_below_drewN | apply below_drew1) | exact HB.out)))); have n1_ := Aside0.mk (below_step (by repeat (first | (with_reducible first | exact HB.out | apply below_alloc | apply pw_below_drewN | apply below_drew1) | exact HB.out)) hb); clear HB; have HO615 := n0_; have HB := n1_; clear n0_ n1_; clear hb ho48; obtain ⟨Ao49, co49, eo49⟩ := Kd.R_slice HO615.out; subst eo49) | ((with_reducible refine gate_callee (f := 27) rfl ?_); refine goesL_ (some 12) rfl rfl Try.func27 (by kernel_rfl) rfl #[.slice Ao49 y613.length co49] rfl (by (try simp only [List.map_toArray, List.map_cons, List.map_nil]); first | done | rfl | (simp only [List.length_drop, List.length_take]; rfl)) ?_; (with_reducible refine (intset_Make.calls k _ _ y613 t616 t619 _ ?side1 ?side2 A1.out).mono ?_); (case side1 => repeat (first | exact (Kd.R_reads' HO615.out).2.2 | (with_reducible refine Kd.C_alloc ?_ _) | (with_reducible refine Kd.C_drewN ?_ _) | (with_reducible refine Kd.C_drew ?_))); (case side2 => exact (Kd.R_reads' HO615.out).2.1); rintro e w50 ⟨v617, rfl, ho0, hb⟩; refine ⟨_, rfl, ?_⟩; have n0_ := Aside0.mk (Kd.R_elder' (by (with_reducible repeat (first | apply Kd.R_alloc | apply Kd.R_drewN | apply Kd.R_drew)); exact HO615.out) (Kd.R_base ho0) hb); have n1_ := Aside0.mk (Kd.R_lower (Kd.R_new' ho0 (Kd.R_lt (by (with_reducible repeat (first | apply Kd.R_alloc | apply Kd.R_drewN | apply Kd.R_drew)); exact HO615.out))) (below_size (by repeat (first | (with_reducible first | exact HB.out | apply below_alloc | apply pw_below_drewN | apply below_drew1) | exact HB.out)))); have n2_ := Aside0.mk (below_step (by repeat (first | (with_reducible first | exact HB.out | apply below_alloc | apply pw_below_drewN | apply below_drew1) | exact HB.out)) hb); clear HO615; clear HB; have HO615 := n0_; have HO618 := n1_; have HB := n2_; clear n0_ n1_ n2_; (try clear hb); (try clear hb2); (try clear hk); (try clear hi); (try clear ho0)) | ((with_reducible refine gate_dst (N := 1) rfl ?_); (try (refine gate_guard (by rfl) ?_; dsimp only)); refine box_event ?hg (N := 1) ?hd (cs := #[.slice none 0 0]) (t := 42) ?hr ?_; (case hd => rfl); (case hg => rfl); (case hr => first | (go_simp; done) | (go_simp; rfl)); intro gb620 hg w51 hbox hb; have n0_ := Aside0.mk (Kd.R_below (by (with_reducible repeat (first | apply Kd.R_alloc | apply Kd.R_drewN | apply Kd.R_drew)); exact HO615.out) hb); have n1_ := Aside0.mk (Kd.R_below (by (with_reducible repeat (first | apply Kd.R_alloc | apply Kd.R_drewN | apply Kd.R_drew)); exact HO618.out) hb); have n2_ := Aside0.mk (below_step (by repeat (first | (with_reducible first | exact HB.out | apply below_alloc | apply pw_below_drewN | apply below_drew1) | exact HB.out)) hb); have n3_ := Aside0.mk (hbox); have n4_ := Aside0.mk ((by rw [hg]; exact (below_size (by repeat (first | (with_reducible first | exact HB.out | apply below_alloc | apply pw_below_drewN | apply below_drew1) | exact HB.out))) : w.heap.size ≤ gb620)); have n5_ := Aside0.mk ((by rw [hg]; exact (below_size (by repeat (first | (with_reducible first | exact HB.out | apply below_alloc | apply pw_below_drewN | apply below_drew1) | exact HB.out))) : w.heap.size ≤ gb620)); clear HO615; clear HO618; clear HB; have HO615 := n0_; have HO618 := n1_; have HB := n2_; have BK620 := n3_; have GW620 := n4_; have GE620 := n5_; clear n0_ n1_ n2_ n3_ n4_ n5_; clear hb hbox hg; obtain ⟨Ao52, co52, eo52⟩ := Kd.R_slice HO618.out; subst eo52; have hcz53_0 : w51.cell? ⟨gb620, 0, none⟩ = some (.slice none 0 0) := (blk_cell BK620.out 0).trans rfl; have hfz53_0 := blk_frozen BK620.out 0) | ((with_reducible refine gate_callee (f := 35) rfl ?_); refine goesL_ (some 17) rfl rfl Try.func35 (by kernel_rfl) rfl #[.agg #[.slice Ao52 t616.length co52], .int .i64 14] rfl (by (try simp only [List.map_toArray, List.map_cons, List.map_nil]); first | done | rfl | (simp only [List.length_drop, List.length_take]; rfl)) ?_; (with_reducible refine (intset_Nearest.calls k _ _ t616 14 t621 true _ ?side1 ?side2 A2.out).mono ?_); (case side1 => refine (Kd.R_reads' (e := 56) (base := w.heap.size) (ok := fun k_ => (True ∧ some k_ ≠ (.slice Ao49 y613.length co49 : Value).ownBlock)) (n := t616.length) (c := co52) ?_).2.2; exact (by (with_reducible repeat (first | apply Kd.R_alloc | apply Kd.R_drewN | apply Kd.R_drew)); exact (Kd.R_mono (Kd.R_far (p := ⟨gb620, 0, none⟩) (Kd.R_types HO618.out BK620.out (by decide)) (fun _ hk => hk.2) (.slice Ao52 t616.length co52)) (fun _ h_ => h_.1)))); (case side2 => exact (Kd.R_reads' HO618.out).2.1); rintro e w54 ⟨rfl, hb⟩; refine ⟨_, rfl, ?_⟩; have n0_ := Aside0.mk (Kd.R_below (by (with_reducible repeat (first | apply Kd.R_alloc | apply Kd.R_drewN | apply Kd.R_drew)); exact (Kd.R_mono (Kd.R_far (p := ⟨gb620, 0, none⟩) (Kd.R_types HO615.out BK620.out (by decide)) (fun _ hk => hk.2) (.slice Ao52 t616.length co52)) (fun _ h_ => h_.1))) hb); have n1_ := Aside0.mk (Kd.R_below (by (with_reducible repeat (first | apply Kd.R_alloc | apply Kd.R_drewN | apply Kd.R_drew)); exact (Kd.R_mono (Kd.R_far (p := ⟨gb620, 0, none⟩) (Kd.R_types HO618.out BK620.out (by decide)) (fun _ hk => hk.2) (.slice Ao52 t616.length co52)) (fun _ h_ => h_.1))) hb); have n2_ := Aside0.mk (blk_below (g := gb620) (o := .cells #[.slice Ao52 t616.length co52] 42 (0, 0)) (by (with_reducible repeat (first | refine blk_drewN ?_ _ | refine blk_drew ?_ | refine blk_alloc ?_ _)); refine blk_put (cs := #[.slice none 0 0]) ?_ 0 _ rfl; (with_reducible repeat (first | refine blk_drewN ?_ _ | refine blk_drew ?_ | refine blk_alloc ?_ _)); exact BK620.out) hb); have n3_ := Aside0.mk (below_step (by repeat (first | (with_reducible first | exact HB.out | apply below_alloc | apply pw_below_drewN | apply below_drew1 | refine below_set ?_ GE620.out) | exact HB.out)) hb); clear HO615; clear HO618; clear BK620; clear HB; have HO615 := n0_; have HO618 := n1_; have BK620 := n2_; have HB := n3_; clear n0_ n1_ n2_ n3_; (try clear hb); (try clear hb2); (try clear hk); (try clear hi); have hcz55_0 : w54.cell? ⟨gb620, 0, none⟩ = some (.slice Ao52 t616.length co52) := (blk_cell BK620.out 0).trans rfl; have hfz55_0 := blk_frozen BK620.out 0) | ((with_reducible refine gate_callee (f := 35) rfl ?_); refine goesL_ (some 22) rfl rfl Try.func35 (by kernel_rfl) rfl #[.agg #[.slice Ao52 t616.length co52], .int .i64 15] rfl (by (try simp only [List.map_toArray, List.map_cons, List.map_nil]); first | done | rfl | (simp only [List.length_drop, List.length_take]; rfl)) ?_; (with_reducible refine (intset_Nearest.calls k _ _ t616 15 t623 true _ ?side1 ?side2 A3.out).mono ?_); (case side1 => repeat (first | exact (Kd.R_reads' HO618.out).2.2 | (with_reducible refine Kd.C_alloc ?_ _) | (with_reducible refine Kd.C_drewN ?_ _) | (with_reducible refine Kd.C_drew ?_))); (case side2 => exact (Kd.R_reads' HO618.out).2.1); rintro e w56 ⟨rfl, hb⟩; refine ⟨_, rfl, ?_⟩; have n0_ := Aside0.mk (Kd.R_below (by (with_reducible repeat (first | apply Kd.R_alloc | apply Kd.R_drewN | apply Kd.R_drew)); exact HO615.out) hb); have n1_ := Aside0.mk (Kd.R_below (by (with_reducible repeat (first | apply Kd.R_alloc | apply Kd.R_drewN | apply Kd.R_drew)); exact HO618.out) hb); have n2_ := Aside0.mk (blk_below (g := gb620) (o := .cells #[.slice Ao52 t616.length co52] 42 (0, 0)) (by (with_reducible repeat (first | refine blk_drewN ?_ _ | refine blk_drew ?_ | refine blk_alloc ?_ _)); exact BK620.out) hb); have n3_ := Aside0.mk (below_step (by repeat (first | (with_reducible first | exact HB.out | apply below_alloc | apply pw_below_drewN | apply below_drew1 | refine below_set ?_ GE620.out) | exact HB.out)) hb); clear HO615; clear HO618; clear BK620; clear HB; have HO615 := n0_; have HO618 := n1_; have BK620 := n2_; have HB := n3_; clear n0_ n1_ n2_ n3_; (try clear hb); (try clear hb2); (try clear hk); (try clear hi); have hcz57_0 : w56.cell? ⟨gb620, 0, none⟩ = some (.slice Ao52 t616.length co52) := (blk_cell BK620.out 0).trans rfl; have hfz57_0 := blk_frozen BK620.out 0; have p625 : 0 ≤ (0 : Int) := (by omega); have q625 : 0 < (t616.length : Int) := of_decide_eq_true (by first | (with_reducible assumption) | assumption); obtain ⟨ad625, e625, hx625_0, hx625_1⟩ := at_T56 (Kd.R_reads' HO618.out).2.2 0 p625 q625; cases e625; have qi625 : (0 < t616.length) = True := eq_true (by omega); (try rw [show ((0 : Int)).toNat = 0 from rfl] at hx625_0); (try rw [show 0 * 2 = 0 from rfl] at hx625_0); (try rw [Addr.add_zero'] at hx625_0); (try rw [show ((0 : Int)).toNat = 0 from rfl] at hx625_1); (try rw [show 0 * 2 = 0 from rfl] at hx625_1); (try rw [Addr.add_zero'] at hx625_1); replace p625 := eq_true p625; replace q625 := eq_true q625) | (go_at_call 30; (with_reducible refine (intset_Valid.calls k _ _ t616 false _ ?side1 ?side2 A12.out).mono ?_); (case side1 => repeat (first | exact (Kd.R_reads' HO618.out).2.2 | (with_reducible refine Kd.C_alloc ?_ _) | (with_reducible refine Kd.C_drewN ?_ _) | (with_reducible refine Kd.C_drew ?_))); (case side2 => exact (Kd.R_reads' HO618.out).2.1); rintro e w58 ⟨rfl, hb⟩; have n0_ := Aside0.mk (Kd.R_below (by (with_reducible repeat (first | apply Kd.R_alloc | apply Kd.R_drewN | apply Kd.R_drew)); exact HO615.out) hb); have n1_ := Aside0.mk (Kd.R_below (by (with_reducible repeat (first | apply Kd.R_alloc | apply Kd.R_drewN | apply Kd.R_drew)); exact HO618.out) hb); have n2_ := Aside0.mk (blk_below (g := gb620) (o := .cells #[.slice (some ad625) t616.length co52] 42 (0, 0)) (by (with_reducible repeat (first | refine blk_drewN ?_ _ | refine blk_drew ?_ | refine blk_alloc ?_ _)); exact BK620.out) hb); have n3_ := Aside0.mk (below_step (by repeat (first | (with_reducible first | exact HB.out | apply below_alloc | apply pw_below_drewN | apply below_drew1 | refine below_set ?_ GE620.out) | exact HB.out)) hb); clear HO615; clear HO618; clear BK620; clear HB; have HO615 := n0_; have HO618 := n1_; have BK620 := n2_; have HB := n3_; clear n0_ n1_ n2_ n3_; (try clear hb); (try clear hb2); (try clear hk); (try clear hi)))
                    go_ret
                    exact ⟨by first | rfl | (simp [errW_none, errW_some] <;> rfl) | (simp [*, errW_none, errW_some] <;> rfl), by repeat (first | (with_reducible first | exact HB.out | apply below_alloc | apply pw_below_drewN | apply below_drew1 | refine below_set ?_ GE620.out) | exact HB.out)⟩
                · rw [if_neg c11] at H
                  have c11b0 : (t623 == 20) = false := beq_eq_false_iff_ne.mpr c11
                  have c11b1 : (t623 != 20) = true := bne_iff_ne.mpr c11
                  obtain rfl := Option.some.inj H
                  go_enter Try.func25, Try.ntmps25
                  go_wp2_with (first | ((with_reducible refine gate_dst (N := 11) rfl ?_); (try (refine gate_guard (by rfl) ?_; dsimp only)); refine Kd.R_lit k56 _ 56 ?hg (N := 11) ?hd (xs := ([(⟨5, 9⟩ : S56), (⟨1, 4⟩ : S56), (⟨20, 20⟩ : S56)] : List (S56))) (inner := [.int .i64 5, .int .i64 9, .int .i64 1, .int .i64 4, .int .i64 20, .int .i64 20]) (ok := fun _ => True) (okp := fun _ => True) ?hr ?hp (fun _ hk => hk) trivial (Below.refl _ _) (Nat.le_refl _) (by simp) ?_; (case hd => rfl); (case hg => rfl); (case hr => first | (go_simp; done) | (go_simp; rfl)); (case hp => exact (Reps.c2 (show Kd.M k56 _ _ _ (⟨5, 9⟩ : S56) [.int .i64 5, .int .i64 9] from (k56_mkM _ _ _ (⟨5, 9⟩ : S56) )) (Reps.c2 (show Kd.M k56 _ _ _ (⟨1, 4⟩ : S56) [.int .i64 1, .int .i64 4] from (k56_mkM _ _ _ (⟨1, 4⟩ : S56) )) (Reps.c2 (show Kd.M k56 _ _ _ (⟨20, 20⟩ : S56) [.int .i64 20, .int .i64 20] from (k56_mkM _ _ _ (⟨20, 20⟩ : S56) )) (Reps.none _ _))))); intro v614 w59 ho60 hb hg_ hnew_; clear hg_ hnew_; (first | rw [← Ny613.out] at ho60 | (simp only [Int.reduceToNat] at ho60; rw [← Ny613.out] at ho60)); have n0_ := Aside0.mk (Kd.R_lower ho60 (below_size (by repeat (first | (with_reducible first | exact HB.out | apply below_alloc | apply pw_below_drewN | apply below_drew1) | exact HB.out)))); have n1_ := Aside0.mk (below_step (by repeat (first | (with_reducible first | exact HB.out | apply below_alloc | apply pw_below_drewN | apply below_drew1) | exact HB.out)) hb); clear HB; have HO615 := n0_; have HB := n1_; clear n0_ n1_; clear hb ho60; obtain ⟨Ao61, co61, eo61⟩ := Kd.R_slice HO615.out; subst eo61) | ((with_reducible refine gate_callee (f := 27) rfl ?_); refine goesL_ (some 12) rfl rfl Try.func27 (by kernel_rfl) rfl #[.slice Ao61 y613.length co61] rfl (by (try simp only [List.map_toArray, List.map_cons, List.map_nil]); first | done | rfl | (simp only [List.length_drop, List.length_take]; rfl)) ?_; (with_reducible refine (intset_Make.calls k _ _ y613 t616 t619 _ ?side1 ?side2 A1.out).mono ?_); (case side1 => repeat (first | exact (Kd.R_reads' HO615.out).2.2 | (with_reducible refine Kd.C_alloc ?_ _) | (with_reducible refine Kd.C_drewN ?_ _) | (with_reducible refine Kd.C_drew ?_))); (case side2 => exact (Kd.R_reads' HO615.out).2.1); rintro e w62 ⟨v617, rfl, ho0, hb⟩; refine ⟨_, rfl, ?_⟩; have n0_ := Aside0.mk (Kd.R_elder' (by (with_reducible repeat (first | apply Kd.R_alloc | apply Kd.R_drewN | apply Kd.R_drew)); exact HO615.out) (Kd.R_base ho0) hb); have n1_ := Aside0.mk (Kd.R_lower (Kd.R_new' ho0 (Kd.R_lt (by (with_reducible repeat (first | apply Kd.R_alloc | apply Kd.R_drewN | apply Kd.R_drew)); exact HO615.out))) (below_size (by repeat (first | (with_reducible first | exact HB.out | apply below_alloc | apply pw_below_drewN | apply below_drew1) | exact HB.out)))); have n2_ := Aside0.mk (below_step (by repeat (first | (with_reducible first | exact HB.out | apply below_alloc | apply pw_below_drewN | apply below_drew1) | exact HB.out)) hb); clear HO615; clear HB; have HO615 := n0_; have HO618 := n1_; have HB := n2_; clear n0_ n1_ n2_; (try clear hb); (try clear hb2); (try clear hk); (try clear hi); (try clear ho0)) | ((with_reducible refine gate_dst (N := 1) rfl ?_); (try (refine gate_guard (by rfl) ?_; dsimp only)); refine box_event ?hg (N := 1) ?hd (cs := #[.slice none 0 0]) (t := 42) ?hr ?_; (case hd => rfl); (case hg => rfl); (case hr => first | (go_simp; done) | (go_simp; rfl)); intro gb620 hg w63 hbox hb; have n0_ := Aside0.mk (Kd.R_below (by (with_reducible repeat (first | apply Kd.R_alloc | apply Kd.R_drewN | apply Kd.R_drew)); exact HO615.out) hb); have n1_ := Aside0.mk (Kd.R_below (by (with_reducible repeat (first | apply Kd.R_alloc | apply Kd.R_drewN | apply Kd.R_drew)); exact HO618.out) hb); have n2_ := Aside0.mk (below_step (by repeat (first | (with_reducible first | exact HB.out | apply below_alloc | apply pw_below_drewN | apply below_drew1) | exact HB.out)) hb); have n3_ := Aside0.mk (hbox); have n4_ := Aside0.mk ((by rw [hg]; exact (below_size (by repeat (first | (with_reducible first | exact HB.out | apply below_alloc | apply pw_below_drewN | apply below_drew1) | exact HB.out))) : w.heap.size ≤ gb620)); have n5_ := Aside0.mk ((by rw [hg]; exact (below_size (by repeat (first | (with_reducible first | exact HB.out | apply below_alloc | apply pw_below_drewN | apply below_drew1) | exact HB.out))) : w.heap.size ≤ gb620)); clear HO615; clear HO618; clear HB; have HO615 := n0_; have HO618 := n1_; have HB := n2_; have BK620 := n3_; have GW620 := n4_; have GE620 := n5_; clear n0_ n1_ n2_ n3_ n4_ n5_; clear hb hbox hg; obtain ⟨Ao64, co64, eo64⟩ := Kd.R_slice HO618.out; subst eo64; have hcz65_0 : w63.cell? ⟨gb620, 0, none⟩ = some (.slice none 0 0) := (blk_cell BK620.out 0).trans rfl; have hfz65_0 := blk_frozen BK620.out 0) | ((with_reducible refine gate_callee (f := 35) rfl ?_); refine goesL_ (some 17) rfl rfl Try.func35 (by kernel_rfl) rfl #[.agg #[.slice Ao64 t616.length co64], .int .i64 14] rfl (by (try simp only [List.map_toArray, List.map_cons, List.map_nil]); first | done | rfl | (simp only [List.length_drop, List.length_take]; rfl)) ?_; (with_reducible refine (intset_Nearest.calls k _ _ t616 14 t621 true _ ?side1 ?side2 A2.out).mono ?_); (case side1 => refine (Kd.R_reads' (e := 56) (base := w.heap.size) (ok := fun k_ => (True ∧ some k_ ≠ (.slice Ao61 y613.length co61 : Value).ownBlock)) (n := t616.length) (c := co64) ?_).2.2; exact (by (with_reducible repeat (first | apply Kd.R_alloc | apply Kd.R_drewN | apply Kd.R_drew)); exact (Kd.R_mono (Kd.R_far (p := ⟨gb620, 0, none⟩) (Kd.R_types HO618.out BK620.out (by decide)) (fun _ hk => hk.2) (.slice Ao64 t616.length co64)) (fun _ h_ => h_.1)))); (case side2 => exact (Kd.R_reads' HO618.out).2.1); rintro e w66 ⟨rfl, hb⟩; refine ⟨_, rfl, ?_⟩; have n0_ := Aside0.mk (Kd.R_below (by (with_reducible repeat (first | apply Kd.R_alloc | apply Kd.R_drewN | apply Kd.R_drew)); exact (Kd.R_mono (Kd.R_far (p := ⟨gb620, 0, none⟩) (Kd.R_types HO615.out BK620.out (by decide)) (fun _ hk => hk.2) (.slice Ao64 t616.length co64)) (fun _ h_ => h_.1))) hb); have n1_ := Aside0.mk (Kd.R_below (by (with_reducible repeat (first | apply Kd.R_alloc | apply Kd.R_drewN | apply Kd.R_drew)); exact (Kd.R_mono (Kd.R_far (p := ⟨gb620, 0, none⟩) (Kd.R_types HO618.out BK620.out (by decide)) (fun _ hk => hk.2) (.slice Ao64 t616.length co64)) (fun _ h_ => h_.1))) hb); have n2_ := Aside0.mk (blk_below (g := gb620) (o := .cells #[.slice Ao64 t616.length co64] 42 (0, 0)) (by (with_reducible repeat (first | refine blk_drewN ?_ _ | refine blk_drew ?_ | refine blk_alloc ?_ _)); refine blk_put (cs := #[.slice none 0 0]) ?_ 0 _ rfl; (with_reducible repeat (first | refine blk_drewN ?_ _ | refine blk_drew ?_ | refine blk_alloc ?_ _)); exact BK620.out) hb); have n3_ := Aside0.mk (below_step (by repeat (first | (with_reducible first | exact HB.out | apply below_alloc | apply pw_below_drewN | apply below_drew1 | refine below_set ?_ GE620.out) | exact HB.out)) hb); clear HO615; clear HO618; clear BK620; clear HB; have HO615 := n0_; have HO618 := n1_; have BK620 := n2_; have HB := n3_; clear n0_ n1_ n2_ n3_; (try clear hb); (try clear hb2); (try clear hk); (try clear hi); have hcz67_0 : w66.cell? ⟨gb620, 0, none⟩ = some (.slice Ao64 t616.length co64) := (blk_cell BK620.out 0).trans rfl; have hfz67_0 := blk_frozen BK620.out 0) | ((with_reducible refine gate_callee (f := 35) rfl ?_); refine goesL_ (some 22) rfl rfl Try.func35 (by kernel_rfl) rfl #[.agg #[.slice Ao64 t616.length co64], .int .i64 15] rfl (by (try simp only [List.map_toArray, List.map_cons, List.map_nil]); first | done | rfl | (simp only [List.length_drop, List.length_take]; rfl)) ?_; (with_reducible refine (intset_Nearest.calls k _ _ t616 15 t623 true _ ?side1 ?side2 A3.out).mono ?_); (case side1 => repeat (first | exact (Kd.R_reads' HO618.out).2.2 | (with_reducible refine Kd.C_alloc ?_ _) | (with_reducible refine Kd.C_drewN ?_ _) | (with_reducible refine Kd.C_drew ?_))); (case side2 => exact (Kd.R_reads' HO618.out).2.1); rintro e w68 ⟨rfl, hb⟩; refine ⟨_, rfl, ?_⟩; have n0_ := Aside0.mk (Kd.R_below (by (with_reducible repeat (first | apply Kd.R_alloc | apply Kd.R_drewN | apply Kd.R_drew)); exact HO615.out) hb); have n1_ := Aside0.mk (Kd.R_below (by (with_reducible repeat (first | apply Kd.R_alloc | apply Kd.R_drewN | apply Kd.R_drew)); exact HO618.out) hb); have n2_ := Aside0.mk (blk_below (g := gb620) (o := .cells #[.slice Ao64 t616.length co64] 42 (0, 0)) (by (with_reducible repeat (first | refine blk_drewN ?_ _ | refine blk_drew ?_ | refine blk_alloc ?_ _)); exact BK620.out) hb); have n3_ := Aside0.mk (below_step (by repeat (first | (with_reducible first | exact HB.out | apply below_alloc | apply pw_below_drewN | apply below_drew1 | refine below_set ?_ GE620.out) | exact HB.out)) hb); clear HO615; clear HO618; clear BK620; clear HB; have HO615 := n0_; have HO618 := n1_; have BK620 := n2_; have HB := n3_; clear n0_ n1_ n2_ n3_; (try clear hb); (try clear hb2); (try clear hk); (try clear hi); have hcz69_0 : w68.cell? ⟨gb620, 0, none⟩ = some (.slice Ao64 t616.length co64) := (blk_cell BK620.out 0).trans rfl; have hfz69_0 := blk_frozen BK620.out 0; have p625 : 0 ≤ (0 : Int) := (by omega); have q625 : 0 < (t616.length : Int) := of_decide_eq_true (by first | (with_reducible assumption) | assumption); obtain ⟨ad625, e625, hx625_0, hx625_1⟩ := at_T56 (Kd.R_reads' HO618.out).2.2 0 p625 q625; cases e625; have qi625 : (0 < t616.length) = True := eq_true (by omega); (try rw [show ((0 : Int)).toNat = 0 from rfl] at hx625_0); (try rw [show 0 * 2 = 0 from rfl] at hx625_0); (try rw [Addr.add_zero'] at hx625_0); (try rw [show ((0 : Int)).toNat = 0 from rfl] at hx625_1); (try rw [show 0 * 2 = 0 from rfl] at hx625_1); (try rw [Addr.add_zero'] at hx625_1); replace p625 := eq_true p625; replace q625 := eq_true q625))
                  go_ret
                  exact ⟨by first | rfl | (simp [errW_none, errW_some] <;> rfl) | (simp [*, errW_none, errW_some] <;> rfl), by repeat (first | (with_reducible first | exact HB.out | apply below_alloc | apply pw_below_drewN | apply below_drew1 | refine below_set ?_ GE620.out) | exact HB.out)⟩
              · rw [if_neg c10] at H
                have c10b0 : (t621 == 9) = false := beq_eq_false_iff_ne.mpr c10
                have c10b1 : (t621 != 9) = true := bne_iff_ne.mpr c10
                obtain rfl := Option.some.inj H
                go_enter Try.func25, Try.ntmps25
                go_wp2_with (first | ((with_reducible refine gate_dst (N := 11) rfl ?_); (try (refine gate_guard (by rfl) ?_; dsimp only)); refine Kd.R_lit k56 _ 56 ?hg (N := 11) ?hd (xs := ([(⟨5, 9⟩ : S56), (⟨1, 4⟩ : S56), (⟨20, 20⟩ : S56)] : List (S56))) (inner := [.int .i64 5, .int .i64 9, .int .i64 1, .int .i64 4, .int .i64 20, .int .i64 20]) (ok := fun _ => True) (okp := fun _ => True) ?hr ?hp (fun _ hk => hk) trivial (Below.refl _ _) (Nat.le_refl _) (by simp) ?_; (case hd => rfl); (case hg => rfl); (case hr => first | (go_simp; done) | (go_simp; rfl)); (case hp => exact (Reps.c2 (show Kd.M k56 _ _ _ (⟨5, 9⟩ : S56) [.int .i64 5, .int .i64 9] from (k56_mkM _ _ _ (⟨5, 9⟩ : S56) )) (Reps.c2 (show Kd.M k56 _ _ _ (⟨1, 4⟩ : S56) [.int .i64 1, .int .i64 4] from (k56_mkM _ _ _ (⟨1, 4⟩ : S56) )) (Reps.c2 (show Kd.M k56 _ _ _ (⟨20, 20⟩ : S56) [.int .i64 20, .int .i64 20] from (k56_mkM _ _ _ (⟨20, 20⟩ : S56) )) (Reps.none _ _))))); intro v614 w70 ho71 hb hg_ hnew_; clear hg_ hnew_; (first | rw [← Ny613.out] at ho71 | (simp only [Int.reduceToNat] at ho71; rw [← Ny613.out] at ho71)); have n0_ := Aside0.mk (Kd.R_lower ho71 (below_size (by repeat (first | (with_reducible first | exact HB.out | apply below_alloc | apply pw_below_drewN | apply below_drew1) | exact HB.out)))); have n1_ := Aside0.mk (below_step (by repeat (first | (with_reducible first | exact HB.out | apply below_alloc | apply pw_below_drewN | apply below_drew1) | exact HB.out)) hb); clear HB; have HO615 := n0_; have HB := n1_; clear n0_ n1_; clear hb ho71; obtain ⟨Ao72, co72, eo72⟩ := Kd.R_slice HO615.out; subst eo72) | ((with_reducible refine gate_callee (f := 27) rfl ?_); refine goesL_ (some 12) rfl rfl Try.func27 (by kernel_rfl) rfl #[.slice Ao72 y613.length co72] rfl (by (try simp only [List.map_toArray, List.map_cons, List.map_nil]); first | done | rfl | (simp only [List.length_drop, List.length_take]; rfl)) ?_; (with_reducible refine (intset_Make.calls k _ _ y613 t616 t619 _ ?side1 ?side2 A1.out).mono ?_); (case side1 => repeat (first | exact (Kd.R_reads' HO615.out).2.2 | (with_reducible refine Kd.C_alloc ?_ _) | (with_reducible refine Kd.C_drewN ?_ _) | (with_reducible refine Kd.C_drew ?_))); (case side2 => exact (Kd.R_reads' HO615.out).2.1); rintro e w73 ⟨v617, rfl, ho0, hb⟩; refine ⟨_, rfl, ?_⟩; have n0_ := Aside0.mk (Kd.R_elder' (by (with_reducible repeat (first | apply Kd.R_alloc | apply Kd.R_drewN | apply Kd.R_drew)); exact HO615.out) (Kd.R_base ho0) hb); have n1_ := Aside0.mk (Kd.R_lower (Kd.R_new' ho0 (Kd.R_lt (by (with_reducible repeat (first | apply Kd.R_alloc | apply Kd.R_drewN | apply Kd.R_drew)); exact HO615.out))) (below_size (by repeat (first | (with_reducible first | exact HB.out | apply below_alloc | apply pw_below_drewN | apply below_drew1) | exact HB.out)))); have n2_ := Aside0.mk (below_step (by repeat (first | (with_reducible first | exact HB.out | apply below_alloc | apply pw_below_drewN | apply below_drew1) | exact HB.out)) hb); clear HO615; clear HB; have HO615 := n0_; have HO618 := n1_; have HB := n2_; clear n0_ n1_ n2_; (try clear hb); (try clear hb2); (try clear hk); (try clear hi); (try clear ho0)) | ((with_reducible refine gate_dst (N := 1) rfl ?_); (try (refine gate_guard (by rfl) ?_; dsimp only)); refine box_event ?hg (N := 1) ?hd (cs := #[.slice none 0 0]) (t := 42) ?hr ?_; (case hd => rfl); (case hg => rfl); (case hr => first | (go_simp; done) | (go_simp; rfl)); intro gb620 hg w74 hbox hb; have n0_ := Aside0.mk (Kd.R_below (by (with_reducible repeat (first | apply Kd.R_alloc | apply Kd.R_drewN | apply Kd.R_drew)); exact HO615.out) hb); have n1_ := Aside0.mk (Kd.R_below (by (with_reducible repeat (first | apply Kd.R_alloc | apply Kd.R_drewN | apply Kd.R_drew)); exact HO618.out) hb); have n2_ := Aside0.mk (below_step (by repeat (first | (with_reducible first | exact HB.out | apply below_alloc | apply pw_below_drewN | apply below_drew1) | exact HB.out)) hb); have n3_ := Aside0.mk (hbox); have n4_ := Aside0.mk ((by rw [hg]; exact (below_size (by repeat (first | (with_reducible first | exact HB.out | apply below_alloc | apply pw_below_drewN | apply below_drew1) | exact HB.out))) : w.heap.size ≤ gb620)); have n5_ := Aside0.mk ((by rw [hg]; exact (below_size (by repeat (first | (with_reducible first | exact HB.out | apply below_alloc | apply pw_below_drewN | apply below_drew1) | exact HB.out))) : w.heap.size ≤ gb620)); clear HO615; clear HO618; clear HB; have HO615 := n0_; have HO618 := n1_; have HB := n2_; have BK620 := n3_; have GW620 := n4_; have GE620 := n5_; clear n0_ n1_ n2_ n3_ n4_ n5_; clear hb hbox hg; obtain ⟨Ao75, co75, eo75⟩ := Kd.R_slice HO618.out; subst eo75; have hcz76_0 : w74.cell? ⟨gb620, 0, none⟩ = some (.slice none 0 0) := (blk_cell BK620.out 0).trans rfl; have hfz76_0 := blk_frozen BK620.out 0) | ((with_reducible refine gate_callee (f := 35) rfl ?_); refine goesL_ (some 17) rfl rfl Try.func35 (by kernel_rfl) rfl #[.agg #[.slice Ao75 t616.length co75], .int .i64 14] rfl (by (try simp only [List.map_toArray, List.map_cons, List.map_nil]); first | done | rfl | (simp only [List.length_drop, List.length_take]; rfl)) ?_; (with_reducible refine (intset_Nearest.calls k _ _ t616 14 t621 true _ ?side1 ?side2 A2.out).mono ?_); (case side1 => refine (Kd.R_reads' (e := 56) (base := w.heap.size) (ok := fun k_ => (True ∧ some k_ ≠ (.slice Ao72 y613.length co72 : Value).ownBlock)) (n := t616.length) (c := co75) ?_).2.2; exact (by (with_reducible repeat (first | apply Kd.R_alloc | apply Kd.R_drewN | apply Kd.R_drew)); exact (Kd.R_mono (Kd.R_far (p := ⟨gb620, 0, none⟩) (Kd.R_types HO618.out BK620.out (by decide)) (fun _ hk => hk.2) (.slice Ao75 t616.length co75)) (fun _ h_ => h_.1)))); (case side2 => exact (Kd.R_reads' HO618.out).2.1); rintro e w77 ⟨rfl, hb⟩; refine ⟨_, rfl, ?_⟩; have n0_ := Aside0.mk (Kd.R_below (by (with_reducible repeat (first | apply Kd.R_alloc | apply Kd.R_drewN | apply Kd.R_drew)); exact (Kd.R_mono (Kd.R_far (p := ⟨gb620, 0, none⟩) (Kd.R_types HO615.out BK620.out (by decide)) (fun _ hk => hk.2) (.slice Ao75 t616.length co75)) (fun _ h_ => h_.1))) hb); have n1_ := Aside0.mk (Kd.R_below (by (with_reducible repeat (first | apply Kd.R_alloc | apply Kd.R_drewN | apply Kd.R_drew)); exact (Kd.R_mono (Kd.R_far (p := ⟨gb620, 0, none⟩) (Kd.R_types HO618.out BK620.out (by decide)) (fun _ hk => hk.2) (.slice Ao75 t616.length co75)) (fun _ h_ => h_.1))) hb); have n2_ := Aside0.mk (blk_below (g := gb620) (o := .cells #[.slice Ao75 t616.length co75] 42 (0, 0)) (by (with_reducible repeat (first | refine blk_drewN ?_ _ | refine blk_drew ?_ | refine blk_alloc ?_ _)); refine blk_put (cs := #[.slice none 0 0]) ?_ 0 _ rfl; (with_reducible repeat (first | refine blk_drewN ?_ _ | refine blk_drew ?_ | refine blk_alloc ?_ _)); exact BK620.out) hb); have n3_ := Aside0.mk (below_step (by repeat (first | (with_reducible first | exact HB.out | apply below_alloc | apply pw_below_drewN | apply below_drew1 | refine below_set ?_ GE620.out) | exact HB.out)) hb); clear HO615; clear HO618; clear BK620; clear HB; have HO615 := n0_; have HO618 := n1_; have BK620 := n2_; have HB := n3_; clear n0_ n1_ n2_ n3_; (try clear hb); (try clear hb2); (try clear hk); (try clear hi); have hcz78_0 : w77.cell? ⟨gb620, 0, none⟩ = some (.slice Ao75 t616.length co75) := (blk_cell BK620.out 0).trans rfl; have hfz78_0 := blk_frozen BK620.out 0) | ((with_reducible refine gate_callee (f := 35) rfl ?_); refine goesL_ (some 22) rfl rfl Try.func35 (by kernel_rfl) rfl #[.agg #[.slice Ao75 t616.length co75], .int .i64 15] rfl (by (try simp only [List.map_toArray, List.map_cons, List.map_nil]); first | done | rfl | (simp only [List.length_drop, List.length_take]; rfl)) ?_; (with_reducible refine (intset_Nearest.calls k _ _ t616 15 t623 true _ ?side1 ?side2 A3.out).mono ?_); (case side1 => repeat (first | exact (Kd.R_reads' HO618.out).2.2 | (with_reducible refine Kd.C_alloc ?_ _) | (with_reducible refine Kd.C_drewN ?_ _) | (with_reducible refine Kd.C_drew ?_))); (case side2 => exact (Kd.R_reads' HO618.out).2.1); rintro e w79 ⟨rfl, hb⟩; refine ⟨_, rfl, ?_⟩; have n0_ := Aside0.mk (Kd.R_below (by (with_reducible repeat (first | apply Kd.R_alloc | apply Kd.R_drewN | apply Kd.R_drew)); exact HO615.out) hb); have n1_ := Aside0.mk (Kd.R_below (by (with_reducible repeat (first | apply Kd.R_alloc | apply Kd.R_drewN | apply Kd.R_drew)); exact HO618.out) hb); have n2_ := Aside0.mk (blk_below (g := gb620) (o := .cells #[.slice Ao75 t616.length co75] 42 (0, 0)) (by (with_reducible repeat (first | refine blk_drewN ?_ _ | refine blk_drew ?_ | refine blk_alloc ?_ _)); exact BK620.out) hb); have n3_ := Aside0.mk (below_step (by repeat (first | (with_reducible first | exact HB.out | apply below_alloc | apply pw_below_drewN | apply below_drew1 | refine below_set ?_ GE620.out) | exact HB.out)) hb); clear HO615; clear HO618; clear BK620; clear HB; have HO615 := n0_; have HO618 := n1_; have BK620 := n2_; have HB := n3_; clear n0_ n1_ n2_ n3_; (try clear hb); (try clear hb2); (try clear hk); (try clear hi); have hcz80_0 : w79.cell? ⟨gb620, 0, none⟩ = some (.slice Ao75 t616.length co75) := (blk_cell BK620.out 0).trans rfl; have hfz80_0 := blk_frozen BK620.out 0; have p625 : 0 ≤ (0 : Int) := (by omega); have q625 : 0 < (t616.length : Int) := of_decide_eq_true (by first | (with_reducible assumption) | assumption); obtain ⟨ad625, e625, hx625_0, hx625_1⟩ := at_T56 (Kd.R_reads' HO618.out).2.2 0 p625 q625; cases e625; have qi625 : (0 < t616.length) = True := eq_true (by omega); (try rw [show ((0 : Int)).toNat = 0 from rfl] at hx625_0); (try rw [show 0 * 2 = 0 from rfl] at hx625_0); (try rw [Addr.add_zero'] at hx625_0); (try rw [show ((0 : Int)).toNat = 0 from rfl] at hx625_1); (try rw [show 0 * 2 = 0 from rfl] at hx625_1); (try rw [Addr.add_zero'] at hx625_1); replace p625 := eq_true p625; replace q625 := eq_true q625))
                go_ret
                exact ⟨by first | rfl | (simp [errW_none, errW_some] <;> rfl) | (simp [*, errW_none, errW_some] <;> rfl), by repeat (first | (with_reducible first | exact HB.out | apply below_alloc | apply pw_below_drewN | apply below_drew1 | refine below_set ?_ GE620.out) | exact HB.out)⟩
            · replace c9 := Bool.eq_false_iff.mpr c9
              subst c9
              have H1 : (some false) = some r := by rw [if_neg (show ¬ (false = true) by decide)] at H; exact H
              clear H
              have H := H1
              clear H1
              obtain rfl := Option.some.inj H
              go_enter Try.func25, Try.ntmps25
              go_wp2_with (first | ((with_reducible refine gate_dst (N := 11) rfl ?_); (try (refine gate_guard (by rfl) ?_; dsimp only)); refine Kd.R_lit k56 _ 56 ?hg (N := 11) ?hd (xs := ([(⟨5, 9⟩ : S56), (⟨1, 4⟩ : S56), (⟨20, 20⟩ : S56)] : List (S56))) (inner := [.int .i64 5, .int .i64 9, .int .i64 1, .int .i64 4, .int .i64 20, .int .i64 20]) (ok := fun _ => True) (okp := fun _ => True) ?hr ?hp (fun _ hk => hk) trivial (Below.refl _ _) (Nat.le_refl _) (by simp) ?_; (case hd => rfl); (case hg => rfl); (case hr => first | (go_simp; done) | (go_simp; rfl)); (case hp => exact (Reps.c2 (show Kd.M k56 _ _ _ (⟨5, 9⟩ : S56) [.int .i64 5, .int .i64 9] from (k56_mkM _ _ _ (⟨5, 9⟩ : S56) )) (Reps.c2 (show Kd.M k56 _ _ _ (⟨1, 4⟩ : S56) [.int .i64 1, .int .i64 4] from (k56_mkM _ _ _ (⟨1, 4⟩ : S56) )) (Reps.c2 (show Kd.M k56 _ _ _ (⟨20, 20⟩ : S56) [.int .i64 20, .int .i64 20] from (k56_mkM _ _ _ (⟨20, 20⟩ : S56) )) (Reps.none _ _))))); intro v614 w81 ho82 hb hg_ hnew_; clear hg_ hnew_; (first | rw [← Ny613.out] at ho82 | (simp only [Int.reduceToNat] at ho82; rw [← Ny613.out] at ho82)); have n0_ := Aside0.mk (Kd.R_lower ho82 (below_size (by repeat (first | (with_reducible first | exact HB.out | apply below_alloc | apply pw_below_drewN | apply below_drew1) | exact HB.out)))); have n1_ := Aside0.mk (below_step (by repeat (first | (with_reducible first | exact HB.out | apply below_alloc | apply pw_below_drewN | apply below_drew1) | exact HB.out)) hb); clear HB; have HO615 := n0_; have HB := n1_; clear n0_ n1_; clear hb ho82; obtain ⟨Ao83, co83, eo83⟩ := Kd.R_slice HO615.out; subst eo83) | ((with_reducible refine gate_callee (f := 27) rfl ?_); refine goesL_ (some 12) rfl rfl Try.func27 (by kernel_rfl) rfl #[.slice Ao83 y613.length co83] rfl (by (try simp only [List.map_toArray, List.map_cons, List.map_nil]); first | done | rfl | (simp only [List.length_drop, List.length_take]; rfl)) ?_; (with_reducible refine (intset_Make.calls k _ _ y613 t616 t619 _ ?side1 ?side2 A1.out).mono ?_); (case side1 => repeat (first | exact (Kd.R_reads' HO615.out).2.2 | (with_reducible refine Kd.C_alloc ?_ _) | (with_reducible refine Kd.C_drewN ?_ _) | (with_reducible refine Kd.C_drew ?_))); (case side2 => exact (Kd.R_reads' HO615.out).2.1); rintro e w84 ⟨v617, rfl, ho0, hb⟩; refine ⟨_, rfl, ?_⟩; have n0_ := Aside0.mk (Kd.R_elder' (by (with_reducible repeat (first | apply Kd.R_alloc | apply Kd.R_drewN | apply Kd.R_drew)); exact HO615.out) (Kd.R_base ho0) hb); have n1_ := Aside0.mk (Kd.R_lower (Kd.R_new' ho0 (Kd.R_lt (by (with_reducible repeat (first | apply Kd.R_alloc | apply Kd.R_drewN | apply Kd.R_drew)); exact HO615.out))) (below_size (by repeat (first | (with_reducible first | exact HB.out | apply below_alloc | apply pw_below_drewN | apply below_drew1) | exact HB.out)))); have n2_ := Aside0.mk (below_step (by repeat (first | (with_reducible first | exact HB.out | apply below_alloc | apply pw_below_drewN | apply below_drew1) | exact HB.out)) hb); clear HO615; clear HB; have HO615 := n0_; have HO618 := n1_; have HB := n2_; clear n0_ n1_ n2_; (try clear hb); (try clear hb2); (try clear hk); (try clear hi); (try clear ho0)) | ((with_reducible refine gate_dst (N := 1) rfl ?_); (try (refine gate_guard (by rfl) ?_; dsimp only)); refine box_event ?hg (N := 1) ?hd (cs := #[.slice none 0 0]) (t := 42) ?hr ?_; (case hd => rfl); (case hg => rfl); (case hr => first | (go_simp; done) | (go_simp; rfl)); intro gb620 hg w85 hbox hb; have n0_ := Aside0.mk (Kd.R_below (by (with_reducible repeat (first | apply Kd.R_alloc | apply Kd.R_drewN | apply Kd.R_drew)); exact HO615.out) hb); have n1_ := Aside0.mk (Kd.R_below (by (with_reducible repeat (first | apply Kd.R_alloc | apply Kd.R_drewN | apply Kd.R_drew)); exact HO618.out) hb); have n2_ := Aside0.mk (below_step (by repeat (first | (with_reducible first | exact HB.out | apply below_alloc | apply pw_below_drewN | apply below_drew1) | exact HB.out)) hb); have n3_ := Aside0.mk (hbox); have n4_ := Aside0.mk ((by rw [hg]; exact (below_size (by repeat (first | (with_reducible first | exact HB.out | apply below_alloc | apply pw_below_drewN | apply below_drew1) | exact HB.out))) : w.heap.size ≤ gb620)); have n5_ := Aside0.mk ((by rw [hg]; exact (below_size (by repeat (first | (with_reducible first | exact HB.out | apply below_alloc | apply pw_below_drewN | apply below_drew1) | exact HB.out))) : w.heap.size ≤ gb620)); clear HO615; clear HO618; clear HB; have HO615 := n0_; have HO618 := n1_; have HB := n2_; have BK620 := n3_; have GW620 := n4_; have GE620 := n5_; clear n0_ n1_ n2_ n3_ n4_ n5_; clear hb hbox hg; obtain ⟨Ao86, co86, eo86⟩ := Kd.R_slice HO618.out; subst eo86; have hcz87_0 : w85.cell? ⟨gb620, 0, none⟩ = some (.slice none 0 0) := (blk_cell BK620.out 0).trans rfl; have hfz87_0 := blk_frozen BK620.out 0) | ((with_reducible refine gate_callee (f := 35) rfl ?_); refine goesL_ (some 17) rfl rfl Try.func35 (by kernel_rfl) rfl #[.agg #[.slice Ao86 t616.length co86], .int .i64 14] rfl (by (try simp only [List.map_toArray, List.map_cons, List.map_nil]); first | done | rfl | (simp only [List.length_drop, List.length_take]; rfl)) ?_; (with_reducible refine (intset_Nearest.calls k _ _ t616 14 t621 true _ ?side1 ?side2 A2.out).mono ?_); (case side1 => refine (Kd.R_reads' (e := 56) (base := w.heap.size) (ok := fun k_ => (True ∧ some k_ ≠ (.slice Ao83 y613.length co83 : Value).ownBlock)) (n := t616.length) (c := co86) ?_).2.2; exact (by (with_reducible repeat (first | apply Kd.R_alloc | apply Kd.R_drewN | apply Kd.R_drew)); exact (Kd.R_mono (Kd.R_far (p := ⟨gb620, 0, none⟩) (Kd.R_types HO618.out BK620.out (by decide)) (fun _ hk => hk.2) (.slice Ao86 t616.length co86)) (fun _ h_ => h_.1)))); (case side2 => exact (Kd.R_reads' HO618.out).2.1); rintro e w88 ⟨rfl, hb⟩; refine ⟨_, rfl, ?_⟩; have n0_ := Aside0.mk (Kd.R_below (by (with_reducible repeat (first | apply Kd.R_alloc | apply Kd.R_drewN | apply Kd.R_drew)); exact (Kd.R_mono (Kd.R_far (p := ⟨gb620, 0, none⟩) (Kd.R_types HO615.out BK620.out (by decide)) (fun _ hk => hk.2) (.slice Ao86 t616.length co86)) (fun _ h_ => h_.1))) hb); have n1_ := Aside0.mk (Kd.R_below (by (with_reducible repeat (first | apply Kd.R_alloc | apply Kd.R_drewN | apply Kd.R_drew)); exact (Kd.R_mono (Kd.R_far (p := ⟨gb620, 0, none⟩) (Kd.R_types HO618.out BK620.out (by decide)) (fun _ hk => hk.2) (.slice Ao86 t616.length co86)) (fun _ h_ => h_.1))) hb); have n2_ := Aside0.mk (blk_below (g := gb620) (o := .cells #[.slice Ao86 t616.length co86] 42 (0, 0)) (by (with_reducible repeat (first | refine blk_drewN ?_ _ | refine blk_drew ?_ | refine blk_alloc ?_ _)); refine blk_put (cs := #[.slice none 0 0]) ?_ 0 _ rfl; (with_reducible repeat (first | refine blk_drewN ?_ _ | refine blk_drew ?_ | refine blk_alloc ?_ _)); exact BK620.out) hb); have n3_ := Aside0.mk (below_step (by repeat (first | (with_reducible first | exact HB.out | apply below_alloc | apply pw_below_drewN | apply below_drew1 | refine below_set ?_ GE620.out) | exact HB.out)) hb); clear HO615; clear HO618; clear BK620; clear HB; have HO615 := n0_; have HO618 := n1_; have BK620 := n2_; have HB := n3_; clear n0_ n1_ n2_ n3_; (try clear hb); (try clear hb2); (try clear hk); (try clear hi); have hcz89_0 : w88.cell? ⟨gb620, 0, none⟩ = some (.slice Ao86 t616.length co86) := (blk_cell BK620.out 0).trans rfl; have hfz89_0 := blk_frozen BK620.out 0) | ((with_reducible refine gate_callee (f := 35) rfl ?_); refine goesL_ (some 22) rfl rfl Try.func35 (by kernel_rfl) rfl #[.agg #[.slice Ao86 t616.length co86], .int .i64 15] rfl (by (try simp only [List.map_toArray, List.map_cons, List.map_nil]); first | done | rfl | (simp only [List.length_drop, List.length_take]; rfl)) ?_; (with_reducible refine (intset_Nearest.calls k _ _ t616 15 t623 false _ ?side1 ?side2 A3.out).mono ?_); (case side1 => repeat (first | exact (Kd.R_reads' HO618.out).2.2 | (with_reducible refine Kd.C_alloc ?_ _) | (with_reducible refine Kd.C_drewN ?_ _) | (with_reducible refine Kd.C_drew ?_))); (case side2 => exact (Kd.R_reads' HO618.out).2.1); rintro e w90 ⟨rfl, hb⟩; refine ⟨_, rfl, ?_⟩; have n0_ := Aside0.mk (Kd.R_below (by (with_reducible repeat (first | apply Kd.R_alloc | apply Kd.R_drewN | apply Kd.R_drew)); exact HO615.out) hb); have n1_ := Aside0.mk (Kd.R_below (by (with_reducible repeat (first | apply Kd.R_alloc | apply Kd.R_drewN | apply Kd.R_drew)); exact HO618.out) hb); have n2_ := Aside0.mk (blk_below (g := gb620) (o := .cells #[.slice Ao86 t616.length co86] 42 (0, 0)) (by (with_reducible repeat (first | refine blk_drewN ?_ _ | refine blk_drew ?_ | refine blk_alloc ?_ _)); exact BK620.out) hb); have n3_ := Aside0.mk (below_step (by repeat (first | (with_reducible first | exact HB.out | apply below_alloc | apply pw_below_drewN | apply below_drew1 | refine below_set ?_ GE620.out) | exact HB.out)) hb); clear HO615; clear HO618; clear BK620; clear HB; have HO615 := n0_; have HO618 := n1_; have BK620 := n2_; have HB := n3_; clear n0_ n1_ n2_ n3_; (try clear hb); (try clear hb2); (try clear hk); (try clear hi); have hcz91_0 : w90.cell? ⟨gb620, 0, none⟩ = some (.slice Ao86 t616.length co86) := (blk_cell BK620.out 0).trans rfl; have hfz91_0 := blk_frozen BK620.out 0; have p625 : 0 ≤ (0 : Int) := (by omega); have q625 : 0 < (t616.length : Int) := of_decide_eq_true (by first | (with_reducible assumption) | assumption); obtain ⟨ad625, e625, hx625_0, hx625_1⟩ := at_T56 (Kd.R_reads' HO618.out).2.2 0 p625 q625; cases e625; have qi625 : (0 < t616.length) = True := eq_true (by omega); (try rw [show ((0 : Int)).toNat = 0 from rfl] at hx625_0); (try rw [show 0 * 2 = 0 from rfl] at hx625_0); (try rw [Addr.add_zero'] at hx625_0); (try rw [show ((0 : Int)).toNat = 0 from rfl] at hx625_1); (try rw [show 0 * 2 = 0 from rfl] at hx625_1); (try rw [Addr.add_zero'] at hx625_1); replace p625 := eq_true p625; replace q625 := eq_true q625))
              go_ret
              exact ⟨by first | rfl | (simp [errW_none, errW_some] <;> rfl) | (simp [*, errW_none, errW_some] <;> rfl), by repeat (first | (with_reducible first | exact HB.out | apply below_alloc | apply pw_below_drewN | apply below_drew1 | refine below_set ?_ GE620.out) | exact HB.out)⟩
          · replace c8 := Bool.eq_false_iff.mpr c8
            subst c8
            have H1 : (some false) = some r := by rw [if_neg (show ¬ (false = true) by decide)] at H; exact H
            clear H
            have H := H1
            clear H1
            obtain rfl := Option.some.inj H
            go_enter Try.func25, Try.ntmps25
            go_wp2_with (first | ((with_reducible refine gate_dst (N := 11) rfl ?_); (try (refine gate_guard (by rfl) ?_; dsimp only)); refine Kd.R_lit k56 _ 56 ?hg (N := 11) ?hd (xs := ([(⟨5, 9⟩ : S56), (⟨1, 4⟩ : S56), (⟨20, 20⟩ : S56)] : List (S56))) (inner := [.int .i64 5, .int .i64 9, .int .i64 1, .int .i64 4, .int .i64 20, .int .i64 20]) (ok := fun _ => True) (okp := fun _ => True) ?hr ?hp (fun _ hk => hk) trivial (Below.refl _ _) (Nat.le_refl _) (by simp) ?_; (case hd => rfl); (case hg => rfl); (case hr => first | (go_simp; done) | (go_simp; rfl)); (case hp => exact (Reps.c2 (show Kd.M k56 _ _ _ (⟨5, 9⟩ : S56) [.int .i64 5, .int .i64 9] from (k56_mkM _ _ _ (⟨5, 9⟩ : S56) )) (Reps.c2 (show Kd.M k56 _ _ _ (⟨1, 4⟩ : S56) [.int .i64 1, .int .i64 4] from (k56_mkM _ _ _ (⟨1, 4⟩ : S56) )) (Reps.c2 (show Kd.M k56 _ _ _ (⟨20, 20⟩ : S56) [.int .i64 20, .int .i64 20] from (k56_mkM _ _ _ (⟨20, 20⟩ : S56) )) (Reps.none _ _))))); intro v614 w92 ho93 hb hg_ hnew_; clear hg_ hnew_; (first | rw [← Ny613.out] at ho93 | (simp only [Int.reduceToNat] at ho93; rw [← Ny613.out] at ho93)); have n0_ := Aside0.mk (Kd.R_lower ho93 (below_size (by repeat (first | (with_reducible first | exact HB.out | apply below_alloc | apply pw_below_drewN | apply below_drew1) | exact HB.out)))); have n1_ := Aside0.mk (below_step (by repeat (first | (with_reducible first | exact HB.out | apply below_alloc | apply pw_below_drewN | apply below_drew1) | exact HB.out)) hb); clear HB; have HO615 := n0_; have HB := n1_; clear n0_ n1_; clear hb ho93; obtain ⟨Ao94, co94, eo94⟩ := Kd.R_slice HO615.out; subst eo94) | ((with_reducible refine gate_callee (f := 27) rfl ?_); refine goesL_ (some 12) rfl rfl Try.func27 (by kernel_rfl) rfl #[.slice Ao94 y613.length co94] rfl (by (try simp only [List.map_toArray, List.map_cons, List.map_nil]); first | done | rfl | (simp only [List.length_drop, List.length_take]; rfl)) ?_; (with_reducible refine (intset_Make.calls k _ _ y613 t616 t619 _ ?side1 ?side2 A1.out).mono ?_); (case side1 => repeat (first | exact (Kd.R_reads' HO615.out).2.2 | (with_reducible refine Kd.C_alloc ?_ _) | (with_reducible refine Kd.C_drewN ?_ _) | (with_reducible refine Kd.C_drew ?_))); (case side2 => exact (Kd.R_reads' HO615.out).2.1); rintro e w95 ⟨v617, rfl, ho0, hb⟩; refine ⟨_, rfl, ?_⟩; have n0_ := Aside0.mk (Kd.R_elder' (by (with_reducible repeat (first | apply Kd.R_alloc | apply Kd.R_drewN | apply Kd.R_drew)); exact HO615.out) (Kd.R_base ho0) hb); have n1_ := Aside0.mk (Kd.R_lower (Kd.R_new' ho0 (Kd.R_lt (by (with_reducible repeat (first | apply Kd.R_alloc | apply Kd.R_drewN | apply Kd.R_drew)); exact HO615.out))) (below_size (by repeat (first | (with_reducible first | exact HB.out | apply below_alloc | apply pw_below_drewN | apply below_drew1) | exact HB.out)))); have n2_ := Aside0.mk (below_step (by repeat (first | (with_reducible first | exact HB.out | apply below_alloc | apply pw_below_drewN | apply below_drew1) | exact HB.out)) hb); clear HO615; clear HB; have HO615 := n0_; have HO618 := n1_; have HB := n2_; clear n0_ n1_ n2_; (try clear hb); (try clear hb2); (try clear hk); (try clear hi); (try clear ho0)) | ((with_reducible refine gate_dst (N := 1) rfl ?_); (try (refine gate_guard (by rfl) ?_; dsimp only)); refine box_event ?hg (N := 1) ?hd (cs := #[.slice none 0 0]) (t := 42) ?hr ?_; (case hd => rfl); (case hg => rfl); (case hr => first | (go_simp; done) | (go_simp; rfl)); intro gb620 hg w96 hbox hb; have n0_ := Aside0.mk (Kd.R_below (by (with_reducible repeat (first | apply Kd.R_alloc | apply Kd.R_drewN | apply Kd.R_drew)); exact HO615.out) hb); have n1_ := Aside0.mk (Kd.R_below (by (with_reducible repeat (first | apply Kd.R_alloc | apply Kd.R_drewN | apply Kd.R_drew)); exact HO618.out) hb); have n2_ := Aside0.mk (below_step (by repeat (first | (with_reducible first | exact HB.out | apply below_alloc | apply pw_below_drewN | apply below_drew1) | exact HB.out)) hb); have n3_ := Aside0.mk (hbox); have n4_ := Aside0.mk ((by rw [hg]; exact (below_size (by repeat (first | (with_reducible first | exact HB.out | apply below_alloc | apply pw_below_drewN | apply below_drew1) | exact HB.out))) : w.heap.size ≤ gb620)); have n5_ := Aside0.mk ((by rw [hg]; exact (below_size (by repeat (first | (with_reducible first | exact HB.out | apply below_alloc | apply pw_below_drewN | apply below_drew1) | exact HB.out))) : w.heap.size ≤ gb620)); clear HO615; clear HO618; clear HB; have HO615 := n0_; have HO618 := n1_; have HB := n2_; have BK620 := n3_; have GW620 := n4_; have GE620 := n5_; clear n0_ n1_ n2_ n3_ n4_ n5_; clear hb hbox hg; obtain ⟨Ao97, co97, eo97⟩ := Kd.R_slice HO618.out; subst eo97; have hcz98_0 : w96.cell? ⟨gb620, 0, none⟩ = some (.slice none 0 0) := (blk_cell BK620.out 0).trans rfl; have hfz98_0 := blk_frozen BK620.out 0) | ((with_reducible refine gate_callee (f := 35) rfl ?_); refine goesL_ (some 17) rfl rfl Try.func35 (by kernel_rfl) rfl #[.agg #[.slice Ao97 t616.length co97], .int .i64 14] rfl (by (try simp only [List.map_toArray, List.map_cons, List.map_nil]); first | done | rfl | (simp only [List.length_drop, List.length_take]; rfl)) ?_; (with_reducible refine (intset_Nearest.calls k _ _ t616 14 t621 false _ ?side1 ?side2 A2.out).mono ?_); (case side1 => refine (Kd.R_reads' (e := 56) (base := w.heap.size) (ok := fun k_ => (True ∧ some k_ ≠ (.slice Ao94 y613.length co94 : Value).ownBlock)) (n := t616.length) (c := co97) ?_).2.2; exact (by (with_reducible repeat (first | apply Kd.R_alloc | apply Kd.R_drewN | apply Kd.R_drew)); exact (Kd.R_mono (Kd.R_far (p := ⟨gb620, 0, none⟩) (Kd.R_types HO618.out BK620.out (by decide)) (fun _ hk => hk.2) (.slice Ao97 t616.length co97)) (fun _ h_ => h_.1)))); (case side2 => exact (Kd.R_reads' HO618.out).2.1); rintro e w99 ⟨rfl, hb⟩; refine ⟨_, rfl, ?_⟩; have n0_ := Aside0.mk (Kd.R_below (by (with_reducible repeat (first | apply Kd.R_alloc | apply Kd.R_drewN | apply Kd.R_drew)); exact (Kd.R_mono (Kd.R_far (p := ⟨gb620, 0, none⟩) (Kd.R_types HO615.out BK620.out (by decide)) (fun _ hk => hk.2) (.slice Ao97 t616.length co97)) (fun _ h_ => h_.1))) hb); have n1_ := Aside0.mk (Kd.R_below (by (with_reducible repeat (first | apply Kd.R_alloc | apply Kd.R_drewN | apply Kd.R_drew)); exact (Kd.R_mono (Kd.R_far (p := ⟨gb620, 0, none⟩) (Kd.R_types HO618.out BK620.out (by decide)) (fun _ hk => hk.2) (.slice Ao97 t616.length co97)) (fun _ h_ => h_.1))) hb); have n2_ := Aside0.mk (blk_below (g := gb620) (o := .cells #[.slice Ao97 t616.length co97] 42 (0, 0)) (by (with_reducible repeat (first | refine blk_drewN ?_ _ | refine blk_drew ?_ | refine blk_alloc ?_ _)); refine blk_put (cs := #[.slice none 0 0]) ?_ 0 _ rfl; (with_reducible repeat (first | refine blk_drewN ?_ _ | refine blk_drew ?_ | refine blk_alloc ?_ _)); exact BK620.out) hb); have n3_ := Aside0.mk (below_step (by repeat (first | (with_reducible first | exact HB.out | apply below_alloc | apply pw_below_drewN | apply below_drew1 | refine below_set ?_ GE620.out) | exact HB.out)) hb); clear HO615; clear HO618; clear BK620; clear HB; have HO615 := n0_; have HO618 := n1_; have BK620 := n2_; have HB := n3_; clear n0_ n1_ n2_ n3_; (try clear hb); (try clear hb2); (try clear hk); (try clear hi); have hcz100_0 : w99.cell? ⟨gb620, 0, none⟩ = some (.slice Ao97 t616.length co97) := (blk_cell BK620.out 0).trans rfl; have hfz100_0 := blk_frozen BK620.out 0) | ((with_reducible refine gate_callee (f := 35) rfl ?_); refine goesL_ (some 22) rfl rfl Try.func35 (by kernel_rfl) rfl #[.agg #[.slice Ao97 t616.length co97], .int .i64 15] rfl (by (try simp only [List.map_toArray, List.map_cons, List.map_nil]); first | done | rfl | (simp only [List.length_drop, List.length_take]; rfl)) ?_; (with_reducible refine (intset_Nearest.calls k _ _ t616 15 t623 t624 _ ?side1 ?side2 A3.out).mono ?_); (case side1 => repeat (first | exact (Kd.R_reads' HO618.out).2.2 | (with_reducible refine Kd.C_alloc ?_ _) | (with_reducible refine Kd.C_drewN ?_ _) | (with_reducible refine Kd.C_drew ?_))); (case side2 => exact (Kd.R_reads' HO618.out).2.1); rintro e w101 ⟨rfl, hb⟩; refine ⟨_, rfl, ?_⟩; have n0_ := Aside0.mk (Kd.R_below (by (with_reducible repeat (first | apply Kd.R_alloc | apply Kd.R_drewN | apply Kd.R_drew)); exact HO615.out) hb); have n1_ := Aside0.mk (Kd.R_below (by (with_reducible repeat (first | apply Kd.R_alloc | apply Kd.R_drewN | apply Kd.R_drew)); exact HO618.out) hb); have n2_ := Aside0.mk (blk_below (g := gb620) (o := .cells #[.slice Ao97 t616.length co97] 42 (0, 0)) (by (with_reducible repeat (first | refine blk_drewN ?_ _ | refine blk_drew ?_ | refine blk_alloc ?_ _)); exact BK620.out) hb); have n3_ := Aside0.mk (below_step (by repeat (first | (with_reducible first | exact HB.out | apply below_alloc | apply pw_below_drewN | apply below_drew1 | refine below_set ?_ GE620.out) | exact HB.out)) hb); clear HO615; clear HO618; clear BK620; clear HB; have HO615 := n0_; have HO618 := n1_; have BK620 := n2_; have HB := n3_; clear n0_ n1_ n2_ n3_; (try clear hb); (try clear hb2); (try clear hk); (try clear hi); have hcz102_0 : w101.cell? ⟨gb620, 0, none⟩ = some (.slice Ao97 t616.length co97) := (blk_cell BK620.out 0).trans rfl; have hfz102_0 := blk_frozen BK620.out 0; have p625 : 0 ≤ (0 : Int) := (by omega); have q625 : 0 < (t616.length : Int) := of_decide_eq_true (by first | (with_reducible assumption) | assumption); obtain ⟨ad625, e625, hx625_0, hx625_1⟩ := at_T56 (Kd.R_reads' HO618.out).2.2 0 p625 q625; cases e625; have qi625 : (0 < t616.length) = True := eq_true (by omega); (try rw [show ((0 : Int)).toNat = 0 from rfl] at hx625_0); (try rw [show 0 * 2 = 0 from rfl] at hx625_0); (try rw [Addr.add_zero'] at hx625_0); (try rw [show ((0 : Int)).toNat = 0 from rfl] at hx625_1); (try rw [show 0 * 2 = 0 from rfl] at hx625_1); (try rw [Addr.add_zero'] at hx625_1); replace p625 := eq_true p625; replace q625 := eq_true q625))
            go_ret
            exact ⟨by first | rfl | (simp [errW_none, errW_some] <;> rfl) | (simp [*, errW_none, errW_some] <;> rfl), by repeat (first | (with_reducible first | exact HB.out | apply below_alloc | apply pw_below_drewN | apply below_drew1 | refine below_set ?_ GE620.out) | exact HB.out)⟩
        · rw [if_neg c7] at H
          have c7b0 : (((rd_T56 t616 0).f0) == 1 && (((rd_T56 t616 0).f1) == 9)) = false := by simpa using c7
          (try (have c7b1 : decide (((rd_T56 t616 0).f0) = 1 && (((rd_T56 t616 0).f1) == 9)) = false := by simpa using c7))
          (try (have c7b2 : (((rd_T56 t616 0).f0) == 1 && (((rd_T56 t616 0).f1) == 9)) = false := by simpa using c7))
          (try (have c7b3 : ¬ (((rd_T56 t616 0).f0) = 1 && (((rd_T56 t616 0).f1) == 9)) := by simpa using c7))
          clear c7
          obtain rfl := Option.some.inj H
          go_enter Try.func25, Try.ntmps25
          go_wp2_with (first | ((with_reducible refine gate_dst (N := 11) rfl ?_); (try (refine gate_guard (by rfl) ?_; dsimp only)); refine Kd.R_lit k56 _ 56 ?hg (N := 11) ?hd (xs := ([(⟨5, 9⟩ : S56), (⟨1, 4⟩ : S56), (⟨20, 20⟩ : S56)] : List (S56))) (inner := [.int .i64 5, .int .i64 9, .int .i64 1, .int .i64 4, .int .i64 20, .int .i64 20]) (ok := fun _ => True) (okp := fun _ => True) ?hr ?hp (fun _ hk => hk) trivial (Below.refl _ _) (Nat.le_refl _) (by simp) ?_; (case hd => rfl); (case hg => rfl); (case hr => first | (go_simp; done) | (go_simp; rfl)); (case hp => exact (Reps.c2 (show Kd.M k56 _ _ _ (⟨5, 9⟩ : S56) [.int .i64 5, .int .i64 9] from (k56_mkM _ _ _ (⟨5, 9⟩ : S56) )) (Reps.c2 (show Kd.M k56 _ _ _ (⟨1, 4⟩ : S56) [.int .i64 1, .int .i64 4] from (k56_mkM _ _ _ (⟨1, 4⟩ : S56) )) (Reps.c2 (show Kd.M k56 _ _ _ (⟨20, 20⟩ : S56) [.int .i64 20, .int .i64 20] from (k56_mkM _ _ _ (⟨20, 20⟩ : S56) )) (Reps.none _ _))))); intro v614 w103 ho104 hb hg_ hnew_; clear hg_ hnew_; (first | rw [← Ny613.out] at ho104 | (simp only [Int.reduceToNat] at ho104; rw [← Ny613.out] at ho104)); have n0_ := Aside0.mk (Kd.R_lower ho104 (below_size (by repeat (first | (with_reducible first | exact HB.out | apply below_alloc | apply pw_below_drewN | apply below_drew1) | exact HB.out)))); have n1_ := Aside0.mk (below_step (by repeat (first | (with_reducible first | exact HB.out | apply below_alloc | apply pw_below_drewN | apply below_drew1) | exact HB.out)) hb); clear HB; have HO615 := n0_; have HB := n1_; clear n0_ n1_; clear hb ho104; obtain ⟨Ao105, co105, eo105⟩ := Kd.R_slice HO615.out; subst eo105) | ((with_reducible refine gate_callee (f := 27) rfl ?_); refine goesL_ (some 12) rfl rfl Try.func27 (by kernel_rfl) rfl #[.slice Ao105 y613.length co105] rfl (by (try simp only [List.map_toArray, List.map_cons, List.map_nil]); first | done | rfl | (simp only [List.length_drop, List.length_take]; rfl)) ?_; (with_reducible refine (intset_Make.calls k _ _ y613 t616 t619 _ ?side1 ?side2 A1.out).mono ?_); (case side1 => repeat (first | exact (Kd.R_reads' HO615.out).2.2 | (with_reducible refine Kd.C_alloc ?_ _) | (with_reducible refine Kd.C_drewN ?_ _) | (with_reducible refine Kd.C_drew ?_))); (case side2 => exact (Kd.R_reads' HO615.out).2.1); rintro e w106 ⟨v617, rfl, ho0, hb⟩; refine ⟨_, rfl, ?_⟩; have n0_ := Aside0.mk (Kd.R_elder' (by (with_reducible repeat (first | apply Kd.R_alloc | apply Kd.R_drewN | apply Kd.R_drew)); exact HO615.out) (Kd.R_base ho0) hb); have n1_ := Aside0.mk (Kd.R_lower (Kd.R_new' ho0 (Kd.R_lt (by (with_reducible repeat (first | apply Kd.R_alloc | apply Kd.R_drewN | apply Kd.R_drew)); exact HO615.out))) (below_size (by repeat (first | (with_reducible first | exact HB.out | apply below_alloc | apply pw_below_drewN | apply below_drew1) | exact HB.out)))); have n2_ := Aside0.mk (below_step (by repeat (first | (with_reducible first | exact HB.out | apply below_alloc | apply pw_below_drewN | apply below_drew1) | exact HB.out)) hb); clear HO615; clear HB; have HO615 := n0_; have HO618 := n1_; have HB := n2_; clear n0_ n1_ n2_; (try clear hb); (try clear hb2); (try clear hk); (try clear hi); (try clear ho0)) | ((with_reducible refine gate_dst (N := 1) rfl ?_); (try (refine gate_guard (by rfl) ?_; dsimp only)); refine box_event ?hg (N := 1) ?hd (cs := #[.slice none 0 0]) (t := 42) ?hr ?_; (case hd => rfl); (case hg => rfl); (case hr => first | (go_simp; done) | (go_simp; rfl)); intro gb620 hg w107 hbox hb; have n0_ := Aside0.mk (Kd.R_below (by (with_reducible repeat (first | apply Kd.R_alloc | apply Kd.R_drewN | apply Kd.R_drew)); exact HO615.out) hb); have n1_ := Aside0.mk (Kd.R_below (by (with_reducible repeat (first | apply Kd.R_alloc | apply Kd.R_drewN | apply Kd.R_drew)); exact HO618.out) hb); have n2_ := Aside0.mk (below_step (by repeat (first | (with_reducible first | exact HB.out | apply below_alloc | apply pw_below_drewN | apply below_drew1) | exact HB.out)) hb); have n3_ := Aside0.mk (hbox); have n4_ := Aside0.mk ((by rw [hg]; exact (below_size (by repeat (first | (with_reducible first | exact HB.out | apply below_alloc | apply pw_below_drewN | apply below_drew1) | exact HB.out))) : w.heap.size ≤ gb620)); have n5_ := Aside0.mk ((by rw [hg]; exact (below_size (by repeat (first | (with_reducible first | exact HB.out | apply below_alloc | apply pw_below_drewN | apply below_drew1) | exact HB.out))) : w.heap.size ≤ gb620)); clear HO615; clear HO618; clear HB; have HO615 := n0_; have HO618 := n1_; have HB := n2_; have BK620 := n3_; have GW620 := n4_; have GE620 := n5_; clear n0_ n1_ n2_ n3_ n4_ n5_; clear hb hbox hg; obtain ⟨Ao108, co108, eo108⟩ := Kd.R_slice HO618.out; subst eo108; have hcz109_0 : w107.cell? ⟨gb620, 0, none⟩ = some (.slice none 0 0) := (blk_cell BK620.out 0).trans rfl; have hfz109_0 := blk_frozen BK620.out 0) | ((with_reducible refine gate_callee (f := 35) rfl ?_); refine goesL_ (some 17) rfl rfl Try.func35 (by kernel_rfl) rfl #[.agg #[.slice Ao108 t616.length co108], .int .i64 14] rfl (by (try simp only [List.map_toArray, List.map_cons, List.map_nil]); first | done | rfl | (simp only [List.length_drop, List.length_take]; rfl)) ?_; (with_reducible refine (intset_Nearest.calls k _ _ t616 14 t621 t622 _ ?side1 ?side2 A2.out).mono ?_); (case side1 => refine (Kd.R_reads' (e := 56) (base := w.heap.size) (ok := fun k_ => (True ∧ some k_ ≠ (.slice Ao105 y613.length co105 : Value).ownBlock)) (n := t616.length) (c := co108) ?_).2.2; exact (by (with_reducible repeat (first | apply Kd.R_alloc | apply Kd.R_drewN | apply Kd.R_drew)); exact (Kd.R_mono (Kd.R_far (p := ⟨gb620, 0, none⟩) (Kd.R_types HO618.out BK620.out (by decide)) (fun _ hk => hk.2) (.slice Ao108 t616.length co108)) (fun _ h_ => h_.1)))); (case side2 => exact (Kd.R_reads' HO618.out).2.1); rintro e w110 ⟨rfl, hb⟩; refine ⟨_, rfl, ?_⟩; have n0_ := Aside0.mk (Kd.R_below (by (with_reducible repeat (first | apply Kd.R_alloc | apply Kd.R_drewN | apply Kd.R_drew)); exact (Kd.R_mono (Kd.R_far (p := ⟨gb620, 0, none⟩) (Kd.R_types HO615.out BK620.out (by decide)) (fun _ hk => hk.2) (.slice Ao108 t616.length co108)) (fun _ h_ => h_.1))) hb); have n1_ := Aside0.mk (Kd.R_below (by (with_reducible repeat (first | apply Kd.R_alloc | apply Kd.R_drewN | apply Kd.R_drew)); exact (Kd.R_mono (Kd.R_far (p := ⟨gb620, 0, none⟩) (Kd.R_types HO618.out BK620.out (by decide)) (fun _ hk => hk.2) (.slice Ao108 t616.length co108)) (fun _ h_ => h_.1))) hb); have n2_ := Aside0.mk (blk_below (g := gb620) (o := .cells #[.slice Ao108 t616.length co108] 42 (0, 0)) (by (with_reducible repeat (first | refine blk_drewN ?_ _ | refine blk_drew ?_ | refine blk_alloc ?_ _)); refine blk_put (cs := #[.slice none 0 0]) ?_ 0 _ rfl; (with_reducible repeat (first | refine blk_drewN ?_ _ | refine blk_drew ?_ | refine blk_alloc ?_ _)); exact BK620.out) hb); have n3_ := Aside0.mk (below_step (by repeat (first | (with_reducible first | exact HB.out | apply below_alloc | apply pw_below_drewN | apply below_drew1 | refine below_set ?_ GE620.out) | exact HB.out)) hb); clear HO615; clear HO618; clear BK620; clear HB; have HO615 := n0_; have HO618 := n1_; have BK620 := n2_; have HB := n3_; clear n0_ n1_ n2_ n3_; (try clear hb); (try clear hb2); (try clear hk); (try clear hi); have hcz111_0 : w110.cell? ⟨gb620, 0, none⟩ = some (.slice Ao108 t616.length co108) := (blk_cell BK620.out 0).trans rfl; have hfz111_0 := blk_frozen BK620.out 0) | ((with_reducible refine gate_callee (f := 35) rfl ?_); refine goesL_ (some 22) rfl rfl Try.func35 (by kernel_rfl) rfl #[.agg #[.slice Ao108 t616.length co108], .int .i64 15] rfl (by (try simp only [List.map_toArray, List.map_cons, List.map_nil]); first | done | rfl | (simp only [List.length_drop, List.length_take]; rfl)) ?_; (with_reducible refine (intset_Nearest.calls k _ _ t616 15 t623 t624 _ ?side1 ?side2 A3.out).mono ?_); (case side1 => repeat (first | exact (Kd.R_reads' HO618.out).2.2 | (with_reducible refine Kd.C_alloc ?_ _) | (with_reducible refine Kd.C_drewN ?_ _) | (with_reducible refine Kd.C_drew ?_))); (case side2 => exact (Kd.R_reads' HO618.out).2.1); rintro e w112 ⟨rfl, hb⟩; refine ⟨_, rfl, ?_⟩; have n0_ := Aside0.mk (Kd.R_below (by (with_reducible repeat (first | apply Kd.R_alloc | apply Kd.R_drewN | apply Kd.R_drew)); exact HO615.out) hb); have n1_ := Aside0.mk (Kd.R_below (by (with_reducible repeat (first | apply Kd.R_alloc | apply Kd.R_drewN | apply Kd.R_drew)); exact HO618.out) hb); have n2_ := Aside0.mk (blk_below (g := gb620) (o := .cells #[.slice Ao108 t616.length co108] 42 (0, 0)) (by (with_reducible repeat (first | refine blk_drewN ?_ _ | refine blk_drew ?_ | refine blk_alloc ?_ _)); exact BK620.out) hb); have n3_ := Aside0.mk (below_step (by repeat (first | (with_reducible first | exact HB.out | apply below_alloc | apply pw_below_drewN | apply below_drew1 | refine below_set ?_ GE620.out) | exact HB.out)) hb); clear HO615; clear HO618; clear BK620; clear HB; have HO615 := n0_; have HO618 := n1_; have BK620 := n2_; have HB := n3_; clear n0_ n1_ n2_ n3_; (try clear hb); (try clear hb2); (try clear hk); (try clear hi); have hcz113_0 : w112.cell? ⟨gb620, 0, none⟩ = some (.slice Ao108 t616.length co108) := (blk_cell BK620.out 0).trans rfl; have hfz113_0 := blk_frozen BK620.out 0; have p625 : 0 ≤ (0 : Int) := (by omega); have q625 : 0 < (t616.length : Int) := of_decide_eq_true (by first | (with_reducible assumption) | assumption); obtain ⟨ad625, e625, hx625_0, hx625_1⟩ := at_T56 (Kd.R_reads' HO618.out).2.2 0 p625 q625; cases e625; have qi625 : (0 < t616.length) = True := eq_true (by omega); (try rw [show ((0 : Int)).toNat = 0 from rfl] at hx625_0); (try rw [show 0 * 2 = 0 from rfl] at hx625_0); (try rw [Addr.add_zero'] at hx625_0); (try rw [show ((0 : Int)).toNat = 0 from rfl] at hx625_1); (try rw [show 0 * 2 = 0 from rfl] at hx625_1); (try rw [Addr.add_zero'] at hx625_1); replace p625 := eq_true p625; replace q625 := eq_true q625))
          go_ret
          exact ⟨by first | rfl | (simp [errW_none, errW_some] <;> rfl) | (simp [*, errW_none, errW_some] <;> rfl), by repeat (first | (with_reducible first | exact HB.out | apply below_alloc | apply pw_below_drewN | apply below_drew1 | refine below_set ?_ GE620.out) | exact HB.out)⟩
      · rw [if_neg c6] at H
        exact absurd H (by simp)
    · rw [if_neg c5] at H
      have c5b0 : ((t616.length : Int) == 2) = false := beq_eq_false_iff_ne.mpr c5
      have c5b1 : ((t616.length : Int) != 2) = true := bne_iff_ne.mpr c5
      obtain rfl := Option.some.inj H
      go_enter Try.func25, Try.ntmps25
      go_wp2_with (first | ((with_reducible refine gate_dst (N := 11) rfl ?_); (try (refine gate_guard (by rfl) ?_; dsimp only)); refine Kd.R_lit k56 _ 56 ?hg (N := 11) ?hd (xs := ([(⟨5, 9⟩ : S56), (⟨1, 4⟩ : S56), (⟨20, 20⟩ : S56)] : List (S56))) (inner := [.int .i64 5, .int .i64 9, .int .i64 1, .int .i64 4, .int .i64 20, .int .i64 20]) (ok := fun _ => True) (okp := fun _ => True) ?hr ?hp (fun _ hk => hk) trivial (Below.refl _ _) (Nat.le_refl _) (by simp) ?_; (case hd => rfl); (case hg => rfl); (case hr => first | (go_simp; done) | (go_simp; rfl)); (case hp => exact (Reps.c2 (show Kd.M k56 _ _ _ (⟨5, 9⟩ : S56) [.int .i64 5, .int .i64 9] from (k56_mkM _ _ _ (⟨5, 9⟩ : S56) )) (Reps.c2 (show Kd.M k56 _ _ _ (⟨1, 4⟩ : S56) [.int .i64 1, .int .i64 4] from (k56_mkM _ _ _ (⟨1, 4⟩ : S56) )) (Reps.c2 (show Kd.M k56 _ _ _ (⟨20, 20⟩ : S56) [.int .i64 20, .int .i64 20] from (k56_mkM _ _ _ (⟨20, 20⟩ : S56) )) (Reps.none _ _))))); intro v614 w114 ho115 hb hg_ hnew_; clear hg_ hnew_; (first | rw [← Ny613.out] at ho115 | (simp only [Int.reduceToNat] at ho115; rw [← Ny613.out] at ho115)); have n0_ := Aside0.mk (Kd.R_lower ho115 (below_size (by repeat (first | (with_reducible first | exact HB.out | apply below_alloc | apply pw_below_drewN | apply below_drew1) | exact HB.out)))); have n1_ := Aside0.mk (below_step (by repeat (first | (with_reducible first | exact HB.out | apply below_alloc | apply pw_below_drewN | apply below_drew1) | exact HB.out)) hb); clear HB; have HO615 := n0_; have HB := n1_; clear n0_ n1_; clear hb ho115; obtain ⟨Ao116, co116, eo116⟩ := Kd.R_slice HO615.out; subst eo116) | ((with_reducible refine gate_callee (f := 27) rfl ?_); refine goesL_ (some 12) rfl rfl Try.func27 (by kernel_rfl) rfl #[.slice Ao116 y613.length co116] rfl (by (try simp only [List.map_toArray, List.map_cons, List.map_nil]); first | done | rfl | (simp only [List.length_drop, List.length_take]; rfl)) ?_; (with_reducible refine (intset_Make.calls k _ _ y613 t616 t619 _ ?side1 ?side2 A1.out).mono ?_); (case side1 => repeat (first | exact (Kd.R_reads' HO615.out).2.2 | (with_reducible refine Kd.C_alloc ?_ _) | (with_reducible refine Kd.C_drewN ?_ _) | (with_reducible refine Kd.C_drew ?_))); (case side2 => exact (Kd.R_reads' HO615.out).2.1); rintro e w117 ⟨v617, rfl, ho0, hb⟩; refine ⟨_, rfl, ?_⟩; have n0_ := Aside0.mk (Kd.R_elder' (by (with_reducible repeat (first | apply Kd.R_alloc | apply Kd.R_drewN | apply Kd.R_drew)); exact HO615.out) (Kd.R_base ho0) hb); have n1_ := Aside0.mk (Kd.R_lower (Kd.R_new' ho0 (Kd.R_lt (by (with_reducible repeat (first | apply Kd.R_alloc | apply Kd.R_drewN | apply Kd.R_drew)); exact HO615.out))) (below_size (by repeat (first | (with_reducible first | exact HB.out | apply below_alloc | apply pw_below_drewN | apply below_drew1) | exact HB.out)))); have n2_ := Aside0.mk (below_step (by repeat (first | (with_reducible first | exact HB.out | apply below_alloc | apply pw_below_drewN | apply below_drew1) | exact HB.out)) hb); clear HO615; clear HB; have HO615 := n0_; have HO618 := n1_; have HB := n2_; clear n0_ n1_ n2_; (try clear hb); (try clear hb2); (try clear hk); (try clear hi); (try clear ho0)) | ((with_reducible refine gate_dst (N := 1) rfl ?_); (try (refine gate_guard (by rfl) ?_; dsimp only)); refine box_event ?hg (N := 1) ?hd (cs := #[.slice none 0 0]) (t := 42) ?hr ?_; (case hd => rfl); (case hg => rfl); (case hr => first | (go_simp; done) | (go_simp; rfl)); intro gb620 hg w118 hbox hb; have n0_ := Aside0.mk (Kd.R_below (by (with_reducible repeat (first | apply Kd.R_alloc | apply Kd.R_drewN | apply Kd.R_drew)); exact HO615.out) hb); have n1_ := Aside0.mk (Kd.R_below (by (with_reducible repeat (first | apply Kd.R_alloc | apply Kd.R_drewN | apply Kd.R_drew)); exact HO618.out) hb); have n2_ := Aside0.mk (below_step (by repeat (first | (with_reducible first | exact HB.out | apply below_alloc | apply pw_below_drewN | apply below_drew1) | exact HB.out)) hb); have n3_ := Aside0.mk (hbox); have n4_ := Aside0.mk ((by rw [hg]; exact (below_size (by repeat (first | (with_reducible first | exact HB.out | apply below_alloc | apply pw_below_drewN | apply below_drew1) | exact HB.out))) : w.heap.size ≤ gb620)); have n5_ := Aside0.mk ((by rw [hg]; exact (below_size (by repeat (first | (with_reducible first | exact HB.out | apply below_alloc | apply pw_below_drewN | apply below_drew1) | exact HB.out))) : w.heap.size ≤ gb620)); clear HO615; clear HO618; clear HB; have HO615 := n0_; have HO618 := n1_; have HB := n2_; have BK620 := n3_; have GW620 := n4_; have GE620 := n5_; clear n0_ n1_ n2_ n3_ n4_ n5_; clear hb hbox hg; obtain ⟨Ao119, co119, eo119⟩ := Kd.R_slice HO618.out; subst eo119; have hcz120_0 : w118.cell? ⟨gb620, 0, none⟩ = some (.slice none 0 0) := (blk_cell BK620.out 0).trans rfl; have hfz120_0 := blk_frozen BK620.out 0) | ((with_reducible refine gate_callee (f := 35) rfl ?_); refine goesL_ (some 17) rfl rfl Try.func35 (by kernel_rfl) rfl #[.agg #[.slice Ao119 t616.length co119], .int .i64 14] rfl (by (try simp only [List.map_toArray, List.map_cons, List.map_nil]); first | done | rfl | (simp only [List.length_drop, List.length_take]; rfl)) ?_; (with_reducible refine (intset_Nearest.calls k _ _ t616 14 t621 t622 _ ?side1 ?side2 A2.out).mono ?_); (case side1 => refine (Kd.R_reads' (e := 56) (base := w.heap.size) (ok := fun k_ => (True ∧ some k_ ≠ (.slice Ao116 y613.length co116 : Value).ownBlock)) (n := t616.length) (c := co119) ?_).2.2; exact (by (with_reducible repeat (first | apply Kd.R_alloc | apply Kd.R_drewN | apply Kd.R_drew)); exact (Kd.R_mono (Kd.R_far (p := ⟨gb620, 0, none⟩) (Kd.R_types HO618.out BK620.out (by decide)) (fun _ hk => hk.2) (.slice Ao119 t616.length co119)) (fun _ h_ => h_.1)))); (case side2 => exact (Kd.R_reads' HO618.out).2.1); rintro e w121 ⟨rfl, hb⟩; refine ⟨_, rfl, ?_⟩; have n0_ := Aside0.mk (Kd.R_below (by (with_reducible repeat (first | apply Kd.R_alloc | apply Kd.R_drewN | apply Kd.R_drew)); exact (Kd.R_mono (Kd.R_far (p := ⟨gb620, 0, none⟩) (Kd.R_types HO615.out BK620.out (by decide)) (fun _ hk => hk.2) (.slice Ao119 t616.length co119)) (fun _ h_ => h_.1))) hb); have n1_ := Aside0.mk (Kd.R_below (by (with_reducible repeat (first | apply Kd.R_alloc | apply Kd.R_drewN | apply Kd.R_drew)); exact (Kd.R_mono (Kd.R_far (p := ⟨gb620, 0, none⟩) (Kd.R_types HO618.out BK620.out (by decide)) (fun _ hk => hk.2) (.slice Ao119 t616.length co119)) (fun _ h_ => h_.1))) hb); have n2_ := Aside0.mk (blk_below (g := gb620) (o := .cells #[.slice Ao119 t616.length co119] 42 (0, 0)) (by (with_reducible repeat (first | refine blk_drewN ?_ _ | refine blk_drew ?_ | refine blk_alloc ?_ _)); refine blk_put (cs := #[.slice none 0 0]) ?_ 0 _ rfl; (with_reducible repeat (first | refine blk_drewN ?_ _ | refine blk_drew ?_ | refine blk_alloc ?_ _)); exact BK620.out) hb); have n3_ := Aside0.mk (below_step (by repeat (first | (with_reducible first | exact HB.out | apply below_alloc | apply pw_below_drewN | apply below_drew1 | refine below_set ?_ GE620.out) | exact HB.out)) hb); clear HO615; clear HO618; clear BK620; clear HB; have HO615 := n0_; have HO618 := n1_; have BK620 := n2_; have HB := n3_; clear n0_ n1_ n2_ n3_; (try clear hb); (try clear hb2); (try clear hk); (try clear hi); have hcz122_0 : w121.cell? ⟨gb620, 0, none⟩ = some (.slice Ao119 t616.length co119) := (blk_cell BK620.out 0).trans rfl; have hfz122_0 := blk_frozen BK620.out 0) | ((with_reducible refine gate_callee (f := 35) rfl ?_); refine goesL_ (some 22) rfl rfl Try.func35 (by kernel_rfl) rfl #[.agg #[.slice Ao119 t616.length co119], .int .i64 15] rfl (by (try simp only [List.map_toArray, List.map_cons, List.map_nil]); first | done | rfl | (simp only [List.length_drop, List.length_take]; rfl)) ?_; (with_reducible refine (intset_Nearest.calls k _ _ t616 15 t623 t624 _ ?side1 ?side2 A3.out).mono ?_); (case side1 => repeat (first | exact (Kd.R_reads' HO618.out).2.2 | (with_reducible refine Kd.C_alloc ?_ _) | (with_reducible refine Kd.C_drewN ?_ _) | (with_reducible refine Kd.C_drew ?_))); (case side2 => exact (Kd.R_reads' HO618.out).2.1); rintro e w123 ⟨rfl, hb⟩; refine ⟨_, rfl, ?_⟩; have n0_ := Aside0.mk (Kd.R_below (by (with_reducible repeat (first | apply Kd.R_alloc | apply Kd.R_drewN | apply Kd.R_drew)); exact HO615.out) hb); have n1_ := Aside0.mk (Kd.R_below (by (with_reducible repeat (first | apply Kd.R_alloc | apply Kd.R_drewN | apply Kd.R_drew)); exact HO618.out) hb); have n2_ := Aside0.mk (blk_below (g := gb620) (o := .cells #[.slice Ao119 t616.length co119] 42 (0, 0)) (by (with_reducible repeat (first | refine blk_drewN ?_ _ | refine blk_drew ?_ | refine blk_alloc ?_ _)); exact BK620.out) hb); have n3_ := Aside0.mk (below_step (by repeat (first | (with_reducible first | exact HB.out | apply below_alloc | apply pw_below_drewN | apply below_drew1 | refine below_set ?_ GE620.out) | exact HB.out)) hb); clear HO615; clear HO618; clear BK620; clear HB; have HO615 := n0_; have HO618 := n1_; have BK620 := n2_; have HB := n3_; clear n0_ n1_ n2_ n3_; (try clear hb); (try clear hb2); (try clear hk); (try clear hi); have hcz124_0 : w123.cell? ⟨gb620, 0, none⟩ = some (.slice Ao119 t616.length co119) := (blk_cell BK620.out 0).trans rfl; have hfz124_0 := blk_frozen BK620.out 0))
      go_ret
      exact ⟨by first | rfl | (simp [errW_none, errW_some] <;> rfl) | (simp [*, errW_none, errW_some] <;> rfl), by repeat (first | (with_reducible first | exact HB.out | apply below_alloc | apply pw_below_drewN | apply below_drew1 | refine below_set ?_ GE620.out) | exact HB.out)⟩
  · rw [if_neg c4] at H
    have c4b0 : (t619 == 0) = false := beq_eq_false_iff_ne.mpr c4
    have c4b1 : (t619 != 0) = true := bne_iff_ne.mpr c4
    obtain rfl := Option.some.inj H
    go_enter Try.func25, Try.ntmps25
    go_wp2_with (first | ((with_reducible refine gate_dst (N := 11) rfl ?_); (try (refine gate_guard (by rfl) ?_; dsimp only)); refine Kd.R_lit k56 _ 56 ?hg (N := 11) ?hd (xs := ([(⟨5, 9⟩ : S56), (⟨1, 4⟩ : S56), (⟨20, 20⟩ : S56)] : List (S56))) (inner := [.int .i64 5, .int .i64 9, .int .i64 1, .int .i64 4, .int .i64 20, .int .i64 20]) (ok := fun _ => True) (okp := fun _ => True) ?hr ?hp (fun _ hk => hk) trivial (Below.refl _ _) (Nat.le_refl _) (by simp) ?_; (case hd => rfl); (case hg => rfl); (case hr => first | (go_simp; done) | (go_simp; rfl)); (case hp => exact (Reps.c2 (show Kd.M k56 _ _ _ (⟨5, 9⟩ : S56) [.int .i64 5, .int .i64 9] from (k56_mkM _ _ _ (⟨5, 9⟩ : S56) )) (Reps.c2 (show Kd.M k56 _ _ _ (⟨1, 4⟩ : S56) [.int .i64 1, .int .i64 4] from (k56_mkM _ _ _ (⟨1, 4⟩ : S56) )) (Reps.c2 (show Kd.M k56 _ _ _ (⟨20, 20⟩ : S56) [.int .i64 20, .int .i64 20] from (k56_mkM _ _ _ (⟨20, 20⟩ : S56) )) (Reps.none _ _))))); intro v614 w125 ho126 hb hg_ hnew_; clear hg_ hnew_; (first | rw [← Ny613.out] at ho126 | (simp only [Int.reduceToNat] at ho126; rw [← Ny613.out] at ho126)); have n0_ := Aside0.mk (Kd.R_lower ho126 (below_size (by repeat (first | (with_reducible first | exact HB.out | apply below_alloc | apply pw_below_drewN | apply below_drew1) | exact HB.out)))); have n1_ := Aside0.mk (below_step (by repeat (first | (with_reducible first | exact HB.out | apply below_alloc | apply pw_below_drewN | apply below_drew1) | exact HB.out)) hb); clear HB; have HO615 := n0_; have HB := n1_; clear n0_ n1_; clear hb ho126; obtain ⟨Ao127, co127, eo127⟩ := Kd.R_slice HO615.out; subst eo127) | ((with_reducible refine gate_callee (f := 27) rfl ?_); refine goesL_ (some 12) rfl rfl Try.func27 (by kernel_rfl) rfl #[.slice Ao127 y613.length co127] rfl (by (try simp only [List.map_toArray, List.map_cons, List.map_nil]); first | done | rfl | (simp only [List.length_drop, List.length_take]; rfl)) ?_; (with_reducible refine (intset_Make.calls k _ _ y613 t616 t619 _ ?side1 ?side2 A1.out).mono ?_); (case side1 => repeat (first | exact (Kd.R_reads' HO615.out).2.2 | (with_reducible refine Kd.C_alloc ?_ _) | (with_reducible refine Kd.C_drewN ?_ _) | (with_reducible refine Kd.C_drew ?_))); (case side2 => exact (Kd.R_reads' HO615.out).2.1); rintro e w128 ⟨v617, rfl, ho0, hb⟩; refine ⟨_, rfl, ?_⟩; have n0_ := Aside0.mk (Kd.R_elder' (by (with_reducible repeat (first | apply Kd.R_alloc | apply Kd.R_drewN | apply Kd.R_drew)); exact HO615.out) (Kd.R_base ho0) hb); have n1_ := Aside0.mk (Kd.R_lower (Kd.R_new' ho0 (Kd.R_lt (by (with_reducible repeat (first | apply Kd.R_alloc | apply Kd.R_drewN | apply Kd.R_drew)); exact HO615.out))) (below_size (by repeat (first | (with_reducible first | exact HB.out | apply below_alloc | apply pw_below_drewN | apply below_drew1) | exact HB.out)))); have n2_ := Aside0.mk (below_step (by repeat (first | (with_reducible first | exact HB.out | apply below_alloc | apply pw_below_drewN | apply below_drew1) | exact HB.out)) hb); clear HO615; clear HB; have HO615 := n0_; have HO618 := n1_; have HB := n2_; clear n0_ n1_ n2_; (try clear hb); (try clear hb2); (try clear hk); (try clear hi); (try clear ho0)) | ((with_reducible refine gate_dst (N := 1) rfl ?_); (try (refine gate_guard (by rfl) ?_; dsimp only)); refine box_event ?hg (N := 1) ?hd (cs := #[.slice none 0 0]) (t := 42) ?hr ?_; (case hd => rfl); (case hg => rfl); (case hr => first | (go_simp; done) | (go_simp; rfl)); intro gb620 hg w129 hbox hb; have n0_ := Aside0.mk (Kd.R_below (by (with_reducible repeat (first | apply Kd.R_alloc | apply Kd.R_drewN | apply Kd.R_drew)); exact HO615.out) hb); have n1_ := Aside0.mk (Kd.R_below (by (with_reducible repeat (first | apply Kd.R_alloc | apply Kd.R_drewN | apply Kd.R_drew)); exact HO618.out) hb); have n2_ := Aside0.mk (below_step (by repeat (first | (with_reducible first | exact HB.out | apply below_alloc | apply pw_below_drewN | apply below_drew1) | exact HB.out)) hb); have n3_ := Aside0.mk (hbox); have n4_ := Aside0.mk ((by rw [hg]; exact (below_size (by repeat (first | (with_reducible first | exact HB.out | apply below_alloc | apply pw_below_drewN | apply below_drew1) | exact HB.out))) : w.heap.size ≤ gb620)); have n5_ := Aside0.mk ((by rw [hg]; exact (below_size (by repeat (first | (with_reducible first | exact HB.out | apply below_alloc | apply pw_below_drewN | apply below_drew1) | exact HB.out))) : w.heap.size ≤ gb620)); clear HO615; clear HO618; clear HB; have HO615 := n0_; have HO618 := n1_; have HB := n2_; have BK620 := n3_; have GW620 := n4_; have GE620 := n5_; clear n0_ n1_ n2_ n3_ n4_ n5_; clear hb hbox hg; obtain ⟨Ao130, co130, eo130⟩ := Kd.R_slice HO618.out; subst eo130; have hcz131_0 : w129.cell? ⟨gb620, 0, none⟩ = some (.slice none 0 0) := (blk_cell BK620.out 0).trans rfl; have hfz131_0 := blk_frozen BK620.out 0) | ((with_reducible refine gate_callee (f := 35) rfl ?_); refine goesL_ (some 17) rfl rfl Try.func35 (by kernel_rfl) rfl #[.agg #[.slice Ao130 t616.length co130], .int .i64 14] rfl (by (try simp only [List.map_toArray, List.map_cons, List.map_nil]); first | done | rfl | (simp only [List.length_drop, List.length_take]; rfl)) ?_; (with_reducible refine (intset_Nearest.calls k _ _ t616 14 t621 t622 _ ?side1 ?side2 A2.out).mono ?_); (case side1 => refine (Kd.R_reads' (e := 56) (base := w.heap.size) (ok := fun k_ => (True ∧ some k_ ≠ (.slice Ao127 y613.length co127 : Value).ownBlock)) (n := t616.length) (c := co130) ?_).2.2; exact (by (with_reducible repeat (first | apply Kd.R_alloc | apply Kd.R_drewN | apply Kd.R_drew)); exact (Kd.R_mono (Kd.R_far (p := ⟨gb620, 0, none⟩) (Kd.R_types HO618.out BK620.out (by decide)) (fun _ hk => hk.2) (.slice Ao130 t616.length co130)) (fun _ h_ => h_.1)))); (case side2 => exact (Kd.R_reads' HO618.out).2.1); rintro e w132 ⟨rfl, hb⟩; refine ⟨_, rfl, ?_⟩; have n0_ := Aside0.mk (Kd.R_below (by (with_reducible repeat (first | apply Kd.R_alloc | apply Kd.R_drewN | apply Kd.R_drew)); exact (Kd.R_mono (Kd.R_far (p := ⟨gb620, 0, none⟩) (Kd.R_types HO615.out BK620.out (by decide)) (fun _ hk => hk.2) (.slice Ao130 t616.length co130)) (fun _ h_ => h_.1))) hb); have n1_ := Aside0.mk (Kd.R_below (by (with_reducible repeat (first | apply Kd.R_alloc | apply Kd.R_drewN | apply Kd.R_drew)); exact (Kd.R_mono (Kd.R_far (p := ⟨gb620, 0, none⟩) (Kd.R_types HO618.out BK620.out (by decide)) (fun _ hk => hk.2) (.slice Ao130 t616.length co130)) (fun _ h_ => h_.1))) hb); have n2_ := Aside0.mk (blk_below (g := gb620) (o := .cells #[.slice Ao130 t616.length co130] 42 (0, 0)) (by (with_reducible repeat (first | refine blk_drewN ?_ _ | refine blk_drew ?_ | refine blk_alloc ?_ _)); refine blk_put (cs := #[.slice none 0 0]) ?_ 0 _ rfl; (with_reducible repeat (first | refine blk_drewN ?_ _ | refine blk_drew ?_ | refine blk_alloc ?_ _)); exact BK620.out) hb); have n3_ := Aside0.mk (below_step (by repeat (first | (with_reducible first | exact HB.out | apply below_alloc | apply pw_below_drewN | apply below_drew1 | refine below_set ?_ GE620.out) | exact HB.out)) hb); clear HO615; clear HO618; clear BK620; clear HB; have HO615 := n0_; have HO618 := n1_; have BK620 := n2_; have HB := n3_; clear n0_ n1_ n2_ n3_; (try clear hb); (try clear hb2); (try clear hk); (try clear hi); have hcz133_0 : w132.cell? ⟨gb620, 0, none⟩ = some (.slice Ao130 t616.length co130) := (blk_cell BK620.out 0).trans rfl; have hfz133_0 := blk_frozen BK620.out 0) | ((with_reducible refine gate_callee (f := 35) rfl ?_); refine goesL_ (some 22) rfl rfl Try.func35 (by kernel_rfl) rfl #[.agg #[.slice Ao130 t616.length co130], .int .i64 15] rfl (by (try simp only [List.map_toArray, List.map_cons, List.map_nil]); first | done | rfl | (simp only [List.length_drop, List.length_take]; rfl)) ?_; (with_reducible refine (intset_Nearest.calls k _ _ t616 15 t623 t624 _ ?side1 ?side2 A3.out).mono ?_); (case side1 => repeat (first | exact (Kd.R_reads' HO618.out).2.2 | (with_reducible refine Kd.C_alloc ?_ _) | (with_reducible refine Kd.C_drewN ?_ _) | (with_reducible refine Kd.C_drew ?_))); (case side2 => exact (Kd.R_reads' HO618.out).2.1); rintro e w134 ⟨rfl, hb⟩; refine ⟨_, rfl, ?_⟩; have n0_ := Aside0.mk (Kd.R_below (by (with_reducible repeat (first | apply Kd.R_alloc | apply Kd.R_drewN | apply Kd.R_drew)); exact HO615.out) hb); have n1_ := Aside0.mk (Kd.R_below (by (with_reducible repeat (first | apply Kd.R_alloc | apply Kd.R_drewN | apply Kd.R_drew)); exact HO618.out) hb); have n2_ := Aside0.mk (blk_below (g := gb620) (o := .cells #[.slice Ao130 t616.length co130] 42 (0, 0)) (by (with_reducible repeat (first | refine blk_drewN ?_ _ | refine blk_drew ?_ | refine blk_alloc ?_ _)); exact BK620.out) hb); have n3_ := Aside0.mk (below_step (by repeat (first | (with_reducible first | exact HB.out | apply below_alloc | apply pw_below_drewN | apply below_drew1 | refine below_set ?_ GE620.out) | exact HB.out)) hb); clear HO615; clear HO618; clear BK620; clear HB; have HO615 := n0_; have HO618 := n1_; have BK620 := n2_; have HB := n3_; clear n0_ n1_ n2_ n3_; (try clear hb); (try clear hb2); (try clear hk); (try clear hi)))
    go_ret
    exact ⟨by first | rfl | (simp [errW_none, errW_some] <;> rfl) | (simp [*, errW_none, errW_some] <;> rfl), by repeat (first | (with_reducible first | exact HB.out | apply below_alloc | apply pw_below_drewN | apply below_drew1 | refine below_set ?_ GE620.out) | exact HB.out)⟩
end Go.Proofs.Ytbahibaohehojaa.Q
namespace Go.Proofs.Ytbahibaohehojaa.Q
open Go.RowKit Go.Proofs.YtbahibaohehojaaW.PrintWords Go.Proofs.YtbahibaohehojaaW.PrintLast Go.Proofs.YtbahibaohehojaaW.PrintMore
attribute [local go_sem] max2_int min2_int max_two min_two max_three min_three max_four min_four
set_option linter.unusedVariables false
set_option linter.unusedSimpArgs false
def combines.T13 : Bool × List (List Nat × List Nat) := (true, [([], []), ([], []), ([0, 1], [0, 1]), ([2], [2]), ([3], [3]), ([3], [3]), ([4, 5, 3, 3], [3, 4, 5]), ([6, 3], [3, 6]), ([3, 7], [3, 7]), ([8, 6], [8]), ([9], [9]), ([9], [9]), ([10, 11, 9, 9], [9, 10, 11]), ([9], [9]), ([9], [9]), ([13, 14, 12, 9], [9, 13, 14]), ([12, 15, 15, 9], [9, 12, 15]), ([16, 9], [9, 16]), ([9, 17], [9, 17]), ([18, 16], [18]), ([19], [19]), ([19], [19]), ([20, 21, 19, 19], [19, 20, 21]), ([19], [19]), ([19], [19]), ([23, 24, 22, 19], [19, 23, 24]), ([22, 25, 19], [19, 22, 25]), ([19, 26], [19, 26])])
def combines.B13 : List Nat := [0, 0, 3, 7, 15, 15, 63, 127, 255, 511, 1023, 1023, 4095, 1023, 1023, 32767, 65535, 131071, 262143, 524287, 1048575, 1048575, 4194303, 1048575, 1048575, 33554431, 67108863, 134217727]
theorem combines.tab13 : rtab .any (opsOf Try.f12 13) = combines.T13 := by kernel_rfl
theorem combines.bits13 : waitsOk combines.T13.2 combines.B13 = true := by kernel_rfl
def combines.T5 : Bool × List (List Nat × List Nat) := (true, [([], []), ([], []), ([1], [1]), ([0, 2], [0, 2]), ([3], [3]), ([], [])])
def combines.B5 : List Nat := [0, 0, 2, 7, 15, 0]
theorem combines.tab5 : rtab .any (opsOf Try.f12 5) = combines.T5 := by kernel_rfl
theorem combines.bits5 : waitsOk combines.T5.2 combines.B5 = true := by kernel_rfl
def combines.T8 : Bool × List (List Nat × List Nat) := (true, [([], []), ([], []), ([1], [1]), ([0, 2], [0, 2]), ([3], [3]), ([], [])])
def combines.B8 : List Nat := [0, 0, 2, 7, 15, 0]
theorem combines.tab8 : rtab .any (opsOf Try.f12 8) = combines.T8 := by kernel_rfl
theorem combines.bits8 : waitsOk combines.T8.2 combines.B8 = true := by kernel_rfl
def PairW (k : Nat) (x y u v i j : List S56) (e : Int) (b : Bool) : Prop := intset_Union.f k x y = some (u, e) ∧ soundserviceref09_Union.f k x y = some (v, e) ∧ soundserviceref09_Same.f k u v = some true ∧ intset_Intersect.f k x y = some i ∧ soundserviceref09_Intersect.f k x y = some j ∧ soundserviceref09_Same.f k i j = some true ∧ intset_Inside.f k x y = some b ∧ soundserviceref09_Inside.f k x y = some b
def PairF (k : Nat) (x y : List S56) : Prop := ∃ u v i j e b, PairW k x y u v i j e b
def NearF (k : Nat) (x : List S56) (n : Int) : Prop := ∃ p ok, intset_Nearest.f k x n = some (p, ok) ∧ soundserviceref09_Nearest.f k x n = some (p, ok)
structure CombinesF (k : Nat) (l0 l1 : List S56) (l2 l3 : List Int) (n : Int) (a b : List S56) : Prop where
  ma : soundservicelaw09_made.f k l2 = some a
  mb : soundservicelaw09_made.f k l3 = some b
  pair : ∀ x y, (x = l0 ∨ x = a) → (y = l1 ∨ y = b) → PairF k x y
  near : ∀ x, (x = l0 ∨ x = a) → NearF k x n
structure HasSet (w : World) (g : Nat) (A : Option Addr) (c : Nat) (l : List S56) : Prop where
  blk : w.heap[g]? = some (.cells #[.slice A l.length c] 42 (0, 0))
  cap : l.length ≤ c
  row : Kd.C k56 w A l.length l
namespace HasSet
variable {w w1 : World} {g : Nat} {A : Option Addr} {c : Nat} {l : List S56}
theorem below (h : HasSet w g A c l) (hb : Below w.heap.size w w1) : HasSet w1 g A c l := ⟨blk_below h.blk hb, h.cap, Kd.C_below h.row hb⟩
theorem alloc (h : HasSet w g A c l) (o : Obj) : HasSet (w.alloc o) g A c l := h.below (below_alloc (Below.refl _ _) o)
theorem drew (h : HasSet w g A c l) : HasSet w.drew g A c l := h.below (below_drew (Below.refl _ _))
theorem cell (h : HasSet w g A c l) : w.cell? ⟨g, 0, none⟩ = some (.slice A l.length c) := (blk_cell h.blk 0).trans rfl
theorem lt (h : HasSet w g A c l) : g < w.heap.size := blk_lt h.blk
theorem made (w : World) (hr : Kd.C k56 w A l.length l) (hc : l.length ≤ c) : HasSet (w.alloc (.cells #[.slice A l.length c] 42)) w.heap.size A c l := ⟨heap_alloc_new w _, hc, Kd.C_below hr (below_alloc (Below.refl _ _) _)⟩
end HasSet
theorem held_keepC {W6 W W' : World} {p q r s : Addr} {vp vq vr vs : Value} (hb : Below W.heap.size W W') (h : Below W6.heap.size W6 W ∧ W.cell? p = some vp ∧ W.cell? q = some vq ∧ W.cell? r = some vr ∧ W.cell? s = some vs) :
    Below W6.heap.size W6 W' ∧ W'.cell? p = some vp ∧ W'.cell? q = some vq ∧ W'.cell? r = some vr ∧ W'.cell? s = some vs :=
  ⟨below_then h.1 h.1.size hb, (hb.cell (World.block_lt_of_cell? _ _ h.2.1)).trans h.2.1, (hb.cell (World.block_lt_of_cell? _ _ h.2.2.1)).trans h.2.2.1, (hb.cell (World.block_lt_of_cell? _ _ h.2.2.2.1)).trans h.2.2.2.1, (hb.cell (World.block_lt_of_cell? _ _ h.2.2.2.2)).trans h.2.2.2.2⟩
def Sets2 (w : World) (g : Nat) (x y : List S56) : Prop := ∀ kk, kk < 2 → ∃ (A : Option Addr) (c : Nat) (l : List S56), w.cell? ⟨g, kk, none⟩ = some (.slice A l.length c) ∧ l.length ≤ c ∧ Kd.C k56 w A l.length l ∧ (l = x ∨ l = y)
theorem Sets2.made {w : World} {A B : Option Addr} {c d : Nat} {x y : List S56} (hx : Kd.C k56 w A x.length x) (hc : x.length ≤ c) (hy : Kd.C k56 w B y.length y) (hd : y.length ≤ d) (t : TypeId) : Sets2 (w.alloc (.cells #[.slice A x.length c, .slice B y.length d] t)) w.heap.size x y := by
  have hb : Below w.heap.size w (w.alloc (.cells #[.slice A x.length c, .slice B y.length d] t)) := below_alloc (Below.refl _ _) _
  have hk := heap_alloc_new w (.cells #[.slice A x.length c, .slice B y.length d] t)
  intro kk hkk
  have : kk = 0 ∨ kk = 1 := by omega
  rcases this with rfl | rfl
  · exact ⟨A, c, x, (blk_cell hk 0).trans rfl, hc, Kd.C_below hx hb, .inl rfl⟩
  · exact ⟨B, d, y, (blk_cell hk 1).trans rfl, hd, Kd.C_below hy hb, .inr rfl⟩
set_option maxHeartbeats 8000000 in
set_option maxRecDepth 100000 in
theorem combines_calls (k : Nat) (A0 : Option Addr) (c0 : Nat) (l0 : List S56) (A1 : Option Addr) (c1 : Nat) (l1 : List S56) (A2 : Option Addr) (c2 : Nat) (l2 : List Int) (A3 : Option Addr) (c3 : Nat) (l3 : List Int) (n : Int) (a b : List S56) (w : World)
    (hr0 : Kd.C k56 w A0 l0.length l0) (hc0 : l0.length ≤ c0) (hr1 : Kd.C k56 w A1 l1.length l1) (hc1 : l1.length ≤ c1) (hr2 : Kd.C (Kd.int .u8) w A2 l2.length l2) (hc2 : l2.length ≤ c2) (hr3 : Kd.C (Kd.int .u8) w A3 l3.length l3) (hc3 : l3.length ≤ c3)
    (hs : soundservicelaw09_sane.f k = some true) (F : (l0.length : Int) ≤ 70 → (l1.length : Int) ≤ 70 → CombinesF k l0 l1 l2 l3 n a b) :
    Calls Try.prog 12 #[.agg #[.slice A0 l0.length c0], .agg #[.slice A1 l1.length c1], .slice A2 l2.length c2, .slice A3 l3.length c3, .int .i64 n] w fun e w' => e = .returned (.bool true) ∧ Below w.heap.size w w' := by
  have HR0 := Aside0.mk hr0
  have HC0 := Aside0.mk hc0
  have HR1 := Aside0.mk hr1
  have HC1 := Aside0.mk hc1
  have HR2 := Aside0.mk hr2
  have HC2 := Aside0.mk hc2
  have HR3 := Aside0.mk hr3
  have HC3 := Aside0.mk hc3
  have HS := Aside0.mk hs
  have HF := Aside0.mk F
  clear hr0 hc0 hr1 hc1 hr2 hc2 hr3 hc3 hs F
  have hu1 := Try.underlying42
  have hu2 := Try.underlying76
  go_enter Try.func12, Try.ntmps12
  go_wp2_with fail
  have Ba := Aside0.mk ((HasSet.made w HR0.out HC0.out).alloc (.cells #[.slice A1 l1.length c1] 42))
  have Bb : Aside0 (HasSet ((w.alloc (.cells #[.slice A0 l0.length c0] 42)).alloc (.cells #[.slice A1 l1.length c1] 42)) (w.heap.size + 1) A1 c1 l1) := Aside0.mk (by have h := HasSet.made (w.alloc (.cells #[.slice A0 l0.length c0] 42)) (Kd.C_below HR1.out (below_alloc (Below.refl _ _) _)) HC1.out; rwa [World.size_alloc] at h)
  have E := Aside0.mk (below_alloc (below_alloc (Below.refl w.heap.size w) (.cells #[.slice A0 l0.length c0] 42)) (.cells #[.slice A1 l1.length c1] 42))
  generalize (w.alloc (.cells #[.slice A0 l0.length c0] 42)).alloc (.cells #[.slice A1 l1.length c1] 42) = W0 at Ba Bb E ⊢
  refine (soundservicelaw09_sane.calls k true _ HS.out).mono ?_
  rintro e w1 ⟨rfl, hb1⟩
  replace Ba := Aside0.mk (Ba.out.below hb1)
  replace Bb := Aside0.mk (Bb.out.below hb1)
  replace E := Aside0.mk (below_then E.out E.out.size hb1)
  clear hb1
  have hxa := Ba.out.cell
  go_wp2_with fail
  clear hxa
  refine (soundservicekeep_Set.calls A0 c0 l0 (decide ((l0.length : Int) ≤ 70)) _ Ba.out.row Ba.out.cap rfl).mono ?_
  rintro e w2 ⟨rfl, hb1⟩
  replace Ba := Aside0.mk (Ba.out.below hb1)
  replace Bb := Aside0.mk (Bb.out.below hb1)
  replace E := Aside0.mk (below_then E.out E.out.size hb1)
  clear hb1
  have hxb := Bb.out.cell
  by_cases h0 : (l0.length : Int) ≤ 70
  case neg =>
    have d0 : decide ((l0.length : Int) ≤ 70) = false := decide_eq_false h0
    rw [d0]
    go_wp2
    go_ret
    exact ⟨rfl, E.out⟩
  case pos =>
  have d0 : decide ((l0.length : Int) ≤ 70) = true := decide_eq_true h0
  rw [d0]
  go_wp2_with fail
  clear hxb
  refine (soundservicekeep_Set.calls A1 c1 l1 (decide ((l1.length : Int) ≤ 70)) _ Bb.out.row Bb.out.cap rfl).mono ?_
  rintro e w3 ⟨rfl, hb1⟩
  replace Ba := Aside0.mk (Ba.out.below hb1)
  replace Bb := Aside0.mk (Bb.out.below hb1)
  replace E := Aside0.mk (below_then E.out E.out.size hb1)
  clear hb1
  by_cases h1 : (l1.length : Int) ≤ 70
  case neg =>
    have d1 : decide ((l1.length : Int) ≤ 70) = false := decide_eq_false h1
    rw [d1]
    go_wp2
    go_ret
    exact ⟨rfl, E.out⟩
  case pos =>
  have d1 : decide ((l1.length : Int) ≤ 70) = true := decide_eq_true h1
  rw [d1]
  clear d0 d1
  have FF := Aside0.mk (HF.out h0 h1)
  clear HF h0 h1
  go_wp2_with fail
  have hxa := Ba.out.cell
  clear hxa
  replace Ba := Aside0.mk Ba.out.drew
  replace Bb := Aside0.mk Bb.out.drew
  refine start_ (n := 6) (S := (fun W' => W'.cell? ⟨w.heap.size, 0, none⟩ = some (.slice A0 l0.length c0) ∧ Below w.heap.size w W')) (ds := []) #[false, false, false, false, false, false] (by kernel_rfl) rfl rfl (⟨Ba.out.cell, below_drew E.out⟩) (fun hHeld => ?_)
  refine with_tabW combines.tab5 combines.bits5 (fun HT_ HW_ => ?_)
  refine take_ (i := 0) (N := (some 33)) (v := ?_) (a' := ?_) #[true, false, false, false, false, false] rfl rfl (take_ofW HT_.out HW_.out (by kernel_rfl)) (fun _ _ _ h => h) (Or.inl ⟨by rfl, ?_⟩) hHeld ?_ ?_
  rotate_left
  · rintro w' ⟨s_, s0⟩
    go_simp
    first | done | with_reducible rfl
  rotate_left
  · simp only [Act.put, List.setIfInBounds_toArray, List.set_cons_zero, List.set_cons_succ, i64_w, i32_w]
    rfl
  refine pure_ (i := 1) (N := (some 34)) (v := ?_) (a' := ?_) #[true, true, false, false, false, false] rfl rfl (any_of HT_.out (by kernel_rfl)) (fun _ _ _ h => h) (Or.inl ⟨by rfl, ?_⟩) ?_ ?_
  rotate_left
  · intro w'
    go_simp
    first | done | with_reducible rfl
  rotate_left
  · simp only [Act.put, List.setIfInBounds_toArray, List.set_cons_zero, List.set_cons_succ, i64_w, i32_w]
    rfl
  refine pure_ (i := 5) (N := (some 38)) (v := ?_) (a' := ?_) #[true, true, false, false, false, true] rfl rfl (any_of HT_.out (by kernel_rfl)) (fun _ _ _ h => h) (Or.inl ⟨by rfl, ?_⟩) ?_ ?_
  rotate_left
  · intro w'
    go_simp
    first | done | with_reducible rfl
  rotate_left
  · simp only [Act.put, List.setIfInBounds_toArray, List.set_cons_zero, List.set_cons_succ, i64_w, i32_w]
    rfl
  refine one_ (i := 2) (N := (some 35)) #[true, true, true, false, false, true] rfl rfl (one_of HT_.out (by kernel_rfl)) (by decide) (fun K hK => ?_)
  refine goes_ Try.func34 (by kernel_rfl) rfl #[.slice A2 l2.length c2] (by rfl) rfl rfl (by (try simp only [List.map_toArray, List.map_cons, List.map_nil]); first | done | rfl) ?_
  refine (soundservicelaw09_made.calls k A2 c2 l2 a _ (Kd.C_below HR2.out hHeld.2) HC2.out FF.out.ma).mono ?_
  rintro e w4 ⟨v0, rfl, hR, hb1⟩
  obtain ⟨Ar, cr, rfl, hcap, hC⟩ := Kd.R_reads hR
  have hS_ := And.intro ((blk_cell (blk_below Ba.out.blk hb1) 0).trans rfl : w4.cell? ⟨w.heap.size, 0, none⟩ = some (.slice A0 l0.length c0)) (below_then hHeld.2 hHeld.2.size hb1)
  replace Ba := Aside0.mk (Ba.out.below hb1)
  replace Bb := Aside0.mk (Bb.out.below hb1)
  have Cr := Aside0.mk hC
  have Lr := Aside0.mk hcap
  clear hC hcap
  clear hR hb1
  refine ⟨_, rfl, ?_⟩
  refine hK.out _ _ (hS_) (fun hHeld => ?_)
  clear hK K
  refine norm_ (a' := ?_) ?_ ?_
  rotate_left
  · show Act.put _ (some 35) _ = _
    simp only [Act.put, List.setIfInBounds_toArray, List.set_cons_zero, List.set_cons_succ, i64_w, i32_w]
    rfl
  refine one_ (i := 3) (N := (some 36)) #[true, true, true, true, false, true] rfl rfl (one_of HT_.out (by kernel_rfl)) (by decide) (fun K hK => ?_)
  refine event_step (v := .slice (some ⟨w4.heap.size, 0, none⟩) 2 2) (w1 := w4.alloc (.cells #[.slice A0 l0.length c0, .slice Ar a.length cr] 42)) (by rfl) (by first | (go_simp; done) | (go_simp; rfl)) ?_
  have HX := Aside0.mk (Sets2.made Ba.out.row Ba.out.cap Cr.out Lr.out 42)
  replace Ba := Aside0.mk (Ba.out.alloc (.cells #[.slice A0 l0.length c0, .slice Ar a.length cr] 42))
  replace Bb := Aside0.mk (Bb.out.alloc (.cells #[.slice A0 l0.length c0, .slice Ar a.length cr] 42))
  replace E := Aside0.mk (below_alloc hHeld.2 (.cells #[.slice A0 l0.length c0, .slice Ar a.length cr] 42))
  have hS_ := And.intro Ba.out.cell E.out
  refine hK.out _ _ hS_ (fun hHeld => ?_)
  clear hK K hS_
  refine norm_ (a' := ?_) ?_ ?_
  rotate_left
  · show Act.put _ (some 36) _ = _
    simp only [Act.put, List.setIfInBounds_toArray, List.set_cons_zero, List.set_cons_succ, i64_w, i32_w]
    rfl
  refine pure_ (i := 4) (N := (some 37)) (v := ?_) (a' := ?_) #[true, true, true, true, true, true] rfl rfl (any_of HT_.out (by kernel_rfl)) (fun _ _ _ h => h) (Or.inl ⟨by rfl, ?_⟩) ?_ ?_
  rotate_left
  · intro w'
    go_simp
    first | done | with_reducible rfl
  rotate_left
  · simp only [Act.put, List.setIfInBounds_toArray, List.set_cons_zero, List.set_cons_succ, i64_w, i32_w]
    rfl
  refine done_ (done_of HT_.out (by kernel_rfl)) ?_
  clear hHeld HT_ HW_
  clear Cr Lr
  generalize w4.alloc (.cells #[.slice A0 l0.length c0, .slice Ar a.length cr] 42) = wo at HX Ba Bb E ⊢
  have C3o := Aside0.mk (Kd.C_below HR3.out E.out)
  clear Ba
  go_wp2_with fail
  go_loopg [38] 2 (fun gg s38 W => ∃ kk : Nat, kk ≤ 2 ∧ 2 - kk ≤ gg ∧ s38 = .int .i64 kk ∧ Aside0 (Below wo.heap.size wo W))
  case atStart => exact ⟨0, by omega, by omega, rfl, ⟨Below.refl _ _⟩⟩
  case round =>
    obtain ⟨kk, hkk, hg, rfl, BW⟩ := hrel
    by_cases hlt : kk < 2
    · have hltz : (kk : Int) < 2 := by omega
      obtain ⟨Ax, cx, x, hcell, hcx, hCx, hx⟩ := HX.out kk hlt
      have h0 := (BW.out.cell (World.block_lt_of_cell? wo _ hcell)).trans hcell
      have CX := Aside0.mk (Kd.C_below hCx BW.out)
      have LX := Aside0.mk hcx
      have EX := Aside0.mk hx
      clear hcell hcx hCx hx
      go_wp2_with fail
      clear h0
      have Bx := Aside0.mk (HasSet.made wr CX.out LX.out)
      have Bp := Aside0.mk ((Bb.out.below BW.out).alloc (.cells #[.slice Ax x.length cx] 42))
      have E1 := Aside0.mk (below_alloc BW.out (.cells #[.slice Ax x.length cx] 42))
      clear CX LX BW
      generalize wr.heap.size = gx at Bx ⊢
      generalize wr.alloc (.cells #[.slice Ax x.length cx] 42) = W3 at Bx Bp E1 ⊢
      replace Bx := Aside0.mk Bx.out.drew
      replace Bp := Aside0.mk Bp.out.drew
      refine start_ (n := 6) (S := (fun W' => W'.cell? ⟨(w.heap.size + 1), 0, none⟩ = some (.slice A1 l1.length c1) ∧ Below wo.heap.size wo W')) (ds := []) #[false, false, false, false, false, false] (by kernel_rfl) rfl rfl (⟨Bp.out.cell, below_drew E1.out⟩) (fun hHeld => ?_)
      refine with_tabW combines.tab8 combines.bits8 (fun HT_ HW_ => ?_)
      refine take_ (i := 0) (N := (some 42)) (v := ?_) (a' := ?_) #[true, false, false, false, false, false] rfl rfl (take_ofW HT_.out HW_.out (by kernel_rfl)) (fun _ _ _ h => h) (Or.inl ⟨by rfl, ?_⟩) hHeld ?_ ?_
      rotate_left
      · rintro w' ⟨s_, s0⟩
        go_simp
        first | done | with_reducible rfl
      rotate_left
      · simp only [Act.put, List.setIfInBounds_toArray, List.set_cons_zero, List.set_cons_succ, i64_w, i32_w]
        rfl
      refine pure_ (i := 1) (N := (some 43)) (v := ?_) (a' := ?_) #[true, true, false, false, false, false] rfl rfl (any_of HT_.out (by kernel_rfl)) (fun _ _ _ h => h) (Or.inl ⟨by rfl, ?_⟩) ?_ ?_
      rotate_left
      · intro w'
        go_simp
        first | done | with_reducible rfl
      rotate_left
      · simp only [Act.put, List.setIfInBounds_toArray, List.set_cons_zero, List.set_cons_succ, i64_w, i32_w]
        rfl
      refine pure_ (i := 5) (N := (some 47)) (v := ?_) (a' := ?_) #[true, true, false, false, false, true] rfl rfl (any_of HT_.out (by kernel_rfl)) (fun _ _ _ h => h) (Or.inl ⟨by rfl, ?_⟩) ?_ ?_
      rotate_left
      · intro w'
        go_simp
        first | done | with_reducible rfl
      rotate_left
      · simp only [Act.put, List.setIfInBounds_toArray, List.set_cons_zero, List.set_cons_succ, i64_w, i32_w]
        rfl
      refine one_ (i := 2) (N := (some 44)) #[true, true, true, false, false, true] rfl rfl (one_of HT_.out (by kernel_rfl)) (by decide) (fun K hK => ?_)
      refine goes_ Try.func34 (by kernel_rfl) rfl #[.slice A3 l3.length c3] (by rfl) rfl rfl (by (try simp only [List.map_toArray, List.map_cons, List.map_nil]); first | done | rfl) ?_
      refine (soundservicelaw09_made.calls k A3 c3 l3 b _ (Kd.C_below C3o.out hHeld.2) HC3.out FF.out.mb).mono ?_
      rintro e w5 ⟨v0, rfl, hR, hb1⟩
      obtain ⟨Ar, cr, rfl, hcap, hC⟩ := Kd.R_reads hR
      have hS_ := And.intro ((blk_cell (blk_below Bp.out.blk hb1) 0).trans rfl : w5.cell? ⟨(w.heap.size + 1), 0, none⟩ = some (.slice A1 l1.length c1)) (below_then hHeld.2 hHeld.2.size hb1)
      replace Bp := Aside0.mk (Bp.out.below hb1)
      replace Bx := Aside0.mk (Bx.out.below hb1)
      have Cr := Aside0.mk hC
      have Lr := Aside0.mk hcap
      clear hC hcap
      clear hR hb1
      refine ⟨_, rfl, ?_⟩
      refine hK.out _ _ (hS_) (fun hHeld => ?_)
      clear hK K
      refine norm_ (a' := ?_) ?_ ?_
      rotate_left
      · show Act.put _ (some 44) _ = _
        simp only [Act.put, List.setIfInBounds_toArray, List.set_cons_zero, List.set_cons_succ, i64_w, i32_w]
        rfl
      refine one_ (i := 3) (N := (some 45)) #[true, true, true, true, false, true] rfl rfl (one_of HT_.out (by kernel_rfl)) (by decide) (fun K hK => ?_)
      refine event_step (v := .slice (some ⟨w5.heap.size, 0, none⟩) 2 2) (w1 := w5.alloc (.cells #[.slice A1 l1.length c1, .slice Ar b.length cr] 42)) (by rfl) (by first | (go_simp; done) | (go_simp; rfl)) ?_
      have HY := Aside0.mk (Sets2.made Bp.out.row Bp.out.cap Cr.out Lr.out 42)
      replace Bp := Aside0.mk (Bp.out.alloc (.cells #[.slice A1 l1.length c1, .slice Ar b.length cr] 42))
      replace Bx := Aside0.mk (Bx.out.alloc (.cells #[.slice A1 l1.length c1, .slice Ar b.length cr] 42))
      replace E1 := Aside0.mk (below_alloc hHeld.2 (.cells #[.slice A1 l1.length c1, .slice Ar b.length cr] 42))
      have hS_ := And.intro Bp.out.cell E1.out
      refine hK.out _ _ hS_ (fun hHeld => ?_)
      clear hK K hS_
      refine norm_ (a' := ?_) ?_ ?_
      rotate_left
      · show Act.put _ (some 45) _ = _
        simp only [Act.put, List.setIfInBounds_toArray, List.set_cons_zero, List.set_cons_succ, i64_w, i32_w]
        rfl
      refine pure_ (i := 4) (N := (some 46)) (v := ?_) (a' := ?_) #[true, true, true, true, true, true] rfl rfl (any_of HT_.out (by kernel_rfl)) (fun _ _ _ h => h) (Or.inl ⟨by rfl, ?_⟩) ?_ ?_
      rotate_left
      · intro w'
        go_simp
        first | done | with_reducible rfl
      rotate_left
      · simp only [Act.put, List.setIfInBounds_toArray, List.set_cons_zero, List.set_cons_succ, i64_w, i32_w]
        rfl
      refine done_ (done_of HT_.out (by kernel_rfl)) ?_
      clear hHeld HT_ HW_
      clear Cr Lr
      generalize w5.alloc (.cells #[.slice A1 l1.length c1, .slice Ar b.length cr] 42) = wi at HY Bx Bp E1 ⊢
      clear Bp
      go_wp2_with fail
      go_loopg [47] 2 (fun gg s47 W => ∃ jj : Nat, jj ≤ 2 ∧ 2 - jj ≤ gg ∧ s47 = .int .i64 jj ∧ Aside0 (Below wi.heap.size wi W))
      case atStart => exact ⟨0, by omega, by omega, rfl, ⟨Below.refl _ _⟩⟩
      case round =>
        obtain ⟨jj, hjj, hg2, rfl, BV⟩ := hrel
        by_cases hlt2 : jj < 2
        · have hltz2 : (jj : Int) < 2 := by omega
          obtain ⟨Ay, cy, y, hcell, hcy, hCy, hy⟩ := HY.out jj hlt2
          have h0 := (BV.out.cell (World.block_lt_of_cell? wi _ hcell)).trans hcell
          have CY := Aside0.mk (Kd.C_below hCy BV.out)
          have LY := Aside0.mk hcy
          have EY := Aside0.mk hy
          clear hcell hcy hCy hy
          have hcx := (Bx.out.below BV.out).cell
          have hlx := (Bx.out.below BV.out).lt
          go_wp2_with fail
          clear h0 hcx hlx
          have By := Aside0.mk (HasSet.made wr CY.out LY.out)
          replace Bx := Aside0.mk ((Bx.out.below BV.out).alloc (.cells #[.slice Ay y.length cy] 42))
          have E2 := Aside0.mk (below_alloc BV.out (.cells #[.slice Ay y.length cy] 42))
          clear CY LY BV
          obtain ⟨u, v, i, j, e, b1, FP'⟩ := FF.out.pair x y EX.out EY.out
          have FP := Aside0.mk FP'
          clear FP'
          generalize wr.heap.size = gy at By ⊢
          generalize wr.alloc (.cells #[.slice Ay y.length cy] 42) = W4 at Bx By E2 ⊢
          refine (intset_Union.calls k Ax cx x Ay cy y u e _ Bx.out.row Bx.out.cap By.out.row By.out.cap FP.out.1).mono ?_
          rintro e' w6 ⟨v0, rfl, hR, hb1⟩
          obtain ⟨Au, cu, rfl, hcap, hC⟩ := Kd.R_reads hR
          have Bu := Aside0.mk (HasSet.made w6 hC hcap)
          replace Bx := Aside0.mk (Bx.out.below hb1)
          replace By := Aside0.mk (By.out.below hb1)
          replace E2 := Aside0.mk (below_then E2.out E2.out.size hb1)
          clear hR hb1 hcap hC
          have hcx := Bx.out.cell
          have hlx := Bx.out.lt
          have hcy := By.out.cell
          have hly := By.out.lt
          go_wp2_with fail
          clear hcx hlx hcy hly
          replace Bx := Aside0.mk (Bx.out.alloc (.cells #[.slice Au u.length cu] 42))
          replace By := Aside0.mk (By.out.alloc (.cells #[.slice Au u.length cu] 42))
          replace E2 := Aside0.mk (below_alloc E2.out (.cells #[.slice Au u.length cu] 42))
          generalize w6.heap.size = gu at Bu ⊢
          generalize w6.alloc (.cells #[.slice Au u.length cu] 42) = W5 at Bx By Bu E2 ⊢
          refine (soundserviceref09_Union.calls k Ax cx x Ay cy y v e _ Bx.out.row Bx.out.cap By.out.row By.out.cap FP.out.2.1).mono ?_
          rintro e' w7 ⟨v0, rfl, hR, hb1⟩
          obtain ⟨Av, cv, rfl, hcap, hC⟩ := Kd.R_reads hR
          have Bv := Aside0.mk (HasSet.made w7 hC hcap)
          replace Bx := Aside0.mk (Bx.out.below hb1)
          replace By := Aside0.mk (By.out.below hb1)
          replace Bu := Aside0.mk (Bu.out.below hb1)
          replace E2 := Aside0.mk (below_then E2.out E2.out.size hb1)
          clear hR hb1 hcap hC
          go_wp2_with fail
          replace Bx := Aside0.mk (Bx.out.alloc (.cells #[.slice Av v.length cv] 42))
          replace By := Aside0.mk (By.out.alloc (.cells #[.slice Av v.length cv] 42))
          replace Bu := Aside0.mk (Bu.out.alloc (.cells #[.slice Av v.length cv] 42))
          replace E2 := Aside0.mk (below_alloc E2.out (.cells #[.slice Av v.length cv] 42))
          generalize w7.heap.size = gv at Bv ⊢
          generalize w7.alloc (.cells #[.slice Av v.length cv] 42) = W5 at Bx By Bu Bv E2 ⊢
          refine start_ (n := 28) (S := (fun W' => Below W5.heap.size W5 W' ∧ W'.cell? ⟨gx, 0, none⟩ = some (.slice Ax x.length cx) ∧ W'.cell? ⟨gy, 0, none⟩ = some (.slice Ay y.length cy) ∧ W'.cell? ⟨gu, 0, none⟩ = some (.slice Au u.length cu) ∧ W'.cell? ⟨gv, 0, none⟩ = some (.slice Av v.length cv))) (ds := []) #[false, false, false, false, false, false, false, false, false, false, false, false, false, false, false, false, false, false, false, false, false, false, false, false, false, false, false, false] (by kernel_rfl) rfl rfl (⟨below_drew (Below.refl _ _), Bx.out.drew.cell, By.out.drew.cell, Bu.out.drew.cell, Bv.out.drew.cell⟩) (fun hHeld => ?_)
          refine with_tabW combines.tab13 combines.bits13 (fun HT_ HW_ => ?_)
          refine pure_ (i := 0) (N := (some 63)) (v := ?_) (a' := ?_) #[true, false, false, false, false, false, false, false, false, false, false, false, false, false, false, false, false, false, false, false, false, false, false, false, false, false, false, false] rfl rfl (any_of HT_.out (by kernel_rfl)) (fun _ _ _ h => h) (Or.inl ⟨by rfl, ?_⟩) ?_ ?_
          rotate_left
          · intro w'
            go_simp
            first | done | with_reducible rfl
          rotate_left
          · simp only [Act.put, List.setIfInBounds_toArray, List.set_cons_zero, List.set_cons_succ, i64_w, i32_w]
            rfl
          refine pure_ (i := 1) (N := (some 64)) (v := ?_) (a' := ?_) #[true, true, false, false, false, false, false, false, false, false, false, false, false, false, false, false, false, false, false, false, false, false, false, false, false, false, false, false] rfl rfl (any_of HT_.out (by kernel_rfl)) (fun _ _ _ h => h) (Or.inl ⟨by rfl, ?_⟩) ?_ ?_
          rotate_left
          · intro w'
            go_simp
            first | done | with_reducible rfl
          rotate_left
          · simp only [Act.put, List.setIfInBounds_toArray, List.set_cons_zero, List.set_cons_succ, i64_w, i32_w]
            rfl
          refine pure_ (i := 2) (N := (some 65)) (v := ?_) (a' := ?_) #[true, true, true, false, false, false, false, false, false, false, false, false, false, false, false, false, false, false, false, false, false, false, false, false, false, false, false, false] rfl rfl (any_of HT_.out (by kernel_rfl)) (fun _ _ _ h => h) (Or.inl ⟨by rfl, ?_⟩) ?_ ?_
          rotate_left
          · intro w'
            go_simp
            first | done | with_reducible rfl
          rotate_left
          · simp only [Act.put, List.setIfInBounds_toArray, List.set_cons_zero, List.set_cons_succ, i64_w, i32_w]
            rfl
          refine pure_ (i := 3) (N := (some 66)) (v := ?_) (a' := ?_) #[true, true, true, true, false, false, false, false, false, false, false, false, false, false, false, false, false, false, false, false, false, false, false, false, false, false, false, false] rfl rfl (any_of HT_.out (by kernel_rfl)) (fun _ _ _ h => h) (Or.inl ⟨by rfl, ?_⟩) ?_ ?_
          rotate_left
          · intro w'
            go_simp
            first | done | with_reducible rfl
          rotate_left
          · simp only [Act.put, List.setIfInBounds_toArray, List.set_cons_zero, List.set_cons_succ, i64_w, i32_w]
            rfl
          refine take_ (i := 4) (N := (some 67)) (v := ?_) (a' := ?_) #[true, true, true, true, true, false, false, false, false, false, false, false, false, false, false, false, false, false, false, false, false, false, false, false, false, false, false, false] rfl rfl (take_ofW HT_.out HW_.out (by kernel_rfl)) (fun _ _ _ h => h) (Or.inl ⟨by rfl, ?_⟩) hHeld ?_ ?_
          rotate_left
          · rintro w' ⟨s_, s0, s1, s2, s3⟩
            go_simp
            first | done | with_reducible rfl
          rotate_left
          · simp only [Act.put, List.setIfInBounds_toArray, List.set_cons_zero, List.set_cons_succ, i64_w, i32_w]
            rfl
          refine take_ (i := 5) (N := (some 68)) (v := ?_) (a' := ?_) #[true, true, true, true, true, true, false, false, false, false, false, false, false, false, false, false, false, false, false, false, false, false, false, false, false, false, false, false] rfl rfl (take_ofW HT_.out HW_.out (by kernel_rfl)) (fun _ _ _ h => h) (Or.inl ⟨by rfl, ?_⟩) hHeld ?_ ?_
          rotate_left
          · rintro w' ⟨s_, s0, s1, s2, s3⟩
            go_simp
            first | done | with_reducible rfl
          rotate_left
          · simp only [Act.put, List.setIfInBounds_toArray, List.set_cons_zero, List.set_cons_succ, i64_w, i32_w]
            rfl
          refine one_ (i := 6) (N := (some 69)) #[true, true, true, true, true, true, true, false, false, false, false, false, false, false, false, false, false, false, false, false, false, false, false, false, false, false, false, false] rfl rfl (one_of HT_.out (by kernel_rfl)) (by decide) (fun K hK => ?_)
          refine goes_ Try.func29 (by kernel_rfl) rfl #[.agg #[.slice Au u.length cu], .agg #[.slice Av v.length cv]] (by rfl) rfl rfl (by (try simp only [List.map_toArray, List.map_cons, List.map_nil]); first | done | rfl) ?_
          refine (soundserviceref09_Same.calls k Au cu u Av cv v true _ (Kd.C_below Bu.out.row hHeld.1) Bu.out.cap (Kd.C_below Bv.out.row hHeld.1) Bv.out.cap FP.out.2.2.1).mono ?_
          rintro e w40 ⟨rfl, hb1⟩
          refine ⟨_, rfl, ?_⟩
          refine hK.out _ _ (held_keepC hb1 hHeld) (fun hHeld => ?_)
          clear hK K
          refine norm_ (a' := ?_) ?_ ?_
          rotate_left
          · show Act.put _ (some 69) _ = _
            simp only [Act.put, List.setIfInBounds_toArray, List.set_cons_zero, List.set_cons_succ, i64_w, i32_w]
            rfl
          refine pure_ (i := 7) (N := (some 70)) (v := ?_) (a' := ?_) #[true, true, true, true, true, true, true, true, false, false, false, false, false, false, false, false, false, false, false, false, false, false, false, false, false, false, false, false] rfl rfl (any_of HT_.out (by kernel_rfl)) (fun _ _ _ h => h) (Or.inl ⟨by rfl, ?_⟩) ?_ ?_
          rotate_left
          · intro w'
            go_simp
            first | done | with_reducible rfl
          rotate_left
          · simp only [Act.put, List.setIfInBounds_toArray, List.set_cons_zero, List.set_cons_succ, i64_w, i32_w]
            rfl
          refine pure_ (i := 8) (N := (some 71)) (v := ?_) (a' := ?_) #[true, true, true, true, true, true, true, true, true, false, false, false, false, false, false, false, false, false, false, false, false, false, false, false, false, false, false, false] rfl rfl (any_of HT_.out (by kernel_rfl)) (fun _ _ _ h => h) (Or.inl ⟨by rfl, ?_⟩) ?_ ?_
          rotate_left
          · intro w'
            go_simp
            first | done | with_reducible rfl
          rotate_left
          · simp only [Act.put, List.setIfInBounds_toArray, List.set_cons_zero, List.set_cons_succ, i64_w, i32_w]
            rfl
          refine pure_ (i := 9) (N := (some 72)) (v := ?_) (a' := ?_) #[true, true, true, true, true, true, true, true, true, true, false, false, false, false, false, false, false, false, false, false, false, false, false, false, false, false, false, false] rfl rfl (any_of HT_.out (by kernel_rfl)) (fun _ _ _ h => h) (Or.inl ⟨by rfl, ?_⟩) ?_ ?_
          rotate_left
          · intro w'
            go_simp
            first | done | with_reducible rfl
          rotate_left
          · simp only [Act.put, List.setIfInBounds_toArray, List.set_cons_zero, List.set_cons_succ, i64_w, i32_w]
            rfl
          refine take_ (i := 10) (N := (some 73)) (v := ?_) (a' := ?_) #[true, true, true, true, true, true, true, true, true, true, true, false, false, false, false, false, false, false, false, false, false, false, false, false, false, false, false, false] rfl rfl (take_ofW HT_.out HW_.out (by kernel_rfl)) (fun _ _ _ h => h) (Or.inl ⟨by rfl, ?_⟩) hHeld ?_ ?_
          rotate_left
          · rintro w' ⟨s_, s0, s1, s2, s3⟩
            go_simp
            first | done | with_reducible rfl
          rotate_left
          · simp only [Act.put, List.setIfInBounds_toArray, List.set_cons_zero, List.set_cons_succ, i64_w, i32_w]
            rfl
          refine take_ (i := 11) (N := (some 74)) (v := ?_) (a' := ?_) #[true, true, true, true, true, true, true, true, true, true, true, true, false, false, false, false, false, false, false, false, false, false, false, false, false, false, false, false] rfl rfl (take_ofW HT_.out HW_.out (by kernel_rfl)) (fun _ _ _ h => h) (Or.inl ⟨by rfl, ?_⟩) hHeld ?_ ?_
          rotate_left
          · rintro w' ⟨s_, s0, s1, s2, s3⟩
            go_simp
            first | done | with_reducible rfl
          rotate_left
          · simp only [Act.put, List.setIfInBounds_toArray, List.set_cons_zero, List.set_cons_succ, i64_w, i32_w]
            rfl
          refine take_ (i := 13) (N := (some 76)) (v := ?_) (a' := ?_) #[true, true, true, true, true, true, true, true, true, true, true, true, false, true, false, false, false, false, false, false, false, false, false, false, false, false, false, false] rfl rfl (take_ofW HT_.out HW_.out (by kernel_rfl)) (fun _ _ _ h => h) (Or.inl ⟨by rfl, ?_⟩) hHeld ?_ ?_
          rotate_left
          · rintro w' ⟨s_, s0, s1, s2, s3⟩
            go_simp
            first | done | with_reducible rfl
          rotate_left
          · simp only [Act.put, List.setIfInBounds_toArray, List.set_cons_zero, List.set_cons_succ, i64_w, i32_w]
            rfl
          refine take_ (i := 14) (N := (some 77)) (v := ?_) (a' := ?_) #[true, true, true, true, true, true, true, true, true, true, true, true, false, true, true, false, false, false, false, false, false, false, false, false, false, false, false, false] rfl rfl (take_ofW HT_.out HW_.out (by kernel_rfl)) (fun _ _ _ h => h) (Or.inl ⟨by rfl, ?_⟩) hHeld ?_ ?_
          rotate_left
          · rintro w' ⟨s_, s0, s1, s2, s3⟩
            go_simp
            first | done | with_reducible rfl
          rotate_left
          · simp only [Act.put, List.setIfInBounds_toArray, List.set_cons_zero, List.set_cons_succ, i64_w, i32_w]
            rfl
          refine one_ (i := 12) (N := (some 75)) #[true, true, true, true, true, true, true, true, true, true, true, true, true, true, true, false, false, false, false, false, false, false, false, false, false, false, false, false] rfl rfl (one_of HT_.out (by kernel_rfl)) (by decide) (fun K hK => ?_)
          refine goes_ Try.func51 (by kernel_rfl) rfl #[.agg #[.slice Ax x.length cx], .agg #[.slice Ay y.length cy]] (by rfl) rfl rfl (by (try simp only [List.map_toArray, List.map_cons, List.map_nil]); first | done | rfl) ?_
          refine (intset_Intersect.calls k Ax cx x Ay cy y i _ (Kd.C_below Bx.out.row hHeld.1) Bx.out.cap (Kd.C_below By.out.row hHeld.1) By.out.cap FP.out.2.2.2.1).mono ?_
          rintro e w40 ⟨v0, rfl, hR, hb1⟩
          obtain ⟨Ai, ci, rfl, hc1, hC1⟩ := Kd.R_reads hR
          have Ci := Aside0.mk hC1
          have Li := Aside0.mk hc1
          clear hR hC1 hc1
          refine ⟨_, rfl, ?_⟩
          refine hK.out _ _ (held_keepC hb1 hHeld) (fun hHeld => ?_)
          clear hK K
          refine norm_ (a' := ?_) ?_ ?_
          rotate_left
          · show Act.put _ (some 75) _ = _
            simp only [Act.put, List.setIfInBounds_toArray, List.set_cons_zero, List.set_cons_succ, i64_w, i32_w]
            rfl
          refine one_ (i := 15) (N := (some 78)) #[true, true, true, true, true, true, true, true, true, true, true, true, true, true, true, true, false, false, false, false, false, false, false, false, false, false, false, false] rfl rfl (one_of HT_.out (by kernel_rfl)) (by decide) (fun K hK => ?_)
          refine goes_ Try.func53 (by kernel_rfl) rfl #[.agg #[.slice Ax x.length cx], .agg #[.slice Ay y.length cy]] (by rfl) rfl rfl (by (try simp only [List.map_toArray, List.map_cons, List.map_nil]); first | done | rfl) ?_
          refine (soundserviceref09_Intersect.calls k Ax cx x Ay cy y j _ (Kd.C_below Bx.out.row hHeld.1) Bx.out.cap (Kd.C_below By.out.row hHeld.1) By.out.cap FP.out.2.2.2.2.1).mono ?_
          rintro e w40 ⟨v0, rfl, hR, hb1⟩
          obtain ⟨Aj, cj, rfl, hc1, hC1⟩ := Kd.R_reads hR
          replace Ci := Aside0.mk (Kd.C_below Ci.out hb1)
          have Cj := Aside0.mk hC1
          have Lj := Aside0.mk hc1
          clear hR hC1 hc1
          refine ⟨_, rfl, ?_⟩
          refine hK.out _ _ (held_keepC hb1 hHeld) (fun hHeld => ?_)
          clear hK K
          refine norm_ (a' := ?_) ?_ ?_
          rotate_left
          · show Act.put _ (some 78) _ = _
            simp only [Act.put, List.setIfInBounds_toArray, List.set_cons_zero, List.set_cons_succ, i64_w, i32_w]
            rfl
          refine one_ (i := 16) (N := (some 79)) #[true, true, true, true, true, true, true, true, true, true, true, true, true, true, true, true, true, false, false, false, false, false, false, false, false, false, false, false] rfl rfl (one_of HT_.out (by kernel_rfl)) (by decide) (fun K hK => ?_)
          refine goes_ Try.func29 (by kernel_rfl) rfl #[.agg #[.slice Ai i.length ci], .agg #[.slice Aj j.length cj]] (by rfl) rfl rfl (by (try simp only [List.map_toArray, List.map_cons, List.map_nil]); first | done | rfl) ?_
          refine (soundserviceref09_Same.calls k Ai ci i Aj cj j true _ Ci.out Li.out Cj.out Lj.out FP.out.2.2.2.2.2.1).mono ?_
          rintro e w40 ⟨rfl, hb1⟩
          refine ⟨_, rfl, ?_⟩
          refine hK.out _ _ (held_keepC hb1 hHeld) (fun hHeld => ?_)
          clear hK K
          refine norm_ (a' := ?_) ?_ ?_
          rotate_left
          · show Act.put _ (some 79) _ = _
            simp only [Act.put, List.setIfInBounds_toArray, List.set_cons_zero, List.set_cons_succ, i64_w, i32_w]
            rfl
          refine pure_ (i := 17) (N := (some 80)) (v := ?_) (a' := ?_) #[true, true, true, true, true, true, true, true, true, true, true, true, true, true, true, true, true, true, false, false, false, false, false, false, false, false, false, false] rfl rfl (any_of HT_.out (by kernel_rfl)) (fun _ _ _ h => h) (Or.inl ⟨by rfl, ?_⟩) ?_ ?_
          rotate_left
          · intro w'
            go_simp
            first | done | with_reducible rfl
          rotate_left
          · simp only [Act.put, List.setIfInBounds_toArray, List.set_cons_zero, List.set_cons_succ, i64_w, i32_w]
            rfl
          refine pure_ (i := 18) (N := (some 81)) (v := ?_) (a' := ?_) #[true, true, true, true, true, true, true, true, true, true, true, true, true, true, true, true, true, true, true, false, false, false, false, false, false, false, false, false] rfl rfl (any_of HT_.out (by kernel_rfl)) (fun _ _ _ h => h) (Or.inl ⟨by rfl, ?_⟩) ?_ ?_
          rotate_left
          · intro w'
            go_simp
            first | done | with_reducible rfl
          rotate_left
          · simp only [Act.put, List.setIfInBounds_toArray, List.set_cons_zero, List.set_cons_succ, i64_w, i32_w]
            rfl
          refine pure_ (i := 19) (N := (some 82)) (v := ?_) (a' := ?_) #[true, true, true, true, true, true, true, true, true, true, true, true, true, true, true, true, true, true, true, true, false, false, false, false, false, false, false, false] rfl rfl (any_of HT_.out (by kernel_rfl)) (fun _ _ _ h => h) (Or.inl ⟨by rfl, ?_⟩) ?_ ?_
          rotate_left
          · intro w'
            go_simp
            first | done | with_reducible rfl
          rotate_left
          · simp only [Act.put, List.setIfInBounds_toArray, List.set_cons_zero, List.set_cons_succ, i64_w, i32_w]
            rfl
          refine take_ (i := 20) (N := (some 83)) (v := ?_) (a' := ?_) #[true, true, true, true, true, true, true, true, true, true, true, true, true, true, true, true, true, true, true, true, true, false, false, false, false, false, false, false] rfl rfl (take_ofW HT_.out HW_.out (by kernel_rfl)) (fun _ _ _ h => h) (Or.inl ⟨by rfl, ?_⟩) hHeld ?_ ?_
          rotate_left
          · rintro w' ⟨s_, s0, s1, s2, s3⟩
            go_simp
            first | done | with_reducible rfl
          rotate_left
          · simp only [Act.put, List.setIfInBounds_toArray, List.set_cons_zero, List.set_cons_succ, i64_w, i32_w]
            rfl
          refine take_ (i := 21) (N := (some 84)) (v := ?_) (a' := ?_) #[true, true, true, true, true, true, true, true, true, true, true, true, true, true, true, true, true, true, true, true, true, true, false, false, false, false, false, false] rfl rfl (take_ofW HT_.out HW_.out (by kernel_rfl)) (fun _ _ _ h => h) (Or.inl ⟨by rfl, ?_⟩) hHeld ?_ ?_
          rotate_left
          · rintro w' ⟨s_, s0, s1, s2, s3⟩
            go_simp
            first | done | with_reducible rfl
          rotate_left
          · simp only [Act.put, List.setIfInBounds_toArray, List.set_cons_zero, List.set_cons_succ, i64_w, i32_w]
            rfl
          refine take_ (i := 23) (N := (some 86)) (v := ?_) (a' := ?_) #[true, true, true, true, true, true, true, true, true, true, true, true, true, true, true, true, true, true, true, true, true, true, false, true, false, false, false, false] rfl rfl (take_ofW HT_.out HW_.out (by kernel_rfl)) (fun _ _ _ h => h) (Or.inl ⟨by rfl, ?_⟩) hHeld ?_ ?_
          rotate_left
          · rintro w' ⟨s_, s0, s1, s2, s3⟩
            go_simp
            first | done | with_reducible rfl
          rotate_left
          · simp only [Act.put, List.setIfInBounds_toArray, List.set_cons_zero, List.set_cons_succ, i64_w, i32_w]
            rfl
          refine take_ (i := 24) (N := (some 87)) (v := ?_) (a' := ?_) #[true, true, true, true, true, true, true, true, true, true, true, true, true, true, true, true, true, true, true, true, true, true, false, true, true, false, false, false] rfl rfl (take_ofW HT_.out HW_.out (by kernel_rfl)) (fun _ _ _ h => h) (Or.inl ⟨by rfl, ?_⟩) hHeld ?_ ?_
          rotate_left
          · rintro w' ⟨s_, s0, s1, s2, s3⟩
            go_simp
            first | done | with_reducible rfl
          rotate_left
          · simp only [Act.put, List.setIfInBounds_toArray, List.set_cons_zero, List.set_cons_succ, i64_w, i32_w]
            rfl
          refine one_ (i := 22) (N := (some 85)) #[true, true, true, true, true, true, true, true, true, true, true, true, true, true, true, true, true, true, true, true, true, true, true, true, true, false, false, false] rfl rfl (one_of HT_.out (by kernel_rfl)) (by decide) (fun K hK => ?_)
          refine goes_ Try.func54 (by kernel_rfl) rfl #[.agg #[.slice Ax x.length cx], .agg #[.slice Ay y.length cy]] (by rfl) rfl rfl (by (try simp only [List.map_toArray, List.map_cons, List.map_nil]); first | done | rfl) ?_
          refine (intset_Inside.calls k Ax cx x Ay cy y b1 _ (Kd.C_below Bx.out.row hHeld.1) Bx.out.cap (Kd.C_below By.out.row hHeld.1) By.out.cap FP.out.2.2.2.2.2.2.1).mono ?_
          rintro e w40 ⟨rfl, hb1⟩
          refine ⟨_, rfl, ?_⟩
          refine hK.out _ _ (held_keepC hb1 hHeld) (fun hHeld => ?_)
          clear hK K
          refine norm_ (a' := ?_) ?_ ?_
          rotate_left
          · show Act.put _ (some 85) _ = _
            simp only [Act.put, List.setIfInBounds_toArray, List.set_cons_zero, List.set_cons_succ, i64_w, i32_w]
            rfl
          refine one_ (i := 25) (N := (some 88)) #[true, true, true, true, true, true, true, true, true, true, true, true, true, true, true, true, true, true, true, true, true, true, true, true, true, true, false, false] rfl rfl (one_of HT_.out (by kernel_rfl)) (by decide) (fun K hK => ?_)
          refine goes_ Try.func55 (by kernel_rfl) rfl #[.agg #[.slice Ax x.length cx], .agg #[.slice Ay y.length cy]] (by rfl) rfl rfl (by (try simp only [List.map_toArray, List.map_cons, List.map_nil]); first | done | rfl) ?_
          refine (soundserviceref09_Inside.calls k Ax cx x Ay cy y b1 _ (Kd.C_below Bx.out.row hHeld.1) Bx.out.cap (Kd.C_below By.out.row hHeld.1) By.out.cap FP.out.2.2.2.2.2.2.2).mono ?_
          rintro e w40 ⟨rfl, hb1⟩
          refine ⟨_, rfl, ?_⟩
          refine hK.out _ _ (held_keepC hb1 hHeld) (fun hHeld => ?_)
          clear hK K
          refine norm_ (a' := ?_) ?_ ?_
          rotate_left
          · show Act.put _ (some 88) _ = _
            simp only [Act.put, List.setIfInBounds_toArray, List.set_cons_zero, List.set_cons_succ, i64_w, i32_w]
            rfl
          refine pure_ (i := 26) (N := (some 89)) (v := ?_) (a' := ?_) #[true, true, true, true, true, true, true, true, true, true, true, true, true, true, true, true, true, true, true, true, true, true, true, true, true, true, true, false] rfl rfl (any_of HT_.out (by kernel_rfl)) (fun _ _ _ h => h) (Or.inl ⟨by rfl, ?_⟩) ?_ ?_
          rotate_left
          · intro w'
            go_simp
            first | done | with_reducible rfl
          rotate_left
          · simp only [Act.put, List.setIfInBounds_toArray, List.set_cons_zero, List.set_cons_succ, i64_w, i32_w]
            rfl
          refine pure_ (i := 27) (N := (some 90)) (v := ?_) (a' := ?_) #[true, true, true, true, true, true, true, true, true, true, true, true, true, true, true, true, true, true, true, true, true, true, true, true, true, true, true, true] rfl rfl (any_of HT_.out (by kernel_rfl)) (fun _ _ _ h => h) (Or.inl ⟨by rfl, ?_⟩) ?_ ?_
          rotate_left
          · intro w'
            go_simp
            first | done | with_reducible rfl
          rotate_left
          · simp only [Act.put, List.setIfInBounds_toArray, List.set_cons_zero, List.set_cons_succ, i64_w, i32_w]
            rfl
          refine done_ (done_of HT_.out (by kernel_rfl)) ?_
          go_wp2
          go_roundg (2 - (jj + 1))
          case measure => omega
          case rel => exact ⟨jj + 1, by omega, by omega, by go_num, ⟨below_then E2.out E2.out.size hHeld.1⟩⟩
        · have hltz2 : ¬ (jj : Int) < 2 := by omega
          obtain ⟨p, ok, F1, F2⟩ := FF.out.near x EX.out
          have F1 := Aside0.mk F1
          have F2 := Aside0.mk F2
          replace Bx := Aside0.mk (Bx.out.below BV.out)
          have E2 := Aside0.mk (below_then E1.out E1.out.size BV.out)
          clear BV
          have hcx := Bx.out.cell
          go_wp2_with fail
          clear hcx
          refine (intset_Nearest.calls k Ax cx x n p ok _ Bx.out.row Bx.out.cap F1.out).mono ?_
          rintro e' w8 ⟨rfl, hb1⟩
          replace Bx := Aside0.mk (Bx.out.below hb1)
          replace E2 := Aside0.mk (below_then E2.out E2.out.size hb1)
          clear hb1
          have hcx := Bx.out.cell
          go_wp2_with fail
          clear hcx
          refine (soundserviceref09_Nearest.calls k Ax cx x n p ok _ Bx.out.row Bx.out.cap F2.out).mono ?_
          rintro e' w9 ⟨rfl, hb1⟩
          replace E2 := Aside0.mk (below_then E2.out E2.out.size hb1)
          clear hb1
          go_wp2
          go_roundg (2 - (kk + 1))
          case measure => omega
          case rel => exact ⟨kk + 1, by omega, by omega, by go_num, E2⟩
    · have hltz : ¬ (kk : Int) < 2 := by omega
      go_wp2
      go_ret
      exact ⟨rfl, below_then E.out E.out.size BW.out⟩
def soundservicelaw09_IntsetCombines.Pure : Prop := ∀ (l0 l1 : List S56) (l2 l3 : List Int) (n : Int), wfSpans l0 → wfSpans l1 → l2.length ≤ maxLen → l2.length * 1 ≤ 140737488351232 → (∀ x ∈ l2, (Lit.int .u8 x).wf = true) → l3.length ≤ maxLen → l3.length * 1 ≤ 140737488351232 → (∀ x ∈ l3, (Lit.int .u8 x).wf = true) → (Lit.int .i64 n).wf = true →
  ∃ (k : Nat) (a b : List S56), soundservicelaw09_sane.f k = some true ∧ ((l0.length : Int) ≤ 70 → (l1.length : Int) ≤ 70 → CombinesF k l0 l1 l2 l3 n a b)
theorem soundservicelaw09_IntsetCombines.walk (P : soundservicelaw09_IntsetCombines.Pure) (A0 : Option Addr) (c0 : Nat) (l0 : List S56) (A1 : Option Addr) (c1 : Nat) (l1 : List S56) (a2 : Option Addr) (len2 cap2 : Nat) (z2 : List Int) (a3 : Option Addr) (len3 cap3 : Nat) (z3 : List Int) (n : Int) (w : World)
    (hC0 : Kd.C k56 w A0 l0.length l0) (hc0 : l0.length ≤ c0) (hw0 : wfSpans l0) (hC1 : Kd.C k56 w A1 l1.length l1) (hc1 : l1.length ≤ c1) (hw1 : wfSpans l1) (w2 : (a2 = none ∧ len2 = 0 ∧ cap2 = 0 ∧ z2 = []) ∨ ∃ x, a2 = some x ∧ len2 ≤ cap2 ∧ cap2 ≤ maxLen ∧ z2.length = cap2 ∧ (∀ i, i < z2.length → w.cell? (x.add i) = some (.int .u8 (z2.getD i 0))) ∧ ∀ n ∈ z2, (Lit.int .u8 n).wf = true) (y2 : len2 * 1 ≤ 140737488351232) (w3 : (a3 = none ∧ len3 = 0 ∧ cap3 = 0 ∧ z3 = []) ∨ ∃ x, a3 = some x ∧ len3 ≤ cap3 ∧ cap3 ≤ maxLen ∧ z3.length = cap3 ∧ (∀ i, i < z3.length → w.cell? (x.add i) = some (.int .u8 (z3.getD i 0))) ∧ ∀ n ∈ z3, (Lit.int .u8 n).wf = true) (y3 : len3 * 1 ≤ 140737488351232) (w4 : (Lit.int .i64 n).wf = true) :
    Calls Try.prog 12 #[.agg #[.slice A0 l0.length c0], .agg #[.slice A1 l1.length c1], .slice a2 len2 cap2, .slice a3 len3 cap3, .int .i64 n] w fun e w' => e = .returned (.bool true) ∧ Below w.heap.size w w' := by
  obtain ⟨l2, rfl, hr2, hm2, hw2, hc2⟩ := ReadsInt.ofRowC w2
  obtain ⟨l3, rfl, hr3, hm3, hw3, hc3⟩ := ReadsInt.ofRowC w3
  obtain ⟨k, a, b, hs, F⟩ := P l0 l1 l2 l3 n hw0 hw1 hm2 y2 hw2 hm3 y3 hw3 w4
  exact combines_calls k A0 c0 l0 A1 c1 l1 _ _ l2 _ _ l3 n a b w hC0 hc0 hC1 hc1 (Kd.C_of_reads (d := (0 : Int)) (h1 := fun _ => rfl) hr2) hc2 (Kd.C_of_reads (d := (0 : Int)) (h1 := fun _ => rfl) hr3) hc3 hs F
def joinW : List (List Char) → List Char
  | [] => []
  | [w] => w
  | w :: v :: ws => w ++ ' ' :: joinW (v :: ws)
theorem ws_char {c : Char} {r : List Char} (h : c ≠ ' ') {w : List Char} {ws : List (List Char)} (hr : wordsSigns r = w :: ws) : wordsSigns (c :: r) = (c :: w) :: ws := by
  rw [wordsSigns.eq_3 c r h, hr]
theorem ws_space (r : List Char) : wordsSigns (' ' :: r) = [] :: wordsSigns r := by
  rw [wordsSigns.eq_2]
theorem ws_word (r : List Char) : ∀ w : List Char, (∀ c ∈ w, c ≠ ' ') → wordsSigns (w ++ ' ' :: r) = w :: wordsSigns r
  | [], _ => ws_space r
  | c :: w, h => ws_char (h c List.mem_cons_self) (ws_word r w fun x hx => h x (List.mem_cons_of_mem _ hx))
theorem ws_last : ∀ w : List Char, (∀ c ∈ w, c ≠ ' ') → wordsSigns w = [w]
  | [], _ => by rw [wordsSigns.eq_1]
  | c :: w, h => ws_char (h c List.mem_cons_self) (ws_last w fun x hx => h x (List.mem_cons_of_mem _ hx))
theorem ws_join : ∀ ws : List (List Char), ws ≠ [] → (∀ w ∈ ws, ∀ c ∈ w, c ≠ ' ') → wordsSigns (joinW ws) = ws
  | [], h, _ => absurd rfl h
  | [w], _, h => ws_last w (h w List.mem_cons_self)
  | w :: v :: ws, _, h => by
    show wordsSigns (w ++ ' ' :: joinW (v :: ws)) = _
    rw [ws_word _ w (h w List.mem_cons_self), ws_join (v :: ws) (by simp) (fun x hx => h x (List.mem_cons_of_mem _ hx))]
def headWords : List (List Char) := [['h', 'a', 'r', 'n', 'e', 's', 's'],
  ['0', '5', '4', '4', '3', 'e', '7', '0', '4', 'd', '7', 'e', 'c', '0', 'e', '3', 'a', '5', '8', 'b', 'e', '4', '2', 'f', '9', '6', 'd', 'b', 'f', '8', '9', 'f', 'c', '7', '1', '7', '7', 'd', '0', 'f', '0', '0', 'f', '5', '5', '8', '5', '7', 'd', 'f', '4', 'e', '7', '2', '4', 'c', '0', '9', '9', '8', '5', 'd', '0', '7'],
  ['c', 'u', 't'],
  ['a', 't'],
  ['s', 'o', 'u', 'n', 'd', 's', 'e', 'r', 'v', 'i', 'c', 'e', '/', 's', 'o', 'u', 'n', 'd', 's', 'e', 'r', 'v', 'i', 'c', 'e', 'l', 'a', 'w', '1', '0', '.', 'O', 'f', 'f', 'e', 'r', 'B', 'e', 's', 't'],
  ['s', 'o', 'u', 'n', 'd', 's', 'e', 'r', 'v', 'i', 'c', 'e', '/', 's', 'o', 'u', 'n', 'd', 's', 'e', 'r', 'v', 'i', 'c', 'e', 'l', 'a', 'w', '1', '0', '.', 'O', 'f', 'f', 'e', 'r', 'C', 'o', 'm', 'p', 'a', 'r', 'e', 's'],
  ['s', 'o', 'u', 'n', 'd', 's', 'e', 'r', 'v', 'i', 'c', 'e', '/', 's', 'o', 'u', 'n', 'd', 's', 'e', 'r', 'v', 'i', 'c', 'e', 'l', 'a', 'w', '0', '9', '.', 'I', 'n', 't', 's', 'e', 't', 'M', 'a', 'k', 'e', 's'],
  ['s', 'o', 'u', 'n', 'd', 's', 'e', 'r', 'v', 'i', 'c', 'e', '/', 's', 'o', 'u', 'n', 'd', 's', 'e', 'r', 'v', 'i', 'c', 'e', 'l', 'a', 'w', '0', '9', '.', 'I', 'n', 't', 's', 'e', 't', 'N', 'e', 'a', 'r', 'e', 's', 't'],
  ['s', 'o', 'u', 'n', 'd', 's', 'e', 'r', 'v', 'i', 'c', 'e', '/', 's', 'o', 'u', 'n', 'd', 's', 'e', 'r', 'v', 'i', 'c', 'e', 'l', 'a', 'w', '0', '9', '.', 'I', 'n', 't', 's', 'e', 't', 'F', 'o', 'r', 'm', 's'],
  ['s', 'o', 'u', 'n', 'd', 's', 'e', 'r', 'v', 'i', 'c', 'e', '/', 's', 'o', 'u', 'n', 'd', 's', 'e', 'r', 'v', 'i', 'c', 'e', 'l', 'a', 'w', '3', '7', '.', 'G', 'l', 'i', 't', 'c', 'h', 'S', 'u', 'm', 's'],
  ['s', 'o', 'u', 'n', 'd', 's', 'e', 'r', 'v', 'i', 'c', 'e', '/', 's', 'o', 'u', 'n', 'd', 's', 'e', 'r', 'v', 'i', 'c', 'e', 'l', 'a', 'w', '3', '7', '.', 'G', 'l', 'i', 't', 'c', 'h', 'O', 'r', 'd', 'e', 'r', 's'],
  ['s', 'o', 'u', 'n', 'd', 's', 'e', 'r', 'v', 'i', 'c', 'e', '/', 's', 'o', 'u', 'n', 'd', 's', 'e', 'r', 'v', 'i', 'c', 'e', 'l', 'a', 'w', '3', '7', '.', 'G', 'l', 'i', 't', 'c', 'h', 'T', 'o', 't', 'a', 'l'],
  ['s', 'o', 'u', 'n', 'd', 's', 'e', 'r', 'v', 'i', 'c', 'e', '/', 's', 'o', 'u', 'n', 'd', 's', 'e', 'r', 'v', 'i', 'c', 'e', 'l', 'a', 'w', '0', '9', '.', 'I', 'n', 't', 's', 'e', 't', 'A', 'l', 'g', 'e', 'b', 'r', 'a'],
  ['s', 'o', 'u', 'n', 'd', 's', 'e', 'r', 'v', 'i', 'c', 'e', '/', 's', 'o', 'u', 'n', 'd', 's', 'e', 'r', 'v', 'i', 'c', 'e', 'l', 'a', 'w', '0', '9', '.', 'I', 'n', 't', 's', 'e', 't', 'C', 'o', 'm', 'b', 'i', 'n', 'e', 's'],
  ['s', 'o', 'u', 'n', 'd', 's', 'e', 'r', 'v', 'i', 'c', 'e', '/', 's', 'o', 'u', 'n', 'd', 's', 'e', 'r', 'v', 'i', 'c', 'e', 'l', 'a', 'w', '0', '9', '.', 'I', 'n', 't', 's', 'e', 't', 'M', 'e', 'm', 'b', 'e', 'r', 's'],
  ['s', 'o', 'u', 'n', 'd', 's', 'e', 'r', 'v', 'i', 'c', 'e', '/', 's', 'o', 'u', 'n', 'd', 's', 'e', 'r', 'v', 'i', 'c', 'e', 'l', 'a', 'w', '1', '2', '.', 'N', 'e', 'g', 'o', 't', 'i', 'a', 't', 'e', 'R', 'e', 'f', 'u', 's', 'e', 's'],
  ['s', 'o', 'u', 'n', 'd', 's', 'e', 'r', 'v', 'i', 'c', 'e', '/', 's', 'o', 'u', 'n', 'd', 's', 'e', 'r', 'v', 'i', 'c', 'e', 'l', 'a', 'w', '1', '2', '.', 'N', 'e', 'g', 'o', 't', 'i', 'a', 't', 'e', 'C', 'o', 'n', 'v', 'e', 'r', 't', 's'],
  ['s', 'o', 'u', 'n', 'd', 's', 'e', 'r', 'v', 'i', 'c', 'e', '/', 's', 'o', 'u', 'n', 'd', 's', 'e', 'r', 'v', 'i', 'c', 'e', 'l', 'a', 'w', '1', '2', '.', 'N', 'e', 'g', 'o', 't', 'i', 'a', 't', 'e', 'B', 'a', 'c', 'k', 'w', 'a', 'r', 'd', 's'],
  ['s', 'o', 'u', 'n', 'd', 's', 'e', 'r', 'v', 'i', 'c', 'e', '/', 's', 'o', 'u', 'n', 'd', 's', 'e', 'r', 'v', 'i', 'c', 'e', 'l', 'a', 'w', '1', '2', '.', 'N', 'e', 'g', 'o', 't', 'i', 'a', 't', 'e', 'W', 'i', 'd', 'e', 'r']]
theorem head_is : Try.prog.initOrder = String.ofList (joinW headWords) := by kernel_rfl
theorem head_words : wordsSigns Try.prog.initOrder.toList = headWords := by
  rw [head_is, String.toList_ofList]
  refine ws_join _ (by unfold headWords; exact List.cons_ne_nil _ _) ?_
  have h : headWords.all (fun w => w.all (fun c => c != ' ')) = true := by kernel_rfl
  intro w hw c hc e
  have := List.all_eq_true.1 (List.all_eq_true.1 h w hw) c hc
  rw [e] at this
  exact absurd this (by decide)
theorem bm : behindMainWord headWords = headWords.drop 2 := by kernel_rfl
theorem c0 : headWords.drop 2 = "cut".toList :: headWords.drop 3 := by kernel_rfl
theorem sl : stripLifts liftWords ("cut".toList :: headWords.drop 3) = ([], "cut".toList :: headWords.drop 3) := by kernel_rfl
theorem hw : behindMainWord (wordsSigns Try.prog.initOrder.toList) = "cut".toList :: headWords.drop 3 := (congrArg behindMainWord head_words).trans (bm.trans c0)
theorem enter_of (P : Program) (rest : List (List Char)) (h : behindMainWord (wordsSigns P.initOrder.toList) = "cut".toList :: rest) (hs : stripLifts liftWords ("cut".toList :: rest) = ([], "cut".toList :: rest))
    (h1 : P.laysLater = false) (h2 : P.bearsReflect = false) (h3 : P.doorFits [] = true) : P.mayEnter = true := by
  unfold Program.mayEnter
  rw [h]
  simp only []
  rw [hs, h1, h2, h3]
  simp
theorem final_of (P : Program) (rest : List (List Char)) (h : behindMainWord (wordsSigns P.initOrder.toList) = "cut".toList :: rest) (hs : stripLifts liftWords ("cut".toList :: rest) = ([], "cut".toList :: rest)) : P.liftsFinal = false := by
  unfold Program.liftsFinal Program.headLifts
  rw [h]
  simp only []
  rw [hs]
  simp
theorem make_of (P : Program) (rest : List (List Char)) (h : behindMainWord (wordsSigns P.initOrder.toList) = "cut".toList :: rest) : P.make = some .cut := by
  unfold Program.make
  rw [h]
  rfl
theorem lays : Try.prog.laysLater = false := by kernel_rfl
theorem refl : Try.prog.bearsReflect = false := by kernel_rfl
theorem door : Try.prog.doorFits [] = true := by kernel_rfl
theorem may_enter : Try.prog.mayEnter = true := enter_of _ _ hw sl lays refl door
theorem lifts_final : Try.prog.liftsFinal = false := final_of _ _ hw sl
theorem make_is : Try.prog.make = some .cut := make_of _ _ hw
theorem w64 {e : Int} (h1 : -9223372036854775808 ≤ e) (h2 : e ≤ 9223372036854775807) : wrap64 e = e := by unfold wrap64; omega
theorem getD_at {α : Type} {l : List α} {i : Nat} (h : i < l.length) (z : α) : l.getD i z = l[i] := by
  rw [List.getD_eq_getElem?_getD, List.getElem?_eq_getElem h, Option.getD_some]
theorem rd_nat (l : List S56) (i : Nat) : rd_T56 l (i : Int) = l.getD i z56 := by unfold rd_T56; rw [Int.toNat_natCast]
theorem rdi_nat (l : List Int) (i : Nat) : rd l (i : Int) = l.getD i 0 := by unfold rd; rw [Int.toNat_natCast]
theorem Ev.const {α : Type} {g : Nat → Option α} {r : α} (h : ∀ k, g k = some r) : Ev g r := ⟨0, fun k _ => h k⟩
theorem Ev.last {α : Type} {g : Nat → Option α} {r : α} (h : ∀ k, g (k + 1) = some r) : Ev g r := ⟨1, fun k hk => by
  obtain ⟨m, rfl⟩ : ∃ m, k = m + 1 := ⟨k - 1, by omega⟩
  exact h m⟩
theorem u8_wf {x : Int} (h : (Lit.int .u8 x).wf = true) : 0 ≤ x ∧ x ≤ 255 := by
  simp only [Lit.wf, IntKind.min, IntKind.max, IntKind.signed, IntKind.bits, Bool.and_eq_true, decide_eq_true_eq] at h
  constructor
  · simpa using h.1
  · simpa using h.2
theorem i64_wf {x : Int} (h : (Lit.int .i64 x).wf = true) : -9223372036854775808 ≤ x ∧ x ≤ 9223372036854775807 := by
  simp only [Lit.wf, IntKind.min, IntKind.max, IntKind.signed, IntKind.bits, Bool.and_eq_true, decide_eq_true_eq] at h
  constructor
  · simpa using h.1
  · simpa using h.2
theorem merge_l0 (l : List SP) (hok : ∀ x ∈ l, okS x) (hl : l.length < 8796093022208) : ∀ (d i : Nat) (out : List SP), i + d = l.length → out.length ≤ i → (∀ x ∈ out, okS x) →
    Ev (fun k => intset_merge.l0 k out l (l.length : Int) (i : Int)) ((l.drop i).foldl mergeStep out)
  | 0, i, out, hi, _, _ => by
    refine ⟨1, fun k hk => ?_⟩
    obtain ⟨m, rfl⟩ : ∃ m, k = m + 1 := ⟨k - 1, by omega⟩
    simp only [intset_merge.l0]
    rw [if_neg (by omega), List.drop_of_length_le (by omega)]
    rfl
  | d + 1, i, out, hi, ho, hoo => by
    have hlt : i < l.length := by omega
    have hx := hok l[i] (List.getElem_mem hlt)
    have hg : l.getD i z56 = l[i] := getD_at hlt _
    rw [List.drop_eq_getElem_cons hlt, List.foldl_cons]
    generalize hxe : l[i] = x at hx hg
    have hstep : (mergeStep out x).length ≤ i + 1 ∧ ∀ y ∈ mergeStep out x, okS y := by
      unfold mergeStep
      by_cases h0 : out.length = 0
      · rw [if_pos h0]
        exact ⟨by simp, fun y hy => by rw [List.mem_singleton.1 hy]; exact hx⟩
      · rw [if_neg h0]
        have hlast : out.length - 1 < out.length := by omega
        have ht := hoo _ (List.getElem_mem hlast)
        rw [getD_at hlast]
        by_cases h1 : x.f0 ≤ out[out.length - 1].f1 + 1
        · rw [if_pos h1]
          refine ⟨by simp; omega, fun y hy => ?_⟩
          rcases List.mem_or_eq_of_mem_set hy with hy | hy
          · exact hoo y hy
          · rw [hy]
            have hm := mx_cases out[out.length - 1].f1 x.f1
            unfold okS at *
            simp only
            omega
        · rw [if_neg h1]
          refine ⟨by simp; omega, fun y hy => ?_⟩
          rcases List.mem_append.1 hy with hy | hy
          · exact hoo y hy
          · rw [List.mem_singleton.1 hy]; exact hx
    refine Ev.step (f := fun k => intset_merge.l0 k (mergeStep out x) l (l.length : Int) ((i + 1 : Nat) : Int)) (fun k => ?_) (merge_l0 l hok hl d (i + 1) _ (by omega) hstep.1 hstep.2)
    simp only [intset_merge.l0]
    rw [if_pos (by omega), if_pos (by omega), if_pos (by omega), rd_nat, hg, show wrap64 ((i : Int) + 1) = ((i + 1 : Nat) : Int) from by rw [w64 (by omega) (by omega)]; omega]
    by_cases h0 : out.length = 0
    · rw [if_neg (by omega), if_pos (by omega)]
      unfold mergeStep
      rw [if_pos h0, List.eq_nil_of_length_eq_zero h0]
      rfl
    · have hlast : out.length - 1 < out.length := by omega
      have ht := hoo _ (List.getElem_mem hlast)
      unfold okS at ht
      have hw : wrap64 ((out.length : Int) - 1) = ((out.length - 1 : Nat) : Int) := by rw [w64 (by omega) (by omega)]; omega
      rw [if_pos (by omega), hw, if_pos (by omega), if_pos (by omega), rd_nat, getD_at hlast, w64 (by omega) (by omega)]
      unfold mergeStep
      rw [if_neg h0, getD_at hlast]
      by_cases h1 : x.f0 ≤ out[out.length - 1].f1 + 1
      · rw [if_pos h1, if_pos h1, Int.toNat_natCast]
      · rw [if_neg h1, if_neg h1, if_pos (by omega)]
theorem merge_ev (l : List SP) (hok : ∀ x ∈ l, okS x) (hl : l.length < 8796093022208) : Ev (fun k => intset_merge.f k l) (l.foldl mergeStep []) := by
  have := merge_l0 l hok hl l.length 0 [] (by omega) (Nat.le_refl _) (fun _ h => by cases h)
  exact this
theorem fineS_iff (x : SP) : fineS x = true ↔ okS x := by
  unfold fineS okS
  simp only [Bool.and_eq_true, decide_eq_true_eq]
def makeR (l : List SP) : List SP × Int := if ∀ x ∈ l, okS x then (if 64 < (norm l).length then ([], 3) else (norm l, 0)) else ([], 2)
theorem make_ev (l : List SP) (hl : l.length < 8796093022208) : Ev (fun k => intset_Make.f k l) (makeR l) := by
  unfold makeR
  by_cases h : ∀ x ∈ l, okS x
  · have hall : l.all fineS = true := List.all_eq_true.2 (fun x hx => (fineS_iff x).2 (h x hx))
    have hp : (sortSpans (l.pmap Subtype.mk (all_fine hall))).Perm l := by
      have h1 := (sortedBy_perm (ltOf loDiff) loSWO (l.pmap Subtype.mk (all_fine hall))).map Subtype.val
      have h2 : (l.pmap Subtype.mk (all_fine hall)).map Subtype.val = l := by rw [List.map_pmap]; simp
      rw [h2] at h1
      exact h1
    have hs : sortedLo (sortSpans (l.pmap Subtype.mk (all_fine hall))) := by
      have h1 := sortedBy_sorted (ltOf loDiff) loSWO (l.pmap Subtype.mk (all_fine hall))
      unfold sortSpans sortedLo
      rw [List.pairwise_map]
      exact h1.imp (fun {a b} h => by rw [ltLo] at h; simpa using h)
    have hok : ∀ x ∈ sortSpans (l.pmap Subtype.mk (all_fine hall)), okS x := fun x hx => h x (hp.mem_iff.1 hx)
    have hn : (sortSpans (l.pmap Subtype.mk (all_fine hall))).foldl mergeStep [] = norm l := eq_norm h (mergeAll_norm h hp hs).1 (mergeAll_norm h hp hs).2.1
    rw [if_pos h]
    have hm := merge_ev _ hok (by rw [hp.length_eq]; exact hl)
    rw [hn] at hm
    have hc : api_Span.f l = some l := by unfold api_Span.f; rw [if_pos hl]
    refine Ev.congr (f := fun k => (intset_merge.f k (sortSpans (l.pmap Subtype.mk (all_fine hall)))).bind fun out => if 64 < out.length then some ([], 3) else some (out, 0)) (fun k => ?_) (Ev.bind (f := fun _ out => if 64 < out.length then some ([], 3) else some (out, 0)) hm ?_)
    · unfold intset_Make.f
      rw [dif_pos hall, hc]
      rfl
    · exact ⟨0, fun _ _ => by by_cases h64 : 64 < (norm l).length <;> simp [h64]⟩
  · have hall : ¬ l.all fineS = true := fun ha => h (fun x hx => (fineS_iff x).1 (List.all_eq_true.1 ha x hx))
    rw [if_neg h]
    exact Ev.const (fun k => by unfold intset_Make.f; rw [dif_neg hall])
def okV (l : List SP) : Prop := Canon l ∧ l.length ≤ 64
noncomputable instance (l : List SP) : Decidable (okV l) := Classical.propDecidable _
noncomputable def spansR (l : List SP) : List SP := if okV l then l else []
theorem spansR_canon (l : List SP) : Canon (spansR l) ∧ (spansR l).length ≤ 64 := by
  unfold spansR
  by_cases h : okV l
  · rw [if_pos h]; exact h
  · rw [if_neg h]; exact ⟨Canon.nil, by simp⟩
theorem spansR_of {l : List SP} (h : okV l) : spansR l = l := if_pos h
theorem Canon.take {l : List SP} (h : Canon l) (i : Nat) : Canon (l.take i) := ⟨fun x hx => h.ok x (List.mem_of_mem_take hx), h.sep.sublist (List.take_sublist _ _)⟩
theorem take_canon {l : List SP} {i : Nat} (hi : i < l.length) (hc : Canon (l.take i)) (hx : okS l[i]) (hp : ∀ h : 0 < i, (l[i - 1]'(by omega)).f1 + 1 < l[i].f0) : Canon (l.take (i + 1)) := by
  rw [List.take_succ_eq_append_getElem hi, canon_snoc]
  refine ⟨hc, hx, fun x hm => ?_⟩
  obtain ⟨j, hj, rfl⟩ := List.mem_iff_getElem.1 hm
  have hji : j < i := by rw [List.length_take] at hj; omega
  rw [List.getElem_take]
  have hlast := hp (by omega)
  by_cases he : j = i - 1
  · subst he; exact hlast
  · have h1 := List.pairwise_iff_getElem.1 hc.sep j (i - 1) hj (by rw [List.length_take]; omega) (by omega)
    rw [List.getElem_take, List.getElem_take] at h1
    have h2 : okS (l[i - 1]'(by omega)) := hc.ok _ (List.mem_iff_getElem.2 ⟨i - 1, by rw [List.length_take]; omega, by rw [List.getElem_take]⟩)
    unfold okS at h2
    omega
theorem canon_at {l : List SP} {i : Nat} (hi : i < l.length) (hc : Canon l) : okS l[i] ∧ ∀ h : 0 < i, (l[i - 1]'(by omega)).f1 + 1 < l[i].f0 :=
  ⟨hc.ok _ (List.getElem_mem hi), fun h => List.pairwise_iff_getElem.1 hc.sep (i - 1) i (by omega) hi (by omega)⟩
theorem fine_ev (x : SP) : intset_fine.f x.f0 x.f1 = some (fineS x) := by
  unfold intset_fine.f fineS
  by_cases h0 : 0 ≤ x.f0 <;> by_cases h1 : x.f0 ≤ x.f1 <;> by_cases h2 : x.f1 ≤ 2147483647 <;> simp only [h0, h1, h2, if_true, if_false, decide_true, decide_false, Bool.true_and, Bool.false_and, Bool.and_true, Bool.and_false]
theorem valid_l0 (l : List SP) (b : Bool) (hb : b = true ↔ okV l) (hl : l.length < 8796093022208) : ∀ (d i : Nat), i + d = l.length → Canon (l.take i) →
    Ev (fun k => intset_Valid.l0 k l (l.length : Int) (i : Int) l) b
  | 0, i, hi, hc => by
    rw [List.take_of_length_le (by omega)] at hc
    refine Ev.last fun k => ?_
    simp only [intset_Valid.l0]
    rw [if_neg (by omega)]
    by_cases h : l.length ≤ 64
    · rw [hb.2 ⟨hc, h⟩]; simp; omega
    · have : b = false := by cases hbb : b; rfl; exact absurd (hb.1 hbb).2 h
      rw [this]; simp; omega
  | d + 1, i, hi, hc => by
    have hlt : i < l.length := by omega
    have hfalse : ∀ (_ : ¬ okV l), b = false := fun h => by cases hbb : b; rfl; exact absurd (hb.1 hbb) h
    have hg : rd_T56 l (i : Int) = l[i] := by rw [rd_nat, getD_at hlt]
    have hw1 : wrap64 ((i : Int) + 1) = ((i + 1 : Nat) : Int) := by rw [w64 (by omega) (by omega)]; omega
    by_cases hx : okS l[i]
    · by_cases h0 : 0 < i
      · have hw : wrap64 ((i : Int) - 1) = ((i - 1 : Nat) : Int) := by rw [w64 (by omega) (by omega)]; omega
        have hp1 : i - 1 < l.length := by omega
        have hg' : rd_T56 l ((i - 1 : Nat) : Int) = l[i - 1] := by rw [rd_nat, getD_at hp1]
        have hpo : okS l[i - 1] := hc.ok _ (List.mem_iff_getElem.2 ⟨i - 1, by rw [List.length_take]; omega, by rw [List.getElem_take]⟩)
        unfold okS at hpo
        by_cases hs : l[i].f0 ≤ l[i - 1].f1 + 1
        · have hn : ¬ okV l := fun h => by have := (canon_at hlt h.1).2 h0; omega
          rw [hfalse hn]
          refine Ev.last fun k => ?_
          simp only [intset_Valid.l0]
          rw [if_pos (by omega), if_pos (by omega), if_pos (by omega), hg, fine_ev, Option.bind_some, if_pos ((fineS_iff _).2 hx), if_pos (by omega), hw, if_pos (by omega), if_pos (by omega), hg', w64 (by omega) (by omega), if_pos hs]
        · refine Ev.step (fun k => ?_) (valid_l0 l b hb hl d (i + 1) (by omega) (take_canon hlt hc hx (fun _ => by omega)))
          simp only [intset_Valid.l0]
          rw [if_pos (by omega), if_pos (by omega), if_pos (by omega), hg, fine_ev, Option.bind_some, if_pos ((fineS_iff _).2 hx), if_pos (by omega), hw, if_pos (by omega), if_pos (by omega), hg', w64 (by omega) (by omega), if_neg hs, hw1]
      · refine Ev.step (fun k => ?_) (valid_l0 l b hb hl d (i + 1) (by omega) (take_canon hlt hc hx (fun h => absurd h h0)))
        simp only [intset_Valid.l0]
        rw [if_pos (by omega), if_pos (by omega), if_pos (by omega), hg, fine_ev, Option.bind_some, if_pos ((fineS_iff _).2 hx), if_neg (by omega), hw1]
    · have hn : ¬ okV l := fun h => hx (canon_at hlt h.1).1
      rw [hfalse hn]
      refine Ev.last fun k => ?_
      simp only [intset_Valid.l0]
      rw [if_pos (by omega), if_pos (by omega), if_pos (by omega), hg, fine_ev, Option.bind_some, if_neg (fun h => hx ((fineS_iff _).1 h))]
theorem refvalid_l0 (l : List SP) (b : Bool) (hb : b = true ↔ okV l) (hl : l.length < 8796093022208) : ∀ (d i : Nat), i + d = l.length → Canon (l.take i) →
    Ev (fun k => soundserviceref09_Valid.l0 k l (l.length : Int) (i : Int) l) b
  | 0, i, hi, hc => by
    rw [List.take_of_length_le (by omega)] at hc
    refine Ev.last fun k => ?_
    simp only [soundserviceref09_Valid.l0]
    rw [if_neg (by omega)]
    by_cases h : l.length ≤ 64
    · rw [hb.2 ⟨hc, h⟩]; simp; omega
    · have : b = false := by cases hbb : b; rfl; exact absurd (hb.1 hbb).2 h
      rw [this]; simp; omega
  | d + 1, i, hi, hc => by
    have hlt : i < l.length := by omega
    have hfalse : ∀ (_ : ¬ okV l), b = false := fun h => by cases hbb : b; rfl; exact absurd (hb.1 hbb) h
    have hg : rd_T56 l (i : Int) = l[i] := by rw [rd_nat, getD_at hlt]
    have hw1 : wrap64 ((i : Int) + 1) = ((i + 1 : Nat) : Int) := by rw [w64 (by omega) (by omega)]; omega
    by_cases hx : okS l[i]
    · have hx' := hx
      unfold okS at hx'
      by_cases h0 : 0 < i
      · have hw : wrap64 ((i : Int) - 1) = ((i - 1 : Nat) : Int) := by rw [w64 (by omega) (by omega)]; omega
        have hp1 : i - 1 < l.length := by omega
        have hg' : rd_T56 l ((i - 1 : Nat) : Int) = l[i - 1] := by rw [rd_nat, getD_at hp1]
        by_cases hs : l[i].f0 - 1 ≤ l[i - 1].f1
        · have hn : ¬ okV l := fun h => by have := (canon_at hlt h.1).2 h0; omega
          rw [hfalse hn]
          refine Ev.last fun k => ?_
          simp only [soundserviceref09_Valid.l0]
          rw [if_pos (by omega), if_pos (by omega), if_pos (by omega), hg, if_neg (by omega), if_neg (by omega), if_neg (by omega), if_pos (by omega), hw, if_pos (by omega), if_pos (by omega), hg', w64 (by omega) (by omega), if_pos hs]
        · refine Ev.step (fun k => ?_) (refvalid_l0 l b hb hl d (i + 1) (by omega) (take_canon hlt hc hx (fun _ => by omega)))
          simp only [soundserviceref09_Valid.l0]
          rw [if_pos (by omega), if_pos (by omega), if_pos (by omega), hg, if_neg (by omega), if_neg (by omega), if_neg (by omega), if_pos (by omega), hw, if_pos (by omega), if_pos (by omega), hg', w64 (by omega) (by omega), if_neg hs, hw1]
      · refine Ev.step (fun k => ?_) (refvalid_l0 l b hb hl d (i + 1) (by omega) (take_canon hlt hc hx (fun h => absurd h h0)))
        simp only [soundserviceref09_Valid.l0]
        rw [if_pos (by omega), if_pos (by omega), if_pos (by omega), hg, if_neg (by omega), if_neg (by omega), if_neg (by omega), if_neg (by omega), hw1]
    · have hn : ¬ okV l := fun h => hx (canon_at hlt h.1).1
      rw [hfalse hn]
      refine Ev.last fun k => ?_
      simp only [soundserviceref09_Valid.l0]
      rw [if_pos (by omega), if_pos (by omega), if_pos (by omega), hg]
      unfold okS at hx
      by_cases h0 : l[i].f0 < 0
      · rw [if_pos h0]
      · rw [if_neg h0]
        by_cases h1 : l[i].f1 < l[i].f0
        · rw [if_pos h1]
        · rw [if_neg h1, if_pos (by omega)]
theorem valid_ev (l : List SP) (hl : l.length < 8796093022208) : Ev (fun k => intset_Valid.f k l) (decide (okV l)) := valid_l0 l _ (by simp) hl l.length 0 (by omega) Canon.nil
theorem refvalid_ev (l : List SP) (hl : l.length < 8796093022208) : Ev (fun k => soundserviceref09_Valid.f k l) (decide (okV l)) := refvalid_l0 l _ (by simp) hl l.length 0 (by omega) Canon.nil
theorem spans_ev (l : List SP) (hl : l.length < 8796093022208) : Ev (fun k => intset_spans.f k l) (spansR l) := by
  refine Ev.bind (f := fun _ t => if t = true then some l else some []) (valid_ev l hl) (Ev.const fun k => ?_)
  unfold spansR
  by_cases h : okV l <;> simp [h]
theorem refspans_ev (l : List SP) (hl : l.length < 8796093022208) : Ev (fun k => soundserviceref09_spans.f k l) (spansR l) := by
  refine Ev.bind (f := fun _ t => if t = true then some l else some []) (refvalid_ev l hl) (Ev.const fun k => ?_)
  unfold spansR
  by_cases h : okV l <;> simp [h]
noncomputable instance (n : Int) (l : List SP) : Decidable (memS n l) := Classical.propDecidable _
theorem any_spanHas (n : Int) (l : List SP) : l.any (spanHas n) = decide (memS n l) := by
  rw [Bool.eq_iff_iff, List.any_eq_true, decide_eq_true_eq]
  constructor
  · rintro ⟨x, hx, h⟩
    simp only [spanHas, Bool.and_eq_true, decide_eq_true_eq] at h
    exact ⟨x, hx, h⟩
  · rintro ⟨x, hx, h⟩
    exact ⟨x, hx, by simp only [spanHas, Bool.and_eq_true, decide_eq_true_eq]; exact h⟩
theorem has_ev (l : List SP) (n : Int) (hl : l.length < 8796093022208) : Ev (fun k => intset_Has.f k l n) (decide (memS n (spansR l))) := by
  refine Ev.bind (f := fun _ s => some (s.any (spanHas n))) (spans_ev l hl) (Ev.const fun k => ?_)
  rw [any_spanHas]
def gap (a b : Int) : Int := if a < b then b - a else a - b
def clamp (x : SP) (n : Int) : Int := mx x.f0 (mn x.f1 n)
def nearS (n : Int) (r : Int × Bool) (x : SP) : Int × Bool := if r.2 = true then (if gap (clamp x n) n < gap r.1 n then (clamp x n, true) else r) else (clamp x n, true)
def near (l : List SP) (n : Int) : Int × Bool := l.foldl (nearS n) (0, false)
theorem clamp_in {x : SP} (hx : okS x) (n : Int) : x.f0 ≤ clamp x n ∧ clamp x n ≤ x.f1 := by
  unfold okS at hx
  unfold clamp
  have h1 := mn_cases x.f1 n
  have h2 := mx_cases x.f0 (mn x.f1 n)
  omega
theorem u64sub {a b : Int} (h0 : 0 ≤ a - b) (h1 : a - b < 18446744073709551616) : IntKind.u64.wrap ((IntKind.u64.wrap a) - (IntKind.u64.wrap b)) = a - b := by
  simp only [IntKind.wrap, IntKind.bits, IntKind.signed]
  simp
  omega
theorem dist_ev {a b : Int} (h0 : 0 ≤ a ∧ a ≤ 2147483647) (hb : -9223372036854775808 ≤ b ∧ b ≤ 9223372036854775807) : intset_distance.f a b = some (gap a b) := by
  unfold intset_distance.f gap
  by_cases h : a < b
  · rw [if_pos h, if_pos h, u64sub (by omega) (by omega)]
  · rw [if_neg h, if_neg h, u64sub (by omega) (by omega)]
theorem away_ev {a b : Int} (h0 : 0 ≤ a ∧ a ≤ 2147483647) (hb : -9223372036854775808 ≤ b ∧ b ≤ 9223372036854775807) : soundserviceref09_away.f a b = some (gap a b) := by
  unfold soundserviceref09_away.f gap
  by_cases h : a < b
  · rw [if_pos (by omega), if_pos h, u64sub (by omega) (by omega)]
  · rw [if_neg (by omega), if_neg h, u64sub (by omega) (by omega)]
theorem near_l0 (l : List SP) (n : Int) (hn : -9223372036854775808 ≤ n ∧ n ≤ 9223372036854775807) (hok : ∀ x ∈ l, okS x) (hl : l.length < 8796093022208) : ∀ (d i : Nat) (c : Int) (b : Bool), i + d = l.length → (0 ≤ c ∧ c ≤ 2147483647) →
    Ev (fun k => intset_Nearest.l0 k n c b l (l.length : Int) (i : Int)) ((l.drop i).foldl (nearS n) (c, b))
  | 0, i, c, b, hi, _ => by
    refine Ev.last fun k => ?_
    simp only [intset_Nearest.l0]
    rw [if_neg (by omega), List.drop_of_length_le (by omega)]
    rfl
  | d + 1, i, c, b, hi, hc => by
    have hlt : i < l.length := by omega
    have hg : rd_T56 l (i : Int) = l[i] := by rw [rd_nat, getD_at hlt]
    have hw1 : wrap64 ((i : Int) + 1) = ((i + 1 : Nat) : Int) := by rw [w64 (by omega) (by omega)]; omega
    have hx := hok l[i] (List.getElem_mem hlt)
    have hcl := clamp_in hx n
    have hx' := hx
    unfold okS at hx'
    rw [List.drop_eq_getElem_cons hlt, List.foldl_cons]
    have hns : nearS n (c, b) l[i] = if b = true then (if gap (clamp l[i] n) n < gap c n then (clamp l[i] n, true) else (c, b)) else (clamp l[i] n, true) := rfl
    rw [hns]
    by_cases hb : b = true
    · rw [if_pos hb]
      by_cases hd : gap (clamp l[i] n) n < gap c n
      · rw [if_pos hd]
        refine Ev.step (fun k => ?_) (near_l0 l n hn hok hl d (i + 1) (clamp l[i] n) true (by omega) (by omega))
        simp only [intset_Nearest.l0]
        rw [if_pos (by omega), if_pos (by omega), if_pos (by omega), hg, if_pos hb, show mx l[i].f0 (mn l[i].f1 n) = clamp l[i] n from rfl, dist_ev (by omega) hn, Option.bind_some, dist_ev hc hn, Option.bind_some, if_pos hd, hw1]
      · rw [if_neg hd]
        refine Ev.step (fun k => ?_) (near_l0 l n hn hok hl d (i + 1) c b (by omega) hc)
        simp only [intset_Nearest.l0]
        rw [if_pos (by omega), if_pos (by omega), if_pos (by omega), hg, if_pos hb, show mx l[i].f0 (mn l[i].f1 n) = clamp l[i] n from rfl, dist_ev (by omega) hn, Option.bind_some, dist_ev hc hn, Option.bind_some, if_neg hd, hw1]
    · rw [if_neg hb]
      refine Ev.step (fun k => ?_) (near_l0 l n hn hok hl d (i + 1) (clamp l[i] n) true (by omega) (by omega))
      simp only [intset_Nearest.l0]
      rw [if_pos (by omega), if_pos (by omega), if_pos (by omega), hg, if_neg hb, show mx l[i].f0 (mn l[i].f1 n) = clamp l[i] n from rfl, hw1]
theorem refnear_l0 (l : List SP) (n : Int) (hn : -9223372036854775808 ≤ n ∧ n ≤ 9223372036854775807) (hok : ∀ x ∈ l, okS x) (hl : l.length < 8796093022208) : ∀ (d i : Nat) (c : Int) (b : Bool), i + d = l.length → (0 ≤ c ∧ c ≤ 2147483647) →
    Ev (fun k => soundserviceref09_Nearest.l0 k n c b l (l.length : Int) (i : Int)) ((l.drop i).foldl (nearS n) (c, b))
  | 0, i, c, b, hi, _ => by
    refine Ev.last fun k => ?_
    simp only [soundserviceref09_Nearest.l0]
    rw [if_neg (by omega), List.drop_of_length_le (by omega)]
    rfl
  | d + 1, i, c, b, hi, hc => by
    have hlt : i < l.length := by omega
    have hg : rd_T56 l (i : Int) = l[i] := by rw [rd_nat, getD_at hlt]
    have hw1 : wrap64 ((i : Int) + 1) = ((i + 1 : Nat) : Int) := by rw [w64 (by omega) (by omega)]; omega
    have hx := hok l[i] (List.getElem_mem hlt)
    have hcl := clamp_in hx n
    have hx' := hx
    unfold okS at hx'
    rw [List.drop_eq_getElem_cons hlt, List.foldl_cons]
    have hns : nearS n (c, b) l[i] = if b = true then (if gap (clamp l[i] n) n < gap c n then (clamp l[i] n, true) else (c, b)) else (clamp l[i] n, true) := rfl
    rw [hns]
    by_cases hb : b = true
    · rw [if_pos hb]
      by_cases hd : gap (clamp l[i] n) n < gap c n
      · rw [if_pos hd]
        refine Ev.step (fun k => ?_) (refnear_l0 l n hn hok hl d (i + 1) (clamp l[i] n) true (by omega) (by omega))
        simp only [soundserviceref09_Nearest.l0]
        rw [if_pos (by omega), if_pos (by omega), if_pos (by omega), hg, if_pos hb, show mx l[i].f0 (mn l[i].f1 n) = clamp l[i] n from rfl, away_ev (by omega) hn, Option.bind_some, away_ev hc hn, Option.bind_some, if_pos hd, hw1]
      · rw [if_neg hd]
        refine Ev.step (fun k => ?_) (refnear_l0 l n hn hok hl d (i + 1) c b (by omega) hc)
        simp only [soundserviceref09_Nearest.l0]
        rw [if_pos (by omega), if_pos (by omega), if_pos (by omega), hg, if_pos hb, show mx l[i].f0 (mn l[i].f1 n) = clamp l[i] n from rfl, away_ev (by omega) hn, Option.bind_some, away_ev hc hn, Option.bind_some, if_neg hd, hw1]
    · rw [if_neg hb]
      refine Ev.step (fun k => ?_) (refnear_l0 l n hn hok hl d (i + 1) (clamp l[i] n) true (by omega) (by omega))
      simp only [soundserviceref09_Nearest.l0]
      rw [if_pos (by omega), if_pos (by omega), if_pos (by omega), hg, if_neg hb, show mx l[i].f0 (mn l[i].f1 n) = clamp l[i] n from rfl, hw1]
theorem nearest_ev (l : List SP) (n : Int) (hn : -9223372036854775808 ≤ n ∧ n ≤ 9223372036854775807) (hl : l.length < 8796093022208) : Ev (fun k => intset_Nearest.f k l n) (near (spansR l) n) := by
  refine Ev.bind (f := fun k t => intset_Nearest.l0 k n 0 false t (t.length : Int) 0) (spans_ev l hl) ?_
  have := spansR_canon l
  exact near_l0 (spansR l) n hn this.1.ok (by omega) (spansR l).length 0 0 false (by omega) (by omega)
theorem refnearest_ev (l : List SP) (n : Int) (hn : -9223372036854775808 ≤ n ∧ n ≤ 9223372036854775807) (hl : l.length < 8796093022208) : Ev (fun k => soundserviceref09_Nearest.f k l n) (near (spansR l) n) := by
  refine Ev.bind (f := fun k t => soundserviceref09_Nearest.l0 k n 0 false t (t.length : Int) 0) (refspans_ev l hl) ?_
  have := spansR_canon l
  exact refnear_l0 (spansR l) n hn this.1.ok (by omega) (spansR l).length 0 0 false (by omega) (by omega)
theorem joined_l2 (l : List SP) (hok : ∀ x ∈ l, okS x) (hl : l.length < 8796093022208) : ∀ (d i : Nat) (out : List SP), i + d = l.length → out.length ≤ i → (∀ x ∈ out, okS x) →
    Ev (fun k => soundserviceref09_joined.l2 k out l (l.length : Int) (i : Int)) ((l.drop i).foldl mergeStep out)
  | 0, i, out, hi, _, _ => by
    refine Ev.last fun k => ?_
    simp only [soundserviceref09_joined.l2]
    rw [if_neg (by omega), List.drop_of_length_le (by omega)]
    rfl
  | d + 1, i, out, hi, ho, hoo => by
    have hlt : i < l.length := by omega
    have hx := hok l[i] (List.getElem_mem hlt)
    have hg : l.getD i z56 = l[i] := getD_at hlt _
    rw [List.drop_eq_getElem_cons hlt, List.foldl_cons]
    generalize hxe : l[i] = x at hx hg
    have hx' := hx
    unfold okS at hx'
    have hstep : (mergeStep out x).length ≤ i + 1 ∧ ∀ y ∈ mergeStep out x, okS y := by
      unfold mergeStep
      by_cases h0 : out.length = 0
      · rw [if_pos h0]
        exact ⟨by simp, fun y hy => by rw [List.mem_singleton.1 hy]; exact hx⟩
      · rw [if_neg h0]
        have hlast : out.length - 1 < out.length := by omega
        have ht := hoo _ (List.getElem_mem hlast)
        rw [getD_at hlast]
        by_cases h1 : x.f0 ≤ out[out.length - 1].f1 + 1
        · rw [if_pos h1]
          refine ⟨by simp; omega, fun y hy => ?_⟩
          rcases List.mem_or_eq_of_mem_set hy with hy | hy
          · exact hoo y hy
          · rw [hy]
            have hm := mx_cases out[out.length - 1].f1 x.f1
            unfold okS at *
            simp only
            omega
        · rw [if_neg h1]
          refine ⟨by simp; omega, fun y hy => ?_⟩
          rcases List.mem_append.1 hy with hy | hy
          · exact hoo y hy
          · rw [List.mem_singleton.1 hy]; exact hx
    refine Ev.step (f := fun k => soundserviceref09_joined.l2 k (mergeStep out x) l (l.length : Int) ((i + 1 : Nat) : Int)) (fun k => ?_) (joined_l2 l hok hl d (i + 1) _ (by omega) hstep.1 hstep.2)
    simp only [soundserviceref09_joined.l2]
    rw [if_pos (by omega), if_pos (by omega), if_pos (by omega), rd_nat, hg, show wrap64 ((i : Int) + 1) = ((i + 1 : Nat) : Int) from by rw [w64 (by omega) (by omega)]; omega]
    by_cases h0 : out.length = 0
    · rw [if_neg (by rw [w64 (by omega) (by omega)]; omega), Option.bind_some, if_pos (by simp; omega)]
      unfold mergeStep
      rw [if_pos h0, List.eq_nil_of_length_eq_zero h0]
      rfl
    · have hlast : out.length - 1 < out.length := by omega
      have ht := hoo _ (List.getElem_mem hlast)
      unfold okS at ht
      have hw : wrap64 ((out.length : Int) - 1) = ((out.length - 1 : Nat) : Int) := by rw [w64 (by omega) (by omega)]; omega
      rw [hw, if_pos (by omega), if_pos (by omega), if_pos (by omega), rd_nat, getD_at hlast, w64 (by omega) (by omega)]
      unfold mergeStep
      rw [if_neg h0, getD_at hlast]
      by_cases h1 : x.f0 ≤ out[out.length - 1].f1 + 1
      · rw [if_pos h1, if_pos (by omega), Int.toNat_natCast]
      · rw [if_neg h1, if_neg (by omega), Option.bind_some, if_pos (by simp; omega)]
theorem ins_perm {out : List SP} {q : Nat} (x : SP) : (out.take q ++ [x] ++ out.drop q).Perm (x :: out) := by
  have h1 : (out.take q ++ [x] ++ out.drop q).Perm (x :: (out.take q ++ out.drop q)) := by
    rw [List.append_assoc]
    exact List.perm_middle
  rw [List.take_append_drop] at h1
  exact h1
theorem ins_sorted {out : List SP} {q : Nat} {x : SP} (hq : q ≤ out.length) (hs : sortedLo out) (hhi : ∀ j (h : j < out.length), q ≤ j → x.f0 < out[j].f0) (hlo : ∀ h : 0 < q, (out[q - 1]'(by omega)).f0 ≤ x.f0) :
    sortedLo (out.take q ++ [x] ++ out.drop q) := by
  have hlow : ∀ y ∈ out.take q, y.f0 ≤ x.f0 := fun y hy => by
    obtain ⟨j, hj, rfl⟩ := List.mem_iff_getElem.1 hy
    rw [List.getElem_take]
    rw [List.length_take] at hj
    have hl := hlo (by omega)
    by_cases he : j = q - 1
    · subst he; exact hl
    · have := List.pairwise_iff_getElem.1 hs j (q - 1) (by omega) (by omega) (by omega)
      omega
  have hhigh : ∀ y ∈ out.drop q, x.f0 < y.f0 := fun y hy => by
    obtain ⟨j, hj, rfl⟩ := List.mem_iff_getElem.1 hy
    rw [List.getElem_drop]
    rw [List.length_drop] at hj
    exact hhi (q + j) (by omega) (by omega)
  unfold sortedLo
  rw [List.append_assoc]
  refine List.pairwise_append.2 ⟨hs.sublist (List.take_sublist _ _), ?_, fun a ha b hb => ?_⟩
  · refine List.pairwise_append.2 ⟨List.pairwise_singleton _ _, hs.sublist (List.drop_sublist _ _), fun a ha b hb => ?_⟩
    rw [List.mem_singleton.1 ha]
    have := hhigh b hb
    omega
  · have h1 := hlow a ha
    rcases List.mem_append.1 hb with hb | hb
    · rw [List.mem_singleton.1 hb]; exact h1
    · have := hhigh b hb; omega
theorem joined_l1 (l out : List SP) (x : SP) (i : Nat) (r : List SP) (hol : out.length + 1 < 8796093022208) (hs : sortedLo out)
    (H : ∀ out', out'.Perm (x :: out) → sortedLo out' → Ev (fun k => soundserviceref09_joined.l0 k out' l (l.length : Int) (wrap64 ((i : Int) + 1))) r) :
    ∀ p : Nat, p ≤ out.length → (∀ j (h : j < out.length), p ≤ j → x.f0 < out[j].f0) → Ev (fun k => soundserviceref09_joined.l1 k out (p : Int) l (l.length : Int) (i : Int) x.f0 x.f1) r
  | 0, hp, hhi => by
    refine Ev.step (fun k => ?_) (H (out.take 0 ++ [x] ++ out.drop 0) (ins_perm x) (ins_sorted (by omega) hs hhi (fun h => absurd h (by omega))))
    simp only [soundserviceref09_joined.l1]
    rw [if_neg (by omega), if_pos (by omega), if_pos (by omega)]
    simp only [Option.bind_some, Int.toNat_natCast]
    rw [if_pos (by simp), if_pos (by simp), if_pos (by simp; omega)]
    rfl
  | p + 1, hp, hhi => by
    have hlt : p < out.length := by omega
    have hw : wrap64 (((p + 1 : Nat) : Int) - 1) = (p : Int) := by rw [w64 (by omega) (by omega)]; omega
    have hg : rd_T56 out (p : Int) = out[p] := by rw [rd_nat, getD_at hlt]
    by_cases hgt : out[p].f0 > x.f0
    · refine Ev.step (fun k => ?_) (joined_l1 l out x i r hol hs H p (by omega) (fun j hj hpj => by
        by_cases he : j = p
        · subst he; exact hgt
        · exact hhi j hj (by omega)))
      simp only [soundserviceref09_joined.l1]
      rw [if_pos (by omega), hw, if_pos (by omega), if_pos (by omega), hg, if_pos hgt]
    · refine Ev.step (fun k => ?_) (H (out.take (p + 1) ++ [x] ++ out.drop (p + 1)) (ins_perm x) (ins_sorted hp hs hhi (fun h => by simpa using hgt)))
      simp only [soundserviceref09_joined.l1]
      rw [if_pos (by omega), hw, if_pos (by omega), if_pos (by omega), hg, if_neg hgt, if_pos (by omega), if_pos (by omega)]
      simp only [Option.bind_some, Int.toNat_natCast, List.nil_append]
      rw [if_pos (by simp; omega), if_pos (by simp; omega), if_pos (by simp; omega)]
theorem joined_l0 (l : List SP) (hok : ∀ x ∈ l, okS x) (hl : l.length + 1 < 8796093022208) : ∀ (d i : Nat) (out : List SP), i + d = l.length → out.Perm (l.take i) → sortedLo out →
    Ev (fun k => soundserviceref09_joined.l0 k out l (l.length : Int) (i : Int)) (norm l)
  | 0, i, out, hi, hp, hs => by
    rw [List.take_of_length_le (by omega)] at hp
    have hn : norm l = out.foldl mergeStep [] := (eq_norm hok (mergeAll_norm hok hp hs).1 (mergeAll_norm hok hp hs).2.1).symm
    rw [hn]
    refine Ev.step (fun k => ?_) (joined_l2 out (fun x hx => hok x (hp.mem_iff.1 hx)) (by rw [hp.length_eq]; omega) out.length 0 [] (by omega) (by simp) (fun _ h => by cases h))
    simp only [soundserviceref09_joined.l0]
    rw [if_neg (by omega)]
    rfl
  | d + 1, i, out, hi, hp, hs => by
    have hlt : i < l.length := by omega
    have hol : out.length = i := by rw [hp.length_eq, List.length_take]; omega
    refine Ev.step (fun k => ?_) (joined_l1 l out l[i] i (norm l) (by omega) hs (fun out' hp' hs' => ?_) out.length (by omega) (fun j hj hpj => absurd hj (by omega)))
    · simp only [soundserviceref09_joined.l0]
      rw [if_pos (by omega), if_pos (by omega), if_pos (by omega), rd_nat, getD_at hlt]
    · rw [show wrap64 ((i : Int) + 1) = ((i + 1 : Nat) : Int) from by rw [w64 (by omega) (by omega)]; omega]
      refine joined_l0 l hok hl d (i + 1) out' (by omega) ?_ hs'
      rw [List.take_succ_eq_append_getElem hlt]
      exact hp'.trans ((List.Perm.cons _ hp).trans (List.perm_append_singleton _ _).symm)
theorem joined_ev (l : List SP) (hok : ∀ x ∈ l, okS x) (hl : l.length + 1 < 8796093022208) : Ev (fun k => soundserviceref09_joined.f k l) (norm l) :=
  joined_l0 l hok hl l.length 0 [] (by omega) (List.Perm.refl _) List.Pairwise.nil
theorem refmake_l0 (l : List SP) (hl : l.length + 1 < 8796093022208) : ∀ (d i : Nat), i + d = l.length → (∀ x ∈ l.take i, okS x) →
    Ev (fun k => soundserviceref09_Make.l0 k l l (l.length : Int) (i : Int)) (makeR l)
  | 0, i, hi, hok => by
    rw [List.take_of_length_le (by omega)] at hok
    unfold makeR
    rw [if_pos hok]
    refine Ev.step (f := fun k => (soundserviceref09_joined.f k l).bind fun out => if (out.length : Int) > 64 then some ([], 3) else some (out, 0)) (fun k => ?_) (Ev.bind (f := fun _ out => if (out.length : Int) > 64 then some ([], 3) else some (out, 0)) (joined_ev l hok hl) (Ev.const fun k => ?_))
    · simp only [soundserviceref09_Make.l0]
      rw [if_neg (by omega)]
    · by_cases h64 : 64 < (norm l).length
      · rw [if_pos (by omega), if_pos h64]
      · rw [if_neg (by omega), if_neg h64]
  | d + 1, i, hi, hok => by
    have hlt : i < l.length := by omega
    have hg : rd_T56 l (i : Int) = l[i] := by rw [rd_nat, getD_at hlt]
    by_cases hx : okS l[i]
    · have hx' := hx
      unfold okS at hx'
      refine Ev.step (fun k => ?_) (refmake_l0 l hl d (i + 1) (by omega) (fun x hm => ?_))
      · simp only [soundserviceref09_Make.l0]
        rw [if_pos (by omega), if_pos (by omega), if_pos (by omega), hg, if_neg (by omega), if_neg (by omega), if_neg (by omega), w64 (by omega) (by omega)]
        rfl
      · rw [List.take_succ_eq_append_getElem hlt] at hm
        rcases List.mem_append.1 hm with hm | hm
        · exact hok x hm
        · rw [List.mem_singleton.1 hm]; exact hx
    · have hr : makeR l = ([], 2) := if_neg (fun h => hx (h _ (List.getElem_mem hlt)))
      rw [hr]
      refine Ev.last fun k => ?_
      simp only [soundserviceref09_Make.l0]
      rw [if_pos (by omega), if_pos (by omega), if_pos (by omega), hg]
      unfold okS at hx
      by_cases h0 : l[i].f0 < 0
      · rw [if_pos h0]
      · rw [if_neg h0]
        by_cases h1 : l[i].f1 < l[i].f0
        · rw [if_pos h1]
        · rw [if_neg h1, if_pos (by omega)]
theorem refmake_ev (l : List SP) (hl : l.length + 1 < 8796093022208) : Ev (fun k => soundserviceref09_Make.f k l) (makeR l) :=
  refmake_l0 l hl l.length 0 (by omega) (fun _ h => by cases h)
theorem same_l0 (l : List SP) (hl : l.length + 1 < 8796093022208) : ∀ (d i : Nat), i + d = l.length →
    Ev (fun k => soundserviceref09_Same.l0 k (l.length : Int) (i : Int) l l) true
  | 0, i, hi => by
    refine Ev.last fun k => ?_
    simp only [soundserviceref09_Same.l0]
    rw [if_neg (by omega)]
  | d + 1, i, hi => by
    refine Ev.step (fun k => ?_) (same_l0 l hl d (i + 1) (by omega))
    simp only [soundserviceref09_Same.l0]
    rw [if_pos (by omega), if_pos (by omega), if_pos (by omega), if_pos (by omega), if_neg (by simp), w64 (by omega) (by omega)]
    rfl
theorem same_ev (l : List SP) (hl : l.length + 1 < 8796093022208) : Ev (fun k => soundserviceref09_Same.f k l l) true := by
  have h := same_l0 l hl l.length 0 (by omega)
  refine Ev.congr (fun k => ?_) h
  unfold soundserviceref09_Same.f
  rw [if_pos rfl]
  rfl
structure Small (m : List SP) : Prop where
  can : Canon m
  len : m.length ≤ 20
  top : ∀ x ∈ m, x.f1 ≤ 274
theorem Small.okV {m : List SP} (h : Small m) : okV m := ⟨h.can, by have := h.len; omega⟩
theorem Small.lt {m : List SP} (h : Small m) : m.length + 1 < 8796093022208 := by have := h.len; omega
theorem small_norm {raw : List SP} (hok : ∀ x ∈ raw, okS x ∧ x.f1 ≤ 274) (hlen : raw.length ≤ 20) : Small (norm raw) ∧ makeR raw = (norm raw, 0) := by
  have ho : ∀ x ∈ raw, okS x := fun x hx => (hok x hx).1
  have hs := norm_spec ho
  refine ⟨⟨hs.1, by omega, fun x hx => ?_⟩, ?_⟩
  · have hx' := hs.1.ok x hx
    unfold okS at hx'
    obtain ⟨y, hy, h1, h2⟩ := (hs.2.1 x.f1).1 ⟨x, hx, hx'.2.1, Int.le_refl _⟩
    have := (hok y hy).2
    omega
  · unfold makeR
    rw [if_pos ho, if_neg (by omega)]
theorem made_end {raw : List SP} (hok : ∀ x ∈ raw, okS x ∧ x.f1 ≤ 274) (hlen : raw.length ≤ 20) :
    Ev (fun k => (soundserviceref09_Make.f k raw).bind fun bt => some bt.1) (norm raw) := by
  have h := refmake_ev raw (by omega)
  rw [(small_norm hok hlen).2] at h
  exact Ev.bind (f := fun _ bt => some bt.1) h (Ev.const fun _ => rfl)
theorem made_l0 (l : List Int) (hb : ∀ x ∈ l, 0 ≤ x ∧ x ≤ 255) (hl : l.length < 9223372036854775000) : ∀ (d j : Nat) (raw : List SP), j + d = 20 → raw.length = j → (∀ x ∈ raw, okS x ∧ x.f1 ≤ 274) →
    ∃ m, Small m ∧ Ev (fun k => soundservicelaw09_made.l0 k l raw ((2 * j : Nat) : Int)) m
  | 0, j, raw, hj, hr, hok => by
    have hjj : j = 20 := by omega
    refine ⟨norm raw, (small_norm hok (by omega)).1, Ev.step (fun k => ?_) (made_end hok (by omega))⟩
    simp only [soundservicelaw09_made.l0]
    by_cases h : wrap64 (((2 * j : Nat) : Int) + 1) < (l.length : Int)
    · rw [if_pos h, if_neg (by omega)]
    · rw [if_neg h]
  | d + 1, j, raw, hj, hr, hok => by
    have hw : wrap64 (((2 * j : Nat) : Int) + 1) = ((2 * j + 1 : Nat) : Int) := by rw [w64 (by omega) (by omega)]; omega
    by_cases h : 2 * j + 1 < l.length
    · have h0 : 2 * j < l.length := by omega
      have hb0 := hb _ (List.getElem_mem h0)
      have hb1 := hb _ (List.getElem_mem h)
      have hm0 := Int.emod_nonneg l[2 * j + 1] (show (20 : Int) ≠ 0 by omega)
      have hm1 := Int.emod_lt_of_pos l[2 * j + 1] (show (0 : Int) < 20 by omega)
      have ht : Int.tmod l[2 * j + 1] 20 = l[2 * j + 1] % 20 := Int.tmod_eq_emod_of_nonneg hb1.1
      obtain ⟨m, hm, he⟩ := made_l0 l hb hl d (j + 1) (raw ++ [⟨l[2 * j], l[2 * j] + l[2 * j + 1] % 20⟩]) (by omega) (by simp; omega) (fun x hx => by
        rcases List.mem_append.1 hx with hx | hx
        · exact hok x hx
        · rw [List.mem_singleton.1 hx]; unfold okS; simp only; omega)
      refine ⟨m, hm, Ev.step (fun k => ?_) he⟩
      simp only [soundservicelaw09_made.l0]
      rw [hw, if_pos (by omega), if_pos (by omega), if_pos (by omega), if_pos (by omega), if_pos (by omega), if_pos (by omega), rdi_nat, rdi_nat, getD_at h0, getD_at h, ht, w64 (e := l[2 * j]) (by omega) (by omega), w64 (e := l[2 * j + 1] % 20) (by omega) (by omega), w64 (by omega) (by omega), w64 (by omega) (by omega)]
      rfl
    · refine ⟨norm raw, (small_norm hok (by omega)).1, Ev.step (fun k => ?_) (made_end hok (by omega))⟩
      simp only [soundservicelaw09_made.l0]
      rw [hw, if_neg (by omega)]
theorem made_ev (l : List Int) (hb : ∀ x ∈ l, 0 ≤ x ∧ x ≤ 255) (hl : l.length < 9223372036854775000) : ∃ m, Small m ∧ Ev (fun k => soundservicelaw09_made.f k l) m :=
  made_l0 l hb hl 20 0 [] (by omega) rfl (fun _ h => by cases h)
theorem sane_norm : norm [⟨5, 9⟩, ⟨1, 4⟩, ⟨20, 20⟩] = ([⟨1, 9⟩, ⟨20, 20⟩] : List SP) := by
  refine (eq_norm ?_ ⟨?_, ?_⟩ fun n => ?_).symm
  · decide
  · decide
  · simp
  · simp only [memS_cons, memS_nil, or_false]
    omega
theorem sane_canon : okV ([⟨1, 9⟩, ⟨20, 20⟩] : List SP) := ⟨⟨by decide, by simp⟩, by simp⟩
theorem sane_ev : Ev (fun k => soundservicelaw09_sane.f k) true := by
  have hmk := make_ev [⟨5, 9⟩, ⟨1, 4⟩, ⟨20, 20⟩] (by simp)
  have hmr : makeR [⟨5, 9⟩, ⟨1, 4⟩, ⟨20, 20⟩] = (([⟨1, 9⟩, ⟨20, 20⟩] : List SP), 0) := by
    unfold makeR
    rw [if_pos (by decide), sane_norm, if_neg (by simp)]
  rw [hmr] at hmk
  have hn1 := nearest_ev [⟨1, 9⟩, ⟨20, 20⟩] 14 (by omega) (by simp)
  have hn2 := nearest_ev [⟨1, 9⟩, ⟨20, 20⟩] 15 (by omega) (by simp)
  rw [spansR_of sane_canon] at hn1 hn2
  rw [show near [⟨1, 9⟩, ⟨20, 20⟩] 14 = (9, true) from by decide] at hn1
  rw [show near [⟨1, 9⟩, ⟨20, 20⟩] 15 = (20, true) from by decide] at hn2
  have hv := valid_ev [⟨1, 9⟩, ⟨20, 20⟩] (by simp)
  rw [decide_eq_true sane_canon] at hv
  have hh1 := has_ev [⟨1, 9⟩, ⟨20, 20⟩] 20 (by simp)
  have hh2 := has_ev [⟨1, 9⟩, ⟨20, 20⟩] 10 (by simp)
  rw [spansR_of sane_canon, decide_eq_true (by simp only [memS_cons, memS_nil, or_false]; omega)] at hh1
  rw [spansR_of sane_canon, decide_eq_false (by simp only [memS_cons, memS_nil, or_false]; omega)] at hh2
  unfold soundservicelaw09_sane.f
  refine Ev.bind hmk ?_
  refine Ev.bind hn1 ?_
  refine Ev.bind hn2 ?_
  refine Ev.bind hv ?_
  refine Ev.bind hh1 ?_
  refine Ev.bind hh2 ?_
  exact Ev.const fun _ => rfl
theorem union_ev (a b : List SP) (ha : a.length < 8796093022208) (hb : b.length < 8796093022208) : Ev (fun k => intset_Union.f k a b) (makeR (spansR a ++ spansR b)) := by
  have h1 := (spansR_canon a).2
  have h2 := (spansR_canon b).2
  refine Ev.bind (f := fun k s => (intset_spans.f k b).bind fun t => if s.length + t.length < 8796093022208 then intset_Make.f k (s ++ t) else none) (spans_ev a ha) ?_
  refine Ev.bind (f := fun k t => if (spansR a).length + t.length < 8796093022208 then intset_Make.f k (spansR a ++ t) else none) (spans_ev b hb) ?_
  refine Ev.congr (fun k => ?_) (make_ev (spansR a ++ spansR b) (by rw [List.length_append]; omega))
  rw [if_pos (by omega)]
theorem inside_ev (a b : List SP) (ha : a.length < 8796093022208) (hb : b.length < 8796093022208) : Ev (fun k => intset_Inside.f k a b) ((spansR a).all fun x => (spansR b).any (spanIn x)) := by
  refine Ev.bind (f := fun k m => (intset_spans.f k a).bind fun s => some (s.all fun x => m.any (spanIn x))) (spans_ev b hb) ?_
  exact Ev.bind (f := fun _ s => some (s.all fun x => (spansR b).any (spanIn x))) (spans_ev a ha) (Ev.const fun _ => rfl)
def inter : List SP → List SP → List SP
  | [], _ => []
  | _ :: _, [] => []
  | x :: a, y :: b => (if (cutS x y).f0 ≤ (cutS x y).f1 then [cutS x y] else []) ++ (if x.f1 < y.f1 then inter a (y :: b) else inter (x :: a) b)
termination_by a b => a.length + b.length
theorem inter_nil (b : List SP) : inter [] b = [] := by unfold inter; rfl
theorem inter_nil' (a : List SP) : inter a [] = [] := by cases a <;> (unfold inter; rfl)
theorem inter_cons (x y : SP) (a b : List SP) : inter (x :: a) (y :: b) = (if (cutS x y).f0 ≤ (cutS x y).f1 then [cutS x y] else []) ++ (if x.f1 < y.f1 then inter a (y :: b) else inter (x :: a) b) := by
  conv => lhs; unfold inter
theorem cut_mem (x y : SP) (n : Int) : memS n (if (cutS x y).f0 ≤ (cutS x y).f1 then [cutS x y] else []) ↔ (x.f0 ≤ n ∧ n ≤ x.f1) ∧ (y.f0 ≤ n ∧ n ≤ y.f1) := by
  have h1 := mx_cases x.f0 y.f0
  have h2 := mn_cases x.f1 y.f1
  by_cases h : (cutS x y).f0 ≤ (cutS x y).f1
  · rw [if_pos h]
    simp only [memS_cons, memS_nil, or_false]
    unfold cutS at h ⊢
    simp only at h ⊢
    omega
  · rw [if_neg h]
    unfold cutS at h
    simp only at h
    refine ⟨fun hh => absurd hh (memS_nil n), fun hh => ?_⟩
    omega
theorem inter_mem (n : Int) : ∀ (N : Nat) (a b : List SP), a.length + b.length = N → Canon a → Canon b → (memS n (inter a b) ↔ memS n a ∧ memS n b)
  | N, [], b, _, _, _ => by rw [inter_nil]; exact ⟨fun h => absurd h (memS_nil n), fun h => absurd h.1 (memS_nil n)⟩
  | N, x :: a, [], _, _, _ => by rw [inter_nil']; exact ⟨fun h => absurd h (memS_nil n), fun h => absurd h.2 (memS_nil n)⟩
  | 0, x :: a, y :: b, hN, _, _ => by simp at hN
  | N + 1, x :: a, y :: b, hN, ha, hb => by
    have hoa := ha.head
    have hob := hb.head
    unfold okS at hoa hob
    rw [inter_cons, memS_append, cut_mem, memS_cons n x a, memS_cons n y b]
    by_cases h : x.f1 < y.f1
    · rw [if_pos h, inter_mem n N a (y :: b) (by simp at hN ⊢; omega) ha.tail hb, memS_cons n y b]
      constructor
      · rintro (h1 | ⟨h1, h2⟩)
        · exact ⟨.inl h1.1, .inl h1.2⟩
        · exact ⟨.inr h1, h2⟩
      · rintro ⟨h1 | h1, h2⟩
        · rcases h2 with h2 | h2
          · exact .inl ⟨h1, h2⟩
          · have := hb.above h2
            omega
        · exact .inr ⟨h1, h2⟩
    · rw [if_neg h, inter_mem n N (x :: a) b (by simp at hN ⊢; omega) ha hb.tail, memS_cons n x a]
      constructor
      · rintro (h1 | ⟨h1, h2⟩)
        · exact ⟨.inl h1.1, .inl h1.2⟩
        · exact ⟨h1, .inr h2⟩
      · rintro ⟨h1, h2 | h2⟩
        · rcases h1 with h1 | h1
          · exact .inl ⟨h1, h2⟩
          · have := ha.above h1
            omega
        · exact .inr ⟨h1, h2⟩
theorem inter_canon : ∀ (N : Nat) (a b : List SP), a.length + b.length = N → Canon a → Canon b → Canon (inter a b) ∧ (inter a b).length ≤ a.length + b.length
  | N, [], b, _, _, _ => by rw [inter_nil]; exact ⟨Canon.nil, by simp⟩
  | N, x :: a, [], _, _, _ => by rw [inter_nil']; exact ⟨Canon.nil, by simp⟩
  | 0, x :: a, y :: b, hN, _, _ => by simp at hN
  | N + 1, x :: a, y :: b, hN, ha, hb => by
    have hoa := ha.head
    have hob := hb.head
    unfold okS at hoa hob
    have hx1 := mx_cases x.f0 y.f0
    have hx2 := mn_cases x.f1 y.f1
    have key : ∀ r : List SP, Canon r → r.length + 1 ≤ (x :: a).length + (y :: b).length → (∀ n, memS n r → (cutS x y).f1 + 1 < n) → Canon ((if (cutS x y).f0 ≤ (cutS x y).f1 then [cutS x y] else []) ++ r) ∧ ((if (cutS x y).f0 ≤ (cutS x y).f1 then [cutS x y] else []) ++ r).length ≤ (x :: a).length + (y :: b).length := by
      intro r hr hl hab
      by_cases h : (cutS x y).f0 ≤ (cutS x y).f1
      · rw [if_pos h]
        refine ⟨⟨fun z hz => ?_, ?_⟩, by simp at hl ⊢; omega⟩
        · rcases List.mem_append.1 hz with hz | hz
          · rw [List.mem_singleton.1 hz]
            unfold cutS at h ⊢
            unfold okS
            simp only at h ⊢
            omega
          · exact hr.ok z hz
        · refine List.pairwise_append.2 ⟨List.pairwise_singleton _ _, hr.sep, fun u hu v hv => ?_⟩
          rw [List.mem_singleton.1 hu]
          have hov := hr.ok v hv
          unfold okS at hov
          exact hab v.f0 ⟨v, hv, Int.le_refl _, hov.2.1⟩
      · rw [if_neg h]
        exact ⟨hr, by simp at hl ⊢; omega⟩
    rw [inter_cons]
    by_cases h : x.f1 < y.f1
    · rw [if_pos h]
      obtain ⟨h1, h2⟩ := inter_canon N a (y :: b) (by simp at hN ⊢; omega) ha.tail hb
      refine key _ h1 (by simp at h2 ⊢; omega) (fun n hn => ?_)
      have hm := ((inter_mem n N a (y :: b) (by simp at hN ⊢; omega) ha.tail hb).1 hn).1
      have := ha.above hm
      unfold cutS
      simp only
      omega
    · rw [if_neg h]
      obtain ⟨h1, h2⟩ := inter_canon N (x :: a) b (by simp at hN ⊢; omega) ha hb.tail
      refine key _ h1 (by simp at h2 ⊢; omega) (fun n hn => ?_)
      have hm := ((inter_mem n N (x :: a) b (by simp at hN ⊢; omega) ha hb.tail).1 hn).2
      have := hb.above hm
      unfold cutS
      simp only
      omega
def cutOf (x y : SP) : List SP := if (cutS x y).f0 ≤ (cutS x y).f1 then [cutS x y] else []
def cutsOf (x : SP) (b : List SP) : List SP := b.flatMap (cutOf x)
def allL (a b : List SP) : List SP := a.flatMap fun x => cutsOf x b
theorem cutsOf_cons (x y : SP) (b : List SP) : cutsOf x (y :: b) = cutOf x y ++ cutsOf x b := rfl
theorem allL_cons (x : SP) (a b : List SP) : allL (x :: a) b = cutsOf x b ++ allL a b := rfl
theorem cutOf_len (x y : SP) : (cutOf x y).length ≤ 1 := by
  unfold cutOf
  split <;> simp
theorem cutsOf_len (x : SP) : ∀ b : List SP, (cutsOf x b).length ≤ b.length
  | [] => Nat.le_refl _
  | y :: b => by
    rw [cutsOf_cons, List.length_append, List.length_cons]
    have h1 := cutOf_len x y
    have h2 := cutsOf_len x b
    omega
theorem canon_append {p q : List SP} (hp : Canon p) (hq : Canon q) (h : ∀ u ∈ p, ∀ v ∈ q, u.f1 + 1 < v.f0) : Canon (p ++ q) := by
  refine ⟨fun x hx => ?_, List.pairwise_append.2 ⟨hp.sep, hq.sep, h⟩⟩
  rcases List.mem_append.1 hx with hx | hx
  · exact hp.ok x hx
  · exact hq.ok x hx
theorem cutOf_spec {x y : SP} (hx : okS x) (hy : okS y) : Canon (cutOf x y) ∧ ∀ z ∈ cutOf x y, (x.f0 ≤ z.f0 ∧ z.f1 ≤ x.f1) ∧ (y.f0 ≤ z.f0 ∧ z.f1 ≤ y.f1) := by
  have h1 := mx_cases x.f0 y.f0
  have h2 := mn_cases x.f1 y.f1
  unfold okS at hx hy
  unfold cutOf
  by_cases h : (cutS x y).f0 ≤ (cutS x y).f1
  · rw [if_pos h]
    unfold cutS at h
    simp only at h
    refine ⟨⟨fun z hz => ?_, List.pairwise_singleton _ _⟩, fun z hz => ?_⟩
    · rw [List.mem_singleton.1 hz]
      unfold okS cutS
      simp only
      omega
    · rw [List.mem_singleton.1 hz]
      unfold cutS
      simp only
      omega
  · rw [if_neg h]
    exact ⟨Canon.nil, fun z hz => by cases hz⟩
theorem cutsOf_spec {x : SP} (hx : okS x) : ∀ {b : List SP}, Canon b → Canon (cutsOf x b) ∧ (∀ z ∈ cutsOf x b, (x.f0 ≤ z.f0 ∧ z.f1 ≤ x.f1) ∧ ∃ y ∈ b, y.f0 ≤ z.f0 ∧ z.f1 ≤ y.f1) ∧ ∀ n, memS n (cutsOf x b) ↔ (x.f0 ≤ n ∧ n ≤ x.f1) ∧ memS n b
  | [], _ => ⟨Canon.nil, (fun z hz => by cases hz), fun n => ⟨fun h => absurd h (memS_nil n), fun h => absurd h.2 (memS_nil n)⟩⟩
  | y :: b, hb => by
    obtain ⟨c1, b1, m1⟩ := cutsOf_spec hx hb.tail
    obtain ⟨c0, b0⟩ := cutOf_spec hx hb.head
    rw [cutsOf_cons]
    refine ⟨canon_append c0 c1 fun u hu v hv => ?_, fun z hz => ?_, fun n => ?_⟩
    · obtain ⟨y', hy', h1, _⟩ := (b1 v hv).2
      have h2 := (b0 u hu).2.2
      have h3 := hb.lt hy'
      omega
    · rcases List.mem_append.1 hz with hz | hz
      · exact ⟨(b0 z hz).1, y, List.mem_cons_self, (b0 z hz).2⟩
      · obtain ⟨h1, y', hy', h2⟩ := b1 z hz
        exact ⟨h1, y', List.mem_cons_of_mem _ hy', h2⟩
    · rw [memS_append, m1, memS_cons n y b, show cutOf x y = (if (cutS x y).f0 ≤ (cutS x y).f1 then [cutS x y] else []) from rfl, cut_mem]
      constructor
      · rintro (h | h)
        · exact ⟨h.1, .inl h.2⟩
        · exact ⟨h.1, .inr h.2⟩
      · rintro ⟨h, h1 | h1⟩
        · exact .inl ⟨h, h1⟩
        · exact .inr ⟨h, h1⟩
theorem allL_spec {b : List SP} (hb : Canon b) : ∀ {a : List SP}, Canon a → Canon (allL a b) ∧ (∀ z ∈ allL a b, ∃ x ∈ a, x.f0 ≤ z.f0 ∧ z.f1 ≤ x.f1) ∧ ∀ n, memS n (allL a b) ↔ memS n a ∧ memS n b
  | [], _ => ⟨Canon.nil, (fun z hz => by cases hz), fun n => ⟨fun h => absurd h (memS_nil n), fun h => absurd h.1 (memS_nil n)⟩⟩
  | x :: a, ha => by
    obtain ⟨c1, b1, m1⟩ := allL_spec hb ha.tail
    obtain ⟨c0, b0, m0⟩ := cutsOf_spec ha.head hb
    rw [allL_cons]
    refine ⟨canon_append c0 c1 fun u hu v hv => ?_, fun z hz => ?_, fun n => ?_⟩
    · obtain ⟨x', hx', h1, _⟩ := b1 v hv
      have h2 := (b0 u hu).1.2
      have h3 := ha.lt hx'
      omega
    · rcases List.mem_append.1 hz with hz | hz
      · exact ⟨x, List.mem_cons_self, (b0 z hz).1⟩
      · obtain ⟨x', hx', h2⟩ := b1 z hz
        exact ⟨x', List.mem_cons_of_mem _ hx', h2⟩
    · rw [memS_append, m0, m1, memS_cons n x a]
      constructor
      · rintro (h | h)
        · exact ⟨.inl h.1, h.2⟩
        · exact ⟨.inr h.1, h.2⟩
      · rintro ⟨h | h, h1⟩
        · exact .inl ⟨h, h1⟩
        · exact .inr ⟨h, h1⟩
theorem allL_inter {a b : List SP} (ha : Canon a) (hb : Canon b) : allL a b = inter a b :=
  canon_unique (allL_spec hb ha).1 (inter_canon _ a b rfl ha hb).1 fun n => by rw [(allL_spec hb ha).2.2, inter_mem n _ a b rfl ha hb]
theorem all_l1 (a b0 bt : List SP) (x : SP) (i : Nat) (r : List SP) (hbt : bt.length ≤ 64) : ∀ (d j : Nat) (out : List SP), j + d = bt.length → out.length + d < 1000000 →
    Ev (fun k => soundserviceref09_All.l0 k (out ++ cutsOf x (bt.drop j)) a (a.length : Int) (wrap64 ((i : Int) + 1)) b0) r →
    Ev (fun k => soundserviceref09_All.l1 k out a (a.length : Int) (i : Int) bt (bt.length : Int) (j : Int) b0 x.f0 x.f1) r
  | 0, j, out, hj, _, H => by
    rw [List.drop_of_length_le (by omega), show cutsOf x [] = [] from rfl, List.append_nil] at H
    refine Ev.step (fun k => ?_) H
    simp only [soundserviceref09_All.l1]
    rw [if_neg (by omega)]
  | d + 1, j, out, hj, ho, H => by
    have hlt : j < bt.length := by omega
    have hg : rd_T56 bt (j : Int) = bt[j] := by rw [rd_nat, getD_at hlt]
    have hw1 : wrap64 ((j : Int) + 1) = ((j + 1 : Nat) : Int) := by rw [w64 (by omega) (by omega)]; omega
    rw [List.drop_eq_getElem_cons hlt, cutsOf_cons, ← List.append_assoc] at H
    have hl := cutOf_len x bt[j]
    refine Ev.step (fun k => ?_) (all_l1 a b0 bt x i r hbt d (j + 1) (out ++ cutOf x bt[j]) (by omega) (by rw [List.length_append]; omega) H)
    simp only [soundserviceref09_All.l1]
    rw [if_pos (by omega), if_pos (by omega), if_pos (by omega), hg, hw1]
    unfold cutOf
    by_cases h : mx x.f0 bt[j].f0 ≤ mn x.f1 bt[j].f1
    · rw [if_pos h, if_pos (by omega), if_pos (show (cutS x bt[j]).f0 ≤ (cutS x bt[j]).f1 from h)]
      rfl
    · rw [if_neg h, if_neg (show ¬ (cutS x bt[j]).f0 ≤ (cutS x bt[j]).f1 from h), List.append_nil]
theorem all_l0 (a b0 : List SP) (hb : b0.length < 8796093022208) (ha : a.length ≤ 64) : ∀ (d i : Nat) (out : List SP), i + d = a.length → out.length + d * 64 < 900000 →
    Ev (fun k => soundserviceref09_All.l0 k out a (a.length : Int) (i : Int) b0) (out ++ allL (a.drop i) (spansR b0))
  | 0, i, out, hi, _ => by
    rw [List.drop_of_length_le (by omega), show allL [] (spansR b0) = [] from rfl, List.append_nil]
    refine Ev.last fun k => ?_
    simp only [soundserviceref09_All.l0]
    rw [if_neg (by omega)]
  | d + 1, i, out, hi, ho => by
    have hlt : i < a.length := by omega
    have hg : rd_T56 a (i : Int) = a[i] := by rw [rd_nat, getD_at hlt]
    have hw1 : wrap64 ((i : Int) + 1) = ((i + 1 : Nat) : Int) := by rw [w64 (by omega) (by omega)]; omega
    have h64 := (spansR_canon b0).2
    have hcl := cutsOf_len a[i] (spansR b0)
    rw [List.drop_eq_getElem_cons hlt, allL_cons, ← List.append_assoc]
    refine Ev.step (f := fun k => (soundserviceref09_spans.f k b0).bind fun t => soundserviceref09_All.l1 k out a (a.length : Int) (i : Int) t (t.length : Int) 0 b0 a[i].f0 a[i].f1) (fun k => ?_) ?_
    · simp only [soundserviceref09_All.l0]
      rw [if_pos (by omega), if_pos (by omega), if_pos (by omega), hg]
    · refine Ev.bind (refspans_ev b0 hb) ?_
      refine all_l1 a b0 (spansR b0) a[i] i _ h64 (spansR b0).length 0 out (by omega) (by omega) ?_
      rw [List.drop_zero, hw1]
      exact all_l0 a b0 hb ha d (i + 1) (out ++ cutsOf a[i] (spansR b0)) (by omega) (by rw [List.length_append]; omega)
theorem all_ev (a b : List SP) (ha : a.length < 8796093022208) (hb : b.length < 8796093022208) : Ev (fun k => soundserviceref09_All.f k a b) (inter (spansR a) (spansR b)) := by
  refine Ev.bind (f := fun k t => soundserviceref09_All.l0 k [] t (t.length : Int) 0 b) (refspans_ev a ha) ?_
  have h := all_l0 (spansR a) b hb (spansR_canon a).2 (spansR a).length 0 [] (by omega) (by have := (spansR_canon a).2; simp; omega)
  rw [List.drop_zero, List.nil_append, allL_inter (spansR_canon a).1 (spansR_canon b).1] at h
  exact h
theorem interL_take : ∀ (N : Nat) (s t out : List SP), s.length + t.length = N → out.length ≤ 64 → interL out s t = (out ++ inter s t).take 64
  | N, [], t, out, _, ho => by rw [interL_nil, inter_nil, List.append_nil, List.take_of_length_le ho]
  | N, x :: s, [], out, _, ho => by rw [interL_nil', inter_nil', List.append_nil, List.take_of_length_le ho]
  | 0, x :: s, y :: t, out, hN, _ => by simp at hN
  | N + 1, x :: s, y :: t, out, hN, ho => by
    rw [interL_cons, inter_cons]
    by_cases h64 : out.length < 64
    · rw [if_pos h64]
      have hl : (if (cutS x y).f0 ≤ (cutS x y).f1 then out ++ [cutS x y] else out) = out ++ (if (cutS x y).f0 ≤ (cutS x y).f1 then [cutS x y] else []) := by
        by_cases h : (cutS x y).f0 ≤ (cutS x y).f1
        · rw [if_pos h, if_pos h]
        · rw [if_neg h, if_neg h, List.append_nil]
      have hlen : (out ++ (if (cutS x y).f0 ≤ (cutS x y).f1 then [cutS x y] else [])).length ≤ out.length + 1 := by
        by_cases h : (cutS x y).f0 ≤ (cutS x y).f1
        · rw [if_pos h]; simp
        · rw [if_neg h]; simp
      rw [hl]
      by_cases h : x.f1 < y.f1
      · rw [if_pos h, if_pos h, interL_take N s (y :: t) _ (by simp at hN ⊢; omega) (by omega), List.append_assoc]
      · rw [if_neg h, if_neg h, interL_take N (x :: s) t _ (by simp at hN ⊢; omega) (by omega), List.append_assoc]
    · have he : out.length = 64 := by omega
      rw [if_neg h64, ← he, List.take_left']
      rfl
theorem intersect_cut (a b : List SP) (ha : a.length < 8796093022208) (hb : b.length < 8796093022208) : Ev (fun k => intset_Intersect.f k a b) ((inter (spansR a) (spansR b)).take 64) := by
  refine Ev.bind (f := fun k s => (intset_spans.f k b).bind fun t => some (interL [] s t)) (spans_ev a ha) ?_
  refine Ev.bind (f := fun _ t => some (interL [] (spansR a) t)) (spans_ev b hb) (Ev.const fun _ => ?_)
  rw [interL_take _ (spansR a) (spansR b) [] rfl (by simp), List.nil_append]
theorem refintersect_ev (a b : List SP) (ha : a.length < 8796093022208) (hb : b.length < 8796093022208) : Ev (fun k => soundserviceref09_Intersect.f k a b) ((inter (spansR a) (spansR b)).take 64) :=
  by
  unfold soundserviceref09_Intersect.f
  exact Ev.bind (f := fun _ l => some (l.take 64)) (all_ev a b ha hb) (Ev.const fun _ => rfl)
theorem refunion_ev (a b : List SP) (ha : a.length < 8796093022208) (hb : b.length < 8796093022208) : Ev (fun k => soundserviceref09_Union.f k a b) (makeR (spansR a ++ spansR b)) := by
  have h1 := spansR_canon a
  have h2 := spansR_canon b
  have hok : ∀ x ∈ spansR a ++ spansR b, okS x := fun x hx => by
    rcases List.mem_append.1 hx with hx | hx
    · exact h1.1.ok x hx
    · exact h2.1.ok x hx
  have hl : (spansR a ++ spansR b).length ≤ 128 := by rw [List.length_append]; have := h1.2; have := h2.2; omega
  unfold soundserviceref09_Union.f
  refine Ev.bind (refspans_ev a ha) ?_
  refine Ev.congr (f := fun k => (soundserviceref09_spans.f k b).bind fun t => if (spansR a).length + t.length < 8796093022208 then (soundserviceref09_joined.f k (spansR a ++ t)).bind fun t1079 => if (t1079.length : Int) > 64 then some ([], 3) else some (t1079, 0) else none) (fun k => ?_) ?_
  · rw [if_pos (by have := h1.2; simp; omega)]
    simp only [Option.bind_some, List.nil_append]
  refine Ev.bind (refspans_ev b hb) ?_
  refine Ev.congr (f := fun k => (soundserviceref09_joined.f k (spansR a ++ spansR b)).bind fun t1079 => if (t1079.length : Int) > 64 then some ([], 3) else some (t1079, 0)) (fun k => ?_) ?_
  · rw [if_pos (by have := h1.2; have := h2.2; omega)]
  refine Ev.bind (joined_ev (spansR a ++ spansR b) hok (by omega)) (Ev.const fun _ => ?_)
  unfold makeR
  rw [if_pos hok]
  by_cases h : 64 < (norm (spansR a ++ spansR b)).length
  · rw [if_pos h, if_pos (by omega)]
  · rw [if_neg h, if_neg (by omega)]
theorem refinside_l1 (a b0 bt : List SP) (x : SP) (i : Nat) (r : Bool) (hbt : bt.length ≤ 64) : ∀ (d j : Nat) (c : Bool), j + d = bt.length →
    ((c || (bt.drop j).any (spanIn x)) = true → Ev (fun k => soundserviceref09_Inside.l0 k a (a.length : Int) (wrap64 ((i : Int) + 1)) b0) r) → ((c || (bt.drop j).any (spanIn x)) = false → r = false) →
    Ev (fun k => soundserviceref09_Inside.l1 k c a (a.length : Int) (i : Int) bt (bt.length : Int) (j : Int) b0 x.f0 x.f1) r
  | 0, j, c, hj, H1, H0 => by
    rw [List.drop_of_length_le (by omega), List.any_nil, Bool.or_false] at H1 H0
    cases c with
    | true =>
      refine Ev.step (fun k => ?_) (H1 rfl)
      simp only [soundserviceref09_Inside.l1]
      rw [if_neg (by omega), if_pos trivial]
    | false =>
      refine Ev.last fun k => ?_
      simp only [soundserviceref09_Inside.l1]
      rw [if_neg (by omega), H0 rfl]
      rfl
  | d + 1, j, c, hj, H1, H0 => by
    have hlt : j < bt.length := by omega
    have hg : rd_T56 bt (j : Int) = bt[j] := by rw [rd_nat, getD_at hlt]
    have hw1 : wrap64 ((j : Int) + 1) = ((j + 1 : Nat) : Int) := by rw [w64 (by omega) (by omega)]; omega
    rw [List.drop_eq_getElem_cons hlt, List.any_cons, ← Bool.or_assoc] at H1 H0
    refine Ev.step (fun k => ?_) (refinside_l1 a b0 bt x i r hbt d (j + 1) (c || spanIn x bt[j]) (by omega) H1 H0)
    simp only [soundserviceref09_Inside.l1]
    rw [if_pos (by omega), if_pos (by omega), if_pos (by omega), hg, hw1]
    cases c with
    | true => rw [if_pos rfl, Bool.true_or]
    | false =>
      rw [if_neg (by decide), Bool.false_or]
      unfold spanIn
      by_cases h : bt[j].f0 ≤ x.f0
      · rw [if_pos h, decide_eq_true h, Bool.true_and]
      · rw [if_neg h, decide_eq_false h, Bool.false_and]
theorem refinside_l0 (a b0 : List SP) (hb : b0.length < 8796093022208) (ha : a.length ≤ 64) : ∀ (d i : Nat), i + d = a.length →
    Ev (fun k => soundserviceref09_Inside.l0 k a (a.length : Int) (i : Int) b0) ((a.drop i).all fun x => (spansR b0).any (spanIn x))
  | 0, i, hi => by
    rw [List.drop_of_length_le (by omega)]
    refine Ev.last fun k => ?_
    simp only [soundserviceref09_Inside.l0]
    rw [if_neg (by omega)]
    rfl
  | d + 1, i, hi => by
    have hlt : i < a.length := by omega
    have hg : rd_T56 a (i : Int) = a[i] := by rw [rd_nat, getD_at hlt]
    have hw1 : wrap64 ((i : Int) + 1) = ((i + 1 : Nat) : Int) := by rw [w64 (by omega) (by omega)]; omega
    have h64 := (spansR_canon b0).2
    rw [List.drop_eq_getElem_cons hlt, List.all_cons]
    refine Ev.step (f := fun k => (soundserviceref09_spans.f k b0).bind fun t => soundserviceref09_Inside.l1 k false a (a.length : Int) (i : Int) t (t.length : Int) 0 b0 a[i].f0 a[i].f1) (fun k => ?_) ?_
    · simp only [soundserviceref09_Inside.l0]
      rw [if_pos (by omega), if_pos (by omega), if_pos (by omega), hg]
    · refine Ev.bind (refspans_ev b0 hb) ?_
      refine refinside_l1 a b0 (spansR b0) a[i] i _ h64 (spansR b0).length 0 false (by omega) (fun h => ?_) (fun h => ?_)
      · rw [List.drop_zero, Bool.false_or] at h
        rw [h, Bool.true_and, hw1]
        exact refinside_l0 a b0 hb ha d (i + 1) (by omega)
      · rw [List.drop_zero, Bool.false_or] at h
        rw [h, Bool.false_and]
theorem refinside_ev (a b : List SP) (ha : a.length < 8796093022208) (hb : b.length < 8796093022208) : Ev (fun k => soundserviceref09_Inside.f k a b) ((spansR a).all fun x => (spansR b).any (spanIn x)) := by
  refine Ev.bind (f := fun k t => soundserviceref09_Inside.l0 k t (t.length : Int) 0 b) (refspans_ev a ha) ?_
  have h := refinside_l0 (spansR a) b hb (spansR_canon a).2 (spansR a).length 0 (by omega)
  rw [List.drop_zero] at h
  exact h
end Go.Proofs.Ytbahibaohehojaa.Q
namespace Go.Proofs.Ytbahibaohehojaa.Pure
open Go.Proofs.Ytbahibaohehojaa.Q Go.RowKit Go.Proofs.YtbahibaohehojaaW.PrintWords Go.Proofs.YtbahibaohehojaaW.PrintLast Go.Proofs.YtbahibaohehojaaW.PrintMore
attribute [local go_sem] max2_int min2_int max_two min_two max_three min_three max_four min_four
set_option linter.unusedVariables false
set_option linter.unusedSimpArgs false
theorem makeR_len (l : List SP) : (makeR l).1.length ≤ 64 := by
  unfold makeR
  by_cases hk : ∀ x ∈ l, okS x
  · rw [if_pos hk]
    by_cases h64 : 64 < (norm l).length
    · rw [if_pos h64]; simp
    · rw [if_neg h64]; simp only; omega
  · rw [if_neg hk]; simp
theorem pair_ev (x y : List SP) (hx : x.length < 8796093022208) (hy : y.length < 8796093022208) : ∃ K, ∀ k, K ≤ k → PairF k x y := by
  obtain ⟨K1, e1⟩ := union_ev x y hx hy
  obtain ⟨K2, e2⟩ := refunion_ev x y hx hy
  obtain ⟨K3, e3⟩ := same_ev (makeR (spansR x ++ spansR y)).1 (by have := makeR_len (spansR x ++ spansR y); omega)
  obtain ⟨K4, e4⟩ := intersect_cut x y hx hy
  obtain ⟨K5, e5⟩ := refintersect_ev x y hx hy
  obtain ⟨K6, e6⟩ := same_ev ((inter (spansR x) (spansR y)).take 64) (by rw [List.length_take]; omega)
  obtain ⟨K7, e7⟩ := inside_ev x y hx hy
  obtain ⟨K8, e8⟩ := refinside_ev x y hx hy
  exact ⟨K1 + K2 + K3 + K4 + K5 + K6 + K7 + K8, fun k hk => ⟨_, _, _, _, _, _, e1 k (by omega), e2 k (by omega), e3 k (by omega), e4 k (by omega), e5 k (by omega), e6 k (by omega), e7 k (by omega), e8 k (by omega)⟩⟩
theorem nears_ev (x : List SP) (n : Int) (hn : -9223372036854775808 ≤ n ∧ n ≤ 9223372036854775807) (hx : x.length < 8796093022208) : ∃ K, ∀ k, K ≤ k → NearF k x n := by
  obtain ⟨K1, e1⟩ := nearest_ev x n hn hx
  obtain ⟨K2, e2⟩ := refnearest_ev x n hn hx
  exact ⟨K1 + K2, fun k hk => ⟨_, _, e1 k (by omega), e2 k (by omega)⟩⟩
theorem IntsetCombines : soundservicelaw09_IntsetCombines.Pure := by
  intro l0 l1 l2 l3 n hw0 hw1 hl2 hl2' hb2 hl3 hl3' hb3 hn
  have hn' := i64_wf hn
  obtain ⟨a, ha, K1, e1⟩ := made_ev l2 (fun x hx => u8_wf (hb2 x hx)) (by omega)
  obtain ⟨b, hb, K2, e2⟩ := made_ev l3 (fun x hx => u8_wf (hb3 x hx)) (by omega)
  obtain ⟨K0, e0⟩ := sane_ev
  have hla := ha.len
  have hlb := hb.len
  by_cases hc : (l0.length : Int) ≤ 70 ∧ (l1.length : Int) ≤ 70
  · obtain ⟨h0, h1⟩ := hc
    obtain ⟨K3, e3⟩ := pair_ev l0 l1 (by omega) (by omega)
    obtain ⟨K4, e4⟩ := pair_ev l0 b (by omega) (by omega)
    obtain ⟨K5, e5⟩ := pair_ev a l1 (by omega) (by omega)
    obtain ⟨K6, e6⟩ := pair_ev a b (by omega) (by omega)
    obtain ⟨K7, e7⟩ := nears_ev l0 n hn' (by omega)
    obtain ⟨K8, e8⟩ := nears_ev a n hn' (by omega)
    let K := K0 + K1 + K2 + K3 + K4 + K5 + K6 + K7 + K8
    refine ⟨K, a, b, e0 K (by omega), fun _ _ => ⟨e1 K (by omega), e2 K (by omega), fun x y hx hy => ?_, fun x hx => ?_⟩⟩
    · rcases hx with rfl | rfl <;> rcases hy with rfl | rfl
      · exact e3 K (by omega)
      · exact e4 K (by omega)
      · exact e5 K (by omega)
      · exact e6 K (by omega)
    · rcases hx with rfl | rfl
      · exact e7 K (by omega)
      · exact e8 K (by omega)
  · exact ⟨K0, a, b, e0 K0 (Nat.le_refl _), fun h0 h1 => absurd ⟨h0, h1⟩ hc⟩
end Go.Proofs.Ytbahibaohehojaa.Pure
namespace Go.Proofs.Ytbahibaohehojaa.intsetCombines
open Go.ChangeShapes Go.WideShapes Go.ChangeAt Go.RowKit
open Go.ChangeMaps (open_string shut_string)
set_option linter.unusedVariables false
theorem own : ownKnob Try.prog.godebug = none := by kernel_rfl
theorem laidOut : laidOutB Try.prog = true := by kernel_rfl
def IsRow (k : IntKind) (w : World) (a : Option Addr) (len cap : Nat) (zs : List Int) : Prop :=
  (a = none ∧ len = 0 ∧ cap = 0 ∧ zs = []) ∨
  ∃ x, a = some x ∧ len ≤ cap ∧ cap ≤ maxLen ∧ zs.length = cap ∧ (∀ i, i < zs.length → w.cell? (x.add i) = some (.int k (zs.getD i 0))) ∧ ∀ n ∈ zs, (Lit.int k n).wf = true
set_option maxRecDepth 100000 in
theorem lifted (os : Os) (started : os.Started) (H : Type) (enc : TypeId × Value → H) :
    ReturnsInHanded {} Try.checked os 12 .any (Rows.intsetCombinesSpec.pre6 enc Try.prog Try.f12 Rows.intsetCombinesRow.domain false) (Rows.intsetCombinesSpec.post enc Try.prog Try.f12 false true false false) := by
  refine returnsInHanded_of_change_sized (C := Try.checked) own started (by kernel_rfl) Try.func12
    (ChangeSpec.witness6 (enc := enc) (C := Try.checked) false ⟨#[], #[.agg #[.slice none 0 0], .agg #[.slice none 0 0], .slice none 0 0, .slice none 0 0, .int .i64 0], []⟩ 8 (by kernel_rfl) (by kernel_rfl) (by kernel_rfl) (by kernel_rfl)) ?_
  intro W base args ds gs before hval0 hW hcnd hsz0 _
  have hsz : (DataW.weightsEach Try.prog (Try.f12.params.toList ++ Rows.intsetCombinesSpec.plain.varTypes Try.prog) (ds ++ gs)).all (· ≤ reachBytes) = true := hsz0
  have hval : ∀ (j : Nat) t v, Try.f12.params[j]? = some t → args[j]? = some v → Value.okWide Try.prog W .any base t v := hval0
  have hW' := hW
  obtain ⟨p, q, hA0, hV, rfl, hfz, hnd⟩ := hW
  have hA : DataW.TrodAll enc Try.prog W 0 (fun _ => true) true Try.f12.params.toList args.toList ds p := hA0
  rw [Try.params12] at hA hval hsz
  obtain ⟨v0, vs0, d0, ds0, p0, q0, hargs, rfl, rfl, h0, r0⟩ := trodAll_cons hA
  obtain ⟨v1, vs1, d1, ds1, p1, q1, rfl, rfl, rfl, h1, r1⟩ := trodAll_cons r0
  obtain ⟨v2, vs2, d2, ds2, p2, q2, rfl, rfl, rfl, h2, r2⟩ := trodAll_cons r1
  obtain ⟨v3, vs3, d3, ds3, p3, q3, rfl, rfl, rfl, h3, r3⟩ := trodAll_cons r2
  obtain ⟨v4, vs4, d4, ds4, p4, q4, rfl, rfl, rfl, h4, r4⟩ := trodAll_cons r3
  obtain ⟨rfl, rfl, rfl⟩ := trodAll_nil r4
  obtain rfl : args = #[v0, v1, v2, v3, v4] := by cases args; simp_all
  obtain ⟨rfl, rfl⟩ := trodVars_none hV
  obtain ⟨cs0, rfl, _⟩ := okWide_struct Try.underlying42 (hval 0 42 v0 rfl rfl)
  have k0 := h0
  have lt0 : ∀ x ∈ p0, x.block < W.heap.size := by obtain ⟨m, hm⟩ := k0; exact DataW.trod_lt m _ _ _ hm
  obtain ⟨a0, cap0, l0, rfl, lc0, lC0, lw0⟩ := Q.set_at h0
  obtain ⟨cs1, rfl, _⟩ := okWide_struct Try.underlying42 (hval 1 42 v1 rfl rfl)
  have k1 := h1
  have lt1 : ∀ x ∈ p1, x.block < W.heap.size := by obtain ⟨m, hm⟩ := k1; exact DataW.trod_lt m _ _ _ hm
  obtain ⟨a1, cap1, l1, rfl, lc1, lC1, lw1⟩ := Q.set_at h1
  obtain ⟨a2, len2, cap2, rfl⟩ := okWide_slice Try.underlying22 (hval 2 22 v2 rfl rfl)
  have k2 := h2
  have lt2 : ∀ x ∈ p2, x.block < W.heap.size := by obtain ⟨m, hm⟩ := k2; exact DataW.trod_lt m _ _ _ hm
  obtain ⟨z2, w2⟩ : ∃ zs, IsRow .u8 W a2 len2 cap2 zs := by
    obtain ⟨fuel, hf⟩ := h2
    rcases open_ints Try.underlying22 Try.underlying5 (by kernel_rfl) hf with ⟨hcs, _⟩ | ⟨x, l, c, zs, hcs, _, hl, hm, hz, _, hcell, hwz⟩
    · simp [Value.cells] at hcs
      obtain ⟨rfl, rfl, rfl⟩ := hcs
      exact ⟨[], .inl ⟨rfl, rfl, rfl, rfl⟩⟩
    · simp [Value.cells] at hcs
      obtain ⟨rfl, rfl, rfl⟩ := hcs
      exact ⟨zs, .inr ⟨_, rfl, hl, hm, by simpa using hz, hcell, hwz⟩⟩
  have y2 : len2 * 1 ≤ 140737488351232 := Go.Proofs.YtbahibaohehojaaW.PrintWords.sized_ints hsz (j := 2) (t := 22) rfl rfl Try.underlying22 Try.underlying5 (by kernel_rfl) (by kernel_rfl) h2
  obtain ⟨a3, len3, cap3, rfl⟩ := okWide_slice Try.underlying22 (hval 3 22 v3 rfl rfl)
  have k3 := h3
  have lt3 : ∀ x ∈ p3, x.block < W.heap.size := by obtain ⟨m, hm⟩ := k3; exact DataW.trod_lt m _ _ _ hm
  obtain ⟨z3, w3⟩ : ∃ zs, IsRow .u8 W a3 len3 cap3 zs := by
    obtain ⟨fuel, hf⟩ := h3
    rcases open_ints Try.underlying22 Try.underlying5 (by kernel_rfl) hf with ⟨hcs, _⟩ | ⟨x, l, c, zs, hcs, _, hl, hm, hz, _, hcell, hwz⟩
    · simp [Value.cells] at hcs
      obtain ⟨rfl, rfl, rfl⟩ := hcs
      exact ⟨[], .inl ⟨rfl, rfl, rfl, rfl⟩⟩
    · simp [Value.cells] at hcs
      obtain ⟨rfl, rfl, rfl⟩ := hcs
      exact ⟨zs, .inr ⟨_, rfl, hl, hm, by simpa using hz, hcell, hwz⟩⟩
  have y3 : len3 * 1 ≤ 140737488351232 := Go.Proofs.YtbahibaohehojaaW.PrintWords.sized_ints hsz (j := 3) (t := 22) rfl rfl Try.underlying22 Try.underlying5 (by kernel_rfl) (by kernel_rfl) h3
  obtain ⟨a4, rfl, rfl, rfl, w4⟩ := open_int Try.underlying3 (hval 4 3 v4 rfl rfl) h4
  clear hA0 hval0 hsz0 hsz
  refine (Q.soundservicelaw09_IntsetCombines.walk Pure.IntsetCombines a0 cap0 l0 a1 cap1 l1 a2 len2 cap2 z2 a3 len3 cap3 z3 a4 W lC0 lc0 lw0 lC1 lc1 lw1 w2 y2 w3 y3 w4).mono fun e W' ⟨he, bel⟩ => ?_
  subst he
  exact ⟨_, rfl, _, _, _, [], _, [], hW', trodAll_mk1 (shut_bool Try.underlying4 _), (trodAll_cons_mk (Below.trod laidOut (by kernel_rfl) (of_decide_eq_true (by kernel_rfl)) k0 bel lt0) (trodAll_cons_mk (Below.trod laidOut (by kernel_rfl) (of_decide_eq_true (by kernel_rfl)) k1 bel lt1) (trodAll_cons_mk (Below.trod laidOut (by kernel_rfl) (of_decide_eq_true (by kernel_rfl)) k2 bel lt2) (trodAll_cons_mk (Below.trod laidOut (by kernel_rfl) (of_decide_eq_true (by kernel_rfl)) k3 bel lt3) (trodAll_cons_mk (shut_int Try.underlying3 w4) trodAll_mk0))))), rfl, bel.frame _, fun h => by cases h⟩
theorem over : Rows.intsetCombinesRow.holds Try.pinned (OpenSpec.ofChange Rows.intsetCombinesSpec) :=
  OpenClaim.holds_of_wide 12 Try.f12 rfl rfl rfl rfl rfl rfl rfl ⟨rfl, rfl, rfl, rfl, rfl⟩ rfl rfl rfl rfl rfl (by kernel_rfl) Try.func12 (by show joinedFacts Try.prog _ _ _ _ = true; unfold joinedFacts; rw [Q.may_enter, Q.lifts_final, Q.make_is]; kernel_rfl)
    (of_decide_eq_true (by kernel_rfl)) (by unfold Func.isWrapper; first | (rw [if_pos (by decide +kernel)]; kernel_rfl) | (rw [if_neg (by decide +kernel)]; exact ⟨rfl, rfl⟩))
    (fun os started H enc _ => lifted os started H enc)
theorem proved : Rows.IntsetCombinesSaid := over
end Go.Proofs.Ytbahibaohehojaa.intsetCombines
namespace Go.Proofs.Ytbahibaohehojaa
theorem intsetCombines_holds : Rows.IntsetCombinesSaid := intsetCombines.proved
end Go.Proofs.Ytbahibaohehojaa
