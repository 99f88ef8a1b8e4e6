/- Proves that soundservice/soundservicelaw09.IntsetMakes returns true for every input, never panics, and leaves its input as it was (the given statement IntsetMakesSaid). Conditions: none but those of the given statement. This text is part 5 of 6 of that proof; it was written by a program (wip/pack.py) out of this claim's own texts, in build order; Lean checks it. -/
import Derived.Test.YtbahibaohehojaaZIntsetMakes3
import Derived.Deep.Slices
import Derived.KernelRfl
import Derived.Test.YtbahibaohehojaaChecked
import GoSem.ClaimJoined
-- YtbahibaohehojaaQf29
namespace Go.Proofs.Ytbahibaohehojaa.Q
open Go.RowKit Go.Proofs.YtbahibaohehojaaW.PrintWords Go.Proofs.YtbahibaohehojaaW.PrintLast Go.Proofs.YtbahibaohehojaaW.PrintMore
attribute [local go_sem] max2_int min2_int max_two min_two max_three min_three max_four min_four
set_option linter.unusedVariables false
set_option linter.unusedSimpArgs false
attribute [local go_sem high] eqA56
def soundserviceref09_Same.l0 : Nat → Int → Int → List (S56) → List (S56) → Option (Bool)
  | 0, _, _, _, _ => none
  | k + 1, x15, x16, x631000, x632000 => if x16 < x15 then (if 0 ≤ x16 then (if x16 < (x631000.length : Int) then (if x16 < (x632000.length : Int) then (if (!(((rd_T56 x631000 x16).f0) == ((rd_T56 x632000 x16).f0)) || (!(((rd_T56 x631000 x16).f1) == ((rd_T56 x632000 x16).f1)))) = true then (some false) else (soundserviceref09_Same.l0 k x15 (wrap64 (x16 + 1)) x631000 x632000)) else (none)) else (none)) else (none)) else (some true)
def soundserviceref09_Same.f (k : Nat) (l0_0 : List (S56)) (l1_0 : List (S56)) : Option (Bool) := if (l0_0.length : Int) = (l1_0.length : Int) then (soundserviceref09_Same.l0 k (l0_0.length : Int) 0 l0_0 l1_0) else (some false)
set_option maxHeartbeats 8000000 in
set_option maxRecDepth 100000 in
theorem soundserviceref09_Same.calls (k : Nat) (A0_0 : Option Addr) (c0_0 : Nat) (l0_0 : List (S56)) (A1_0 : Option Addr) (c1_0 : Nat) (l1_0 : List (S56)) (r : Bool) (w : World) (hr0_0 : Kd.C k56 w A0_0 l0_0.length l0_0) (hc0_0 : l0_0.length ≤ c0_0) (hr1_0 : Kd.C k56 w A1_0 l1_0.length l1_0) (hc1_0 : l1_0.length ≤ c1_0) (h : soundserviceref09_Same.f k l0_0 l1_0 = some r) :
    Calls Try.prog 29 #[.agg #[.slice A0_0 l0_0.length c0_0], .agg #[.slice A1_0 l1_0.length c1_0]] w fun e w' => e = .returned (.bool r) ∧ Below w.heap.size w w' := by
  have hu42 := Try.underlying42
  have hu56 := Try.underlying56
  have HR0_0 := Aside0.mk hr0_0
  have HC0_0 := Aside0.mk hc0_0
  clear hr0_0 hc0_0
  have HR1_0 := Aside0.mk hr1_0
  have HC1_0 := Aside0.mk hc1_0
  clear hr1_0 hc1_0
  have HB := Aside0.mk (Below.refl w.heap.size w)
  have H : (if (l0_0.length : Int) = (l1_0.length : Int) then (soundserviceref09_Same.l0 k (l0_0.length : Int) 0 l0_0 l1_0) else (some false)) = some r := h
  clear h
  by_cases c3 : (l0_0.length : Int) = (l1_0.length : Int)
  · rw [if_pos c3] at H
    have c3b0 : ((l0_0.length : Int) == (l1_0.length : Int)) = true := beq_iff_eq.mpr c3
    have c3b1 : ((l0_0.length : Int) != (l1_0.length : Int)) = false := bne_eq_false_iff_eq.mpr c3
    have c3b2 : (l0_0.length == l1_0.length) = true := by first | simpa using c3 | (simp at c3 ⊢; omega)
    clear c3
    have H' := Aside0.mk H
    clear H
    go_enter Try.func29, Try.ntmps29
    go_wp2_with (first | ((with_reducible refine gate_dst (N := 2) rfl ?_); refine box_event ?hg (N := 2) ?hd (cs := #[.slice A0_0 l0_0.length c0_0]) (t := 42) ?hr ?_; (case hd => rfl); (case hg => rfl); (case hr => first | (go_simp; done) | (go_simp; rfl)); intro gb630 hg w4 hbox hb; have n0_ := Aside0.mk (below_step (by repeat (first | (with_reducible first | exact HB.out | apply below_alloc | apply pw_below_drewN | apply below_drew1) | exact HB.out)) hb); have n1_ := Aside0.mk (hbox); have n2_ := Aside0.mk ((by rw [hg]; exact (below_size (by repeat (first | (with_reducible first | exact HB.out | apply below_alloc | apply pw_below_drewN | apply below_drew1) | exact HB.out))) : w.heap.size ≤ gb630)); have n3_ := Aside0.mk ((by rw [hg]; exact (below_size (by repeat (first | (with_reducible first | exact HB.out | apply below_alloc | apply pw_below_drewN | apply below_drew1) | exact HB.out))) : w.heap.size ≤ gb630)); clear HB; have HB := n0_; have BK630 := n1_; have GW630 := n2_; have GE630 := n3_; clear n0_ n1_ n2_ n3_; clear hb hbox hg) | ((with_reducible refine gate_dst (N := 3) rfl ?_); refine box_event ?hg (N := 3) ?hd (cs := #[.slice A1_0 l1_0.length c1_0]) (t := 42) ?hr ?_; (case hd => rfl); (case hg => rfl); (case hr => first | (go_simp; done) | (go_simp; rfl)); intro gb631 hg w5 hbox hb; have n0_ := Aside0.mk (blk_below (g := gb630) (o := .cells #[.slice A0_0 l0_0.length c0_0] 42 (0, 0)) (by (with_reducible repeat (first | refine blk_drewN ?_ _ | refine blk_drew ?_ | refine blk_alloc ?_ _)); exact BK630.out) hb); have n1_ := Aside0.mk (below_step (by repeat (first | (with_reducible first | exact HB.out | apply below_alloc | apply pw_below_drewN | apply below_drew1 | refine below_set ?_ GE630.out) | exact HB.out)) hb); have n2_ := Aside0.mk (hbox); have n3_ := Aside0.mk ((by rw [hg]; exact (below_size (by repeat (first | (with_reducible first | exact HB.out | apply below_alloc | apply pw_below_drewN | apply below_drew1 | refine below_set ?_ GE630.out) | exact HB.out))) : w.heap.size ≤ gb631)); have n4_ := Aside0.mk ((by rw [hg]; exact (below_size (by repeat (first | (with_reducible first | exact HB.out | apply below_alloc | apply pw_below_drewN | apply below_drew1 | refine below_set ?_ GE630.out) | exact HB.out))) : w.heap.size ≤ gb631)); have n5_ := Aside0.mk ((by rw [hg]; exact Nat.ne_of_lt (blk_lt (g := gb630) (o := .cells #[.slice A0_0 l0_0.length c0_0] 42 (0, 0)) (by (with_reducible repeat (first | refine blk_drewN ?_ _ | refine blk_drew ?_ | refine blk_alloc ?_ _)); exact BK630.out)) : gb630 ≠ gb631)); have n6_ := Aside0.mk ((by rw [hg]; exact Nat.ne_of_gt (blk_lt (g := gb630) (o := .cells #[.slice A0_0 l0_0.length c0_0] 42 (0, 0)) (by (with_reducible repeat (first | refine blk_drewN ?_ _ | refine blk_drew ?_ | refine blk_alloc ?_ _)); exact BK630.out)) : gb631 ≠ gb630)); clear BK630; clear HB; have BK630 := n0_; have HB := n1_; have BK631 := n2_; have GW631 := n3_; have GE631 := n4_; have NB630_631 := n5_; have NB631_630 := n6_; clear n0_ n1_ n2_ n3_ n4_ n5_ n6_; clear hb hbox hg; have hnb6 := NB630_631.out; have hnc6 := NB631_630.out; have hcz7_0 : w5.cell? ⟨gb630, 0, none⟩ = some (.slice A0_0 l0_0.length c0_0) := (blk_cell BK630.out 0).trans rfl; have hfz7_0 := blk_frozen BK630.out 0; have hcz8_0 : w5.cell? ⟨gb631, 0, none⟩ = some (.slice A1_0 l1_0.length c1_0) := (blk_cell BK631.out 0).trans rfl; have hfz8_0 := blk_frozen BK631.out 0))
    repeat (go_quiet (first | ((with_reducible refine gate_dst (N := 2) rfl ?_); refine box_event ?hg (N := 2) ?hd (cs := #[.slice A0_0 l0_0.length c0_0]) (t := 42) ?hr ?_; (case hd => rfl); (case hg => rfl); (case hr => first | (go_simp; done) | (go_simp; rfl)); intro gb630 hg w4 hbox hb; have n0_ := Aside0.mk (below_step (by repeat (first | (with_reducible first | exact HB.out | apply below_alloc | apply pw_below_drewN | apply below_drew1) | exact HB.out)) hb); have n1_ := Aside0.mk (hbox); have n2_ := Aside0.mk ((by rw [hg]; exact (below_size (by repeat (first | (with_reducible first | exact HB.out | apply below_alloc | apply pw_below_drewN | apply below_drew1) | exact HB.out))) : w.heap.size ≤ gb630)); have n3_ := Aside0.mk ((by rw [hg]; exact (below_size (by repeat (first | (with_reducible first | exact HB.out | apply below_alloc | apply pw_below_drewN | apply below_drew1) | exact HB.out))) : w.heap.size ≤ gb630)); clear HB; have HB := n0_; have BK630 := n1_; have GW630 := n2_; have GE630 := n3_; clear n0_ n1_ n2_ n3_; clear hb hbox hg) | ((with_reducible refine gate_dst (N := 3) rfl ?_); refine box_event ?hg (N := 3) ?hd (cs := #[.slice A1_0 l1_0.length c1_0]) (t := 42) ?hr ?_; (case hd => rfl); (case hg => rfl); (case hr => first | (go_simp; done) | (go_simp; rfl)); intro gb631 hg w5 hbox hb; have n0_ := Aside0.mk (blk_below (g := gb630) (o := .cells #[.slice A0_0 l0_0.length c0_0] 42 (0, 0)) (by (with_reducible repeat (first | refine blk_drewN ?_ _ | refine blk_drew ?_ | refine blk_alloc ?_ _)); exact BK630.out) hb); have n1_ := Aside0.mk (below_step (by repeat (first | (with_reducible first | exact HB.out | apply below_alloc | apply pw_below_drewN | apply below_drew1 | refine below_set ?_ GE630.out) | exact HB.out)) hb); have n2_ := Aside0.mk (hbox); have n3_ := Aside0.mk ((by rw [hg]; exact (below_size (by repeat (first | (with_reducible first | exact HB.out | apply below_alloc | apply pw_below_drewN | apply below_drew1 | refine below_set ?_ GE630.out) | exact HB.out))) : w.heap.size ≤ gb631)); have n4_ := Aside0.mk ((by rw [hg]; exact (below_size (by repeat (first | (with_reducible first | exact HB.out | apply below_alloc | apply pw_below_drewN | apply below_drew1 | refine below_set ?_ GE630.out) | exact HB.out))) : w.heap.size ≤ gb631)); have n5_ := Aside0.mk ((by rw [hg]; exact Nat.ne_of_lt (blk_lt (g := gb630) (o := .cells #[.slice A0_0 l0_0.length c0_0] 42 (0, 0)) (by (with_reducible repeat (first | refine blk_drewN ?_ _ | refine blk_drew ?_ | refine blk_alloc ?_ _)); exact BK630.out)) : gb630 ≠ gb631)); have n6_ := Aside0.mk ((by rw [hg]; exact Nat.ne_of_gt (blk_lt (g := gb630) (o := .cells #[.slice A0_0 l0_0.length c0_0] 42 (0, 0)) (by (with_reducible repeat (first | refine blk_drewN ?_ _ | refine blk_drew ?_ | refine blk_alloc ?_ _)); exact BK630.out)) : gb631 ≠ gb630)); clear BK630; clear HB; have BK630 := n0_; have HB := n1_; have BK631 := n2_; have GW631 := n3_; have GE631 := n4_; have NB630_631 := n5_; have NB631_630 := n6_; clear n0_ n1_ n2_ n3_ n4_ n5_ n6_; clear hb hbox hg; have hnb6 := NB630_631.out; have hnc6 := NB631_630.out; have hcz7_0 : w5.cell? ⟨gb630, 0, none⟩ = some (.slice A0_0 l0_0.length c0_0) := (blk_cell BK630.out 0).trans rfl; have hfz7_0 := blk_frozen BK630.out 0; have hcz8_0 : w5.cell? ⟨gb631, 0, none⟩ = some (.slice A1_0 l1_0.length c1_0) := (blk_cell BK631.out 0).trans rfl; have hfz8_0 := blk_frozen BK631.out 0)); try go_wp2_with (first | ((with_reducible refine gate_dst (N := 2) rfl ?_); refine box_event ?hg (N := 2) ?hd (cs := #[.slice A0_0 l0_0.length c0_0]) (t := 42) ?hr ?_; (case hd => rfl); (case hg => rfl); (case hr => first | (go_simp; done) | (go_simp; rfl)); intro gb630 hg w4 hbox hb; have n0_ := Aside0.mk (below_step (by repeat (first | (with_reducible first | exact HB.out | apply below_alloc | apply pw_below_drewN | apply below_drew1) | exact HB.out)) hb); have n1_ := Aside0.mk (hbox); have n2_ := Aside0.mk ((by rw [hg]; exact (below_size (by repeat (first | (with_reducible first | exact HB.out | apply below_alloc | apply pw_below_drewN | apply below_drew1) | exact HB.out))) : w.heap.size ≤ gb630)); have n3_ := Aside0.mk ((by rw [hg]; exact (below_size (by repeat (first | (with_reducible first | exact HB.out | apply below_alloc | apply pw_below_drewN | apply below_drew1) | exact HB.out))) : w.heap.size ≤ gb630)); clear HB; have HB := n0_; have BK630 := n1_; have GW630 := n2_; have GE630 := n3_; clear n0_ n1_ n2_ n3_; clear hb hbox hg) | ((with_reducible refine gate_dst (N := 3) rfl ?_); refine box_event ?hg (N := 3) ?hd (cs := #[.slice A1_0 l1_0.length c1_0]) (t := 42) ?hr ?_; (case hd => rfl); (case hg => rfl); (case hr => first | (go_simp; done) | (go_simp; rfl)); intro gb631 hg w5 hbox hb; have n0_ := Aside0.mk (blk_below (g := gb630) (o := .cells #[.slice A0_0 l0_0.length c0_0] 42 (0, 0)) (by (with_reducible repeat (first | refine blk_drewN ?_ _ | refine blk_drew ?_ | refine blk_alloc ?_ _)); exact BK630.out) hb); have n1_ := Aside0.mk (below_step (by repeat (first | (with_reducible first | exact HB.out | apply below_alloc | apply pw_below_drewN | apply below_drew1 | refine below_set ?_ GE630.out) | exact HB.out)) hb); have n2_ := Aside0.mk (hbox); have n3_ := Aside0.mk ((by rw [hg]; exact (below_size (by repeat (first | (with_reducible first | exact HB.out | apply below_alloc | apply pw_below_drewN | apply below_drew1 | refine below_set ?_ GE630.out) | exact HB.out))) : w.heap.size ≤ gb631)); have n4_ := Aside0.mk ((by rw [hg]; exact (below_size (by repeat (first | (with_reducible first | exact HB.out | apply below_alloc | apply pw_below_drewN | apply below_drew1 | refine below_set ?_ GE630.out) | exact HB.out))) : w.heap.size ≤ gb631)); have n5_ := Aside0.mk ((by rw [hg]; exact Nat.ne_of_lt (blk_lt (g := gb630) (o := .cells #[.slice A0_0 l0_0.length c0_0] 42 (0, 0)) (by (with_reducible repeat (first | refine blk_drewN ?_ _ | refine blk_drew ?_ | refine blk_alloc ?_ _)); exact BK630.out)) : gb630 ≠ gb631)); have n6_ := Aside0.mk ((by rw [hg]; exact Nat.ne_of_gt (blk_lt (g := gb630) (o := .cells #[.slice A0_0 l0_0.length c0_0] 42 (0, 0)) (by (with_reducible repeat (first | refine blk_drewN ?_ _ | refine blk_drew ?_ | refine blk_alloc ?_ _)); exact BK630.out)) : gb631 ≠ gb630)); clear BK630; clear HB; have BK630 := n0_; have HB := n1_; have BK631 := n2_; have GW631 := n3_; have GE631 := n4_; have NB630_631 := n5_; have NB631_630 := n6_; clear n0_ n1_ n2_ n3_ n4_ n5_ n6_; clear hb hbox hg; have hnb6 := NB630_631.out; have hnc6 := NB631_630.out; have hcz7_0 : w5.cell? ⟨gb630, 0, none⟩ = some (.slice A0_0 l0_0.length c0_0) := (blk_cell BK630.out 0).trans rfl; have hfz7_0 := blk_frozen BK630.out 0; have hcz8_0 : w5.cell? ⟨gb631, 0, none⟩ = some (.slice A1_0 l1_0.length c1_0) := (blk_cell BK631.out 0).trans rfl; have hfz8_0 := blk_frozen BK631.out 0)))
    go_loopg [16] k (fun kq v16 w' => ∃ (x16_1 : Int), v16 = .int .i64 x16_1 ∧ Aside0 (soundserviceref09_Same.l0 kq (l0_0.length : Int) x16_1 l0_0 l1_0 = some r) ∧ Aside0 (kq ≤ k) ∧ Aside0 (w'.heap[gb630]? = some (.cells #[(.slice A0_0 l0_0.length c0_0)] 42 (0, 0))) ∧ Aside0 (w'.heap[gb631]? = some (.cells #[(.slice A1_0 l1_0.length c1_0)] 42 (0, 0))) ∧ Aside0 (Below w.heap.size w w'))
    case atStart => exact ⟨(0), (by first | rfl | (simp; done) | (simp [*]; done)), H', ⟨Nat.le_refl _⟩, ⟨by (with_reducible repeat (first | refine blk_drewN ?_ _ | refine blk_drew ?_ | refine blk_alloc ?_ _)); exact BK630.out⟩, ⟨by (with_reducible repeat (first | refine blk_drewN ?_ _ | refine blk_drew ?_ | refine blk_alloc ?_ _)); exact BK631.out⟩, ⟨by repeat (first | (with_reducible first | exact HB.out | apply below_alloc | apply pw_below_drewN | apply below_drew1 | refine below_set ?_ GE630.out | refine below_set ?_ GE631.out) | exact HB.out)⟩⟩
    case round =>
      clear H'
      try clear c1
      try clear c2
      try clear p2
      try clear c3
      try clear c3b0
      try clear c3b1
      try clear c3b2
      try clear c6
      try clear hcz7_0
      try clear hcz8_0
      try clear hfz7_0
      try clear hfz8_0
      obtain ⟨x16_1, rfl, HA, HK1, BK630, BK631, HB⟩ := hrel
      cases gk with
      | zero => exact absurd HA.out (by simp [soundserviceref09_Same.l0])
      | succ k1 =>
        have H := HA.out
        clear HA
        simp only [soundserviceref09_Same.l0] at H
        by_cases c9 : x16_1 < (l0_0.length : Int)
        · rw [if_pos c9] at H
          have c9b0 : decide (x16_1 < (l0_0.length : Int)) = true := decide_eq_true c9
          clear c9
          by_cases c10 : 0 ≤ x16_1
          · rw [if_pos c10] at H
            have c10b0 : decide (0 ≤ x16_1) = true := decide_eq_true c10
            clear c10
            by_cases c11 : x16_1 < (l0_0.length : Int)
            · rw [if_pos c11] at H
              have c11b0 : decide (x16_1 < (l0_0.length : Int)) = true := decide_eq_true c11
              clear c11
              by_cases c12 : x16_1 < (l1_0.length : Int)
              · rw [if_pos c12] at H
                have c12b0 : decide (x16_1 < (l1_0.length : Int)) = true := decide_eq_true c12
                clear c12
                by_cases c13 : (!(((rd_T56 l0_0 x16_1).f0) == ((rd_T56 l1_0 x16_1).f0)) || (!(((rd_T56 l0_0 x16_1).f1) == ((rd_T56 l1_0 x16_1).f1)))) = true
                · rw [if_pos c13] at H
                  have c13b0 : (!(((rd_T56 l0_0 x16_1).f0) == ((rd_T56 l1_0 x16_1).f0)) || (!(((rd_T56 l0_0 x16_1).f1) == ((rd_T56 l1_0 x16_1).f1)))) = true := c13
                  clear c13
                  obtain rfl := Option.some.inj H
                  have hnb14 := NB630_631.out
                  have hnc14 := NB631_630.out
                  have hcz15_0 : wr.cell? ⟨gb630, 0, none⟩ = some (.slice A0_0 l0_0.length c0_0) := (blk_cell BK630.out 0).trans rfl
                  have hfz15_0 := blk_frozen BK630.out 0
                  have p632 : 0 ≤ (x16_1 : Int) := of_decide_eq_true (by first | (with_reducible assumption) | assumption)
                  have q632 : x16_1 < (l0_0.length : Int) := of_decide_eq_true (by first | (with_reducible assumption) | assumption)
                  obtain ⟨ad632, e632, hx632_0, hx632_1⟩ := at_T56 HR0_0.out x16_1 p632 q632
                  cases e632
                  replace hx632_0 := (HB.out.cell (World.block_lt_of_cell? w _ hx632_0)).trans hx632_0
                  replace hx632_1 := (HB.out.cell (World.block_lt_of_cell? w _ hx632_1)).trans hx632_1
                  replace p632 := eq_true p632
                  replace q632 := eq_true q632
                  have hcz16_0 : wr.cell? ⟨gb631, 0, none⟩ = some (.slice A1_0 l1_0.length c1_0) := (blk_cell BK631.out 0).trans rfl
                  have hfz16_0 := blk_frozen BK631.out 0
                  have p633 : 0 ≤ (x16_1 : Int) := of_decide_eq_true (by first | (with_reducible assumption) | assumption)
                  have q633 : x16_1 < (l1_0.length : Int) := of_decide_eq_true (by first | (with_reducible assumption) | assumption)
                  obtain ⟨ad633, e633, hx633_0, hx633_1⟩ := at_T56 HR1_0.out x16_1 p633 q633
                  cases e633
                  replace hx633_0 := (HB.out.cell (World.block_lt_of_cell? w _ hx633_0)).trans hx633_0
                  replace hx633_1 := (HB.out.cell (World.block_lt_of_cell? w _ hx633_1)).trans hx633_1
                  replace p633 := eq_true p633
                  replace q633 := eq_true q633
                  go_wp2
                  repeat (go_quiet (fail); try go_wp2)
                  go_ret
                  exact ⟨by first | rfl | (simp [errW_none, errW_some] <;> rfl) | (simp [*, errW_none, errW_some] <;> rfl), by repeat (first | (with_reducible first | exact HB.out | apply below_alloc | apply pw_below_drewN | apply below_drew1 | refine below_set ?_ GE630.out | refine below_set ?_ GE631.out) | exact HB.out)⟩
                · rw [if_neg c13] at H
                  have c13b0 : (!(((rd_T56 l0_0 x16_1).f0) == ((rd_T56 l1_0 x16_1).f0)) || (!(((rd_T56 l0_0 x16_1).f1) == ((rd_T56 l1_0 x16_1).f1)))) = false := by simpa using c13
                  clear c13
                  have H' := Aside0.mk H
                  clear H
                  have hnb17 := NB630_631.out
                  have hnc17 := NB631_630.out
                  have hcz18_0 : wr.cell? ⟨gb630, 0, none⟩ = some (.slice A0_0 l0_0.length c0_0) := (blk_cell BK630.out 0).trans rfl
                  have hfz18_0 := blk_frozen BK630.out 0
                  have p632 : 0 ≤ (x16_1 : Int) := of_decide_eq_true (by first | (with_reducible assumption) | assumption)
                  have q632 : x16_1 < (l0_0.length : Int) := of_decide_eq_true (by first | (with_reducible assumption) | assumption)
                  obtain ⟨ad632, e632, hx632_0, hx632_1⟩ := at_T56 HR0_0.out x16_1 p632 q632
                  cases e632
                  replace hx632_0 := (HB.out.cell (World.block_lt_of_cell? w _ hx632_0)).trans hx632_0
                  replace hx632_1 := (HB.out.cell (World.block_lt_of_cell? w _ hx632_1)).trans hx632_1
                  replace p632 := eq_true p632
                  replace q632 := eq_true q632
                  have hcz19_0 : wr.cell? ⟨gb631, 0, none⟩ = some (.slice A1_0 l1_0.length c1_0) := (blk_cell BK631.out 0).trans rfl
                  have hfz19_0 := blk_frozen BK631.out 0
                  have p633 : 0 ≤ (x16_1 : Int) := of_decide_eq_true (by first | (with_reducible assumption) | assumption)
                  have q633 : x16_1 < (l1_0.length : Int) := of_decide_eq_true (by first | (with_reducible assumption) | assumption)
                  obtain ⟨ad633, e633, hx633_0, hx633_1⟩ := at_T56 HR1_0.out x16_1 p633 q633
                  cases e633
                  replace hx633_0 := (HB.out.cell (World.block_lt_of_cell? w _ hx633_0)).trans hx633_0
                  replace hx633_1 := (HB.out.cell (World.block_lt_of_cell? w _ hx633_1)).trans hx633_1
                  replace p633 := eq_true p633
                  replace q633 := eq_true q633
                  go_wp2
                  repeat (go_quiet (fail); try go_wp2)
                  go_roundg k1
                  case measure => have := HK1.out; omega
                  case rel => exact ⟨(wrap64 (x16_1 + 1)), (by first | rfl | (simp; done) | (simp [*]; done)), H', ⟨by have := HK1.out; omega⟩, ⟨by (with_reducible repeat (first | refine blk_drewN ?_ _ | refine blk_drew ?_ | refine blk_alloc ?_ _)); exact BK630.out⟩, ⟨by (with_reducible repeat (first | refine blk_drewN ?_ _ | refine blk_drew ?_ | refine blk_alloc ?_ _)); exact BK631.out⟩, ⟨by repeat (first | (with_reducible first | exact HB.out | apply below_alloc | apply pw_below_drewN | apply below_drew1 | refine below_set ?_ GE630.out | refine below_set ?_ GE631.out) | exact HB.out)⟩⟩
              · rw [if_neg c12] at H
                exact absurd H (by simp)
            · rw [if_neg c11] at H
              exact absurd H (by simp)
          · rw [if_neg c10] at H
            exact absurd H (by simp)
        · rw [if_neg c9] at H
          have c9b0 : decide (x16_1 < (l0_0.length : Int)) = false := decide_eq_false c9
          clear c9
          obtain rfl := Option.some.inj H
          go_wp2
          repeat (go_quiet (fail); try go_wp2)
          go_ret
          exact ⟨by first | rfl | (simp [errW_none, errW_some] <;> rfl) | (simp [*, errW_none, errW_some] <;> rfl), by repeat (first | (with_reducible first | exact HB.out | apply below_alloc | apply pw_below_drewN | apply below_drew1 | refine below_set ?_ GE630.out | refine below_set ?_ GE631.out) | exact HB.out)⟩
  · rw [if_neg c3] at H
    have c3b0 : ((l0_0.length : Int) == (l1_0.length : Int)) = false := beq_eq_false_iff_ne.mpr c3
    have c3b1 : ((l0_0.length : Int) != (l1_0.length : Int)) = true := bne_iff_ne.mpr c3
    have c3b2 : (l0_0.length == l1_0.length) = false := by first | simpa using c3 | (simp at c3 ⊢; omega)
    obtain rfl := Option.some.inj H
    go_enter Try.func29, Try.ntmps29
    go_wp2_with (first | ((with_reducible refine gate_dst (N := 2) rfl ?_); refine box_event ?hg (N := 2) ?hd (cs := #[.slice A0_0 l0_0.length c0_0]) (t := 42) ?hr ?_; (case hd => rfl); (case hg => rfl); (case hr => first | (go_simp; done) | (go_simp; rfl)); intro gb630 hg w20 hbox hb; have n0_ := Aside0.mk (below_step (by repeat (first | (with_reducible first | exact HB.out | apply below_alloc | apply pw_below_drewN | apply below_drew1) | exact HB.out)) hb); have n1_ := Aside0.mk (hbox); have n2_ := Aside0.mk ((by rw [hg]; exact (below_size (by repeat (first | (with_reducible first | exact HB.out | apply below_alloc | apply pw_below_drewN | apply below_drew1) | exact HB.out))) : w.heap.size ≤ gb630)); have n3_ := Aside0.mk ((by rw [hg]; exact (below_size (by repeat (first | (with_reducible first | exact HB.out | apply below_alloc | apply pw_below_drewN | apply below_drew1) | exact HB.out))) : w.heap.size ≤ gb630)); clear HB; have HB := n0_; have BK630 := n1_; have GW630 := n2_; have GE630 := n3_; clear n0_ n1_ n2_ n3_; clear hb hbox hg) | ((with_reducible refine gate_dst (N := 3) rfl ?_); refine box_event ?hg (N := 3) ?hd (cs := #[.slice A1_0 l1_0.length c1_0]) (t := 42) ?hr ?_; (case hd => rfl); (case hg => rfl); (case hr => first | (go_simp; done) | (go_simp; rfl)); intro gb631 hg w21 hbox hb; have n0_ := Aside0.mk (blk_below (g := gb630) (o := .cells #[.slice A0_0 l0_0.length c0_0] 42 (0, 0)) (by (with_reducible repeat (first | refine blk_drewN ?_ _ | refine blk_drew ?_ | refine blk_alloc ?_ _)); exact BK630.out) hb); have n1_ := Aside0.mk (below_step (by repeat (first | (with_reducible first | exact HB.out | apply below_alloc | apply pw_below_drewN | apply below_drew1 | refine below_set ?_ GE630.out) | exact HB.out)) hb); have n2_ := Aside0.mk (hbox); have n3_ := Aside0.mk ((by rw [hg]; exact (below_size (by repeat (first | (with_reducible first | exact HB.out | apply below_alloc | apply pw_below_drewN | apply below_drew1 | refine below_set ?_ GE630.out) | exact HB.out))) : w.heap.size ≤ gb631)); have n4_ := Aside0.mk ((by rw [hg]; exact (below_size (by repeat (first | (with_reducible first | exact HB.out | apply below_alloc | apply pw_below_drewN | apply below_drew1 | refine below_set ?_ GE630.out) | exact HB.out))) : w.heap.size ≤ gb631)); have n5_ := Aside0.mk ((by rw [hg]; exact Nat.ne_of_lt (blk_lt (g := gb630) (o := .cells #[.slice A0_0 l0_0.length c0_0] 42 (0, 0)) (by (with_reducible repeat (first | refine blk_drewN ?_ _ | refine blk_drew ?_ | refine blk_alloc ?_ _)); exact BK630.out)) : gb630 ≠ gb631)); have n6_ := Aside0.mk ((by rw [hg]; exact Nat.ne_of_gt (blk_lt (g := gb630) (o := .cells #[.slice A0_0 l0_0.length c0_0] 42 (0, 0)) (by (with_reducible repeat (first | refine blk_drewN ?_ _ | refine blk_drew ?_ | refine blk_alloc ?_ _)); exact BK630.out)) : gb631 ≠ gb630)); clear BK630; clear HB; have BK630 := n0_; have HB := n1_; have BK631 := n2_; have GW631 := n3_; have GE631 := n4_; have NB630_631 := n5_; have NB631_630 := n6_; clear n0_ n1_ n2_ n3_ n4_ n5_ n6_; clear hb hbox hg; have hnb22 := NB630_631.out; have hnc22 := NB631_630.out; have hcz23_0 : w21.cell? ⟨gb630, 0, none⟩ = some (.slice A0_0 l0_0.length c0_0) := (blk_cell BK630.out 0).trans rfl; have hfz23_0 := blk_frozen BK630.out 0; have hcz24_0 : w21.cell? ⟨gb631, 0, none⟩ = some (.slice A1_0 l1_0.length c1_0) := (blk_cell BK631.out 0).trans rfl; have hfz24_0 := blk_frozen BK631.out 0))
    repeat (go_quiet (first | ((with_reducible refine gate_dst (N := 2) rfl ?_); refine box_event ?hg (N := 2) ?hd (cs := #[.slice A0_0 l0_0.length c0_0]) (t := 42) ?hr ?_; (case hd => rfl); (case hg => rfl); (case hr => first | (go_simp; done) | (go_simp; rfl)); intro gb630 hg w20 hbox hb; have n0_ := Aside0.mk (below_step (by repeat (first | (with_reducible first | exact HB.out | apply below_alloc | apply pw_below_drewN | apply below_drew1) | exact HB.out)) hb); have n1_ := Aside0.mk (hbox); have n2_ := Aside0.mk ((by rw [hg]; exact (below_size (by repeat (first | (with_reducible first | exact HB.out | apply below_alloc | apply pw_below_drewN | apply below_drew1) | exact HB.out))) : w.heap.size ≤ gb630)); have n3_ := Aside0.mk ((by rw [hg]; exact (below_size (by repeat (first | (with_reducible first | exact HB.out | apply below_alloc | apply pw_below_drewN | apply below_drew1) | exact HB.out))) : w.heap.size ≤ gb630)); clear HB; have HB := n0_; have BK630 := n1_; have GW630 := n2_; have GE630 := n3_; clear n0_ n1_ n2_ n3_; clear hb hbox hg) | ((with_reducible refine gate_dst (N := 3) rfl ?_); refine box_event ?hg (N := 3) ?hd (cs := #[.slice A1_0 l1_0.length c1_0]) (t := 42) ?hr ?_; (case hd => rfl); (case hg => rfl); (case hr => first | (go_simp; done) | (go_simp; rfl)); intro gb631 hg w21 hbox hb; have n0_ := Aside0.mk (blk_below (g := gb630) (o := .cells #[.slice A0_0 l0_0.length c0_0] 42 (0, 0)) (by (with_reducible repeat (first | refine blk_drewN ?_ _ | refine blk_drew ?_ | refine blk_alloc ?_ _)); exact BK630.out) hb); have n1_ := Aside0.mk (below_step (by repeat (first | (with_reducible first | exact HB.out | apply below_alloc | apply pw_below_drewN | apply below_drew1 | refine below_set ?_ GE630.out) | exact HB.out)) hb); have n2_ := Aside0.mk (hbox); have n3_ := Aside0.mk ((by rw [hg]; exact (below_size (by repeat (first | (with_reducible first | exact HB.out | apply below_alloc | apply pw_below_drewN | apply below_drew1 | refine below_set ?_ GE630.out) | exact HB.out))) : w.heap.size ≤ gb631)); have n4_ := Aside0.mk ((by rw [hg]; exact (below_size (by repeat (first | (with_reducible first | exact HB.out | apply below_alloc | apply pw_below_drewN | apply below_drew1 | refine below_set ?_ GE630.out) | exact HB.out))) : w.heap.size ≤ gb631)); have n5_ := Aside0.mk ((by rw [hg]; exact Nat.ne_of_lt (blk_lt (g := gb630) (o := .cells #[.slice A0_0 l0_0.length c0_0] 42 (0, 0)) (by (with_reducible repeat (first | refine blk_drewN ?_ _ | refine blk_drew ?_ | refine blk_alloc ?_ _)); exact BK630.out)) : gb630 ≠ gb631)); have n6_ := Aside0.mk ((by rw [hg]; exact Nat.ne_of_gt (blk_lt (g := gb630) (o := .cells #[.slice A0_0 l0_0.length c0_0] 42 (0, 0)) (by (with_reducible repeat (first | refine blk_drewN ?_ _ | refine blk_drew ?_ | refine blk_alloc ?_ _)); exact BK630.out)) : gb631 ≠ gb630)); clear BK630; clear HB; have BK630 := n0_; have HB := n1_; have BK631 := n2_; have GW631 := n3_; have GE631 := n4_; have NB630_631 := n5_; have NB631_630 := n6_; clear n0_ n1_ n2_ n3_ n4_ n5_ n6_; clear hb hbox hg; have hnb22 := NB630_631.out; have hnc22 := NB631_630.out; have hcz23_0 : w21.cell? ⟨gb630, 0, none⟩ = some (.slice A0_0 l0_0.length c0_0) := (blk_cell BK630.out 0).trans rfl; have hfz23_0 := blk_frozen BK630.out 0; have hcz24_0 : w21.cell? ⟨gb631, 0, none⟩ = some (.slice A1_0 l1_0.length c1_0) := (blk_cell BK631.out 0).trans rfl; have hfz24_0 := blk_frozen BK631.out 0)); try go_wp2_with (first | ((with_reducible refine gate_dst (N := 2) rfl ?_); refine box_event ?hg (N := 2) ?hd (cs := #[.slice A0_0 l0_0.length c0_0]) (t := 42) ?hr ?_; (case hd => rfl); (case hg => rfl); (case hr => first | (go_simp; done) | (go_simp; rfl)); intro gb630 hg w20 hbox hb; have n0_ := Aside0.mk (below_step (by repeat (first | (with_reducible first | exact HB.out | apply below_alloc | apply pw_below_drewN | apply below_drew1) | exact HB.out)) hb); have n1_ := Aside0.mk (hbox); have n2_ := Aside0.mk ((by rw [hg]; exact (below_size (by repeat (first | (with_reducible first | exact HB.out | apply below_alloc | apply pw_below_drewN | apply below_drew1) | exact HB.out))) : w.heap.size ≤ gb630)); have n3_ := Aside0.mk ((by rw [hg]; exact (below_size (by repeat (first | (with_reducible first | exact HB.out | apply below_alloc | apply pw_below_drewN | apply below_drew1) | exact HB.out))) : w.heap.size ≤ gb630)); clear HB; have HB := n0_; have BK630 := n1_; have GW630 := n2_; have GE630 := n3_; clear n0_ n1_ n2_ n3_; clear hb hbox hg) | ((with_reducible refine gate_dst (N := 3) rfl ?_); refine box_event ?hg (N := 3) ?hd (cs := #[.slice A1_0 l1_0.length c1_0]) (t := 42) ?hr ?_; (case hd => rfl); (case hg => rfl); (case hr => first | (go_simp; done) | (go_simp; rfl)); intro gb631 hg w21 hbox hb; have n0_ := Aside0.mk (blk_below (g := gb630) (o := .cells #[.slice A0_0 l0_0.length c0_0] 42 (0, 0)) (by (with_reducible repeat (first | refine blk_drewN ?_ _ | refine blk_drew ?_ | refine blk_alloc ?_ _)); exact BK630.out) hb); have n1_ := Aside0.mk (below_step (by repeat (first | (with_reducible first | exact HB.out | apply below_alloc | apply pw_below_drewN | apply below_drew1 | refine below_set ?_ GE630.out) | exact HB.out)) hb); have n2_ := Aside0.mk (hbox); have n3_ := Aside0.mk ((by rw [hg]; exact (below_size (by repeat (first | (with_reducible first | exact HB.out | apply below_alloc | apply pw_below_drewN | apply below_drew1 | refine below_set ?_ GE630.out) | exact HB.out))) : w.heap.size ≤ gb631)); have n4_ := Aside0.mk ((by rw [hg]; exact (below_size (by repeat (first | (with_reducible first | exact HB.out | apply below_alloc | apply pw_below_drewN | apply below_drew1 | refine below_set ?_ GE630.out) | exact HB.out))) : w.heap.size ≤ gb631)); have n5_ := Aside0.mk ((by rw [hg]; exact Nat.ne_of_lt (blk_lt (g := gb630) (o := .cells #[.slice A0_0 l0_0.length c0_0] 42 (0, 0)) (by (with_reducible repeat (first | refine blk_drewN ?_ _ | refine blk_drew ?_ | refine blk_alloc ?_ _)); exact BK630.out)) : gb630 ≠ gb631)); have n6_ := Aside0.mk ((by rw [hg]; exact Nat.ne_of_gt (blk_lt (g := gb630) (o := .cells #[.slice A0_0 l0_0.length c0_0] 42 (0, 0)) (by (with_reducible repeat (first | refine blk_drewN ?_ _ | refine blk_drew ?_ | refine blk_alloc ?_ _)); exact BK630.out)) : gb631 ≠ gb630)); clear BK630; clear HB; have BK630 := n0_; have HB := n1_; have BK631 := n2_; have GW631 := n3_; have GE631 := n4_; have NB630_631 := n5_; have NB631_630 := n6_; clear n0_ n1_ n2_ n3_ n4_ n5_ n6_; clear hb hbox hg; have hnb22 := NB630_631.out; have hnc22 := NB631_630.out; have hcz23_0 : w21.cell? ⟨gb630, 0, none⟩ = some (.slice A0_0 l0_0.length c0_0) := (blk_cell BK630.out 0).trans rfl; have hfz23_0 := blk_frozen BK630.out 0; have hcz24_0 : w21.cell? ⟨gb631, 0, none⟩ = some (.slice A1_0 l1_0.length c1_0) := (blk_cell BK631.out 0).trans rfl; have hfz24_0 := blk_frozen BK631.out 0)))
    go_ret
    exact ⟨by first | rfl | (simp [errW_none, errW_some] <;> rfl) | (simp [*, errW_none, errW_some] <;> rfl), by repeat (first | (with_reducible first | exact HB.out | apply below_alloc | apply pw_below_drewN | apply below_drew1 | refine below_set ?_ GE630.out | refine below_set ?_ GE631.out) | exact HB.out)⟩
end Go.Proofs.Ytbahibaohehojaa.Q
-- YtbahibaohehojaaQf31
namespace Go.Proofs.Ytbahibaohehojaa.Q
open Go.RowKit Go.Proofs.YtbahibaohehojaaW.PrintWords Go.Proofs.YtbahibaohehojaaW.PrintLast Go.Proofs.YtbahibaohehojaaW.PrintMore
attribute [local go_sem] max2_int min2_int max_two min_two max_three min_three max_four min_four
set_option linter.unusedVariables false
set_option linter.unusedSimpArgs false
def soundserviceref09_Valid.l0 : Nat → List (S56) → Int → Int → List (S56) → Option (Bool)
  | 0, _, _, _, _ => none
  | k + 1, x6, x7, x8, x339000 => if x8 < x7 then (if 0 ≤ x8 then (if x8 < (x6.length : Int) then (if ((rd_T56 x6 x8).f0) < 0 then (some false) else (if ((rd_T56 x6 x8).f1) < ((rd_T56 x6 x8).f0) then (some false) else (if ((rd_T56 x6 x8).f1) > 2147483647 then (some false) else (if x8 > 0 then (if 0 ≤ (wrap64 (x8 - 1)) then (if (wrap64 (x8 - 1)) < (x339000.length : Int) then (if (wrap64 (((rd_T56 x6 x8).f0) - 1)) ≤ ((rd_T56 x339000 (wrap64 (x8 - 1))).f1) then (some false) else (soundserviceref09_Valid.l0 k x6 x7 (wrap64 (x8 + 1)) x339000)) else (none)) else (none)) else (soundserviceref09_Valid.l0 k x6 x7 (wrap64 (x8 + 1)) x339000))))) else (none)) else (none)) else (some (decide ((x339000.length : Int) ≤ 64)))
def soundserviceref09_Valid.f (k : Nat) (l0_0 : List (S56)) : Option (Bool) := soundserviceref09_Valid.l0 k l0_0 (l0_0.length : Int) 0 l0_0
set_option maxHeartbeats 8000000 in
set_option maxRecDepth 100000 in
theorem soundserviceref09_Valid.calls (k : Nat) (A0_0 : Option Addr) (c0_0 : Nat) (l0_0 : List (S56)) (r : Bool) (w : World) (hr0_0 : Kd.C k56 w A0_0 l0_0.length l0_0) (hc0_0 : l0_0.length ≤ c0_0) (h : soundserviceref09_Valid.f k l0_0 = some r) :
    Calls Try.prog 31 #[.agg #[.slice A0_0 l0_0.length c0_0]] w fun e w' => e = .returned (.bool r) ∧ Below w.heap.size w w' := by
  have hu42 := Try.underlying42
  have hu56 := Try.underlying56
  have HR0_0 := Aside0.mk hr0_0
  have HC0_0 := Aside0.mk hc0_0
  clear hr0_0 hc0_0
  have HB := Aside0.mk (Below.refl w.heap.size w)
  have H : (soundserviceref09_Valid.l0 k l0_0 (l0_0.length : Int) 0 l0_0) = some r := h
  clear h
  have H' := Aside0.mk H
  clear H
  go_enter Try.func31, Try.ntmps31
  go_wp2_with (first | ((with_reducible refine gate_dst (N := 1) rfl ?_); refine box_event ?hg (N := 1) ?hd (cs := #[.slice A0_0 l0_0.length c0_0]) (t := 42) ?hr ?_; (case hd => rfl); (case hg => rfl); (case hr => first | (go_simp; done) | (go_simp; rfl)); intro gb338 hg w2 hbox hb; have n0_ := Aside0.mk (below_step (by repeat (first | (with_reducible first | exact HB.out | apply below_alloc | apply pw_below_drewN | apply below_drew1) | exact HB.out)) hb); have n1_ := Aside0.mk (hbox); have n2_ := Aside0.mk ((by rw [hg]; exact (below_size (by repeat (first | (with_reducible first | exact HB.out | apply below_alloc | apply pw_below_drewN | apply below_drew1) | exact HB.out))) : w.heap.size ≤ gb338)); have n3_ := Aside0.mk ((by rw [hg]; exact (below_size (by repeat (first | (with_reducible first | exact HB.out | apply below_alloc | apply pw_below_drewN | apply below_drew1) | exact HB.out))) : w.heap.size ≤ gb338)); clear HB; have HB := n0_; have BK338 := n1_; have GW338 := n2_; have GE338 := n3_; clear n0_ n1_ n2_ n3_; clear hb hbox hg; have hcz3_0 : w2.cell? ⟨gb338, 0, none⟩ = some (.slice A0_0 l0_0.length c0_0) := (blk_cell BK338.out 0).trans rfl; have hfz3_0 := blk_frozen BK338.out 0))
  repeat (go_quiet (first | ((with_reducible refine gate_dst (N := 1) rfl ?_); refine box_event ?hg (N := 1) ?hd (cs := #[.slice A0_0 l0_0.length c0_0]) (t := 42) ?hr ?_; (case hd => rfl); (case hg => rfl); (case hr => first | (go_simp; done) | (go_simp; rfl)); intro gb338 hg w2 hbox hb; have n0_ := Aside0.mk (below_step (by repeat (first | (with_reducible first | exact HB.out | apply below_alloc | apply pw_below_drewN | apply below_drew1) | exact HB.out)) hb); have n1_ := Aside0.mk (hbox); have n2_ := Aside0.mk ((by rw [hg]; exact (below_size (by repeat (first | (with_reducible first | exact HB.out | apply below_alloc | apply pw_below_drewN | apply below_drew1) | exact HB.out))) : w.heap.size ≤ gb338)); have n3_ := Aside0.mk ((by rw [hg]; exact (below_size (by repeat (first | (with_reducible first | exact HB.out | apply below_alloc | apply pw_below_drewN | apply below_drew1) | exact HB.out))) : w.heap.size ≤ gb338)); clear HB; have HB := n0_; have BK338 := n1_; have GW338 := n2_; have GE338 := n3_; clear n0_ n1_ n2_ n3_; clear hb hbox hg; have hcz3_0 : w2.cell? ⟨gb338, 0, none⟩ = some (.slice A0_0 l0_0.length c0_0) := (blk_cell BK338.out 0).trans rfl; have hfz3_0 := blk_frozen BK338.out 0)); try go_wp2_with (first | ((with_reducible refine gate_dst (N := 1) rfl ?_); refine box_event ?hg (N := 1) ?hd (cs := #[.slice A0_0 l0_0.length c0_0]) (t := 42) ?hr ?_; (case hd => rfl); (case hg => rfl); (case hr => first | (go_simp; done) | (go_simp; rfl)); intro gb338 hg w2 hbox hb; have n0_ := Aside0.mk (below_step (by repeat (first | (with_reducible first | exact HB.out | apply below_alloc | apply pw_below_drewN | apply below_drew1) | exact HB.out)) hb); have n1_ := Aside0.mk (hbox); have n2_ := Aside0.mk ((by rw [hg]; exact (below_size (by repeat (first | (with_reducible first | exact HB.out | apply below_alloc | apply pw_below_drewN | apply below_drew1) | exact HB.out))) : w.heap.size ≤ gb338)); have n3_ := Aside0.mk ((by rw [hg]; exact (below_size (by repeat (first | (with_reducible first | exact HB.out | apply below_alloc | apply pw_below_drewN | apply below_drew1) | exact HB.out))) : w.heap.size ≤ gb338)); clear HB; have HB := n0_; have BK338 := n1_; have GW338 := n2_; have GE338 := n3_; clear n0_ n1_ n2_ n3_; clear hb hbox hg; have hcz3_0 : w2.cell? ⟨gb338, 0, none⟩ = some (.slice A0_0 l0_0.length c0_0) := (blk_cell BK338.out 0).trans rfl; have hfz3_0 := blk_frozen BK338.out 0)))
  go_loopg [8] k (fun kq v8 w' => ∃ (x8_1 : Int), v8 = .int .i64 x8_1 ∧ Aside0 (soundserviceref09_Valid.l0 kq l0_0 (l0_0.length : Int) x8_1 l0_0 = some r) ∧ Aside0 (kq ≤ k) ∧ Aside0 (w'.heap[gb338]? = some (.cells #[(.slice A0_0 l0_0.length c0_0)] 42 (0, 0))) ∧ Aside0 (Below w.heap.size w w'))
  case atStart => exact ⟨(0), (by first | rfl | (simp; done) | (simp [*]; done)), H', ⟨Nat.le_refl _⟩, ⟨by (with_reducible repeat (first | refine blk_drewN ?_ _ | refine blk_drew ?_ | refine blk_alloc ?_ _)); exact BK338.out⟩, ⟨by repeat (first | (with_reducible first | exact HB.out | apply below_alloc | apply pw_below_drewN | apply below_drew1 | refine below_set ?_ GE338.out) | exact HB.out)⟩⟩
  case round =>
    clear H'
    try clear p2
    try clear c3
    try clear hcz3_0
    try clear hfz3_0
    obtain ⟨x8_1, rfl, HA, HK1, BK338, HB⟩ := hrel
    cases gk with
    | zero => exact absurd HA.out (by simp [soundserviceref09_Valid.l0])
    | succ k1 =>
      have H := HA.out
      clear HA
      simp only [soundserviceref09_Valid.l0] at H
      by_cases c4 : x8_1 < (l0_0.length : Int)
      · rw [if_pos c4] at H
        have c4b0 : decide (x8_1 < (l0_0.length : Int)) = true := decide_eq_true c4
        clear c4
        by_cases c5 : 0 ≤ x8_1
        · rw [if_pos c5] at H
          have c5b0 : decide (0 ≤ x8_1) = true := decide_eq_true c5
          clear c5
          by_cases c6 : x8_1 < (l0_0.length : Int)
          · rw [if_pos c6] at H
            have c6b0 : decide (x8_1 < (l0_0.length : Int)) = true := decide_eq_true c6
            clear c6
            by_cases c7 : ((rd_T56 l0_0 x8_1).f0) < 0
            · rw [if_pos c7] at H
              have c7b0 : decide (((rd_T56 l0_0 x8_1).f0) < 0) = true := decide_eq_true c7
              clear c7
              obtain rfl := Option.some.inj H
              have p339 : 0 ≤ (x8_1 : Int) := of_decide_eq_true (by first | (with_reducible assumption) | assumption)
              have q339 : x8_1 < (l0_0.length : Int) := of_decide_eq_true (by first | (with_reducible assumption) | assumption)
              obtain ⟨ad339, e339, hx339_0, hx339_1⟩ := at_T56 HR0_0.out x8_1 p339 q339
              cases e339
              replace hx339_0 := (HB.out.cell (World.block_lt_of_cell? w _ hx339_0)).trans hx339_0
              replace hx339_1 := (HB.out.cell (World.block_lt_of_cell? w _ hx339_1)).trans hx339_1
              replace p339 := eq_true p339
              replace q339 := eq_true q339
              go_wp2_with (first | ((with_reducible refine gate_dst (N := 4) rfl ?_); refine box_event ?hg (N := 4) ?hd (cs := #[.int .i64 0, .int .i64 0]) (t := 56) ?hr ?_; (case hd => rfl); (case hg => rfl); (case hr => first | (go_simp; done) | (go_simp; rfl)); intro gb340 hg w8 hbox hb; have n0_ := Aside0.mk (blk_below (g := gb338) (o := .cells #[.slice (some ad339) l0_0.length c0_0] 42 (0, 0)) (by (with_reducible repeat (first | refine blk_drewN ?_ _ | refine blk_drew ?_ | refine blk_alloc ?_ _)); exact BK338.out) hb); have n1_ := Aside0.mk (below_step (by repeat (first | (with_reducible first | exact HB.out | apply below_alloc | apply pw_below_drewN | apply below_drew1 | refine below_set ?_ GE338.out) | exact HB.out)) hb); have n2_ := Aside0.mk (hbox); have n3_ := Aside0.mk ((by rw [hg]; exact (below_size (by repeat (first | (with_reducible first | exact HB.out | apply below_alloc | apply pw_below_drewN | apply below_drew1 | refine below_set ?_ GE338.out) | exact HB.out))) : w.heap.size ≤ gb340)); have n4_ := Aside0.mk ((by rw [hg]; exact (below_size (by repeat (first | (with_reducible first | exact HB.out | apply below_alloc | apply pw_below_drewN | apply below_drew1 | refine below_set ?_ GE338.out) | exact HB.out))) : w.heap.size ≤ gb340)); have n5_ := Aside0.mk ((by rw [hg]; exact Nat.ne_of_lt (blk_lt (g := gb338) (o := .cells #[.slice (some ad339) l0_0.length c0_0] 42 (0, 0)) (by (with_reducible repeat (first | refine blk_drewN ?_ _ | refine blk_drew ?_ | refine blk_alloc ?_ _)); exact BK338.out)) : gb338 ≠ gb340)); have n6_ := Aside0.mk ((by rw [hg]; exact Nat.ne_of_gt (blk_lt (g := gb338) (o := .cells #[.slice (some ad339) l0_0.length c0_0] 42 (0, 0)) (by (with_reducible repeat (first | refine blk_drewN ?_ _ | refine blk_drew ?_ | refine blk_alloc ?_ _)); exact BK338.out)) : gb340 ≠ gb338)); clear BK338; clear HB; have BK338 := n0_; have HB := n1_; have BK340 := n2_; have GW340 := n3_; have GE340 := n4_; have NB338_340 := n5_; have NB340_338 := n6_; clear n0_ n1_ n2_ n3_ n4_ n5_ n6_; clear hb hbox hg; have hnb9 := NB340_338.out; have hnc9 := NB338_340.out; have hcz10_0 : w8.cell? ⟨gb340, 0, none⟩ = some (.int .i64 0) := (blk_cell BK340.out 0).trans rfl; have hcz10_1 : w8.cell? ⟨gb340, 1, none⟩ = some (.int .i64 0) := (blk_cell BK340.out 1).trans rfl; have hfz10_0 := blk_frozen BK340.out 0; have hfz10_1 := blk_frozen BK340.out 1))
              repeat (go_quiet (first | ((with_reducible refine gate_dst (N := 4) rfl ?_); refine box_event ?hg (N := 4) ?hd (cs := #[.int .i64 0, .int .i64 0]) (t := 56) ?hr ?_; (case hd => rfl); (case hg => rfl); (case hr => first | (go_simp; done) | (go_simp; rfl)); intro gb340 hg w8 hbox hb; have n0_ := Aside0.mk (blk_below (g := gb338) (o := .cells #[.slice (some ad339) l0_0.length c0_0] 42 (0, 0)) (by (with_reducible repeat (first | refine blk_drewN ?_ _ | refine blk_drew ?_ | refine blk_alloc ?_ _)); exact BK338.out) hb); have n1_ := Aside0.mk (below_step (by repeat (first | (with_reducible first | exact HB.out | apply below_alloc | apply pw_below_drewN | apply below_drew1 | refine below_set ?_ GE338.out) | exact HB.out)) hb); have n2_ := Aside0.mk (hbox); have n3_ := Aside0.mk ((by rw [hg]; exact (below_size (by repeat (first | (with_reducible first | exact HB.out | apply below_alloc | apply pw_below_drewN | apply below_drew1 | refine below_set ?_ GE338.out) | exact HB.out))) : w.heap.size ≤ gb340)); have n4_ := Aside0.mk ((by rw [hg]; exact (below_size (by repeat (first | (with_reducible first | exact HB.out | apply below_alloc | apply pw_below_drewN | apply below_drew1 | refine below_set ?_ GE338.out) | exact HB.out))) : w.heap.size ≤ gb340)); have n5_ := Aside0.mk ((by rw [hg]; exact Nat.ne_of_lt (blk_lt (g := gb338) (o := .cells #[.slice (some ad339) l0_0.length c0_0] 42 (0, 0)) (by (with_reducible repeat (first | refine blk_drewN ?_ _ | refine blk_drew ?_ | refine blk_alloc ?_ _)); exact BK338.out)) : gb338 ≠ gb340)); have n6_ := Aside0.mk ((by rw [hg]; exact Nat.ne_of_gt (blk_lt (g := gb338) (o := .cells #[.slice (some ad339) l0_0.length c0_0] 42 (0, 0)) (by (with_reducible repeat (first | refine blk_drewN ?_ _ | refine blk_drew ?_ | refine blk_alloc ?_ _)); exact BK338.out)) : gb340 ≠ gb338)); clear BK338; clear HB; have BK338 := n0_; have HB := n1_; have BK340 := n2_; have GW340 := n3_; have GE340 := n4_; have NB338_340 := n5_; have NB340_338 := n6_; clear n0_ n1_ n2_ n3_ n4_ n5_ n6_; clear hb hbox hg; have hnb9 := NB340_338.out; have hnc9 := NB338_340.out; have hcz10_0 : w8.cell? ⟨gb340, 0, none⟩ = some (.int .i64 0) := (blk_cell BK340.out 0).trans rfl; have hcz10_1 : w8.cell? ⟨gb340, 1, none⟩ = some (.int .i64 0) := (blk_cell BK340.out 1).trans rfl; have hfz10_0 := blk_frozen BK340.out 0; have hfz10_1 := blk_frozen BK340.out 1)); try go_wp2_with (first | ((with_reducible refine gate_dst (N := 4) rfl ?_); refine box_event ?hg (N := 4) ?hd (cs := #[.int .i64 0, .int .i64 0]) (t := 56) ?hr ?_; (case hd => rfl); (case hg => rfl); (case hr => first | (go_simp; done) | (go_simp; rfl)); intro gb340 hg w8 hbox hb; have n0_ := Aside0.mk (blk_below (g := gb338) (o := .cells #[.slice (some ad339) l0_0.length c0_0] 42 (0, 0)) (by (with_reducible repeat (first | refine blk_drewN ?_ _ | refine blk_drew ?_ | refine blk_alloc ?_ _)); exact BK338.out) hb); have n1_ := Aside0.mk (below_step (by repeat (first | (with_reducible first | exact HB.out | apply below_alloc | apply pw_below_drewN | apply below_drew1 | refine below_set ?_ GE338.out) | exact HB.out)) hb); have n2_ := Aside0.mk (hbox); have n3_ := Aside0.mk ((by rw [hg]; exact (below_size (by repeat (first | (with_reducible first | exact HB.out | apply below_alloc | apply pw_below_drewN | apply below_drew1 | refine below_set ?_ GE338.out) | exact HB.out))) : w.heap.size ≤ gb340)); have n4_ := Aside0.mk ((by rw [hg]; exact (below_size (by repeat (first | (with_reducible first | exact HB.out | apply below_alloc | apply pw_below_drewN | apply below_drew1 | refine below_set ?_ GE338.out) | exact HB.out))) : w.heap.size ≤ gb340)); have n5_ := Aside0.mk ((by rw [hg]; exact Nat.ne_of_lt (blk_lt (g := gb338) (o := .cells #[.slice (some ad339) l0_0.length c0_0] 42 (0, 0)) (by (with_reducible repeat (first | refine blk_drewN ?_ _ | refine blk_drew ?_ | refine blk_alloc ?_ _)); exact BK338.out)) : gb338 ≠ gb340)); have n6_ := Aside0.mk ((by rw [hg]; exact Nat.ne_of_gt (blk_lt (g := gb338) (o := .cells #[.slice (some ad339) l0_0.length c0_0] 42 (0, 0)) (by (with_reducible repeat (first | refine blk_drewN ?_ _ | refine blk_drew ?_ | refine blk_alloc ?_ _)); exact BK338.out)) : gb340 ≠ gb338)); clear BK338; clear HB; have BK338 := n0_; have HB := n1_; have BK340 := n2_; have GW340 := n3_; have GE340 := n4_; have NB338_340 := n5_; have NB340_338 := n6_; clear n0_ n1_ n2_ n3_ n4_ n5_ n6_; clear hb hbox hg; have hnb9 := NB340_338.out; have hnc9 := NB338_340.out; have hcz10_0 : w8.cell? ⟨gb340, 0, none⟩ = some (.int .i64 0) := (blk_cell BK340.out 0).trans rfl; have hcz10_1 : w8.cell? ⟨gb340, 1, none⟩ = some (.int .i64 0) := (blk_cell BK340.out 1).trans rfl; have hfz10_0 := blk_frozen BK340.out 0; have hfz10_1 := blk_frozen BK340.out 1)))
              go_ret
              exact ⟨by first | rfl | (simp [errW_none, errW_some] <;> rfl) | (simp [*, errW_none, errW_some] <;> rfl), by repeat (first | (with_reducible first | exact HB.out | apply below_alloc | apply pw_below_drewN | apply below_drew1 | refine below_set ?_ GE338.out | refine below_set ?_ GE340.out) | exact HB.out)⟩
            · rw [if_neg c7] at H
              have c7b0 : decide (((rd_T56 l0_0 x8_1).f0) < 0) = false := decide_eq_false c7
              clear c7
              by_cases c11 : ((rd_T56 l0_0 x8_1).f1) < ((rd_T56 l0_0 x8_1).f0)
              · rw [if_pos c11] at H
                have c11b0 : decide (((rd_T56 l0_0 x8_1).f1) < ((rd_T56 l0_0 x8_1).f0)) = true := decide_eq_true c11
                clear c11
                obtain rfl := Option.some.inj H
                have p339 : 0 ≤ (x8_1 : Int) := of_decide_eq_true (by first | (with_reducible assumption) | assumption)
                have q339 : x8_1 < (l0_0.length : Int) := of_decide_eq_true (by first | (with_reducible assumption) | assumption)
                obtain ⟨ad339, e339, hx339_0, hx339_1⟩ := at_T56 HR0_0.out x8_1 p339 q339
                cases e339
                replace hx339_0 := (HB.out.cell (World.block_lt_of_cell? w _ hx339_0)).trans hx339_0
                replace hx339_1 := (HB.out.cell (World.block_lt_of_cell? w _ hx339_1)).trans hx339_1
                replace p339 := eq_true p339
                replace q339 := eq_true q339
                go_wp2_with (first | ((with_reducible refine gate_dst (N := 4) rfl ?_); refine box_event ?hg (N := 4) ?hd (cs := #[.int .i64 0, .int .i64 0]) (t := 56) ?hr ?_; (case hd => rfl); (case hg => rfl); (case hr => first | (go_simp; done) | (go_simp; rfl)); intro gb340 hg w12 hbox hb; have n0_ := Aside0.mk (blk_below (g := gb338) (o := .cells #[.slice (some ad339) l0_0.length c0_0] 42 (0, 0)) (by (with_reducible repeat (first | refine blk_drewN ?_ _ | refine blk_drew ?_ | refine blk_alloc ?_ _)); exact BK338.out) hb); have n1_ := Aside0.mk (below_step (by repeat (first | (with_reducible first | exact HB.out | apply below_alloc | apply pw_below_drewN | apply below_drew1 | refine below_set ?_ GE338.out) | exact HB.out)) hb); have n2_ := Aside0.mk (hbox); have n3_ := Aside0.mk ((by rw [hg]; exact (below_size (by repeat (first | (with_reducible first | exact HB.out | apply below_alloc | apply pw_below_drewN | apply below_drew1 | refine below_set ?_ GE338.out) | exact HB.out))) : w.heap.size ≤ gb340)); have n4_ := Aside0.mk ((by rw [hg]; exact (below_size (by repeat (first | (with_reducible first | exact HB.out | apply below_alloc | apply pw_below_drewN | apply below_drew1 | refine below_set ?_ GE338.out) | exact HB.out))) : w.heap.size ≤ gb340)); have n5_ := Aside0.mk ((by rw [hg]; exact Nat.ne_of_lt (blk_lt (g := gb338) (o := .cells #[.slice (some ad339) l0_0.length c0_0] 42 (0, 0)) (by (with_reducible repeat (first | refine blk_drewN ?_ _ | refine blk_drew ?_ | refine blk_alloc ?_ _)); exact BK338.out)) : gb338 ≠ gb340)); have n6_ := Aside0.mk ((by rw [hg]; exact Nat.ne_of_gt (blk_lt (g := gb338) (o := .cells #[.slice (some ad339) l0_0.length c0_0] 42 (0, 0)) (by (with_reducible repeat (first | refine blk_drewN ?_ _ | refine blk_drew ?_ | refine blk_alloc ?_ _)); exact BK338.out)) : gb340 ≠ gb338)); clear BK338; clear HB; have BK338 := n0_; have HB := n1_; have BK340 := n2_; have GW340 := n3_; have GE340 := n4_; have NB338_340 := n5_; have NB340_338 := n6_; clear n0_ n1_ n2_ n3_ n4_ n5_ n6_; clear hb hbox hg; have hnb13 := NB340_338.out; have hnc13 := NB338_340.out; have hcz14_0 : w12.cell? ⟨gb340, 0, none⟩ = some (.int .i64 0) := (blk_cell BK340.out 0).trans rfl; have hcz14_1 : w12.cell? ⟨gb340, 1, none⟩ = some (.int .i64 0) := (blk_cell BK340.out 1).trans rfl; have hfz14_0 := blk_frozen BK340.out 0; have hfz14_1 := blk_frozen BK340.out 1))
                repeat (go_quiet (first | ((with_reducible refine gate_dst (N := 4) rfl ?_); refine box_event ?hg (N := 4) ?hd (cs := #[.int .i64 0, .int .i64 0]) (t := 56) ?hr ?_; (case hd => rfl); (case hg => rfl); (case hr => first | (go_simp; done) | (go_simp; rfl)); intro gb340 hg w12 hbox hb; have n0_ := Aside0.mk (blk_below (g := gb338) (o := .cells #[.slice (some ad339) l0_0.length c0_0] 42 (0, 0)) (by (with_reducible repeat (first | refine blk_drewN ?_ _ | refine blk_drew ?_ | refine blk_alloc ?_ _)); exact BK338.out) hb); have n1_ := Aside0.mk (below_step (by repeat (first | (with_reducible first | exact HB.out | apply below_alloc | apply pw_below_drewN | apply below_drew1 | refine below_set ?_ GE338.out) | exact HB.out)) hb); have n2_ := Aside0.mk (hbox); have n3_ := Aside0.mk ((by rw [hg]; exact (below_size (by repeat (first | (with_reducible first | exact HB.out | apply below_alloc | apply pw_below_drewN | apply below_drew1 | refine below_set ?_ GE338.out) | exact HB.out))) : w.heap.size ≤ gb340)); have n4_ := Aside0.mk ((by rw [hg]; exact (below_size (by repeat (first | (with_reducible first | exact HB.out | apply below_alloc | apply pw_below_drewN | apply below_drew1 | refine below_set ?_ GE338.out) | exact HB.out))) : w.heap.size ≤ gb340)); have n5_ := Aside0.mk ((by rw [hg]; exact Nat.ne_of_lt (blk_lt (g := gb338) (o := .cells #[.slice (some ad339) l0_0.length c0_0] 42 (0, 0)) (by (with_reducible repeat (first | refine blk_drewN ?_ _ | refine blk_drew ?_ | refine blk_alloc ?_ _)); exact BK338.out)) : gb338 ≠ gb340)); have n6_ := Aside0.mk ((by rw [hg]; exact Nat.ne_of_gt (blk_lt (g := gb338) (o := .cells #[.slice (some ad339) l0_0.length c0_0] 42 (0, 0)) (by (with_reducible repeat (first | refine blk_drewN ?_ _ | refine blk_drew ?_ | refine blk_alloc ?_ _)); exact BK338.out)) : gb340 ≠ gb338)); clear BK338; clear HB; have BK338 := n0_; have HB := n1_; have BK340 := n2_; have GW340 := n3_; have GE340 := n4_; have NB338_340 := n5_; have NB340_338 := n6_; clear n0_ n1_ n2_ n3_ n4_ n5_ n6_; clear hb hbox hg; have hnb13 := NB340_338.out; have hnc13 := NB338_340.out; have hcz14_0 : w12.cell? ⟨gb340, 0, none⟩ = some (.int .i64 0) := (blk_cell BK340.out 0).trans rfl; have hcz14_1 : w12.cell? ⟨gb340, 1, none⟩ = some (.int .i64 0) := (blk_cell BK340.out 1).trans rfl; have hfz14_0 := blk_frozen BK340.out 0; have hfz14_1 := blk_frozen BK340.out 1)); try go_wp2_with (first | ((with_reducible refine gate_dst (N := 4) rfl ?_); refine box_event ?hg (N := 4) ?hd (cs := #[.int .i64 0, .int .i64 0]) (t := 56) ?hr ?_; (case hd => rfl); (case hg => rfl); (case hr => first | (go_simp; done) | (go_simp; rfl)); intro gb340 hg w12 hbox hb; have n0_ := Aside0.mk (blk_below (g := gb338) (o := .cells #[.slice (some ad339) l0_0.length c0_0] 42 (0, 0)) (by (with_reducible repeat (first | refine blk_drewN ?_ _ | refine blk_drew ?_ | refine blk_alloc ?_ _)); exact BK338.out) hb); have n1_ := Aside0.mk (below_step (by repeat (first | (with_reducible first | exact HB.out | apply below_alloc | apply pw_below_drewN | apply below_drew1 | refine below_set ?_ GE338.out) | exact HB.out)) hb); have n2_ := Aside0.mk (hbox); have n3_ := Aside0.mk ((by rw [hg]; exact (below_size (by repeat (first | (with_reducible first | exact HB.out | apply below_alloc | apply pw_below_drewN | apply below_drew1 | refine below_set ?_ GE338.out) | exact HB.out))) : w.heap.size ≤ gb340)); have n4_ := Aside0.mk ((by rw [hg]; exact (below_size (by repeat (first | (with_reducible first | exact HB.out | apply below_alloc | apply pw_below_drewN | apply below_drew1 | refine below_set ?_ GE338.out) | exact HB.out))) : w.heap.size ≤ gb340)); have n5_ := Aside0.mk ((by rw [hg]; exact Nat.ne_of_lt (blk_lt (g := gb338) (o := .cells #[.slice (some ad339) l0_0.length c0_0] 42 (0, 0)) (by (with_reducible repeat (first | refine blk_drewN ?_ _ | refine blk_drew ?_ | refine blk_alloc ?_ _)); exact BK338.out)) : gb338 ≠ gb340)); have n6_ := Aside0.mk ((by rw [hg]; exact Nat.ne_of_gt (blk_lt (g := gb338) (o := .cells #[.slice (some ad339) l0_0.length c0_0] 42 (0, 0)) (by (with_reducible repeat (first | refine blk_drewN ?_ _ | refine blk_drew ?_ | refine blk_alloc ?_ _)); exact BK338.out)) : gb340 ≠ gb338)); clear BK338; clear HB; have BK338 := n0_; have HB := n1_; have BK340 := n2_; have GW340 := n3_; have GE340 := n4_; have NB338_340 := n5_; have NB340_338 := n6_; clear n0_ n1_ n2_ n3_ n4_ n5_ n6_; clear hb hbox hg; have hnb13 := NB340_338.out; have hnc13 := NB338_340.out; have hcz14_0 : w12.cell? ⟨gb340, 0, none⟩ = some (.int .i64 0) := (blk_cell BK340.out 0).trans rfl; have hcz14_1 : w12.cell? ⟨gb340, 1, none⟩ = some (.int .i64 0) := (blk_cell BK340.out 1).trans rfl; have hfz14_0 := blk_frozen BK340.out 0; have hfz14_1 := blk_frozen BK340.out 1)))
                go_ret
                exact ⟨by first | rfl | (simp [errW_none, errW_some] <;> rfl) | (simp [*, errW_none, errW_some] <;> rfl), by repeat (first | (with_reducible first | exact HB.out | apply below_alloc | apply pw_below_drewN | apply below_drew1 | refine below_set ?_ GE338.out | refine below_set ?_ GE340.out) | exact HB.out)⟩
              · rw [if_neg c11] at H
                have c11b0 : decide (((rd_T56 l0_0 x8_1).f1) < ((rd_T56 l0_0 x8_1).f0)) = false := decide_eq_false c11
                clear c11
                by_cases c15 : ((rd_T56 l0_0 x8_1).f1) > 2147483647
                · rw [if_pos c15] at H
                  have c15b0 : decide (2147483647 < ((rd_T56 l0_0 x8_1).f1)) = true := decide_eq_true c15
                  clear c15
                  obtain rfl := Option.some.inj H
                  have p339 : 0 ≤ (x8_1 : Int) := of_decide_eq_true (by first | (with_reducible assumption) | assumption)
                  have q339 : x8_1 < (l0_0.length : Int) := of_decide_eq_true (by first | (with_reducible assumption) | assumption)
                  obtain ⟨ad339, e339, hx339_0, hx339_1⟩ := at_T56 HR0_0.out x8_1 p339 q339
                  cases e339
                  replace hx339_0 := (HB.out.cell (World.block_lt_of_cell? w _ hx339_0)).trans hx339_0
                  replace hx339_1 := (HB.out.cell (World.block_lt_of_cell? w _ hx339_1)).trans hx339_1
                  replace p339 := eq_true p339
                  replace q339 := eq_true q339
                  go_wp2_with (first | ((with_reducible refine gate_dst (N := 4) rfl ?_); refine box_event ?hg (N := 4) ?hd (cs := #[.int .i64 0, .int .i64 0]) (t := 56) ?hr ?_; (case hd => rfl); (case hg => rfl); (case hr => first | (go_simp; done) | (go_simp; rfl)); intro gb340 hg w16 hbox hb; have n0_ := Aside0.mk (blk_below (g := gb338) (o := .cells #[.slice (some ad339) l0_0.length c0_0] 42 (0, 0)) (by (with_reducible repeat (first | refine blk_drewN ?_ _ | refine blk_drew ?_ | refine blk_alloc ?_ _)); exact BK338.out) hb); have n1_ := Aside0.mk (below_step (by repeat (first | (with_reducible first | exact HB.out | apply below_alloc | apply pw_below_drewN | apply below_drew1 | refine below_set ?_ GE338.out) | exact HB.out)) hb); have n2_ := Aside0.mk (hbox); have n3_ := Aside0.mk ((by rw [hg]; exact (below_size (by repeat (first | (with_reducible first | exact HB.out | apply below_alloc | apply pw_below_drewN | apply below_drew1 | refine below_set ?_ GE338.out) | exact HB.out))) : w.heap.size ≤ gb340)); have n4_ := Aside0.mk ((by rw [hg]; exact (below_size (by repeat (first | (with_reducible first | exact HB.out | apply below_alloc | apply pw_below_drewN | apply below_drew1 | refine below_set ?_ GE338.out) | exact HB.out))) : w.heap.size ≤ gb340)); have n5_ := Aside0.mk ((by rw [hg]; exact Nat.ne_of_lt (blk_lt (g := gb338) (o := .cells #[.slice (some ad339) l0_0.length c0_0] 42 (0, 0)) (by (with_reducible repeat (first | refine blk_drewN ?_ _ | refine blk_drew ?_ | refine blk_alloc ?_ _)); exact BK338.out)) : gb338 ≠ gb340)); have n6_ := Aside0.mk ((by rw [hg]; exact Nat.ne_of_gt (blk_lt (g := gb338) (o := .cells #[.slice (some ad339) l0_0.length c0_0] 42 (0, 0)) (by (with_reducible repeat (first | refine blk_drewN ?_ _ | refine blk_drew ?_ | refine blk_alloc ?_ _)); exact BK338.out)) : gb340 ≠ gb338)); clear BK338; clear HB; have BK338 := n0_; have HB := n1_; have BK340 := n2_; have GW340 := n3_; have GE340 := n4_; have NB338_340 := n5_; have NB340_338 := n6_; clear n0_ n1_ n2_ n3_ n4_ n5_ n6_; clear hb hbox hg; have hnb17 := NB340_338.out; have hnc17 := NB338_340.out; have hcz18_0 : w16.cell? ⟨gb340, 0, none⟩ = some (.int .i64 0) := (blk_cell BK340.out 0).trans rfl; have hcz18_1 : w16.cell? ⟨gb340, 1, none⟩ = some (.int .i64 0) := (blk_cell BK340.out 1).trans rfl; have hfz18_0 := blk_frozen BK340.out 0; have hfz18_1 := blk_frozen BK340.out 1))
                  repeat (go_quiet (first | ((with_reducible refine gate_dst (N := 4) rfl ?_); refine box_event ?hg (N := 4) ?hd (cs := #[.int .i64 0, .int .i64 0]) (t := 56) ?hr ?_; (case hd => rfl); (case hg => rfl); (case hr => first | (go_simp; done) | (go_simp; rfl)); intro gb340 hg w16 hbox hb; have n0_ := Aside0.mk (blk_below (g := gb338) (o := .cells #[.slice (some ad339) l0_0.length c0_0] 42 (0, 0)) (by (with_reducible repeat (first | refine blk_drewN ?_ _ | refine blk_drew ?_ | refine blk_alloc ?_ _)); exact BK338.out) hb); have n1_ := Aside0.mk (below_step (by repeat (first | (with_reducible first | exact HB.out | apply below_alloc | apply pw_below_drewN | apply below_drew1 | refine below_set ?_ GE338.out) | exact HB.out)) hb); have n2_ := Aside0.mk (hbox); have n3_ := Aside0.mk ((by rw [hg]; exact (below_size (by repeat (first | (with_reducible first | exact HB.out | apply below_alloc | apply pw_below_drewN | apply below_drew1 | refine below_set ?_ GE338.out) | exact HB.out))) : w.heap.size ≤ gb340)); have n4_ := Aside0.mk ((by rw [hg]; exact (below_size (by repeat (first | (with_reducible first | exact HB.out | apply below_alloc | apply pw_below_drewN | apply below_drew1 | refine below_set ?_ GE338.out) | exact HB.out))) : w.heap.size ≤ gb340)); have n5_ := Aside0.mk ((by rw [hg]; exact Nat.ne_of_lt (blk_lt (g := gb338) (o := .cells #[.slice (some ad339) l0_0.length c0_0] 42 (0, 0)) (by (with_reducible repeat (first | refine blk_drewN ?_ _ | refine blk_drew ?_ | refine blk_alloc ?_ _)); exact BK338.out)) : gb338 ≠ gb340)); have n6_ := Aside0.mk ((by rw [hg]; exact Nat.ne_of_gt (blk_lt (g := gb338) (o := .cells #[.slice (some ad339) l0_0.length c0_0] 42 (0, 0)) (by (with_reducible repeat (first | refine blk_drewN ?_ _ | refine blk_drew ?_ | refine blk_alloc ?_ _)); exact BK338.out)) : gb340 ≠ gb338)); clear BK338; clear HB; have BK338 := n0_; have HB := n1_; have BK340 := n2_; have GW340 := n3_; have GE340 := n4_; have NB338_340 := n5_; have NB340_338 := n6_; clear n0_ n1_ n2_ n3_ n4_ n5_ n6_; clear hb hbox hg; have hnb17 := NB340_338.out; have hnc17 := NB338_340.out; have hcz18_0 : w16.cell? ⟨gb340, 0, none⟩ = some (.int .i64 0) := (blk_cell BK340.out 0).trans rfl; have hcz18_1 : w16.cell? ⟨gb340, 1, none⟩ = some (.int .i64 0) := (blk_cell BK340.out 1).trans rfl; have hfz18_0 := blk_frozen BK340.out 0; have hfz18_1 := blk_frozen BK340.out 1)); try go_wp2_with (first | ((with_reducible refine gate_dst (N := 4) rfl ?_); refine box_event ?hg (N := 4) ?hd (cs := #[.int .i64 0, .int .i64 0]) (t := 56) ?hr ?_; (case hd => rfl); (case hg => rfl); (case hr => first | (go_simp; done) | (go_simp; rfl)); intro gb340 hg w16 hbox hb; have n0_ := Aside0.mk (blk_below (g := gb338) (o := .cells #[.slice (some ad339) l0_0.length c0_0] 42 (0, 0)) (by (with_reducible repeat (first | refine blk_drewN ?_ _ | refine blk_drew ?_ | refine blk_alloc ?_ _)); exact BK338.out) hb); have n1_ := Aside0.mk (below_step (by repeat (first | (with_reducible first | exact HB.out | apply below_alloc | apply pw_below_drewN | apply below_drew1 | refine below_set ?_ GE338.out) | exact HB.out)) hb); have n2_ := Aside0.mk (hbox); have n3_ := Aside0.mk ((by rw [hg]; exact (below_size (by repeat (first | (with_reducible first | exact HB.out | apply below_alloc | apply pw_below_drewN | apply below_drew1 | refine below_set ?_ GE338.out) | exact HB.out))) : w.heap.size ≤ gb340)); have n4_ := Aside0.mk ((by rw [hg]; exact (below_size (by repeat (first | (with_reducible first | exact HB.out | apply below_alloc | apply pw_below_drewN | apply below_drew1 | refine below_set ?_ GE338.out) | exact HB.out))) : w.heap.size ≤ gb340)); have n5_ := Aside0.mk ((by rw [hg]; exact Nat.ne_of_lt (blk_lt (g := gb338) (o := .cells #[.slice (some ad339) l0_0.length c0_0] 42 (0, 0)) (by (with_reducible repeat (first | refine blk_drewN ?_ _ | refine blk_drew ?_ | refine blk_alloc ?_ _)); exact BK338.out)) : gb338 ≠ gb340)); have n6_ := Aside0.mk ((by rw [hg]; exact Nat.ne_of_gt (blk_lt (g := gb338) (o := .cells #[.slice (some ad339) l0_0.length c0_0] 42 (0, 0)) (by (with_reducible repeat (first | refine blk_drewN ?_ _ | refine blk_drew ?_ | refine blk_alloc ?_ _)); exact BK338.out)) : gb340 ≠ gb338)); clear BK338; clear HB; have BK338 := n0_; have HB := n1_; have BK340 := n2_; have GW340 := n3_; have GE340 := n4_; have NB338_340 := n5_; have NB340_338 := n6_; clear n0_ n1_ n2_ n3_ n4_ n5_ n6_; clear hb hbox hg; have hnb17 := NB340_338.out; have hnc17 := NB338_340.out; have hcz18_0 : w16.cell? ⟨gb340, 0, none⟩ = some (.int .i64 0) := (blk_cell BK340.out 0).trans rfl; have hcz18_1 : w16.cell? ⟨gb340, 1, none⟩ = some (.int .i64 0) := (blk_cell BK340.out 1).trans rfl; have hfz18_0 := blk_frozen BK340.out 0; have hfz18_1 := blk_frozen BK340.out 1)))
                  go_ret
                  exact ⟨by first | rfl | (simp [errW_none, errW_some] <;> rfl) | (simp [*, errW_none, errW_some] <;> rfl), by repeat (first | (with_reducible first | exact HB.out | apply below_alloc | apply pw_below_drewN | apply below_drew1 | refine below_set ?_ GE338.out | refine below_set ?_ GE340.out) | exact HB.out)⟩
                · rw [if_neg c15] at H
                  have c15b0 : decide (2147483647 < ((rd_T56 l0_0 x8_1).f1)) = false := decide_eq_false c15
                  clear c15
                  by_cases c19 : x8_1 > 0
                  · rw [if_pos c19] at H
                    have c19b0 : decide (0 < x8_1) = true := decide_eq_true c19
                    clear c19
                    obtain ⟨ji20, hji20⟩ : ∃ j_ : Int, (wrap64 (x8_1 - 1)) = j_ := ⟨_, rfl⟩
                    replace H : (if 0 ≤ (ji20) then (if (ji20) < (l0_0.length : Int) then (if (wrap64 (((rd_T56 l0_0 x8_1).f0) - 1)) ≤ ((rd_T56 l0_0 (ji20)).f1) then (some false) else (soundserviceref09_Valid.l0 k1 l0_0 (l0_0.length : Int) (wrap64 (x8_1 + 1)) l0_0)) else (none)) else (none)) = some r := by first | (rw [hji20] at H; exact H) | (simp only [hji20] at H ⊢; exact H)
                    have hji20w : (IntKind.i64.wrap (x8_1 - 1)) = ji20 := (i64_w _).trans hji20
                    by_cases c21 : 0 ≤ (ji20)
                    · rw [if_pos c21] at H
                      have c21b0 : decide (0 ≤ (ji20)) = true := decide_eq_true c21
                      clear c21
                      by_cases c22 : (ji20) < (l0_0.length : Int)
                      · rw [if_pos c22] at H
                        have c22b0 : decide ((ji20) < (l0_0.length : Int)) = true := decide_eq_true c22
                        clear c22
                        by_cases c23 : (wrap64 (((rd_T56 l0_0 x8_1).f0) - 1)) ≤ ((rd_T56 l0_0 (ji20)).f1)
                        · rw [if_pos c23] at H
                          have c23b0 : decide ((wrap64 (((rd_T56 l0_0 x8_1).f0) - 1)) ≤ ((rd_T56 l0_0 (ji20)).f1)) = true := decide_eq_true c23
                          clear c23
                          obtain rfl := Option.some.inj H
                          have p339 : 0 ≤ (x8_1 : Int) := of_decide_eq_true (by first | (with_reducible assumption) | assumption)
                          have q339 : x8_1 < (l0_0.length : Int) := of_decide_eq_true (by first | (with_reducible assumption) | assumption)
                          obtain ⟨ad339, e339, hx339_0, hx339_1⟩ := at_T56 HR0_0.out x8_1 p339 q339
                          cases e339
                          replace hx339_0 := (HB.out.cell (World.block_lt_of_cell? w _ hx339_0)).trans hx339_0
                          replace hx339_1 := (HB.out.cell (World.block_lt_of_cell? w _ hx339_1)).trans hx339_1
                          replace p339 := eq_true p339
                          replace q339 := eq_true q339
                          go_wp2_with (first | ((with_reducible refine gate_dst (N := 4) rfl ?_); refine box_event ?hg (N := 4) ?hd (cs := #[.int .i64 0, .int .i64 0]) (t := 56) ?hr ?_; (case hd => rfl); (case hg => rfl); (case hr => first | (go_simp; done) | (go_simp; rfl)); intro gb340 hg w24 hbox hb; have n0_ := Aside0.mk (blk_below (g := gb338) (o := .cells #[.slice (some ad339) l0_0.length c0_0] 42 (0, 0)) (by (with_reducible repeat (first | refine blk_drewN ?_ _ | refine blk_drew ?_ | refine blk_alloc ?_ _)); exact BK338.out) hb); have n1_ := Aside0.mk (below_step (by repeat (first | (with_reducible first | exact HB.out | apply below_alloc | apply pw_below_drewN | apply below_drew1 | refine below_set ?_ GE338.out) | exact HB.out)) hb); have n2_ := Aside0.mk (hbox); have n3_ := Aside0.mk ((by rw [hg]; exact (below_size (by repeat (first | (with_reducible first | exact HB.out | apply below_alloc | apply pw_below_drewN | apply below_drew1 | refine below_set ?_ GE338.out) | exact HB.out))) : w.heap.size ≤ gb340)); have n4_ := Aside0.mk ((by rw [hg]; exact (below_size (by repeat (first | (with_reducible first | exact HB.out | apply below_alloc | apply pw_below_drewN | apply below_drew1 | refine below_set ?_ GE338.out) | exact HB.out))) : w.heap.size ≤ gb340)); have n5_ := Aside0.mk ((by rw [hg]; exact Nat.ne_of_lt (blk_lt (g := gb338) (o := .cells #[.slice (some ad339) l0_0.length c0_0] 42 (0, 0)) (by (with_reducible repeat (first | refine blk_drewN ?_ _ | refine blk_drew ?_ | refine blk_alloc ?_ _)); exact BK338.out)) : gb338 ≠ gb340)); have n6_ := Aside0.mk ((by rw [hg]; exact Nat.ne_of_gt (blk_lt (g := gb338) (o := .cells #[.slice (some ad339) l0_0.length c0_0] 42 (0, 0)) (by (with_reducible repeat (first | refine blk_drewN ?_ _ | refine blk_drew ?_ | refine blk_alloc ?_ _)); exact BK338.out)) : gb340 ≠ gb338)); clear BK338; clear HB; have BK338 := n0_; have HB := n1_; have BK340 := n2_; have GW340 := n3_; have GE340 := n4_; have NB338_340 := n5_; have NB340_338 := n6_; clear n0_ n1_ n2_ n3_ n4_ n5_ n6_; clear hb hbox hg; have hnb25 := NB340_338.out; have hnc25 := NB338_340.out; have hcz26_0 : w24.cell? ⟨gb340, 0, none⟩ = some (.int .i64 0) := (blk_cell BK340.out 0).trans rfl; have hcz26_1 : w24.cell? ⟨gb340, 1, none⟩ = some (.int .i64 0) := (blk_cell BK340.out 1).trans rfl; have hfz26_0 := blk_frozen BK340.out 0; have hfz26_1 := blk_frozen BK340.out 1; have hcz27_0 : w24.cell? ⟨gb338, 0, none⟩ = some (.slice (some ad339) l0_0.length c0_0) := (blk_cell BK338.out 0).trans rfl; have hfz27_0 := blk_frozen BK338.out 0; have p341 : 0 ≤ ((ji20) : Int) := of_decide_eq_true (by first | (with_reducible assumption) | assumption); have q341 : (ji20) < (l0_0.length : Int) := of_decide_eq_true (by first | (with_reducible assumption) | assumption); obtain ⟨ad341, e341, hx341_0, hx341_1⟩ := at_T56 HR0_0.out (ji20) p341 q341; obtain rfl : ad339 = ad341 := (by injection e341); have hn341_0 : ad339.block ≠ gb340 := Nat.ne_of_lt (Nat.lt_of_lt_of_le (by have := World.block_lt_of_cell? _ _ hx341_0; first | rwa [add_block] at this | exact this) GW340.out); have hn341_1 : ad339.block ≠ gb340 := Nat.ne_of_lt (Nat.lt_of_lt_of_le (by have := World.block_lt_of_cell? _ _ hx341_0; first | rwa [add_block] at this | exact this) GW340.out); replace hx341_0 := (HB.out.cell (World.block_lt_of_cell? w _ hx341_0)).trans hx341_0; replace hx341_1 := (HB.out.cell (World.block_lt_of_cell? w _ hx341_1)).trans hx341_1; replace hx341_0 := (cell_far (p := ⟨gb340, 0, none⟩) (by first | (rw [add_block]; exact hn341_0) | (show (Addr.add _ _).block ≠ _; rw [add_block]; exact hn341_0) | exact hn341_0) (.int .i64 ((rd_T56 l0_0 x8_1).f0))).trans hx341_0; replace hx341_1 := (cell_far (p := ⟨gb340, 0, none⟩) (by first | (rw [add_block]; exact hn341_0) | (show (Addr.add _ _).block ≠ _; rw [add_block]; exact hn341_0) | exact hn341_0) (.int .i64 ((rd_T56 l0_0 x8_1).f0))).trans hx341_1; replace hx341_0 := (cell_far (p := ⟨gb340, 1, none⟩) (by first | (rw [add_block]; exact hn341_1) | (show (Addr.add _ _).block ≠ _; rw [add_block]; exact hn341_1) | exact hn341_1) (.int .i64 ((rd_T56 l0_0 x8_1).f1))).trans hx341_0; replace hx341_1 := (cell_far (p := ⟨gb340, 1, none⟩) (by first | (rw [add_block]; exact hn341_1) | (show (Addr.add _ _).block ≠ _; rw [add_block]; exact hn341_1) | exact hn341_1) (.int .i64 ((rd_T56 l0_0 x8_1).f1))).trans hx341_1; (try have hy341_0 := fun (n_ : Nat) => (show ((((w24.drewN n_).setCell ⟨gb340, 0, none⟩ (.int .i64 ((rd_T56 l0_0 x8_1).f0))).setCell ⟨gb340, 1, none⟩ (.int .i64 ((rd_T56 l0_0 x8_1).f1)))).cell? _ = some _ from hx341_0)); (try have hy341_1 := fun (n_ : Nat) => (show ((((w24.drewN n_).setCell ⟨gb340, 0, none⟩ (.int .i64 ((rd_T56 l0_0 x8_1).f0))).setCell ⟨gb340, 1, none⟩ (.int .i64 ((rd_T56 l0_0 x8_1).f1)))).cell? _ = some _ from hx341_1)); clear hn341_0; clear hn341_1; replace p341 := eq_true p341; replace q341 := eq_true q341))
                          repeat (go_quiet (first | ((with_reducible refine gate_dst (N := 4) rfl ?_); refine box_event ?hg (N := 4) ?hd (cs := #[.int .i64 0, .int .i64 0]) (t := 56) ?hr ?_; (case hd => rfl); (case hg => rfl); (case hr => first | (go_simp; done) | (go_simp; rfl)); intro gb340 hg w24 hbox hb; have n0_ := Aside0.mk (blk_below (g := gb338) (o := .cells #[.slice (some ad339) l0_0.length c0_0] 42 (0, 0)) (by (with_reducible repeat (first | refine blk_drewN ?_ _ | refine blk_drew ?_ | refine blk_alloc ?_ _)); exact BK338.out) hb); have n1_ := Aside0.mk (below_step (by repeat (first | (with_reducible first | exact HB.out | apply below_alloc | apply pw_below_drewN | apply below_drew1 | refine below_set ?_ GE338.out) | exact HB.out)) hb); have n2_ := Aside0.mk (hbox); have n3_ := Aside0.mk ((by rw [hg]; exact (below_size (by repeat (first | (with_reducible first | exact HB.out | apply below_alloc | apply pw_below_drewN | apply below_drew1 | refine below_set ?_ GE338.out) | exact HB.out))) : w.heap.size ≤ gb340)); have n4_ := Aside0.mk ((by rw [hg]; exact (below_size (by repeat (first | (with_reducible first | exact HB.out | apply below_alloc | apply pw_below_drewN | apply below_drew1 | refine below_set ?_ GE338.out) | exact HB.out))) : w.heap.size ≤ gb340)); have n5_ := Aside0.mk ((by rw [hg]; exact Nat.ne_of_lt (blk_lt (g := gb338) (o := .cells #[.slice (some ad339) l0_0.length c0_0] 42 (0, 0)) (by (with_reducible repeat (first | refine blk_drewN ?_ _ | refine blk_drew ?_ | refine blk_alloc ?_ _)); exact BK338.out)) : gb338 ≠ gb340)); have n6_ := Aside0.mk ((by rw [hg]; exact Nat.ne_of_gt (blk_lt (g := gb338) (o := .cells #[.slice (some ad339) l0_0.length c0_0] 42 (0, 0)) (by (with_reducible repeat (first | refine blk_drewN ?_ _ | refine blk_drew ?_ | refine blk_alloc ?_ _)); exact BK338.out)) : gb340 ≠ gb338)); clear BK338; clear HB; have BK338 := n0_; have HB := n1_; have BK340 := n2_; have GW340 := n3_; have GE340 := n4_; have NB338_340 := n5_; have NB340_338 := n6_; clear n0_ n1_ n2_ n3_ n4_ n5_ n6_; clear hb hbox hg; have hnb25 := NB340_338.out; have hnc25 := NB338_340.out; have hcz26_0 : w24.cell? ⟨gb340, 0, none⟩ = some (.int .i64 0) := (blk_cell BK340.out 0).trans rfl; have hcz26_1 : w24.cell? ⟨gb340, 1, none⟩ = some (.int .i64 0) := (blk_cell BK340.out 1).trans rfl; have hfz26_0 := blk_frozen BK340.out 0; have hfz26_1 := blk_frozen BK340.out 1; have hcz27_0 : w24.cell? ⟨gb338, 0, none⟩ = some (.slice (some ad339) l0_0.length c0_0) := (blk_cell BK338.out 0).trans rfl; have hfz27_0 := blk_frozen BK338.out 0; have p341 : 0 ≤ ((ji20) : Int) := of_decide_eq_true (by first | (with_reducible assumption) | assumption); have q341 : (ji20) < (l0_0.length : Int) := of_decide_eq_true (by first | (with_reducible assumption) | assumption); obtain ⟨ad341, e341, hx341_0, hx341_1⟩ := at_T56 HR0_0.out (ji20) p341 q341; obtain rfl : ad339 = ad341 := (by injection e341); have hn341_0 : ad339.block ≠ gb340 := Nat.ne_of_lt (Nat.lt_of_lt_of_le (by have := World.block_lt_of_cell? _ _ hx341_0; first | rwa [add_block] at this | exact this) GW340.out); have hn341_1 : ad339.block ≠ gb340 := Nat.ne_of_lt (Nat.lt_of_lt_of_le (by have := World.block_lt_of_cell? _ _ hx341_0; first | rwa [add_block] at this | exact this) GW340.out); replace hx341_0 := (HB.out.cell (World.block_lt_of_cell? w _ hx341_0)).trans hx341_0; replace hx341_1 := (HB.out.cell (World.block_lt_of_cell? w _ hx341_1)).trans hx341_1; replace hx341_0 := (cell_far (p := ⟨gb340, 0, none⟩) (by first | (rw [add_block]; exact hn341_0) | (show (Addr.add _ _).block ≠ _; rw [add_block]; exact hn341_0) | exact hn341_0) (.int .i64 ((rd_T56 l0_0 x8_1).f0))).trans hx341_0; replace hx341_1 := (cell_far (p := ⟨gb340, 0, none⟩) (by first | (rw [add_block]; exact hn341_0) | (show (Addr.add _ _).block ≠ _; rw [add_block]; exact hn341_0) | exact hn341_0) (.int .i64 ((rd_T56 l0_0 x8_1).f0))).trans hx341_1; replace hx341_0 := (cell_far (p := ⟨gb340, 1, none⟩) (by first | (rw [add_block]; exact hn341_1) | (show (Addr.add _ _).block ≠ _; rw [add_block]; exact hn341_1) | exact hn341_1) (.int .i64 ((rd_T56 l0_0 x8_1).f1))).trans hx341_0; replace hx341_1 := (cell_far (p := ⟨gb340, 1, none⟩) (by first | (rw [add_block]; exact hn341_1) | (show (Addr.add _ _).block ≠ _; rw [add_block]; exact hn341_1) | exact hn341_1) (.int .i64 ((rd_T56 l0_0 x8_1).f1))).trans hx341_1; (try have hy341_0 := fun (n_ : Nat) => (show ((((w24.drewN n_).setCell ⟨gb340, 0, none⟩ (.int .i64 ((rd_T56 l0_0 x8_1).f0))).setCell ⟨gb340, 1, none⟩ (.int .i64 ((rd_T56 l0_0 x8_1).f1)))).cell? _ = some _ from hx341_0)); (try have hy341_1 := fun (n_ : Nat) => (show ((((w24.drewN n_).setCell ⟨gb340, 0, none⟩ (.int .i64 ((rd_T56 l0_0 x8_1).f0))).setCell ⟨gb340, 1, none⟩ (.int .i64 ((rd_T56 l0_0 x8_1).f1)))).cell? _ = some _ from hx341_1)); clear hn341_0; clear hn341_1; replace p341 := eq_true p341; replace q341 := eq_true q341)); try go_wp2_with (first | ((with_reducible refine gate_dst (N := 4) rfl ?_); refine box_event ?hg (N := 4) ?hd (cs := #[.int .i64 0, .int .i64 0]) (t := 56) ?hr ?_; (case hd => rfl); (case hg => rfl); (case hr => first | (go_simp; done) | (go_simp; rfl)); intro gb340 hg w24 hbox hb; have n0_ := Aside0.mk (blk_below (g := gb338) (o := .cells #[.slice (some ad339) l0_0.length c0_0] 42 (0, 0)) (by (with_reducible repeat (first | refine blk_drewN ?_ _ | refine blk_drew ?_ | refine blk_alloc ?_ _)); exact BK338.out) hb); have n1_ := Aside0.mk (below_step (by repeat (first | (with_reducible first | exact HB.out | apply below_alloc | apply pw_below_drewN | apply below_drew1 | refine below_set ?_ GE338.out) | exact HB.out)) hb); have n2_ := Aside0.mk (hbox); have n3_ := Aside0.mk ((by rw [hg]; exact (below_size (by repeat (first | (with_reducible first | exact HB.out | apply below_alloc | apply pw_below_drewN | apply below_drew1 | refine below_set ?_ GE338.out) | exact HB.out))) : w.heap.size ≤ gb340)); have n4_ := Aside0.mk ((by rw [hg]; exact (below_size (by repeat (first | (with_reducible first | exact HB.out | apply below_alloc | apply pw_below_drewN | apply below_drew1 | refine below_set ?_ GE338.out) | exact HB.out))) : w.heap.size ≤ gb340)); have n5_ := Aside0.mk ((by rw [hg]; exact Nat.ne_of_lt (blk_lt (g := gb338) (o := .cells #[.slice (some ad339) l0_0.length c0_0] 42 (0, 0)) (by (with_reducible repeat (first | refine blk_drewN ?_ _ | refine blk_drew ?_ | refine blk_alloc ?_ _)); exact BK338.out)) : gb338 ≠ gb340)); have n6_ := Aside0.mk ((by rw [hg]; exact Nat.ne_of_gt (blk_lt (g := gb338) (o := .cells #[.slice (some ad339) l0_0.length c0_0] 42 (0, 0)) (by (with_reducible repeat (first | refine blk_drewN ?_ _ | refine blk_drew ?_ | refine blk_alloc ?_ _)); exact BK338.out)) : gb340 ≠ gb338)); clear BK338; clear HB; have BK338 := n0_; have HB := n1_; have BK340 := n2_; have GW340 := n3_; have GE340 := n4_; have NB338_340 := n5_; have NB340_338 := n6_; clear n0_ n1_ n2_ n3_ n4_ n5_ n6_; clear hb hbox hg; have hnb25 := NB340_338.out; have hnc25 := NB338_340.out; have hcz26_0 : w24.cell? ⟨gb340, 0, none⟩ = some (.int .i64 0) := (blk_cell BK340.out 0).trans rfl; have hcz26_1 : w24.cell? ⟨gb340, 1, none⟩ = some (.int .i64 0) := (blk_cell BK340.out 1).trans rfl; have hfz26_0 := blk_frozen BK340.out 0; have hfz26_1 := blk_frozen BK340.out 1; have hcz27_0 : w24.cell? ⟨gb338, 0, none⟩ = some (.slice (some ad339) l0_0.length c0_0) := (blk_cell BK338.out 0).trans rfl; have hfz27_0 := blk_frozen BK338.out 0; have p341 : 0 ≤ ((ji20) : Int) := of_decide_eq_true (by first | (with_reducible assumption) | assumption); have q341 : (ji20) < (l0_0.length : Int) := of_decide_eq_true (by first | (with_reducible assumption) | assumption); obtain ⟨ad341, e341, hx341_0, hx341_1⟩ := at_T56 HR0_0.out (ji20) p341 q341; obtain rfl : ad339 = ad341 := (by injection e341); have hn341_0 : ad339.block ≠ gb340 := Nat.ne_of_lt (Nat.lt_of_lt_of_le (by have := World.block_lt_of_cell? _ _ hx341_0; first | rwa [add_block] at this | exact this) GW340.out); have hn341_1 : ad339.block ≠ gb340 := Nat.ne_of_lt (Nat.lt_of_lt_of_le (by have := World.block_lt_of_cell? _ _ hx341_0; first | rwa [add_block] at this | exact this) GW340.out); replace hx341_0 := (HB.out.cell (World.block_lt_of_cell? w _ hx341_0)).trans hx341_0; replace hx341_1 := (HB.out.cell (World.block_lt_of_cell? w _ hx341_1)).trans hx341_1; replace hx341_0 := (cell_far (p := ⟨gb340, 0, none⟩) (by first | (rw [add_block]; exact hn341_0) | (show (Addr.add _ _).block ≠ _; rw [add_block]; exact hn341_0) | exact hn341_0) (.int .i64 ((rd_T56 l0_0 x8_1).f0))).trans hx341_0; replace hx341_1 := (cell_far (p := ⟨gb340, 0, none⟩) (by first | (rw [add_block]; exact hn341_0) | (show (Addr.add _ _).block ≠ _; rw [add_block]; exact hn341_0) | exact hn341_0) (.int .i64 ((rd_T56 l0_0 x8_1).f0))).trans hx341_1; replace hx341_0 := (cell_far (p := ⟨gb340, 1, none⟩) (by first | (rw [add_block]; exact hn341_1) | (show (Addr.add _ _).block ≠ _; rw [add_block]; exact hn341_1) | exact hn341_1) (.int .i64 ((rd_T56 l0_0 x8_1).f1))).trans hx341_0; replace hx341_1 := (cell_far (p := ⟨gb340, 1, none⟩) (by first | (rw [add_block]; exact hn341_1) | (show (Addr.add _ _).block ≠ _; rw [add_block]; exact hn341_1) | exact hn341_1) (.int .i64 ((rd_T56 l0_0 x8_1).f1))).trans hx341_1; (try have hy341_0 := fun (n_ : Nat) => (show ((((w24.drewN n_).setCell ⟨gb340, 0, none⟩ (.int .i64 ((rd_T56 l0_0 x8_1).f0))).setCell ⟨gb340, 1, none⟩ (.int .i64 ((rd_T56 l0_0 x8_1).f1)))).cell? _ = some _ from hx341_0)); (try have hy341_1 := fun (n_ : Nat) => (show ((((w24.drewN n_).setCell ⟨gb340, 0, none⟩ (.int .i64 ((rd_T56 l0_0 x8_1).f0))).setCell ⟨gb340, 1, none⟩ (.int .i64 ((rd_T56 l0_0 x8_1).f1)))).cell? _ = some _ from hx341_1)); clear hn341_0; clear hn341_1; replace p341 := eq_true p341; replace q341 := eq_true q341)))
                          go_ret
                          exact ⟨by first | rfl | (simp [errW_none, errW_some] <;> rfl) | (simp only [← hji20]; first | rfl | (simp [errW_none, errW_some] <;> rfl)) | (simp [*, errW_none, errW_some] <;> rfl), by repeat (first | (with_reducible first | exact HB.out | apply below_alloc | apply pw_below_drewN | apply below_drew1 | refine below_set ?_ GE338.out | refine below_set ?_ GE340.out) | exact HB.out)⟩
                        · rw [if_neg c23] at H
                          have c23b0 : decide ((wrap64 (((rd_T56 l0_0 x8_1).f0) - 1)) ≤ ((rd_T56 l0_0 (ji20)).f1)) = false := decide_eq_false c23
                          clear c23
                          have H' := Aside0.mk H
                          clear H
                          have p339 : 0 ≤ (x8_1 : Int) := of_decide_eq_true (by first | (with_reducible assumption) | assumption)
                          have q339 : x8_1 < (l0_0.length : Int) := of_decide_eq_true (by first | (with_reducible assumption) | assumption)
                          obtain ⟨ad339, e339, hx339_0, hx339_1⟩ := at_T56 HR0_0.out x8_1 p339 q339
                          cases e339
                          replace hx339_0 := (HB.out.cell (World.block_lt_of_cell? w _ hx339_0)).trans hx339_0
                          replace hx339_1 := (HB.out.cell (World.block_lt_of_cell? w _ hx339_1)).trans hx339_1
                          replace p339 := eq_true p339
                          replace q339 := eq_true q339
                          go_wp2_with (first | ((with_reducible refine gate_dst (N := 4) rfl ?_); refine box_event ?hg (N := 4) ?hd (cs := #[.int .i64 0, .int .i64 0]) (t := 56) ?hr ?_; (case hd => rfl); (case hg => rfl); (case hr => first | (go_simp; done) | (go_simp; rfl)); intro gb340 hg w28 hbox hb; have n0_ := Aside0.mk (blk_below (g := gb338) (o := .cells #[.slice (some ad339) l0_0.length c0_0] 42 (0, 0)) (by (with_reducible repeat (first | refine blk_drewN ?_ _ | refine blk_drew ?_ | refine blk_alloc ?_ _)); exact BK338.out) hb); have n1_ := Aside0.mk (below_step (by repeat (first | (with_reducible first | exact HB.out | apply below_alloc | apply pw_below_drewN | apply below_drew1 | refine below_set ?_ GE338.out) | exact HB.out)) hb); have n2_ := Aside0.mk (hbox); have n3_ := Aside0.mk ((by rw [hg]; exact (below_size (by repeat (first | (with_reducible first | exact HB.out | apply below_alloc | apply pw_below_drewN | apply below_drew1 | refine below_set ?_ GE338.out) | exact HB.out))) : w.heap.size ≤ gb340)); have n4_ := Aside0.mk ((by rw [hg]; exact (below_size (by repeat (first | (with_reducible first | exact HB.out | apply below_alloc | apply pw_below_drewN | apply below_drew1 | refine below_set ?_ GE338.out) | exact HB.out))) : w.heap.size ≤ gb340)); have n5_ := Aside0.mk ((by rw [hg]; exact Nat.ne_of_lt (blk_lt (g := gb338) (o := .cells #[.slice (some ad339) l0_0.length c0_0] 42 (0, 0)) (by (with_reducible repeat (first | refine blk_drewN ?_ _ | refine blk_drew ?_ | refine blk_alloc ?_ _)); exact BK338.out)) : gb338 ≠ gb340)); have n6_ := Aside0.mk ((by rw [hg]; exact Nat.ne_of_gt (blk_lt (g := gb338) (o := .cells #[.slice (some ad339) l0_0.length c0_0] 42 (0, 0)) (by (with_reducible repeat (first | refine blk_drewN ?_ _ | refine blk_drew ?_ | refine blk_alloc ?_ _)); exact BK338.out)) : gb340 ≠ gb338)); clear BK338; clear HB; have BK338 := n0_; have HB := n1_; have BK340 := n2_; have GW340 := n3_; have GE340 := n4_; have NB338_340 := n5_; have NB340_338 := n6_; clear n0_ n1_ n2_ n3_ n4_ n5_ n6_; clear hb hbox hg; have hnb29 := NB340_338.out; have hnc29 := NB338_340.out; have hcz30_0 : w28.cell? ⟨gb340, 0, none⟩ = some (.int .i64 0) := (blk_cell BK340.out 0).trans rfl; have hcz30_1 : w28.cell? ⟨gb340, 1, none⟩ = some (.int .i64 0) := (blk_cell BK340.out 1).trans rfl; have hfz30_0 := blk_frozen BK340.out 0; have hfz30_1 := blk_frozen BK340.out 1; have hcz31_0 : w28.cell? ⟨gb338, 0, none⟩ = some (.slice (some ad339) l0_0.length c0_0) := (blk_cell BK338.out 0).trans rfl; have hfz31_0 := blk_frozen BK338.out 0; have p341 : 0 ≤ ((ji20) : Int) := of_decide_eq_true (by first | (with_reducible assumption) | assumption); have q341 : (ji20) < (l0_0.length : Int) := of_decide_eq_true (by first | (with_reducible assumption) | assumption); obtain ⟨ad341, e341, hx341_0, hx341_1⟩ := at_T56 HR0_0.out (ji20) p341 q341; obtain rfl : ad339 = ad341 := (by injection e341); have hn341_0 : ad339.block ≠ gb340 := Nat.ne_of_lt (Nat.lt_of_lt_of_le (by have := World.block_lt_of_cell? _ _ hx341_0; first | rwa [add_block] at this | exact this) GW340.out); have hn341_1 : ad339.block ≠ gb340 := Nat.ne_of_lt (Nat.lt_of_lt_of_le (by have := World.block_lt_of_cell? _ _ hx341_0; first | rwa [add_block] at this | exact this) GW340.out); replace hx341_0 := (HB.out.cell (World.block_lt_of_cell? w _ hx341_0)).trans hx341_0; replace hx341_1 := (HB.out.cell (World.block_lt_of_cell? w _ hx341_1)).trans hx341_1; replace hx341_0 := (cell_far (p := ⟨gb340, 0, none⟩) (by first | (rw [add_block]; exact hn341_0) | (show (Addr.add _ _).block ≠ _; rw [add_block]; exact hn341_0) | exact hn341_0) (.int .i64 ((rd_T56 l0_0 x8_1).f0))).trans hx341_0; replace hx341_1 := (cell_far (p := ⟨gb340, 0, none⟩) (by first | (rw [add_block]; exact hn341_0) | (show (Addr.add _ _).block ≠ _; rw [add_block]; exact hn341_0) | exact hn341_0) (.int .i64 ((rd_T56 l0_0 x8_1).f0))).trans hx341_1; replace hx341_0 := (cell_far (p := ⟨gb340, 1, none⟩) (by first | (rw [add_block]; exact hn341_1) | (show (Addr.add _ _).block ≠ _; rw [add_block]; exact hn341_1) | exact hn341_1) (.int .i64 ((rd_T56 l0_0 x8_1).f1))).trans hx341_0; replace hx341_1 := (cell_far (p := ⟨gb340, 1, none⟩) (by first | (rw [add_block]; exact hn341_1) | (show (Addr.add _ _).block ≠ _; rw [add_block]; exact hn341_1) | exact hn341_1) (.int .i64 ((rd_T56 l0_0 x8_1).f1))).trans hx341_1; (try have hy341_0 := fun (n_ : Nat) => (show ((((w28.drewN n_).setCell ⟨gb340, 0, none⟩ (.int .i64 ((rd_T56 l0_0 x8_1).f0))).setCell ⟨gb340, 1, none⟩ (.int .i64 ((rd_T56 l0_0 x8_1).f1)))).cell? _ = some _ from hx341_0)); (try have hy341_1 := fun (n_ : Nat) => (show ((((w28.drewN n_).setCell ⟨gb340, 0, none⟩ (.int .i64 ((rd_T56 l0_0 x8_1).f0))).setCell ⟨gb340, 1, none⟩ (.int .i64 ((rd_T56 l0_0 x8_1).f1)))).cell? _ = some _ from hx341_1)); clear hn341_0; clear hn341_1; replace p341 := eq_true p341; replace q341 := eq_true q341))
                          repeat (go_quiet (first | ((with_reducible refine gate_dst (N := 4) rfl ?_); refine box_event ?hg (N := 4) ?hd (cs := #[.int .i64 0, .int .i64 0]) (t := 56) ?hr ?_; (case hd => rfl); (case hg => rfl); (case hr => first | (go_simp; done) | (go_simp; rfl)); intro gb340 hg w28 hbox hb; have n0_ := Aside0.mk (blk_below (g := gb338) (o := .cells #[.slice (some ad339) l0_0.length c0_0] 42 (0, 0)) (by (with_reducible repeat (first | refine blk_drewN ?_ _ | refine blk_drew ?_ | refine blk_alloc ?_ _)); exact BK338.out) hb); have n1_ := Aside0.mk (below_step (by repeat (first | (with_reducible first | exact HB.out | apply below_alloc | apply pw_below_drewN | apply below_drew1 | refine below_set ?_ GE338.out) | exact HB.out)) hb); have n2_ := Aside0.mk (hbox); have n3_ := Aside0.mk ((by rw [hg]; exact (below_size (by repeat (first | (with_reducible first | exact HB.out | apply below_alloc | apply pw_below_drewN | apply below_drew1 | refine below_set ?_ GE338.out) | exact HB.out))) : w.heap.size ≤ gb340)); have n4_ := Aside0.mk ((by rw [hg]; exact (below_size (by repeat (first | (with_reducible first | exact HB.out | apply below_alloc | apply pw_below_drewN | apply below_drew1 | refine below_set ?_ GE338.out) | exact HB.out))) : w.heap.size ≤ gb340)); have n5_ := Aside0.mk ((by rw [hg]; exact Nat.ne_of_lt (blk_lt (g := gb338) (o := .cells #[.slice (some ad339) l0_0.length c0_0] 42 (0, 0)) (by (with_reducible repeat (first | refine blk_drewN ?_ _ | refine blk_drew ?_ | refine blk_alloc ?_ _)); exact BK338.out)) : gb338 ≠ gb340)); have n6_ := Aside0.mk ((by rw [hg]; exact Nat.ne_of_gt (blk_lt (g := gb338) (o := .cells #[.slice (some ad339) l0_0.length c0_0] 42 (0, 0)) (by (with_reducible repeat (first | refine blk_drewN ?_ _ | refine blk_drew ?_ | refine blk_alloc ?_ _)); exact BK338.out)) : gb340 ≠ gb338)); clear BK338; clear HB; have BK338 := n0_; have HB := n1_; have BK340 := n2_; have GW340 := n3_; have GE340 := n4_; have NB338_340 := n5_; have NB340_338 := n6_; clear n0_ n1_ n2_ n3_ n4_ n5_ n6_; clear hb hbox hg; have hnb29 := NB340_338.out; have hnc29 := NB338_340.out; have hcz30_0 : w28.cell? ⟨gb340, 0, none⟩ = some (.int .i64 0) := (blk_cell BK340.out 0).trans rfl; have hcz30_1 : w28.cell? ⟨gb340, 1, none⟩ = some (.int .i64 0) := (blk_cell BK340.out 1).trans rfl; have hfz30_0 := blk_frozen BK340.out 0; have hfz30_1 := blk_frozen BK340.out 1; have hcz31_0 : w28.cell? ⟨gb338, 0, none⟩ = some (.slice (some ad339) l0_0.length c0_0) := (blk_cell BK338.out 0).trans rfl; have hfz31_0 := blk_frozen BK338.out 0; have p341 : 0 ≤ ((ji20) : Int) := of_decide_eq_true (by first | (with_reducible assumption) | assumption); have q341 : (ji20) < (l0_0.length : Int) := of_decide_eq_true (by first | (with_reducible assumption) | assumption); obtain ⟨ad341, e341, hx341_0, hx341_1⟩ := at_T56 HR0_0.out (ji20) p341 q341; obtain rfl : ad339 = ad341 := (by injection e341); have hn341_0 : ad339.block ≠ gb340 := Nat.ne_of_lt (Nat.lt_of_lt_of_le (by have := World.block_lt_of_cell? _ _ hx341_0; first | rwa [add_block] at this | exact this) GW340.out); have hn341_1 : ad339.block ≠ gb340 := Nat.ne_of_lt (Nat.lt_of_lt_of_le (by have := World.block_lt_of_cell? _ _ hx341_0; first | rwa [add_block] at this | exact this) GW340.out); replace hx341_0 := (HB.out.cell (World.block_lt_of_cell? w _ hx341_0)).trans hx341_0; replace hx341_1 := (HB.out.cell (World.block_lt_of_cell? w _ hx341_1)).trans hx341_1; replace hx341_0 := (cell_far (p := ⟨gb340, 0, none⟩) (by first | (rw [add_block]; exact hn341_0) | (show (Addr.add _ _).block ≠ _; rw [add_block]; exact hn341_0) | exact hn341_0) (.int .i64 ((rd_T56 l0_0 x8_1).f0))).trans hx341_0; replace hx341_1 := (cell_far (p := ⟨gb340, 0, none⟩) (by first | (rw [add_block]; exact hn341_0) | (show (Addr.add _ _).block ≠ _; rw [add_block]; exact hn341_0) | exact hn341_0) (.int .i64 ((rd_T56 l0_0 x8_1).f0))).trans hx341_1; replace hx341_0 := (cell_far (p := ⟨gb340, 1, none⟩) (by first | (rw [add_block]; exact hn341_1) | (show (Addr.add _ _).block ≠ _; rw [add_block]; exact hn341_1) | exact hn341_1) (.int .i64 ((rd_T56 l0_0 x8_1).f1))).trans hx341_0; replace hx341_1 := (cell_far (p := ⟨gb340, 1, none⟩) (by first | (rw [add_block]; exact hn341_1) | (show (Addr.add _ _).block ≠ _; rw [add_block]; exact hn341_1) | exact hn341_1) (.int .i64 ((rd_T56 l0_0 x8_1).f1))).trans hx341_1; (try have hy341_0 := fun (n_ : Nat) => (show ((((w28.drewN n_).setCell ⟨gb340, 0, none⟩ (.int .i64 ((rd_T56 l0_0 x8_1).f0))).setCell ⟨gb340, 1, none⟩ (.int .i64 ((rd_T56 l0_0 x8_1).f1)))).cell? _ = some _ from hx341_0)); (try have hy341_1 := fun (n_ : Nat) => (show ((((w28.drewN n_).setCell ⟨gb340, 0, none⟩ (.int .i64 ((rd_T56 l0_0 x8_1).f0))).setCell ⟨gb340, 1, none⟩ (.int .i64 ((rd_T56 l0_0 x8_1).f1)))).cell? _ = some _ from hx341_1)); clear hn341_0; clear hn341_1; replace p341 := eq_true p341; replace q341 := eq_true q341)); try go_wp2_with (first | ((with_reducible refine gate_dst (N := 4) rfl ?_); refine box_event ?hg (N := 4) ?hd (cs := #[.int .i64 0, .int .i64 0]) (t := 56) ?hr ?_; (case hd => rfl); (case hg => rfl); (case hr => first | (go_simp; done) | (go_simp; rfl)); intro gb340 hg w28 hbox hb; have n0_ := Aside0.mk (blk_below (g := gb338) (o := .cells #[.slice (some ad339) l0_0.length c0_0] 42 (0, 0)) (by (with_reducible repeat (first | refine blk_drewN ?_ _ | refine blk_drew ?_ | refine blk_alloc ?_ _)); exact BK338.out) hb); have n1_ := Aside0.mk (below_step (by repeat (first | (with_reducible first | exact HB.out | apply below_alloc | apply pw_below_drewN | apply below_drew1 | refine below_set ?_ GE338.out) | exact HB.out)) hb); have n2_ := Aside0.mk (hbox); have n3_ := Aside0.mk ((by rw [hg]; exact (below_size (by repeat (first | (with_reducible first | exact HB.out | apply below_alloc | apply pw_below_drewN | apply below_drew1 | refine below_set ?_ GE338.out) | exact HB.out))) : w.heap.size ≤ gb340)); have n4_ := Aside0.mk ((by rw [hg]; exact (below_size (by repeat (first | (with_reducible first | exact HB.out | apply below_alloc | apply pw_below_drewN | apply below_drew1 | refine below_set ?_ GE338.out) | exact HB.out))) : w.heap.size ≤ gb340)); have n5_ := Aside0.mk ((by rw [hg]; exact Nat.ne_of_lt (blk_lt (g := gb338) (o := .cells #[.slice (some ad339) l0_0.length c0_0] 42 (0, 0)) (by (with_reducible repeat (first | refine blk_drewN ?_ _ | refine blk_drew ?_ | refine blk_alloc ?_ _)); exact BK338.out)) : gb338 ≠ gb340)); have n6_ := Aside0.mk ((by rw [hg]; exact Nat.ne_of_gt (blk_lt (g := gb338) (o := .cells #[.slice (some ad339) l0_0.length c0_0] 42 (0, 0)) (by (with_reducible repeat (first | refine blk_drewN ?_ _ | refine blk_drew ?_ | refine blk_alloc ?_ _)); exact BK338.out)) : gb340 ≠ gb338)); clear BK338; clear HB; have BK338 := n0_; have HB := n1_; have BK340 := n2_; have GW340 := n3_; have GE340 := n4_; have NB338_340 := n5_; have NB340_338 := n6_; clear n0_ n1_ n2_ n3_ n4_ n5_ n6_; clear hb hbox hg; have hnb29 := NB340_338.out; have hnc29 := NB338_340.out; have hcz30_0 : w28.cell? ⟨gb340, 0, none⟩ = some (.int .i64 0) := (blk_cell BK340.out 0).trans rfl; have hcz30_1 : w28.cell? ⟨gb340, 1, none⟩ = some (.int .i64 0) := (blk_cell BK340.out 1).trans rfl; have hfz30_0 := blk_frozen BK340.out 0; have hfz30_1 := blk_frozen BK340.out 1; have hcz31_0 : w28.cell? ⟨gb338, 0, none⟩ = some (.slice (some ad339) l0_0.length c0_0) := (blk_cell BK338.out 0).trans rfl; have hfz31_0 := blk_frozen BK338.out 0; have p341 : 0 ≤ ((ji20) : Int) := of_decide_eq_true (by first | (with_reducible assumption) | assumption); have q341 : (ji20) < (l0_0.length : Int) := of_decide_eq_true (by first | (with_reducible assumption) | assumption); obtain ⟨ad341, e341, hx341_0, hx341_1⟩ := at_T56 HR0_0.out (ji20) p341 q341; obtain rfl : ad339 = ad341 := (by injection e341); have hn341_0 : ad339.block ≠ gb340 := Nat.ne_of_lt (Nat.lt_of_lt_of_le (by have := World.block_lt_of_cell? _ _ hx341_0; first | rwa [add_block] at this | exact this) GW340.out); have hn341_1 : ad339.block ≠ gb340 := Nat.ne_of_lt (Nat.lt_of_lt_of_le (by have := World.block_lt_of_cell? _ _ hx341_0; first | rwa [add_block] at this | exact this) GW340.out); replace hx341_0 := (HB.out.cell (World.block_lt_of_cell? w _ hx341_0)).trans hx341_0; replace hx341_1 := (HB.out.cell (World.block_lt_of_cell? w _ hx341_1)).trans hx341_1; replace hx341_0 := (cell_far (p := ⟨gb340, 0, none⟩) (by first | (rw [add_block]; exact hn341_0) | (show (Addr.add _ _).block ≠ _; rw [add_block]; exact hn341_0) | exact hn341_0) (.int .i64 ((rd_T56 l0_0 x8_1).f0))).trans hx341_0; replace hx341_1 := (cell_far (p := ⟨gb340, 0, none⟩) (by first | (rw [add_block]; exact hn341_0) | (show (Addr.add _ _).block ≠ _; rw [add_block]; exact hn341_0) | exact hn341_0) (.int .i64 ((rd_T56 l0_0 x8_1).f0))).trans hx341_1; replace hx341_0 := (cell_far (p := ⟨gb340, 1, none⟩) (by first | (rw [add_block]; exact hn341_1) | (show (Addr.add _ _).block ≠ _; rw [add_block]; exact hn341_1) | exact hn341_1) (.int .i64 ((rd_T56 l0_0 x8_1).f1))).trans hx341_0; replace hx341_1 := (cell_far (p := ⟨gb340, 1, none⟩) (by first | (rw [add_block]; exact hn341_1) | (show (Addr.add _ _).block ≠ _; rw [add_block]; exact hn341_1) | exact hn341_1) (.int .i64 ((rd_T56 l0_0 x8_1).f1))).trans hx341_1; (try have hy341_0 := fun (n_ : Nat) => (show ((((w28.drewN n_).setCell ⟨gb340, 0, none⟩ (.int .i64 ((rd_T56 l0_0 x8_1).f0))).setCell ⟨gb340, 1, none⟩ (.int .i64 ((rd_T56 l0_0 x8_1).f1)))).cell? _ = some _ from hx341_0)); (try have hy341_1 := fun (n_ : Nat) => (show ((((w28.drewN n_).setCell ⟨gb340, 0, none⟩ (.int .i64 ((rd_T56 l0_0 x8_1).f0))).setCell ⟨gb340, 1, none⟩ (.int .i64 ((rd_T56 l0_0 x8_1).f1)))).cell? _ = some _ from hx341_1)); clear hn341_0; clear hn341_1; replace p341 := eq_true p341; replace q341 := eq_true q341)))
                          go_roundg k1
                          case measure => have := HK1.out; omega
                          case rel => exact ⟨(wrap64 (x8_1 + 1)), (by first | rfl | (simp; done) | (simp [*]; done)), H', ⟨by have := HK1.out; omega⟩, ⟨by (with_reducible repeat (first | refine blk_drewN ?_ _ | refine blk_drew ?_ | refine blk_alloc ?_ _)); refine blk_far ?_ NB338_340.out _; (with_reducible repeat (first | refine blk_drewN ?_ _ | refine blk_drew ?_ | refine blk_alloc ?_ _)); refine blk_far ?_ NB338_340.out _; (with_reducible repeat (first | refine blk_drewN ?_ _ | refine blk_drew ?_ | refine blk_alloc ?_ _)); exact BK338.out⟩, ⟨by repeat (first | (with_reducible first | exact HB.out | apply below_alloc | apply pw_below_drewN | apply below_drew1 | refine below_set ?_ GE338.out | refine below_set ?_ GE340.out) | exact HB.out)⟩⟩
                      · rw [if_neg c22] at H
                        exact absurd H (by simp)
                    · rw [if_neg c21] at H
                      exact absurd H (by simp)
                  · rw [if_neg c19] at H
                    have c19b0 : decide (0 < x8_1) = false := decide_eq_false c19
                    clear c19
                    have H' := Aside0.mk H
                    clear H
                    have p339 : 0 ≤ (x8_1 : Int) := of_decide_eq_true (by first | (with_reducible assumption) | assumption)
                    have q339 : x8_1 < (l0_0.length : Int) := of_decide_eq_true (by first | (with_reducible assumption) | assumption)
                    obtain ⟨ad339, e339, hx339_0, hx339_1⟩ := at_T56 HR0_0.out x8_1 p339 q339
                    cases e339
                    replace hx339_0 := (HB.out.cell (World.block_lt_of_cell? w _ hx339_0)).trans hx339_0
                    replace hx339_1 := (HB.out.cell (World.block_lt_of_cell? w _ hx339_1)).trans hx339_1
                    replace p339 := eq_true p339
                    replace q339 := eq_true q339
                    go_wp2_with (first | ((with_reducible refine gate_dst (N := 4) rfl ?_); refine box_event ?hg (N := 4) ?hd (cs := #[.int .i64 0, .int .i64 0]) (t := 56) ?hr ?_; (case hd => rfl); (case hg => rfl); (case hr => first | (go_simp; done) | (go_simp; rfl)); intro gb340 hg w32 hbox hb; have n0_ := Aside0.mk (blk_below (g := gb338) (o := .cells #[.slice (some ad339) l0_0.length c0_0] 42 (0, 0)) (by (with_reducible repeat (first | refine blk_drewN ?_ _ | refine blk_drew ?_ | refine blk_alloc ?_ _)); exact BK338.out) hb); have n1_ := Aside0.mk (below_step (by repeat (first | (with_reducible first | exact HB.out | apply below_alloc | apply pw_below_drewN | apply below_drew1 | refine below_set ?_ GE338.out) | exact HB.out)) hb); have n2_ := Aside0.mk (hbox); have n3_ := Aside0.mk ((by rw [hg]; exact (below_size (by repeat (first | (with_reducible first | exact HB.out | apply below_alloc | apply pw_below_drewN | apply below_drew1 | refine below_set ?_ GE338.out) | exact HB.out))) : w.heap.size ≤ gb340)); have n4_ := Aside0.mk ((by rw [hg]; exact (below_size (by repeat (first | (with_reducible first | exact HB.out | apply below_alloc | apply pw_below_drewN | apply below_drew1 | refine below_set ?_ GE338.out) | exact HB.out))) : w.heap.size ≤ gb340)); have n5_ := Aside0.mk ((by rw [hg]; exact Nat.ne_of_lt (blk_lt (g := gb338) (o := .cells #[.slice (some ad339) l0_0.length c0_0] 42 (0, 0)) (by (with_reducible repeat (first | refine blk_drewN ?_ _ | refine blk_drew ?_ | refine blk_alloc ?_ _)); exact BK338.out)) : gb338 ≠ gb340)); have n6_ := Aside0.mk ((by rw [hg]; exact Nat.ne_of_gt (blk_lt (g := gb338) (o := .cells #[.slice (some ad339) l0_0.length c0_0] 42 (0, 0)) (by (with_reducible repeat (first | refine blk_drewN ?_ _ | refine blk_drew ?_ | refine blk_alloc ?_ _)); exact BK338.out)) : gb340 ≠ gb338)); clear BK338; clear HB; have BK338 := n0_; have HB := n1_; have BK340 := n2_; have GW340 := n3_; have GE340 := n4_; have NB338_340 := n5_; have NB340_338 := n6_; clear n0_ n1_ n2_ n3_ n4_ n5_ n6_; clear hb hbox hg; have hnb33 := NB340_338.out; have hnc33 := NB338_340.out; have hcz34_0 : w32.cell? ⟨gb340, 0, none⟩ = some (.int .i64 0) := (blk_cell BK340.out 0).trans rfl; have hcz34_1 : w32.cell? ⟨gb340, 1, none⟩ = some (.int .i64 0) := (blk_cell BK340.out 1).trans rfl; have hfz34_0 := blk_frozen BK340.out 0; have hfz34_1 := blk_frozen BK340.out 1))
                    repeat (go_quiet (first | ((with_reducible refine gate_dst (N := 4) rfl ?_); refine box_event ?hg (N := 4) ?hd (cs := #[.int .i64 0, .int .i64 0]) (t := 56) ?hr ?_; (case hd => rfl); (case hg => rfl); (case hr => first | (go_simp; done) | (go_simp; rfl)); intro gb340 hg w32 hbox hb; have n0_ := Aside0.mk (blk_below (g := gb338) (o := .cells #[.slice (some ad339) l0_0.length c0_0] 42 (0, 0)) (by (with_reducible repeat (first | refine blk_drewN ?_ _ | refine blk_drew ?_ | refine blk_alloc ?_ _)); exact BK338.out) hb); have n1_ := Aside0.mk (below_step (by repeat (first | (with_reducible first | exact HB.out | apply below_alloc | apply pw_below_drewN | apply below_drew1 | refine below_set ?_ GE338.out) | exact HB.out)) hb); have n2_ := Aside0.mk (hbox); have n3_ := Aside0.mk ((by rw [hg]; exact (below_size (by repeat (first | (with_reducible first | exact HB.out | apply below_alloc | apply pw_below_drewN | apply below_drew1 | refine below_set ?_ GE338.out) | exact HB.out))) : w.heap.size ≤ gb340)); have n4_ := Aside0.mk ((by rw [hg]; exact (below_size (by repeat (first | (with_reducible first | exact HB.out | apply below_alloc | apply pw_below_drewN | apply below_drew1 | refine below_set ?_ GE338.out) | exact HB.out))) : w.heap.size ≤ gb340)); have n5_ := Aside0.mk ((by rw [hg]; exact Nat.ne_of_lt (blk_lt (g := gb338) (o := .cells #[.slice (some ad339) l0_0.length c0_0] 42 (0, 0)) (by (with_reducible repeat (first | refine blk_drewN ?_ _ | refine blk_drew ?_ | refine blk_alloc ?_ _)); exact BK338.out)) : gb338 ≠ gb340)); have n6_ := Aside0.mk ((by rw [hg]; exact Nat.ne_of_gt (blk_lt (g := gb338) (o := .cells #[.slice (some ad339) l0_0.length c0_0] 42 (0, 0)) (by (with_reducible repeat (first | refine blk_drewN ?_ _ | refine blk_drew ?_ | refine blk_alloc ?_ _)); exact BK338.out)) : gb340 ≠ gb338)); clear BK338; clear HB; have BK338 := n0_; have HB := n1_; have BK340 := n2_; have GW340 := n3_; have GE340 := n4_; have NB338_340 := n5_; have NB340_338 := n6_; clear n0_ n1_ n2_ n3_ n4_ n5_ n6_; clear hb hbox hg; have hnb33 := NB340_338.out; have hnc33 := NB338_340.out; have hcz34_0 : w32.cell? ⟨gb340, 0, none⟩ = some (.int .i64 0) := (blk_cell BK340.out 0).trans rfl; have hcz34_1 : w32.cell? ⟨gb340, 1, none⟩ = some (.int .i64 0) := (blk_cell BK340.out 1).trans rfl; have hfz34_0 := blk_frozen BK340.out 0; have hfz34_1 := blk_frozen BK340.out 1)); try go_wp2_with (first | ((with_reducible refine gate_dst (N := 4) rfl ?_); refine box_event ?hg (N := 4) ?hd (cs := #[.int .i64 0, .int .i64 0]) (t := 56) ?hr ?_; (case hd => rfl); (case hg => rfl); (case hr => first | (go_simp; done) | (go_simp; rfl)); intro gb340 hg w32 hbox hb; have n0_ := Aside0.mk (blk_below (g := gb338) (o := .cells #[.slice (some ad339) l0_0.length c0_0] 42 (0, 0)) (by (with_reducible repeat (first | refine blk_drewN ?_ _ | refine blk_drew ?_ | refine blk_alloc ?_ _)); exact BK338.out) hb); have n1_ := Aside0.mk (below_step (by repeat (first | (with_reducible first | exact HB.out | apply below_alloc | apply pw_below_drewN | apply below_drew1 | refine below_set ?_ GE338.out) | exact HB.out)) hb); have n2_ := Aside0.mk (hbox); have n3_ := Aside0.mk ((by rw [hg]; exact (below_size (by repeat (first | (with_reducible first | exact HB.out | apply below_alloc | apply pw_below_drewN | apply below_drew1 | refine below_set ?_ GE338.out) | exact HB.out))) : w.heap.size ≤ gb340)); have n4_ := Aside0.mk ((by rw [hg]; exact (below_size (by repeat (first | (with_reducible first | exact HB.out | apply below_alloc | apply pw_below_drewN | apply below_drew1 | refine below_set ?_ GE338.out) | exact HB.out))) : w.heap.size ≤ gb340)); have n5_ := Aside0.mk ((by rw [hg]; exact Nat.ne_of_lt (blk_lt (g := gb338) (o := .cells #[.slice (some ad339) l0_0.length c0_0] 42 (0, 0)) (by (with_reducible repeat (first | refine blk_drewN ?_ _ | refine blk_drew ?_ | refine blk_alloc ?_ _)); exact BK338.out)) : gb338 ≠ gb340)); have n6_ := Aside0.mk ((by rw [hg]; exact Nat.ne_of_gt (blk_lt (g := gb338) (o := .cells #[.slice (some ad339) l0_0.length c0_0] 42 (0, 0)) (by (with_reducible repeat (first | refine blk_drewN ?_ _ | refine blk_drew ?_ | refine blk_alloc ?_ _)); exact BK338.out)) : gb340 ≠ gb338)); clear BK338; clear HB; have BK338 := n0_; have HB := n1_; have BK340 := n2_; have GW340 := n3_; have GE340 := n4_; have NB338_340 := n5_; have NB340_338 := n6_; clear n0_ n1_ n2_ n3_ n4_ n5_ n6_; clear hb hbox hg; have hnb33 := NB340_338.out; have hnc33 := NB338_340.out; have hcz34_0 : w32.cell? ⟨gb340, 0, none⟩ = some (.int .i64 0) := (blk_cell BK340.out 0).trans rfl; have hcz34_1 : w32.cell? ⟨gb340, 1, none⟩ = some (.int .i64 0) := (blk_cell BK340.out 1).trans rfl; have hfz34_0 := blk_frozen BK340.out 0; have hfz34_1 := blk_frozen BK340.out 1)))
                    go_roundg k1
                    case measure => have := HK1.out; omega
                    case rel => exact ⟨(wrap64 (x8_1 + 1)), (by first | rfl | (simp; done) | (simp [*]; done)), H', ⟨by have := HK1.out; omega⟩, ⟨by (with_reducible repeat (first | refine blk_drewN ?_ _ | refine blk_drew ?_ | refine blk_alloc ?_ _)); refine blk_far ?_ NB338_340.out _; (with_reducible repeat (first | refine blk_drewN ?_ _ | refine blk_drew ?_ | refine blk_alloc ?_ _)); refine blk_far ?_ NB338_340.out _; (with_reducible repeat (first | refine blk_drewN ?_ _ | refine blk_drew ?_ | refine blk_alloc ?_ _)); exact BK338.out⟩, ⟨by repeat (first | (with_reducible first | exact HB.out | apply below_alloc | apply pw_below_drewN | apply below_drew1 | refine below_set ?_ GE338.out | refine below_set ?_ GE340.out) | exact HB.out)⟩⟩
          · rw [if_neg c6] at H
            exact absurd H (by simp)
        · rw [if_neg c5] at H
          exact absurd H (by simp)
      · rw [if_neg c4] at H
        have c4b0 : decide (x8_1 < (l0_0.length : Int)) = false := decide_eq_false c4
        clear c4
        obtain rfl := Option.some.inj H
        have hcz35_0 : wr.cell? ⟨gb338, 0, none⟩ = some (.slice A0_0 l0_0.length c0_0) := (blk_cell BK338.out 0).trans rfl
        have hfz35_0 := blk_frozen BK338.out 0
        go_wp2
        repeat (go_quiet (fail); try go_wp2)
        go_ret
        exact ⟨by first | rfl | (simp [errW_none, errW_some] <;> rfl) | (simp [*, errW_none, errW_some] <;> rfl), by repeat (first | (with_reducible first | exact HB.out | apply below_alloc | apply pw_below_drewN | apply below_drew1 | refine below_set ?_ GE338.out) | exact HB.out)⟩
end Go.Proofs.Ytbahibaohehojaa.Q
-- YtbahibaohehojaaQf93
namespace Go.Proofs.Ytbahibaohehojaa.Q
open Go.RowKit Go.Proofs.YtbahibaohehojaaW.PrintWords Go.Proofs.YtbahibaohehojaaW.PrintLast Go.Proofs.YtbahibaohehojaaW.PrintMore
attribute [local go_sem] max2_int min2_int max_two min_two max_three min_three max_four min_four
set_option linter.unusedVariables false
set_option linter.unusedSimpArgs false
def soundserviceref09_spans.f (k : Nat) (l0_0 : List (S56)) : Option ((List (S56))) := (soundserviceref09_Valid.f k l0_0).bind fun t361 => (if t361 = true then (some l0_0) else (some ([] : List (S56))))
set_option maxHeartbeats 8000000 in
set_option maxRecDepth 100000 in
theorem soundserviceref09_spans.calls (k : Nat) (P0_0_ : Nat → Prop) (A0_0 : Option Addr) (c0_0 : Nat) (l0_0 : List (S56)) (r : List (S56)) (w : World) (hs0_0 : Kd.V k56 56 w w.heap.size (fun k_ => P0_0_ k_) (.slice A0_0 l0_0.length c0_0) l0_0) (h : soundserviceref09_spans.f k l0_0 = some r) :
    Calls Try.prog 93 #[.agg #[.slice A0_0 l0_0.length c0_0]] w fun e w' => ∃ v0_ : Value, e = .returned (v0_) ∧ Kd.V k56 56 w' w.heap.size (fun k_ => (P0_0_ k_ ∨ w.heap.size ≤ k_)) v0_ r ∧ Below w.heap.size w w' := by
  have hu42 := Try.underlying42
  have HO0_0 := Aside0.mk (show Kd.V k56 56 w w.heap.size (fun k_ => (P0_0_ k_ ∨ w.heap.size ≤ k_)) (.slice A0_0 l0_0.length c0_0) l0_0 from Kd.V_mono hs0_0 (fun k_ hk => .inl hk))
  have HB := Aside0.mk (Below.refl w.heap.size w)
  have H : ((soundserviceref09_Valid.f k l0_0).bind fun t361 => (if t361 = true then (some l0_0) else (some ([] : List (S56))))) = some r := h
  clear h
  replace H := Option.bind_eq_some_iff.mp H
  obtain ⟨t361, A20, H⟩ := H
  replace H : (if t361 = true then (some l0_0) else (some ([] : List (S56)))) = some r := H
  have A2 := Aside0.mk A20
  clear A20
  by_cases c3 : t361 = true
  · subst c3
    have H1 : (some l0_0) = some r := by rw [if_pos rfl] at H; exact H
    clear H
    have H := H1
    clear H1
    obtain rfl := Option.some.inj H
    go_enter Try.func93, Try.ntmps93
    go_wp2_with (first | ((with_reducible refine gate_dst (N := 1) rfl ?_); refine box_event ?hg (N := 1) ?hd (cs := #[.slice A0_0 l0_0.length c0_0]) (t := 42) ?hr ?_; (case hd => rfl); (case hg => rfl); (case hr => first | (go_simp; done) | (go_simp; rfl)); intro gb360 hg w4 hbox hb; have n0_ := Aside0.mk (Kd.V_below (Kd.V_elderB (by (with_reducible repeat (first | apply Kd.V_alloc | apply Kd.V_drewN | apply Kd.V_drew)); exact HO0_0.out) gb360 (Nat.le_of_eq hg.symm)) hb); have n1_ := Aside0.mk (below_step (by repeat (first | (with_reducible first | exact HB.out | apply below_alloc | apply pw_below_drewN | apply below_drew1) | exact HB.out)) hb); have n2_ := Aside0.mk (hbox); have n3_ := Aside0.mk ((by rw [hg]; exact (below_size (by repeat (first | (with_reducible first | exact HB.out | apply below_alloc | apply pw_below_drewN | apply below_drew1) | exact HB.out))) : w.heap.size ≤ gb360)); have n4_ := Aside0.mk ((by rw [hg]; exact (below_size (by repeat (first | (with_reducible first | exact HB.out | apply below_alloc | apply pw_below_drewN | apply below_drew1) | exact HB.out))) : w.heap.size ≤ gb360)); clear HO0_0; clear HB; have HO0_0 := n0_; have HB := n1_; have BK360 := n2_; have GW360 := n3_; have GE360 := n4_; clear n0_ n1_ n2_ n3_ n4_; clear hb hbox hg; have hcz5_0 : w4.cell? ⟨gb360, 0, none⟩ = some (.slice A0_0 l0_0.length c0_0) := (blk_cell BK360.out 0).trans rfl; have hfz5_0 := blk_frozen BK360.out 0) | ((with_reducible refine gate_callee (f := 31) rfl ?_); refine goesL_ (some 4) rfl rfl Try.func31 (by kernel_rfl) rfl #[.agg #[.slice A0_0 l0_0.length c0_0]] rfl (by (try simp only [List.map_toArray, List.map_cons, List.map_nil]); first | done | rfl | (simp only [List.length_drop, List.length_take]; rfl)) ?_; (with_reducible refine (soundserviceref09_Valid.calls k _ _ l0_0 true _ ?side1 ?side2 A2.out).mono ?_); (case side1 => repeat (first | exact (Kd.V_reads' HO0_0.out).2.2 | (with_reducible refine Kd.C_alloc ?_ _) | (with_reducible refine Kd.C_drewN ?_ _) | (with_reducible refine Kd.C_drew ?_))); (case side2 => exact (Kd.V_reads' HO0_0.out).2.1); rintro e w6 ⟨rfl, hb⟩; refine ⟨_, rfl, ?_⟩; have n0_ := Aside0.mk (Kd.V_below (by (with_reducible repeat (first | apply Kd.V_alloc | apply Kd.V_drewN | apply Kd.V_drew)); exact HO0_0.out) hb); have n1_ := Aside0.mk (blk_below (g := gb360) (o := .cells #[.slice A0_0 l0_0.length c0_0] 42 (0, 0)) (by (with_reducible repeat (first | refine blk_drewN ?_ _ | refine blk_drew ?_ | refine blk_alloc ?_ _)); exact BK360.out) hb); have n2_ := Aside0.mk (below_step (by repeat (first | (with_reducible first | exact HB.out | apply below_alloc | apply pw_below_drewN | apply below_drew1 | refine below_set ?_ GE360.out) | exact HB.out)) hb); clear HO0_0; clear BK360; clear HB; have HO0_0 := n0_; have BK360 := n1_; have HB := n2_; clear n0_ n1_ n2_; (try clear hb); (try clear hb2); (try clear hk); (try clear hi); have hcz7_0 : w6.cell? ⟨gb360, 0, none⟩ = some (.slice A0_0 l0_0.length c0_0) := (blk_cell BK360.out 0).trans rfl; have hfz7_0 := blk_frozen BK360.out 0))
    go_ret
    exact ⟨_, by first | rfl | (simp [errW_none, errW_some] <;> rfl) | (simp [*, errW_none, errW_some] <;> rfl), by (with_reducible repeat (first | apply Kd.V_alloc | apply Kd.V_drewN | apply Kd.V_drew)); exact Kd.V_mono HO0_0.out (fun _ hk => hk.1), by repeat (first | (with_reducible first | exact HB.out | apply below_alloc | apply pw_below_drewN | apply below_drew1 | refine below_set ?_ GE360.out) | exact HB.out)⟩
  · replace c3 := Bool.eq_false_iff.mpr c3
    subst c3
    have H1 : (some ([] : List (S56))) = some r := by rw [if_neg (show ¬ (false = true) by decide)] at H; exact H
    clear H
    have H := H1
    clear H1
    obtain rfl := Option.some.inj H
    go_enter Try.func93, Try.ntmps93
    go_wp2_with (first | ((with_reducible refine gate_dst (N := 1) rfl ?_); refine box_event ?hg (N := 1) ?hd (cs := #[.slice A0_0 l0_0.length c0_0]) (t := 42) ?hr ?_; (case hd => rfl); (case hg => rfl); (case hr => first | (go_simp; done) | (go_simp; rfl)); intro gb360 hg w8 hbox hb; have n0_ := Aside0.mk (Kd.V_below (Kd.V_elderB (by (with_reducible repeat (first | apply Kd.V_alloc | apply Kd.V_drewN | apply Kd.V_drew)); exact HO0_0.out) gb360 (Nat.le_of_eq hg.symm)) hb); have n1_ := Aside0.mk (below_step (by repeat (first | (with_reducible first | exact HB.out | apply below_alloc | apply pw_below_drewN | apply below_drew1) | exact HB.out)) hb); have n2_ := Aside0.mk (hbox); have n3_ := Aside0.mk ((by rw [hg]; exact (below_size (by repeat (first | (with_reducible first | exact HB.out | apply below_alloc | apply pw_below_drewN | apply below_drew1) | exact HB.out))) : w.heap.size ≤ gb360)); have n4_ := Aside0.mk ((by rw [hg]; exact (below_size (by repeat (first | (with_reducible first | exact HB.out | apply below_alloc | apply pw_below_drewN | apply below_drew1) | exact HB.out))) : w.heap.size ≤ gb360)); clear HO0_0; clear HB; have HO0_0 := n0_; have HB := n1_; have BK360 := n2_; have GW360 := n3_; have GE360 := n4_; clear n0_ n1_ n2_ n3_ n4_; clear hb hbox hg; have hcz9_0 : w8.cell? ⟨gb360, 0, none⟩ = some (.slice A0_0 l0_0.length c0_0) := (blk_cell BK360.out 0).trans rfl; have hfz9_0 := blk_frozen BK360.out 0) | ((with_reducible refine gate_callee (f := 31) rfl ?_); refine goesL_ (some 4) rfl rfl Try.func31 (by kernel_rfl) rfl #[.agg #[.slice A0_0 l0_0.length c0_0]] rfl (by (try simp only [List.map_toArray, List.map_cons, List.map_nil]); first | done | rfl | (simp only [List.length_drop, List.length_take]; rfl)) ?_; (with_reducible refine (soundserviceref09_Valid.calls k _ _ l0_0 false _ ?side1 ?side2 A2.out).mono ?_); (case side1 => repeat (first | exact (Kd.V_reads' HO0_0.out).2.2 | (with_reducible refine Kd.C_alloc ?_ _) | (with_reducible refine Kd.C_drewN ?_ _) | (with_reducible refine Kd.C_drew ?_))); (case side2 => exact (Kd.V_reads' HO0_0.out).2.1); rintro e w10 ⟨rfl, hb⟩; refine ⟨_, rfl, ?_⟩; have n0_ := Aside0.mk (Kd.V_below (by (with_reducible repeat (first | apply Kd.V_alloc | apply Kd.V_drewN | apply Kd.V_drew)); exact HO0_0.out) hb); have n1_ := Aside0.mk (blk_below (g := gb360) (o := .cells #[.slice A0_0 l0_0.length c0_0] 42 (0, 0)) (by (with_reducible repeat (first | refine blk_drewN ?_ _ | refine blk_drew ?_ | refine blk_alloc ?_ _)); exact BK360.out) hb); have n2_ := Aside0.mk (below_step (by repeat (first | (with_reducible first | exact HB.out | apply below_alloc | apply pw_below_drewN | apply below_drew1 | refine below_set ?_ GE360.out) | exact HB.out)) hb); clear HO0_0; clear BK360; clear HB; have HO0_0 := n0_; have BK360 := n1_; have HB := n2_; clear n0_ n1_ n2_; (try clear hb); (try clear hb2); (try clear hk); (try clear hi)))
    go_ret
    exact ⟨_, by first | rfl | (simp [errW_none, errW_some] <;> rfl) | (simp [*, errW_none, errW_some] <;> rfl), by first | exact Kd.V_nil _ _ _ _ _ | (show Kd.V _ _ _ _ _ (Value.slice none 0 0) []; exact Kd.V_nil _ _ _ _ _), by repeat (first | (with_reducible first | exact HB.out | apply below_alloc | apply pw_below_drewN | apply below_drew1 | refine below_set ?_ GE360.out) | exact HB.out)⟩
end Go.Proofs.Ytbahibaohehojaa.Q
-- YtbahibaohehojaaQf33
namespace Go.Proofs.Ytbahibaohehojaa.Q
open Go.RowKit Go.Proofs.YtbahibaohehojaaW.PrintWords Go.Proofs.YtbahibaohehojaaW.PrintLast Go.Proofs.YtbahibaohehojaaW.PrintMore
attribute [local go_sem] max2_int min2_int max_two min_two max_three min_three max_four min_four
set_option linter.unusedVariables false
set_option linter.unusedSimpArgs false
def soundserviceref09_Has.l0 : Nat → Int → List (S56) → Int → Int → Option (Bool)
  | 0, _, _, _, _ => none
  | k + 1, x1, x8, x9, x10 => if x10 < x9 then (if 0 ≤ x10 then (if x10 < (x8.length : Int) then (if ((rd_T56 x8 x10).f0) ≤ x1 then (if x1 ≤ ((rd_T56 x8 x10).f1) then (some true) else (soundserviceref09_Has.l0 k x1 x8 x9 (wrap64 (x10 + 1)))) else (soundserviceref09_Has.l0 k x1 x8 x9 (wrap64 (x10 + 1)))) else (none)) else (none)) else (some false)
def soundserviceref09_Has.f (k : Nat) (l0_0 : List (S56)) (a1 : Int) : Option (Bool) := (soundserviceref09_spans.f k l0_0).bind fun t635 => (soundserviceref09_Has.l0 k a1 t635 (t635.length : Int) 0)
set_option maxHeartbeats 8000000 in
set_option maxRecDepth 100000 in
theorem soundserviceref09_Has.calls (k : Nat) (A0_0 : Option Addr) (c0_0 : Nat) (l0_0 : List (S56)) (a1 : Int) (r : Bool) (w : World) (hr0_0 : Kd.C k56 w A0_0 l0_0.length l0_0) (hc0_0 : l0_0.length ≤ c0_0) (h : soundserviceref09_Has.f k l0_0 a1 = some r) :
    Calls Try.prog 33 #[.agg #[.slice A0_0 l0_0.length c0_0], .int .i64 a1] w fun e w' => e = .returned (.bool r) ∧ Below w.heap.size w w' := by
  have hu42 := Try.underlying42
  have hu56 := Try.underlying56
  have HR0_0 := Aside0.mk hr0_0
  have HC0_0 := Aside0.mk hc0_0
  clear hr0_0 hc0_0
  have HB := Aside0.mk (Below.refl w.heap.size w)
  have H : ((soundserviceref09_spans.f k l0_0).bind fun t635 => (soundserviceref09_Has.l0 k a1 t635 (t635.length : Int) 0)) = some r := h
  clear h
  replace H := Option.bind_eq_some_iff.mp H
  obtain ⟨t635, A30, H⟩ := H
  replace H : (soundserviceref09_Has.l0 k a1 t635 (t635.length : Int) 0) = some r := H
  have A3 := Aside0.mk A30
  clear A30
  have H' := Aside0.mk H
  clear H
  go_enter Try.func33, Try.ntmps33
  go_wp2_with (first | ((with_reducible refine gate_dst (N := 2) rfl ?_); refine box_event ?hg (N := 2) ?hd (cs := #[.slice A0_0 l0_0.length c0_0]) (t := 42) ?hr ?_; (case hd => rfl); (case hg => rfl); (case hr => first | (go_simp; done) | (go_simp; rfl)); intro gb634 hg w4 hbox hb; have n0_ := Aside0.mk (below_step (by repeat (first | (with_reducible first | exact HB.out | apply below_alloc | apply pw_below_drewN | apply below_drew1) | exact HB.out)) hb); have n1_ := Aside0.mk (hbox); have n2_ := Aside0.mk ((by rw [hg]; exact (below_size (by repeat (first | (with_reducible first | exact HB.out | apply below_alloc | apply pw_below_drewN | apply below_drew1) | exact HB.out))) : w.heap.size ≤ gb634)); have n3_ := Aside0.mk ((by rw [hg]; exact (below_size (by repeat (first | (with_reducible first | exact HB.out | apply below_alloc | apply pw_below_drewN | apply below_drew1) | exact HB.out))) : w.heap.size ≤ gb634)); clear HB; have HB := n0_; have BK634 := n1_; have GW634 := n2_; have GE634 := n3_; clear n0_ n1_ n2_ n3_; clear hb hbox hg; have hcz5_0 : w4.cell? ⟨gb634, 0, none⟩ = some (.slice A0_0 l0_0.length c0_0) := (blk_cell BK634.out 0).trans rfl; have hfz5_0 := blk_frozen BK634.out 0) | ((with_reducible refine gate_callee (f := 93) rfl ?_); refine goesL_ (some 8) rfl rfl Try.func93 (by kernel_rfl) rfl #[.agg #[.slice A0_0 l0_0.length c0_0]] rfl (by (try simp only [List.map_toArray, List.map_cons, List.map_nil]); first | done | rfl | (simp only [List.length_drop, List.length_take]; rfl)) ?_; (with_reducible refine (soundserviceref09_spans.calls k (fun k_ => k_ < w.heap.size) _ _ l0_0 t635 _ ?side1 A3.out).mono ?_); (case side1 => exact Kd.V_mk HC0_0.out (Kd.F_below (Kd.C_F k56_heap HR0_0.out) (by repeat (first | (with_reducible first | exact HB.out | apply below_alloc | apply pw_below_drewN | apply below_drew1 | refine below_set ?_ GE634.out) | exact HB.out)))); rintro e w6 ⟨v636, rfl, ho0, hb⟩; refine ⟨_, rfl, ?_⟩; have n0_ := Aside0.mk (Kd.V_lower (Kd.V_mono (ok' := fun k_ => k_ ≠ gb634) ho0 (fun k_ hk_ => Or.elim hk_ (fun hs_ => fun e_ => Nat.not_le.2 hs_ (by rw [e_]; exact GW634.out)) (fun hn_ => (Kd.freshB (g := gb634) (o := .cells #[.slice A0_0 l0_0.length c0_0] 42 (0, 0)) (by (with_reducible repeat (first | refine blk_drewN ?_ _ | refine blk_drew ?_ | refine blk_alloc ?_ _)); exact BK634.out) k_ hn_)))) (below_size (by repeat (first | (with_reducible first | exact HB.out | apply below_alloc | apply pw_below_drewN | apply below_drew1 | refine below_set ?_ GE634.out) | exact HB.out)))); have n1_ := Aside0.mk (blk_below (g := gb634) (o := .cells #[.slice A0_0 l0_0.length c0_0] 42 (0, 0)) (by (with_reducible repeat (first | refine blk_drewN ?_ _ | refine blk_drew ?_ | refine blk_alloc ?_ _)); exact BK634.out) hb); have n2_ := Aside0.mk (below_step (by repeat (first | (with_reducible first | exact HB.out | apply below_alloc | apply pw_below_drewN | apply below_drew1 | refine below_set ?_ GE634.out) | exact HB.out)) hb); clear BK634; clear HB; have HO637 := n0_; have BK634 := n1_; have HB := n2_; clear n0_ n1_ n2_; (try clear hb); (try clear hb2); (try clear hk); (try clear hi); (try clear ho0); obtain ⟨Ao7, co7, eo7⟩ := Kd.V_slice HO637.out; subst eo7))
  go_loopg [10] k (fun kq v10 w' => ∃ (x10_1 : Int), v10 = .int .i64 x10_1 ∧ Aside0 (soundserviceref09_Has.l0 kq a1 t635 (t635.length : Int) x10_1 = some r) ∧ Aside0 (kq ≤ k) ∧ Aside0 (Kd.V k56 56 w' w.heap.size (fun k_ => k_ ≠ gb634) (.slice Ao7 t635.length co7) t635) ∧ Aside0 (w'.heap[gb634]? = some (.cells #[(.slice A0_0 l0_0.length c0_0)] 42 (0, 0))) ∧ Aside0 (Below w.heap.size w w'))
  case atStart => exact ⟨(0), (by first | rfl | (simp; done) | (simp [*]; done)), H', ⟨Nat.le_refl _⟩, ⟨by (with_reducible repeat (first | apply Kd.V_alloc | apply Kd.V_drewN | apply Kd.V_drew)); exact HO637.out⟩, ⟨by (with_reducible repeat (first | refine blk_drewN ?_ _ | refine blk_drew ?_ | refine blk_alloc ?_ _)); exact BK634.out⟩, ⟨by repeat (first | (with_reducible first | exact HB.out | apply below_alloc | apply pw_below_drewN | apply below_drew1 | refine below_set ?_ GE634.out) | exact HB.out)⟩⟩
  case round =>
    clear H'
    try clear p2
    try clear c3
    try clear hcz5_0
    try clear hfz5_0
    obtain ⟨x10_1, rfl, HA, HK1, HO_8, BK634, HB⟩ := hrel
    cases gk with
    | zero => exact absurd HA.out (by simp [soundserviceref09_Has.l0])
    | succ k1 =>
      have H := HA.out
      clear HA
      simp only [soundserviceref09_Has.l0] at H
      by_cases c8 : x10_1 < (t635.length : Int)
      · rw [if_pos c8] at H
        have c8b0 : decide (x10_1 < (t635.length : Int)) = true := decide_eq_true c8
        clear c8
        by_cases c9 : 0 ≤ x10_1
        · rw [if_pos c9] at H
          have c9b0 : decide (0 ≤ x10_1) = true := decide_eq_true c9
          clear c9
          by_cases c10 : x10_1 < (t635.length : Int)
          · rw [if_pos c10] at H
            have c10b0 : decide (x10_1 < (t635.length : Int)) = true := decide_eq_true c10
            clear c10
            by_cases c11 : ((rd_T56 t635 x10_1).f0) ≤ a1
            · rw [if_pos c11] at H
              have c11b0 : decide (((rd_T56 t635 x10_1).f0) ≤ a1) = true := decide_eq_true c11
              clear c11
              by_cases c12 : a1 ≤ ((rd_T56 t635 x10_1).f1)
              · rw [if_pos c12] at H
                have c12b0 : decide (a1 ≤ ((rd_T56 t635 x10_1).f1)) = true := decide_eq_true c12
                clear c12
                obtain rfl := Option.some.inj H
                have p638 : 0 ≤ (x10_1 : Int) := of_decide_eq_true (by first | (with_reducible assumption) | assumption)
                have q638 : x10_1 < (t635.length : Int) := of_decide_eq_true (by first | (with_reducible assumption) | assumption)
                obtain ⟨ad638, e638, hx638_0, hx638_1⟩ := at_T56 (Kd.V_reads' HO_8.out).2.2 x10_1 p638 q638
                cases e638
                replace p638 := eq_true p638
                replace q638 := eq_true q638
                go_wp2_with (first | ((with_reducible refine gate_dst (N := 6) rfl ?_); refine box_event ?hg (N := 6) ?hd (cs := #[.int .i64 0, .int .i64 0]) (t := 56) ?hr ?_; (case hd => rfl); (case hg => rfl); (case hr => first | (go_simp; done) | (go_simp; rfl)); intro gb639 hg w13 hbox hb; have n0_ := Aside0.mk (Kd.V_below (Kd.V_elderB (by (with_reducible repeat (first | apply Kd.V_alloc | apply Kd.V_drewN | apply Kd.V_drew)); exact HO_8.out) gb639 (Nat.le_of_eq hg.symm)) hb); have n1_ := Aside0.mk (blk_below (g := gb634) (o := .cells #[.slice A0_0 l0_0.length c0_0] 42 (0, 0)) (by (with_reducible repeat (first | refine blk_drewN ?_ _ | refine blk_drew ?_ | refine blk_alloc ?_ _)); exact BK634.out) hb); have n2_ := Aside0.mk (below_step (by repeat (first | (with_reducible first | exact HB.out | apply below_alloc | apply pw_below_drewN | apply below_drew1 | refine below_set ?_ GE634.out) | exact HB.out)) hb); have n3_ := Aside0.mk (hbox); have n4_ := Aside0.mk ((by rw [hg]; exact (below_size (by repeat (first | (with_reducible first | exact HB.out | apply below_alloc | apply pw_below_drewN | apply below_drew1 | refine below_set ?_ GE634.out) | exact HB.out))) : w.heap.size ≤ gb639)); have n5_ := Aside0.mk ((by rw [hg]; exact (below_size (by repeat (first | (with_reducible first | exact HB.out | apply below_alloc | apply pw_below_drewN | apply below_drew1 | refine below_set ?_ GE634.out) | exact HB.out))) : w.heap.size ≤ gb639)); have n6_ := Aside0.mk ((by rw [hg]; exact Nat.ne_of_lt (blk_lt (g := gb634) (o := .cells #[.slice A0_0 l0_0.length c0_0] 42 (0, 0)) (by (with_reducible repeat (first | refine blk_drewN ?_ _ | refine blk_drew ?_ | refine blk_alloc ?_ _)); exact BK634.out)) : gb634 ≠ gb639)); have n7_ := Aside0.mk ((by rw [hg]; exact Nat.ne_of_gt (blk_lt (g := gb634) (o := .cells #[.slice A0_0 l0_0.length c0_0] 42 (0, 0)) (by (with_reducible repeat (first | refine blk_drewN ?_ _ | refine blk_drew ?_ | refine blk_alloc ?_ _)); exact BK634.out)) : gb639 ≠ gb634)); clear HO_8; clear BK634; clear HB; have HO_8 := n0_; have BK634 := n1_; have HB := n2_; have BK639 := n3_; have GW639 := n4_; have GE639 := n5_; have NB634_639 := n6_; have NB639_634 := n7_; clear n0_ n1_ n2_ n3_ n4_ n5_ n6_ n7_; clear hb hbox hg; have hnb14 := NB639_634.out; have hnc14 := NB634_639.out; have hcz15_0 : w13.cell? ⟨gb639, 0, none⟩ = some (.int .i64 0) := (blk_cell BK639.out 0).trans rfl; have hcz15_1 : w13.cell? ⟨gb639, 1, none⟩ = some (.int .i64 0) := (blk_cell BK639.out 1).trans rfl; have hfz15_0 := blk_frozen BK639.out 0; have hfz15_1 := blk_frozen BK639.out 1))
                go_ret
                exact ⟨by first | rfl | (simp [errW_none, errW_some] <;> rfl) | (simp [*, errW_none, errW_some] <;> rfl), by repeat (first | (with_reducible first | exact HB.out | apply below_alloc | apply pw_below_drewN | apply below_drew1 | refine below_set ?_ GE634.out | refine below_set ?_ GE639.out) | exact HB.out)⟩
              · rw [if_neg c12] at H
                have c12b0 : decide (a1 ≤ ((rd_T56 t635 x10_1).f1)) = false := decide_eq_false c12
                clear c12
                have H' := Aside0.mk H
                clear H
                have p638 : 0 ≤ (x10_1 : Int) := of_decide_eq_true (by first | (with_reducible assumption) | assumption)
                have q638 : x10_1 < (t635.length : Int) := of_decide_eq_true (by first | (with_reducible assumption) | assumption)
                obtain ⟨ad638, e638, hx638_0, hx638_1⟩ := at_T56 (Kd.V_reads' HO_8.out).2.2 x10_1 p638 q638
                cases e638
                replace p638 := eq_true p638
                replace q638 := eq_true q638
                go_wp2_with (first | ((with_reducible refine gate_dst (N := 6) rfl ?_); refine box_event ?hg (N := 6) ?hd (cs := #[.int .i64 0, .int .i64 0]) (t := 56) ?hr ?_; (case hd => rfl); (case hg => rfl); (case hr => first | (go_simp; done) | (go_simp; rfl)); intro gb639 hg w16 hbox hb; have n0_ := Aside0.mk (Kd.V_below (Kd.V_elderB (by (with_reducible repeat (first | apply Kd.V_alloc | apply Kd.V_drewN | apply Kd.V_drew)); exact HO_8.out) gb639 (Nat.le_of_eq hg.symm)) hb); have n1_ := Aside0.mk (blk_below (g := gb634) (o := .cells #[.slice A0_0 l0_0.length c0_0] 42 (0, 0)) (by (with_reducible repeat (first | refine blk_drewN ?_ _ | refine blk_drew ?_ | refine blk_alloc ?_ _)); exact BK634.out) hb); have n2_ := Aside0.mk (below_step (by repeat (first | (with_reducible first | exact HB.out | apply below_alloc | apply pw_below_drewN | apply below_drew1 | refine below_set ?_ GE634.out) | exact HB.out)) hb); have n3_ := Aside0.mk (hbox); have n4_ := Aside0.mk ((by rw [hg]; exact (below_size (by repeat (first | (with_reducible first | exact HB.out | apply below_alloc | apply pw_below_drewN | apply below_drew1 | refine below_set ?_ GE634.out) | exact HB.out))) : w.heap.size ≤ gb639)); have n5_ := Aside0.mk ((by rw [hg]; exact (below_size (by repeat (first | (with_reducible first | exact HB.out | apply below_alloc | apply pw_below_drewN | apply below_drew1 | refine below_set ?_ GE634.out) | exact HB.out))) : w.heap.size ≤ gb639)); have n6_ := Aside0.mk ((by rw [hg]; exact Nat.ne_of_lt (blk_lt (g := gb634) (o := .cells #[.slice A0_0 l0_0.length c0_0] 42 (0, 0)) (by (with_reducible repeat (first | refine blk_drewN ?_ _ | refine blk_drew ?_ | refine blk_alloc ?_ _)); exact BK634.out)) : gb634 ≠ gb639)); have n7_ := Aside0.mk ((by rw [hg]; exact Nat.ne_of_gt (blk_lt (g := gb634) (o := .cells #[.slice A0_0 l0_0.length c0_0] 42 (0, 0)) (by (with_reducible repeat (first | refine blk_drewN ?_ _ | refine blk_drew ?_ | refine blk_alloc ?_ _)); exact BK634.out)) : gb639 ≠ gb634)); clear HO_8; clear BK634; clear HB; have HO_8 := n0_; have BK634 := n1_; have HB := n2_; have BK639 := n3_; have GW639 := n4_; have GE639 := n5_; have NB634_639 := n6_; have NB639_634 := n7_; clear n0_ n1_ n2_ n3_ n4_ n5_ n6_ n7_; clear hb hbox hg; have hnb17 := NB639_634.out; have hnc17 := NB634_639.out; have hcz18_0 : w16.cell? ⟨gb639, 0, none⟩ = some (.int .i64 0) := (blk_cell BK639.out 0).trans rfl; have hcz18_1 : w16.cell? ⟨gb639, 1, none⟩ = some (.int .i64 0) := (blk_cell BK639.out 1).trans rfl; have hfz18_0 := blk_frozen BK639.out 0; have hfz18_1 := blk_frozen BK639.out 1))
                go_roundg k1
                case measure => have := HK1.out; omega
                case rel => exact ⟨(wrap64 (x10_1 + 1)), (by first | rfl | (simp; done) | (simp [*]; done)), H', ⟨by have := HK1.out; omega⟩, ⟨by (with_reducible repeat (first | apply Kd.V_alloc | apply Kd.V_drewN | apply Kd.V_drew)); exact Kd.V_mono (Kd.V_far (p := ⟨gb639, 1, none⟩) (Kd.V_far (p := ⟨gb639, 0, none⟩) (Kd.V_mono HO_8.out (fun k_ hk => (⟨hk, hk.2⟩ : _ ∧ k_ ≠ gb639))) (fun _ hk => hk.2) (.int .i64 ((rd_T56 t635 x10_1).f0))) (fun _ hk => hk.2) (.int .i64 ((rd_T56 t635 x10_1).f1))) (fun _ hk => hk.1.1)⟩, ⟨by (with_reducible repeat (first | refine blk_drewN ?_ _ | refine blk_drew ?_ | refine blk_alloc ?_ _)); refine blk_far ?_ NB634_639.out _; (with_reducible repeat (first | refine blk_drewN ?_ _ | refine blk_drew ?_ | refine blk_alloc ?_ _)); refine blk_far ?_ NB634_639.out _; (with_reducible repeat (first | refine blk_drewN ?_ _ | refine blk_drew ?_ | refine blk_alloc ?_ _)); exact BK634.out⟩, ⟨by repeat (first | (with_reducible first | exact HB.out | apply below_alloc | apply pw_below_drewN | apply below_drew1 | refine below_set ?_ GE634.out | refine below_set ?_ GE639.out) | exact HB.out)⟩⟩
            · rw [if_neg c11] at H
              have c11b0 : decide (((rd_T56 t635 x10_1).f0) ≤ a1) = false := decide_eq_false c11
              clear c11
              have H' := Aside0.mk H
              clear H
              have p638 : 0 ≤ (x10_1 : Int) := of_decide_eq_true (by first | (with_reducible assumption) | assumption)
              have q638 : x10_1 < (t635.length : Int) := of_decide_eq_true (by first | (with_reducible assumption) | assumption)
              obtain ⟨ad638, e638, hx638_0, hx638_1⟩ := at_T56 (Kd.V_reads' HO_8.out).2.2 x10_1 p638 q638
              cases e638
              replace p638 := eq_true p638
              replace q638 := eq_true q638
              go_wp2_with (first | ((with_reducible refine gate_dst (N := 6) rfl ?_); refine box_event ?hg (N := 6) ?hd (cs := #[.int .i64 0, .int .i64 0]) (t := 56) ?hr ?_; (case hd => rfl); (case hg => rfl); (case hr => first | (go_simp; done) | (go_simp; rfl)); intro gb639 hg w19 hbox hb; have n0_ := Aside0.mk (Kd.V_below (Kd.V_elderB (by (with_reducible repeat (first | apply Kd.V_alloc | apply Kd.V_drewN | apply Kd.V_drew)); exact HO_8.out) gb639 (Nat.le_of_eq hg.symm)) hb); have n1_ := Aside0.mk (blk_below (g := gb634) (o := .cells #[.slice A0_0 l0_0.length c0_0] 42 (0, 0)) (by (with_reducible repeat (first | refine blk_drewN ?_ _ | refine blk_drew ?_ | refine blk_alloc ?_ _)); exact BK634.out) hb); have n2_ := Aside0.mk (below_step (by repeat (first | (with_reducible first | exact HB.out | apply below_alloc | apply pw_below_drewN | apply below_drew1 | refine below_set ?_ GE634.out) | exact HB.out)) hb); have n3_ := Aside0.mk (hbox); have n4_ := Aside0.mk ((by rw [hg]; exact (below_size (by repeat (first | (with_reducible first | exact HB.out | apply below_alloc | apply pw_below_drewN | apply below_drew1 | refine below_set ?_ GE634.out) | exact HB.out))) : w.heap.size ≤ gb639)); have n5_ := Aside0.mk ((by rw [hg]; exact (below_size (by repeat (first | (with_reducible first | exact HB.out | apply below_alloc | apply pw_below_drewN | apply below_drew1 | refine below_set ?_ GE634.out) | exact HB.out))) : w.heap.size ≤ gb639)); have n6_ := Aside0.mk ((by rw [hg]; exact Nat.ne_of_lt (blk_lt (g := gb634) (o := .cells #[.slice A0_0 l0_0.length c0_0] 42 (0, 0)) (by (with_reducible repeat (first | refine blk_drewN ?_ _ | refine blk_drew ?_ | refine blk_alloc ?_ _)); exact BK634.out)) : gb634 ≠ gb639)); have n7_ := Aside0.mk ((by rw [hg]; exact Nat.ne_of_gt (blk_lt (g := gb634) (o := .cells #[.slice A0_0 l0_0.length c0_0] 42 (0, 0)) (by (with_reducible repeat (first | refine blk_drewN ?_ _ | refine blk_drew ?_ | refine blk_alloc ?_ _)); exact BK634.out)) : gb639 ≠ gb634)); clear HO_8; clear BK634; clear HB; have HO_8 := n0_; have BK634 := n1_; have HB := n2_; have BK639 := n3_; have GW639 := n4_; have GE639 := n5_; have NB634_639 := n6_; have NB639_634 := n7_; clear n0_ n1_ n2_ n3_ n4_ n5_ n6_ n7_; clear hb hbox hg; have hnb20 := NB639_634.out; have hnc20 := NB634_639.out; have hcz21_0 : w19.cell? ⟨gb639, 0, none⟩ = some (.int .i64 0) := (blk_cell BK639.out 0).trans rfl; have hcz21_1 : w19.cell? ⟨gb639, 1, none⟩ = some (.int .i64 0) := (blk_cell BK639.out 1).trans rfl; have hfz21_0 := blk_frozen BK639.out 0; have hfz21_1 := blk_frozen BK639.out 1))
              go_roundg k1
              case measure => have := HK1.out; omega
              case rel => exact ⟨(wrap64 (x10_1 + 1)), (by first | rfl | (simp; done) | (simp [*]; done)), H', ⟨by have := HK1.out; omega⟩, ⟨by (with_reducible repeat (first | apply Kd.V_alloc | apply Kd.V_drewN | apply Kd.V_drew)); exact Kd.V_mono (Kd.V_far (p := ⟨gb639, 1, none⟩) (Kd.V_far (p := ⟨gb639, 0, none⟩) (Kd.V_mono HO_8.out (fun k_ hk => (⟨hk, hk.2⟩ : _ ∧ k_ ≠ gb639))) (fun _ hk => hk.2) (.int .i64 ((rd_T56 t635 x10_1).f0))) (fun _ hk => hk.2) (.int .i64 ((rd_T56 t635 x10_1).f1))) (fun _ hk => hk.1.1)⟩, ⟨by (with_reducible repeat (first | refine blk_drewN ?_ _ | refine blk_drew ?_ | refine blk_alloc ?_ _)); refine blk_far ?_ NB634_639.out _; (with_reducible repeat (first | refine blk_drewN ?_ _ | refine blk_drew ?_ | refine blk_alloc ?_ _)); refine blk_far ?_ NB634_639.out _; (with_reducible repeat (first | refine blk_drewN ?_ _ | refine blk_drew ?_ | refine blk_alloc ?_ _)); exact BK634.out⟩, ⟨by repeat (first | (with_reducible first | exact HB.out | apply below_alloc | apply pw_below_drewN | apply below_drew1 | refine below_set ?_ GE634.out | refine below_set ?_ GE639.out) | exact HB.out)⟩⟩
          · rw [if_neg c10] at H
            exact absurd H (by simp)
        · rw [if_neg c9] at H
          exact absurd H (by simp)
      · rw [if_neg c8] at H
        have c8b0 : decide (x10_1 < (t635.length : Int)) = false := decide_eq_false c8
        clear c8
        obtain rfl := Option.some.inj H
        go_wp2
        go_ret
        exact ⟨by first | rfl | (simp [errW_none, errW_some] <;> rfl) | (simp [*, errW_none, errW_some] <;> rfl), by repeat (first | (with_reducible first | exact HB.out | apply below_alloc | apply pw_below_drewN | apply below_drew1 | refine below_set ?_ GE634.out) | exact HB.out)⟩
end Go.Proofs.Ytbahibaohehojaa.Q
-- YtbahibaohehojaaQf5
namespace Go.Proofs.Ytbahibaohehojaa.Q
open Go.RowKit Go.Proofs.YtbahibaohehojaaW.PrintWords Go.Proofs.YtbahibaohehojaaW.PrintLast Go.Proofs.YtbahibaohehojaaW.PrintMore
attribute [local go_sem] max2_int min2_int max_two min_two max_three min_three max_four min_four
set_option linter.unusedVariables false
set_option linter.unusedSimpArgs false
def soundservicelaw09_IntsetMakes.j0 : Nat → List (S56) → Int → Bool → List (S56) → Option (Bool)
  | 0, _, _, _, _ => none
  | k + 1, x0, x2, x20, x641000 => if x20 = true then (some true) else ((intset_Make.f k x0).bind fun bt643 => ((soundserviceref09_Make.f k x0).bind fun bt648 => (if bt643.2 = bt648.2 then ((soundserviceref09_Same.f k bt643.1 bt648.1).bind fun t653 => (if t653 = true then ((intset_Valid.f k x641000).bind fun t654 => ((soundserviceref09_Valid.f k x641000).bind fun t655 => (if (t654 == t655) = true then ((intset_Has.f k x641000 x2).bind fun t656 => ((soundserviceref09_Has.f k x641000 x2).bind fun t657 => (if (t656 == t657) = true then ((intset_Has.f k bt648.1 x2).bind fun t658 => ((soundserviceref09_Has.f k bt648.1 x2).bind fun t659 => (some (t658 == t659)))) else (some false)))) else (some false)))) else (some false))) else (some false))))
def soundservicelaw09_IntsetMakes.f (k : Nat) (l0 : List (S56)) (l1_0 : List (S56)) (a2 : Int) : Option (Bool) := (soundservicelaw09_sane.f k).bind fun t641 => (if t641 = true then (if (l0.length : Int) > 200 then (soundservicelaw09_IntsetMakes.j0 k l0 a2 true l1_0) else ((soundservicekeep_Set.f l1_0).bind fun t642 => (soundservicelaw09_IntsetMakes.j0 k l0 a2 (!t642) l1_0))) else (some false))
def soundservicelaw09_IntsetMakes.T7 : Bool × List (List Nat × List Nat) := (true, [([], []), ([], []), ([0, 1], [0, 1]), ([2], [2]), ([3], [3]), ([3], [3]), ([4, 5, 3, 3], [3, 4, 5]), ([3, 6], [3, 6]), ([7, 6], [7]), ([8], [8]), ([9, 8, 8], [8, 9]), ([8], [8]), ([11, 10, 8], [8, 11]), ([10, 12, 8], [8, 10, 12]), ([8, 13], [8, 13]), ([14, 12], [14]), ([15], [15]), ([15], [15]), ([16, 17, 15, 15], [15, 16, 17]), ([15], [15]), ([15], [15]), ([19, 20, 18, 15], [15, 19, 20]), ([18, 21, 15], [15, 18, 21]), ([15, 22], [15, 22]), ([23, 21], [23]), ([24], [24]), ([24], [24]), ([25, 26, 24, 24], [24, 25, 26]), ([24], [24]), ([24], [24]), ([28, 29, 27, 24], [24, 28, 29]), ([27, 30, 24], [24, 27, 30]), ([24, 31], [24, 31]), ([32, 30, 0, 1, 2, 3, 4, 5, 6, 7, 8, 9, 10, 11, 12, 13, 14, 15, 16, 17, 18, 19, 20, 21, 22, 23, 24, 25, 26, 27, 28, 29, 30, 31, 32], [32])])
def soundservicelaw09_IntsetMakes.B7 : List Nat := [0, 0, 3, 7, 15, 15, 63, 127, 255, 511, 1023, 511, 4095, 8191, 16383, 32767, 65535, 65535, 262143, 65535, 65535, 2097151, 4194303, 8388607, 16777215, 33554431, 33554431, 134217727, 33554431, 33554431, 1073741823, 2147483647, 4294967295, 8589934591]
theorem soundservicelaw09_IntsetMakes.tab7 : rtab .any (opsOf Try.f5 7) = soundservicelaw09_IntsetMakes.T7 := by kernel_rfl
theorem soundservicelaw09_IntsetMakes.bits7 : waitsOk soundservicelaw09_IntsetMakes.T7.2 soundservicelaw09_IntsetMakes.B7 = true := by kernel_rfl
set_option maxHeartbeats 8000000 in
set_option maxRecDepth 100000 in
theorem soundservicelaw09_IntsetMakes.calls (k : Nat) (A0 : Option Addr) (c0 : Nat) (l0 : List (S56)) (A1_0 : Option Addr) (c1_0 : Nat) (l1_0 : List (S56)) (a2 : Int) (r : Bool) (w : World) (hr0 : Kd.C k56 w A0 l0.length l0) (hc0 : l0.length ≤ c0) (hr1_0 : Kd.C k56 w A1_0 l1_0.length l1_0) (hc1_0 : l1_0.length ≤ c1_0) (hT_ : Aside0 (r = true)) (h : soundservicelaw09_IntsetMakes.f k l0 l1_0 a2 = some r) :
    Calls Try.prog 5 #[.slice A0 l0.length c0, .agg #[.slice A1_0 l1_0.length c1_0], .int .i64 a2] w fun e w' => e = .returned (.bool r) ∧ Below w.heap.size w w' := by
  have hu42 := Try.underlying42
  have HR0 := Aside0.mk hr0
  have HC0 := Aside0.mk hc0
  clear hr0 hc0
  have HR1_0 := Aside0.mk hr1_0
  have HC1_0 := Aside0.mk hc1_0
  clear hr1_0 hc1_0
  have HB := Aside0.mk (Below.refl w.heap.size w)
  have H : ((soundservicelaw09_sane.f k).bind fun t641 => (if t641 = true then (if (l0.length : Int) > 200 then (soundservicelaw09_IntsetMakes.j0 k l0 a2 true l1_0) else ((soundservicekeep_Set.f l1_0).bind fun t642 => (soundservicelaw09_IntsetMakes.j0 k l0 a2 (!t642) l1_0))) else (some false))) = some r := h
  clear h
  replace H := Option.bind_eq_some_iff.mp H
  obtain ⟨t641, A40, H⟩ := H
  replace H : (if t641 = true then (if (l0.length : Int) > 200 then (soundservicelaw09_IntsetMakes.j0 k l0 a2 true l1_0) else ((soundservicekeep_Set.f l1_0).bind fun t642 => (soundservicelaw09_IntsetMakes.j0 k l0 a2 (!t642) l1_0))) else (some false)) = some r := H
  have A4 := Aside0.mk A40
  clear A40
  by_cases c5 : t641 = true
  · subst c5
    have H1 : (if (l0.length : Int) > 200 then (soundservicelaw09_IntsetMakes.j0 k l0 a2 true l1_0) else ((soundservicekeep_Set.f l1_0).bind fun t642 => (soundservicelaw09_IntsetMakes.j0 k l0 a2 (!t642) l1_0))) = some r := by rw [if_pos rfl] at H; exact H
    clear H
    have H := H1
    clear H1
    have HC6 := Aside0.mk H
    clear H
    go_enter Try.func5, Try.ntmps5
    go_upto_region 3 with (first | ((with_reducible refine gate_dst (N := 4) rfl ?_); refine box_event ?hg (N := 4) ?hd (cs := #[.slice A1_0 l1_0.length c1_0]) (t := 42) ?hr ?_; (case hd => rfl); (case hg => rfl); (case hr => first | (go_simp; done) | (go_simp; rfl)); intro gb640 hg w7 hbox hb; have n0_ := Aside0.mk (below_step (by repeat (first | (with_reducible first | exact HB.out | apply below_alloc | apply pw_below_drewN | apply below_drew1) | exact HB.out)) hb); have n1_ := Aside0.mk (hbox); have n2_ := Aside0.mk ((by rw [hg]; exact (below_size (by repeat (first | (with_reducible first | exact HB.out | apply below_alloc | apply pw_below_drewN | apply below_drew1) | exact HB.out))) : w.heap.size ≤ gb640)); have n3_ := Aside0.mk ((by rw [hg]; exact (below_size (by repeat (first | (with_reducible first | exact HB.out | apply below_alloc | apply pw_below_drewN | apply below_drew1) | exact HB.out))) : w.heap.size ≤ gb640)); clear HB; have HB := n0_; have BK640 := n1_; have GW640 := n2_; have GE640 := n3_; clear n0_ n1_ n2_ n3_; clear hb hbox hg) | ((with_reducible refine gate_callee (f := 25) rfl ?_); refine goesL_ (some 11) rfl rfl Try.func25 (by kernel_rfl) rfl #[] rfl (by (try simp only [List.map_toArray, List.map_cons, List.map_nil]); first | done | rfl | (simp only [List.length_drop, List.length_take]; rfl)) ?_; (with_reducible refine (soundservicelaw09_sane.calls k  true _ A4.out).mono ?_); rintro e w8 ⟨rfl, hb⟩; refine ⟨_, rfl, ?_⟩; have n0_ := Aside0.mk (blk_below (g := gb640) (o := .cells #[.slice A1_0 l1_0.length c1_0] 42 (0, 0)) (by (with_reducible repeat (first | refine blk_drewN ?_ _ | refine blk_drew ?_ | refine blk_alloc ?_ _)); exact BK640.out) hb); have n1_ := Aside0.mk (below_step (by repeat (first | (with_reducible first | exact HB.out | apply below_alloc | apply pw_below_drewN | apply below_drew1 | refine below_set ?_ GE640.out) | exact HB.out)) hb); clear BK640; clear HB; have BK640 := n0_; have HB := n1_; clear n0_ n1_; (try clear hb); (try clear hb2); (try clear hk); (try clear hi)))
    (try simp only [Act.put, List.setIfInBounds_toArray, List.set_cons_zero, List.set_cons_succ])
    go_cut [20] (fun v20 wc => ∃ (kq : Nat) (x20_5 : Bool), v20 = .bool x20_5 ∧ Aside0 (soundservicelaw09_IntsetMakes.j0 kq l0 a2 x20_5 l1_0 = some r) ∧ Aside0 (kq ≤ k) ∧ Aside0 (wc.heap[gb640]? = some (.cells #[(.slice A1_0 l1_0.length c1_0)] 42 (0, 0))) ∧ Aside0 (Below w.heap.size w wc))
    case first =>
      have H := HC6.out
      clear HC6
      by_cases c9 : (l0.length : Int) > 200
      · rw [if_pos c9] at H
        have c9b0 : decide (200 < (l0.length : Int)) = true := decide_eq_true c9
        have c9b1 : decide (200 < l0.length) = true := decide_eq_true (by omega)
        clear c9
        (first | rw [c9b0] | (simp only [i64_w, i32_w]; rw [c9b0]) | skip)
        have H' := Aside0.mk H
        clear H
        go_wp2
        go_meet
        case rel => exact ⟨_, (true), (by first | rfl | (simp; done) | (simp [*]; done)), H', ⟨by first | omega | exact Nat.le_refl _⟩, ⟨by (with_reducible repeat (first | refine blk_drewN ?_ _ | refine blk_drew ?_ | refine blk_alloc ?_ _)); exact BK640.out⟩, ⟨by repeat (first | (with_reducible first | exact HB.out | apply below_alloc | apply pw_below_drewN | apply below_drew1 | refine below_set ?_ GE640.out) | exact HB.out)⟩⟩
      · rw [if_neg c9] at H
        have c9b0 : decide (200 < (l0.length : Int)) = false := decide_eq_false c9
        have c9b1 : decide (200 < l0.length) = false := decide_eq_false (by omega)
        clear c9
        (first | rw [c9b0] | (simp only [i64_w, i32_w]; rw [c9b0]) | skip)
        replace H := Option.bind_eq_some_iff.mp H
        obtain ⟨t642, A100, H⟩ := H
        replace H : (soundservicelaw09_IntsetMakes.j0 k l0 a2 (!t642) l1_0) = some r := H
        have A10 := Aside0.mk A100
        clear A100
        have H' := Aside0.mk H
        clear H
        have hcz11_0 : w8.cell? ⟨gb640, 0, none⟩ = some (.slice A1_0 l1_0.length c1_0) := (blk_cell BK640.out 0).trans rfl
        have hfz11_0 := blk_frozen BK640.out 0
        go_wp2_with (first | (go_at_call 26; (with_reducible refine (soundservicekeep_Set.calls _ _ l1_0 t642 _ ?side1 ?side2 A10.out).mono ?_); (case side1 => repeat (first | exact (Kd.C_below HR1_0.out HB.out) | (with_reducible refine Kd.C_alloc ?_ _) | (with_reducible refine Kd.C_drewN ?_ _) | (with_reducible refine Kd.C_drew ?_))); (case side2 => exact HC1_0.out); rintro e w12 ⟨rfl, hb⟩; have n0_ := Aside0.mk (blk_below (g := gb640) (o := .cells #[.slice A1_0 l1_0.length c1_0] 42 (0, 0)) (by (with_reducible repeat (first | refine blk_drewN ?_ _ | refine blk_drew ?_ | refine blk_alloc ?_ _)); exact BK640.out) hb); have n1_ := Aside0.mk (below_step (by repeat (first | (with_reducible first | exact HB.out | apply below_alloc | apply pw_below_drewN | apply below_drew1 | refine below_set ?_ GE640.out) | exact HB.out)) hb); clear BK640; clear HB; have BK640 := n0_; have HB := n1_; clear n0_ n1_; (try clear hb); (try clear hb2); (try clear hk); (try clear hi)))
        go_meet
        case rel => exact ⟨_, (!t642), (by first | rfl | (simp; done) | (simp [*]; done)), H', ⟨by first | omega | exact Nat.le_refl _⟩, ⟨by (with_reducible repeat (first | refine blk_drewN ?_ _ | refine blk_drew ?_ | refine blk_alloc ?_ _)); exact BK640.out⟩, ⟨by repeat (first | (with_reducible first | exact HB.out | apply below_alloc | apply pw_below_drewN | apply below_drew1 | refine below_set ?_ GE640.out) | exact HB.out)⟩⟩
    case rest =>
      clear HC6
      try clear c1
      try clear c2
      try clear p2
      try clear c5
      try clear c9
      try clear c9b0
      try clear c9b1
      try clear hcz11_0
      try clear hfz11_0
      obtain ⟨kq, x20_5, rfl, HA, HJ5, BK640, HB⟩ := hcut
      cases kq with
      | zero => exact absurd HA.out (by simp [soundservicelaw09_IntsetMakes.j0])
      | succ kj5 =>
        have H := HA.out
        clear HA
        simp only [soundservicelaw09_IntsetMakes.j0] at H
        by_cases c13 : x20_5 = true
        · subst c13
          have H1 : (some true) = some r := by rw [if_pos rfl] at H; exact H
          clear H
          have H := H1
          clear H1
          obtain rfl := Option.some.inj H
          go_wp2
          go_ret
          exact ⟨by first | rfl | (simp [errW_none, errW_some] <;> rfl) | (simp [*, errW_none, errW_some] <;> rfl), by repeat (first | (with_reducible first | exact HB.out | apply below_alloc | apply pw_below_drewN | apply below_drew1 | refine below_set ?_ GE640.out) | exact HB.out)⟩
        · replace c13 := Bool.eq_false_iff.mpr c13
          subst c13
          have H1 : ((intset_Make.f kj5 l0).bind fun bt643 => ((soundserviceref09_Make.f kj5 l0).bind fun bt648 => (if bt643.2 = bt648.2 then ((soundserviceref09_Same.f kj5 bt643.1 bt648.1).bind fun t653 => (if t653 = true then ((intset_Valid.f kj5 l1_0).bind fun t654 => ((soundserviceref09_Valid.f kj5 l1_0).bind fun t655 => (if (t654 == t655) = true then ((intset_Has.f kj5 l1_0 a2).bind fun t656 => ((soundserviceref09_Has.f kj5 l1_0 a2).bind fun t657 => (if (t656 == t657) = true then ((intset_Has.f kj5 bt648.1 a2).bind fun t658 => ((soundserviceref09_Has.f kj5 bt648.1 a2).bind fun t659 => (some (t658 == t659)))) else (some false)))) else (some false)))) else (some false))) else (some false)))) = some r := by rw [if_neg (show ¬ (false = true) by decide)] at H; exact H
          clear H
          have H := H1
          clear H1
          replace H := Option.bind_eq_some_iff.mp H
          obtain ⟨⟨t643, t646⟩, A140, H⟩ := H
          replace H : ((soundserviceref09_Make.f kj5 l0).bind fun bt648 => (if t646 = bt648.2 then ((soundserviceref09_Same.f kj5 t643 bt648.1).bind fun t653 => (if t653 = true then ((intset_Valid.f kj5 l1_0).bind fun t654 => ((soundserviceref09_Valid.f kj5 l1_0).bind fun t655 => (if (t654 == t655) = true then ((intset_Has.f kj5 l1_0 a2).bind fun t656 => ((soundserviceref09_Has.f kj5 l1_0 a2).bind fun t657 => (if (t656 == t657) = true then ((intset_Has.f kj5 bt648.1 a2).bind fun t658 => ((soundserviceref09_Has.f kj5 bt648.1 a2).bind fun t659 => (some (t658 == t659)))) else (some false)))) else (some false)))) else (some false))) else (some false))) = some r := H
          have A14 := Aside0.mk A140
          clear A140
          replace H := Option.bind_eq_some_iff.mp H
          obtain ⟨⟨t648, t651⟩, A150, H⟩ := H
          replace H : (if t646 = t651 then ((soundserviceref09_Same.f kj5 t643 t648).bind fun t653 => (if t653 = true then ((intset_Valid.f kj5 l1_0).bind fun t654 => ((soundserviceref09_Valid.f kj5 l1_0).bind fun t655 => (if (t654 == t655) = true then ((intset_Has.f kj5 l1_0 a2).bind fun t656 => ((soundserviceref09_Has.f kj5 l1_0 a2).bind fun t657 => (if (t656 == t657) = true then ((intset_Has.f kj5 t648 a2).bind fun t658 => ((soundserviceref09_Has.f kj5 t648 a2).bind fun t659 => (some (t658 == t659)))) else (some false)))) else (some false)))) else (some false))) else (some false)) = some r := H
          have A15 := Aside0.mk A150
          clear A150
          by_cases c16 : t646 = t651
          · rw [if_pos c16] at H
            have c16b0 : (t646 == t651) = true := beq_iff_eq.mpr c16
            have c16b1 : (t646 != t651) = false := bne_eq_false_iff_eq.mpr c16
            clear c16
            replace H := Option.bind_eq_some_iff.mp H
            obtain ⟨t653, A170, H⟩ := H
            replace H : (if t653 = true then ((intset_Valid.f kj5 l1_0).bind fun t654 => ((soundserviceref09_Valid.f kj5 l1_0).bind fun t655 => (if (t654 == t655) = true then ((intset_Has.f kj5 l1_0 a2).bind fun t656 => ((soundserviceref09_Has.f kj5 l1_0 a2).bind fun t657 => (if (t656 == t657) = true then ((intset_Has.f kj5 t648 a2).bind fun t658 => ((soundserviceref09_Has.f kj5 t648 a2).bind fun t659 => (some (t658 == t659)))) else (some false)))) else (some false)))) else (some false)) = some r := H
            have A17 := Aside0.mk A170
            clear A170
            by_cases c18 : t653 = true
            · subst c18
              have H1 : ((intset_Valid.f kj5 l1_0).bind fun t654 => ((soundserviceref09_Valid.f kj5 l1_0).bind fun t655 => (if (t654 == t655) = true then ((intset_Has.f kj5 l1_0 a2).bind fun t656 => ((soundserviceref09_Has.f kj5 l1_0 a2).bind fun t657 => (if (t656 == t657) = true then ((intset_Has.f kj5 t648 a2).bind fun t658 => ((soundserviceref09_Has.f kj5 t648 a2).bind fun t659 => (some (t658 == t659)))) else (some false)))) else (some false)))) = some r := by rw [if_pos rfl] at H; exact H
              clear H
              have H := H1
              clear H1
              replace H := Option.bind_eq_some_iff.mp H
              obtain ⟨t654, A190, H⟩ := H
              replace H : ((soundserviceref09_Valid.f kj5 l1_0).bind fun t655 => (if (t654 == t655) = true then ((intset_Has.f kj5 l1_0 a2).bind fun t656 => ((soundserviceref09_Has.f kj5 l1_0 a2).bind fun t657 => (if (t656 == t657) = true then ((intset_Has.f kj5 t648 a2).bind fun t658 => ((soundserviceref09_Has.f kj5 t648 a2).bind fun t659 => (some (t658 == t659)))) else (some false)))) else (some false))) = some r := H
              have A19 := Aside0.mk A190
              clear A190
              replace H := Option.bind_eq_some_iff.mp H
              obtain ⟨t655, A200, H⟩ := H
              replace H : (if (t654 == t655) = true then ((intset_Has.f kj5 l1_0 a2).bind fun t656 => ((soundserviceref09_Has.f kj5 l1_0 a2).bind fun t657 => (if (t656 == t657) = true then ((intset_Has.f kj5 t648 a2).bind fun t658 => ((soundserviceref09_Has.f kj5 t648 a2).bind fun t659 => (some (t658 == t659)))) else (some false)))) else (some false)) = some r := H
              have A20 := Aside0.mk A200
              clear A200
              by_cases c21 : (t654 == t655) = true
              · rw [if_pos c21] at H
                have c21b0 : (t654 == t655) = true := c21
                (try (have c21b1 : decide (t654 = t655) = true := by simpa using c21))
                (try (have c21b2 : (t654 == t655) = true := by simpa using c21))
                clear c21
                replace H := Option.bind_eq_some_iff.mp H
                obtain ⟨t656, A220, H⟩ := H
                replace H : ((soundserviceref09_Has.f kj5 l1_0 a2).bind fun t657 => (if (t656 == t657) = true then ((intset_Has.f kj5 t648 a2).bind fun t658 => ((soundserviceref09_Has.f kj5 t648 a2).bind fun t659 => (some (t658 == t659)))) else (some false))) = some r := H
                have A22 := Aside0.mk A220
                clear A220
                replace H := Option.bind_eq_some_iff.mp H
                obtain ⟨t657, A230, H⟩ := H
                replace H : (if (t656 == t657) = true then ((intset_Has.f kj5 t648 a2).bind fun t658 => ((soundserviceref09_Has.f kj5 t648 a2).bind fun t659 => (some (t658 == t659)))) else (some false)) = some r := H
                have A23 := Aside0.mk A230
                clear A230
                by_cases c24 : (t656 == t657) = true
                · rw [if_pos c24] at H
                  have c24b0 : (t656 == t657) = true := c24
                  (try (have c24b1 : decide (t656 = t657) = true := by simpa using c24))
                  (try (have c24b2 : (t656 == t657) = true := by simpa using c24))
                  clear c24
                  replace H := Option.bind_eq_some_iff.mp H
                  obtain ⟨t658, A250, H⟩ := H
                  replace H : ((soundserviceref09_Has.f kj5 t648 a2).bind fun t659 => (some (t658 == t659))) = some r := H
                  have A25 := Aside0.mk A250
                  clear A250
                  replace H := Option.bind_eq_some_iff.mp H
                  obtain ⟨t659, A260, H⟩ := H
                  replace H : (some (t658 == t659)) = some r := H
                  have A26 := Aside0.mk A260
                  clear A260
                  obtain rfl := Option.some.inj H
                  try go_wp2_with (first | ((with_reducible refine gate_callee (f := 27) rfl ?_); refine goesL_ (some 23) rfl rfl Try.func27 (by kernel_rfl) rfl #[.slice A0 l0.length c0] rfl (by (try simp only [List.map_toArray, List.map_cons, List.map_nil]); first | done | rfl | (simp only [List.length_drop, List.length_take]; rfl)) ?_; (with_reducible refine (intset_Make.calls kj5 _ _ l0 t643 t646 _ ?side1 ?side2 A14.out).mono ?_); (case side1 => repeat (first | exact (Kd.C_below HR0.out HB.out) | (with_reducible refine Kd.C_alloc ?_ _) | (with_reducible refine Kd.C_drewN ?_ _) | (with_reducible refine Kd.C_drew ?_))); (case side2 => exact HC0.out); rintro e w27 ⟨v644, rfl, ho0, hb⟩; refine ⟨_, rfl, ?_⟩; have n0_ := Aside0.mk (Kd.R_lower ho0 (below_size (by repeat (first | (with_reducible first | exact HB.out | apply below_alloc | apply pw_below_drewN | apply below_drew1 | refine below_set ?_ GE640.out) | exact HB.out)))); have n1_ := Aside0.mk (blk_below (g := gb640) (o := .cells #[.slice A1_0 l1_0.length c1_0] 42 (0, 0)) (by (with_reducible repeat (first | refine blk_drewN ?_ _ | refine blk_drew ?_ | refine blk_alloc ?_ _)); exact BK640.out) hb); have n2_ := Aside0.mk (below_step (by repeat (first | (with_reducible first | exact HB.out | apply below_alloc | apply pw_below_drewN | apply below_drew1 | refine below_set ?_ GE640.out) | exact HB.out)) hb); clear BK640; clear HB; have HO645 := n0_; have BK640 := n1_; have HB := n2_; clear n0_ n1_ n2_; (try clear hb); (try clear hb2); (try clear hk); (try clear hi); (try clear ho0)) | ((with_reducible refine gate_dst (N := 7) rfl ?_); refine box_event ?hg (N := 7) ?hd (cs := #[.slice none 0 0]) (t := 42) ?hr ?_; (case hd => rfl); (case hg => rfl); (case hr => first | (go_simp; done) | (go_simp; rfl)); intro gb647 hg w28 hbox hb; have n0_ := Aside0.mk (Kd.R_below (by (with_reducible repeat (first | apply Kd.R_alloc | apply Kd.R_drewN | apply Kd.R_drew)); exact HO645.out) hb); have n1_ := Aside0.mk (blk_below (g := gb640) (o := .cells #[.slice A1_0 l1_0.length c1_0] 42 (0, 0)) (by (with_reducible repeat (first | refine blk_drewN ?_ _ | refine blk_drew ?_ | refine blk_alloc ?_ _)); exact BK640.out) hb); have n2_ := Aside0.mk (below_step (by repeat (first | (with_reducible first | exact HB.out | apply below_alloc | apply pw_below_drewN | apply below_drew1 | refine below_set ?_ GE640.out) | exact HB.out)) hb); have n3_ := Aside0.mk (hbox); have n4_ := Aside0.mk ((by rw [hg]; exact (below_size (by repeat (first | (with_reducible first | exact HB.out | apply below_alloc | apply pw_below_drewN | apply below_drew1 | refine below_set ?_ GE640.out) | exact HB.out))) : w.heap.size ≤ gb647)); have n5_ := Aside0.mk ((by rw [hg]; exact (below_size (by repeat (first | (with_reducible first | exact HB.out | apply below_alloc | apply pw_below_drewN | apply below_drew1 | refine below_set ?_ GE640.out) | exact HB.out))) : w.heap.size ≤ gb647)); have n6_ := Aside0.mk ((by rw [hg]; exact Nat.ne_of_lt (blk_lt (g := gb640) (o := .cells #[.slice A1_0 l1_0.length c1_0] 42 (0, 0)) (by (with_reducible repeat (first | refine blk_drewN ?_ _ | refine blk_drew ?_ | refine blk_alloc ?_ _)); exact BK640.out)) : gb640 ≠ gb647)); have n7_ := Aside0.mk ((by rw [hg]; exact Nat.ne_of_gt (blk_lt (g := gb640) (o := .cells #[.slice A1_0 l1_0.length c1_0] 42 (0, 0)) (by (with_reducible repeat (first | refine blk_drewN ?_ _ | refine blk_drew ?_ | refine blk_alloc ?_ _)); exact BK640.out)) : gb647 ≠ gb640)); clear HO645; clear BK640; clear HB; have HO645 := n0_; have BK640 := n1_; have HB := n2_; have BK647 := n3_; have GW647 := n4_; have GE647 := n5_; have NB640_647 := n6_; have NB647_640 := n7_; clear n0_ n1_ n2_ n3_ n4_ n5_ n6_ n7_; clear hb hbox hg; obtain ⟨Ao29, co29, eo29⟩ := Kd.R_slice HO645.out; subst eo29; have hnb30 := NB647_640.out; have hnc30 := NB640_647.out; have hcz31_0 : w28.cell? ⟨gb647, 0, none⟩ = some (.slice none 0 0) := (blk_cell BK647.out 0).trans rfl; have hfz31_0 := blk_frozen BK647.out 0) | ((with_reducible refine gate_callee (f := 28) rfl ?_); refine goesL_ (some 28) rfl rfl Try.func28 (by kernel_rfl) rfl #[.slice A0 l0.length c0] rfl (by (try simp only [List.map_toArray, List.map_cons, List.map_nil]); first | done | rfl | (simp only [List.length_drop, List.length_take]; rfl)) ?_; (with_reducible refine (soundserviceref09_Make.calls kj5 _ _ l0 t648 t651 _ ?side1 ?side2 A15.out).mono ?_); (case side1 => exact Kd.C_below HR0.out (by repeat (first | (with_reducible first | exact HB.out | apply below_alloc | apply pw_below_drewN | apply below_drew1 | refine below_set ?_ GE640.out | refine below_set ?_ GE647.out) | exact HB.out))); (case side2 => exact HC0.out); rintro e w32 ⟨v649, rfl, ho0, hb⟩; refine ⟨_, rfl, ?_⟩; have n0_ := Aside0.mk (Kd.R_elder' (by (with_reducible repeat (first | apply Kd.R_alloc | apply Kd.R_drewN | apply Kd.R_drew)); exact (Kd.R_mono (Kd.R_far (p := ⟨gb647, 0, none⟩) (Kd.R_types HO645.out BK647.out (by decide)) (fun _ hk => hk.2) (.slice Ao29 t643.length co29)) (fun _ h_ => h_.1))) (Kd.R_base ho0) hb); have n1_ := Aside0.mk (Kd.R_lower (Kd.R_new' ho0 (Kd.R_lt (by (with_reducible repeat (first | apply Kd.R_alloc | apply Kd.R_drewN | apply Kd.R_drew)); exact (Kd.R_mono (Kd.R_far (p := ⟨gb647, 0, none⟩) (Kd.R_types HO645.out BK647.out (by decide)) (fun _ hk => hk.2) (.slice Ao29 t643.length co29)) (fun _ h_ => h_.1))))) (below_size (by repeat (first | (with_reducible first | exact HB.out | apply below_alloc | apply pw_below_drewN | apply below_drew1 | refine below_set ?_ GE640.out | refine below_set ?_ GE647.out) | exact HB.out)))); have n2_ := Aside0.mk (blk_below (g := gb640) (o := .cells #[.slice A1_0 l1_0.length c1_0] 42 (0, 0)) (by (with_reducible repeat (first | refine blk_drewN ?_ _ | refine blk_drew ?_ | refine blk_alloc ?_ _)); refine blk_far ?_ NB640_647.out _; (with_reducible repeat (first | refine blk_drewN ?_ _ | refine blk_drew ?_ | refine blk_alloc ?_ _)); exact BK640.out) hb); have n3_ := Aside0.mk (blk_below (g := gb647) (o := .cells #[.slice Ao29 t643.length co29] 42 (0, 0)) (by (with_reducible repeat (first | refine blk_drewN ?_ _ | refine blk_drew ?_ | refine blk_alloc ?_ _)); refine blk_put (cs := #[.slice none 0 0]) ?_ 0 _ rfl; (with_reducible repeat (first | refine blk_drewN ?_ _ | refine blk_drew ?_ | refine blk_alloc ?_ _)); exact BK647.out) hb); have n4_ := Aside0.mk (below_step (by repeat (first | (with_reducible first | exact HB.out | apply below_alloc | apply pw_below_drewN | apply below_drew1 | refine below_set ?_ GE640.out | refine below_set ?_ GE647.out) | exact HB.out)) hb); clear HO645; clear BK640; clear BK647; clear HB; have HO645 := n0_; have HO650 := n1_; have BK640 := n2_; have BK647 := n3_; have HB := n4_; clear n0_ n1_ n2_ n3_ n4_; (try clear hb); (try clear hb2); (try clear hk); (try clear hi); (try clear ho0)) | ((with_reducible refine gate_dst (N := 9) rfl ?_); refine box_event ?hg (N := 9) ?hd (cs := #[.slice none 0 0]) (t := 42) ?hr ?_; (case hd => rfl); (case hg => rfl); (case hr => first | (go_simp; done) | (go_simp; rfl)); intro gb652 hg w33 hbox hb; have n0_ := Aside0.mk (Kd.R_below (by (with_reducible repeat (first | apply Kd.R_alloc | apply Kd.R_drewN | apply Kd.R_drew)); exact HO645.out) hb); have n1_ := Aside0.mk (Kd.R_below (by (with_reducible repeat (first | apply Kd.R_alloc | apply Kd.R_drewN | apply Kd.R_drew)); exact HO650.out) hb); have n2_ := Aside0.mk (blk_below (g := gb640) (o := .cells #[.slice A1_0 l1_0.length c1_0] 42 (0, 0)) (by (with_reducible repeat (first | refine blk_drewN ?_ _ | refine blk_drew ?_ | refine blk_alloc ?_ _)); exact BK640.out) hb); have n3_ := Aside0.mk (blk_below (g := gb647) (o := .cells #[.slice Ao29 t643.length co29] 42 (0, 0)) (by (with_reducible repeat (first | refine blk_drewN ?_ _ | refine blk_drew ?_ | refine blk_alloc ?_ _)); exact BK647.out) hb); have n4_ := Aside0.mk (below_step (by repeat (first | (with_reducible first | exact HB.out | apply below_alloc | apply pw_below_drewN | apply below_drew1 | refine below_set ?_ GE640.out | refine below_set ?_ GE647.out) | exact HB.out)) hb); have n5_ := Aside0.mk (hbox); have n6_ := Aside0.mk ((by rw [hg]; exact (below_size (by repeat (first | (with_reducible first | exact HB.out | apply below_alloc | apply pw_below_drewN | apply below_drew1 | refine below_set ?_ GE640.out | refine below_set ?_ GE647.out) | exact HB.out))) : w.heap.size ≤ gb652)); have n7_ := Aside0.mk ((by rw [hg]; exact (below_size (by repeat (first | (with_reducible first | exact HB.out | apply below_alloc | apply pw_below_drewN | apply below_drew1 | refine below_set ?_ GE640.out | refine below_set ?_ GE647.out) | exact HB.out))) : w.heap.size ≤ gb652)); have n8_ := Aside0.mk ((by rw [hg]; exact Nat.ne_of_lt (blk_lt (g := gb640) (o := .cells #[.slice A1_0 l1_0.length c1_0] 42 (0, 0)) (by (with_reducible repeat (first | refine blk_drewN ?_ _ | refine blk_drew ?_ | refine blk_alloc ?_ _)); exact BK640.out)) : gb640 ≠ gb652)); have n9_ := Aside0.mk ((by rw [hg]; exact Nat.ne_of_gt (blk_lt (g := gb640) (o := .cells #[.slice A1_0 l1_0.length c1_0] 42 (0, 0)) (by (with_reducible repeat (first | refine blk_drewN ?_ _ | refine blk_drew ?_ | refine blk_alloc ?_ _)); exact BK640.out)) : gb652 ≠ gb640)); have n10_ := Aside0.mk ((by rw [hg]; exact Nat.ne_of_lt (blk_lt (g := gb647) (o := .cells #[.slice Ao29 t643.length co29] 42 (0, 0)) (by (with_reducible repeat (first | refine blk_drewN ?_ _ | refine blk_drew ?_ | refine blk_alloc ?_ _)); exact BK647.out)) : gb647 ≠ gb652)); have n11_ := Aside0.mk ((by rw [hg]; exact Nat.ne_of_gt (blk_lt (g := gb647) (o := .cells #[.slice Ao29 t643.length co29] 42 (0, 0)) (by (with_reducible repeat (first | refine blk_drewN ?_ _ | refine blk_drew ?_ | refine blk_alloc ?_ _)); exact BK647.out)) : gb652 ≠ gb647)); clear HO645; clear HO650; clear BK640; clear BK647; clear HB; have HO645 := n0_; have HO650 := n1_; have BK640 := n2_; have BK647 := n3_; have HB := n4_; have BK652 := n5_; have GW652 := n6_; have GE652 := n7_; have NB640_652 := n8_; have NB652_640 := n9_; have NB647_652 := n10_; have NB652_647 := n11_; clear n0_ n1_ n2_ n3_ n4_ n5_ n6_ n7_ n8_ n9_ n10_ n11_; clear hb hbox hg; obtain ⟨Ao34, co34, eo34⟩ := Kd.R_slice HO650.out; subst eo34; have hnb35 := NB652_640.out; have hnc35 := NB640_652.out; have hnb36 := NB652_647.out; have hnc36 := NB647_652.out; have hcz37_0 : w33.cell? ⟨gb652, 0, none⟩ = some (.slice none 0 0) := (blk_cell BK652.out 0).trans rfl; have hfz37_0 := blk_frozen BK652.out 0))
                  have n0_ : Aside0 (Kd.R k56 56 (w33.setCell ⟨gb652, 0, none⟩ (.slice Ao34 t648.length co34)) w.heap.size (fun k_ => some k_ ≠ (.slice Ao34 t648.length co34 : Value).ownBlock) (.slice Ao29 t643.length co29) t643) := ⟨by (with_reducible repeat (first | apply Kd.R_alloc | apply Kd.R_drewN | apply Kd.R_drew)); exact Kd.R_mono (Kd.R_far (p := ⟨gb652, 0, none⟩) (Kd.R_types HO645.out BK652.out (by decide)) (fun _ hk => hk.2) (.slice Ao34 t648.length co34)) (fun _ hk => hk.1.2)⟩
                  have n1_ : Aside0 (Kd.R k56 56 (w33.setCell ⟨gb652, 0, none⟩ (.slice Ao34 t648.length co34)) w.heap.size (fun k_ => some k_ ≠ (.slice Ao29 t643.length co29 : Value).ownBlock) (.slice Ao34 t648.length co34) t648) := ⟨by (with_reducible repeat (first | apply Kd.R_alloc | apply Kd.R_drewN | apply Kd.R_drew)); exact Kd.R_mono (Kd.R_far (p := ⟨gb652, 0, none⟩) (Kd.R_types HO650.out BK652.out (by decide)) (fun _ hk => hk.2) (.slice Ao34 t648.length co34)) (fun _ hk => hk.1.2)⟩
                  have n2_ : Aside0 ((w33.setCell ⟨gb652, 0, none⟩ (.slice Ao34 t648.length co34)).heap[gb640]? = some (.cells #[.slice A1_0 l1_0.length c1_0] 42 (0, 0))) := ⟨by (with_reducible repeat (first | refine blk_drewN ?_ _ | refine blk_drew ?_ | refine blk_alloc ?_ _)); refine blk_far ?_ NB640_652.out _; (with_reducible repeat (first | refine blk_drewN ?_ _ | refine blk_drew ?_ | refine blk_alloc ?_ _)); exact BK640.out⟩
                  have n3_ : Aside0 ((w33.setCell ⟨gb652, 0, none⟩ (.slice Ao34 t648.length co34)).heap[gb647]? = some (.cells #[.slice Ao29 t643.length co29] 42 (0, 0))) := ⟨by (with_reducible repeat (first | refine blk_drewN ?_ _ | refine blk_drew ?_ | refine blk_alloc ?_ _)); refine blk_far ?_ NB647_652.out _; (with_reducible repeat (first | refine blk_drewN ?_ _ | refine blk_drew ?_ | refine blk_alloc ?_ _)); exact BK647.out⟩
                  have n4_ : Aside0 ((w33.setCell ⟨gb652, 0, none⟩ (.slice Ao34 t648.length co34)).heap[gb652]? = some (.cells #[.slice Ao34 t648.length co34] 42 (0, 0))) := ⟨by (with_reducible repeat (first | refine blk_drewN ?_ _ | refine blk_drew ?_ | refine blk_alloc ?_ _)); refine blk_put (cs := #[.slice none 0 0]) ?_ 0 _ rfl; (with_reducible repeat (first | refine blk_drewN ?_ _ | refine blk_drew ?_ | refine blk_alloc ?_ _)); exact BK652.out⟩
                  have n5_ : Aside0 (Below w.heap.size w (w33.setCell ⟨gb652, 0, none⟩ (.slice Ao34 t648.length co34))) := ⟨by repeat (first | (with_reducible first | exact HB.out | apply below_alloc | apply pw_below_drewN | apply below_drew1 | refine below_set ?_ GE640.out | refine below_set ?_ GE647.out | refine below_set ?_ GE652.out) | exact HB.out)⟩
                  (try clear HO645)
                  (try clear HO650)
                  (try clear BK640)
                  (try clear BK647)
                  (try clear BK652)
                  (try clear HB)
                  generalize (w33.setCell ⟨gb652, 0, none⟩ (.slice Ao34 t648.length co34)) = w38 at n0_ n1_ n2_ n3_ n4_ n5_ ⊢
                  have HO645 := n0_
                  have HO650 := n1_
                  have BK640 := n2_
                  have BK647 := n3_
                  have BK652 := n4_
                  have HB := n5_
                  clear n0_ n1_ n2_ n3_ n4_ n5_
                  have n0_ := Aside0.mk (Kd.R_drew HO645.out)
                  have n1_ := Aside0.mk (Kd.R_drew HO650.out)
                  have n2_ := Aside0.mk (blk_drew BK640.out)
                  have n3_ := Aside0.mk (blk_drew BK647.out)
                  have n4_ := Aside0.mk (blk_drew BK652.out)
                  have n5_ := Aside0.mk (below_drew1 HB.out)
                  clear HO645
                  clear HO650
                  clear BK640
                  clear BK647
                  clear BK652
                  clear HB
                  have HO645 := n0_
                  have HO650 := n1_
                  have BK640 := n2_
                  have BK647 := n3_
                  have BK652 := n4_
                  have HB := n5_
                  clear n0_ n1_ n2_ n3_ n4_ n5_
                  refine start_ (n := 34) (S := fun w' => w'.cell? ⟨gb647, 0, none⟩ = some (.slice Ao29 t643.length co29) ∧ w'.cell? ⟨gb652, 0, none⟩ = some (.slice Ao34 t648.length co34) ∧ w'.cell? ⟨gb640, 0, none⟩ = some (.slice A1_0 l1_0.length c1_0)) (ds := []) #[false, false, false, false, false, false, false, false, false, false, false, false, false, false, false, false, false, false, false, false, false, false, false, false, false, false, false, false, false, false, false, false, false, false] (by kernel_rfl) rfl rfl ⟨(blk_cell BK647.out 0).trans rfl, (blk_cell BK652.out 0).trans rfl, (blk_cell BK640.out 0).trans rfl⟩ (fun hHeld => ?_); refine with_tabW soundservicelaw09_IntsetMakes.tab7 soundservicelaw09_IntsetMakes.bits7 (fun HT_ HW_ => ?_)
                  generalize w38.drew = w39 at HO645 HO650 BK640 BK647 BK652 HB hHeld ⊢
                  refine pure_ (i := 0) (N := some 31) (v := ?_) (a' := ?_) #[true, false, false, false, false, false, false, false, false, false, false, false, false, false, false, false, false, false, false, false, false, false, false, false, false, false, false, false, false, false, false, false, false, false] rfl rfl (any_of HT_.out (by kernel_rfl)) (fun _ _ _ h => h) (Or.inl ⟨by rfl, ?_⟩) ?_ ?_
                  rotate_left
                  · intro w'
                    go_simp
                    with_reducible rfl
                  rotate_left
                  · simp only [Act.put, List.setIfInBounds_toArray, List.set_cons_zero, List.set_cons_succ, i64_w, i32_w]
                    rfl
                  refine pure_ (i := 1) (N := some 32) (v := ?_) (a' := ?_) #[true, true, false, false, false, false, false, false, false, false, false, false, false, false, false, false, false, false, false, false, false, false, false, false, false, false, false, false, false, false, false, false, false, false] rfl rfl (any_of HT_.out (by kernel_rfl)) (fun _ _ _ h => h) (Or.inl ⟨by rfl, ?_⟩) ?_ ?_
                  rotate_left
                  · intro w'
                    go_simp
                    with_reducible rfl
                  rotate_left
                  · simp only [Act.put, List.setIfInBounds_toArray, List.set_cons_zero, List.set_cons_succ, i64_w, i32_w]
                    rfl
                  refine pure_ (i := 2) (N := some 33) (v := ?_) (a' := ?_) #[true, true, true, false, false, false, false, false, false, false, false, false, false, false, false, false, false, false, false, false, false, false, false, false, false, false, false, false, false, false, false, false, false, false] rfl rfl (any_of HT_.out (by kernel_rfl)) (fun _ _ _ h => h) (Or.inl ⟨by rfl, ?_⟩) ?_ ?_
                  rotate_left
                  · intro w'
                    go_simp
                    with_reducible rfl
                  rotate_left
                  · simp only [Act.put, List.setIfInBounds_toArray, List.set_cons_zero, List.set_cons_succ, i64_w, i32_w]
                    rfl
                  refine pure_ (i := 3) (N := some 34) (v := ?_) (a' := ?_) #[true, true, true, true, false, false, false, false, false, false, false, false, false, false, false, false, false, false, false, false, false, false, false, false, false, false, false, false, false, false, false, false, false, false] rfl rfl (any_of HT_.out (by kernel_rfl)) (fun _ _ _ h => h) (Or.inl ⟨by rfl, ?_⟩) ?_ ?_
                  rotate_left
                  · intro w'
                    go_simp
                    with_reducible rfl
                  rotate_left
                  · simp only [Act.put, List.setIfInBounds_toArray, List.set_cons_zero, List.set_cons_succ, i64_w, i32_w]
                    rfl
                  refine take_ (i := 4) (N := some 35) (v := ?_) (a' := ?_) #[true, true, true, true, true, false, false, false, false, false, false, false, false, false, false, false, false, false, false, false, false, false, false, false, false, false, false, false, false, false, false, false, false, false] rfl rfl (take_ofW HT_.out HW_.out (by kernel_rfl)) (fun _ _ _ h => h) (Or.inl ⟨by rfl, ?_⟩) hHeld ?_ ?_
                  rotate_left
                  · rintro w' ⟨s0, s1, s2⟩
                    go_simp
                    with_reducible rfl
                  rotate_left
                  · simp only [Act.put, List.setIfInBounds_toArray, List.set_cons_zero, List.set_cons_succ, i64_w, i32_w]
                    rfl
                  refine take_ (i := 5) (N := some 36) (v := ?_) (a' := ?_) #[true, true, true, true, true, true, false, false, false, false, false, false, false, false, false, false, false, false, false, false, false, false, false, false, false, false, false, false, false, false, false, false, false, false] rfl rfl (take_ofW HT_.out HW_.out (by kernel_rfl)) (fun _ _ _ h => h) (Or.inl ⟨by rfl, ?_⟩) hHeld ?_ ?_
                  rotate_left
                  · rintro w' ⟨s0, s1, s2⟩
                    go_simp
                    with_reducible rfl
                  rotate_left
                  · simp only [Act.put, List.setIfInBounds_toArray, List.set_cons_zero, List.set_cons_succ, i64_w, i32_w]
                    rfl
                  refine one_ (i := 6) (N := some 37) #[true, true, true, true, true, true, true, false, false, false, false, false, false, false, false, false, false, false, false, false, false, false, false, false, false, false, false, false, false, false, false, false, false, false] rfl rfl (one_of HT_.out (by kernel_rfl)) (by decide) (fun K hK => ?_)
                  refine goes_ Try.func29 (by kernel_rfl) rfl #[.agg #[.slice Ao29 t643.length co29], .agg #[.slice Ao34 t648.length co34]] (by rfl) rfl rfl (by (try simp only [List.map_toArray, List.map_cons, List.map_nil]); first | done | rfl | (simp only [List.length_drop, List.length_take]; rfl)) ?_
                  with_reducible refine (soundserviceref09_Same.calls kj5 _ _ t643 _ _ t648 true _ ?side1 ?side2 ?side3 ?side4 A17.out).mono ?_
                  (case side1 => repeat (first | exact (Kd.R_reads' HO645.out).2.2 | (with_reducible refine Kd.C_alloc ?_ _) | (with_reducible refine Kd.C_drewN ?_ _) | (with_reducible refine Kd.C_drew ?_)))
                  (case side2 => exact (Kd.R_reads' HO645.out).2.1)
                  (case side3 => repeat (first | exact (Kd.R_reads' HO650.out).2.2 | (with_reducible refine Kd.C_alloc ?_ _) | (with_reducible refine Kd.C_drewN ?_ _) | (with_reducible refine Kd.C_drew ?_)))
                  (case side4 => exact (Kd.R_reads' HO650.out).2.1)
                  rintro e w40 ⟨rfl, hb⟩
                  refine ⟨_, rfl, ?_⟩
                  have n0_ := Aside0.mk (Kd.R_below (by (with_reducible repeat (first | apply Kd.R_alloc | apply Kd.R_drewN | apply Kd.R_drew)); exact HO645.out) hb)
                  have n1_ := Aside0.mk (Kd.R_below (by (with_reducible repeat (first | apply Kd.R_alloc | apply Kd.R_drewN | apply Kd.R_drew)); exact HO650.out) hb)
                  have n2_ := Aside0.mk (blk_below (g := gb640) (o := .cells #[.slice A1_0 l1_0.length c1_0] 42 (0, 0)) (by (with_reducible repeat (first | refine blk_drewN ?_ _ | refine blk_drew ?_ | refine blk_alloc ?_ _)); exact BK640.out) hb)
                  have n3_ := Aside0.mk (blk_below (g := gb647) (o := .cells #[.slice Ao29 t643.length co29] 42 (0, 0)) (by (with_reducible repeat (first | refine blk_drewN ?_ _ | refine blk_drew ?_ | refine blk_alloc ?_ _)); exact BK647.out) hb)
                  have n4_ := Aside0.mk (blk_below (g := gb652) (o := .cells #[.slice Ao34 t648.length co34] 42 (0, 0)) (by (with_reducible repeat (first | refine blk_drewN ?_ _ | refine blk_drew ?_ | refine blk_alloc ?_ _)); exact BK652.out) hb)
                  have n5_ := Aside0.mk (below_step (by repeat (first | (with_reducible first | exact HB.out | apply below_alloc | apply pw_below_drewN | apply below_drew1 | refine below_set ?_ GE640.out | refine below_set ?_ GE647.out | refine below_set ?_ GE652.out) | exact HB.out)) hb)
                  clear HO645
                  clear HO650
                  clear BK640
                  clear BK647
                  clear BK652
                  clear HB
                  have HO645 := n0_
                  have HO650 := n1_
                  have BK640 := n2_
                  have BK647 := n3_
                  have BK652 := n4_
                  have HB := n5_
                  clear n0_ n1_ n2_ n3_ n4_ n5_
                  (try clear hb)
                  (try clear hb2)
                  (try clear hk)
                  (try clear hi)
                  refine hK.out _ _ ⟨(blk_cell BK647.out 0).trans rfl, (blk_cell BK652.out 0).trans rfl, (blk_cell BK640.out 0).trans rfl⟩ (fun hHeld => ?_)
                  clear hK K
                  refine norm_ (a' := ?_) ?_ ?_
                  rotate_left
                  · show Act.put _ (some 37) _ = _
                    simp only [Act.put, List.setIfInBounds_toArray, List.set_cons_zero, List.set_cons_succ, i64_w, i32_w]
                    rfl
                  refine pure_ (i := 7) (N := some 38) (v := ?_) (a' := ?_) #[true, true, true, true, true, true, true, true, false, false, false, false, false, false, false, false, false, false, false, false, false, false, false, false, false, false, false, false, false, false, false, false, false, false] rfl rfl (any_of HT_.out (by kernel_rfl)) (fun _ _ _ h => h) (Or.inl ⟨by rfl, ?_⟩) ?_ ?_
                  rotate_left
                  · intro w'
                    go_simp
                    with_reducible rfl
                  rotate_left
                  · simp only [Act.put, List.setIfInBounds_toArray, List.set_cons_zero, List.set_cons_succ, i64_w, i32_w]
                    rfl
                  refine pure_ (i := 8) (N := some 39) (v := ?_) (a' := ?_) #[true, true, true, true, true, true, true, true, true, false, false, false, false, false, false, false, false, false, false, false, false, false, false, false, false, false, false, false, false, false, false, false, false, false] rfl rfl (any_of HT_.out (by kernel_rfl)) (fun _ _ _ h => h) (Or.inl ⟨by rfl, ?_⟩) ?_ ?_
                  rotate_left
                  · intro w'
                    go_simp
                    with_reducible rfl
                  rotate_left
                  · simp only [Act.put, List.setIfInBounds_toArray, List.set_cons_zero, List.set_cons_succ, i64_w, i32_w]
                    rfl
                  refine take_ (i := 9) (N := some 40) (v := ?_) (a' := ?_) #[true, true, true, true, true, true, true, true, true, true, false, false, false, false, false, false, false, false, false, false, false, false, false, false, false, false, false, false, false, false, false, false, false, false] rfl rfl (take_ofW HT_.out HW_.out (by kernel_rfl)) (fun _ _ _ h => h) (Or.inl ⟨by rfl, ?_⟩) hHeld ?_ ?_
                  rotate_left
                  · rintro w' ⟨s0, s1, s2⟩
                    go_simp
                    with_reducible rfl
                  rotate_left
                  · simp only [Act.put, List.setIfInBounds_toArray, List.set_cons_zero, List.set_cons_succ, i64_w, i32_w]
                    rfl
                  refine take_ (i := 11) (N := some 42) (v := ?_) (a' := ?_) #[true, true, true, true, true, true, true, true, true, true, false, true, false, false, false, false, false, false, false, false, false, false, false, false, false, false, false, false, false, false, false, false, false, false] rfl rfl (take_ofW HT_.out HW_.out (by kernel_rfl)) (fun _ _ _ h => h) (Or.inl ⟨by rfl, ?_⟩) hHeld ?_ ?_
                  rotate_left
                  · rintro w' ⟨s0, s1, s2⟩
                    go_simp
                    with_reducible rfl
                  rotate_left
                  · simp only [Act.put, List.setIfInBounds_toArray, List.set_cons_zero, List.set_cons_succ, i64_w, i32_w]
                    rfl
                  refine one_ (i := 10) (N := some 41) #[true, true, true, true, true, true, true, true, true, true, true, true, false, false, false, false, false, false, false, false, false, false, false, false, false, false, false, false, false, false, false, false, false, false] rfl rfl (one_of HT_.out (by kernel_rfl)) (by decide) (fun K hK => ?_)
                  refine goes_ Try.func30 (by kernel_rfl) rfl #[.agg #[.slice A1_0 l1_0.length c1_0]] (by rfl) rfl rfl (by (try simp only [List.map_toArray, List.map_cons, List.map_nil]); first | done | rfl | (simp only [List.length_drop, List.length_take]; rfl)) ?_
                  with_reducible refine (intset_Valid.calls kj5 _ _ l1_0 t654 _ ?side1 ?side2 A19.out).mono ?_
                  (case side1 => repeat (first | exact (Kd.C_below HR1_0.out HB.out) | (with_reducible refine Kd.C_alloc ?_ _) | (with_reducible refine Kd.C_drewN ?_ _) | (with_reducible refine Kd.C_drew ?_)))
                  (case side2 => exact HC1_0.out)
                  rintro e w41 ⟨rfl, hb⟩
                  refine ⟨_, rfl, ?_⟩
                  have n0_ := Aside0.mk (Kd.R_below (by (with_reducible repeat (first | apply Kd.R_alloc | apply Kd.R_drewN | apply Kd.R_drew)); exact HO645.out) hb)
                  have n1_ := Aside0.mk (Kd.R_below (by (with_reducible repeat (first | apply Kd.R_alloc | apply Kd.R_drewN | apply Kd.R_drew)); exact HO650.out) hb)
                  have n2_ := Aside0.mk (blk_below (g := gb640) (o := .cells #[.slice A1_0 l1_0.length c1_0] 42 (0, 0)) (by (with_reducible repeat (first | refine blk_drewN ?_ _ | refine blk_drew ?_ | refine blk_alloc ?_ _)); exact BK640.out) hb)
                  have n3_ := Aside0.mk (blk_below (g := gb647) (o := .cells #[.slice Ao29 t643.length co29] 42 (0, 0)) (by (with_reducible repeat (first | refine blk_drewN ?_ _ | refine blk_drew ?_ | refine blk_alloc ?_ _)); exact BK647.out) hb)
                  have n4_ := Aside0.mk (blk_below (g := gb652) (o := .cells #[.slice Ao34 t648.length co34] 42 (0, 0)) (by (with_reducible repeat (first | refine blk_drewN ?_ _ | refine blk_drew ?_ | refine blk_alloc ?_ _)); exact BK652.out) hb)
                  have n5_ := Aside0.mk (below_step (by repeat (first | (with_reducible first | exact HB.out | apply below_alloc | apply pw_below_drewN | apply below_drew1 | refine below_set ?_ GE640.out | refine below_set ?_ GE647.out | refine below_set ?_ GE652.out) | exact HB.out)) hb)
                  clear HO645
                  clear HO650
                  clear BK640
                  clear BK647
                  clear BK652
                  clear HB
                  have HO645 := n0_
                  have HO650 := n1_
                  have BK640 := n2_
                  have BK647 := n3_
                  have BK652 := n4_
                  have HB := n5_
                  clear n0_ n1_ n2_ n3_ n4_ n5_
                  (try clear hb)
                  (try clear hb2)
                  (try clear hk)
                  (try clear hi)
                  refine hK.out _ _ ⟨(blk_cell BK647.out 0).trans rfl, (blk_cell BK652.out 0).trans rfl, (blk_cell BK640.out 0).trans rfl⟩ (fun hHeld => ?_)
                  clear hK K
                  refine norm_ (a' := ?_) ?_ ?_
                  rotate_left
                  · show Act.put _ (some 41) _ = _
                    simp only [Act.put, List.setIfInBounds_toArray, List.set_cons_zero, List.set_cons_succ, i64_w, i32_w]
                    rfl
                  refine one_ (i := 12) (N := some 43) #[true, true, true, true, true, true, true, true, true, true, true, true, true, false, false, false, false, false, false, false, false, false, false, false, false, false, false, false, false, false, false, false, false, false] rfl rfl (one_of HT_.out (by kernel_rfl)) (by decide) (fun K hK => ?_)
                  refine goes_ Try.func31 (by kernel_rfl) rfl #[.agg #[.slice A1_0 l1_0.length c1_0]] (by rfl) rfl rfl (by (try simp only [List.map_toArray, List.map_cons, List.map_nil]); first | done | rfl | (simp only [List.length_drop, List.length_take]; rfl)) ?_
                  with_reducible refine (soundserviceref09_Valid.calls kj5 _ _ l1_0 t655 _ ?side1 ?side2 A20.out).mono ?_
                  (case side1 => repeat (first | exact (Kd.C_below HR1_0.out HB.out) | (with_reducible refine Kd.C_alloc ?_ _) | (with_reducible refine Kd.C_drewN ?_ _) | (with_reducible refine Kd.C_drew ?_)))
                  (case side2 => exact HC1_0.out)
                  rintro e w42 ⟨rfl, hb⟩
                  refine ⟨_, rfl, ?_⟩
                  have n0_ := Aside0.mk (Kd.R_below (by (with_reducible repeat (first | apply Kd.R_alloc | apply Kd.R_drewN | apply Kd.R_drew)); exact HO645.out) hb)
                  have n1_ := Aside0.mk (Kd.R_below (by (with_reducible repeat (first | apply Kd.R_alloc | apply Kd.R_drewN | apply Kd.R_drew)); exact HO650.out) hb)
                  have n2_ := Aside0.mk (blk_below (g := gb640) (o := .cells #[.slice A1_0 l1_0.length c1_0] 42 (0, 0)) (by (with_reducible repeat (first | refine blk_drewN ?_ _ | refine blk_drew ?_ | refine blk_alloc ?_ _)); exact BK640.out) hb)
                  have n3_ := Aside0.mk (blk_below (g := gb647) (o := .cells #[.slice Ao29 t643.length co29] 42 (0, 0)) (by (with_reducible repeat (first | refine blk_drewN ?_ _ | refine blk_drew ?_ | refine blk_alloc ?_ _)); exact BK647.out) hb)
                  have n4_ := Aside0.mk (blk_below (g := gb652) (o := .cells #[.slice Ao34 t648.length co34] 42 (0, 0)) (by (with_reducible repeat (first | refine blk_drewN ?_ _ | refine blk_drew ?_ | refine blk_alloc ?_ _)); exact BK652.out) hb)
                  have n5_ := Aside0.mk (below_step (by repeat (first | (with_reducible first | exact HB.out | apply below_alloc | apply pw_below_drewN | apply below_drew1 | refine below_set ?_ GE640.out | refine below_set ?_ GE647.out | refine below_set ?_ GE652.out) | exact HB.out)) hb)
                  clear HO645
                  clear HO650
                  clear BK640
                  clear BK647
                  clear BK652
                  clear HB
                  have HO645 := n0_
                  have HO650 := n1_
                  have BK640 := n2_
                  have BK647 := n3_
                  have BK652 := n4_
                  have HB := n5_
                  clear n0_ n1_ n2_ n3_ n4_ n5_
                  (try clear hb)
                  (try clear hb2)
                  (try clear hk)
                  (try clear hi)
                  refine hK.out _ _ ⟨(blk_cell BK647.out 0).trans rfl, (blk_cell BK652.out 0).trans rfl, (blk_cell BK640.out 0).trans rfl⟩ (fun hHeld => ?_)
                  clear hK K
                  refine norm_ (a' := ?_) ?_ ?_
                  rotate_left
                  · show Act.put _ (some 43) _ = _
                    simp only [Act.put, List.setIfInBounds_toArray, List.set_cons_zero, List.set_cons_succ, i64_w, i32_w]
                    rfl
                  refine pure_ (i := 13) (N := some 44) (v := ?_) (a' := ?_) #[true, true, true, true, true, true, true, true, true, true, true, true, true, true, false, false, false, false, false, false, false, false, false, false, false, false, false, false, false, false, false, false, false, false] rfl rfl (any_of HT_.out (by kernel_rfl)) (fun _ _ _ h => h) (Or.inl ⟨by rfl, ?_⟩) ?_ ?_
                  rotate_left
                  · intro w'
                    go_simp
                    with_reducible rfl
                  rotate_left
                  · simp only [Act.put, List.setIfInBounds_toArray, List.set_cons_zero, List.set_cons_succ, i64_w, i32_w]
                    rfl
                  refine pure_ (i := 14) (N := some 45) (v := ?_) (a' := ?_) #[true, true, true, true, true, true, true, true, true, true, true, true, true, true, true, false, false, false, false, false, false, false, false, false, false, false, false, false, false, false, false, false, false, false] rfl rfl (any_of HT_.out (by kernel_rfl)) (fun _ _ _ h => h) (Or.inl ⟨by rfl, ?_⟩) ?_ ?_
                  rotate_left
                  · intro w'
                    go_simp
                    with_reducible rfl
                  rotate_left
                  · simp only [Act.put, List.setIfInBounds_toArray, List.set_cons_zero, List.set_cons_succ, i64_w, i32_w]
                    rfl
                  refine pure_ (i := 15) (N := some 46) (v := ?_) (a' := ?_) #[true, true, true, true, true, true, true, true, true, true, true, true, true, true, true, true, false, false, false, false, false, false, false, false, false, false, false, false, false, false, false, false, false, false] rfl rfl (any_of HT_.out (by kernel_rfl)) (fun _ _ _ h => h) (Or.inl ⟨by rfl, ?_⟩) ?_ ?_
                  rotate_left
                  · intro w'
                    go_simp
                    with_reducible rfl
                  rotate_left
                  · simp only [Act.put, List.setIfInBounds_toArray, List.set_cons_zero, List.set_cons_succ, i64_w, i32_w]
                    rfl
                  refine pure_ (i := 17) (N := some 48) (v := ?_) (a' := ?_) #[true, true, true, true, true, true, true, true, true, true, true, true, true, true, true, true, false, true, false, false, false, false, false, false, false, false, false, false, false, false, false, false, false, false] rfl rfl (any_of HT_.out (by kernel_rfl)) (fun _ _ _ h => h) (Or.inl ⟨by rfl, ?_⟩) ?_ ?_
                  rotate_left
                  · intro w'
                    go_simp
                    with_reducible rfl
                  rotate_left
                  · simp only [Act.put, List.setIfInBounds_toArray, List.set_cons_zero, List.set_cons_succ, i64_w, i32_w]
                    rfl
                  refine pure_ (i := 20) (N := some 51) (v := ?_) (a' := ?_) #[true, true, true, true, true, true, true, true, true, true, true, true, true, true, true, true, false, true, false, false, true, false, false, false, false, false, false, false, false, false, false, false, false, false] rfl rfl (any_of HT_.out (by kernel_rfl)) (fun _ _ _ h => h) (Or.inl ⟨by rfl, ?_⟩) ?_ ?_
                  rotate_left
                  · intro w'
                    go_simp
                    with_reducible rfl
                  rotate_left
                  · simp only [Act.put, List.setIfInBounds_toArray, List.set_cons_zero, List.set_cons_succ, i64_w, i32_w]
                    rfl
                  refine take_ (i := 16) (N := some 47) (v := ?_) (a' := ?_) #[true, true, true, true, true, true, true, true, true, true, true, true, true, true, true, true, true, true, false, false, true, false, false, false, false, false, false, false, false, false, false, false, false, false] rfl rfl (take_ofW HT_.out HW_.out (by kernel_rfl)) (fun _ _ _ h => h) (Or.inl ⟨by rfl, ?_⟩) hHeld ?_ ?_
                  rotate_left
                  · rintro w' ⟨s0, s1, s2⟩
                    go_simp
                    with_reducible rfl
                  rotate_left
                  · simp only [Act.put, List.setIfInBounds_toArray, List.set_cons_zero, List.set_cons_succ, i64_w, i32_w]
                    rfl
                  refine take_ (i := 19) (N := some 50) (v := ?_) (a' := ?_) #[true, true, true, true, true, true, true, true, true, true, true, true, true, true, true, true, true, true, false, true, true, false, false, false, false, false, false, false, false, false, false, false, false, false] rfl rfl (take_ofW HT_.out HW_.out (by kernel_rfl)) (fun _ _ _ h => h) (Or.inl ⟨by rfl, ?_⟩) hHeld ?_ ?_
                  rotate_left
                  · rintro w' ⟨s0, s1, s2⟩
                    go_simp
                    with_reducible rfl
                  rotate_left
                  · simp only [Act.put, List.setIfInBounds_toArray, List.set_cons_zero, List.set_cons_succ, i64_w, i32_w]
                    rfl
                  refine one_ (i := 18) (N := some 49) #[true, true, true, true, true, true, true, true, true, true, true, true, true, true, true, true, true, true, true, true, true, false, false, false, false, false, false, false, false, false, false, false, false, false] rfl rfl (one_of HT_.out (by kernel_rfl)) (by decide) (fun K hK => ?_)
                  refine goes_ Try.func32 (by kernel_rfl) rfl #[.agg #[.slice A1_0 l1_0.length c1_0], .int .i64 a2] (by rfl) rfl rfl (by (try simp only [List.map_toArray, List.map_cons, List.map_nil]); first | done | rfl | (simp only [List.length_drop, List.length_take]; rfl)) ?_
                  with_reducible refine (intset_Has.calls kj5 _ _ l1_0 a2 t656 _ ?side1 ?side2 A22.out).mono ?_
                  (case side1 => repeat (first | exact (Kd.C_below HR1_0.out HB.out) | (with_reducible refine Kd.C_alloc ?_ _) | (with_reducible refine Kd.C_drewN ?_ _) | (with_reducible refine Kd.C_drew ?_)))
                  (case side2 => exact HC1_0.out)
                  rintro e w43 ⟨rfl, hb⟩
                  refine ⟨_, rfl, ?_⟩
                  have n0_ := Aside0.mk (Kd.R_below (by (with_reducible repeat (first | apply Kd.R_alloc | apply Kd.R_drewN | apply Kd.R_drew)); exact HO645.out) hb)
                  have n1_ := Aside0.mk (Kd.R_below (by (with_reducible repeat (first | apply Kd.R_alloc | apply Kd.R_drewN | apply Kd.R_drew)); exact HO650.out) hb)
                  have n2_ := Aside0.mk (blk_below (g := gb640) (o := .cells #[.slice A1_0 l1_0.length c1_0] 42 (0, 0)) (by (with_reducible repeat (first | refine blk_drewN ?_ _ | refine blk_drew ?_ | refine blk_alloc ?_ _)); exact BK640.out) hb)
                  have n3_ := Aside0.mk (blk_below (g := gb647) (o := .cells #[.slice Ao29 t643.length co29] 42 (0, 0)) (by (with_reducible repeat (first | refine blk_drewN ?_ _ | refine blk_drew ?_ | refine blk_alloc ?_ _)); exact BK647.out) hb)
                  have n4_ := Aside0.mk (blk_below (g := gb652) (o := .cells #[.slice Ao34 t648.length co34] 42 (0, 0)) (by (with_reducible repeat (first | refine blk_drewN ?_ _ | refine blk_drew ?_ | refine blk_alloc ?_ _)); exact BK652.out) hb)
                  have n5_ := Aside0.mk (below_step (by repeat (first | (with_reducible first | exact HB.out | apply below_alloc | apply pw_below_drewN | apply below_drew1 | refine below_set ?_ GE640.out | refine below_set ?_ GE647.out | refine below_set ?_ GE652.out) | exact HB.out)) hb)
                  clear HO645
                  clear HO650
                  clear BK640
                  clear BK647
                  clear BK652
                  clear HB
                  have HO645 := n0_
                  have HO650 := n1_
                  have BK640 := n2_
                  have BK647 := n3_
                  have BK652 := n4_
                  have HB := n5_
                  clear n0_ n1_ n2_ n3_ n4_ n5_
                  (try clear hb)
                  (try clear hb2)
                  (try clear hk)
                  (try clear hi)
                  refine hK.out _ _ ⟨(blk_cell BK647.out 0).trans rfl, (blk_cell BK652.out 0).trans rfl, (blk_cell BK640.out 0).trans rfl⟩ (fun hHeld => ?_)
                  clear hK K
                  refine norm_ (a' := ?_) ?_ ?_
                  rotate_left
                  · show Act.put _ (some 49) _ = _
                    simp only [Act.put, List.setIfInBounds_toArray, List.set_cons_zero, List.set_cons_succ, i64_w, i32_w]
                    rfl
                  refine one_ (i := 21) (N := some 52) #[true, true, true, true, true, true, true, true, true, true, true, true, true, true, true, true, true, true, true, true, true, true, false, false, false, false, false, false, false, false, false, false, false, false] rfl rfl (one_of HT_.out (by kernel_rfl)) (by decide) (fun K hK => ?_)
                  refine goes_ Try.func33 (by kernel_rfl) rfl #[.agg #[.slice A1_0 l1_0.length c1_0], .int .i64 a2] (by rfl) rfl rfl (by (try simp only [List.map_toArray, List.map_cons, List.map_nil]); first | done | rfl | (simp only [List.length_drop, List.length_take]; rfl)) ?_
                  with_reducible refine (soundserviceref09_Has.calls kj5 _ _ l1_0 a2 t657 _ ?side1 ?side2 A23.out).mono ?_
                  (case side1 => repeat (first | exact (Kd.C_below HR1_0.out HB.out) | (with_reducible refine Kd.C_alloc ?_ _) | (with_reducible refine Kd.C_drewN ?_ _) | (with_reducible refine Kd.C_drew ?_)))
                  (case side2 => exact HC1_0.out)
                  rintro e w44 ⟨rfl, hb⟩
                  refine ⟨_, rfl, ?_⟩
                  have n0_ := Aside0.mk (Kd.R_below (by (with_reducible repeat (first | apply Kd.R_alloc | apply Kd.R_drewN | apply Kd.R_drew)); exact HO645.out) hb)
                  have n1_ := Aside0.mk (Kd.R_below (by (with_reducible repeat (first | apply Kd.R_alloc | apply Kd.R_drewN | apply Kd.R_drew)); exact HO650.out) hb)
                  have n2_ := Aside0.mk (blk_below (g := gb640) (o := .cells #[.slice A1_0 l1_0.length c1_0] 42 (0, 0)) (by (with_reducible repeat (first | refine blk_drewN ?_ _ | refine blk_drew ?_ | refine blk_alloc ?_ _)); exact BK640.out) hb)
                  have n3_ := Aside0.mk (blk_below (g := gb647) (o := .cells #[.slice Ao29 t643.length co29] 42 (0, 0)) (by (with_reducible repeat (first | refine blk_drewN ?_ _ | refine blk_drew ?_ | refine blk_alloc ?_ _)); exact BK647.out) hb)
                  have n4_ := Aside0.mk (blk_below (g := gb652) (o := .cells #[.slice Ao34 t648.length co34] 42 (0, 0)) (by (with_reducible repeat (first | refine blk_drewN ?_ _ | refine blk_drew ?_ | refine blk_alloc ?_ _)); exact BK652.out) hb)
                  have n5_ := Aside0.mk (below_step (by repeat (first | (with_reducible first | exact HB.out | apply below_alloc | apply pw_below_drewN | apply below_drew1 | refine below_set ?_ GE640.out | refine below_set ?_ GE647.out | refine below_set ?_ GE652.out) | exact HB.out)) hb)
                  clear HO645
                  clear HO650
                  clear BK640
                  clear BK647
                  clear BK652
                  clear HB
                  have HO645 := n0_
                  have HO650 := n1_
                  have BK640 := n2_
                  have BK647 := n3_
                  have BK652 := n4_
                  have HB := n5_
                  clear n0_ n1_ n2_ n3_ n4_ n5_
                  (try clear hb)
                  (try clear hb2)
                  (try clear hk)
                  (try clear hi)
                  refine hK.out _ _ ⟨(blk_cell BK647.out 0).trans rfl, (blk_cell BK652.out 0).trans rfl, (blk_cell BK640.out 0).trans rfl⟩ (fun hHeld => ?_)
                  clear hK K
                  refine norm_ (a' := ?_) ?_ ?_
                  rotate_left
                  · show Act.put _ (some 52) _ = _
                    simp only [Act.put, List.setIfInBounds_toArray, List.set_cons_zero, List.set_cons_succ, i64_w, i32_w]
                    rfl
                  refine pure_ (i := 22) (N := some 53) (v := ?_) (a' := ?_) #[true, true, true, true, true, true, true, true, true, true, true, true, true, true, true, true, true, true, true, true, true, true, true, false, false, false, false, false, false, false, false, false, false, false] rfl rfl (any_of HT_.out (by kernel_rfl)) (fun _ _ _ h => h) (Or.inl ⟨by rfl, ?_⟩) ?_ ?_
                  rotate_left
                  · intro w'
                    go_simp
                    with_reducible rfl
                  rotate_left
                  · simp only [Act.put, List.setIfInBounds_toArray, List.set_cons_zero, List.set_cons_succ, i64_w, i32_w]
                    rfl
                  refine pure_ (i := 23) (N := some 54) (v := ?_) (a' := ?_) #[true, true, true, true, true, true, true, true, true, true, true, true, true, true, true, true, true, true, true, true, true, true, true, true, false, false, false, false, false, false, false, false, false, false] rfl rfl (any_of HT_.out (by kernel_rfl)) (fun _ _ _ h => h) (Or.inl ⟨by rfl, ?_⟩) ?_ ?_
                  rotate_left
                  · intro w'
                    go_simp
                    with_reducible rfl
                  rotate_left
                  · simp only [Act.put, List.setIfInBounds_toArray, List.set_cons_zero, List.set_cons_succ, i64_w, i32_w]
                    rfl
                  refine pure_ (i := 24) (N := some 55) (v := ?_) (a' := ?_) #[true, true, true, true, true, true, true, true, true, true, true, true, true, true, true, true, true, true, true, true, true, true, true, true, true, false, false, false, false, false, false, false, false, false] rfl rfl (any_of HT_.out (by kernel_rfl)) (fun _ _ _ h => h) (Or.inl ⟨by rfl, ?_⟩) ?_ ?_
                  rotate_left
                  · intro w'
                    go_simp
                    with_reducible rfl
                  rotate_left
                  · simp only [Act.put, List.setIfInBounds_toArray, List.set_cons_zero, List.set_cons_succ, i64_w, i32_w]
                    rfl
                  refine pure_ (i := 26) (N := some 57) (v := ?_) (a' := ?_) #[true, true, true, true, true, true, true, true, true, true, true, true, true, true, true, true, true, true, true, true, true, true, true, true, true, false, true, false, false, false, false, false, false, false] rfl rfl (any_of HT_.out (by kernel_rfl)) (fun _ _ _ h => h) (Or.inl ⟨by rfl, ?_⟩) ?_ ?_
                  rotate_left
                  · intro w'
                    go_simp
                    with_reducible rfl
                  rotate_left
                  · simp only [Act.put, List.setIfInBounds_toArray, List.set_cons_zero, List.set_cons_succ, i64_w, i32_w]
                    rfl
                  refine pure_ (i := 29) (N := some 60) (v := ?_) (a' := ?_) #[true, true, true, true, true, true, true, true, true, true, true, true, true, true, true, true, true, true, true, true, true, true, true, true, true, false, true, false, false, true, false, false, false, false] rfl rfl (any_of HT_.out (by kernel_rfl)) (fun _ _ _ h => h) (Or.inl ⟨by rfl, ?_⟩) ?_ ?_
                  rotate_left
                  · intro w'
                    go_simp
                    with_reducible rfl
                  rotate_left
                  · simp only [Act.put, List.setIfInBounds_toArray, List.set_cons_zero, List.set_cons_succ, i64_w, i32_w]
                    rfl
                  refine take_ (i := 25) (N := some 56) (v := ?_) (a' := ?_) #[true, true, true, true, true, true, true, true, true, true, true, true, true, true, true, true, true, true, true, true, true, true, true, true, true, true, true, false, false, true, false, false, false, false] rfl rfl (take_ofW HT_.out HW_.out (by kernel_rfl)) (fun _ _ _ h => h) (Or.inl ⟨by rfl, ?_⟩) hHeld ?_ ?_
                  rotate_left
                  · rintro w' ⟨s0, s1, s2⟩
                    go_simp
                    with_reducible rfl
                  rotate_left
                  · simp only [Act.put, List.setIfInBounds_toArray, List.set_cons_zero, List.set_cons_succ, i64_w, i32_w]
                    rfl
                  refine take_ (i := 28) (N := some 59) (v := ?_) (a' := ?_) #[true, true, true, true, true, true, true, true, true, true, true, true, true, true, true, true, true, true, true, true, true, true, true, true, true, true, true, false, true, true, false, false, false, false] rfl rfl (take_ofW HT_.out HW_.out (by kernel_rfl)) (fun _ _ _ h => h) (Or.inl ⟨by rfl, ?_⟩) hHeld ?_ ?_
                  rotate_left
                  · rintro w' ⟨s0, s1, s2⟩
                    go_simp
                    with_reducible rfl
                  rotate_left
                  · simp only [Act.put, List.setIfInBounds_toArray, List.set_cons_zero, List.set_cons_succ, i64_w, i32_w]
                    rfl
                  refine one_ (i := 27) (N := some 58) #[true, true, true, true, true, true, true, true, true, true, true, true, true, true, true, true, true, true, true, true, true, true, true, true, true, true, true, true, true, true, false, false, false, false] rfl rfl (one_of HT_.out (by kernel_rfl)) (by decide) (fun K hK => ?_)
                  refine goes_ Try.func32 (by kernel_rfl) rfl #[.agg #[.slice Ao34 t648.length co34], .int .i64 a2] (by rfl) rfl rfl (by (try simp only [List.map_toArray, List.map_cons, List.map_nil]); first | done | rfl | (simp only [List.length_drop, List.length_take]; rfl)) ?_
                  with_reducible refine (intset_Has.calls kj5 _ _ t648 a2 t658 _ ?side1 ?side2 A25.out).mono ?_
                  (case side1 => repeat (first | exact (Kd.R_reads' HO650.out).2.2 | (with_reducible refine Kd.C_alloc ?_ _) | (with_reducible refine Kd.C_drewN ?_ _) | (with_reducible refine Kd.C_drew ?_)))
                  (case side2 => exact (Kd.R_reads' HO650.out).2.1)
                  rintro e w45 ⟨rfl, hb⟩
                  refine ⟨_, rfl, ?_⟩
                  have n0_ := Aside0.mk (Kd.R_below (by (with_reducible repeat (first | apply Kd.R_alloc | apply Kd.R_drewN | apply Kd.R_drew)); exact HO645.out) hb)
                  have n1_ := Aside0.mk (Kd.R_below (by (with_reducible repeat (first | apply Kd.R_alloc | apply Kd.R_drewN | apply Kd.R_drew)); exact HO650.out) hb)
                  have n2_ := Aside0.mk (blk_below (g := gb640) (o := .cells #[.slice A1_0 l1_0.length c1_0] 42 (0, 0)) (by (with_reducible repeat (first | refine blk_drewN ?_ _ | refine blk_drew ?_ | refine blk_alloc ?_ _)); exact BK640.out) hb)
                  have n3_ := Aside0.mk (blk_below (g := gb647) (o := .cells #[.slice Ao29 t643.length co29] 42 (0, 0)) (by (with_reducible repeat (first | refine blk_drewN ?_ _ | refine blk_drew ?_ | refine blk_alloc ?_ _)); exact BK647.out) hb)
                  have n4_ := Aside0.mk (blk_below (g := gb652) (o := .cells #[.slice Ao34 t648.length co34] 42 (0, 0)) (by (with_reducible repeat (first | refine blk_drewN ?_ _ | refine blk_drew ?_ | refine blk_alloc ?_ _)); exact BK652.out) hb)
                  have n5_ := Aside0.mk (below_step (by repeat (first | (with_reducible first | exact HB.out | apply below_alloc | apply pw_below_drewN | apply below_drew1 | refine below_set ?_ GE640.out | refine below_set ?_ GE647.out | refine below_set ?_ GE652.out) | exact HB.out)) hb)
                  clear HO645
                  clear HO650
                  clear BK640
                  clear BK647
                  clear BK652
                  clear HB
                  have HO645 := n0_
                  have HO650 := n1_
                  have BK640 := n2_
                  have BK647 := n3_
                  have BK652 := n4_
                  have HB := n5_
                  clear n0_ n1_ n2_ n3_ n4_ n5_
                  (try clear hb)
                  (try clear hb2)
                  (try clear hk)
                  (try clear hi)
                  refine hK.out _ _ ⟨(blk_cell BK647.out 0).trans rfl, (blk_cell BK652.out 0).trans rfl, (blk_cell BK640.out 0).trans rfl⟩ (fun hHeld => ?_)
                  clear hK K
                  refine norm_ (a' := ?_) ?_ ?_
                  rotate_left
                  · show Act.put _ (some 58) _ = _
                    simp only [Act.put, List.setIfInBounds_toArray, List.set_cons_zero, List.set_cons_succ, i64_w, i32_w]
                    rfl
                  refine one_ (i := 30) (N := some 61) #[true, true, true, true, true, true, true, true, true, true, true, true, true, true, true, true, true, true, true, true, true, true, true, true, true, true, true, true, true, true, true, false, false, false] rfl rfl (one_of HT_.out (by kernel_rfl)) (by decide) (fun K hK => ?_)
                  refine goes_ Try.func33 (by kernel_rfl) rfl #[.agg #[.slice Ao34 t648.length co34], .int .i64 a2] (by rfl) rfl rfl (by (try simp only [List.map_toArray, List.map_cons, List.map_nil]); first | done | rfl | (simp only [List.length_drop, List.length_take]; rfl)) ?_
                  with_reducible refine (soundserviceref09_Has.calls kj5 _ _ t648 a2 t659 _ ?side1 ?side2 A26.out).mono ?_
                  (case side1 => repeat (first | exact (Kd.R_reads' HO650.out).2.2 | (with_reducible refine Kd.C_alloc ?_ _) | (with_reducible refine Kd.C_drewN ?_ _) | (with_reducible refine Kd.C_drew ?_)))
                  (case side2 => exact (Kd.R_reads' HO650.out).2.1)
                  rintro e w46 ⟨rfl, hb⟩
                  refine ⟨_, rfl, ?_⟩
                  have n0_ := Aside0.mk (Kd.R_below (by (with_reducible repeat (first | apply Kd.R_alloc | apply Kd.R_drewN | apply Kd.R_drew)); exact HO645.out) hb)
                  have n1_ := Aside0.mk (Kd.R_below (by (with_reducible repeat (first | apply Kd.R_alloc | apply Kd.R_drewN | apply Kd.R_drew)); exact HO650.out) hb)
                  have n2_ := Aside0.mk (blk_below (g := gb640) (o := .cells #[.slice A1_0 l1_0.length c1_0] 42 (0, 0)) (by (with_reducible repeat (first | refine blk_drewN ?_ _ | refine blk_drew ?_ | refine blk_alloc ?_ _)); exact BK640.out) hb)
                  have n3_ := Aside0.mk (blk_below (g := gb647) (o := .cells #[.slice Ao29 t643.length co29] 42 (0, 0)) (by (with_reducible repeat (first | refine blk_drewN ?_ _ | refine blk_drew ?_ | refine blk_alloc ?_ _)); exact BK647.out) hb)
                  have n4_ := Aside0.mk (blk_below (g := gb652) (o := .cells #[.slice Ao34 t648.length co34] 42 (0, 0)) (by (with_reducible repeat (first | refine blk_drewN ?_ _ | refine blk_drew ?_ | refine blk_alloc ?_ _)); exact BK652.out) hb)
                  have n5_ := Aside0.mk (below_step (by repeat (first | (with_reducible first | exact HB.out | apply below_alloc | apply pw_below_drewN | apply below_drew1 | refine below_set ?_ GE640.out | refine below_set ?_ GE647.out | refine below_set ?_ GE652.out) | exact HB.out)) hb)
                  clear HO645
                  clear HO650
                  clear BK640
                  clear BK647
                  clear BK652
                  clear HB
                  have HO645 := n0_
                  have HO650 := n1_
                  have BK640 := n2_
                  have BK647 := n3_
                  have BK652 := n4_
                  have HB := n5_
                  clear n0_ n1_ n2_ n3_ n4_ n5_
                  (try clear hb)
                  (try clear hb2)
                  (try clear hk)
                  (try clear hi)
                  refine hK.out _ _ ⟨(blk_cell BK647.out 0).trans rfl, (blk_cell BK652.out 0).trans rfl, (blk_cell BK640.out 0).trans rfl⟩ (fun hHeld => ?_)
                  clear hK K
                  refine norm_ (a' := ?_) ?_ ?_
                  rotate_left
                  · show Act.put _ (some 61) _ = _
                    simp only [Act.put, List.setIfInBounds_toArray, List.set_cons_zero, List.set_cons_succ, i64_w, i32_w]
                    rfl
                  refine pure_ (i := 31) (N := some 62) (v := ?_) (a' := ?_) #[true, true, true, true, true, true, true, true, true, true, true, true, true, true, true, true, true, true, true, true, true, true, true, true, true, true, true, true, true, true, true, true, false, false] rfl rfl (any_of HT_.out (by kernel_rfl)) (fun _ _ _ h => h) (Or.inl ⟨by rfl, ?_⟩) ?_ ?_
                  rotate_left
                  · intro w'
                    go_simp
                    with_reducible rfl
                  rotate_left
                  · simp only [Act.put, List.setIfInBounds_toArray, List.set_cons_zero, List.set_cons_succ, i64_w, i32_w]
                    rfl
                  refine pure_ (i := 32) (N := some 63) (v := ?_) (a' := ?_) #[true, true, true, true, true, true, true, true, true, true, true, true, true, true, true, true, true, true, true, true, true, true, true, true, true, true, true, true, true, true, true, true, true, false] rfl rfl (any_of HT_.out (by kernel_rfl)) (fun _ _ _ h => h) (Or.inl ⟨by rfl, ?_⟩) ?_ ?_
                  rotate_left
                  · intro w'
                    go_simp
                    with_reducible rfl
                  rotate_left
                  · simp only [Act.put, List.setIfInBounds_toArray, List.set_cons_zero, List.set_cons_succ, i64_w, i32_w]
                    rfl
                  refine pure_ (i := 33) (N := some 6) (v := ?_) (a' := ?_) #[true, true, true, true, true, true, true, true, true, true, true, true, true, true, true, true, true, true, true, true, true, true, true, true, true, true, true, true, true, true, true, true, true, true] rfl rfl (any_of HT_.out (by kernel_rfl)) (fun _ _ _ h => h) (Or.inl ⟨by rfl, ?_⟩) ?_ ?_
                  rotate_left
                  · intro w'
                    go_simp
                    with_reducible rfl
                  rotate_left
                  · simp only [Act.put, List.setIfInBounds_toArray, List.set_cons_zero, List.set_cons_succ, i64_w, i32_w]
                    rfl
                  refine done_ (done_of HT_.out (by kernel_rfl)) ?_
                  try go_wp2
                  go_ret
                  exact ⟨by first | rfl | (simp [errW_none, errW_some] <;> rfl) | (simp [*, errW_none, errW_some] <;> rfl), by repeat (first | (with_reducible first | exact HB.out | apply below_alloc | apply pw_below_drewN | apply below_drew1 | refine below_set ?_ GE640.out | refine below_set ?_ GE647.out | refine below_set ?_ GE652.out) | exact HB.out)⟩
                · rw [if_neg c24] at H
                  have c24b0 : (t656 == t657) = false := by simpa using c24
                  (try (have c24b1 : decide (t656 = t657) = false := by simpa using c24))
                  (try (have c24b2 : (t656 == t657) = false := by simpa using c24))
                  (try (have c24b3 : ¬ (t656 = t657) := by simpa using c24))
                  clear c24
                  exact absurd (Option.some.inj H) (by rw [hT_.out]; simp)
              · rw [if_neg c21] at H
                have c21b0 : (t654 == t655) = false := by simpa using c21
                (try (have c21b1 : decide (t654 = t655) = false := by simpa using c21))
                (try (have c21b2 : (t654 == t655) = false := by simpa using c21))
                (try (have c21b3 : ¬ (t654 = t655) := by simpa using c21))
                clear c21
                exact absurd (Option.some.inj H) (by rw [hT_.out]; simp)
            · replace c18 := Bool.eq_false_iff.mpr c18
              subst c18
              have H1 : (some false) = some r := by rw [if_neg (show ¬ (false = true) by decide)] at H; exact H
              clear H
              have H := H1
              clear H1
              exact absurd (Option.some.inj H) (by rw [hT_.out]; simp)
          · rw [if_neg c16] at H
            have c16b0 : (t646 == t651) = false := beq_eq_false_iff_ne.mpr c16
            have c16b1 : (t646 != t651) = true := bne_iff_ne.mpr c16
            exact absurd (Option.some.inj H) (by rw [hT_.out]; simp)
  · replace c5 := Bool.eq_false_iff.mpr c5
    subst c5
    have H1 : (some false) = some r := by rw [if_neg (show ¬ (false = true) by decide)] at H; exact H
    clear H
    have H := H1
    clear H1
    exact absurd (Option.some.inj H) (by rw [hT_.out]; simp)
end Go.Proofs.Ytbahibaohehojaa.Q
-- YtbahibaohehojaaQHOpen
namespace Go.Proofs.Ytbahibaohehojaa.Q
open Go.RowKit Go.Proofs.YtbahibaohehojaaW.PrintWords Go.Proofs.YtbahibaohehojaaW.PrintLast Go.Proofs.YtbahibaohehojaaW.PrintMore
attribute [local go_sem] max2_int min2_int max_two min_two max_three min_three max_four min_four
set_option linter.unusedVariables false
set_option linter.unusedSimpArgs false
open Go.ChangeShapes Go.WideShapes
structure Opens {α : Type} (t : TypeId) (d : Kd α) (wf : α → Prop) : Prop where
  get : ∀ {H : Type} {enc : TypeId × Value → H} {w : World} {fuel : Nat} {cs : List Value} {x : DataW H × List MemPlace}, DataW.trod enc Try.prog w 0 (fun _ => true) true fuel t cs = some x → ∃ y : α, d.K w y cs ∧ wf y
  size : Try.prog.cellsOf t = d.sz
theorem Opens.int {t : TypeId} {k : IntKind} (ht : Try.prog.underlying t = some (.int k)) (hs : Try.prog.cellsOf t = 1) : Opens t (Kd.int k) (fun n => (Lit.int k n).wf = true) where
  get h := by
    obtain ⟨n, rfl, _, hw⟩ := DataW.trod_int ht h
    exact ⟨n, rfl, hw⟩
  size := hs
theorem Opens.slice {α : Type} [Inhabited α] {t e : TypeId} {d : Kd α} {wf : α → Prop} (ht : Try.prog.underlying t = some (.slice e)) (hs : Try.prog.cellsOf t = 1) (he : Opens e d wf) :
    Opens t (Kd.slice e d) (fun l => l.length ≤ maxLen ∧ ∀ x ∈ l, wf x) where
  get {H enc w fuel cs x} h := by
    rcases Go.Deep.open_slice ht h with ⟨rfl, _⟩ | ⟨a, len, cap, m, n, D, Pl, rfl, _, hl, hm, hmm, _, hx⟩
    · exact ⟨[], ⟨none, 0, rfl, Nat.le_refl _, Kd.C_nil d w⟩, by simp, fun _ h => by cases h⟩
    · simp only [if_true] at hmm
      subst hmm
      obtain ⟨f, hf⟩ := Go.Deep.choose_lt (α := α) (p := fun i y => ∃ cs', w.cells? 0 (a.add (i * Try.prog.cellsOf e)) (Try.prog.cellsOf e) = some cs' ∧ d.K w y cs' ∧ wf y) (n := m) (fun i hi => by
        obtain ⟨cs', h1, h2⟩ := hx i hi
        obtain ⟨y, hy, hw⟩ := he.get h2
        exact ⟨y, cs', h1, hy, hw⟩)
      have hlen : ((List.range len).map f).length = len := by simp
      refine ⟨(List.range len).map f, ⟨some a, m, by rw [hlen], by rw [hlen]; exact hl, by rw [hlen], ?_, fun _ => ⟨a, rfl, fun j p hj => ?_⟩⟩, ?_, fun y hy => ?_⟩
      · rw [hlen]; simp only [maxLen] at hm; omega
      · have hjl : j < len := by
          have := (List.getElem?_eq_some_iff.1 hj).1
          simpa using this
        have hp : f j = p := by simpa [hjl] using hj
        obtain ⟨cs', h1, h2, _⟩ := hf j (by omega)
        rw [hp] at h2
        obtain ⟨_, hcl, hcc⟩ := World.cells?_some h1
        refine ⟨cs', by rw [hcl, he.size], h2, fun i u hu => ?_⟩
        have hi : i < Try.prog.cellsOf e := by
          have := (List.getElem?_eq_some_iff.1 hu).1
          omega
        rw [← he.size, ← Go.Deep.add_add, hcc i hi]
        exact hu
      · rw [hlen]; omega
      · obtain ⟨j, hj, rfl⟩ := List.mem_map.1 hy
        obtain ⟨_, _, _, hw⟩ := hf j (by have := List.mem_range.1 hj; omega)
        exact hw
  size := hs
instance : Inhabited S56 := ⟨z56⟩
instance : Inhabited S42 := ⟨z42⟩
def wfSpan (x : S56) : Prop := (Lit.int .i64 x.f0).wf = true ∧ (Lit.int .i64 x.f1).wf = true
theorem opens_int : Opens 3 (Kd.int .i64) (fun n => (Lit.int .i64 n).wf = true) := Opens.int Try.underlying3 (by kernel_rfl)
theorem one_cell {cs : List Value} (h : cs.length = 1) : ∃ c0, cs = [c0] := List.length_eq_one_iff.1 h
theorem two_cells : ∀ {cs : List Value}, cs.length = 2 → ∃ c0 c1, cs = [c0, c1]
  | [c0, c1], _ => ⟨c0, c1, rfl⟩
theorem cells_int : Try.prog.cellsOf 3 = 1 := by kernel_rfl
theorem cells_span : Try.prog.cellsOf 56 = 2 := by kernel_rfl
theorem cells_set : Try.prog.cellsOf 42 = 1 := by kernel_rfl
theorem cells_spans : Try.prog.cellsOf 40 = 1 := by kernel_rfl
theorem opens_span : Opens 56 k56 wfSpan where
  get {H enc w fuel cs x} h := by
    obtain ⟨y0, y1, n, _, hl, h0, h1⟩ := trod_struct2 Try.underlying56 h
    rw [cells_span] at hl
    obtain ⟨c0, c1, rfl⟩ := two_cells hl
    simp only [cells_int, List.drop_zero, List.drop_succ_cons, List.take_succ_cons, List.take_zero] at h0 h1
    obtain ⟨a, e0, hw0⟩ := opens_int.get h0
    obtain ⟨b, e1, hw1⟩ := opens_int.get h1
    have e0' : [c0] = [Value.int .i64 a] := e0
    have e1' : [c1] = [Value.int .i64 b] := e1
    injection e0' with e0' _
    injection e1' with e1' _
    subst e0'
    subst e1'
    exact ⟨⟨a, b⟩, k56_mk _ ⟨a, b⟩, hw0, hw1⟩
  size := cells_span
def wfSpans (l : List S56) : Prop := l.length ≤ maxLen ∧ ∀ x ∈ l, wfSpan x
theorem opens_spans : Opens 40 (Kd.slice 56 k56) wfSpans := Opens.slice Try.underlying40 (by kernel_rfl) opens_span
theorem opens_set : Opens 42 k42 (fun s => wfSpans s.f0) where
  get {H enc w fuel cs x} h := by
    obtain ⟨xs, n, _, _, hl, hx, hf⟩ := DataW.trod_struct Try.underlying42 h
    rw [cells_set] at hl
    obtain ⟨c0, rfl⟩ := one_cell hl
    have h0 : DataW.trod enc Try.prog w 0 (fun _ => true) true n 40 (List.take (Try.prog.cellsOf 40) (List.drop 0 [c0])) = xs[0]? := hf 0 _ rfl
    rw [cells_spans] at h0
    cases xs with
    | nil => simp at hx
    | cons y ys =>
      obtain ⟨l, hk, hw⟩ := opens_spans.get h0
      exact ⟨⟨l⟩, hk, hw⟩
  size := cells_set
theorem Opens.slice_at {α : Type} {t e : TypeId} {d : Kd α} {wf : List α → Prop} (ho : Opens t (Kd.slice e d) wf) {H : Type} {enc : TypeId × Value → H} {w : World} {a : Option Addr} {n c : Nat} {x : DataW H} {ps : List MemPlace}
    (h : DataW.Trod enc Try.prog w 0 (fun _ => true) true t (.slice a n c) x ps) : ∃ l : List α, n = l.length ∧ l.length ≤ c ∧ d.C w a l.length l ∧ wf l := by
  obtain ⟨fuel, hf⟩ := h
  obtain ⟨l, ⟨A, c', he, hl, hC⟩, hw⟩ := ho.get hf
  have he' : [Value.slice a n c] = [Value.slice A l.length c'] := by simpa [Value.cells] using he
  injection he' with he' _
  injection he' with h1 h2 h3
  subst h1
  subst h3
  exact ⟨l, h2, hl, hC, hw⟩
theorem set_at {H : Type} {enc : TypeId × Value → H} {w : World} {cs : Array Value} {x : DataW H} {ps : List MemPlace} (h : DataW.Trod enc Try.prog w 0 (fun _ => true) true 42 (.agg cs) x ps) :
    ∃ (A : Option Addr) (c : Nat) (l : List S56), cs = #[.slice A l.length c] ∧ l.length ≤ c ∧ Kd.C k56 w A l.length l ∧ wfSpans l := by
  obtain ⟨fuel, hf⟩ := h
  obtain ⟨y, hk, hw⟩ := opens_set.get hf
  obtain ⟨A, c, he, hl, hC⟩ := k42_open hk
  refine ⟨A, c, y.f0, ?_, hl, hC, hw⟩
  have : cs.toList = [.slice A y.f0.length c] := by simpa [Value.cells] using he
  exact Array.toList_inj.1 this
end Go.Proofs.Ytbahibaohehojaa.Q
-- YtbahibaohehojaaQHLMakes
namespace Go.Proofs.Ytbahibaohehojaa.Q
open Go.RowKit Go.Proofs.YtbahibaohehojaaW.PrintWords Go.Proofs.YtbahibaohehojaaW.PrintLast Go.Proofs.YtbahibaohehojaaW.PrintMore
attribute [local go_sem] max2_int min2_int max_two min_two max_three min_three max_four min_four
set_option linter.unusedVariables false
set_option linter.unusedSimpArgs false
def soundservicelaw09_IntsetMakes.Pure : Prop := ∀ (l0 l1 : List S56) (a2 : Int), wfSpans l0 → wfSpans l1 → (Lit.int .i64 a2).wf = true → ∃ k, soundservicelaw09_IntsetMakes.f k l0 l1 a2 = some true
theorem soundservicelaw09_IntsetMakes.walk (P : soundservicelaw09_IntsetMakes.Pure) (A0 : Option Addr) (c0 : Nat) (l0 : List S56) (A1 : Option Addr) (c1 : Nat) (l1 : List S56) (a2 : Int) (w : World)
    (hC0 : Kd.C k56 w A0 l0.length l0) (hc0 : l0.length ≤ c0) (hw0 : wfSpans l0) (hC1 : Kd.C k56 w A1 l1.length l1) (hc1 : l1.length ≤ c1) (hw1 : wfSpans l1) (w2 : (Lit.int .i64 a2).wf = true) :
    Calls Try.prog 5 #[.slice A0 l0.length c0, .agg #[.slice A1 l1.length c1], .int .i64 a2] w fun e w' => e = .returned (.bool true) ∧ Below w.heap.size w w' := by
  obtain ⟨k, h⟩ := P l0 l1 a2 hw0 hw1 w2
  exact soundservicelaw09_IntsetMakes.calls k A0 c0 l0 A1 c1 l1 a2 true w hC0 hc0 hC1 hc1 ⟨rfl⟩ h
end Go.Proofs.Ytbahibaohehojaa.Q
-- YtbahibaohehojaaQEnter
namespace Go.Proofs.Ytbahibaohehojaa.Q
open Go.RowKit Go.Proofs.YtbahibaohehojaaW.PrintWords Go.Proofs.YtbahibaohehojaaW.PrintLast Go.Proofs.YtbahibaohehojaaW.PrintMore
attribute [local go_sem] max2_int min2_int max_two min_two max_three min_three max_four min_four
set_option linter.unusedVariables false
set_option linter.unusedSimpArgs false
def joinW : List (List Char) → List Char
  | [] => []
  | [w] => w
  | w :: v :: ws => w ++ ' ' :: joinW (v :: ws)
theorem ws_char {c : Char} {r : List Char} (h : c ≠ ' ') {w : List Char} {ws : List (List Char)} (hr : wordsSigns r = w :: ws) : wordsSigns (c :: r) = (c :: w) :: ws := by
  rw [wordsSigns.eq_3 c r h, hr]
theorem ws_space (r : List Char) : wordsSigns (' ' :: r) = [] :: wordsSigns r := by
  rw [wordsSigns.eq_2]
theorem ws_word (r : List Char) : ∀ w : List Char, (∀ c ∈ w, c ≠ ' ') → wordsSigns (w ++ ' ' :: r) = w :: wordsSigns r
  | [], _ => ws_space r
  | c :: w, h => ws_char (h c List.mem_cons_self) (ws_word r w fun x hx => h x (List.mem_cons_of_mem _ hx))
theorem ws_last : ∀ w : List Char, (∀ c ∈ w, c ≠ ' ') → wordsSigns w = [w]
  | [], _ => by rw [wordsSigns.eq_1]
  | c :: w, h => ws_char (h c List.mem_cons_self) (ws_last w fun x hx => h x (List.mem_cons_of_mem _ hx))
theorem ws_join : ∀ ws : List (List Char), ws ≠ [] → (∀ w ∈ ws, ∀ c ∈ w, c ≠ ' ') → wordsSigns (joinW ws) = ws
  | [], h, _ => absurd rfl h
  | [w], _, h => ws_last w (h w List.mem_cons_self)
  | w :: v :: ws, _, h => by
    show wordsSigns (w ++ ' ' :: joinW (v :: ws)) = _
    rw [ws_word _ w (h w List.mem_cons_self), ws_join (v :: ws) (by simp) (fun x hx => h x (List.mem_cons_of_mem _ hx))]
def headWords : List (List Char) := [['h', 'a', 'r', 'n', 'e', 's', 's'],
  ['0', '5', '4', '4', '3', 'e', '7', '0', '4', 'd', '7', 'e', 'c', '0', 'e', '3', 'a', '5', '8', 'b', 'e', '4', '2', 'f', '9', '6', 'd', 'b', 'f', '8', '9', 'f', 'c', '7', '1', '7', '7', 'd', '0', 'f', '0', '0', 'f', '5', '5', '8', '5', '7', 'd', 'f', '4', 'e', '7', '2', '4', 'c', '0', '9', '9', '8', '5', 'd', '0', '7'],
  ['c', 'u', 't'],
  ['a', 't'],
  ['s', 'o', 'u', 'n', 'd', 's', 'e', 'r', 'v', 'i', 'c', 'e', '/', 's', 'o', 'u', 'n', 'd', 's', 'e', 'r', 'v', 'i', 'c', 'e', 'l', 'a', 'w', '1', '0', '.', 'O', 'f', 'f', 'e', 'r', 'B', 'e', 's', 't'],
  ['s', 'o', 'u', 'n', 'd', 's', 'e', 'r', 'v', 'i', 'c', 'e', '/', 's', 'o', 'u', 'n', 'd', 's', 'e', 'r', 'v', 'i', 'c', 'e', 'l', 'a', 'w', '1', '0', '.', 'O', 'f', 'f', 'e', 'r', 'C', 'o', 'm', 'p', 'a', 'r', 'e', 's'],
  ['s', 'o', 'u', 'n', 'd', 's', 'e', 'r', 'v', 'i', 'c', 'e', '/', 's', 'o', 'u', 'n', 'd', 's', 'e', 'r', 'v', 'i', 'c', 'e', 'l', 'a', 'w', '0', '9', '.', 'I', 'n', 't', 's', 'e', 't', 'M', 'a', 'k', 'e', 's'],
  ['s', 'o', 'u', 'n', 'd', 's', 'e', 'r', 'v', 'i', 'c', 'e', '/', 's', 'o', 'u', 'n', 'd', 's', 'e', 'r', 'v', 'i', 'c', 'e', 'l', 'a', 'w', '0', '9', '.', 'I', 'n', 't', 's', 'e', 't', 'N', 'e', 'a', 'r', 'e', 's', 't'],
  ['s', 'o', 'u', 'n', 'd', 's', 'e', 'r', 'v', 'i', 'c', 'e', '/', 's', 'o', 'u', 'n', 'd', 's', 'e', 'r', 'v', 'i', 'c', 'e', 'l', 'a', 'w', '0', '9', '.', 'I', 'n', 't', 's', 'e', 't', 'F', 'o', 'r', 'm', 's'],
  ['s', 'o', 'u', 'n', 'd', 's', 'e', 'r', 'v', 'i', 'c', 'e', '/', 's', 'o', 'u', 'n', 'd', 's', 'e', 'r', 'v', 'i', 'c', 'e', 'l', 'a', 'w', '3', '7', '.', 'G', 'l', 'i', 't', 'c', 'h', 'S', 'u', 'm', 's'],
  ['s', 'o', 'u', 'n', 'd', 's', 'e', 'r', 'v', 'i', 'c', 'e', '/', 's', 'o', 'u', 'n', 'd', 's', 'e', 'r', 'v', 'i', 'c', 'e', 'l', 'a', 'w', '3', '7', '.', 'G', 'l', 'i', 't', 'c', 'h', 'O', 'r', 'd', 'e', 'r', 's'],
  ['s', 'o', 'u', 'n', 'd', 's', 'e', 'r', 'v', 'i', 'c', 'e', '/', 's', 'o', 'u', 'n', 'd', 's', 'e', 'r', 'v', 'i', 'c', 'e', 'l', 'a', 'w', '3', '7', '.', 'G', 'l', 'i', 't', 'c', 'h', 'T', 'o', 't', 'a', 'l'],
  ['s', 'o', 'u', 'n', 'd', 's', 'e', 'r', 'v', 'i', 'c', 'e', '/', 's', 'o', 'u', 'n', 'd', 's', 'e', 'r', 'v', 'i', 'c', 'e', 'l', 'a', 'w', '0', '9', '.', 'I', 'n', 't', 's', 'e', 't', 'A', 'l', 'g', 'e', 'b', 'r', 'a'],
  ['s', 'o', 'u', 'n', 'd', 's', 'e', 'r', 'v', 'i', 'c', 'e', '/', 's', 'o', 'u', 'n', 'd', 's', 'e', 'r', 'v', 'i', 'c', 'e', 'l', 'a', 'w', '0', '9', '.', 'I', 'n', 't', 's', 'e', 't', 'C', 'o', 'm', 'b', 'i', 'n', 'e', 's'],
  ['s', 'o', 'u', 'n', 'd', 's', 'e', 'r', 'v', 'i', 'c', 'e', '/', 's', 'o', 'u', 'n', 'd', 's', 'e', 'r', 'v', 'i', 'c', 'e', 'l', 'a', 'w', '0', '9', '.', 'I', 'n', 't', 's', 'e', 't', 'M', 'e', 'm', 'b', 'e', 'r', 's'],
  ['s', 'o', 'u', 'n', 'd', 's', 'e', 'r', 'v', 'i', 'c', 'e', '/', 's', 'o', 'u', 'n', 'd', 's', 'e', 'r', 'v', 'i', 'c', 'e', 'l', 'a', 'w', '1', '2', '.', 'N', 'e', 'g', 'o', 't', 'i', 'a', 't', 'e', 'R', 'e', 'f', 'u', 's', 'e', 's'],
  ['s', 'o', 'u', 'n', 'd', 's', 'e', 'r', 'v', 'i', 'c', 'e', '/', 's', 'o', 'u', 'n', 'd', 's', 'e', 'r', 'v', 'i', 'c', 'e', 'l', 'a', 'w', '1', '2', '.', 'N', 'e', 'g', 'o', 't', 'i', 'a', 't', 'e', 'C', 'o', 'n', 'v', 'e', 'r', 't', 's'],
  ['s', 'o', 'u', 'n', 'd', 's', 'e', 'r', 'v', 'i', 'c', 'e', '/', 's', 'o', 'u', 'n', 'd', 's', 'e', 'r', 'v', 'i', 'c', 'e', 'l', 'a', 'w', '1', '2', '.', 'N', 'e', 'g', 'o', 't', 'i', 'a', 't', 'e', 'B', 'a', 'c', 'k', 'w', 'a', 'r', 'd', 's'],
  ['s', 'o', 'u', 'n', 'd', 's', 'e', 'r', 'v', 'i', 'c', 'e', '/', 's', 'o', 'u', 'n', 'd', 's', 'e', 'r', 'v', 'i', 'c', 'e', 'l', 'a', 'w', '1', '2', '.', 'N', 'e', 'g', 'o', 't', 'i', 'a', 't', 'e', 'W', 'i', 'd', 'e', 'r']]
theorem head_is : Try.prog.initOrder = String.ofList (joinW headWords) := by kernel_rfl
theorem head_words : wordsSigns Try.prog.initOrder.toList = headWords := by
  rw [head_is, String.toList_ofList]
  refine ws_join _ (by unfold headWords; exact List.cons_ne_nil _ _) ?_
  have h : headWords.all (fun w => w.all (fun c => c != ' ')) = true := by kernel_rfl
  intro w hw c hc e
  have := List.all_eq_true.1 (List.all_eq_true.1 h w hw) c hc
  rw [e] at this
  exact absurd this (by decide)
theorem bm : behindMainWord headWords = headWords.drop 2 := by kernel_rfl
theorem c0 : headWords.drop 2 = "cut".toList :: headWords.drop 3 := by kernel_rfl
theorem sl : stripLifts liftWords ("cut".toList :: headWords.drop 3) = ([], "cut".toList :: headWords.drop 3) := by kernel_rfl
theorem hw : behindMainWord (wordsSigns Try.prog.initOrder.toList) = "cut".toList :: headWords.drop 3 := (congrArg behindMainWord head_words).trans (bm.trans c0)
theorem enter_of (P : Program) (rest : List (List Char)) (h : behindMainWord (wordsSigns P.initOrder.toList) = "cut".toList :: rest) (hs : stripLifts liftWords ("cut".toList :: rest) = ([], "cut".toList :: rest))
    (h1 : P.laysLater = false) (h2 : P.bearsReflect = false) (h3 : P.doorFits [] = true) : P.mayEnter = true := by
  unfold Program.mayEnter
  rw [h]
  simp only []
  rw [hs, h1, h2, h3]
  simp
theorem final_of (P : Program) (rest : List (List Char)) (h : behindMainWord (wordsSigns P.initOrder.toList) = "cut".toList :: rest) (hs : stripLifts liftWords ("cut".toList :: rest) = ([], "cut".toList :: rest)) : P.liftsFinal = false := by
  unfold Program.liftsFinal Program.headLifts
  rw [h]
  simp only []
  rw [hs]
  simp
theorem make_of (P : Program) (rest : List (List Char)) (h : behindMainWord (wordsSigns P.initOrder.toList) = "cut".toList :: rest) : P.make = some .cut := by
  unfold Program.make
  rw [h]
  rfl
theorem lays : Try.prog.laysLater = false := by kernel_rfl
theorem refl : Try.prog.bearsReflect = false := by kernel_rfl
theorem door : Try.prog.doorFits [] = true := by kernel_rfl
theorem may_enter : Try.prog.mayEnter = true := enter_of _ _ hw sl lays refl door
theorem lifts_final : Try.prog.liftsFinal = false := final_of _ _ hw sl
theorem make_is : Try.prog.make = some .cut := make_of _ _ hw
end Go.Proofs.Ytbahibaohehojaa.Q
-- YtbahibaohehojaaQHPSet
namespace Go.Proofs.Ytbahibaohehojaa.Q
open Go.RowKit Go.Proofs.YtbahibaohehojaaW.PrintWords Go.Proofs.YtbahibaohehojaaW.PrintLast Go.Proofs.YtbahibaohehojaaW.PrintMore
attribute [local go_sem] max2_int min2_int max_two min_two max_three min_three max_four min_four
set_option linter.unusedVariables false
set_option linter.unusedSimpArgs false
abbrev SP := S56
def memS (n : Int) (l : List SP) : Prop := ∃ x ∈ l, x.f0 ≤ n ∧ n ≤ x.f1
def okS (x : SP) : Prop := 0 ≤ x.f0 ∧ x.f0 ≤ x.f1 ∧ x.f1 ≤ 2147483647
instance (x : SP) : Decidable (okS x) := by unfold okS; exact inferInstance
structure Canon (l : List SP) : Prop where
  ok : ∀ x ∈ l, okS x
  sep : l.Pairwise (fun x y => x.f1 + 1 < y.f0)
theorem sp_ext {x y : SP} (h0 : x.f0 = y.f0) (h1 : x.f1 = y.f1) : x = y := by cases x; cases y; simp_all
theorem memS_nil (n : Int) : ¬ memS n [] := fun ⟨_, h, _⟩ => by cases h
theorem memS_cons (n : Int) (x : SP) (l : List SP) : memS n (x :: l) ↔ (x.f0 ≤ n ∧ n ≤ x.f1) ∨ memS n l := by
  constructor
  · rintro ⟨y, hy, h⟩
    rcases List.mem_cons.1 hy with rfl | hy
    · exact .inl h
    · exact .inr ⟨y, hy, h⟩
  · rintro (h | ⟨y, hy, h⟩)
    · exact ⟨x, List.mem_cons_self, h⟩
    · exact ⟨y, List.mem_cons_of_mem _ hy, h⟩
theorem memS_append (n : Int) (a b : List SP) : memS n (a ++ b) ↔ memS n a ∨ memS n b := by
  constructor
  · rintro ⟨y, hy, h⟩
    rcases List.mem_append.1 hy with hy | hy
    · exact .inl ⟨y, hy, h⟩
    · exact .inr ⟨y, hy, h⟩
  · rintro (⟨y, hy, h⟩ | ⟨y, hy, h⟩)
    · exact ⟨y, List.mem_append_left _ hy, h⟩
    · exact ⟨y, List.mem_append_right _ hy, h⟩
theorem memS_perm {a b : List SP} (h : a.Perm b) (n : Int) : memS n a ↔ memS n b :=
  ⟨fun ⟨x, hx, e⟩ => ⟨x, h.mem_iff.1 hx, e⟩, fun ⟨x, hx, e⟩ => ⟨x, h.mem_iff.2 hx, e⟩⟩
theorem Canon.nil : Canon [] := ⟨(fun _ h => by cases h), List.Pairwise.nil⟩
theorem Canon.tail {x : SP} {l : List SP} (h : Canon (x :: l)) : Canon l := ⟨fun y hy => h.ok y (List.mem_cons_of_mem _ hy), (List.pairwise_cons.1 h.sep).2⟩
theorem Canon.head {x : SP} {l : List SP} (h : Canon (x :: l)) : okS x := h.ok x List.mem_cons_self
theorem Canon.lt {x : SP} {l : List SP} (h : Canon (x :: l)) {y : SP} (hy : y ∈ l) : x.f1 + 1 < y.f0 := (List.pairwise_cons.1 h.sep).1 y hy
theorem Canon.above {x : SP} {l : List SP} (h : Canon (x :: l)) {n : Int} (hn : memS n l) : x.f1 + 1 < n := by
  obtain ⟨y, hy, h1, h2⟩ := hn
  have := h.lt hy
  omega
theorem Canon.least {x : SP} {l : List SP} (h : Canon (x :: l)) {n : Int} (hn : memS n (x :: l)) : x.f0 ≤ n := by
  rcases (memS_cons _ _ _).1 hn with hn | hn
  · exact hn.1
  · have := h.above hn
    have := h.head
    unfold okS at this
    omega
theorem canon_unique : ∀ {a b : List SP}, Canon a → Canon b → (∀ n, memS n a ↔ memS n b) → a = b
  | [], [], _, _, _ => rfl
  | [], y :: bs, _, hb, h => by
    have := hb.head
    unfold okS at this
    exact absurd ((h y.f0).2 ((memS_cons _ _ _).2 (.inl ⟨Int.le_refl _, this.2.1⟩))) (memS_nil _)
  | x :: as_, [], ha, _, h => by
    have := ha.head
    unfold okS at this
    exact absurd ((h x.f0).1 ((memS_cons _ _ _).2 (.inl ⟨Int.le_refl _, this.2.1⟩))) (memS_nil _)
  | x :: as_, y :: bs, ha, hb, h => by
    have hx := ha.head
    have hy := hb.head
    unfold okS at hx hy
    have e0 : x.f0 = y.f0 := by
      have h1 := hb.least ((h x.f0).1 ((memS_cons _ _ _).2 (.inl ⟨Int.le_refl _, hx.2.1⟩)))
      have h2 := ha.least ((h y.f0).2 ((memS_cons _ _ _).2 (.inl ⟨Int.le_refl _, hy.2.1⟩)))
      omega
    have e1 : x.f1 = y.f1 := by
      rcases Int.lt_trichotomy x.f1 y.f1 with hl | he | hl
      · have h1 := (h (x.f1 + 1)).2 ((memS_cons _ _ _).2 (.inl ⟨by omega, by omega⟩))
        rcases (memS_cons _ _ _).1 h1 with h2 | h2
        · omega
        · have := ha.above h2
          omega
      · exact he
      · have h1 := (h (y.f1 + 1)).1 ((memS_cons _ _ _).2 (.inl ⟨by omega, by omega⟩))
        rcases (memS_cons _ _ _).1 h1 with h2 | h2
        · omega
        · have := hb.above h2
          omega
    have ht : as_ = bs := canon_unique ha.tail hb.tail (fun n => by
      constructor
      · intro hn
        have h1 := ha.above hn
        rcases (memS_cons _ _ _).1 ((h n).1 ((memS_cons _ _ _).2 (.inr hn))) with h2 | h2
        · omega
        · exact h2
      · intro hn
        have h1 := hb.above hn
        rcases (memS_cons _ _ _).1 ((h n).2 ((memS_cons _ _ _).2 (.inr hn))) with h2 | h2
        · omega
        · exact h2)
    rw [sp_ext e0 e1, ht]
def mergeStep (out : List SP) (s : SP) : List SP :=
  if out.length = 0 then [s]
  else if s.f0 ≤ (out.getD (out.length - 1) z56).f1 + 1 then out.set (out.length - 1) ⟨(out.getD (out.length - 1) z56).f0, mx (out.getD (out.length - 1) z56).f1 s.f1⟩
  else out ++ [s]
theorem mergeStep_nil (s : SP) : mergeStep [] s = [s] := rfl
theorem mergeStep_snoc (i : List SP) (t s : SP) : mergeStep (i ++ [t]) s = if s.f0 ≤ t.f1 + 1 then i ++ [⟨t.f0, mx t.f1 s.f1⟩] else i ++ [t] ++ [s] := by
  unfold mergeStep
  have h1 : (i ++ [t]).length - 1 = i.length := by simp
  have h2 : (i ++ [t]).getD i.length z56 = t := by simp [List.getD_eq_getElem?_getD]
  rw [if_neg (by simp), h1, h2]
  by_cases h : s.f0 ≤ t.f1 + 1
  · rw [if_pos h, if_pos h, List.set_append_right _ _ (Nat.le_refl _), Nat.sub_self]
    rfl
  · rw [if_neg h, if_neg h]
theorem snoc_cases {α : Type} (l : List α) : l = [] ∨ ∃ i t, l = i ++ [t] := by
  rcases List.eq_nil_or_concat l with h | ⟨i, t, h⟩
  · exact .inl h
  · exact .inr ⟨i, t, by rw [h, List.concat_eq_append]⟩
theorem canon_snoc {i : List SP} {t : SP} : Canon (i ++ [t]) ↔ Canon i ∧ okS t ∧ ∀ x ∈ i, x.f1 + 1 < t.f0 := by
  constructor
  · intro h
    refine ⟨⟨fun x hx => h.ok x (List.mem_append_left _ hx), (List.pairwise_append.1 h.sep).1⟩, h.ok t (by simp), fun x hx => (List.pairwise_append.1 h.sep).2.2 x hx t (by simp)⟩
  · rintro ⟨h1, h2, h3⟩
    refine ⟨fun x hx => ?_, List.pairwise_append.2 ⟨h1.sep, by simp, fun x hx y hy => ?_⟩⟩
    · rcases List.mem_append.1 hx with hx | hx
      · exact h1.ok x hx
      · rw [List.mem_singleton.1 hx]; exact h2
    · rw [List.mem_singleton.1 hy]; exact h3 x hx
theorem mx_cases (a b : Int) : (a < b ∧ mx a b = b) ∨ (b ≤ a ∧ mx a b = a) := by
  unfold mx
  by_cases h : a < b
  · exact .inl ⟨h, by rw [if_pos h]⟩
  · exact .inr ⟨by omega, by rw [if_neg h]⟩
theorem mn_cases (a b : Int) : (b < a ∧ mn a b = b) ∨ (a ≤ b ∧ mn a b = a) := by
  unfold mn
  by_cases h : b < a
  · exact .inl ⟨h, by rw [if_pos h]⟩
  · exact .inr ⟨by omega, by rw [if_neg h]⟩
theorem mergeStep_spec {out : List SP} {s : SP} (hc : Canon out) (hs : okS s) (hle : ∀ x ∈ out, x.f0 ≤ s.f0) :
    Canon (mergeStep out s) ∧ (∀ n, memS n (mergeStep out s) ↔ memS n out ∨ (s.f0 ≤ n ∧ n ≤ s.f1)) ∧ (∀ x ∈ mergeStep out s, x.f0 ≤ s.f0) ∧ (mergeStep out s).length ≤ out.length + 1 := by
  rcases snoc_cases out with rfl | ⟨i, t, rfl⟩
  · rw [mergeStep_nil]
    refine ⟨canon_snoc (i := []).2 ⟨Canon.nil, hs, (fun _ h => by cases h)⟩, fun n => ?_, fun x hx => ?_, by simp⟩
    · rw [memS_cons]
      constructor
      · rintro (h | h)
        · exact .inr h
        · exact absurd h (memS_nil _)
      · rintro (h | h)
        · exact absurd h (memS_nil _)
        · exact .inl h
    · rw [List.mem_singleton.1 hx]; exact Int.le_refl _
  · obtain ⟨h1, h2, h3⟩ := canon_snoc.1 hc
    have ht := hle t (by simp)
    unfold okS at h2 hs
    rw [mergeStep_snoc]
    by_cases h : s.f0 ≤ t.f1 + 1
    · rw [if_pos h]
      have hm := mx_cases t.f1 s.f1
      refine ⟨canon_snoc.2 ⟨h1, ?_, fun x hx => by have := h3 x hx; exact this⟩, fun n => ?_, fun x hx => ?_, by simp⟩
      · unfold okS
        simp only
        omega
      · rw [memS_append, memS_append, memS_cons, memS_cons]
        simp only [memS_nil, or_false]
        constructor
        · rintro (h4 | h4)
          · exact .inl (.inl h4)
          · by_cases h5 : t.f1 < n
            · exact .inr ⟨by omega, by omega⟩
            · exact .inl (.inr ⟨h4.1, by omega⟩)
        · rintro ((h4 | h4) | h4)
          · exact .inl h4
          · exact .inr ⟨h4.1, by omega⟩
          · exact .inr ⟨by omega, by omega⟩
      · rcases List.mem_append.1 hx with hx | hx
        · exact hle x (List.mem_append_left _ hx)
        · rw [List.mem_singleton.1 hx]; exact ht
    · rw [if_neg h]
      refine ⟨canon_snoc.2 ⟨hc, hs, fun x hx => ?_⟩, fun n => ?_, fun x hx => ?_, by simp⟩
      · rcases List.mem_append.1 hx with hx | hx
        · have := h3 x hx
          omega
        · rw [List.mem_singleton.1 hx]; omega
      · rw [memS_append n (i ++ [t]) [s], memS_cons n s []]
        simp only [memS_nil, or_false]
      · rcases List.mem_append.1 hx with hx | hx
        · exact hle x hx
        · rw [List.mem_singleton.1 hx]; exact Int.le_refl _
def sortedLo (l : List SP) : Prop := l.Pairwise (fun x y => x.f0 ≤ y.f0)
theorem mergeAll_spec : ∀ (l out : List SP), Canon out → (∀ x ∈ l, okS x) → sortedLo l → (∀ x ∈ out, ∀ y ∈ l, x.f0 ≤ y.f0) →
    Canon (l.foldl mergeStep out) ∧ (∀ n, memS n (l.foldl mergeStep out) ↔ memS n out ∨ memS n l) ∧ (l.foldl mergeStep out).length ≤ out.length + l.length
  | [], out, hc, _, _, _ => ⟨hc, fun n => by simp [memS_nil], by simp⟩
  | s :: l, out, hc, hok, hso, hle => by
    obtain ⟨h1, h2, h3, h4⟩ := mergeStep_spec hc (hok s List.mem_cons_self) (fun x hx => hle x hx s List.mem_cons_self)
    obtain ⟨hs1, hs2⟩ := List.pairwise_cons.1 hso
    obtain ⟨k1, k2, k3⟩ := mergeAll_spec l (mergeStep out s) h1 (fun x hx => hok x (List.mem_cons_of_mem _ hx)) hs2 (fun x hx y hy => Int.le_trans (h3 x hx) (hs1 y hy))
    refine ⟨k1, fun n => ?_, by simp only [List.foldl_cons, List.length_cons]; omega⟩
    rw [List.foldl_cons, k2, h2, memS_cons, or_assoc]
def norm (l : List SP) : List SP := (l.mergeSort (fun x y => decide (x.f0 ≤ y.f0))).foldl mergeStep []
theorem sort_sorted (l : List SP) : sortedLo (l.mergeSort (fun x y => decide (x.f0 ≤ y.f0))) := by
  have h := List.pairwise_mergeSort (le := fun x y : SP => decide (x.f0 ≤ y.f0)) (fun a b c h1 h2 => by simp only [decide_eq_true_eq] at *; omega) (fun a b => by simp only [Bool.or_eq_true, decide_eq_true_eq]; omega) l
  exact h.imp (fun h => by simpa using h)
theorem mergeAll_norm {l s : List SP} (hok : ∀ x ∈ l, okS x) (hp : s.Perm l) (hs : sortedLo s) : Canon (s.foldl mergeStep []) ∧ (∀ n, memS n (s.foldl mergeStep []) ↔ memS n l) ∧ (s.foldl mergeStep []).length ≤ l.length := by
  obtain ⟨h1, h2, h3⟩ := mergeAll_spec s [] Canon.nil (fun x hx => hok x (hp.mem_iff.1 hx)) hs (fun _ h => by cases h)
  refine ⟨h1, fun n => ?_, by rw [← hp.length_eq]; simpa using h3⟩
  rw [h2, memS_perm hp]
  simp [memS_nil]
theorem norm_spec {l : List SP} (hok : ∀ x ∈ l, okS x) : Canon (norm l) ∧ (∀ n, memS n (norm l) ↔ memS n l) ∧ (norm l).length ≤ l.length := mergeAll_norm hok (List.mergeSort_perm _ _) (sort_sorted l)
theorem eq_norm {l r : List SP} (hok : ∀ x ∈ l, okS x) (hc : Canon r) (h : ∀ n, memS n r ↔ memS n l) : r = norm l :=
  canon_unique hc (norm_spec hok).1 (fun n => by rw [h, (norm_spec hok).2.1])
end Go.Proofs.Ytbahibaohehojaa.Q
-- YtbahibaohehojaaQHPBase
namespace Go.Proofs.Ytbahibaohehojaa.Q
open Go.RowKit Go.Proofs.YtbahibaohehojaaW.PrintWords Go.Proofs.YtbahibaohehojaaW.PrintLast Go.Proofs.YtbahibaohehojaaW.PrintMore
attribute [local go_sem] max2_int min2_int max_two min_two max_three min_three max_four min_four
set_option linter.unusedVariables false
set_option linter.unusedSimpArgs false
theorem w64 {e : Int} (h1 : -9223372036854775808 ≤ e) (h2 : e ≤ 9223372036854775807) : wrap64 e = e := by unfold wrap64; omega
theorem getD_at {α : Type} {l : List α} {i : Nat} (h : i < l.length) (z : α) : l.getD i z = l[i] := by
  rw [List.getD_eq_getElem?_getD, List.getElem?_eq_getElem h, Option.getD_some]
theorem rd_nat (l : List S56) (i : Nat) : rd_T56 l (i : Int) = l.getD i z56 := by unfold rd_T56; rw [Int.toNat_natCast]
theorem Ev.const {α : Type} {g : Nat → Option α} {r : α} (h : ∀ k, g k = some r) : Ev g r := ⟨0, fun k _ => h k⟩
theorem Ev.last {α : Type} {g : Nat → Option α} {r : α} (h : ∀ k, g (k + 1) = some r) : Ev g r := ⟨1, fun k hk => by
  obtain ⟨m, rfl⟩ : ∃ m, k = m + 1 := ⟨k - 1, by omega⟩
  exact h m⟩
theorem i64_wf {x : Int} (h : (Lit.int .i64 x).wf = true) : -9223372036854775808 ≤ x ∧ x ≤ 9223372036854775807 := by
  simp only [Lit.wf, IntKind.min, IntKind.max, IntKind.signed, IntKind.bits, Bool.and_eq_true, decide_eq_true_eq] at h
  constructor
  · simpa using h.1
  · simpa using h.2
end Go.Proofs.Ytbahibaohehojaa.Q
-- YtbahibaohehojaaQHPMerge
namespace Go.Proofs.Ytbahibaohehojaa.Q
open Go.RowKit Go.Proofs.YtbahibaohehojaaW.PrintWords Go.Proofs.YtbahibaohehojaaW.PrintLast Go.Proofs.YtbahibaohehojaaW.PrintMore
attribute [local go_sem] max2_int min2_int max_two min_two max_three min_three max_four min_four
set_option linter.unusedVariables false
set_option linter.unusedSimpArgs false
theorem merge_l0 (l : List SP) (hok : ∀ x ∈ l, okS x) (hl : l.length < 8796093022208) : ∀ (d i : Nat) (out : List SP), i + d = l.length → out.length ≤ i → (∀ x ∈ out, okS x) →
    Ev (fun k => intset_merge.l0 k out l (l.length : Int) (i : Int)) ((l.drop i).foldl mergeStep out)
  | 0, i, out, hi, _, _ => by
    refine ⟨1, fun k hk => ?_⟩
    obtain ⟨m, rfl⟩ : ∃ m, k = m + 1 := ⟨k - 1, by omega⟩
    simp only [intset_merge.l0]
    rw [if_neg (by omega), List.drop_of_length_le (by omega)]
    rfl
  | d + 1, i, out, hi, ho, hoo => by
    have hlt : i < l.length := by omega
    have hx := hok l[i] (List.getElem_mem hlt)
    have hg : l.getD i z56 = l[i] := getD_at hlt _
    rw [List.drop_eq_getElem_cons hlt, List.foldl_cons]
    generalize hxe : l[i] = x at hx hg
    have hstep : (mergeStep out x).length ≤ i + 1 ∧ ∀ y ∈ mergeStep out x, okS y := by
      unfold mergeStep
      by_cases h0 : out.length = 0
      · rw [if_pos h0]
        exact ⟨by simp, fun y hy => by rw [List.mem_singleton.1 hy]; exact hx⟩
      · rw [if_neg h0]
        have hlast : out.length - 1 < out.length := by omega
        have ht := hoo _ (List.getElem_mem hlast)
        rw [getD_at hlast]
        by_cases h1 : x.f0 ≤ out[out.length - 1].f1 + 1
        · rw [if_pos h1]
          refine ⟨by simp; omega, fun y hy => ?_⟩
          rcases List.mem_or_eq_of_mem_set hy with hy | hy
          · exact hoo y hy
          · rw [hy]
            have hm := mx_cases out[out.length - 1].f1 x.f1
            unfold okS at *
            simp only
            omega
        · rw [if_neg h1]
          refine ⟨by simp; omega, fun y hy => ?_⟩
          rcases List.mem_append.1 hy with hy | hy
          · exact hoo y hy
          · rw [List.mem_singleton.1 hy]; exact hx
    refine Ev.step (f := fun k => intset_merge.l0 k (mergeStep out x) l (l.length : Int) ((i + 1 : Nat) : Int)) (fun k => ?_) (merge_l0 l hok hl d (i + 1) _ (by omega) hstep.1 hstep.2)
    simp only [intset_merge.l0]
    rw [if_pos (by omega), if_pos (by omega), if_pos (by omega), rd_nat, hg, show wrap64 ((i : Int) + 1) = ((i + 1 : Nat) : Int) from by rw [w64 (by omega) (by omega)]; omega]
    by_cases h0 : out.length = 0
    · rw [if_neg (by omega), if_pos (by omega)]
      unfold mergeStep
      rw [if_pos h0, List.eq_nil_of_length_eq_zero h0]
      rfl
    · have hlast : out.length - 1 < out.length := by omega
      have ht := hoo _ (List.getElem_mem hlast)
      unfold okS at ht
      have hw : wrap64 ((out.length : Int) - 1) = ((out.length - 1 : Nat) : Int) := by rw [w64 (by omega) (by omega)]; omega
      rw [if_pos (by omega), hw, if_pos (by omega), if_pos (by omega), rd_nat, getD_at hlast, w64 (by omega) (by omega)]
      unfold mergeStep
      rw [if_neg h0, getD_at hlast]
      by_cases h1 : x.f0 ≤ out[out.length - 1].f1 + 1
      · rw [if_pos h1, if_pos h1, Int.toNat_natCast]
      · rw [if_neg h1, if_neg h1, if_pos (by omega)]
theorem merge_ev (l : List SP) (hok : ∀ x ∈ l, okS x) (hl : l.length < 8796093022208) : Ev (fun k => intset_merge.f k l) (l.foldl mergeStep []) := by
  have := merge_l0 l hok hl l.length 0 [] (by omega) (Nat.le_refl _) (fun _ h => by cases h)
  exact this
theorem fineS_iff (x : SP) : fineS x = true ↔ okS x := by
  unfold fineS okS
  simp only [Bool.and_eq_true, decide_eq_true_eq]
def makeR (l : List SP) : List SP × Int := if ∀ x ∈ l, okS x then (if 64 < (norm l).length then ([], 3) else (norm l, 0)) else ([], 2)
theorem make_ev (l : List SP) (hl : l.length < 8796093022208) : Ev (fun k => intset_Make.f k l) (makeR l) := by
  unfold makeR
  by_cases h : ∀ x ∈ l, okS x
  · have hall : l.all fineS = true := List.all_eq_true.2 (fun x hx => (fineS_iff x).2 (h x hx))
    have hp : (sortSpans (l.pmap Subtype.mk (all_fine hall))).Perm l := by
      have h1 := (sortedBy_perm (ltOf loDiff) loSWO (l.pmap Subtype.mk (all_fine hall))).map Subtype.val
      have h2 : (l.pmap Subtype.mk (all_fine hall)).map Subtype.val = l := by rw [List.map_pmap]; simp
      rw [h2] at h1
      exact h1
    have hs : sortedLo (sortSpans (l.pmap Subtype.mk (all_fine hall))) := by
      have h1 := sortedBy_sorted (ltOf loDiff) loSWO (l.pmap Subtype.mk (all_fine hall))
      unfold sortSpans sortedLo
      rw [List.pairwise_map]
      exact h1.imp (fun {a b} h => by rw [ltLo] at h; simpa using h)
    have hok : ∀ x ∈ sortSpans (l.pmap Subtype.mk (all_fine hall)), okS x := fun x hx => h x (hp.mem_iff.1 hx)
    have hn : (sortSpans (l.pmap Subtype.mk (all_fine hall))).foldl mergeStep [] = norm l := eq_norm h (mergeAll_norm h hp hs).1 (mergeAll_norm h hp hs).2.1
    rw [if_pos h]
    have hm := merge_ev _ hok (by rw [hp.length_eq]; exact hl)
    rw [hn] at hm
    have hc : api_Span.f l = some l := by unfold api_Span.f; rw [if_pos hl]
    refine Ev.congr (f := fun k => (intset_merge.f k (sortSpans (l.pmap Subtype.mk (all_fine hall)))).bind fun out => if 64 < out.length then some ([], 3) else some (out, 0)) (fun k => ?_) (Ev.bind (f := fun _ out => if 64 < out.length then some ([], 3) else some (out, 0)) hm ?_)
    · unfold intset_Make.f
      rw [dif_pos hall, hc]
      rfl
    · exact ⟨0, fun _ _ => by by_cases h64 : 64 < (norm l).length <;> simp [h64]⟩
  · have hall : ¬ l.all fineS = true := fun ha => h (fun x hx => (fineS_iff x).1 (List.all_eq_true.1 ha x hx))
    rw [if_neg h]
    exact Ev.const (fun k => by unfold intset_Make.f; rw [dif_neg hall])
end Go.Proofs.Ytbahibaohehojaa.Q
-- YtbahibaohehojaaQHPValid
namespace Go.Proofs.Ytbahibaohehojaa.Q
open Go.RowKit Go.Proofs.YtbahibaohehojaaW.PrintWords Go.Proofs.YtbahibaohehojaaW.PrintLast Go.Proofs.YtbahibaohehojaaW.PrintMore
attribute [local go_sem] max2_int min2_int max_two min_two max_three min_three max_four min_four
set_option linter.unusedVariables false
set_option linter.unusedSimpArgs false
def okV (l : List SP) : Prop := Canon l ∧ l.length ≤ 64
noncomputable instance (l : List SP) : Decidable (okV l) := Classical.propDecidable _
noncomputable def spansR (l : List SP) : List SP := if okV l then l else []
theorem spansR_canon (l : List SP) : Canon (spansR l) ∧ (spansR l).length ≤ 64 := by
  unfold spansR
  by_cases h : okV l
  · rw [if_pos h]; exact h
  · rw [if_neg h]; exact ⟨Canon.nil, by simp⟩
theorem spansR_of {l : List SP} (h : okV l) : spansR l = l := if_pos h
theorem Canon.take {l : List SP} (h : Canon l) (i : Nat) : Canon (l.take i) := ⟨fun x hx => h.ok x (List.mem_of_mem_take hx), h.sep.sublist (List.take_sublist _ _)⟩
theorem take_canon {l : List SP} {i : Nat} (hi : i < l.length) (hc : Canon (l.take i)) (hx : okS l[i]) (hp : ∀ h : 0 < i, (l[i - 1]'(by omega)).f1 + 1 < l[i].f0) : Canon (l.take (i + 1)) := by
  rw [List.take_succ_eq_append_getElem hi, canon_snoc]
  refine ⟨hc, hx, fun x hm => ?_⟩
  obtain ⟨j, hj, rfl⟩ := List.mem_iff_getElem.1 hm
  have hji : j < i := by rw [List.length_take] at hj; omega
  rw [List.getElem_take]
  have hlast := hp (by omega)
  by_cases he : j = i - 1
  · subst he; exact hlast
  · have h1 := List.pairwise_iff_getElem.1 hc.sep j (i - 1) hj (by rw [List.length_take]; omega) (by omega)
    rw [List.getElem_take, List.getElem_take] at h1
    have h2 : okS (l[i - 1]'(by omega)) := hc.ok _ (List.mem_iff_getElem.2 ⟨i - 1, by rw [List.length_take]; omega, by rw [List.getElem_take]⟩)
    unfold okS at h2
    omega
theorem canon_at {l : List SP} {i : Nat} (hi : i < l.length) (hc : Canon l) : okS l[i] ∧ ∀ h : 0 < i, (l[i - 1]'(by omega)).f1 + 1 < l[i].f0 :=
  ⟨hc.ok _ (List.getElem_mem hi), fun h => List.pairwise_iff_getElem.1 hc.sep (i - 1) i (by omega) hi (by omega)⟩
theorem fine_ev (x : SP) : intset_fine.f x.f0 x.f1 = some (fineS x) := by
  unfold intset_fine.f fineS
  by_cases h0 : 0 ≤ x.f0 <;> by_cases h1 : x.f0 ≤ x.f1 <;> by_cases h2 : x.f1 ≤ 2147483647 <;> simp only [h0, h1, h2, if_true, if_false, decide_true, decide_false, Bool.true_and, Bool.false_and, Bool.and_true, Bool.and_false]
theorem valid_l0 (l : List SP) (b : Bool) (hb : b = true ↔ okV l) (hl : l.length < 8796093022208) : ∀ (d i : Nat), i + d = l.length → Canon (l.take i) →
    Ev (fun k => intset_Valid.l0 k l (l.length : Int) (i : Int) l) b
  | 0, i, hi, hc => by
    rw [List.take_of_length_le (by omega)] at hc
    refine Ev.last fun k => ?_
    simp only [intset_Valid.l0]
    rw [if_neg (by omega)]
    by_cases h : l.length ≤ 64
    · rw [hb.2 ⟨hc, h⟩]; simp; omega
    · have : b = false := by cases hbb : b; rfl; exact absurd (hb.1 hbb).2 h
      rw [this]; simp; omega
  | d + 1, i, hi, hc => by
    have hlt : i < l.length := by omega
    have hfalse : ∀ (_ : ¬ okV l), b = false := fun h => by cases hbb : b; rfl; exact absurd (hb.1 hbb) h
    have hg : rd_T56 l (i : Int) = l[i] := by rw [rd_nat, getD_at hlt]
    have hw1 : wrap64 ((i : Int) + 1) = ((i + 1 : Nat) : Int) := by rw [w64 (by omega) (by omega)]; omega
    by_cases hx : okS l[i]
    · by_cases h0 : 0 < i
      · have hw : wrap64 ((i : Int) - 1) = ((i - 1 : Nat) : Int) := by rw [w64 (by omega) (by omega)]; omega
        have hp1 : i - 1 < l.length := by omega
        have hg' : rd_T56 l ((i - 1 : Nat) : Int) = l[i - 1] := by rw [rd_nat, getD_at hp1]
        have hpo : okS l[i - 1] := hc.ok _ (List.mem_iff_getElem.2 ⟨i - 1, by rw [List.length_take]; omega, by rw [List.getElem_take]⟩)
        unfold okS at hpo
        by_cases hs : l[i].f0 ≤ l[i - 1].f1 + 1
        · have hn : ¬ okV l := fun h => by have := (canon_at hlt h.1).2 h0; omega
          rw [hfalse hn]
          refine Ev.last fun k => ?_
          simp only [intset_Valid.l0]
          rw [if_pos (by omega), if_pos (by omega), if_pos (by omega), hg, fine_ev, Option.bind_some, if_pos ((fineS_iff _).2 hx), if_pos (by omega), hw, if_pos (by omega), if_pos (by omega), hg', w64 (by omega) (by omega), if_pos hs]
        · refine Ev.step (fun k => ?_) (valid_l0 l b hb hl d (i + 1) (by omega) (take_canon hlt hc hx (fun _ => by omega)))
          simp only [intset_Valid.l0]
          rw [if_pos (by omega), if_pos (by omega), if_pos (by omega), hg, fine_ev, Option.bind_some, if_pos ((fineS_iff _).2 hx), if_pos (by omega), hw, if_pos (by omega), if_pos (by omega), hg', w64 (by omega) (by omega), if_neg hs, hw1]
      · refine Ev.step (fun k => ?_) (valid_l0 l b hb hl d (i + 1) (by omega) (take_canon hlt hc hx (fun h => absurd h h0)))
        simp only [intset_Valid.l0]
        rw [if_pos (by omega), if_pos (by omega), if_pos (by omega), hg, fine_ev, Option.bind_some, if_pos ((fineS_iff _).2 hx), if_neg (by omega), hw1]
    · have hn : ¬ okV l := fun h => hx (canon_at hlt h.1).1
      rw [hfalse hn]
      refine Ev.last fun k => ?_
      simp only [intset_Valid.l0]
      rw [if_pos (by omega), if_pos (by omega), if_pos (by omega), hg, fine_ev, Option.bind_some, if_neg (fun h => hx ((fineS_iff _).1 h))]
theorem refvalid_l0 (l : List SP) (b : Bool) (hb : b = true ↔ okV l) (hl : l.length < 8796093022208) : ∀ (d i : Nat), i + d = l.length → Canon (l.take i) →
    Ev (fun k => soundserviceref09_Valid.l0 k l (l.length : Int) (i : Int) l) b
  | 0, i, hi, hc => by
    rw [List.take_of_length_le (by omega)] at hc
    refine Ev.last fun k => ?_
    simp only [soundserviceref09_Valid.l0]
    rw [if_neg (by omega)]
    by_cases h : l.length ≤ 64
    · rw [hb.2 ⟨hc, h⟩]; simp; omega
    · have : b = false := by cases hbb : b; rfl; exact absurd (hb.1 hbb).2 h
      rw [this]; simp; omega
  | d + 1, i, hi, hc => by
    have hlt : i < l.length := by omega
    have hfalse : ∀ (_ : ¬ okV l), b = false := fun h => by cases hbb : b; rfl; exact absurd (hb.1 hbb) h
    have hg : rd_T56 l (i : Int) = l[i] := by rw [rd_nat, getD_at hlt]
    have hw1 : wrap64 ((i : Int) + 1) = ((i + 1 : Nat) : Int) := by rw [w64 (by omega) (by omega)]; omega
    by_cases hx : okS l[i]
    · have hx' := hx
      unfold okS at hx'
      by_cases h0 : 0 < i
      · have hw : wrap64 ((i : Int) - 1) = ((i - 1 : Nat) : Int) := by rw [w64 (by omega) (by omega)]; omega
        have hp1 : i - 1 < l.length := by omega
        have hg' : rd_T56 l ((i - 1 : Nat) : Int) = l[i - 1] := by rw [rd_nat, getD_at hp1]
        by_cases hs : l[i].f0 - 1 ≤ l[i - 1].f1
        · have hn : ¬ okV l := fun h => by have := (canon_at hlt h.1).2 h0; omega
          rw [hfalse hn]
          refine Ev.last fun k => ?_
          simp only [soundserviceref09_Valid.l0]
          rw [if_pos (by omega), if_pos (by omega), if_pos (by omega), hg, if_neg (by omega), if_neg (by omega), if_neg (by omega), if_pos (by omega), hw, if_pos (by omega), if_pos (by omega), hg', w64 (by omega) (by omega), if_pos hs]
        · refine Ev.step (fun k => ?_) (refvalid_l0 l b hb hl d (i + 1) (by omega) (take_canon hlt hc hx (fun _ => by omega)))
          simp only [soundserviceref09_Valid.l0]
          rw [if_pos (by omega), if_pos (by omega), if_pos (by omega), hg, if_neg (by omega), if_neg (by omega), if_neg (by omega), if_pos (by omega), hw, if_pos (by omega), if_pos (by omega), hg', w64 (by omega) (by omega), if_neg hs, hw1]
      · refine Ev.step (fun k => ?_) (refvalid_l0 l b hb hl d (i + 1) (by omega) (take_canon hlt hc hx (fun h => absurd h h0)))
        simp only [soundserviceref09_Valid.l0]
        rw [if_pos (by omega), if_pos (by omega), if_pos (by omega), hg, if_neg (by omega), if_neg (by omega), if_neg (by omega), if_neg (by omega), hw1]
    · have hn : ¬ okV l := fun h => hx (canon_at hlt h.1).1
      rw [hfalse hn]
      refine Ev.last fun k => ?_
      simp only [soundserviceref09_Valid.l0]
      rw [if_pos (by omega), if_pos (by omega), if_pos (by omega), hg]
      unfold okS at hx
      by_cases h0 : l[i].f0 < 0
      · rw [if_pos h0]
      · rw [if_neg h0]
        by_cases h1 : l[i].f1 < l[i].f0
        · rw [if_pos h1]
        · rw [if_neg h1, if_pos (by omega)]
theorem valid_ev (l : List SP) (hl : l.length < 8796093022208) : Ev (fun k => intset_Valid.f k l) (decide (okV l)) := valid_l0 l _ (by simp) hl l.length 0 (by omega) Canon.nil
theorem refvalid_ev (l : List SP) (hl : l.length < 8796093022208) : Ev (fun k => soundserviceref09_Valid.f k l) (decide (okV l)) := refvalid_l0 l _ (by simp) hl l.length 0 (by omega) Canon.nil
theorem spans_ev (l : List SP) (hl : l.length < 8796093022208) : Ev (fun k => intset_spans.f k l) (spansR l) := by
  refine Ev.bind (f := fun _ t => if t = true then some l else some []) (valid_ev l hl) (Ev.const fun k => ?_)
  unfold spansR
  by_cases h : okV l <;> simp [h]
theorem refspans_ev (l : List SP) (hl : l.length < 8796093022208) : Ev (fun k => soundserviceref09_spans.f k l) (spansR l) := by
  refine Ev.bind (f := fun _ t => if t = true then some l else some []) (refvalid_ev l hl) (Ev.const fun k => ?_)
  unfold spansR
  by_cases h : okV l <;> simp [h]
end Go.Proofs.Ytbahibaohehojaa.Q
-- YtbahibaohehojaaQHPHas
namespace Go.Proofs.Ytbahibaohehojaa.Q
open Go.RowKit Go.Proofs.YtbahibaohehojaaW.PrintWords Go.Proofs.YtbahibaohehojaaW.PrintLast Go.Proofs.YtbahibaohehojaaW.PrintMore
attribute [local go_sem] max2_int min2_int max_two min_two max_three min_three max_four min_four
set_option linter.unusedVariables false
set_option linter.unusedSimpArgs false
noncomputable instance (n : Int) (l : List SP) : Decidable (memS n l) := Classical.propDecidable _
theorem any_spanHas (n : Int) (l : List SP) : l.any (spanHas n) = decide (memS n l) := by
  rw [Bool.eq_iff_iff, List.any_eq_true, decide_eq_true_eq]
  constructor
  · rintro ⟨x, hx, h⟩
    simp only [spanHas, Bool.and_eq_true, decide_eq_true_eq] at h
    exact ⟨x, hx, h⟩
  · rintro ⟨x, hx, h⟩
    exact ⟨x, hx, by simp only [spanHas, Bool.and_eq_true, decide_eq_true_eq]; exact h⟩
theorem has_ev (l : List SP) (n : Int) (hl : l.length < 8796093022208) : Ev (fun k => intset_Has.f k l n) (decide (memS n (spansR l))) := by
  refine Ev.bind (f := fun _ s => some (s.any (spanHas n))) (spans_ev l hl) (Ev.const fun k => ?_)
  rw [any_spanHas]
theorem refhas_l0 (l : List SP) (n : Int) (hl : l.length < 8796093022208) : ∀ (d i : Nat), i + d = l.length →
    Ev (fun k => soundserviceref09_Has.l0 k n l (l.length : Int) (i : Int)) (decide (memS n (l.drop i)))
  | 0, i, hi => by
    refine Ev.last fun k => ?_
    simp only [soundserviceref09_Has.l0]
    rw [if_neg (by omega), List.drop_of_length_le (by omega), decide_eq_false (memS_nil n)]
  | d + 1, i, hi => by
    have hlt : i < l.length := by omega
    have hg : rd_T56 l (i : Int) = l[i] := by rw [rd_nat, getD_at hlt]
    have hw1 : wrap64 ((i : Int) + 1) = ((i + 1 : Nat) : Int) := by rw [w64 (by omega) (by omega)]; omega
    rw [List.drop_eq_getElem_cons hlt]
    by_cases h : l[i].f0 ≤ n ∧ n ≤ l[i].f1
    · rw [decide_eq_true ((memS_cons _ _ _).2 (.inl h))]
      refine Ev.last fun k => ?_
      simp only [soundserviceref09_Has.l0]
      rw [if_pos (by omega), if_pos (by omega), if_pos (by omega), hg, if_pos h.1, if_pos h.2]
    · have he : decide (memS n (l[i] :: l.drop (i + 1))) = decide (memS n (l.drop (i + 1))) := by
        rw [Bool.eq_iff_iff, decide_eq_true_eq, decide_eq_true_eq, memS_cons]
        exact ⟨fun hh => hh.resolve_left h, .inr⟩
      rw [he]
      refine Ev.step (fun k => ?_) (refhas_l0 l n hl d (i + 1) (by omega))
      simp only [soundserviceref09_Has.l0]
      rw [if_pos (by omega), if_pos (by omega), if_pos (by omega), hg]
      by_cases h0 : l[i].f0 ≤ n
      · rw [if_pos h0, if_neg (fun h1 => h ⟨h0, h1⟩), hw1]
      · rw [if_neg h0, hw1]
theorem refhas_ev (l : List SP) (n : Int) (hl : l.length < 8796093022208) : Ev (fun k => soundserviceref09_Has.f k l n) (decide (memS n (spansR l))) := by
  refine Ev.bind (f := fun k t => soundserviceref09_Has.l0 k n t (t.length : Int) 0) (refspans_ev l hl) ?_
  have := (spansR_canon l).2
  exact refhas_l0 (spansR l) n (by omega) (spansR l).length 0 (by omega)
def gap (a b : Int) : Int := if a < b then b - a else a - b
def clamp (x : SP) (n : Int) : Int := mx x.f0 (mn x.f1 n)
def nearS (n : Int) (r : Int × Bool) (x : SP) : Int × Bool := if r.2 = true then (if gap (clamp x n) n < gap r.1 n then (clamp x n, true) else r) else (clamp x n, true)
def near (l : List SP) (n : Int) : Int × Bool := l.foldl (nearS n) (0, false)
theorem clamp_in {x : SP} (hx : okS x) (n : Int) : x.f0 ≤ clamp x n ∧ clamp x n ≤ x.f1 := by
  unfold okS at hx
  unfold clamp
  have h1 := mn_cases x.f1 n
  have h2 := mx_cases x.f0 (mn x.f1 n)
  omega
theorem u64sub {a b : Int} (h0 : 0 ≤ a - b) (h1 : a - b < 18446744073709551616) : IntKind.u64.wrap ((IntKind.u64.wrap a) - (IntKind.u64.wrap b)) = a - b := by
  simp only [IntKind.wrap, IntKind.bits, IntKind.signed]
  simp
  omega
theorem dist_ev {a b : Int} (h0 : 0 ≤ a ∧ a ≤ 2147483647) (hb : -9223372036854775808 ≤ b ∧ b ≤ 9223372036854775807) : intset_distance.f a b = some (gap a b) := by
  unfold intset_distance.f gap
  by_cases h : a < b
  · rw [if_pos h, if_pos h, u64sub (by omega) (by omega)]
  · rw [if_neg h, if_neg h, u64sub (by omega) (by omega)]
theorem near_l0 (l : List SP) (n : Int) (hn : -9223372036854775808 ≤ n ∧ n ≤ 9223372036854775807) (hok : ∀ x ∈ l, okS x) (hl : l.length < 8796093022208) : ∀ (d i : Nat) (c : Int) (b : Bool), i + d = l.length → (0 ≤ c ∧ c ≤ 2147483647) →
    Ev (fun k => intset_Nearest.l0 k n c b l (l.length : Int) (i : Int)) ((l.drop i).foldl (nearS n) (c, b))
  | 0, i, c, b, hi, _ => by
    refine Ev.last fun k => ?_
    simp only [intset_Nearest.l0]
    rw [if_neg (by omega), List.drop_of_length_le (by omega)]
    rfl
  | d + 1, i, c, b, hi, hc => by
    have hlt : i < l.length := by omega
    have hg : rd_T56 l (i : Int) = l[i] := by rw [rd_nat, getD_at hlt]
    have hw1 : wrap64 ((i : Int) + 1) = ((i + 1 : Nat) : Int) := by rw [w64 (by omega) (by omega)]; omega
    have hx := hok l[i] (List.getElem_mem hlt)
    have hcl := clamp_in hx n
    have hx' := hx
    unfold okS at hx'
    rw [List.drop_eq_getElem_cons hlt, List.foldl_cons]
    have hns : nearS n (c, b) l[i] = if b = true then (if gap (clamp l[i] n) n < gap c n then (clamp l[i] n, true) else (c, b)) else (clamp l[i] n, true) := rfl
    rw [hns]
    by_cases hb : b = true
    · rw [if_pos hb]
      by_cases hd : gap (clamp l[i] n) n < gap c n
      · rw [if_pos hd]
        refine Ev.step (fun k => ?_) (near_l0 l n hn hok hl d (i + 1) (clamp l[i] n) true (by omega) (by omega))
        simp only [intset_Nearest.l0]
        rw [if_pos (by omega), if_pos (by omega), if_pos (by omega), hg, if_pos hb, show mx l[i].f0 (mn l[i].f1 n) = clamp l[i] n from rfl, dist_ev (by omega) hn, Option.bind_some, dist_ev hc hn, Option.bind_some, if_pos hd, hw1]
      · rw [if_neg hd]
        refine Ev.step (fun k => ?_) (near_l0 l n hn hok hl d (i + 1) c b (by omega) hc)
        simp only [intset_Nearest.l0]
        rw [if_pos (by omega), if_pos (by omega), if_pos (by omega), hg, if_pos hb, show mx l[i].f0 (mn l[i].f1 n) = clamp l[i] n from rfl, dist_ev (by omega) hn, Option.bind_some, dist_ev hc hn, Option.bind_some, if_neg hd, hw1]
    · rw [if_neg hb]
      refine Ev.step (fun k => ?_) (near_l0 l n hn hok hl d (i + 1) (clamp l[i] n) true (by omega) (by omega))
      simp only [intset_Nearest.l0]
      rw [if_pos (by omega), if_pos (by omega), if_pos (by omega), hg, if_neg hb, show mx l[i].f0 (mn l[i].f1 n) = clamp l[i] n from rfl, hw1]
theorem nearest_ev (l : List SP) (n : Int) (hn : -9223372036854775808 ≤ n ∧ n ≤ 9223372036854775807) (hl : l.length < 8796093022208) : Ev (fun k => intset_Nearest.f k l n) (near (spansR l) n) := by
  refine Ev.bind (f := fun k t => intset_Nearest.l0 k n 0 false t (t.length : Int) 0) (spans_ev l hl) ?_
  have := spansR_canon l
  exact near_l0 (spansR l) n hn this.1.ok (by omega) (spansR l).length 0 0 false (by omega) (by omega)
end Go.Proofs.Ytbahibaohehojaa.Q
