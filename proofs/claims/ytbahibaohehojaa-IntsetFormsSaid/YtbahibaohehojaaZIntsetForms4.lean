/- Proves that soundservice/soundservicelaw09.IntsetForms returns true for every input, never panics, and leaves its input as it was (the given statement IntsetFormsSaid). Conditions: none but those of the given statement. This text is the last: it holds the theorem; it was written by a program (wip/pack.py) out of this claim's own texts, in build order; Lean checks it. -/
import Derived.Test.YtbahibaohehojaaZIntsetForms3
import Derived.Below
import Derived.ChangeOld
import Derived.KernelRfl
import Derived.OpenShut
import Derived.ProofKit
import Derived.ShutString
import Derived.SizedLaws
import Derived.Test.YtbahibaohehojaaChecked
import Derived.Test.YtbahibaohehojaaRows
import Derived.WalkKit
import GoSem.ClaimJoined
-- YtbahibaohehojaaQf34
namespace Go.Proofs.Ytbahibaohehojaa.Q
open Go.RowKit Go.Proofs.YtbahibaohehojaaW.PrintWords Go.Proofs.YtbahibaohehojaaW.PrintLast Go.Proofs.YtbahibaohehojaaW.PrintMore
attribute [local go_sem] max2_int min2_int max_two min_two max_three min_three max_four min_four
set_option linter.unusedVariables false
set_option linter.unusedSimpArgs false
def soundservicelaw09_made.l0 : Nat → List Int → List (S56) → Int → Option ((List (S56)))
  | 0, _, _, _ => none
  | k + 1, x0, x3, x4 => if (wrap64 (x4 + 1)) < (x0.length : Int) then (if x4 < 40 then (if 0 ≤ x4 then (if x4 < (x0.length : Int) then (if 0 ≤ (wrap64 (x4 + 1)) then (if x3.length < 8796093022208 then (soundservicelaw09_made.l0 k x0 (x3 ++ [(⟨wrap64 (rd x0 x4), wrap64 ((wrap64 (rd x0 x4)) + (wrap64 (Int.tmod (rd x0 (wrap64 (x4 + 1))) 20)))⟩ : S56)]) (wrap64 (x4 + 2))) else (none)) else (none)) else (none)) else (none)) else ((soundserviceref09_Make.f k x3).bind fun bt656 => (some bt656.1))) else ((soundserviceref09_Make.f k x3).bind fun bt661 => (some bt661.1))
def soundservicelaw09_made.f (k : Nat) (l0 : List Int) : Option ((List (S56))) := soundservicelaw09_made.l0 k l0 ([] : List (S56)) 0
def soundservicelaw09_made.T5 : Bool × List (List Nat × List Nat) := (true, [([], []), ([], []), ([], []), ([1, 2], [1, 2]), ([3], [3]), ([4], [4]), ([], []), ([], []), ([6, 7], [6, 7]), ([8], [8]), ([9], [9]), ([], []), ([], []), ([12], [12]), ([11, 13], [11, 13]), ([14], [14]), ([15], [15]), ([16], [16]), ([10, 17], [10, 17]), ([5, 18], [5, 18]), ([19], [19]), ([0, 20], [0, 20]), ([21, 21, 0, 1, 2, 3, 4, 5, 6, 7, 8, 9, 10, 11, 12, 13, 14, 15, 16, 17, 18, 19, 20, 21], [0, 21])])
def soundservicelaw09_made.B5 : List Nat := [0, 0, 0, 6, 14, 30, 0, 0, 192, 448, 960, 0, 0, 4096, 14336, 30720, 63488, 129024, 262080, 524286, 1048574, 2097151, 4194303]
theorem soundservicelaw09_made.tab5 : rtab .any (opsOf Try.f34 5) = soundservicelaw09_made.T5 := by kernel_rfl
theorem soundservicelaw09_made.bits5 : waitsOk soundservicelaw09_made.T5.2 soundservicelaw09_made.B5 = true := by kernel_rfl
set_option maxHeartbeats 8000000 in
set_option maxRecDepth 100000 in
theorem soundservicelaw09_made.calls (k : Nat) (A0 : Option Addr) (c0 : Nat) (l0 : List Int) (r : List (S56)) (w : World) (hr0 : Kd.C (Kd.int .u8) w A0 l0.length l0) (hc0 : l0.length ≤ c0) (h : soundservicelaw09_made.f k l0 = some r) :
    Calls Try.prog 34 #[.slice A0 l0.length c0] w fun e w' => ∃ v0_ : Value, e = .returned (.agg #[v0_]) ∧ Kd.R k56 56 w' w.heap.size (fun _ => True) v0_ r ∧ Below w.heap.size w w' := by
  have hu42 := Try.underlying42
  have hu56 := Try.underlying56
  have HR0 := Aside0.mk hr0
  have HC0 := Aside0.mk hc0
  clear hr0 hc0
  have HB := Aside0.mk (Below.refl w.heap.size w)
  have H : (soundservicelaw09_made.l0 k l0 ([] : List (S56)) 0) = some r := h
  clear h
  have H' := Aside0.mk H
  clear H
  go_enter Try.func34, Try.ntmps34
  go_wp2_with (first | ((with_reducible refine gate_dst (N := 2) rfl ?_); refine box_event ?hg (N := 2) ?hd (cs := #[.slice none 0 0]) (t := 42) ?hr ?_; (case hd => rfl); (case hg => rfl); (case hr => first | (go_simp; done) | (go_simp; rfl)); intro gb649 hg w2 hbox hb; have n0_ := Aside0.mk (below_step (by repeat (first | (with_reducible first | exact HB.out | apply below_alloc | apply pw_below_drewN | apply below_drew1) | exact HB.out)) hb); have n1_ := Aside0.mk (hbox); have n2_ := Aside0.mk ((by rw [hg]; exact (below_size (by repeat (first | (with_reducible first | exact HB.out | apply below_alloc | apply pw_below_drewN | apply below_drew1) | exact HB.out))) : w.heap.size ≤ gb649)); have n3_ := Aside0.mk ((by rw [hg]; exact (below_size (by repeat (first | (with_reducible first | exact HB.out | apply below_alloc | apply pw_below_drewN | apply below_drew1) | exact HB.out))) : w.heap.size ≤ gb649)); clear HB; have HB := n0_; have BK649 := n1_; have GW649 := n2_; have GE649 := n3_; clear n0_ n1_ n2_ n3_; clear hb hbox hg))
  go_loopg [3, 4] k (fun kq v3 v4 w' => ∃ (x3_1 : List (S56)) (x4_1 : Int), v4 = .int .i64 x4_1 ∧ Aside0 (soundservicelaw09_made.l0 kq l0 x3_1 x4_1 = some r) ∧ Aside0 (kq ≤ k) ∧ Aside0 (Kd.R k56 56 w' w.heap.size (fun _ => True) v3 x3_1) ∧ Aside0 (w'.heap[gb649]? = some (.cells #[(.slice none 0 0)] 42 (0, 0))) ∧ Aside0 (Below w.heap.size w w'))
  case atStart => exact ⟨(([] : List (S56))), (0), (by first | rfl | (simp; done) | (simp [*]; done)), H', ⟨Nat.le_refl _⟩, ⟨by first | exact Kd.R_nil _ _ _ _ _ | exact Kd.N_nil _ _ _ _ _ | exact Kd.V_nil _ _ _ _ _ | exact Kd.Q_nil _ _ _ _ _ | exact Kd.S_nil _ _ _ _ _⟩, ⟨by (with_reducible repeat (first | refine blk_drewN ?_ _ | refine blk_drew ?_ | refine blk_alloc ?_ _)); exact BK649.out⟩, ⟨by repeat (first | (with_reducible first | exact HB.out | apply below_alloc | apply pw_below_drewN | apply below_drew1 | refine below_set ?_ GE649.out) | exact HB.out)⟩⟩
  case round =>
    clear H'
    try clear p2
    obtain ⟨x3_1, x4_1, rfl, HA, HK1, HO_3, BK649, HB⟩ := hrel
    cases gk with
    | zero => exact absurd HA.out (by simp [soundservicelaw09_made.l0])
    | succ k1 =>
      have H := HA.out
      clear HA
      simp only [soundservicelaw09_made.l0] at H
      by_cases c3 : (wrap64 (x4_1 + 1)) < (l0.length : Int)
      · rw [if_pos c3] at H
        have c3b0 : decide ((wrap64 (x4_1 + 1)) < (l0.length : Int)) = true := decide_eq_true c3
        clear c3
        by_cases c4 : x4_1 < 40
        · rw [if_pos c4] at H
          have c4b0 : decide (x4_1 < 40) = true := decide_eq_true c4
          clear c4
          by_cases c5 : 0 ≤ x4_1
          · rw [if_pos c5] at H
            have c5b0 : decide (0 ≤ x4_1) = true := decide_eq_true c5
            clear c5
            by_cases c6 : x4_1 < (l0.length : Int)
            · rw [if_pos c6] at H
              have c6b0 : decide (x4_1 < (l0.length : Int)) = true := decide_eq_true c6
              clear c6
              obtain ⟨ji7, hji7⟩ : ∃ j_ : Int, (wrap64 (x4_1 + 1)) = j_ := ⟨_, rfl⟩
              replace H : (if 0 ≤ (ji7) then (if x3_1.length < 8796093022208 then (soundservicelaw09_made.l0 k1 l0 (x3_1 ++ [(⟨wrap64 (rd l0 x4_1), wrap64 ((wrap64 (rd l0 x4_1)) + (wrap64 (Int.tmod (rd l0 (ji7)) 20)))⟩ : S56)]) (wrap64 (x4_1 + 2))) else (none)) else (none)) = some r := by first | (rw [hji7] at H; exact H) | (simp only [hji7] at H ⊢; exact H)
              (try rw [hji7] at c3b0)
              have hji7w : (IntKind.i64.wrap (x4_1 + 1)) = ji7 := (i64_w _).trans hji7
              by_cases c8 : 0 ≤ (ji7)
              · rw [if_pos c8] at H
                have c8b0 : decide (0 ≤ (ji7)) = true := decide_eq_true c8
                clear c8
                by_cases c9 : x3_1.length < 8796093022208
                · rw [if_pos c9] at H
                  have LMc9 := Aside0.mk c9
                  clear c9
                  obtain ⟨y653, hy653⟩ : ∃ y_ : List (S56), y_ = (x3_1 ++ [(⟨wrap64 (rd l0 x4_1), wrap64 ((wrap64 (rd l0 x4_1)) + (wrap64 (Int.tmod (rd l0 (ji7)) 20)))⟩ : S56)]) := ⟨_, rfl⟩
                  replace H : (soundservicelaw09_made.l0 k1 l0 y653 (wrap64 (x4_1 + 2))) = some r := by first | (rw [hy653]; with_reducible exact H) | (have H2_ := (Option.bind_some _ _).symm.trans H; rw [hy653]; with_reducible exact H2_) | (have H2_ := (Option.bind_some _ _).symm.trans H; with_reducible exact H2_) | with_reducible exact H | (rw [hy653]; exact H) | exact H
                  have Ny653 := Aside0.mk hy653
                  clear hy653
                  have H' := Aside0.mk H
                  clear H
                  try go_wp2
                  have n0_ := Aside0.mk (Kd.R_drew HO_3.out)
                  have n1_ := Aside0.mk (blk_drew BK649.out)
                  have n2_ := Aside0.mk (below_drew1 HB.out)
                  clear HO_3
                  clear BK649
                  clear HB
                  have HO_3 := n0_
                  have BK649 := n1_
                  have HB := n2_
                  clear n0_ n1_ n2_
                  have p650 : 0 ≤ (x4_1 : Int) := of_decide_eq_true (by first | (with_reducible assumption) | assumption)
                  have q650 : x4_1 < (l0.length : Int) := of_decide_eq_true (by first | (with_reducible assumption) | assumption)
                  obtain ⟨ad650, e650, hx650_0⟩ := Kd.at_int HR0.out x4_1 p650 q650
                  have hw650_0 := hx650_0
                  cases e650
                  replace hx650_0 := (HB.out.cell (World.block_lt_of_cell? w _ hx650_0)).trans hx650_0
                  replace p650 := eq_true p650
                  replace q650 := eq_true q650
                  have p651 : 0 ≤ (x4_1 : Int) := of_decide_eq_true (by first | (with_reducible assumption) | assumption)
                  have q651 : x4_1 < (l0.length : Int) := of_decide_eq_true (by first | (with_reducible assumption) | assumption)
                  obtain ⟨ad651, e651, hx651_0⟩ := Kd.at_int HR0.out x4_1 p651 q651
                  have hw651_0 := hx651_0
                  obtain rfl : ad650 = ad651 := (by injection e651)
                  replace hx651_0 := (HB.out.cell (World.block_lt_of_cell? w _ hx651_0)).trans hx651_0
                  replace p651 := eq_true p651
                  replace q651 := eq_true q651
                  have p652 : 0 ≤ ((ji7) : Int) := of_decide_eq_true (by first | (with_reducible assumption) | assumption)
                  have q652 : (ji7) < (l0.length : Int) := of_decide_eq_true (by first | (with_reducible assumption) | assumption)
                  obtain ⟨ad652, e652, hx652_0⟩ := Kd.at_int HR0.out (ji7) p652 q652
                  have hw652_0 := hx652_0
                  obtain rfl : ad650 = ad652 := (by injection e652)
                  replace hx652_0 := (HB.out.cell (World.block_lt_of_cell? w _ hx652_0)).trans hx652_0
                  replace p652 := eq_true p652
                  replace q652 := eq_true q652
                  refine start_ (n := 23) (S := fun w' => w'.cell? (ad650.add (x4_1).toNat) = some (.int .u8 (rd l0 x4_1)) ∧ w'.cell? (ad650.add (x4_1).toNat) = some (.int .u8 (rd l0 x4_1)) ∧ w'.cell? (ad650.add ((ji7)).toNat) = some (.int .u8 (rd l0 (ji7)))) (ds := []) #[false, false, false, false, false, false, false, false, false, false, false, false, false, false, false, false, false, false, false, false, false, false, false] (by kernel_rfl) rfl rfl ⟨((HB.out.cell (World.block_lt_of_cell? w _ hw650_0)).trans hw650_0), ((HB.out.cell (World.block_lt_of_cell? w _ hw651_0)).trans hw651_0), ((HB.out.cell (World.block_lt_of_cell? w _ hw652_0)).trans hw652_0)⟩ (fun hHeld => ?_); refine with_tabW soundservicelaw09_made.tab5 soundservicelaw09_made.bits5 (fun HT_ HW_ => ?_)
                  generalize wr.drew = w10 at HO_3 BK649 HB hx650_0 hx651_0 hx652_0 hHeld ⊢
                  refine pure_ (i := 0) (N := some 18) (v := ?_) (a' := ?_) #[true, false, false, false, false, false, false, false, false, false, false, false, false, false, false, false, false, false, false, false, false, false, false] rfl rfl (any_of HT_.out (by kernel_rfl)) (fun _ _ _ h => h) (Or.inl ⟨by rfl, ?_⟩) ?_ ?_
                  rotate_left
                  · intro w'
                    go_simp
                    with_reducible rfl
                  rotate_left
                  · simp only [Act.put, List.setIfInBounds_toArray, List.set_cons_zero, List.set_cons_succ, i64_w, i32_w]
                    rfl
                  refine pure_ (i := 1) (N := some 19) (v := ?_) (a' := ?_) #[true, true, false, false, false, false, false, false, false, false, false, false, false, false, false, false, false, false, false, false, false, false, false] rfl rfl (any_of HT_.out (by kernel_rfl)) (fun _ _ _ h => h) (Or.inl ⟨by rfl, ?_⟩) ?_ ?_
                  rotate_left
                  · intro w'
                    go_simp
                    with_reducible rfl
                  rotate_left
                  · simp only [Act.put, List.setIfInBounds_toArray, List.set_cons_zero, List.set_cons_succ, i64_w, i32_w]
                    rfl
                  refine pure_ (i := 2) (N := some 20) (v := ?_) (a' := ?_) #[true, true, true, false, false, false, false, false, false, false, false, false, false, false, false, false, false, false, false, false, false, false, false] rfl rfl (any_of HT_.out (by kernel_rfl)) (fun _ _ _ h => h) (Or.inl ⟨by rfl, ?_⟩) ?_ ?_
                  rotate_left
                  · intro w'
                    go_simp
                    with_reducible rfl
                  rotate_left
                  · simp only [Act.put, List.setIfInBounds_toArray, List.set_cons_zero, List.set_cons_succ, i64_w, i32_w]
                    rfl
                  refine pure_ (i := 3) (N := some 21) (v := ?_) (a' := ?_) #[true, true, true, true, false, false, false, false, false, false, false, false, false, false, false, false, false, false, false, false, false, false, false] rfl rfl (any_of HT_.out (by kernel_rfl)) (fun _ _ _ h => h) (Or.inl ⟨by rfl, ?_⟩) ?_ ?_
                  rotate_left
                  · intro w'
                    go_simp
                    with_reducible rfl
                  rotate_left
                  · simp only [Act.put, List.setIfInBounds_toArray, List.set_cons_zero, List.set_cons_succ, i64_w, i32_w]
                    rfl
                  refine pure_ (i := 6) (N := some 24) (v := ?_) (a' := ?_) #[true, true, true, true, false, false, true, false, false, false, false, false, false, false, false, false, false, false, false, false, false, false, false] rfl rfl (any_of HT_.out (by kernel_rfl)) (fun _ _ _ h => h) (Or.inl ⟨by rfl, ?_⟩) ?_ ?_
                  rotate_left
                  · intro w'
                    go_simp
                    with_reducible rfl
                  rotate_left
                  · simp only [Act.put, List.setIfInBounds_toArray, List.set_cons_zero, List.set_cons_succ, i64_w, i32_w]
                    rfl
                  refine pure_ (i := 7) (N := some 25) (v := ?_) (a' := ?_) #[true, true, true, true, false, false, true, true, false, false, false, false, false, false, false, false, false, false, false, false, false, false, false] rfl rfl (any_of HT_.out (by kernel_rfl)) (fun _ _ _ h => h) (Or.inl ⟨by rfl, ?_⟩) ?_ ?_
                  rotate_left
                  · intro w'
                    go_simp
                    with_reducible rfl
                  rotate_left
                  · simp only [Act.put, List.setIfInBounds_toArray, List.set_cons_zero, List.set_cons_succ, i64_w, i32_w]
                    rfl
                  refine pure_ (i := 8) (N := some 26) (v := ?_) (a' := ?_) #[true, true, true, true, false, false, true, true, true, false, false, false, false, false, false, false, false, false, false, false, false, false, false] rfl rfl (any_of HT_.out (by kernel_rfl)) (fun _ _ _ h => h) (Or.inl ⟨by rfl, ?_⟩) ?_ ?_
                  rotate_left
                  · intro w'
                    go_simp
                    with_reducible rfl
                  rotate_left
                  · simp only [Act.put, List.setIfInBounds_toArray, List.set_cons_zero, List.set_cons_succ, i64_w, i32_w]
                    rfl
                  refine pure_ (i := 11) (N := some 29) (v := ?_) (a' := ?_) #[true, true, true, true, false, false, true, true, true, false, false, true, false, false, false, false, false, false, false, false, false, false, false] rfl rfl (any_of HT_.out (by kernel_rfl)) (fun _ _ _ h => h) (Or.inl ⟨by rfl, ?_⟩) ?_ ?_
                  rotate_left
                  · intro w'
                    go_simp
                    with_reducible rfl
                  rotate_left
                  · simp only [Act.put, List.setIfInBounds_toArray, List.set_cons_zero, List.set_cons_succ, i64_w, i32_w]
                    rfl
                  refine pure_ (i := 12) (N := some 30) (v := ?_) (a' := ?_) #[true, true, true, true, false, false, true, true, true, false, false, true, true, false, false, false, false, false, false, false, false, false, false] rfl rfl (any_of HT_.out (by kernel_rfl)) (fun _ _ _ h => h) (Or.inl ⟨by rfl, ?_⟩) ?_ ?_
                  rotate_left
                  · intro w'
                    go_simp
                    with_reducible rfl
                  rotate_left
                  · simp only [Act.put, List.setIfInBounds_toArray, List.set_cons_zero, List.set_cons_succ, i64_w, i32_w]
                    rfl
                  refine pure_ (i := 13) (N := some 31) (v := ?_) (a' := ?_) #[true, true, true, true, false, false, true, true, true, false, false, true, true, true, false, false, false, false, false, false, false, false, false] rfl rfl (any_of HT_.out (by kernel_rfl)) (fun _ _ _ h => h) (Or.inl ⟨by rfl, ?_⟩) ?_ ?_
                  rotate_left
                  · intro w'
                    go_simp
                    with_reducible rfl
                  rotate_left
                  · simp only [Act.put, List.setIfInBounds_toArray, List.set_cons_zero, List.set_cons_succ, i64_w, i32_w]
                    rfl
                  refine pure_ (i := 14) (N := some 32) (v := ?_) (a' := ?_) #[true, true, true, true, false, false, true, true, true, false, false, true, true, true, true, false, false, false, false, false, false, false, false] rfl rfl (any_of HT_.out (by kernel_rfl)) (fun _ _ _ h => h) (Or.inl ⟨by rfl, ?_⟩) ?_ ?_
                  rotate_left
                  · intro w'
                    go_simp
                    with_reducible rfl
                  rotate_left
                  · simp only [Act.put, List.setIfInBounds_toArray, List.set_cons_zero, List.set_cons_succ, i64_w, i32_w]
                    rfl
                  refine take_ (i := 4) (N := some 22) (v := ?_) (a' := ?_) #[true, true, true, true, true, false, true, true, true, false, false, true, true, true, true, false, false, false, false, false, false, false, false] rfl rfl (take_ofW HT_.out HW_.out (by kernel_rfl)) (fun _ _ _ h => h) (Or.inl ⟨by rfl, ?_⟩) hHeld ?_ ?_
                  rotate_left
                  · rintro w' ⟨s0, s1, s2⟩
                    go_simp
                    with_reducible rfl
                  rotate_left
                  · simp only [Act.put, List.setIfInBounds_toArray, List.set_cons_zero, List.set_cons_succ, i64_w, i32_w]
                    rfl
                  refine pure_ (i := 5) (N := some 23) (v := ?_) (a' := ?_) #[true, true, true, true, true, true, true, true, true, false, false, true, true, true, true, false, false, false, false, false, false, false, false] rfl rfl (any_of HT_.out (by kernel_rfl)) (fun _ _ _ h => h) (Or.inl ⟨by rfl, ?_⟩) ?_ ?_
                  rotate_left
                  · intro w'
                    go_simp
                    with_reducible rfl
                  rotate_left
                  · simp only [Act.put, List.setIfInBounds_toArray, List.set_cons_zero, List.set_cons_succ, i64_w, i32_w]
                    rfl
                  refine take_ (i := 9) (N := some 27) (v := ?_) (a' := ?_) #[true, true, true, true, true, true, true, true, true, true, false, true, true, true, true, false, false, false, false, false, false, false, false] rfl rfl (take_ofW HT_.out HW_.out (by kernel_rfl)) (fun _ _ _ h => h) (Or.inl ⟨by rfl, ?_⟩) hHeld ?_ ?_
                  rotate_left
                  · rintro w' ⟨s0, s1, s2⟩
                    go_simp
                    with_reducible rfl
                  rotate_left
                  · simp only [Act.put, List.setIfInBounds_toArray, List.set_cons_zero, List.set_cons_succ, i64_w, i32_w]
                    rfl
                  refine pure_ (i := 10) (N := some 28) (v := ?_) (a' := ?_) #[true, true, true, true, true, true, true, true, true, true, true, true, true, true, true, false, false, false, false, false, false, false, false] rfl rfl (any_of HT_.out (by kernel_rfl)) (fun _ _ _ h => h) (Or.inl ⟨by rfl, ?_⟩) ?_ ?_
                  rotate_left
                  · intro w'
                    go_simp
                    with_reducible rfl
                  rotate_left
                  · simp only [Act.put, List.setIfInBounds_toArray, List.set_cons_zero, List.set_cons_succ, i64_w, i32_w]
                    rfl
                  refine take_ (i := 15) (N := some 33) (v := ?_) (a' := ?_) #[true, true, true, true, true, true, true, true, true, true, true, true, true, true, true, true, false, false, false, false, false, false, false] rfl rfl (take_ofW HT_.out HW_.out (by kernel_rfl)) (fun _ _ _ h => h) (Or.inl ⟨by rfl, ?_⟩) hHeld ?_ ?_
                  rotate_left
                  · rintro w' ⟨s0, s1, s2⟩
                    go_simp
                    with_reducible rfl
                  rotate_left
                  · simp only [Act.put, List.setIfInBounds_toArray, List.set_cons_zero, List.set_cons_succ, i64_w, i32_w]
                    rfl
                  refine pure_ (i := 16) (N := some 34) (v := ?_) (a' := ?_) #[true, true, true, true, true, true, true, true, true, true, true, true, true, true, true, true, true, false, false, false, false, false, false] rfl rfl (any_of HT_.out (by kernel_rfl)) (fun _ _ _ h => h) (Or.inl ⟨by rfl, ?_⟩) ?_ ?_
                  rotate_left
                  · intro w'
                    go_simp
                    with_reducible rfl
                  rotate_left
                  · simp only [Act.put, List.setIfInBounds_toArray, List.set_cons_zero, List.set_cons_succ, i64_w, i32_w]
                    rfl
                  refine pure_ (i := 17) (N := some 35) (v := ?_) (a' := ?_) #[true, true, true, true, true, true, true, true, true, true, true, true, true, true, true, true, true, true, false, false, false, false, false] rfl rfl (any_of HT_.out (by kernel_rfl)) (fun _ _ _ h => h) (Or.inl ⟨by rfl, ?_⟩) ?_ ?_
                  rotate_left
                  · intro w'
                    go_simp
                    with_reducible rfl
                  rotate_left
                  · simp only [Act.put, List.setIfInBounds_toArray, List.set_cons_zero, List.set_cons_succ, i64_w, i32_w]
                    rfl
                  refine pure_ (i := 18) (N := some 36) (v := ?_) (a' := ?_) #[true, true, true, true, true, true, true, true, true, true, true, true, true, true, true, true, true, true, true, false, false, false, false] rfl rfl (any_of HT_.out (by kernel_rfl)) (fun _ _ _ h => h) (Or.inl ⟨by rfl, ?_⟩) ?_ ?_
                  rotate_left
                  · intro w'
                    go_simp
                    with_reducible rfl
                  rotate_left
                  · simp only [Act.put, List.setIfInBounds_toArray, List.set_cons_zero, List.set_cons_succ, i64_w, i32_w]
                    rfl
                  refine pure_ (i := 19) (N := some 37) (v := ?_) (a' := ?_) #[true, true, true, true, true, true, true, true, true, true, true, true, true, true, true, true, true, true, true, true, false, false, false] rfl rfl (any_of HT_.out (by kernel_rfl)) (fun _ _ _ h => h) (Or.inl ⟨by rfl, ?_⟩) ?_ ?_
                  rotate_left
                  · intro w'
                    go_simp
                    with_reducible rfl
                  rotate_left
                  · simp only [Act.put, List.setIfInBounds_toArray, List.set_cons_zero, List.set_cons_succ, i64_w, i32_w]
                    rfl
                  refine one_ (i := 20) (N := some 38) #[true, true, true, true, true, true, true, true, true, true, true, true, true, true, true, true, true, true, true, true, true, false, false] rfl rfl (one_of HT_.out (by kernel_rfl)) (by decide) (fun K hK => ?_)
                  refine value_ (w1 := ?_) (v := ?_) (by rfl) rfl ?_ ?_
                  rotate_left 2
                  · go_simp
                    constructor
                    · rfl
                    · rfl
                  refine hK.out _ _ ⟨(World.cell?_alloc_lt _ _ _ (World.block_lt_of_cell? _ _ (((HB.out.cell (World.block_lt_of_cell? w _ hw650_0)).trans hw650_0)))).trans (((HB.out.cell (World.block_lt_of_cell? w _ hw650_0)).trans hw650_0)), (World.cell?_alloc_lt _ _ _ (World.block_lt_of_cell? _ _ (((HB.out.cell (World.block_lt_of_cell? w _ hw651_0)).trans hw651_0)))).trans (((HB.out.cell (World.block_lt_of_cell? w _ hw651_0)).trans hw651_0)), (World.cell?_alloc_lt _ _ _ (World.block_lt_of_cell? _ _ (((HB.out.cell (World.block_lt_of_cell? w _ hw652_0)).trans hw652_0)))).trans (((HB.out.cell (World.block_lt_of_cell? w _ hw652_0)).trans hw652_0))⟩ (fun hHeld => ?_)
                  clear hK K
                  refine norm_ (a' := ?_) ?_ ?_
                  rotate_left
                  · show Act.put _ (some 38) _ = _
                    simp only [Act.put, List.setIfInBounds_toArray, List.set_cons_zero, List.set_cons_succ, i64_w, i32_w]
                    rfl
                  refine one_ (i := 21) (N := some 39) #[true, true, true, true, true, true, true, true, true, true, true, true, true, true, true, true, true, true, true, true, true, true, false] rfl rfl (one_of HT_.out (by kernel_rfl)) (by decide) (fun K hK => ?_)
                  refine Kd.R_append_step k56 (w0 := w) w.heap.size (by rfl) (.tmp 18) (.tmp 38) 40 56 (.agg #[(.int .i64 0), (.int .i64 0)]) 16 rfl Try.underlying40 info56 rfl (by decide) (by omega) u3 x3_1 (⟨wrap64 (rd l0 x4_1), wrap64 ((wrap64 (rd l0 x4_1)) + (wrap64 (Int.tmod (rd l0 (ji7)) 20)))⟩ : S56) [.int .i64 (wrap64 (rd l0 x4_1)), .int .i64 (wrap64 ((wrap64 (rd l0 x4_1)) + (wrap64 (Int.tmod (rd l0 (ji7)) 20))))] (fun _ => True) (fun _ => False) rfl rfl ?aP (fun _ hk => hk.elim) ?aF ?aO ?aB ?aS ?aL ?_
                  (case aP => exact k56_mkM _ _ _ (⟨wrap64 (rd l0 x4_1), wrap64 ((wrap64 (rd l0 x4_1)) + (wrap64 (Int.tmod (rd l0 (ji7)) 20)))⟩ : S56))
                  (case aB => exact (by repeat (first | (with_reducible first | exact HB.out | apply below_alloc | apply pw_below_drewN | apply below_drew1 | refine below_set ?_ GE649.out) | exact HB.out)))
                  (case aF => exact (fun _ _ => trivial))
                  (case aO => exact (by (with_reducible repeat (first | apply Kd.R_alloc | apply Kd.R_drewN | apply Kd.R_drew)); exact HO_3.out))
                  (case aS => exact (below_size (by repeat (first | (with_reducible first | exact HB.out | apply below_alloc | apply pw_below_drewN | apply below_drew1 | refine below_set ?_ GE649.out) | exact HB.out))))
                  (case aL => have := LMc9.out; omega)
                  intro v654 w11 ho hb hg hat
                  rw [← Ny653.out] at ho
                  have n0_ := Aside0.mk (blk_grown (g := gb649) (o := .cells #[.slice none 0 0] 42 (0, 0)) (by (with_reducible repeat (first | refine blk_drewN ?_ _ | refine blk_drew ?_ | refine blk_alloc ?_ _)); exact BK649.out) hg (Kd.R_ne HO_3.out BK649.out (by decide)))
                  have n1_ := Aside0.mk (hb)
                  have n2_ := Aside0.mk (ho)
                  clear BK649
                  clear HB
                  clear HO_3
                  have BK649 := n0_
                  have HB := n1_
                  have HO655 := n2_
                  clear n0_ n1_ n2_
                  clear ho hb hg hat
                  refine hK.out _ _ ⟨((HB.out.cell (World.block_lt_of_cell? w _ hw650_0)).trans hw650_0), ((HB.out.cell (World.block_lt_of_cell? w _ hw651_0)).trans hw651_0), ((HB.out.cell (World.block_lt_of_cell? w _ hw652_0)).trans hw652_0)⟩ (fun hHeld => ?_)
                  clear hK K
                  refine norm_ (a' := ?_) ?_ ?_
                  rotate_left
                  · show Act.put _ (some 39) _ = _
                    simp only [Act.put, List.setIfInBounds_toArray, List.set_cons_zero, List.set_cons_succ, i64_w, i32_w]
                    rfl
                  refine pure_ (i := 22) (N := some 3) (v := ?_) (a' := ?_) #[true, true, true, true, true, true, true, true, true, true, true, true, true, true, true, true, true, true, true, true, true, true, true] rfl rfl (any_of HT_.out (by kernel_rfl)) (fun _ _ _ h => h) (Or.inl ⟨by rfl, ?_⟩) ?_ ?_
                  rotate_left
                  · intro w'
                    go_simp
                    with_reducible rfl
                  rotate_left
                  · simp only [Act.put, List.setIfInBounds_toArray, List.set_cons_zero, List.set_cons_succ, i64_w, i32_w]
                    rfl
                  refine done_ (done_of HT_.out (by kernel_rfl)) ?_
                  try go_wp2
                  go_roundg k1
                  case measure => have := HK1.out; omega
                  case rel => exact ⟨(y653), (wrap64 (x4_1 + 2)), (by first | rfl | (simp; done) | (simp [*]; done)), H', ⟨by have := HK1.out; omega⟩, ⟨by (with_reducible repeat (first | apply Kd.R_alloc | apply Kd.R_drewN | apply Kd.R_drew)); exact HO655.out⟩, ⟨by (with_reducible repeat (first | refine blk_drewN ?_ _ | refine blk_drew ?_ | refine blk_alloc ?_ _)); exact BK649.out⟩, ⟨by repeat (first | (with_reducible first | exact HB.out | apply below_alloc | apply pw_below_drewN | apply below_drew1 | refine below_set ?_ GE649.out) | exact HB.out)⟩⟩
                · rw [if_neg c9] at H
                  exact absurd H (by simp)
              · rw [if_neg c8] at H
                exact absurd H (by simp)
            · rw [if_neg c6] at H
              exact absurd H (by simp)
          · rw [if_neg c5] at H
            exact absurd H (by simp)
        · rw [if_neg c4] at H
          have c4b0 : decide (x4_1 < 40) = false := decide_eq_false c4
          clear c4
          replace H := Option.bind_eq_some_iff.mp H
          obtain ⟨⟨t656, t659⟩, A120, H⟩ := H
          replace H : (some t656) = some r := H
          have A12 := Aside0.mk A120
          clear A120
          obtain rfl := Option.some.inj H
          obtain ⟨Ao13, co13, eo13⟩ := Kd.R_slice HO_3.out
          subst eo13
          go_wp2_with (first | ((with_reducible refine gate_callee (f := 28) rfl ?_); refine goesL_ (some 42) rfl rfl Try.func28 (by kernel_rfl) rfl #[.slice Ao13 x3_1.length co13] rfl (by (try simp only [List.map_toArray, List.map_cons, List.map_nil]); first | done | rfl | (simp only [List.length_drop, List.length_take]; rfl)) ?_; (with_reducible refine (soundserviceref09_Make.calls k1 _ _ x3_1 t656 t659 _ ?side1 ?side2 A12.out).mono ?_); (case side1 => repeat (first | exact (Kd.R_reads' HO_3.out).2.2 | (with_reducible refine Kd.C_alloc ?_ _) | (with_reducible refine Kd.C_drewN ?_ _) | (with_reducible refine Kd.C_drew ?_))); (case side2 => exact (Kd.R_reads' HO_3.out).2.1); rintro e w14 ⟨v657, rfl, ho0, hb⟩; refine ⟨_, rfl, ?_⟩; have n0_ := Aside0.mk (Kd.R_elder' (by (with_reducible repeat (first | apply Kd.R_alloc | apply Kd.R_drewN | apply Kd.R_drew)); exact HO_3.out) (Kd.R_base ho0) hb); have n1_ := Aside0.mk (Kd.R_lower (Kd.R_new' ho0 (Kd.R_lt (by (with_reducible repeat (first | apply Kd.R_alloc | apply Kd.R_drewN | apply Kd.R_drew)); exact HO_3.out))) (below_size (by repeat (first | (with_reducible first | exact HB.out | apply below_alloc | apply pw_below_drewN | apply below_drew1 | refine below_set ?_ GE649.out) | exact HB.out)))); have n2_ := Aside0.mk (blk_below (g := gb649) (o := .cells #[.slice none 0 0] 42 (0, 0)) (by (with_reducible repeat (first | refine blk_drewN ?_ _ | refine blk_drew ?_ | refine blk_alloc ?_ _)); exact BK649.out) hb); have n3_ := Aside0.mk (below_step (by repeat (first | (with_reducible first | exact HB.out | apply below_alloc | apply pw_below_drewN | apply below_drew1 | refine below_set ?_ GE649.out) | exact HB.out)) hb); clear HO_3; clear BK649; clear HB; have HO_3 := n0_; have HO658 := n1_; have BK649 := n2_; have HB := n3_; clear n0_ n1_ n2_ n3_; (try clear hb); (try clear hb2); (try clear hk); (try clear hi); (try clear ho0)) | ((with_reducible refine gate_dst (N := 5) rfl ?_); refine box_event ?hg (N := 5) ?hd (cs := #[.slice none 0 0]) (t := 42) ?hr ?_; (case hd => rfl); (case hg => rfl); (case hr => first | (go_simp; done) | (go_simp; rfl)); intro gb660 hg w15 hbox hb; have n0_ := Aside0.mk (Kd.R_below (by (with_reducible repeat (first | apply Kd.R_alloc | apply Kd.R_drewN | apply Kd.R_drew)); exact HO_3.out) hb); have n1_ := Aside0.mk (Kd.R_below (by (with_reducible repeat (first | apply Kd.R_alloc | apply Kd.R_drewN | apply Kd.R_drew)); exact HO658.out) hb); have n2_ := Aside0.mk (blk_below (g := gb649) (o := .cells #[.slice none 0 0] 42 (0, 0)) (by (with_reducible repeat (first | refine blk_drewN ?_ _ | refine blk_drew ?_ | refine blk_alloc ?_ _)); exact BK649.out) hb); have n3_ := Aside0.mk (below_step (by repeat (first | (with_reducible first | exact HB.out | apply below_alloc | apply pw_below_drewN | apply below_drew1 | refine below_set ?_ GE649.out) | exact HB.out)) hb); have n4_ := Aside0.mk (hbox); have n5_ := Aside0.mk ((by rw [hg]; exact (below_size (by repeat (first | (with_reducible first | exact HB.out | apply below_alloc | apply pw_below_drewN | apply below_drew1 | refine below_set ?_ GE649.out) | exact HB.out))) : w.heap.size ≤ gb660)); have n6_ := Aside0.mk ((by rw [hg]; exact (below_size (by repeat (first | (with_reducible first | exact HB.out | apply below_alloc | apply pw_below_drewN | apply below_drew1 | refine below_set ?_ GE649.out) | exact HB.out))) : w.heap.size ≤ gb660)); have n7_ := Aside0.mk ((by rw [hg]; exact Nat.ne_of_lt (blk_lt (g := gb649) (o := .cells #[.slice none 0 0] 42 (0, 0)) (by (with_reducible repeat (first | refine blk_drewN ?_ _ | refine blk_drew ?_ | refine blk_alloc ?_ _)); exact BK649.out)) : gb649 ≠ gb660)); have n8_ := Aside0.mk ((by rw [hg]; exact Nat.ne_of_gt (blk_lt (g := gb649) (o := .cells #[.slice none 0 0] 42 (0, 0)) (by (with_reducible repeat (first | refine blk_drewN ?_ _ | refine blk_drew ?_ | refine blk_alloc ?_ _)); exact BK649.out)) : gb660 ≠ gb649)); clear HO_3; clear HO658; clear BK649; clear HB; have HO_3 := n0_; have HO658 := n1_; have BK649 := n2_; have HB := n3_; have BK660 := n4_; have GW660 := n5_; have GE660 := n6_; have NB649_660 := n7_; have NB660_649 := n8_; clear n0_ n1_ n2_ n3_ n4_ n5_ n6_ n7_ n8_; clear hb hbox hg; obtain ⟨Ao16, co16, eo16⟩ := Kd.R_slice HO658.out; subst eo16; have hnb17 := NB660_649.out; have hnc17 := NB649_660.out; have hcz18_0 : w15.cell? ⟨gb660, 0, none⟩ = some (.slice none 0 0) := (blk_cell BK660.out 0).trans rfl; have hfz18_0 := blk_frozen BK660.out 0; have hcz19_0 : w15.cell? ⟨gb649, 0, none⟩ = some (.slice none 0 0) := (blk_cell BK649.out 0).trans rfl; have hfz19_0 := blk_frozen BK649.out 0))
          refine bodyPost_ret (results_cell_row rfl _ _ gb649 42 #[.slice Ao16 t656.length co16] (0, 0) _ rfl (by (with_reducible repeat (first | refine blk_drewN ?_ _ | refine blk_drew ?_ | refine blk_alloc ?_ _)); refine blk_put (cs := #[.slice none 0 0]) ?_ 0 _ rfl; (with_reducible repeat (first | refine blk_drewN ?_ _ | refine blk_drew ?_ | refine blk_alloc ?_ _)); refine blk_far ?_ NB649_660.out _; (with_reducible repeat (first | refine blk_drewN ?_ _ | refine blk_drew ?_ | refine blk_alloc ?_ _)); exact BK649.out) Try.underlying42 rfl (by kernel_rfl)) rfl ?_
          exact ⟨_, by first | rfl | (simp [errW_none, errW_some] <;> rfl) | (simp [*, errW_none, errW_some] <;> rfl), by (with_reducible repeat (first | apply Kd.R_alloc | apply Kd.R_drewN | apply Kd.R_drew)); exact Kd.R_mono (Kd.R_far (p := ⟨gb649, 0, none⟩) (Kd.R_far (p := ⟨gb660, 0, none⟩) (Kd.R_types (Kd.R_types HO658.out BK660.out (by decide)) BK649.out (by decide)) (fun _ hk => hk.1.2) (.slice Ao16 t656.length co16)) (fun _ hk => hk.2) (.slice Ao16 t656.length co16)) (fun _ hk => trivial), by repeat (first | (with_reducible first | exact HB.out | apply below_alloc | apply pw_below_drewN | apply below_drew1 | refine below_set ?_ GE649.out | refine below_set ?_ GE660.out) | exact HB.out)⟩
      · rw [if_neg c3] at H
        have c3b0 : decide ((wrap64 (x4_1 + 1)) < (l0.length : Int)) = false := decide_eq_false c3
        clear c3
        replace H := Option.bind_eq_some_iff.mp H
        obtain ⟨⟨t661, t664⟩, A200, H⟩ := H
        replace H : (some t661) = some r := H
        have A20 := Aside0.mk A200
        clear A200
        obtain rfl := Option.some.inj H
        obtain ⟨Ao21, co21, eo21⟩ := Kd.R_slice HO_3.out
        subst eo21
        go_wp2_with (first | ((with_reducible refine gate_callee (f := 28) rfl ?_); refine goesL_ (some 42) rfl rfl Try.func28 (by kernel_rfl) rfl #[.slice Ao21 x3_1.length co21] rfl (by (try simp only [List.map_toArray, List.map_cons, List.map_nil]); first | done | rfl | (simp only [List.length_drop, List.length_take]; rfl)) ?_; (with_reducible refine (soundserviceref09_Make.calls k1 _ _ x3_1 t661 t664 _ ?side1 ?side2 A20.out).mono ?_); (case side1 => repeat (first | exact (Kd.R_reads' HO_3.out).2.2 | (with_reducible refine Kd.C_alloc ?_ _) | (with_reducible refine Kd.C_drewN ?_ _) | (with_reducible refine Kd.C_drew ?_))); (case side2 => exact (Kd.R_reads' HO_3.out).2.1); rintro e w22 ⟨v662, rfl, ho0, hb⟩; refine ⟨_, rfl, ?_⟩; have n0_ := Aside0.mk (Kd.R_elder' (by (with_reducible repeat (first | apply Kd.R_alloc | apply Kd.R_drewN | apply Kd.R_drew)); exact HO_3.out) (Kd.R_base ho0) hb); have n1_ := Aside0.mk (Kd.R_lower (Kd.R_new' ho0 (Kd.R_lt (by (with_reducible repeat (first | apply Kd.R_alloc | apply Kd.R_drewN | apply Kd.R_drew)); exact HO_3.out))) (below_size (by repeat (first | (with_reducible first | exact HB.out | apply below_alloc | apply pw_below_drewN | apply below_drew1 | refine below_set ?_ GE649.out) | exact HB.out)))); have n2_ := Aside0.mk (blk_below (g := gb649) (o := .cells #[.slice none 0 0] 42 (0, 0)) (by (with_reducible repeat (first | refine blk_drewN ?_ _ | refine blk_drew ?_ | refine blk_alloc ?_ _)); exact BK649.out) hb); have n3_ := Aside0.mk (below_step (by repeat (first | (with_reducible first | exact HB.out | apply below_alloc | apply pw_below_drewN | apply below_drew1 | refine below_set ?_ GE649.out) | exact HB.out)) hb); clear HO_3; clear BK649; clear HB; have HO_3 := n0_; have HO663 := n1_; have BK649 := n2_; have HB := n3_; clear n0_ n1_ n2_ n3_; (try clear hb); (try clear hb2); (try clear hk); (try clear hi); (try clear ho0)) | ((with_reducible refine gate_dst (N := 5) rfl ?_); refine box_event ?hg (N := 5) ?hd (cs := #[.slice none 0 0]) (t := 42) ?hr ?_; (case hd => rfl); (case hg => rfl); (case hr => first | (go_simp; done) | (go_simp; rfl)); intro gb665 hg w23 hbox hb; have n0_ := Aside0.mk (Kd.R_below (by (with_reducible repeat (first | apply Kd.R_alloc | apply Kd.R_drewN | apply Kd.R_drew)); exact HO_3.out) hb); have n1_ := Aside0.mk (Kd.R_below (by (with_reducible repeat (first | apply Kd.R_alloc | apply Kd.R_drewN | apply Kd.R_drew)); exact HO663.out) hb); have n2_ := Aside0.mk (blk_below (g := gb649) (o := .cells #[.slice none 0 0] 42 (0, 0)) (by (with_reducible repeat (first | refine blk_drewN ?_ _ | refine blk_drew ?_ | refine blk_alloc ?_ _)); exact BK649.out) hb); have n3_ := Aside0.mk (below_step (by repeat (first | (with_reducible first | exact HB.out | apply below_alloc | apply pw_below_drewN | apply below_drew1 | refine below_set ?_ GE649.out) | exact HB.out)) hb); have n4_ := Aside0.mk (hbox); have n5_ := Aside0.mk ((by rw [hg]; exact (below_size (by repeat (first | (with_reducible first | exact HB.out | apply below_alloc | apply pw_below_drewN | apply below_drew1 | refine below_set ?_ GE649.out) | exact HB.out))) : w.heap.size ≤ gb665)); have n6_ := Aside0.mk ((by rw [hg]; exact (below_size (by repeat (first | (with_reducible first | exact HB.out | apply below_alloc | apply pw_below_drewN | apply below_drew1 | refine below_set ?_ GE649.out) | exact HB.out))) : w.heap.size ≤ gb665)); have n7_ := Aside0.mk ((by rw [hg]; exact Nat.ne_of_lt (blk_lt (g := gb649) (o := .cells #[.slice none 0 0] 42 (0, 0)) (by (with_reducible repeat (first | refine blk_drewN ?_ _ | refine blk_drew ?_ | refine blk_alloc ?_ _)); exact BK649.out)) : gb649 ≠ gb665)); have n8_ := Aside0.mk ((by rw [hg]; exact Nat.ne_of_gt (blk_lt (g := gb649) (o := .cells #[.slice none 0 0] 42 (0, 0)) (by (with_reducible repeat (first | refine blk_drewN ?_ _ | refine blk_drew ?_ | refine blk_alloc ?_ _)); exact BK649.out)) : gb665 ≠ gb649)); clear HO_3; clear HO663; clear BK649; clear HB; have HO_3 := n0_; have HO663 := n1_; have BK649 := n2_; have HB := n3_; have BK665 := n4_; have GW665 := n5_; have GE665 := n6_; have NB649_665 := n7_; have NB665_649 := n8_; clear n0_ n1_ n2_ n3_ n4_ n5_ n6_ n7_ n8_; clear hb hbox hg; obtain ⟨Ao24, co24, eo24⟩ := Kd.R_slice HO663.out; subst eo24; have hnb25 := NB665_649.out; have hnc25 := NB649_665.out; have hcz26_0 : w23.cell? ⟨gb665, 0, none⟩ = some (.slice none 0 0) := (blk_cell BK665.out 0).trans rfl; have hfz26_0 := blk_frozen BK665.out 0; have hcz27_0 : w23.cell? ⟨gb649, 0, none⟩ = some (.slice none 0 0) := (blk_cell BK649.out 0).trans rfl; have hfz27_0 := blk_frozen BK649.out 0))
        refine bodyPost_ret (results_cell_row rfl _ _ gb649 42 #[.slice Ao24 t661.length co24] (0, 0) _ rfl (by (with_reducible repeat (first | refine blk_drewN ?_ _ | refine blk_drew ?_ | refine blk_alloc ?_ _)); refine blk_put (cs := #[.slice none 0 0]) ?_ 0 _ rfl; (with_reducible repeat (first | refine blk_drewN ?_ _ | refine blk_drew ?_ | refine blk_alloc ?_ _)); refine blk_far ?_ NB649_665.out _; (with_reducible repeat (first | refine blk_drewN ?_ _ | refine blk_drew ?_ | refine blk_alloc ?_ _)); exact BK649.out) Try.underlying42 rfl (by kernel_rfl)) rfl ?_
        exact ⟨_, by first | rfl | (simp [errW_none, errW_some] <;> rfl) | (simp [*, errW_none, errW_some] <;> rfl), by (with_reducible repeat (first | apply Kd.R_alloc | apply Kd.R_drewN | apply Kd.R_drew)); exact Kd.R_mono (Kd.R_far (p := ⟨gb649, 0, none⟩) (Kd.R_far (p := ⟨gb665, 0, none⟩) (Kd.R_types (Kd.R_types HO663.out BK665.out (by decide)) BK649.out (by decide)) (fun _ hk => hk.1.2) (.slice Ao24 t661.length co24)) (fun _ hk => hk.2) (.slice Ao24 t661.length co24)) (fun _ hk => trivial), by repeat (first | (with_reducible first | exact HB.out | apply below_alloc | apply pw_below_drewN | apply below_drew1 | refine below_set ?_ GE649.out | refine below_set ?_ GE665.out) | exact HB.out)⟩
end Go.Proofs.Ytbahibaohehojaa.Q
-- YtbahibaohehojaaQf7
namespace Go.Proofs.Ytbahibaohehojaa.Q
open Go.RowKit Go.Proofs.YtbahibaohehojaaW.PrintWords Go.Proofs.YtbahibaohehojaaW.PrintLast Go.Proofs.YtbahibaohehojaaW.PrintMore
attribute [local go_sem] max2_int min2_int max_two min_two max_three min_three max_four min_four
set_option linter.unusedVariables false
set_option linter.unusedSimpArgs false
mutual
def soundservicelaw09_IntsetForms.l0 : Nat → Int → List (S56) → Int → List (S56) → Option (Bool)
  | 0, _, _, _, _ => none
  | k + 1, x1, x6, x7, x682000 => if x7 ≥ 0 then (if 0 ≤ x7 then (if x7 < (x682000.length : Int) then ((some (([(⟨wrap64 (((rd_T56 x682000 x7).f0) + (wrap64 (Int.tdiv (wrap64 (((rd_T56 x682000 x7).f1) - ((rd_T56 x682000 x7).f0))) 2))), (rd_T56 x682000 x7).f1⟩ : S56), (⟨(rd_T56 x682000 x7).f0, wrap64 (((rd_T56 x682000 x7).f0) + (wrap64 (Int.tdiv (wrap64 (((rd_T56 x682000 x7).f1) - ((rd_T56 x682000 x7).f0))) 2)))⟩ : S56), (⟨(rd_T56 x682000 x7).f0, (rd_T56 x682000 x7).f1⟩ : S56)] : List (S56)) : List (S56))).bind fun y684 => (if x6.length + y684.length < 8796093022208 then (soundservicelaw09_IntsetForms.l0 k x1 (x6 ++ y684) (wrap64 (x7 - 1)) x682000) else (none))) else (none)) else (none)) else ((intset_Make.f k x6).bind fun bt690 => (soundservicelaw09_IntsetForms.l1 k bt690.2 (wrap64 (62 + (wrap64 (Int.tmod x1 5)))) ([] : List (S56)) 0 x682000 bt690.1))
def soundservicelaw09_IntsetForms.l1 : Nat → Int → Int → List (S56) → Int → List (S56) → List (S56) → Option (Bool)
  | 0, _, _, _, _, _, _ => none
  | k + 1, x11, x12, x13, x14, x682000, x695000 => if x14 < x12 then (if x13.length < 8796093022208 then (soundservicelaw09_IntsetForms.l1 k x11 x12 (x13 ++ [(⟨wrap64 (2 * x14), wrap64 (2 * x14)⟩ : S56)]) (wrap64 (x14 + 1)) x682000 x695000) else (none)) else ((intset_Make.f k x13).bind fun bt698 => (if x11 = 0 then ((soundserviceref09_Same.f k x682000 x695000).bind fun t703 => (if t703 = true then (if x12 ≤ 64 then (if bt698.2 = 0 then (if (bt698.1.length : Int) = x12 then (some true) else (if x12 > 64 then (if bt698.2 = 3 then (some ((bt698.1.length : Int) == 0)) else (some false)) else (some false))) else (if x12 > 64 then (if bt698.2 = 3 then (some ((bt698.1.length : Int) == 0)) else (some false)) else (some false))) else (if x12 > 64 then (if bt698.2 = 3 then (some ((bt698.1.length : Int) == 0)) else (some false)) else (some false))) else (some false))) else (some false)))
end
def soundservicelaw09_IntsetForms.f (k : Nat) (l0 : List Int) (a1 : Int) : Option (Bool) := (soundservicelaw09_sane.f k).bind fun t677 => (if t677 = true then ((soundservicelaw09_made.f k l0).bind fun t678 => (soundservicelaw09_IntsetForms.l0 k a1 ([] : List (S56)) (wrap64 ((t678.length : Int) - 1)) t678)) else (some false))
set_option maxHeartbeats 8000000 in
set_option maxRecDepth 100000 in
theorem soundservicelaw09_IntsetForms.calls (k : Nat) (A0 : Option Addr) (c0 : Nat) (l0 : List Int) (a1 : Int) (r : Bool) (w : World) (hr0 : Kd.C (Kd.int .u8) w A0 l0.length l0) (hc0 : l0.length ≤ c0) (hT_ : Aside0 (r = true)) (h : soundservicelaw09_IntsetForms.f k l0 a1 = some r) :
    Calls Try.prog 7 #[.slice A0 l0.length c0, .int .u8 a1] w fun e w' => e = .returned (.bool r) ∧ Below w.heap.size w w' := by
  have hu42 := Try.underlying42
  have hu56 := Try.underlying56
  have HR0 := Aside0.mk hr0
  have HC0 := Aside0.mk hc0
  clear hr0 hc0
  have HB := Aside0.mk (Below.refl w.heap.size w)
  have H : ((soundservicelaw09_sane.f k).bind fun t677 => (if t677 = true then ((soundservicelaw09_made.f k l0).bind fun t678 => (soundservicelaw09_IntsetForms.l0 k a1 ([] : List (S56)) (wrap64 ((t678.length : Int) - 1)) t678)) else (some false))) = some r := h
  clear h
  replace H := Option.bind_eq_some_iff.mp H
  obtain ⟨t677, A30, H⟩ := H
  replace H : (if t677 = true then ((soundservicelaw09_made.f k l0).bind fun t678 => (soundservicelaw09_IntsetForms.l0 k a1 ([] : List (S56)) (wrap64 ((t678.length : Int) - 1)) t678)) else (some false)) = some r := H
  have A3 := Aside0.mk A30
  clear A30
  by_cases c4 : t677 = true
  · subst c4
    have H1 : ((soundservicelaw09_made.f k l0).bind fun t678 => (soundservicelaw09_IntsetForms.l0 k a1 ([] : List (S56)) (wrap64 ((t678.length : Int) - 1)) t678)) = some r := by rw [if_pos rfl] at H; exact H
    clear H
    have H := H1
    clear H1
    replace H := Option.bind_eq_some_iff.mp H
    obtain ⟨t678, A50, H⟩ := H
    replace H : (soundservicelaw09_IntsetForms.l0 k a1 ([] : List (S56)) (wrap64 ((t678.length : Int) - 1)) t678) = some r := H
    have A5 := Aside0.mk A50
    clear A50
    have H' := Aside0.mk H
    clear H
    go_enter Try.func7, Try.ntmps7
    go_wp2_with (first | ((with_reducible refine gate_callee (f := 25) rfl ?_); refine goesL_ (some 17) rfl rfl Try.func25 (by kernel_rfl) rfl #[] rfl (by (try simp only [List.map_toArray, List.map_cons, List.map_nil]); first | done | rfl | (simp only [List.length_drop, List.length_take]; rfl)) ?_; (with_reducible refine (soundservicelaw09_sane.calls k  true _ A3.out).mono ?_); rintro e w6 ⟨rfl, hb⟩; refine ⟨_, rfl, ?_⟩; have n0_ := Aside0.mk (below_step (by repeat (first | (with_reducible first | exact HB.out | apply below_alloc | apply pw_below_drewN | apply below_drew1) | exact HB.out)) hb); clear HB; have HB := n0_; clear n0_; (try clear hb); (try clear hb2); (try clear hk); (try clear hi)) | ((with_reducible refine gate_callee (f := 34) rfl ?_); refine goesL_ (some 20) rfl rfl Try.func34 (by kernel_rfl) rfl #[.slice A0 l0.length c0] rfl (by (try simp only [List.map_toArray, List.map_cons, List.map_nil]); first | done | rfl | (simp only [List.length_drop, List.length_take]; rfl)) ?_; (with_reducible refine (soundservicelaw09_made.calls k _ _ l0 t678 _ ?side1 ?side2 A5.out).mono ?_); (case side1 => repeat (first | exact (Kd.C_below HR0.out HB.out) | (with_reducible refine Kd.C_alloc ?_ _) | (with_reducible refine Kd.C_drewN ?_ _) | (with_reducible refine Kd.C_drew ?_))); (case side2 => exact HC0.out); rintro e w7 ⟨v679, rfl, ho0, hb⟩; refine ⟨_, rfl, ?_⟩; have n0_ := Aside0.mk (Kd.R_lower ho0 (below_size (by repeat (first | (with_reducible first | exact HB.out | apply below_alloc | apply pw_below_drewN | apply below_drew1) | exact HB.out)))); have n1_ := Aside0.mk (below_step (by repeat (first | (with_reducible first | exact HB.out | apply below_alloc | apply pw_below_drewN | apply below_drew1) | exact HB.out)) hb); clear HB; have HO680 := n0_; have HB := n1_; clear n0_ n1_; (try clear hb); (try clear hb2); (try clear hk); (try clear hi); (try clear ho0)) | ((with_reducible refine gate_dst (N := 5) rfl ?_); (try (refine gate_guard (by rfl) ?_; dsimp only)); refine box_event ?hg (N := 5) ?hd (cs := #[.slice none 0 0]) (t := 42) ?hr ?_; (case hd => rfl); (case hg => rfl); (case hr => first | (go_simp; done) | (go_simp; rfl)); intro gb681 hg w8 hbox hb; have n0_ := Aside0.mk (Kd.R_below (by (with_reducible repeat (first | apply Kd.R_alloc | apply Kd.R_drewN | apply Kd.R_drew)); exact HO680.out) hb); have n1_ := Aside0.mk (below_step (by repeat (first | (with_reducible first | exact HB.out | apply below_alloc | apply pw_below_drewN | apply below_drew1) | exact HB.out)) hb); have n2_ := Aside0.mk (hbox); have n3_ := Aside0.mk ((by rw [hg]; exact (below_size (by repeat (first | (with_reducible first | exact HB.out | apply below_alloc | apply pw_below_drewN | apply below_drew1) | exact HB.out))) : w.heap.size ≤ gb681)); have n4_ := Aside0.mk ((by rw [hg]; exact (below_size (by repeat (first | (with_reducible first | exact HB.out | apply below_alloc | apply pw_below_drewN | apply below_drew1) | exact HB.out))) : w.heap.size ≤ gb681)); clear HO680; clear HB; have HO680 := n0_; have HB := n1_; have BK681 := n2_; have GW681 := n3_; have GE681 := n4_; clear n0_ n1_ n2_ n3_ n4_; clear hb hbox hg; obtain ⟨Ao9, co9, eo9⟩ := Kd.R_slice HO680.out; subst eo9; have hcz10_0 : w8.cell? ⟨gb681, 0, none⟩ = some (.slice none 0 0) := (blk_cell BK681.out 0).trans rfl; have hfz10_0 := blk_frozen BK681.out 0))
    go_loopg [6, 7] k (fun kq v6 v7 w' => ∃ (x6_1 : List (S56)) (x7_1 : Int), v7 = .int .i64 x7_1 ∧ Aside0 (soundservicelaw09_IntsetForms.l0 kq a1 x6_1 x7_1 t678 = some r) ∧ Aside0 (kq ≤ k) ∧ Aside0 (Kd.R k56 56 w' w.heap.size (fun k_ => some k_ ≠ ((.slice Ao9 t678.length co9) : Value).ownBlock) v6 x6_1) ∧ Aside0 (Kd.R k56 56 w' w.heap.size (fun k_ => some k_ ≠ (v6 : Value).ownBlock) (.slice Ao9 t678.length co9) t678) ∧ Aside0 (w'.heap[gb681]? = some (.cells #[(.slice Ao9 t678.length co9)] 42 (0, 0))) ∧ Aside0 (Below w.heap.size w w'))
    case atStart => exact ⟨(([] : List (S56))), (wrap64 ((t678.length : Int) - 1)), (by first | rfl | (simp; done) | (simp [*]; done)), H', ⟨Nat.le_refl _⟩, ⟨by first | exact Kd.R_nil _ _ _ _ _ | exact Kd.N_nil _ _ _ _ _ | exact Kd.V_nil _ _ _ _ _ | exact Kd.Q_nil _ _ _ _ _ | exact Kd.S_nil _ _ _ _ _⟩, ⟨by (with_reducible repeat (first | apply Kd.R_alloc | apply Kd.R_drewN | apply Kd.R_drew)); exact Kd.R_mono (Kd.R_far (p := ⟨gb681, 0, none⟩) (Kd.R_types HO680.out BK681.out (by decide)) (fun _ hk => hk.2) (.slice Ao9 t678.length co9)) (fun _ hk => (by simp [Value.ownBlock]))⟩, ⟨by (with_reducible repeat (first | refine blk_drewN ?_ _ | refine blk_drew ?_ | refine blk_alloc ?_ _)); refine blk_put (cs := #[.slice none 0 0]) ?_ 0 _ rfl; (with_reducible repeat (first | refine blk_drewN ?_ _ | refine blk_drew ?_ | refine blk_alloc ?_ _)); exact BK681.out⟩, ⟨by repeat (first | (with_reducible first | exact HB.out | apply below_alloc | apply pw_below_drewN | apply below_drew1 | refine below_set ?_ GE681.out) | exact HB.out)⟩⟩
    case round =>
      clear H'
      try clear c2
      try clear p2
      try clear c3
      try clear c4
      try clear p6
      try clear c7
      try clear hcz10_0
      try clear hfz10_0
      obtain ⟨x6_1, x7_1, rfl, HA, HK1, HO_6, HO_682000, BK681, HB⟩ := hrel
      cases gk with
      | zero => exact absurd HA.out (by simp [soundservicelaw09_IntsetForms.l0])
      | succ k1 =>
        have H := HA.out
        clear HA
        simp only [soundservicelaw09_IntsetForms.l0] at H
        by_cases c11 : x7_1 ≥ 0
        · rw [if_pos c11] at H
          have c11b0 : decide (0 ≤ x7_1) = true := decide_eq_true c11
          clear c11
          by_cases c12 : 0 ≤ x7_1
          · rw [if_pos c12] at H
            have c12b0 : decide (0 ≤ x7_1) = true := decide_eq_true c12
            clear c12
            by_cases c13 : x7_1 < (t678.length : Int)
            · rw [if_pos c13] at H
              have c13b0 : decide (x7_1 < (t678.length : Int)) = true := decide_eq_true c13
              clear c13
              obtain ⟨y684, hy684⟩ : ∃ y_ : List (S56), y_ = (([(⟨wrap64 (((rd_T56 t678 x7_1).f0) + (wrap64 (Int.tdiv (wrap64 (((rd_T56 t678 x7_1).f1) - ((rd_T56 t678 x7_1).f0))) 2))), (rd_T56 t678 x7_1).f1⟩ : S56), (⟨(rd_T56 t678 x7_1).f0, wrap64 (((rd_T56 t678 x7_1).f0) + (wrap64 (Int.tdiv (wrap64 (((rd_T56 t678 x7_1).f1) - ((rd_T56 t678 x7_1).f0))) 2)))⟩ : S56), (⟨(rd_T56 t678 x7_1).f0, (rd_T56 t678 x7_1).f1⟩ : S56)] : List (S56))) := ⟨_, rfl⟩
              replace H : (if x6_1.length + y684.length < 8796093022208 then (soundservicelaw09_IntsetForms.l0 k1 a1 (x6_1 ++ y684) (wrap64 (x7_1 - 1)) t678) else (none)) = some r := by first | (rw [hy684]; with_reducible exact H) | (have H2_ := (Option.bind_some _ _).symm.trans H; rw [hy684]; with_reducible exact H2_) | (have H2_ := (Option.bind_some _ _).symm.trans H; with_reducible exact H2_) | with_reducible exact H | (rw [hy684]; exact H) | exact H
              have Ny684 := Aside0.mk hy684
              clear hy684
              by_cases c14 : x6_1.length + y684.length < 8796093022208
              · rw [if_pos c14] at H
                have LMc14 := Aside0.mk c14
                clear c14
                obtain ⟨y687, hy687⟩ : ∃ y_ : List (S56), y_ = (x6_1 ++ y684) := ⟨_, rfl⟩
                replace H : (soundservicelaw09_IntsetForms.l0 k1 a1 y687 (wrap64 (x7_1 - 1)) t678) = some r := by first | (rw [hy687]; with_reducible exact H) | (have H2_ := (Option.bind_some _ _).symm.trans H; rw [hy687]; with_reducible exact H2_) | (have H2_ := (Option.bind_some _ _).symm.trans H; with_reducible exact H2_) | with_reducible exact H | (rw [hy687]; exact H) | exact H
                have Ny687 := Aside0.mk hy687
                clear hy687
                have H' := Aside0.mk H
                clear H
                have hcz15_0 : wr.cell? ⟨gb681, 0, none⟩ = some (.slice Ao9 t678.length co9) := (blk_cell BK681.out 0).trans rfl
                have hfz15_0 := blk_frozen BK681.out 0
                have p682 : 0 ≤ (x7_1 : Int) := of_decide_eq_true (by first | (with_reducible assumption) | assumption)
                have q682 : x7_1 < (t678.length : Int) := of_decide_eq_true (by first | (with_reducible assumption) | assumption)
                obtain ⟨ad682, e682, hx682_0, hx682_1⟩ := at_T56 (Kd.R_reads' HO_682000.out).2.2 x7_1 p682 q682
                cases e682
                replace p682 := eq_true p682
                replace q682 := eq_true q682
                go_wp2_with (first | ((with_reducible refine gate_dst (N := 8) rfl ?_); (try (refine gate_guard (by rfl) ?_; dsimp only)); refine box_event ?hg (N := 8) ?hd (cs := #[.int .i64 0, .int .i64 0]) (t := 56) ?hr ?_; (case hd => rfl); (case hg => rfl); (case hr => first | (go_simp; done) | (go_simp; rfl)); intro gb683 hg w16 hbox hb; have n0_ := Aside0.mk (Kd.R_below (Kd.R_elderB (by (with_reducible repeat (first | apply Kd.R_alloc | apply Kd.R_drewN | apply Kd.R_drew)); exact HO_6.out) gb683 (Nat.le_of_eq hg.symm)) hb); have n1_ := Aside0.mk (Kd.R_below (Kd.R_elderB (by (with_reducible repeat (first | apply Kd.R_alloc | apply Kd.R_drewN | apply Kd.R_drew)); exact HO_682000.out) gb683 (Nat.le_of_eq hg.symm)) hb); have n2_ := Aside0.mk (blk_below (g := gb681) (o := .cells #[.slice (some ad682) t678.length co9] 42 (0, 0)) (by (with_reducible repeat (first | refine blk_drewN ?_ _ | refine blk_drew ?_ | refine blk_alloc ?_ _)); exact BK681.out) hb); have n3_ := Aside0.mk (below_step (by repeat (first | (with_reducible first | exact HB.out | apply below_alloc | apply pw_below_drewN | apply below_drew1 | refine below_set ?_ GE681.out) | exact HB.out)) hb); have n4_ := Aside0.mk (hbox); have n5_ := Aside0.mk ((by rw [hg]; exact (below_size (by repeat (first | (with_reducible first | exact HB.out | apply below_alloc | apply pw_below_drewN | apply below_drew1 | refine below_set ?_ GE681.out) | exact HB.out))) : w.heap.size ≤ gb683)); have n6_ := Aside0.mk ((by rw [hg]; exact (below_size (by repeat (first | (with_reducible first | exact HB.out | apply below_alloc | apply pw_below_drewN | apply below_drew1 | refine below_set ?_ GE681.out) | exact HB.out))) : w.heap.size ≤ gb683)); have n7_ := Aside0.mk ((by rw [hg]; exact Nat.ne_of_lt (blk_lt (g := gb681) (o := .cells #[.slice (some ad682) t678.length co9] 42 (0, 0)) (by (with_reducible repeat (first | refine blk_drewN ?_ _ | refine blk_drew ?_ | refine blk_alloc ?_ _)); exact BK681.out)) : gb681 ≠ gb683)); have n8_ := Aside0.mk ((by rw [hg]; exact Nat.ne_of_gt (blk_lt (g := gb681) (o := .cells #[.slice (some ad682) t678.length co9] 42 (0, 0)) (by (with_reducible repeat (first | refine blk_drewN ?_ _ | refine blk_drew ?_ | refine blk_alloc ?_ _)); exact BK681.out)) : gb683 ≠ gb681)); clear HO_6; clear HO_682000; clear BK681; clear HB; have HO_6 := n0_; have HO_682000 := n1_; have BK681 := n2_; have HB := n3_; have BK683 := n4_; have GW683 := n5_; have GE683 := n6_; have NB681_683 := n7_; have NB683_681 := n8_; clear n0_ n1_ n2_ n3_ n4_ n5_ n6_ n7_ n8_; clear hb hbox hg; have hnb17 := NB683_681.out; have hnc17 := NB681_683.out; have hcz18_0 : w16.cell? ⟨gb683, 0, none⟩ = some (.int .i64 0) := (blk_cell BK683.out 0).trans rfl; have hcz18_1 : w16.cell? ⟨gb683, 1, none⟩ = some (.int .i64 0) := (blk_cell BK683.out 1).trans rfl; have hfz18_0 := blk_frozen BK683.out 0; have hfz18_1 := blk_frozen BK683.out 1) | ((with_reducible refine gate_dst (N := 53) rfl ?_); (try (refine gate_guard (by rfl) ?_; dsimp only)); refine Kd.R_lit k56 _ 56 ?hg (N := 53) ?hd (xs := ([(⟨wrap64 (((rd_T56 t678 x7_1).f0) + (wrap64 (Int.tdiv (wrap64 (((rd_T56 t678 x7_1).f1) - ((rd_T56 t678 x7_1).f0))) 2))), (rd_T56 t678 x7_1).f1⟩ : S56), (⟨(rd_T56 t678 x7_1).f0, wrap64 (((rd_T56 t678 x7_1).f0) + (wrap64 (Int.tdiv (wrap64 (((rd_T56 t678 x7_1).f1) - ((rd_T56 t678 x7_1).f0))) 2)))⟩ : S56), (⟨(rd_T56 t678 x7_1).f0, (rd_T56 t678 x7_1).f1⟩ : S56)] : List (S56))) (inner := [.int .i64 (wrap64 (((rd_T56 t678 x7_1).f0) + (wrap64 (Int.tdiv (wrap64 (((rd_T56 t678 x7_1).f1) - ((rd_T56 t678 x7_1).f0))) 2)))), .int .i64 ((rd_T56 t678 x7_1).f1), .int .i64 ((rd_T56 t678 x7_1).f0), .int .i64 (wrap64 (((rd_T56 t678 x7_1).f0) + (wrap64 (Int.tdiv (wrap64 (((rd_T56 t678 x7_1).f1) - ((rd_T56 t678 x7_1).f0))) 2)))), .int .i64 ((rd_T56 t678 x7_1).f0), .int .i64 ((rd_T56 t678 x7_1).f1)]) (ok := fun _ => True) (okp := fun _ => True) ?hr ?hp (fun _ hk => hk) trivial (Below.refl _ _) (Nat.le_refl _) (by simp) ?_; (case hd => rfl); (case hg => rfl); (case hr => first | (go_simp; done) | (go_simp; rfl)); (case hp => exact (Reps.c2 (show Kd.M k56 _ _ _ (⟨wrap64 (((rd_T56 t678 x7_1).f0) + (wrap64 (Int.tdiv (wrap64 (((rd_T56 t678 x7_1).f1) - ((rd_T56 t678 x7_1).f0))) 2))), (rd_T56 t678 x7_1).f1⟩ : S56) [.int .i64 (wrap64 (((rd_T56 t678 x7_1).f0) + (wrap64 (Int.tdiv (wrap64 (((rd_T56 t678 x7_1).f1) - ((rd_T56 t678 x7_1).f0))) 2)))), .int .i64 ((rd_T56 t678 x7_1).f1)] from (k56_mkM _ _ _ (⟨wrap64 (((rd_T56 t678 x7_1).f0) + (wrap64 (Int.tdiv (wrap64 (((rd_T56 t678 x7_1).f1) - ((rd_T56 t678 x7_1).f0))) 2))), (rd_T56 t678 x7_1).f1⟩ : S56) )) (Reps.c2 (show Kd.M k56 _ _ _ (⟨(rd_T56 t678 x7_1).f0, wrap64 (((rd_T56 t678 x7_1).f0) + (wrap64 (Int.tdiv (wrap64 (((rd_T56 t678 x7_1).f1) - ((rd_T56 t678 x7_1).f0))) 2)))⟩ : S56) [.int .i64 ((rd_T56 t678 x7_1).f0), .int .i64 (wrap64 (((rd_T56 t678 x7_1).f0) + (wrap64 (Int.tdiv (wrap64 (((rd_T56 t678 x7_1).f1) - ((rd_T56 t678 x7_1).f0))) 2))))] from (k56_mkM _ _ _ (⟨(rd_T56 t678 x7_1).f0, wrap64 (((rd_T56 t678 x7_1).f0) + (wrap64 (Int.tdiv (wrap64 (((rd_T56 t678 x7_1).f1) - ((rd_T56 t678 x7_1).f0))) 2)))⟩ : S56) )) (Reps.c2 (show Kd.M k56 _ _ _ (⟨(rd_T56 t678 x7_1).f0, (rd_T56 t678 x7_1).f1⟩ : S56) [.int .i64 ((rd_T56 t678 x7_1).f0), .int .i64 ((rd_T56 t678 x7_1).f1)] from (k56_mkM _ _ _ (⟨(rd_T56 t678 x7_1).f0, (rd_T56 t678 x7_1).f1⟩ : S56) )) (Reps.none _ _))))); intro v685 w19 ho20 hb hg_ hnew_; clear hg_ hnew_; (first | rw [← Ny684.out] at ho20 | (simp only [Int.reduceToNat] at ho20; rw [← Ny684.out] at ho20)); have n0_ := Aside0.mk (Kd.R_elder' (by (with_reducible repeat (first | apply Kd.R_alloc | apply Kd.R_drewN | apply Kd.R_drew)); exact (Kd.R_mono (Kd.R_far (p := ⟨gb683, 1, none⟩) (Kd.R_far (p := ⟨gb683, 0, none⟩) (Kd.R_mono HO_6.out (fun k_ hk => (⟨hk, hk.2⟩ : _ ∧ k_ ≠ gb683))) (fun _ hk => hk.2) (.int .i64 ((rd_T56 t678 x7_1).f0))) (fun _ hk => hk.2) (.int .i64 ((rd_T56 t678 x7_1).f1))) (fun _ h_ => h_.1))) (Kd.R_base ho20) hb); have n1_ := Aside0.mk (Kd.R_elder' (by (with_reducible repeat (first | apply Kd.R_alloc | apply Kd.R_drewN | apply Kd.R_drew)); exact (Kd.R_mono (Kd.R_far (p := ⟨gb683, 1, none⟩) (Kd.R_far (p := ⟨gb683, 0, none⟩) (Kd.R_mono HO_682000.out (fun k_ hk => (⟨hk, hk.2⟩ : _ ∧ k_ ≠ gb683))) (fun _ hk => hk.2) (.int .i64 ((rd_T56 t678 x7_1).f0))) (fun _ hk => hk.2) (.int .i64 ((rd_T56 t678 x7_1).f1))) (fun _ h_ => h_.1))) (Kd.R_base ho20) hb); have n2_ := Aside0.mk (Kd.R_lower (Kd.R_newB (Kd.R_new' (Kd.R_new' ho20 (Kd.R_lt (by (with_reducible repeat (first | apply Kd.R_alloc | apply Kd.R_drewN | apply Kd.R_drew)); exact (Kd.R_mono (Kd.R_far (p := ⟨gb683, 1, none⟩) (Kd.R_far (p := ⟨gb683, 0, none⟩) (Kd.R_mono HO_6.out (fun k_ hk => (⟨hk, hk.2⟩ : _ ∧ k_ ≠ gb683))) (fun _ hk => hk.2) (.int .i64 ((rd_T56 t678 x7_1).f0))) (fun _ hk => hk.2) (.int .i64 ((rd_T56 t678 x7_1).f1))) (fun _ h_ => h_.1))))) (Kd.R_lt (by (with_reducible repeat (first | apply Kd.R_alloc | apply Kd.R_drewN | apply Kd.R_drew)); exact (Kd.R_mono (Kd.R_far (p := ⟨gb683, 1, none⟩) (Kd.R_far (p := ⟨gb683, 0, none⟩) (Kd.R_mono HO_682000.out (fun k_ hk => (⟨hk, hk.2⟩ : _ ∧ k_ ≠ gb683))) (fun _ hk => hk.2) (.int .i64 ((rd_T56 t678 x7_1).f0))) (fun _ hk => hk.2) (.int .i64 ((rd_T56 t678 x7_1).f1))) (fun _ h_ => h_.1))))) (g := gb683) (o := .cells #[.int .i64 ((rd_T56 t678 x7_1).f0), .int .i64 ((rd_T56 t678 x7_1).f1)] 56 (0, 0)) (by (with_reducible repeat (first | refine blk_drewN ?_ _ | refine blk_drew ?_ | refine blk_alloc ?_ _)); refine blk_put (cs := #[.int .i64 ((rd_T56 t678 x7_1).f0), .int .i64 0]) ?_ 1 _ rfl; (with_reducible repeat (first | refine blk_drewN ?_ _ | refine blk_drew ?_ | refine blk_alloc ?_ _)); refine blk_put (cs := #[.int .i64 0, .int .i64 0]) ?_ 0 _ rfl; (with_reducible repeat (first | refine blk_drewN ?_ _ | refine blk_drew ?_ | refine blk_alloc ?_ _)); exact BK683.out)) (below_size (by repeat (first | (with_reducible first | exact HB.out | apply below_alloc | apply pw_below_drewN | apply below_drew1 | refine below_set ?_ GE681.out | refine below_set ?_ GE683.out) | exact HB.out)))); have n3_ := Aside0.mk (blk_below (g := gb681) (o := .cells #[.slice (some ad682) t678.length co9] 42 (0, 0)) (by (with_reducible repeat (first | refine blk_drewN ?_ _ | refine blk_drew ?_ | refine blk_alloc ?_ _)); refine blk_far ?_ NB681_683.out _; (with_reducible repeat (first | refine blk_drewN ?_ _ | refine blk_drew ?_ | refine blk_alloc ?_ _)); refine blk_far ?_ NB681_683.out _; (with_reducible repeat (first | refine blk_drewN ?_ _ | refine blk_drew ?_ | refine blk_alloc ?_ _)); exact BK681.out) hb); have n4_ := Aside0.mk (blk_below (g := gb683) (o := .cells #[.int .i64 ((rd_T56 t678 x7_1).f0), .int .i64 ((rd_T56 t678 x7_1).f1)] 56 (0, 0)) (by (with_reducible repeat (first | refine blk_drewN ?_ _ | refine blk_drew ?_ | refine blk_alloc ?_ _)); refine blk_put (cs := #[.int .i64 ((rd_T56 t678 x7_1).f0), .int .i64 0]) ?_ 1 _ rfl; (with_reducible repeat (first | refine blk_drewN ?_ _ | refine blk_drew ?_ | refine blk_alloc ?_ _)); refine blk_put (cs := #[.int .i64 0, .int .i64 0]) ?_ 0 _ rfl; (with_reducible repeat (first | refine blk_drewN ?_ _ | refine blk_drew ?_ | refine blk_alloc ?_ _)); exact BK683.out) hb); have n5_ := Aside0.mk (below_step (by repeat (first | (with_reducible first | exact HB.out | apply below_alloc | apply pw_below_drewN | apply below_drew1 | refine below_set ?_ GE681.out | refine below_set ?_ GE683.out) | exact HB.out)) hb); clear HO_6; clear HO_682000; clear BK681; clear BK683; clear HB; have HO_6 := n0_; have HO_682000 := n1_; have HO686 := n2_; have BK681 := n3_; have BK683 := n4_; have HB := n5_; clear n0_ n1_ n2_ n3_ n4_ n5_; clear hb ho20; obtain ⟨Ao22, co22, eo22⟩ := Kd.R_slice HO686.out; subst eo22) | ((with_reducible refine gate_builtin (b := .append) (xs := #[.tmp 43, .tmp 53]) rfl ?_); (try (refine gate_guard (by rfl) ?_; dsimp only)); at_builtin; refine Kd.R_append_rows k56 (w0 := w) w.heap.size rfl (.tmp 43) (.tmp 53) 40 56 (.agg #[(.int .i64 0), (.int .i64 0)]) 16 rfl Try.underlying40 info56 rfl (by decide) (by omega) u6 x6_1 y684 _ _ _ (fun k_ => some k_ ≠ (.slice (some ad682) t678.length co9 : Value).ownBlock ∧ some k_ ≠ (.slice Ao22 y684.length co22 : Value).ownBlock ∧ k_ ≠ gb683) (fun _ => False) rfl rfl ?aO ?aR (fun _ _ h => h) (fun _ h => h.elim) ?aF ?aB ?aS ?aL ?_; (case aR => repeat (first | exact (Kd.R_reads' HO686.out).2.2 | (with_reducible refine Kd.C_alloc ?_ _) | (with_reducible refine Kd.C_drewN ?_ _) | (with_reducible refine Kd.C_drew ?_))); (case aB => exact (by repeat (first | (with_reducible first | exact HB.out | apply below_alloc | apply pw_below_drewN | apply below_drew1 | refine below_set ?_ GE681.out | refine below_set ?_ GE683.out) | exact HB.out))); (case aF => exact (fun k_ hk => ⟨Kd.fresh' (Kd.R_lt (by (with_reducible repeat (first | apply Kd.R_alloc | apply Kd.R_drewN | apply Kd.R_drew)); exact HO_682000.out)) k_ hk, Kd.fresh' (Kd.R_lt (by (with_reducible repeat (first | apply Kd.R_alloc | apply Kd.R_drewN | apply Kd.R_drew)); exact HO686.out)) k_ hk, Kd.freshB (g := gb683) (o := .cells #[.int .i64 ((rd_T56 t678 x7_1).f0), .int .i64 ((rd_T56 t678 x7_1).f1)] 56 (0, 0)) (by (with_reducible repeat (first | refine blk_drewN ?_ _ | refine blk_drew ?_ | refine blk_alloc ?_ _)); exact BK683.out) k_ hk⟩)); (case aO => exact (by (with_reducible repeat (first | apply Kd.R_alloc | apply Kd.R_drewN | apply Kd.R_drew)); exact Kd.R_mono HO_6.out (fun _ hk => ⟨hk.1.1, ⟨hk.2, hk.1.2⟩⟩))); (case aS => exact (below_size (by repeat (first | (with_reducible first | exact HB.out | apply below_alloc | apply pw_below_drewN | apply below_drew1 | refine below_set ?_ GE681.out | refine below_set ?_ GE683.out) | exact HB.out)))); (case aL => have := LMc14.out; omega); intro v688 w21 ho hb hg hat; rw [← Ny687.out] at ho; have n0_ := Aside0.mk (Kd.R_after (ok := (fun k_ => some k_ ≠ (.slice Ao22 y684.length co22 : Value).ownBlock ∧ k_ ≠ gb683)) (by (with_reducible repeat (first | apply Kd.R_alloc | apply Kd.R_drewN | apply Kd.R_drew)); exact Kd.R_mono HO_682000.out (fun _ hk => ⟨⟨hk.2, hk.1.2⟩, hk.1.1⟩)) hg hat); have n1_ := Aside0.mk (blk_grown (g := gb681) (o := .cells #[.slice (some ad682) t678.length co9] 42 (0, 0)) (by (with_reducible repeat (first | refine blk_drewN ?_ _ | refine blk_drew ?_ | refine blk_alloc ?_ _)); exact BK681.out) hg (Kd.R_ne HO_6.out BK681.out (by decide))); have n2_ := Aside0.mk (blk_grown (g := gb683) (o := .cells #[.int .i64 ((rd_T56 t678 x7_1).f0), .int .i64 ((rd_T56 t678 x7_1).f1)] 56 (0, 0)) (by (with_reducible repeat (first | refine blk_drewN ?_ _ | refine blk_drew ?_ | refine blk_alloc ?_ _)); exact BK683.out) hg (Kd.R_away HO_6.out (fun _ hk => hk.1.2))); have n3_ := Aside0.mk (Kd.R_after (ok := (fun k_ => some k_ ≠ (.slice (some ad682) t678.length co9 : Value).ownBlock ∧ k_ ≠ gb683)) (by (with_reducible repeat (first | apply Kd.R_alloc | apply Kd.R_drewN | apply Kd.R_drew)); exact Kd.R_mono HO686.out (fun _ hk => ⟨⟨hk.1.2, hk.2⟩, hk.1.1.2⟩)) hg hat); have n4_ := Aside0.mk (hb); have n5_ := Aside0.mk (ho); clear HO_682000; clear BK681; clear BK683; clear HO686; clear HB; clear HO_6; have HO_682000 := n0_; have BK681 := n1_; have BK683 := n2_; have HO686 := n3_; have HB := n4_; have HO689 := n5_; clear n0_ n1_ n2_ n3_ n4_ n5_; clear ho hb hg hat))
                go_roundg k1
                case measure => have := HK1.out; omega
                case rel => exact ⟨(y687), (wrap64 (x7_1 - 1)), (by first | rfl | (simp; done) | (simp [*]; done)), H', ⟨by have := HK1.out; omega⟩, ⟨by (with_reducible repeat (first | apply Kd.R_alloc | apply Kd.R_drewN | apply Kd.R_drew)); exact Kd.R_mono HO689.out (fun _ hk => hk.1)⟩, ⟨by (with_reducible repeat (first | apply Kd.R_alloc | apply Kd.R_drewN | apply Kd.R_drew)); exact Kd.R_mono HO_682000.out (fun _ hk => hk.2)⟩, ⟨by (with_reducible repeat (first | refine blk_drewN ?_ _ | refine blk_drew ?_ | refine blk_alloc ?_ _)); exact BK681.out⟩, ⟨by repeat (first | (with_reducible first | exact HB.out | apply below_alloc | apply pw_below_drewN | apply below_drew1 | refine below_set ?_ GE681.out | refine below_set ?_ GE683.out) | exact HB.out)⟩⟩
              · rw [if_neg c14] at H
                exact absurd H (by simp)
            · rw [if_neg c13] at H
              exact absurd H (by simp)
          · rw [if_neg c12] at H
            exact absurd H (by simp)
        · rw [if_neg c11] at H
          have c11b0 : decide (0 ≤ x7_1) = false := decide_eq_false c11
          clear c11
          replace H := Option.bind_eq_some_iff.mp H
          obtain ⟨⟨t690, t693⟩, A230, H⟩ := H
          replace H : (soundservicelaw09_IntsetForms.l1 k1 t693 (wrap64 (62 + (wrap64 (Int.tmod a1 5)))) ([] : List (S56)) 0 t678 t690) = some r := H
          have A23 := Aside0.mk A230
          clear A230
          have H' := Aside0.mk H
          clear H
          obtain ⟨Ao24, co24, eo24⟩ := Kd.R_slice HO_6.out
          subst eo24
          go_wp2_with (first | ((with_reducible refine gate_callee (f := 27) rfl ?_); refine goesL_ (some 57) rfl rfl Try.func27 (by kernel_rfl) rfl #[.slice Ao24 x6_1.length co24] rfl (by (try simp only [List.map_toArray, List.map_cons, List.map_nil]); first | done | rfl | (simp only [List.length_drop, List.length_take]; rfl)) ?_; (with_reducible refine (intset_Make.calls k1 _ _ x6_1 t690 t693 _ ?side1 ?side2 A23.out).mono ?_); (case side1 => repeat (first | exact (Kd.R_reads' HO_6.out).2.2 | (with_reducible refine Kd.C_alloc ?_ _) | (with_reducible refine Kd.C_drewN ?_ _) | (with_reducible refine Kd.C_drew ?_))); (case side2 => exact (Kd.R_reads' HO_6.out).2.1); rintro e w25 ⟨v691, rfl, ho0, hb⟩; refine ⟨_, rfl, ?_⟩; have n0_ := Aside0.mk (Kd.R_elder' (by (with_reducible repeat (first | apply Kd.R_alloc | apply Kd.R_drewN | apply Kd.R_drew)); exact HO_6.out) (Kd.R_base ho0) hb); have n1_ := Aside0.mk (Kd.R_elder' (by (with_reducible repeat (first | apply Kd.R_alloc | apply Kd.R_drewN | apply Kd.R_drew)); exact HO_682000.out) (Kd.R_base ho0) hb); have n2_ := Aside0.mk (Kd.R_lower (Kd.R_new' (Kd.R_new' ho0 (Kd.R_lt (by (with_reducible repeat (first | apply Kd.R_alloc | apply Kd.R_drewN | apply Kd.R_drew)); exact HO_6.out))) (Kd.R_lt (by (with_reducible repeat (first | apply Kd.R_alloc | apply Kd.R_drewN | apply Kd.R_drew)); exact HO_682000.out))) (below_size (by repeat (first | (with_reducible first | exact HB.out | apply below_alloc | apply pw_below_drewN | apply below_drew1 | refine below_set ?_ GE681.out) | exact HB.out)))); have n3_ := Aside0.mk (blk_below (g := gb681) (o := .cells #[.slice Ao9 t678.length co9] 42 (0, 0)) (by (with_reducible repeat (first | refine blk_drewN ?_ _ | refine blk_drew ?_ | refine blk_alloc ?_ _)); exact BK681.out) hb); have n4_ := Aside0.mk (below_step (by repeat (first | (with_reducible first | exact HB.out | apply below_alloc | apply pw_below_drewN | apply below_drew1 | refine below_set ?_ GE681.out) | exact HB.out)) hb); clear HO_6; clear HO_682000; clear BK681; clear HB; have HO_6 := n0_; have HO_682000 := n1_; have HO692 := n2_; have BK681 := n3_; have HB := n4_; clear n0_ n1_ n2_ n3_ n4_; (try clear hb); (try clear hb2); (try clear hk); (try clear hi); (try clear ho0)) | ((with_reducible refine gate_dst (N := 10) rfl ?_); (try (refine gate_guard (by rfl) ?_; dsimp only)); refine box_event ?hg (N := 10) ?hd (cs := #[.slice none 0 0]) (t := 42) ?hr ?_; (case hd => rfl); (case hg => rfl); (case hr => first | (go_simp; done) | (go_simp; rfl)); intro gb694 hg w26 hbox hb; have n0_ := Aside0.mk (Kd.R_below (by (with_reducible repeat (first | apply Kd.R_alloc | apply Kd.R_drewN | apply Kd.R_drew)); exact HO_6.out) hb); have n1_ := Aside0.mk (Kd.R_below (by (with_reducible repeat (first | apply Kd.R_alloc | apply Kd.R_drewN | apply Kd.R_drew)); exact HO_682000.out) hb); have n2_ := Aside0.mk (Kd.R_below (by (with_reducible repeat (first | apply Kd.R_alloc | apply Kd.R_drewN | apply Kd.R_drew)); exact HO692.out) hb); have n3_ := Aside0.mk (blk_below (g := gb681) (o := .cells #[.slice Ao9 t678.length co9] 42 (0, 0)) (by (with_reducible repeat (first | refine blk_drewN ?_ _ | refine blk_drew ?_ | refine blk_alloc ?_ _)); exact BK681.out) hb); have n4_ := Aside0.mk (below_step (by repeat (first | (with_reducible first | exact HB.out | apply below_alloc | apply pw_below_drewN | apply below_drew1 | refine below_set ?_ GE681.out) | exact HB.out)) hb); have n5_ := Aside0.mk (hbox); have n6_ := Aside0.mk ((by rw [hg]; exact (below_size (by repeat (first | (with_reducible first | exact HB.out | apply below_alloc | apply pw_below_drewN | apply below_drew1 | refine below_set ?_ GE681.out) | exact HB.out))) : w.heap.size ≤ gb694)); have n7_ := Aside0.mk ((by rw [hg]; exact (below_size (by repeat (first | (with_reducible first | exact HB.out | apply below_alloc | apply pw_below_drewN | apply below_drew1 | refine below_set ?_ GE681.out) | exact HB.out))) : w.heap.size ≤ gb694)); have n8_ := Aside0.mk ((by rw [hg]; exact Nat.ne_of_lt (blk_lt (g := gb681) (o := .cells #[.slice Ao9 t678.length co9] 42 (0, 0)) (by (with_reducible repeat (first | refine blk_drewN ?_ _ | refine blk_drew ?_ | refine blk_alloc ?_ _)); exact BK681.out)) : gb681 ≠ gb694)); have n9_ := Aside0.mk ((by rw [hg]; exact Nat.ne_of_gt (blk_lt (g := gb681) (o := .cells #[.slice Ao9 t678.length co9] 42 (0, 0)) (by (with_reducible repeat (first | refine blk_drewN ?_ _ | refine blk_drew ?_ | refine blk_alloc ?_ _)); exact BK681.out)) : gb694 ≠ gb681)); clear HO_6; clear HO_682000; clear HO692; clear BK681; clear HB; have HO_6 := n0_; have HO_682000 := n1_; have HO692 := n2_; have BK681 := n3_; have HB := n4_; have BK694 := n5_; have GW694 := n6_; have GE694 := n7_; have NB681_694 := n8_; have NB694_681 := n9_; clear n0_ n1_ n2_ n3_ n4_ n5_ n6_ n7_ n8_ n9_; clear hb hbox hg; obtain ⟨Ao27, co27, eo27⟩ := Kd.R_slice HO692.out; subst eo27; have hnb28 := NB694_681.out; have hnc28 := NB681_694.out; have hcz29_0 : w26.cell? ⟨gb694, 0, none⟩ = some (.slice none 0 0) := (blk_cell BK694.out 0).trans rfl; have hfz29_0 := blk_frozen BK694.out 0))
          go_loopg [13, 14] k1 (fun kq v13 v14 w' => ∃ (x13_2 : List (S56)) (x14_2 : Int), v14 = .int .i64 x14_2 ∧ Aside0 (soundservicelaw09_IntsetForms.l1 kq t693 (wrap64 (62 + (wrap64 (Int.tmod a1 5)))) x13_2 x14_2 t678 t690 = some r) ∧ Aside0 (kq ≤ k1) ∧ Aside0 (Kd.R k56 56 w' w.heap.size (fun k_ => some k_ ≠ ((.slice Ao9 t678.length co9) : Value).ownBlock ∧ some k_ ≠ ((.slice Ao27 t690.length co27) : Value).ownBlock) v13 x13_2) ∧ Aside0 (Kd.R k56 56 w' w.heap.size (fun k_ => some k_ ≠ (v13 : Value).ownBlock ∧ some k_ ≠ ((.slice Ao27 t690.length co27) : Value).ownBlock) (.slice Ao9 t678.length co9) t678) ∧ Aside0 (Kd.R k56 56 w' w.heap.size (fun k_ => some k_ ≠ (v13 : Value).ownBlock ∧ some k_ ≠ ((.slice Ao9 t678.length co9) : Value).ownBlock) (.slice Ao27 t690.length co27) t690) ∧ Aside0 (w'.heap[gb681]? = some (.cells #[(.slice Ao9 t678.length co9)] 42 (0, 0))) ∧ Aside0 (w'.heap[gb694]? = some (.cells #[(.slice Ao27 t690.length co27)] 42 (0, 0))) ∧ Aside0 (Below w.heap.size w w'))
          case atStart => exact ⟨(([] : List (S56))), (0), (by first | rfl | (simp; done) | (simp [*]; done)), H', ⟨Nat.le_refl _⟩, ⟨by first | exact Kd.R_nil _ _ _ _ _ | exact Kd.N_nil _ _ _ _ _ | exact Kd.V_nil _ _ _ _ _ | exact Kd.Q_nil _ _ _ _ _ | exact Kd.S_nil _ _ _ _ _⟩, ⟨by (with_reducible repeat (first | apply Kd.R_alloc | apply Kd.R_drewN | apply Kd.R_drew)); exact Kd.R_mono (Kd.R_far (p := ⟨gb694, 0, none⟩) (Kd.R_types HO_682000.out BK694.out (by decide)) (fun _ hk => hk.2) (.slice Ao27 t690.length co27)) (fun _ hk => ⟨(by simp [Value.ownBlock]), hk.1.2⟩)⟩, ⟨by (with_reducible repeat (first | apply Kd.R_alloc | apply Kd.R_drewN | apply Kd.R_drew)); exact Kd.R_mono (Kd.R_far (p := ⟨gb694, 0, none⟩) (Kd.R_types HO692.out BK694.out (by decide)) (fun _ hk => hk.2) (.slice Ao27 t690.length co27)) (fun _ hk => ⟨(by simp [Value.ownBlock]), hk.1.2⟩)⟩, ⟨by (with_reducible repeat (first | refine blk_drewN ?_ _ | refine blk_drew ?_ | refine blk_alloc ?_ _)); refine blk_far ?_ NB681_694.out _; (with_reducible repeat (first | refine blk_drewN ?_ _ | refine blk_drew ?_ | refine blk_alloc ?_ _)); exact BK681.out⟩, ⟨by (with_reducible repeat (first | refine blk_drewN ?_ _ | refine blk_drew ?_ | refine blk_alloc ?_ _)); refine blk_put (cs := #[.slice none 0 0]) ?_ 0 _ rfl; (with_reducible repeat (first | refine blk_drewN ?_ _ | refine blk_drew ?_ | refine blk_alloc ?_ _)); exact BK694.out⟩, ⟨by repeat (first | (with_reducible first | exact HB.out | apply below_alloc | apply pw_below_drewN | apply below_drew1 | refine below_set ?_ GE681.out | refine below_set ?_ GE694.out) | exact HB.out)⟩⟩
          case round =>
            clear H'
            try clear c1
            try clear c2
            try clear p2
            try clear c3
            try clear c4
            try clear p6
            try clear q6
            try clear hx6
            try clear c7
            try clear c11
            try clear c11b0
            try clear c12
            try clear c12b0
            try clear c13
            try clear c13b0
            try clear c14
            try clear c17
            try clear c25
            try clear c27
            try clear c28
            try clear hcz10_0
            try clear hcz15_0
            try clear hcz18_0
            try clear hcz18_1
            try clear hcz29_0
            try clear hfz10_0
            try clear hfz15_0
            try clear hfz18_0
            try clear hfz18_1
            try clear hfz29_0
            try clear hx682_0
            try clear hx682_1
            try clear p2
            try clear p6
            try clear p682
            try clear q682
            obtain ⟨x13_2, x14_2, rfl, HA, HK2, HO_13, HO_682000, HO_695000, BK681, BK694, HB⟩ := hrel
            cases gk with
            | zero => exact absurd HA.out (by simp [soundservicelaw09_IntsetForms.l1])
            | succ k2 =>
              have H := HA.out
              clear HA
              simp only [soundservicelaw09_IntsetForms.l1] at H
              by_cases c30 : x14_2 < (wrap64 (62 + (wrap64 (Int.tmod a1 5))))
              · rw [if_pos c30] at H
                have c30b0 : decide (x14_2 < (wrap64 (62 + (wrap64 (Int.tmod a1 5))))) = true := decide_eq_true c30
                clear c30
                by_cases c31 : x13_2.length < 8796093022208
                · rw [if_pos c31] at H
                  have LMc31 := Aside0.mk c31
                  clear c31
                  obtain ⟨y695, hy695⟩ : ∃ y_ : List (S56), y_ = (x13_2 ++ [(⟨wrap64 (2 * x14_2), wrap64 (2 * x14_2)⟩ : S56)]) := ⟨_, rfl⟩
                  replace H : (soundservicelaw09_IntsetForms.l1 k2 t693 (wrap64 (62 + (wrap64 (Int.tmod a1 5)))) y695 (wrap64 (x14_2 + 1)) t678 t690) = some r := by first | (rw [hy695]; with_reducible exact H) | (have H2_ := (Option.bind_some _ _).symm.trans H; rw [hy695]; with_reducible exact H2_) | (have H2_ := (Option.bind_some _ _).symm.trans H; with_reducible exact H2_) | with_reducible exact H | (rw [hy695]; exact H) | exact H
                  have Ny695 := Aside0.mk hy695
                  clear hy695
                  have H' := Aside0.mk H
                  clear H
                  go_wp2_with (first | ((with_reducible refine gate_builtin (b := .append) (xs := #[.tmp 69, .tmp 75]) rfl ?_); (try (refine gate_guard (by rfl) ?_; dsimp only)); at_builtin; refine Kd.R_append k56 (w0 := w) w.heap.size rfl (.tmp 69) (.tmp 75) 40 56 (.agg #[(.int .i64 0), (.int .i64 0)]) 16 rfl Try.underlying40 info56 rfl (by decide) (by omega) u13 x13_2 (⟨wrap64 (2 * x14_2), wrap64 (2 * x14_2)⟩ : S56) [.int .i64 (wrap64 (2 * x14_2)), .int .i64 (wrap64 (2 * x14_2))] (fun k_ => some k_ ≠ (.slice Ao9 t678.length co9 : Value).ownBlock ∧ some k_ ≠ (.slice Ao27 t690.length co27 : Value).ownBlock) (fun _ => False) rfl rfl ?aP (fun _ hk => hk.elim) ?aF ?aO ?aB ?aS ?aL ?_; (case aP => exact k56_mkM _ _ _ (⟨wrap64 (2 * x14_2), wrap64 (2 * x14_2)⟩ : S56)); (case aB => exact (by repeat (first | (with_reducible first | exact HB.out | apply below_alloc | apply pw_below_drewN | apply below_drew1 | refine below_set ?_ GE681.out | refine below_set ?_ GE694.out) | exact HB.out))); (case aF => exact (fun k_ hk => ⟨Kd.fresh' (Kd.R_lt (by (with_reducible repeat (first | apply Kd.R_alloc | apply Kd.R_drewN | apply Kd.R_drew)); exact HO_682000.out)) k_ hk, Kd.fresh' (Kd.R_lt (by (with_reducible repeat (first | apply Kd.R_alloc | apply Kd.R_drewN | apply Kd.R_drew)); exact HO_695000.out)) k_ hk⟩)); (case aO => exact (by (with_reducible repeat (first | apply Kd.R_alloc | apply Kd.R_drewN | apply Kd.R_drew)); exact HO_13.out)); (case aS => exact (below_size (by repeat (first | (with_reducible first | exact HB.out | apply below_alloc | apply pw_below_drewN | apply below_drew1 | refine below_set ?_ GE681.out | refine below_set ?_ GE694.out) | exact HB.out)))); (case aL => have := LMc31.out; omega); intro v696 w32 ho hb hg hat; rw [← Ny695.out] at ho; have n0_ := Aside0.mk (Kd.R_after (ok := (fun k_ => some k_ ≠ (.slice Ao27 t690.length co27 : Value).ownBlock)) (by (with_reducible repeat (first | apply Kd.R_alloc | apply Kd.R_drewN | apply Kd.R_drew)); exact Kd.R_mono HO_682000.out (fun _ hk => ⟨hk.2, hk.1⟩)) hg hat); have n1_ := Aside0.mk (Kd.R_after (ok := (fun k_ => some k_ ≠ (.slice Ao9 t678.length co9 : Value).ownBlock)) (by (with_reducible repeat (first | apply Kd.R_alloc | apply Kd.R_drewN | apply Kd.R_drew)); exact Kd.R_mono HO_695000.out (fun _ hk => ⟨hk.2, hk.1⟩)) hg hat); have n2_ := Aside0.mk (blk_grown (g := gb681) (o := .cells #[.slice Ao9 t678.length co9] 42 (0, 0)) (by (with_reducible repeat (first | refine blk_drewN ?_ _ | refine blk_drew ?_ | refine blk_alloc ?_ _)); exact BK681.out) hg (Kd.R_ne HO_13.out BK681.out (by decide))); have n3_ := Aside0.mk (blk_grown (g := gb694) (o := .cells #[.slice Ao27 t690.length co27] 42 (0, 0)) (by (with_reducible repeat (first | refine blk_drewN ?_ _ | refine blk_drew ?_ | refine blk_alloc ?_ _)); exact BK694.out) hg (Kd.R_ne HO_13.out BK694.out (by decide))); have n4_ := Aside0.mk (hb); have n5_ := Aside0.mk (ho); clear HO_682000; clear HO_695000; clear BK681; clear BK694; clear HB; clear HO_13; have HO_682000 := n0_; have HO_695000 := n1_; have BK681 := n2_; have BK694 := n3_; have HB := n4_; have HO697 := n5_; clear n0_ n1_ n2_ n3_ n4_ n5_; clear ho hb hg hat))
                  go_roundg k2
                  case measure => have := HK1.out; have := HK2.out; omega
                  case rel => exact ⟨(y695), (wrap64 (x14_2 + 1)), (by first | rfl | (simp; done) | (simp [*]; done)), H', ⟨by have := HK1.out; have := HK2.out; omega⟩, ⟨by (with_reducible repeat (first | apply Kd.R_alloc | apply Kd.R_drewN | apply Kd.R_drew)); exact HO697.out⟩, ⟨by (with_reducible repeat (first | apply Kd.R_alloc | apply Kd.R_drewN | apply Kd.R_drew)); exact Kd.R_mono HO_682000.out (fun _ hk => ⟨hk.2, hk.1⟩)⟩, ⟨by (with_reducible repeat (first | apply Kd.R_alloc | apply Kd.R_drewN | apply Kd.R_drew)); exact Kd.R_mono HO_695000.out (fun _ hk => ⟨hk.2, hk.1⟩)⟩, ⟨by (with_reducible repeat (first | refine blk_drewN ?_ _ | refine blk_drew ?_ | refine blk_alloc ?_ _)); exact BK681.out⟩, ⟨by (with_reducible repeat (first | refine blk_drewN ?_ _ | refine blk_drew ?_ | refine blk_alloc ?_ _)); exact BK694.out⟩, ⟨by repeat (first | (with_reducible first | exact HB.out | apply below_alloc | apply pw_below_drewN | apply below_drew1 | refine below_set ?_ GE681.out | refine below_set ?_ GE694.out) | exact HB.out)⟩⟩
                · rw [if_neg c31] at H
                  exact absurd H (by simp)
              · rw [if_neg c30] at H
                have c30b0 : decide (x14_2 < (wrap64 (62 + (wrap64 (Int.tmod a1 5))))) = false := decide_eq_false c30
                clear c30
                replace H := Option.bind_eq_some_iff.mp H
                obtain ⟨⟨t698, t701⟩, A330, H⟩ := H
                replace H : (if t693 = 0 then ((soundserviceref09_Same.f k2 t678 t690).bind fun t703 => (if t703 = true then (if (wrap64 (62 + (wrap64 (Int.tmod a1 5)))) ≤ 64 then (if t701 = 0 then (if (t698.length : Int) = (wrap64 (62 + (wrap64 (Int.tmod a1 5)))) then (some true) else (if (wrap64 (62 + (wrap64 (Int.tmod a1 5)))) > 64 then (if t701 = 3 then (some ((t698.length : Int) == 0)) else (some false)) else (some false))) else (if (wrap64 (62 + (wrap64 (Int.tmod a1 5)))) > 64 then (if t701 = 3 then (some ((t698.length : Int) == 0)) else (some false)) else (some false))) else (if (wrap64 (62 + (wrap64 (Int.tmod a1 5)))) > 64 then (if t701 = 3 then (some ((t698.length : Int) == 0)) else (some false)) else (some false))) else (some false))) else (some false)) = some r := H
                have A33 := Aside0.mk A330
                clear A330
                by_cases c34 : t693 = 0
                · rw [if_pos c34] at H
                  have c34b0 : (t693 == 0) = true := beq_iff_eq.mpr c34
                  have c34b1 : (t693 != 0) = false := bne_eq_false_iff_eq.mpr c34
                  clear c34
                  replace H := Option.bind_eq_some_iff.mp H
                  obtain ⟨t703, A350, H⟩ := H
                  replace H : (if t703 = true then (if (wrap64 (62 + (wrap64 (Int.tmod a1 5)))) ≤ 64 then (if t701 = 0 then (if (t698.length : Int) = (wrap64 (62 + (wrap64 (Int.tmod a1 5)))) then (some true) else (if (wrap64 (62 + (wrap64 (Int.tmod a1 5)))) > 64 then (if t701 = 3 then (some ((t698.length : Int) == 0)) else (some false)) else (some false))) else (if (wrap64 (62 + (wrap64 (Int.tmod a1 5)))) > 64 then (if t701 = 3 then (some ((t698.length : Int) == 0)) else (some false)) else (some false))) else (if (wrap64 (62 + (wrap64 (Int.tmod a1 5)))) > 64 then (if t701 = 3 then (some ((t698.length : Int) == 0)) else (some false)) else (some false))) else (some false)) = some r := H
                  have A35 := Aside0.mk A350
                  clear A350
                  by_cases c36 : t703 = true
                  · subst c36
                    have H1 : (if (wrap64 (62 + (wrap64 (Int.tmod a1 5)))) ≤ 64 then (if t701 = 0 then (if (t698.length : Int) = (wrap64 (62 + (wrap64 (Int.tmod a1 5)))) then (some true) else (if (wrap64 (62 + (wrap64 (Int.tmod a1 5)))) > 64 then (if t701 = 3 then (some ((t698.length : Int) == 0)) else (some false)) else (some false))) else (if (wrap64 (62 + (wrap64 (Int.tmod a1 5)))) > 64 then (if t701 = 3 then (some ((t698.length : Int) == 0)) else (some false)) else (some false))) else (if (wrap64 (62 + (wrap64 (Int.tmod a1 5)))) > 64 then (if t701 = 3 then (some ((t698.length : Int) == 0)) else (some false)) else (some false))) = some r := by rw [if_pos rfl] at H; exact H
                    clear H
                    have H := H1
                    clear H1
                    by_cases c37 : (wrap64 (62 + (wrap64 (Int.tmod a1 5)))) ≤ 64
                    · rw [if_pos c37] at H
                      have c37b0 : decide ((wrap64 (62 + (wrap64 (Int.tmod a1 5)))) ≤ 64) = true := decide_eq_true c37
                      clear c37
                      by_cases c38 : t701 = 0
                      · rw [if_pos c38] at H
                        have c38b0 : (t701 == 0) = true := beq_iff_eq.mpr c38
                        have c38b1 : (t701 != 0) = false := bne_eq_false_iff_eq.mpr c38
                        clear c38
                        by_cases c39 : (t698.length : Int) = (wrap64 (62 + (wrap64 (Int.tmod a1 5))))
                        · rw [if_pos c39] at H
                          have c39b0 : ((t698.length : Int) == (wrap64 (62 + (wrap64 (Int.tmod a1 5))))) = true := beq_iff_eq.mpr c39
                          have c39b1 : ((t698.length : Int) != (wrap64 (62 + (wrap64 (Int.tmod a1 5))))) = false := bne_eq_false_iff_eq.mpr c39
                          clear c39
                          obtain rfl := Option.some.inj H
                          obtain ⟨Ao40, co40, eo40⟩ := Kd.R_slice HO_13.out
                          subst eo40
                          go_wp2_with (first | ((with_reducible refine gate_callee (f := 27) rfl ?_); refine goesL_ (some 79) rfl rfl Try.func27 (by kernel_rfl) rfl #[.slice Ao40 x13_2.length co40] rfl (by (try simp only [List.map_toArray, List.map_cons, List.map_nil]); first | done | rfl | (simp only [List.length_drop, List.length_take]; rfl)) ?_; (with_reducible refine (intset_Make.calls k2 _ _ x13_2 t698 t701 _ ?side1 ?side2 A33.out).mono ?_); (case side1 => repeat (first | exact (Kd.R_reads' HO_13.out).2.2 | (with_reducible refine Kd.C_alloc ?_ _) | (with_reducible refine Kd.C_drewN ?_ _) | (with_reducible refine Kd.C_drew ?_))); (case side2 => exact (Kd.R_reads' HO_13.out).2.1); rintro e w41 ⟨v699, rfl, ho0, hb⟩; refine ⟨_, rfl, ?_⟩; have n0_ := Aside0.mk (Kd.R_elder' (by (with_reducible repeat (first | apply Kd.R_alloc | apply Kd.R_drewN | apply Kd.R_drew)); exact HO_13.out) (Kd.R_base ho0) hb); have n1_ := Aside0.mk (Kd.R_elder' (by (with_reducible repeat (first | apply Kd.R_alloc | apply Kd.R_drewN | apply Kd.R_drew)); exact HO_682000.out) (Kd.R_base ho0) hb); have n2_ := Aside0.mk (Kd.R_elder' (by (with_reducible repeat (first | apply Kd.R_alloc | apply Kd.R_drewN | apply Kd.R_drew)); exact HO_695000.out) (Kd.R_base ho0) hb); have n3_ := Aside0.mk (Kd.R_lower (Kd.R_new' (Kd.R_new' (Kd.R_new' ho0 (Kd.R_lt (by (with_reducible repeat (first | apply Kd.R_alloc | apply Kd.R_drewN | apply Kd.R_drew)); exact HO_13.out))) (Kd.R_lt (by (with_reducible repeat (first | apply Kd.R_alloc | apply Kd.R_drewN | apply Kd.R_drew)); exact HO_682000.out))) (Kd.R_lt (by (with_reducible repeat (first | apply Kd.R_alloc | apply Kd.R_drewN | apply Kd.R_drew)); exact HO_695000.out))) (below_size (by repeat (first | (with_reducible first | exact HB.out | apply below_alloc | apply pw_below_drewN | apply below_drew1 | refine below_set ?_ GE681.out | refine below_set ?_ GE694.out) | exact HB.out)))); have n4_ := Aside0.mk (blk_below (g := gb681) (o := .cells #[.slice Ao9 t678.length co9] 42 (0, 0)) (by (with_reducible repeat (first | refine blk_drewN ?_ _ | refine blk_drew ?_ | refine blk_alloc ?_ _)); exact BK681.out) hb); have n5_ := Aside0.mk (blk_below (g := gb694) (o := .cells #[.slice Ao27 t690.length co27] 42 (0, 0)) (by (with_reducible repeat (first | refine blk_drewN ?_ _ | refine blk_drew ?_ | refine blk_alloc ?_ _)); exact BK694.out) hb); have n6_ := Aside0.mk (below_step (by repeat (first | (with_reducible first | exact HB.out | apply below_alloc | apply pw_below_drewN | apply below_drew1 | refine below_set ?_ GE681.out | refine below_set ?_ GE694.out) | exact HB.out)) hb); clear HO_13; clear HO_682000; clear HO_695000; clear BK681; clear BK694; clear HB; have HO_13 := n0_; have HO_682000 := n1_; have HO_695000 := n2_; have HO700 := n3_; have BK681 := n4_; have BK694 := n5_; have HB := n6_; clear n0_ n1_ n2_ n3_ n4_ n5_ n6_; (try clear hb); (try clear hb2); (try clear hk); (try clear hi); (try clear ho0)) | ((with_reducible refine gate_dst (N := 15) rfl ?_); (try (refine gate_guard (by rfl) ?_; dsimp only)); refine box_event ?hg (N := 15) ?hd (cs := #[.slice none 0 0]) (t := 42) ?hr ?_; (case hd => rfl); (case hg => rfl); (case hr => first | (go_simp; done) | (go_simp; rfl)); intro gb702 hg w42 hbox hb; have n0_ := Aside0.mk (Kd.R_below (by (with_reducible repeat (first | apply Kd.R_alloc | apply Kd.R_drewN | apply Kd.R_drew)); exact HO_13.out) hb); have n1_ := Aside0.mk (Kd.R_below (by (with_reducible repeat (first | apply Kd.R_alloc | apply Kd.R_drewN | apply Kd.R_drew)); exact HO_682000.out) hb); have n2_ := Aside0.mk (Kd.R_below (by (with_reducible repeat (first | apply Kd.R_alloc | apply Kd.R_drewN | apply Kd.R_drew)); exact HO_695000.out) hb); have n3_ := Aside0.mk (Kd.R_below (by (with_reducible repeat (first | apply Kd.R_alloc | apply Kd.R_drewN | apply Kd.R_drew)); exact HO700.out) hb); have n4_ := Aside0.mk (blk_below (g := gb681) (o := .cells #[.slice Ao9 t678.length co9] 42 (0, 0)) (by (with_reducible repeat (first | refine blk_drewN ?_ _ | refine blk_drew ?_ | refine blk_alloc ?_ _)); exact BK681.out) hb); have n5_ := Aside0.mk (blk_below (g := gb694) (o := .cells #[.slice Ao27 t690.length co27] 42 (0, 0)) (by (with_reducible repeat (first | refine blk_drewN ?_ _ | refine blk_drew ?_ | refine blk_alloc ?_ _)); exact BK694.out) hb); have n6_ := Aside0.mk (below_step (by repeat (first | (with_reducible first | exact HB.out | apply below_alloc | apply pw_below_drewN | apply below_drew1 | refine below_set ?_ GE681.out | refine below_set ?_ GE694.out) | exact HB.out)) hb); have n7_ := Aside0.mk (hbox); have n8_ := Aside0.mk ((by rw [hg]; exact (below_size (by repeat (first | (with_reducible first | exact HB.out | apply below_alloc | apply pw_below_drewN | apply below_drew1 | refine below_set ?_ GE681.out | refine below_set ?_ GE694.out) | exact HB.out))) : w.heap.size ≤ gb702)); have n9_ := Aside0.mk ((by rw [hg]; exact (below_size (by repeat (first | (with_reducible first | exact HB.out | apply below_alloc | apply pw_below_drewN | apply below_drew1 | refine below_set ?_ GE681.out | refine below_set ?_ GE694.out) | exact HB.out))) : w.heap.size ≤ gb702)); have n10_ := Aside0.mk ((by rw [hg]; exact Nat.ne_of_lt (blk_lt (g := gb681) (o := .cells #[.slice Ao9 t678.length co9] 42 (0, 0)) (by (with_reducible repeat (first | refine blk_drewN ?_ _ | refine blk_drew ?_ | refine blk_alloc ?_ _)); exact BK681.out)) : gb681 ≠ gb702)); have n11_ := Aside0.mk ((by rw [hg]; exact Nat.ne_of_gt (blk_lt (g := gb681) (o := .cells #[.slice Ao9 t678.length co9] 42 (0, 0)) (by (with_reducible repeat (first | refine blk_drewN ?_ _ | refine blk_drew ?_ | refine blk_alloc ?_ _)); exact BK681.out)) : gb702 ≠ gb681)); have n12_ := Aside0.mk ((by rw [hg]; exact Nat.ne_of_lt (blk_lt (g := gb694) (o := .cells #[.slice Ao27 t690.length co27] 42 (0, 0)) (by (with_reducible repeat (first | refine blk_drewN ?_ _ | refine blk_drew ?_ | refine blk_alloc ?_ _)); exact BK694.out)) : gb694 ≠ gb702)); have n13_ := Aside0.mk ((by rw [hg]; exact Nat.ne_of_gt (blk_lt (g := gb694) (o := .cells #[.slice Ao27 t690.length co27] 42 (0, 0)) (by (with_reducible repeat (first | refine blk_drewN ?_ _ | refine blk_drew ?_ | refine blk_alloc ?_ _)); exact BK694.out)) : gb702 ≠ gb694)); clear HO_13; clear HO_682000; clear HO_695000; clear HO700; clear BK681; clear BK694; clear HB; have HO_13 := n0_; have HO_682000 := n1_; have HO_695000 := n2_; have HO700 := n3_; have BK681 := n4_; have BK694 := n5_; have HB := n6_; have BK702 := n7_; have GW702 := n8_; have GE702 := n9_; have NB681_702 := n10_; have NB702_681 := n11_; have NB694_702 := n12_; have NB702_694 := n13_; clear n0_ n1_ n2_ n3_ n4_ n5_ n6_ n7_ n8_ n9_ n10_ n11_ n12_ n13_; clear hb hbox hg; obtain ⟨Ao43, co43, eo43⟩ := Kd.R_slice HO700.out; subst eo43; have hnb44 := NB702_681.out; have hnc44 := NB681_702.out; have hnb45 := NB702_694.out; have hnc45 := NB694_702.out; have hcz46_0 : w42.cell? ⟨gb702, 0, none⟩ = some (.slice none 0 0) := (blk_cell BK702.out 0).trans rfl; have hfz46_0 := blk_frozen BK702.out 0; have hnb47 := NB681_694.out; have hnc47 := NB694_681.out; have hcz48_0 : w42.cell? ⟨gb681, 0, none⟩ = some (.slice Ao9 t678.length co9) := (blk_cell BK681.out 0).trans rfl; have hfz48_0 := blk_frozen BK681.out 0; have hcz49_0 : w42.cell? ⟨gb694, 0, none⟩ = some (.slice Ao27 t690.length co27) := (blk_cell BK694.out 0).trans rfl; have hfz49_0 := blk_frozen BK694.out 0) | (go_at_call 29; (with_reducible refine (soundserviceref09_Same.calls k2 _ _ t678 _ _ t690 true _ ?side1 ?side2 ?side3 ?side4 A35.out).mono ?_); (case side1 => refine (Kd.R_reads' (e := 56) (base := w.heap.size) (ok := fun k_ => ((some k_ ≠ (.slice Ao40 x13_2.length co40 : Value).ownBlock ∧ some k_ ≠ (.slice Ao27 t690.length co27 : Value).ownBlock) ∧ some k_ ≠ (.slice Ao43 t698.length co43 : Value).ownBlock)) (n := t678.length) (c := co9) ?_).2.2; exact (by (with_reducible repeat (first | apply Kd.R_alloc | apply Kd.R_drewN | apply Kd.R_drew)); exact (Kd.R_mono (Kd.R_far (p := ⟨gb702, 0, none⟩) (Kd.R_types HO_682000.out BK702.out (by decide)) (fun _ hk => hk.2) (.slice Ao43 t698.length co43)) (fun _ h_ => h_.1)))); (case side2 => exact (Kd.R_reads' HO_682000.out).2.1); (case side3 => refine (Kd.R_reads' (e := 56) (base := w.heap.size) (ok := fun k_ => ((some k_ ≠ (.slice Ao40 x13_2.length co40 : Value).ownBlock ∧ some k_ ≠ (.slice Ao9 t678.length co9 : Value).ownBlock) ∧ some k_ ≠ (.slice Ao43 t698.length co43 : Value).ownBlock)) (n := t690.length) (c := co27) ?_).2.2; exact (by (with_reducible repeat (first | apply Kd.R_alloc | apply Kd.R_drewN | apply Kd.R_drew)); exact (Kd.R_mono (Kd.R_far (p := ⟨gb702, 0, none⟩) (Kd.R_types HO_695000.out BK702.out (by decide)) (fun _ hk => hk.2) (.slice Ao43 t698.length co43)) (fun _ h_ => h_.1)))); (case side4 => exact (Kd.R_reads' HO_695000.out).2.1); rintro e w50 ⟨rfl, hb⟩; have n0_ := Aside0.mk (Kd.R_below (by (with_reducible repeat (first | apply Kd.R_alloc | apply Kd.R_drewN | apply Kd.R_drew)); exact (Kd.R_mono (Kd.R_far (p := ⟨gb702, 0, none⟩) (Kd.R_types HO_13.out BK702.out (by decide)) (fun _ hk => hk.2) (.slice Ao43 t698.length co43)) (fun _ h_ => h_.1))) hb); have n1_ := Aside0.mk (Kd.R_below (by (with_reducible repeat (first | apply Kd.R_alloc | apply Kd.R_drewN | apply Kd.R_drew)); exact (Kd.R_mono (Kd.R_far (p := ⟨gb702, 0, none⟩) (Kd.R_types HO_682000.out BK702.out (by decide)) (fun _ hk => hk.2) (.slice Ao43 t698.length co43)) (fun _ h_ => h_.1))) hb); have n2_ := Aside0.mk (Kd.R_below (by (with_reducible repeat (first | apply Kd.R_alloc | apply Kd.R_drewN | apply Kd.R_drew)); exact (Kd.R_mono (Kd.R_far (p := ⟨gb702, 0, none⟩) (Kd.R_types HO_695000.out BK702.out (by decide)) (fun _ hk => hk.2) (.slice Ao43 t698.length co43)) (fun _ h_ => h_.1))) hb); have n3_ := Aside0.mk (Kd.R_below (by (with_reducible repeat (first | apply Kd.R_alloc | apply Kd.R_drewN | apply Kd.R_drew)); exact (Kd.R_mono (Kd.R_far (p := ⟨gb702, 0, none⟩) (Kd.R_types HO700.out BK702.out (by decide)) (fun _ hk => hk.2) (.slice Ao43 t698.length co43)) (fun _ h_ => h_.1))) hb); have n4_ := Aside0.mk (blk_below (g := gb681) (o := .cells #[.slice Ao9 t678.length co9] 42 (0, 0)) (by (with_reducible repeat (first | refine blk_drewN ?_ _ | refine blk_drew ?_ | refine blk_alloc ?_ _)); refine blk_far ?_ NB681_702.out _; (with_reducible repeat (first | refine blk_drewN ?_ _ | refine blk_drew ?_ | refine blk_alloc ?_ _)); exact BK681.out) hb); have n5_ := Aside0.mk (blk_below (g := gb694) (o := .cells #[.slice Ao27 t690.length co27] 42 (0, 0)) (by (with_reducible repeat (first | refine blk_drewN ?_ _ | refine blk_drew ?_ | refine blk_alloc ?_ _)); refine blk_far ?_ NB694_702.out _; (with_reducible repeat (first | refine blk_drewN ?_ _ | refine blk_drew ?_ | refine blk_alloc ?_ _)); exact BK694.out) hb); have n6_ := Aside0.mk (blk_below (g := gb702) (o := .cells #[.slice Ao43 t698.length co43] 42 (0, 0)) (by (with_reducible repeat (first | refine blk_drewN ?_ _ | refine blk_drew ?_ | refine blk_alloc ?_ _)); refine blk_put (cs := #[.slice none 0 0]) ?_ 0 _ rfl; (with_reducible repeat (first | refine blk_drewN ?_ _ | refine blk_drew ?_ | refine blk_alloc ?_ _)); exact BK702.out) hb); have n7_ := Aside0.mk (below_step (by repeat (first | (with_reducible first | exact HB.out | apply below_alloc | apply pw_below_drewN | apply below_drew1 | refine below_set ?_ GE681.out | refine below_set ?_ GE694.out | refine below_set ?_ GE702.out) | exact HB.out)) hb); clear HO_13; clear HO_682000; clear HO_695000; clear HO700; clear BK681; clear BK694; clear BK702; clear HB; have HO_13 := n0_; have HO_682000 := n1_; have HO_695000 := n2_; have HO700 := n3_; have BK681 := n4_; have BK694 := n5_; have BK702 := n6_; have HB := n7_; clear n0_ n1_ n2_ n3_ n4_ n5_ n6_ n7_; (try clear hb); (try clear hb2); (try clear hk); (try clear hi); have hcz51_0 : w50.cell? ⟨gb702, 0, none⟩ = some (.slice Ao43 t698.length co43) := (blk_cell BK702.out 0).trans rfl; have hfz51_0 := blk_frozen BK702.out 0))
                          go_ret
                          exact ⟨by first | rfl | (simp [errW_none, errW_some] <;> rfl) | (simp [*, errW_none, errW_some] <;> rfl), by repeat (first | (with_reducible first | exact HB.out | apply below_alloc | apply pw_below_drewN | apply below_drew1 | refine below_set ?_ GE681.out | refine below_set ?_ GE694.out | refine below_set ?_ GE702.out) | exact HB.out)⟩
                        · rw [if_neg c39] at H
                          have c39b0 : ((t698.length : Int) == (wrap64 (62 + (wrap64 (Int.tmod a1 5))))) = false := beq_eq_false_iff_ne.mpr c39
                          have c39b1 : ((t698.length : Int) != (wrap64 (62 + (wrap64 (Int.tmod a1 5))))) = true := bne_iff_ne.mpr c39
                          by_cases c52 : (wrap64 (62 + (wrap64 (Int.tmod a1 5)))) > 64
                          · rw [if_pos c52] at H
                            have c52b0 : decide (64 < (wrap64 (62 + (wrap64 (Int.tmod a1 5))))) = true := decide_eq_true c52
                            clear c52
                            by_cases c53 : t701 = 3
                            · rw [if_pos c53] at H
                              have c53b0 : (t701 == 3) = true := beq_iff_eq.mpr c53
                              have c53b1 : (t701 != 3) = false := bne_eq_false_iff_eq.mpr c53
                              clear c53
                              obtain rfl := Option.some.inj H
                              obtain ⟨Ao54, co54, eo54⟩ := Kd.R_slice HO_13.out
                              subst eo54
                              go_wp2_with (first | ((with_reducible refine gate_callee (f := 27) rfl ?_); refine goesL_ (some 79) rfl rfl Try.func27 (by kernel_rfl) rfl #[.slice Ao54 x13_2.length co54] rfl (by (try simp only [List.map_toArray, List.map_cons, List.map_nil]); first | done | rfl | (simp only [List.length_drop, List.length_take]; rfl)) ?_; (with_reducible refine (intset_Make.calls k2 _ _ x13_2 t698 t701 _ ?side1 ?side2 A33.out).mono ?_); (case side1 => repeat (first | exact (Kd.R_reads' HO_13.out).2.2 | (with_reducible refine Kd.C_alloc ?_ _) | (with_reducible refine Kd.C_drewN ?_ _) | (with_reducible refine Kd.C_drew ?_))); (case side2 => exact (Kd.R_reads' HO_13.out).2.1); rintro e w55 ⟨v699, rfl, ho0, hb⟩; refine ⟨_, rfl, ?_⟩; have n0_ := Aside0.mk (Kd.R_elder' (by (with_reducible repeat (first | apply Kd.R_alloc | apply Kd.R_drewN | apply Kd.R_drew)); exact HO_13.out) (Kd.R_base ho0) hb); have n1_ := Aside0.mk (Kd.R_elder' (by (with_reducible repeat (first | apply Kd.R_alloc | apply Kd.R_drewN | apply Kd.R_drew)); exact HO_682000.out) (Kd.R_base ho0) hb); have n2_ := Aside0.mk (Kd.R_elder' (by (with_reducible repeat (first | apply Kd.R_alloc | apply Kd.R_drewN | apply Kd.R_drew)); exact HO_695000.out) (Kd.R_base ho0) hb); have n3_ := Aside0.mk (Kd.R_lower (Kd.R_new' (Kd.R_new' (Kd.R_new' ho0 (Kd.R_lt (by (with_reducible repeat (first | apply Kd.R_alloc | apply Kd.R_drewN | apply Kd.R_drew)); exact HO_13.out))) (Kd.R_lt (by (with_reducible repeat (first | apply Kd.R_alloc | apply Kd.R_drewN | apply Kd.R_drew)); exact HO_682000.out))) (Kd.R_lt (by (with_reducible repeat (first | apply Kd.R_alloc | apply Kd.R_drewN | apply Kd.R_drew)); exact HO_695000.out))) (below_size (by repeat (first | (with_reducible first | exact HB.out | apply below_alloc | apply pw_below_drewN | apply below_drew1 | refine below_set ?_ GE681.out | refine below_set ?_ GE694.out) | exact HB.out)))); have n4_ := Aside0.mk (blk_below (g := gb681) (o := .cells #[.slice Ao9 t678.length co9] 42 (0, 0)) (by (with_reducible repeat (first | refine blk_drewN ?_ _ | refine blk_drew ?_ | refine blk_alloc ?_ _)); exact BK681.out) hb); have n5_ := Aside0.mk (blk_below (g := gb694) (o := .cells #[.slice Ao27 t690.length co27] 42 (0, 0)) (by (with_reducible repeat (first | refine blk_drewN ?_ _ | refine blk_drew ?_ | refine blk_alloc ?_ _)); exact BK694.out) hb); have n6_ := Aside0.mk (below_step (by repeat (first | (with_reducible first | exact HB.out | apply below_alloc | apply pw_below_drewN | apply below_drew1 | refine below_set ?_ GE681.out | refine below_set ?_ GE694.out) | exact HB.out)) hb); clear HO_13; clear HO_682000; clear HO_695000; clear BK681; clear BK694; clear HB; have HO_13 := n0_; have HO_682000 := n1_; have HO_695000 := n2_; have HO700 := n3_; have BK681 := n4_; have BK694 := n5_; have HB := n6_; clear n0_ n1_ n2_ n3_ n4_ n5_ n6_; (try clear hb); (try clear hb2); (try clear hk); (try clear hi); (try clear ho0)) | ((with_reducible refine gate_dst (N := 15) rfl ?_); (try (refine gate_guard (by rfl) ?_; dsimp only)); refine box_event ?hg (N := 15) ?hd (cs := #[.slice none 0 0]) (t := 42) ?hr ?_; (case hd => rfl); (case hg => rfl); (case hr => first | (go_simp; done) | (go_simp; rfl)); intro gb702 hg w56 hbox hb; have n0_ := Aside0.mk (Kd.R_below (by (with_reducible repeat (first | apply Kd.R_alloc | apply Kd.R_drewN | apply Kd.R_drew)); exact HO_13.out) hb); have n1_ := Aside0.mk (Kd.R_below (by (with_reducible repeat (first | apply Kd.R_alloc | apply Kd.R_drewN | apply Kd.R_drew)); exact HO_682000.out) hb); have n2_ := Aside0.mk (Kd.R_below (by (with_reducible repeat (first | apply Kd.R_alloc | apply Kd.R_drewN | apply Kd.R_drew)); exact HO_695000.out) hb); have n3_ := Aside0.mk (Kd.R_below (by (with_reducible repeat (first | apply Kd.R_alloc | apply Kd.R_drewN | apply Kd.R_drew)); exact HO700.out) hb); have n4_ := Aside0.mk (blk_below (g := gb681) (o := .cells #[.slice Ao9 t678.length co9] 42 (0, 0)) (by (with_reducible repeat (first | refine blk_drewN ?_ _ | refine blk_drew ?_ | refine blk_alloc ?_ _)); exact BK681.out) hb); have n5_ := Aside0.mk (blk_below (g := gb694) (o := .cells #[.slice Ao27 t690.length co27] 42 (0, 0)) (by (with_reducible repeat (first | refine blk_drewN ?_ _ | refine blk_drew ?_ | refine blk_alloc ?_ _)); exact BK694.out) hb); have n6_ := Aside0.mk (below_step (by repeat (first | (with_reducible first | exact HB.out | apply below_alloc | apply pw_below_drewN | apply below_drew1 | refine below_set ?_ GE681.out | refine below_set ?_ GE694.out) | exact HB.out)) hb); have n7_ := Aside0.mk (hbox); have n8_ := Aside0.mk ((by rw [hg]; exact (below_size (by repeat (first | (with_reducible first | exact HB.out | apply below_alloc | apply pw_below_drewN | apply below_drew1 | refine below_set ?_ GE681.out | refine below_set ?_ GE694.out) | exact HB.out))) : w.heap.size ≤ gb702)); have n9_ := Aside0.mk ((by rw [hg]; exact (below_size (by repeat (first | (with_reducible first | exact HB.out | apply below_alloc | apply pw_below_drewN | apply below_drew1 | refine below_set ?_ GE681.out | refine below_set ?_ GE694.out) | exact HB.out))) : w.heap.size ≤ gb702)); have n10_ := Aside0.mk ((by rw [hg]; exact Nat.ne_of_lt (blk_lt (g := gb681) (o := .cells #[.slice Ao9 t678.length co9] 42 (0, 0)) (by (with_reducible repeat (first | refine blk_drewN ?_ _ | refine blk_drew ?_ | refine blk_alloc ?_ _)); exact BK681.out)) : gb681 ≠ gb702)); have n11_ := Aside0.mk ((by rw [hg]; exact Nat.ne_of_gt (blk_lt (g := gb681) (o := .cells #[.slice Ao9 t678.length co9] 42 (0, 0)) (by (with_reducible repeat (first | refine blk_drewN ?_ _ | refine blk_drew ?_ | refine blk_alloc ?_ _)); exact BK681.out)) : gb702 ≠ gb681)); have n12_ := Aside0.mk ((by rw [hg]; exact Nat.ne_of_lt (blk_lt (g := gb694) (o := .cells #[.slice Ao27 t690.length co27] 42 (0, 0)) (by (with_reducible repeat (first | refine blk_drewN ?_ _ | refine blk_drew ?_ | refine blk_alloc ?_ _)); exact BK694.out)) : gb694 ≠ gb702)); have n13_ := Aside0.mk ((by rw [hg]; exact Nat.ne_of_gt (blk_lt (g := gb694) (o := .cells #[.slice Ao27 t690.length co27] 42 (0, 0)) (by (with_reducible repeat (first | refine blk_drewN ?_ _ | refine blk_drew ?_ | refine blk_alloc ?_ _)); exact BK694.out)) : gb702 ≠ gb694)); clear HO_13; clear HO_682000; clear HO_695000; clear HO700; clear BK681; clear BK694; clear HB; have HO_13 := n0_; have HO_682000 := n1_; have HO_695000 := n2_; have HO700 := n3_; have BK681 := n4_; have BK694 := n5_; have HB := n6_; have BK702 := n7_; have GW702 := n8_; have GE702 := n9_; have NB681_702 := n10_; have NB702_681 := n11_; have NB694_702 := n12_; have NB702_694 := n13_; clear n0_ n1_ n2_ n3_ n4_ n5_ n6_ n7_ n8_ n9_ n10_ n11_ n12_ n13_; clear hb hbox hg; obtain ⟨Ao57, co57, eo57⟩ := Kd.R_slice HO700.out; subst eo57; have hnb58 := NB702_681.out; have hnc58 := NB681_702.out; have hnb59 := NB702_694.out; have hnc59 := NB694_702.out; have hcz60_0 : w56.cell? ⟨gb702, 0, none⟩ = some (.slice none 0 0) := (blk_cell BK702.out 0).trans rfl; have hfz60_0 := blk_frozen BK702.out 0; have hnb61 := NB681_694.out; have hnc61 := NB694_681.out; have hcz62_0 : w56.cell? ⟨gb681, 0, none⟩ = some (.slice Ao9 t678.length co9) := (blk_cell BK681.out 0).trans rfl; have hfz62_0 := blk_frozen BK681.out 0; have hcz63_0 : w56.cell? ⟨gb694, 0, none⟩ = some (.slice Ao27 t690.length co27) := (blk_cell BK694.out 0).trans rfl; have hfz63_0 := blk_frozen BK694.out 0) | (go_at_call 29; (with_reducible refine (soundserviceref09_Same.calls k2 _ _ t678 _ _ t690 true _ ?side1 ?side2 ?side3 ?side4 A35.out).mono ?_); (case side1 => refine (Kd.R_reads' (e := 56) (base := w.heap.size) (ok := fun k_ => ((some k_ ≠ (.slice Ao54 x13_2.length co54 : Value).ownBlock ∧ some k_ ≠ (.slice Ao27 t690.length co27 : Value).ownBlock) ∧ some k_ ≠ (.slice Ao57 t698.length co57 : Value).ownBlock)) (n := t678.length) (c := co9) ?_).2.2; exact (by (with_reducible repeat (first | apply Kd.R_alloc | apply Kd.R_drewN | apply Kd.R_drew)); exact (Kd.R_mono (Kd.R_far (p := ⟨gb702, 0, none⟩) (Kd.R_types HO_682000.out BK702.out (by decide)) (fun _ hk => hk.2) (.slice Ao57 t698.length co57)) (fun _ h_ => h_.1)))); (case side2 => exact (Kd.R_reads' HO_682000.out).2.1); (case side3 => refine (Kd.R_reads' (e := 56) (base := w.heap.size) (ok := fun k_ => ((some k_ ≠ (.slice Ao54 x13_2.length co54 : Value).ownBlock ∧ some k_ ≠ (.slice Ao9 t678.length co9 : Value).ownBlock) ∧ some k_ ≠ (.slice Ao57 t698.length co57 : Value).ownBlock)) (n := t690.length) (c := co27) ?_).2.2; exact (by (with_reducible repeat (first | apply Kd.R_alloc | apply Kd.R_drewN | apply Kd.R_drew)); exact (Kd.R_mono (Kd.R_far (p := ⟨gb702, 0, none⟩) (Kd.R_types HO_695000.out BK702.out (by decide)) (fun _ hk => hk.2) (.slice Ao57 t698.length co57)) (fun _ h_ => h_.1)))); (case side4 => exact (Kd.R_reads' HO_695000.out).2.1); rintro e w64 ⟨rfl, hb⟩; have n0_ := Aside0.mk (Kd.R_below (by (with_reducible repeat (first | apply Kd.R_alloc | apply Kd.R_drewN | apply Kd.R_drew)); exact (Kd.R_mono (Kd.R_far (p := ⟨gb702, 0, none⟩) (Kd.R_types HO_13.out BK702.out (by decide)) (fun _ hk => hk.2) (.slice Ao57 t698.length co57)) (fun _ h_ => h_.1))) hb); have n1_ := Aside0.mk (Kd.R_below (by (with_reducible repeat (first | apply Kd.R_alloc | apply Kd.R_drewN | apply Kd.R_drew)); exact (Kd.R_mono (Kd.R_far (p := ⟨gb702, 0, none⟩) (Kd.R_types HO_682000.out BK702.out (by decide)) (fun _ hk => hk.2) (.slice Ao57 t698.length co57)) (fun _ h_ => h_.1))) hb); have n2_ := Aside0.mk (Kd.R_below (by (with_reducible repeat (first | apply Kd.R_alloc | apply Kd.R_drewN | apply Kd.R_drew)); exact (Kd.R_mono (Kd.R_far (p := ⟨gb702, 0, none⟩) (Kd.R_types HO_695000.out BK702.out (by decide)) (fun _ hk => hk.2) (.slice Ao57 t698.length co57)) (fun _ h_ => h_.1))) hb); have n3_ := Aside0.mk (Kd.R_below (by (with_reducible repeat (first | apply Kd.R_alloc | apply Kd.R_drewN | apply Kd.R_drew)); exact (Kd.R_mono (Kd.R_far (p := ⟨gb702, 0, none⟩) (Kd.R_types HO700.out BK702.out (by decide)) (fun _ hk => hk.2) (.slice Ao57 t698.length co57)) (fun _ h_ => h_.1))) hb); have n4_ := Aside0.mk (blk_below (g := gb681) (o := .cells #[.slice Ao9 t678.length co9] 42 (0, 0)) (by (with_reducible repeat (first | refine blk_drewN ?_ _ | refine blk_drew ?_ | refine blk_alloc ?_ _)); refine blk_far ?_ NB681_702.out _; (with_reducible repeat (first | refine blk_drewN ?_ _ | refine blk_drew ?_ | refine blk_alloc ?_ _)); exact BK681.out) hb); have n5_ := Aside0.mk (blk_below (g := gb694) (o := .cells #[.slice Ao27 t690.length co27] 42 (0, 0)) (by (with_reducible repeat (first | refine blk_drewN ?_ _ | refine blk_drew ?_ | refine blk_alloc ?_ _)); refine blk_far ?_ NB694_702.out _; (with_reducible repeat (first | refine blk_drewN ?_ _ | refine blk_drew ?_ | refine blk_alloc ?_ _)); exact BK694.out) hb); have n6_ := Aside0.mk (blk_below (g := gb702) (o := .cells #[.slice Ao57 t698.length co57] 42 (0, 0)) (by (with_reducible repeat (first | refine blk_drewN ?_ _ | refine blk_drew ?_ | refine blk_alloc ?_ _)); refine blk_put (cs := #[.slice none 0 0]) ?_ 0 _ rfl; (with_reducible repeat (first | refine blk_drewN ?_ _ | refine blk_drew ?_ | refine blk_alloc ?_ _)); exact BK702.out) hb); have n7_ := Aside0.mk (below_step (by repeat (first | (with_reducible first | exact HB.out | apply below_alloc | apply pw_below_drewN | apply below_drew1 | refine below_set ?_ GE681.out | refine below_set ?_ GE694.out | refine below_set ?_ GE702.out) | exact HB.out)) hb); clear HO_13; clear HO_682000; clear HO_695000; clear HO700; clear BK681; clear BK694; clear BK702; clear HB; have HO_13 := n0_; have HO_682000 := n1_; have HO_695000 := n2_; have HO700 := n3_; have BK681 := n4_; have BK694 := n5_; have BK702 := n6_; have HB := n7_; clear n0_ n1_ n2_ n3_ n4_ n5_ n6_ n7_; (try clear hb); (try clear hb2); (try clear hk); (try clear hi); have hcz65_0 : w64.cell? ⟨gb702, 0, none⟩ = some (.slice Ao57 t698.length co57) := (blk_cell BK702.out 0).trans rfl; have hfz65_0 := blk_frozen BK702.out 0))
                              go_ret
                              exact ⟨by first | rfl | (simp [errW_none, errW_some] <;> rfl) | (simp [*, errW_none, errW_some] <;> rfl), by repeat (first | (with_reducible first | exact HB.out | apply below_alloc | apply pw_below_drewN | apply below_drew1 | refine below_set ?_ GE681.out | refine below_set ?_ GE694.out | refine below_set ?_ GE702.out) | exact HB.out)⟩
                            · rw [if_neg c53] at H
                              have c53b0 : (t701 == 3) = false := beq_eq_false_iff_ne.mpr c53
                              have c53b1 : (t701 != 3) = true := bne_iff_ne.mpr c53
                              exact absurd (Option.some.inj H) (by rw [hT_.out]; simp)
                          · rw [if_neg c52] at H
                            have c52b0 : decide (64 < (wrap64 (62 + (wrap64 (Int.tmod a1 5))))) = false := decide_eq_false c52
                            clear c52
                            exact absurd (Option.some.inj H) (by rw [hT_.out]; simp)
                      · rw [if_neg c38] at H
                        have c38b0 : (t701 == 0) = false := beq_eq_false_iff_ne.mpr c38
                        have c38b1 : (t701 != 0) = true := bne_iff_ne.mpr c38
                        by_cases c66 : (wrap64 (62 + (wrap64 (Int.tmod a1 5)))) > 64
                        · rw [if_pos c66] at H
                          have c66b0 : decide (64 < (wrap64 (62 + (wrap64 (Int.tmod a1 5))))) = true := decide_eq_true c66
                          clear c66
                          by_cases c67 : t701 = 3
                          · rw [if_pos c67] at H
                            have c67b0 : (t701 == 3) = true := beq_iff_eq.mpr c67
                            have c67b1 : (t701 != 3) = false := bne_eq_false_iff_eq.mpr c67
                            clear c67
                            obtain rfl := Option.some.inj H
                            obtain ⟨Ao68, co68, eo68⟩ := Kd.R_slice HO_13.out
                            subst eo68
                            go_wp2_with (first | ((with_reducible refine gate_callee (f := 27) rfl ?_); refine goesL_ (some 79) rfl rfl Try.func27 (by kernel_rfl) rfl #[.slice Ao68 x13_2.length co68] rfl (by (try simp only [List.map_toArray, List.map_cons, List.map_nil]); first | done | rfl | (simp only [List.length_drop, List.length_take]; rfl)) ?_; (with_reducible refine (intset_Make.calls k2 _ _ x13_2 t698 t701 _ ?side1 ?side2 A33.out).mono ?_); (case side1 => repeat (first | exact (Kd.R_reads' HO_13.out).2.2 | (with_reducible refine Kd.C_alloc ?_ _) | (with_reducible refine Kd.C_drewN ?_ _) | (with_reducible refine Kd.C_drew ?_))); (case side2 => exact (Kd.R_reads' HO_13.out).2.1); rintro e w69 ⟨v699, rfl, ho0, hb⟩; refine ⟨_, rfl, ?_⟩; have n0_ := Aside0.mk (Kd.R_elder' (by (with_reducible repeat (first | apply Kd.R_alloc | apply Kd.R_drewN | apply Kd.R_drew)); exact HO_13.out) (Kd.R_base ho0) hb); have n1_ := Aside0.mk (Kd.R_elder' (by (with_reducible repeat (first | apply Kd.R_alloc | apply Kd.R_drewN | apply Kd.R_drew)); exact HO_682000.out) (Kd.R_base ho0) hb); have n2_ := Aside0.mk (Kd.R_elder' (by (with_reducible repeat (first | apply Kd.R_alloc | apply Kd.R_drewN | apply Kd.R_drew)); exact HO_695000.out) (Kd.R_base ho0) hb); have n3_ := Aside0.mk (Kd.R_lower (Kd.R_new' (Kd.R_new' (Kd.R_new' ho0 (Kd.R_lt (by (with_reducible repeat (first | apply Kd.R_alloc | apply Kd.R_drewN | apply Kd.R_drew)); exact HO_13.out))) (Kd.R_lt (by (with_reducible repeat (first | apply Kd.R_alloc | apply Kd.R_drewN | apply Kd.R_drew)); exact HO_682000.out))) (Kd.R_lt (by (with_reducible repeat (first | apply Kd.R_alloc | apply Kd.R_drewN | apply Kd.R_drew)); exact HO_695000.out))) (below_size (by repeat (first | (with_reducible first | exact HB.out | apply below_alloc | apply pw_below_drewN | apply below_drew1 | refine below_set ?_ GE681.out | refine below_set ?_ GE694.out) | exact HB.out)))); have n4_ := Aside0.mk (blk_below (g := gb681) (o := .cells #[.slice Ao9 t678.length co9] 42 (0, 0)) (by (with_reducible repeat (first | refine blk_drewN ?_ _ | refine blk_drew ?_ | refine blk_alloc ?_ _)); exact BK681.out) hb); have n5_ := Aside0.mk (blk_below (g := gb694) (o := .cells #[.slice Ao27 t690.length co27] 42 (0, 0)) (by (with_reducible repeat (first | refine blk_drewN ?_ _ | refine blk_drew ?_ | refine blk_alloc ?_ _)); exact BK694.out) hb); have n6_ := Aside0.mk (below_step (by repeat (first | (with_reducible first | exact HB.out | apply below_alloc | apply pw_below_drewN | apply below_drew1 | refine below_set ?_ GE681.out | refine below_set ?_ GE694.out) | exact HB.out)) hb); clear HO_13; clear HO_682000; clear HO_695000; clear BK681; clear BK694; clear HB; have HO_13 := n0_; have HO_682000 := n1_; have HO_695000 := n2_; have HO700 := n3_; have BK681 := n4_; have BK694 := n5_; have HB := n6_; clear n0_ n1_ n2_ n3_ n4_ n5_ n6_; (try clear hb); (try clear hb2); (try clear hk); (try clear hi); (try clear ho0)) | ((with_reducible refine gate_dst (N := 15) rfl ?_); (try (refine gate_guard (by rfl) ?_; dsimp only)); refine box_event ?hg (N := 15) ?hd (cs := #[.slice none 0 0]) (t := 42) ?hr ?_; (case hd => rfl); (case hg => rfl); (case hr => first | (go_simp; done) | (go_simp; rfl)); intro gb702 hg w70 hbox hb; have n0_ := Aside0.mk (Kd.R_below (by (with_reducible repeat (first | apply Kd.R_alloc | apply Kd.R_drewN | apply Kd.R_drew)); exact HO_13.out) hb); have n1_ := Aside0.mk (Kd.R_below (by (with_reducible repeat (first | apply Kd.R_alloc | apply Kd.R_drewN | apply Kd.R_drew)); exact HO_682000.out) hb); have n2_ := Aside0.mk (Kd.R_below (by (with_reducible repeat (first | apply Kd.R_alloc | apply Kd.R_drewN | apply Kd.R_drew)); exact HO_695000.out) hb); have n3_ := Aside0.mk (Kd.R_below (by (with_reducible repeat (first | apply Kd.R_alloc | apply Kd.R_drewN | apply Kd.R_drew)); exact HO700.out) hb); have n4_ := Aside0.mk (blk_below (g := gb681) (o := .cells #[.slice Ao9 t678.length co9] 42 (0, 0)) (by (with_reducible repeat (first | refine blk_drewN ?_ _ | refine blk_drew ?_ | refine blk_alloc ?_ _)); exact BK681.out) hb); have n5_ := Aside0.mk (blk_below (g := gb694) (o := .cells #[.slice Ao27 t690.length co27] 42 (0, 0)) (by (with_reducible repeat (first | refine blk_drewN ?_ _ | refine blk_drew ?_ | refine blk_alloc ?_ _)); exact BK694.out) hb); have n6_ := Aside0.mk (below_step (by repeat (first | (with_reducible first | exact HB.out | apply below_alloc | apply pw_below_drewN | apply below_drew1 | refine below_set ?_ GE681.out | refine below_set ?_ GE694.out) | exact HB.out)) hb); have n7_ := Aside0.mk (hbox); have n8_ := Aside0.mk ((by rw [hg]; exact (below_size (by repeat (first | (with_reducible first | exact HB.out | apply below_alloc | apply pw_below_drewN | apply below_drew1 | refine below_set ?_ GE681.out | refine below_set ?_ GE694.out) | exact HB.out))) : w.heap.size ≤ gb702)); have n9_ := Aside0.mk ((by rw [hg]; exact (below_size (by repeat (first | (with_reducible first | exact HB.out | apply below_alloc | apply pw_below_drewN | apply below_drew1 | refine below_set ?_ GE681.out | refine below_set ?_ GE694.out) | exact HB.out))) : w.heap.size ≤ gb702)); have n10_ := Aside0.mk ((by rw [hg]; exact Nat.ne_of_lt (blk_lt (g := gb681) (o := .cells #[.slice Ao9 t678.length co9] 42 (0, 0)) (by (with_reducible repeat (first | refine blk_drewN ?_ _ | refine blk_drew ?_ | refine blk_alloc ?_ _)); exact BK681.out)) : gb681 ≠ gb702)); have n11_ := Aside0.mk ((by rw [hg]; exact Nat.ne_of_gt (blk_lt (g := gb681) (o := .cells #[.slice Ao9 t678.length co9] 42 (0, 0)) (by (with_reducible repeat (first | refine blk_drewN ?_ _ | refine blk_drew ?_ | refine blk_alloc ?_ _)); exact BK681.out)) : gb702 ≠ gb681)); have n12_ := Aside0.mk ((by rw [hg]; exact Nat.ne_of_lt (blk_lt (g := gb694) (o := .cells #[.slice Ao27 t690.length co27] 42 (0, 0)) (by (with_reducible repeat (first | refine blk_drewN ?_ _ | refine blk_drew ?_ | refine blk_alloc ?_ _)); exact BK694.out)) : gb694 ≠ gb702)); have n13_ := Aside0.mk ((by rw [hg]; exact Nat.ne_of_gt (blk_lt (g := gb694) (o := .cells #[.slice Ao27 t690.length co27] 42 (0, 0)) (by (with_reducible repeat (first | refine blk_drewN ?_ _ | refine blk_drew ?_ | refine blk_alloc ?_ _)); exact BK694.out)) : gb702 ≠ gb694)); clear HO_13; clear HO_682000; clear HO_695000; clear HO700; clear BK681; clear BK694; clear HB; have HO_13 := n0_; have HO_682000 := n1_; have HO_695000 := n2_; have HO700 := n3_; have BK681 := n4_; have BK694 := n5_; have HB := n6_; have BK702 := n7_; have GW702 := n8_; have GE702 := n9_; have NB681_702 := n10_; have NB702_681 := n11_; have NB694_702 := n12_; have NB702_694 := n13_; clear n0_ n1_ n2_ n3_ n4_ n5_ n6_ n7_ n8_ n9_ n10_ n11_ n12_ n13_; clear hb hbox hg; obtain ⟨Ao71, co71, eo71⟩ := Kd.R_slice HO700.out; subst eo71; have hnb72 := NB702_681.out; have hnc72 := NB681_702.out; have hnb73 := NB702_694.out; have hnc73 := NB694_702.out; have hcz74_0 : w70.cell? ⟨gb702, 0, none⟩ = some (.slice none 0 0) := (blk_cell BK702.out 0).trans rfl; have hfz74_0 := blk_frozen BK702.out 0; have hnb75 := NB681_694.out; have hnc75 := NB694_681.out; have hcz76_0 : w70.cell? ⟨gb681, 0, none⟩ = some (.slice Ao9 t678.length co9) := (blk_cell BK681.out 0).trans rfl; have hfz76_0 := blk_frozen BK681.out 0; have hcz77_0 : w70.cell? ⟨gb694, 0, none⟩ = some (.slice Ao27 t690.length co27) := (blk_cell BK694.out 0).trans rfl; have hfz77_0 := blk_frozen BK694.out 0) | (go_at_call 29; (with_reducible refine (soundserviceref09_Same.calls k2 _ _ t678 _ _ t690 true _ ?side1 ?side2 ?side3 ?side4 A35.out).mono ?_); (case side1 => refine (Kd.R_reads' (e := 56) (base := w.heap.size) (ok := fun k_ => ((some k_ ≠ (.slice Ao68 x13_2.length co68 : Value).ownBlock ∧ some k_ ≠ (.slice Ao27 t690.length co27 : Value).ownBlock) ∧ some k_ ≠ (.slice Ao71 t698.length co71 : Value).ownBlock)) (n := t678.length) (c := co9) ?_).2.2; exact (by (with_reducible repeat (first | apply Kd.R_alloc | apply Kd.R_drewN | apply Kd.R_drew)); exact (Kd.R_mono (Kd.R_far (p := ⟨gb702, 0, none⟩) (Kd.R_types HO_682000.out BK702.out (by decide)) (fun _ hk => hk.2) (.slice Ao71 t698.length co71)) (fun _ h_ => h_.1)))); (case side2 => exact (Kd.R_reads' HO_682000.out).2.1); (case side3 => refine (Kd.R_reads' (e := 56) (base := w.heap.size) (ok := fun k_ => ((some k_ ≠ (.slice Ao68 x13_2.length co68 : Value).ownBlock ∧ some k_ ≠ (.slice Ao9 t678.length co9 : Value).ownBlock) ∧ some k_ ≠ (.slice Ao71 t698.length co71 : Value).ownBlock)) (n := t690.length) (c := co27) ?_).2.2; exact (by (with_reducible repeat (first | apply Kd.R_alloc | apply Kd.R_drewN | apply Kd.R_drew)); exact (Kd.R_mono (Kd.R_far (p := ⟨gb702, 0, none⟩) (Kd.R_types HO_695000.out BK702.out (by decide)) (fun _ hk => hk.2) (.slice Ao71 t698.length co71)) (fun _ h_ => h_.1)))); (case side4 => exact (Kd.R_reads' HO_695000.out).2.1); rintro e w78 ⟨rfl, hb⟩; have n0_ := Aside0.mk (Kd.R_below (by (with_reducible repeat (first | apply Kd.R_alloc | apply Kd.R_drewN | apply Kd.R_drew)); exact (Kd.R_mono (Kd.R_far (p := ⟨gb702, 0, none⟩) (Kd.R_types HO_13.out BK702.out (by decide)) (fun _ hk => hk.2) (.slice Ao71 t698.length co71)) (fun _ h_ => h_.1))) hb); have n1_ := Aside0.mk (Kd.R_below (by (with_reducible repeat (first | apply Kd.R_alloc | apply Kd.R_drewN | apply Kd.R_drew)); exact (Kd.R_mono (Kd.R_far (p := ⟨gb702, 0, none⟩) (Kd.R_types HO_682000.out BK702.out (by decide)) (fun _ hk => hk.2) (.slice Ao71 t698.length co71)) (fun _ h_ => h_.1))) hb); have n2_ := Aside0.mk (Kd.R_below (by (with_reducible repeat (first | apply Kd.R_alloc | apply Kd.R_drewN | apply Kd.R_drew)); exact (Kd.R_mono (Kd.R_far (p := ⟨gb702, 0, none⟩) (Kd.R_types HO_695000.out BK702.out (by decide)) (fun _ hk => hk.2) (.slice Ao71 t698.length co71)) (fun _ h_ => h_.1))) hb); have n3_ := Aside0.mk (Kd.R_below (by (with_reducible repeat (first | apply Kd.R_alloc | apply Kd.R_drewN | apply Kd.R_drew)); exact (Kd.R_mono (Kd.R_far (p := ⟨gb702, 0, none⟩) (Kd.R_types HO700.out BK702.out (by decide)) (fun _ hk => hk.2) (.slice Ao71 t698.length co71)) (fun _ h_ => h_.1))) hb); have n4_ := Aside0.mk (blk_below (g := gb681) (o := .cells #[.slice Ao9 t678.length co9] 42 (0, 0)) (by (with_reducible repeat (first | refine blk_drewN ?_ _ | refine blk_drew ?_ | refine blk_alloc ?_ _)); refine blk_far ?_ NB681_702.out _; (with_reducible repeat (first | refine blk_drewN ?_ _ | refine blk_drew ?_ | refine blk_alloc ?_ _)); exact BK681.out) hb); have n5_ := Aside0.mk (blk_below (g := gb694) (o := .cells #[.slice Ao27 t690.length co27] 42 (0, 0)) (by (with_reducible repeat (first | refine blk_drewN ?_ _ | refine blk_drew ?_ | refine blk_alloc ?_ _)); refine blk_far ?_ NB694_702.out _; (with_reducible repeat (first | refine blk_drewN ?_ _ | refine blk_drew ?_ | refine blk_alloc ?_ _)); exact BK694.out) hb); have n6_ := Aside0.mk (blk_below (g := gb702) (o := .cells #[.slice Ao71 t698.length co71] 42 (0, 0)) (by (with_reducible repeat (first | refine blk_drewN ?_ _ | refine blk_drew ?_ | refine blk_alloc ?_ _)); refine blk_put (cs := #[.slice none 0 0]) ?_ 0 _ rfl; (with_reducible repeat (first | refine blk_drewN ?_ _ | refine blk_drew ?_ | refine blk_alloc ?_ _)); exact BK702.out) hb); have n7_ := Aside0.mk (below_step (by repeat (first | (with_reducible first | exact HB.out | apply below_alloc | apply pw_below_drewN | apply below_drew1 | refine below_set ?_ GE681.out | refine below_set ?_ GE694.out | refine below_set ?_ GE702.out) | exact HB.out)) hb); clear HO_13; clear HO_682000; clear HO_695000; clear HO700; clear BK681; clear BK694; clear BK702; clear HB; have HO_13 := n0_; have HO_682000 := n1_; have HO_695000 := n2_; have HO700 := n3_; have BK681 := n4_; have BK694 := n5_; have BK702 := n6_; have HB := n7_; clear n0_ n1_ n2_ n3_ n4_ n5_ n6_ n7_; (try clear hb); (try clear hb2); (try clear hk); (try clear hi); have hcz79_0 : w78.cell? ⟨gb702, 0, none⟩ = some (.slice Ao71 t698.length co71) := (blk_cell BK702.out 0).trans rfl; have hfz79_0 := blk_frozen BK702.out 0))
                            go_ret
                            exact ⟨by first | rfl | (simp [errW_none, errW_some] <;> rfl) | (simp [*, errW_none, errW_some] <;> rfl), by repeat (first | (with_reducible first | exact HB.out | apply below_alloc | apply pw_below_drewN | apply below_drew1 | refine below_set ?_ GE681.out | refine below_set ?_ GE694.out | refine below_set ?_ GE702.out) | exact HB.out)⟩
                          · rw [if_neg c67] at H
                            have c67b0 : (t701 == 3) = false := beq_eq_false_iff_ne.mpr c67
                            have c67b1 : (t701 != 3) = true := bne_iff_ne.mpr c67
                            exact absurd (Option.some.inj H) (by rw [hT_.out]; simp)
                        · rw [if_neg c66] at H
                          have c66b0 : decide (64 < (wrap64 (62 + (wrap64 (Int.tmod a1 5))))) = false := decide_eq_false c66
                          clear c66
                          exact absurd (Option.some.inj H) (by rw [hT_.out]; simp)
                    · rw [if_neg c37] at H
                      have c37b0 : decide ((wrap64 (62 + (wrap64 (Int.tmod a1 5)))) ≤ 64) = false := decide_eq_false c37
                      clear c37
                      by_cases c80 : (wrap64 (62 + (wrap64 (Int.tmod a1 5)))) > 64
                      · rw [if_pos c80] at H
                        have c80b0 : decide (64 < (wrap64 (62 + (wrap64 (Int.tmod a1 5))))) = true := decide_eq_true c80
                        clear c80
                        by_cases c81 : t701 = 3
                        · rw [if_pos c81] at H
                          have c81b0 : (t701 == 3) = true := beq_iff_eq.mpr c81
                          have c81b1 : (t701 != 3) = false := bne_eq_false_iff_eq.mpr c81
                          clear c81
                          obtain rfl := Option.some.inj H
                          obtain ⟨Ao82, co82, eo82⟩ := Kd.R_slice HO_13.out
                          subst eo82
                          go_wp2_with (first | ((with_reducible refine gate_callee (f := 27) rfl ?_); refine goesL_ (some 79) rfl rfl Try.func27 (by kernel_rfl) rfl #[.slice Ao82 x13_2.length co82] rfl (by (try simp only [List.map_toArray, List.map_cons, List.map_nil]); first | done | rfl | (simp only [List.length_drop, List.length_take]; rfl)) ?_; (with_reducible refine (intset_Make.calls k2 _ _ x13_2 t698 t701 _ ?side1 ?side2 A33.out).mono ?_); (case side1 => repeat (first | exact (Kd.R_reads' HO_13.out).2.2 | (with_reducible refine Kd.C_alloc ?_ _) | (with_reducible refine Kd.C_drewN ?_ _) | (with_reducible refine Kd.C_drew ?_))); (case side2 => exact (Kd.R_reads' HO_13.out).2.1); rintro e w83 ⟨v699, rfl, ho0, hb⟩; refine ⟨_, rfl, ?_⟩; have n0_ := Aside0.mk (Kd.R_elder' (by (with_reducible repeat (first | apply Kd.R_alloc | apply Kd.R_drewN | apply Kd.R_drew)); exact HO_13.out) (Kd.R_base ho0) hb); have n1_ := Aside0.mk (Kd.R_elder' (by (with_reducible repeat (first | apply Kd.R_alloc | apply Kd.R_drewN | apply Kd.R_drew)); exact HO_682000.out) (Kd.R_base ho0) hb); have n2_ := Aside0.mk (Kd.R_elder' (by (with_reducible repeat (first | apply Kd.R_alloc | apply Kd.R_drewN | apply Kd.R_drew)); exact HO_695000.out) (Kd.R_base ho0) hb); have n3_ := Aside0.mk (Kd.R_lower (Kd.R_new' (Kd.R_new' (Kd.R_new' ho0 (Kd.R_lt (by (with_reducible repeat (first | apply Kd.R_alloc | apply Kd.R_drewN | apply Kd.R_drew)); exact HO_13.out))) (Kd.R_lt (by (with_reducible repeat (first | apply Kd.R_alloc | apply Kd.R_drewN | apply Kd.R_drew)); exact HO_682000.out))) (Kd.R_lt (by (with_reducible repeat (first | apply Kd.R_alloc | apply Kd.R_drewN | apply Kd.R_drew)); exact HO_695000.out))) (below_size (by repeat (first | (with_reducible first | exact HB.out | apply below_alloc | apply pw_below_drewN | apply below_drew1 | refine below_set ?_ GE681.out | refine below_set ?_ GE694.out) | exact HB.out)))); have n4_ := Aside0.mk (blk_below (g := gb681) (o := .cells #[.slice Ao9 t678.length co9] 42 (0, 0)) (by (with_reducible repeat (first | refine blk_drewN ?_ _ | refine blk_drew ?_ | refine blk_alloc ?_ _)); exact BK681.out) hb); have n5_ := Aside0.mk (blk_below (g := gb694) (o := .cells #[.slice Ao27 t690.length co27] 42 (0, 0)) (by (with_reducible repeat (first | refine blk_drewN ?_ _ | refine blk_drew ?_ | refine blk_alloc ?_ _)); exact BK694.out) hb); have n6_ := Aside0.mk (below_step (by repeat (first | (with_reducible first | exact HB.out | apply below_alloc | apply pw_below_drewN | apply below_drew1 | refine below_set ?_ GE681.out | refine below_set ?_ GE694.out) | exact HB.out)) hb); clear HO_13; clear HO_682000; clear HO_695000; clear BK681; clear BK694; clear HB; have HO_13 := n0_; have HO_682000 := n1_; have HO_695000 := n2_; have HO700 := n3_; have BK681 := n4_; have BK694 := n5_; have HB := n6_; clear n0_ n1_ n2_ n3_ n4_ n5_ n6_; (try clear hb); (try clear hb2); (try clear hk); (try clear hi); (try clear ho0)) | ((with_reducible refine gate_dst (N := 15) rfl ?_); (try (refine gate_guard (by rfl) ?_; dsimp only)); refine box_event ?hg (N := 15) ?hd (cs := #[.slice none 0 0]) (t := 42) ?hr ?_; (case hd => rfl); (case hg => rfl); (case hr => first | (go_simp; done) | (go_simp; rfl)); intro gb702 hg w84 hbox hb; have n0_ := Aside0.mk (Kd.R_below (by (with_reducible repeat (first | apply Kd.R_alloc | apply Kd.R_drewN | apply Kd.R_drew)); exact HO_13.out) hb); have n1_ := Aside0.mk (Kd.R_below (by (with_reducible repeat (first | apply Kd.R_alloc | apply Kd.R_drewN | apply Kd.R_drew)); exact HO_682000.out) hb); have n2_ := Aside0.mk (Kd.R_below (by (with_reducible repeat (first | apply Kd.R_alloc | apply Kd.R_drewN | apply Kd.R_drew)); exact HO_695000.out) hb); have n3_ := Aside0.mk (Kd.R_below (by (with_reducible repeat (first | apply Kd.R_alloc | apply Kd.R_drewN | apply Kd.R_drew)); exact HO700.out) hb); have n4_ := Aside0.mk (blk_below (g := gb681) (o := .cells #[.slice Ao9 t678.length co9] 42 (0, 0)) (by (with_reducible repeat (first | refine blk_drewN ?_ _ | refine blk_drew ?_ | refine blk_alloc ?_ _)); exact BK681.out) hb); have n5_ := Aside0.mk (blk_below (g := gb694) (o := .cells #[.slice Ao27 t690.length co27] 42 (0, 0)) (by (with_reducible repeat (first | refine blk_drewN ?_ _ | refine blk_drew ?_ | refine blk_alloc ?_ _)); exact BK694.out) hb); have n6_ := Aside0.mk (below_step (by repeat (first | (with_reducible first | exact HB.out | apply below_alloc | apply pw_below_drewN | apply below_drew1 | refine below_set ?_ GE681.out | refine below_set ?_ GE694.out) | exact HB.out)) hb); have n7_ := Aside0.mk (hbox); have n8_ := Aside0.mk ((by rw [hg]; exact (below_size (by repeat (first | (with_reducible first | exact HB.out | apply below_alloc | apply pw_below_drewN | apply below_drew1 | refine below_set ?_ GE681.out | refine below_set ?_ GE694.out) | exact HB.out))) : w.heap.size ≤ gb702)); have n9_ := Aside0.mk ((by rw [hg]; exact (below_size (by repeat (first | (with_reducible first | exact HB.out | apply below_alloc | apply pw_below_drewN | apply below_drew1 | refine below_set ?_ GE681.out | refine below_set ?_ GE694.out) | exact HB.out))) : w.heap.size ≤ gb702)); have n10_ := Aside0.mk ((by rw [hg]; exact Nat.ne_of_lt (blk_lt (g := gb681) (o := .cells #[.slice Ao9 t678.length co9] 42 (0, 0)) (by (with_reducible repeat (first | refine blk_drewN ?_ _ | refine blk_drew ?_ | refine blk_alloc ?_ _)); exact BK681.out)) : gb681 ≠ gb702)); have n11_ := Aside0.mk ((by rw [hg]; exact Nat.ne_of_gt (blk_lt (g := gb681) (o := .cells #[.slice Ao9 t678.length co9] 42 (0, 0)) (by (with_reducible repeat (first | refine blk_drewN ?_ _ | refine blk_drew ?_ | refine blk_alloc ?_ _)); exact BK681.out)) : gb702 ≠ gb681)); have n12_ := Aside0.mk ((by rw [hg]; exact Nat.ne_of_lt (blk_lt (g := gb694) (o := .cells #[.slice Ao27 t690.length co27] 42 (0, 0)) (by (with_reducible repeat (first | refine blk_drewN ?_ _ | refine blk_drew ?_ | refine blk_alloc ?_ _)); exact BK694.out)) : gb694 ≠ gb702)); have n13_ := Aside0.mk ((by rw [hg]; exact Nat.ne_of_gt (blk_lt (g := gb694) (o := .cells #[.slice Ao27 t690.length co27] 42 (0, 0)) (by (with_reducible repeat (first | refine blk_drewN ?_ _ | refine blk_drew ?_ | refine blk_alloc ?_ _)); exact BK694.out)) : gb702 ≠ gb694)); clear HO_13; clear HO_682000; clear HO_695000; clear HO700; clear BK681; clear BK694; clear HB; have HO_13 := n0_; have HO_682000 := n1_; have HO_695000 := n2_; have HO700 := n3_; have BK681 := n4_; have BK694 := n5_; have HB := n6_; have BK702 := n7_; have GW702 := n8_; have GE702 := n9_; have NB681_702 := n10_; have NB702_681 := n11_; have NB694_702 := n12_; have NB702_694 := n13_; clear n0_ n1_ n2_ n3_ n4_ n5_ n6_ n7_ n8_ n9_ n10_ n11_ n12_ n13_; clear hb hbox hg; obtain ⟨Ao85, co85, eo85⟩ := Kd.R_slice HO700.out; subst eo85; have hnb86 := NB702_681.out; have hnc86 := NB681_702.out; have hnb87 := NB702_694.out; have hnc87 := NB694_702.out; have hcz88_0 : w84.cell? ⟨gb702, 0, none⟩ = some (.slice none 0 0) := (blk_cell BK702.out 0).trans rfl; have hfz88_0 := blk_frozen BK702.out 0; have hnb89 := NB681_694.out; have hnc89 := NB694_681.out; have hcz90_0 : w84.cell? ⟨gb681, 0, none⟩ = some (.slice Ao9 t678.length co9) := (blk_cell BK681.out 0).trans rfl; have hfz90_0 := blk_frozen BK681.out 0; have hcz91_0 : w84.cell? ⟨gb694, 0, none⟩ = some (.slice Ao27 t690.length co27) := (blk_cell BK694.out 0).trans rfl; have hfz91_0 := blk_frozen BK694.out 0) | (go_at_call 29; (with_reducible refine (soundserviceref09_Same.calls k2 _ _ t678 _ _ t690 true _ ?side1 ?side2 ?side3 ?side4 A35.out).mono ?_); (case side1 => refine (Kd.R_reads' (e := 56) (base := w.heap.size) (ok := fun k_ => ((some k_ ≠ (.slice Ao82 x13_2.length co82 : Value).ownBlock ∧ some k_ ≠ (.slice Ao27 t690.length co27 : Value).ownBlock) ∧ some k_ ≠ (.slice Ao85 t698.length co85 : Value).ownBlock)) (n := t678.length) (c := co9) ?_).2.2; exact (by (with_reducible repeat (first | apply Kd.R_alloc | apply Kd.R_drewN | apply Kd.R_drew)); exact (Kd.R_mono (Kd.R_far (p := ⟨gb702, 0, none⟩) (Kd.R_types HO_682000.out BK702.out (by decide)) (fun _ hk => hk.2) (.slice Ao85 t698.length co85)) (fun _ h_ => h_.1)))); (case side2 => exact (Kd.R_reads' HO_682000.out).2.1); (case side3 => refine (Kd.R_reads' (e := 56) (base := w.heap.size) (ok := fun k_ => ((some k_ ≠ (.slice Ao82 x13_2.length co82 : Value).ownBlock ∧ some k_ ≠ (.slice Ao9 t678.length co9 : Value).ownBlock) ∧ some k_ ≠ (.slice Ao85 t698.length co85 : Value).ownBlock)) (n := t690.length) (c := co27) ?_).2.2; exact (by (with_reducible repeat (first | apply Kd.R_alloc | apply Kd.R_drewN | apply Kd.R_drew)); exact (Kd.R_mono (Kd.R_far (p := ⟨gb702, 0, none⟩) (Kd.R_types HO_695000.out BK702.out (by decide)) (fun _ hk => hk.2) (.slice Ao85 t698.length co85)) (fun _ h_ => h_.1)))); (case side4 => exact (Kd.R_reads' HO_695000.out).2.1); rintro e w92 ⟨rfl, hb⟩; have n0_ := Aside0.mk (Kd.R_below (by (with_reducible repeat (first | apply Kd.R_alloc | apply Kd.R_drewN | apply Kd.R_drew)); exact (Kd.R_mono (Kd.R_far (p := ⟨gb702, 0, none⟩) (Kd.R_types HO_13.out BK702.out (by decide)) (fun _ hk => hk.2) (.slice Ao85 t698.length co85)) (fun _ h_ => h_.1))) hb); have n1_ := Aside0.mk (Kd.R_below (by (with_reducible repeat (first | apply Kd.R_alloc | apply Kd.R_drewN | apply Kd.R_drew)); exact (Kd.R_mono (Kd.R_far (p := ⟨gb702, 0, none⟩) (Kd.R_types HO_682000.out BK702.out (by decide)) (fun _ hk => hk.2) (.slice Ao85 t698.length co85)) (fun _ h_ => h_.1))) hb); have n2_ := Aside0.mk (Kd.R_below (by (with_reducible repeat (first | apply Kd.R_alloc | apply Kd.R_drewN | apply Kd.R_drew)); exact (Kd.R_mono (Kd.R_far (p := ⟨gb702, 0, none⟩) (Kd.R_types HO_695000.out BK702.out (by decide)) (fun _ hk => hk.2) (.slice Ao85 t698.length co85)) (fun _ h_ => h_.1))) hb); have n3_ := Aside0.mk (Kd.R_below (by (with_reducible repeat (first | apply Kd.R_alloc | apply Kd.R_drewN | apply Kd.R_drew)); exact (Kd.R_mono (Kd.R_far (p := ⟨gb702, 0, none⟩) (Kd.R_types HO700.out BK702.out (by decide)) (fun _ hk => hk.2) (.slice Ao85 t698.length co85)) (fun _ h_ => h_.1))) hb); have n4_ := Aside0.mk (blk_below (g := gb681) (o := .cells #[.slice Ao9 t678.length co9] 42 (0, 0)) (by (with_reducible repeat (first | refine blk_drewN ?_ _ | refine blk_drew ?_ | refine blk_alloc ?_ _)); refine blk_far ?_ NB681_702.out _; (with_reducible repeat (first | refine blk_drewN ?_ _ | refine blk_drew ?_ | refine blk_alloc ?_ _)); exact BK681.out) hb); have n5_ := Aside0.mk (blk_below (g := gb694) (o := .cells #[.slice Ao27 t690.length co27] 42 (0, 0)) (by (with_reducible repeat (first | refine blk_drewN ?_ _ | refine blk_drew ?_ | refine blk_alloc ?_ _)); refine blk_far ?_ NB694_702.out _; (with_reducible repeat (first | refine blk_drewN ?_ _ | refine blk_drew ?_ | refine blk_alloc ?_ _)); exact BK694.out) hb); have n6_ := Aside0.mk (blk_below (g := gb702) (o := .cells #[.slice Ao85 t698.length co85] 42 (0, 0)) (by (with_reducible repeat (first | refine blk_drewN ?_ _ | refine blk_drew ?_ | refine blk_alloc ?_ _)); refine blk_put (cs := #[.slice none 0 0]) ?_ 0 _ rfl; (with_reducible repeat (first | refine blk_drewN ?_ _ | refine blk_drew ?_ | refine blk_alloc ?_ _)); exact BK702.out) hb); have n7_ := Aside0.mk (below_step (by repeat (first | (with_reducible first | exact HB.out | apply below_alloc | apply pw_below_drewN | apply below_drew1 | refine below_set ?_ GE681.out | refine below_set ?_ GE694.out | refine below_set ?_ GE702.out) | exact HB.out)) hb); clear HO_13; clear HO_682000; clear HO_695000; clear HO700; clear BK681; clear BK694; clear BK702; clear HB; have HO_13 := n0_; have HO_682000 := n1_; have HO_695000 := n2_; have HO700 := n3_; have BK681 := n4_; have BK694 := n5_; have BK702 := n6_; have HB := n7_; clear n0_ n1_ n2_ n3_ n4_ n5_ n6_ n7_; (try clear hb); (try clear hb2); (try clear hk); (try clear hi); have hcz93_0 : w92.cell? ⟨gb702, 0, none⟩ = some (.slice Ao85 t698.length co85) := (blk_cell BK702.out 0).trans rfl; have hfz93_0 := blk_frozen BK702.out 0))
                          go_ret
                          exact ⟨by first | rfl | (simp [errW_none, errW_some] <;> rfl) | (simp [*, errW_none, errW_some] <;> rfl), by repeat (first | (with_reducible first | exact HB.out | apply below_alloc | apply pw_below_drewN | apply below_drew1 | refine below_set ?_ GE681.out | refine below_set ?_ GE694.out | refine below_set ?_ GE702.out) | exact HB.out)⟩
                        · rw [if_neg c81] at H
                          have c81b0 : (t701 == 3) = false := beq_eq_false_iff_ne.mpr c81
                          have c81b1 : (t701 != 3) = true := bne_iff_ne.mpr c81
                          exact absurd (Option.some.inj H) (by rw [hT_.out]; simp)
                      · rw [if_neg c80] at H
                        have c80b0 : decide (64 < (wrap64 (62 + (wrap64 (Int.tmod a1 5))))) = false := decide_eq_false c80
                        clear c80
                        exact absurd (Option.some.inj H) (by rw [hT_.out]; simp)
                  · replace c36 := Bool.eq_false_iff.mpr c36
                    subst c36
                    have H1 : (some false) = some r := by rw [if_neg (show ¬ (false = true) by decide)] at H; exact H
                    clear H
                    have H := H1
                    clear H1
                    exact absurd (Option.some.inj H) (by rw [hT_.out]; simp)
                · rw [if_neg c34] at H
                  have c34b0 : (t693 == 0) = false := beq_eq_false_iff_ne.mpr c34
                  have c34b1 : (t693 != 0) = true := bne_iff_ne.mpr c34
                  exact absurd (Option.some.inj H) (by rw [hT_.out]; simp)
  · replace c4 := Bool.eq_false_iff.mpr c4
    subst c4
    have H1 : (some false) = some r := by rw [if_neg (show ¬ (false = true) by decide)] at H; exact H
    clear H
    have H := H1
    clear H1
    exact absurd (Option.some.inj H) (by rw [hT_.out]; simp)
def soundservicelaw09_IntsetForms.Pure : Prop := ∀ (l0 : List Int) (a1 : Int), l0.length ≤ maxLen → l0.length * 1 ≤ 140737488351232 → (∀ x ∈ l0, (Lit.int .u8 x).wf = true) → (Lit.int .u8 a1).wf = true → ∃ k, soundservicelaw09_IntsetForms.f k l0 a1 = some true
theorem soundservicelaw09_IntsetForms.walk (P : soundservicelaw09_IntsetForms.Pure) (a0 : Option Addr) (len0 cap0 : Nat) (z0 : List Int) (a1 : Int) (w : World) (w0 : (a0 = none ∧ len0 = 0 ∧ cap0 = 0 ∧ z0 = []) ∨ ∃ x, a0 = some x ∧ len0 ≤ cap0 ∧ cap0 ≤ maxLen ∧ z0.length = cap0 ∧ (∀ i, i < z0.length → w.cell? (x.add i) = some (.int .u8 (z0.getD i 0))) ∧ ∀ n ∈ z0, (Lit.int .u8 n).wf = true) (y0 : len0 * 1 ≤ 140737488351232) (w1 : (Lit.int .u8 a1).wf = true) :
    Calls Try.prog 7 #[.slice a0 len0 cap0, .int .u8 a1] w fun e w' => e = .returned (.bool true) ∧ Below w.heap.size w w' := by
  obtain ⟨l0, rfl, hr0, hm0, hw0, hc0⟩ := ReadsInt.ofRowC w0
  obtain ⟨k, h⟩ := P l0 a1 hm0 y0 hw0 w1
  refine (soundservicelaw09_IntsetForms.calls k _ _ l0 a1 true w (Kd.C_of_reads (d := (0 : Int)) (h1 := fun _ => rfl) hr0) hc0 ⟨rfl⟩ h).mono ?_
  rintro e w' ⟨rfl, hd⟩
  exact ⟨rfl, hd⟩
end Go.Proofs.Ytbahibaohehojaa.Q
-- YtbahibaohehojaaQHPSet
namespace Go.Proofs.Ytbahibaohehojaa.Q
open Go.RowKit Go.Proofs.YtbahibaohehojaaW.PrintWords Go.Proofs.YtbahibaohehojaaW.PrintLast Go.Proofs.YtbahibaohehojaaW.PrintMore
attribute [local go_sem] max2_int min2_int max_two min_two max_three min_three max_four min_four
set_option linter.unusedVariables false
set_option linter.unusedSimpArgs false
abbrev SP := S56
def memS (n : Int) (l : List SP) : Prop := ∃ x ∈ l, x.f0 ≤ n ∧ n ≤ x.f1
def okS (x : SP) : Prop := 0 ≤ x.f0 ∧ x.f0 ≤ x.f1 ∧ x.f1 ≤ 2147483647
instance (x : SP) : Decidable (okS x) := by unfold okS; exact inferInstance
structure Canon (l : List SP) : Prop where
  ok : ∀ x ∈ l, okS x
  sep : l.Pairwise (fun x y => x.f1 + 1 < y.f0)
theorem sp_ext {x y : SP} (h0 : x.f0 = y.f0) (h1 : x.f1 = y.f1) : x = y := by cases x; cases y; simp_all
theorem memS_nil (n : Int) : ¬ memS n [] := fun ⟨_, h, _⟩ => by cases h
theorem memS_cons (n : Int) (x : SP) (l : List SP) : memS n (x :: l) ↔ (x.f0 ≤ n ∧ n ≤ x.f1) ∨ memS n l := by
  constructor
  · rintro ⟨y, hy, h⟩
    rcases List.mem_cons.1 hy with rfl | hy
    · exact .inl h
    · exact .inr ⟨y, hy, h⟩
  · rintro (h | ⟨y, hy, h⟩)
    · exact ⟨x, List.mem_cons_self, h⟩
    · exact ⟨y, List.mem_cons_of_mem _ hy, h⟩
theorem memS_append (n : Int) (a b : List SP) : memS n (a ++ b) ↔ memS n a ∨ memS n b := by
  constructor
  · rintro ⟨y, hy, h⟩
    rcases List.mem_append.1 hy with hy | hy
    · exact .inl ⟨y, hy, h⟩
    · exact .inr ⟨y, hy, h⟩
  · rintro (⟨y, hy, h⟩ | ⟨y, hy, h⟩)
    · exact ⟨y, List.mem_append_left _ hy, h⟩
    · exact ⟨y, List.mem_append_right _ hy, h⟩
theorem memS_perm {a b : List SP} (h : a.Perm b) (n : Int) : memS n a ↔ memS n b :=
  ⟨fun ⟨x, hx, e⟩ => ⟨x, h.mem_iff.1 hx, e⟩, fun ⟨x, hx, e⟩ => ⟨x, h.mem_iff.2 hx, e⟩⟩
theorem Canon.nil : Canon [] := ⟨(fun _ h => by cases h), List.Pairwise.nil⟩
theorem Canon.tail {x : SP} {l : List SP} (h : Canon (x :: l)) : Canon l := ⟨fun y hy => h.ok y (List.mem_cons_of_mem _ hy), (List.pairwise_cons.1 h.sep).2⟩
theorem Canon.head {x : SP} {l : List SP} (h : Canon (x :: l)) : okS x := h.ok x List.mem_cons_self
theorem Canon.lt {x : SP} {l : List SP} (h : Canon (x :: l)) {y : SP} (hy : y ∈ l) : x.f1 + 1 < y.f0 := (List.pairwise_cons.1 h.sep).1 y hy
theorem Canon.above {x : SP} {l : List SP} (h : Canon (x :: l)) {n : Int} (hn : memS n l) : x.f1 + 1 < n := by
  obtain ⟨y, hy, h1, h2⟩ := hn
  have := h.lt hy
  omega
theorem Canon.least {x : SP} {l : List SP} (h : Canon (x :: l)) {n : Int} (hn : memS n (x :: l)) : x.f0 ≤ n := by
  rcases (memS_cons _ _ _).1 hn with hn | hn
  · exact hn.1
  · have := h.above hn
    have := h.head
    unfold okS at this
    omega
theorem canon_unique : ∀ {a b : List SP}, Canon a → Canon b → (∀ n, memS n a ↔ memS n b) → a = b
  | [], [], _, _, _ => rfl
  | [], y :: bs, _, hb, h => by
    have := hb.head
    unfold okS at this
    exact absurd ((h y.f0).2 ((memS_cons _ _ _).2 (.inl ⟨Int.le_refl _, this.2.1⟩))) (memS_nil _)
  | x :: as_, [], ha, _, h => by
    have := ha.head
    unfold okS at this
    exact absurd ((h x.f0).1 ((memS_cons _ _ _).2 (.inl ⟨Int.le_refl _, this.2.1⟩))) (memS_nil _)
  | x :: as_, y :: bs, ha, hb, h => by
    have hx := ha.head
    have hy := hb.head
    unfold okS at hx hy
    have e0 : x.f0 = y.f0 := by
      have h1 := hb.least ((h x.f0).1 ((memS_cons _ _ _).2 (.inl ⟨Int.le_refl _, hx.2.1⟩)))
      have h2 := ha.least ((h y.f0).2 ((memS_cons _ _ _).2 (.inl ⟨Int.le_refl _, hy.2.1⟩)))
      omega
    have e1 : x.f1 = y.f1 := by
      rcases Int.lt_trichotomy x.f1 y.f1 with hl | he | hl
      · have h1 := (h (x.f1 + 1)).2 ((memS_cons _ _ _).2 (.inl ⟨by omega, by omega⟩))
        rcases (memS_cons _ _ _).1 h1 with h2 | h2
        · omega
        · have := ha.above h2
          omega
      · exact he
      · have h1 := (h (y.f1 + 1)).1 ((memS_cons _ _ _).2 (.inl ⟨by omega, by omega⟩))
        rcases (memS_cons _ _ _).1 h1 with h2 | h2
        · omega
        · have := hb.above h2
          omega
    have ht : as_ = bs := canon_unique ha.tail hb.tail (fun n => by
      constructor
      · intro hn
        have h1 := ha.above hn
        rcases (memS_cons _ _ _).1 ((h n).1 ((memS_cons _ _ _).2 (.inr hn))) with h2 | h2
        · omega
        · exact h2
      · intro hn
        have h1 := hb.above hn
        rcases (memS_cons _ _ _).1 ((h n).2 ((memS_cons _ _ _).2 (.inr hn))) with h2 | h2
        · omega
        · exact h2)
    rw [sp_ext e0 e1, ht]
def mergeStep (out : List SP) (s : SP) : List SP :=
  if out.length = 0 then [s]
  else if s.f0 ≤ (out.getD (out.length - 1) z56).f1 + 1 then out.set (out.length - 1) ⟨(out.getD (out.length - 1) z56).f0, mx (out.getD (out.length - 1) z56).f1 s.f1⟩
  else out ++ [s]
theorem mergeStep_nil (s : SP) : mergeStep [] s = [s] := rfl
theorem mergeStep_snoc (i : List SP) (t s : SP) : mergeStep (i ++ [t]) s = if s.f0 ≤ t.f1 + 1 then i ++ [⟨t.f0, mx t.f1 s.f1⟩] else i ++ [t] ++ [s] := by
  unfold mergeStep
  have h1 : (i ++ [t]).length - 1 = i.length := by simp
  have h2 : (i ++ [t]).getD i.length z56 = t := by simp [List.getD_eq_getElem?_getD]
  rw [if_neg (by simp), h1, h2]
  by_cases h : s.f0 ≤ t.f1 + 1
  · rw [if_pos h, if_pos h, List.set_append_right _ _ (Nat.le_refl _), Nat.sub_self]
    rfl
  · rw [if_neg h, if_neg h]
theorem snoc_cases {α : Type} (l : List α) : l = [] ∨ ∃ i t, l = i ++ [t] := by
  rcases List.eq_nil_or_concat l with h | ⟨i, t, h⟩
  · exact .inl h
  · exact .inr ⟨i, t, by rw [h, List.concat_eq_append]⟩
theorem canon_snoc {i : List SP} {t : SP} : Canon (i ++ [t]) ↔ Canon i ∧ okS t ∧ ∀ x ∈ i, x.f1 + 1 < t.f0 := by
  constructor
  · intro h
    refine ⟨⟨fun x hx => h.ok x (List.mem_append_left _ hx), (List.pairwise_append.1 h.sep).1⟩, h.ok t (by simp), fun x hx => (List.pairwise_append.1 h.sep).2.2 x hx t (by simp)⟩
  · rintro ⟨h1, h2, h3⟩
    refine ⟨fun x hx => ?_, List.pairwise_append.2 ⟨h1.sep, by simp, fun x hx y hy => ?_⟩⟩
    · rcases List.mem_append.1 hx with hx | hx
      · exact h1.ok x hx
      · rw [List.mem_singleton.1 hx]; exact h2
    · rw [List.mem_singleton.1 hy]; exact h3 x hx
theorem mx_cases (a b : Int) : (a < b ∧ mx a b = b) ∨ (b ≤ a ∧ mx a b = a) := by
  unfold mx
  by_cases h : a < b
  · exact .inl ⟨h, by rw [if_pos h]⟩
  · exact .inr ⟨by omega, by rw [if_neg h]⟩
theorem mn_cases (a b : Int) : (b < a ∧ mn a b = b) ∨ (a ≤ b ∧ mn a b = a) := by
  unfold mn
  by_cases h : b < a
  · exact .inl ⟨h, by rw [if_pos h]⟩
  · exact .inr ⟨by omega, by rw [if_neg h]⟩
theorem mergeStep_spec {out : List SP} {s : SP} (hc : Canon out) (hs : okS s) (hle : ∀ x ∈ out, x.f0 ≤ s.f0) :
    Canon (mergeStep out s) ∧ (∀ n, memS n (mergeStep out s) ↔ memS n out ∨ (s.f0 ≤ n ∧ n ≤ s.f1)) ∧ (∀ x ∈ mergeStep out s, x.f0 ≤ s.f0) ∧ (mergeStep out s).length ≤ out.length + 1 := by
  rcases snoc_cases out with rfl | ⟨i, t, rfl⟩
  · rw [mergeStep_nil]
    refine ⟨canon_snoc (i := []).2 ⟨Canon.nil, hs, (fun _ h => by cases h)⟩, fun n => ?_, fun x hx => ?_, by simp⟩
    · rw [memS_cons]
      constructor
      · rintro (h | h)
        · exact .inr h
        · exact absurd h (memS_nil _)
      · rintro (h | h)
        · exact absurd h (memS_nil _)
        · exact .inl h
    · rw [List.mem_singleton.1 hx]; exact Int.le_refl _
  · obtain ⟨h1, h2, h3⟩ := canon_snoc.1 hc
    have ht := hle t (by simp)
    unfold okS at h2 hs
    rw [mergeStep_snoc]
    by_cases h : s.f0 ≤ t.f1 + 1
    · rw [if_pos h]
      have hm := mx_cases t.f1 s.f1
      refine ⟨canon_snoc.2 ⟨h1, ?_, fun x hx => by have := h3 x hx; exact this⟩, fun n => ?_, fun x hx => ?_, by simp⟩
      · unfold okS
        simp only
        omega
      · rw [memS_append, memS_append, memS_cons, memS_cons]
        simp only [memS_nil, or_false]
        constructor
        · rintro (h4 | h4)
          · exact .inl (.inl h4)
          · by_cases h5 : t.f1 < n
            · exact .inr ⟨by omega, by omega⟩
            · exact .inl (.inr ⟨h4.1, by omega⟩)
        · rintro ((h4 | h4) | h4)
          · exact .inl h4
          · exact .inr ⟨h4.1, by omega⟩
          · exact .inr ⟨by omega, by omega⟩
      · rcases List.mem_append.1 hx with hx | hx
        · exact hle x (List.mem_append_left _ hx)
        · rw [List.mem_singleton.1 hx]; exact ht
    · rw [if_neg h]
      refine ⟨canon_snoc.2 ⟨hc, hs, fun x hx => ?_⟩, fun n => ?_, fun x hx => ?_, by simp⟩
      · rcases List.mem_append.1 hx with hx | hx
        · have := h3 x hx
          omega
        · rw [List.mem_singleton.1 hx]; omega
      · rw [memS_append n (i ++ [t]) [s], memS_cons n s []]
        simp only [memS_nil, or_false]
      · rcases List.mem_append.1 hx with hx | hx
        · exact hle x hx
        · rw [List.mem_singleton.1 hx]; exact Int.le_refl _
def sortedLo (l : List SP) : Prop := l.Pairwise (fun x y => x.f0 ≤ y.f0)
theorem mergeAll_spec : ∀ (l out : List SP), Canon out → (∀ x ∈ l, okS x) → sortedLo l → (∀ x ∈ out, ∀ y ∈ l, x.f0 ≤ y.f0) →
    Canon (l.foldl mergeStep out) ∧ (∀ n, memS n (l.foldl mergeStep out) ↔ memS n out ∨ memS n l) ∧ (l.foldl mergeStep out).length ≤ out.length + l.length
  | [], out, hc, _, _, _ => ⟨hc, fun n => by simp [memS_nil], by simp⟩
  | s :: l, out, hc, hok, hso, hle => by
    obtain ⟨h1, h2, h3, h4⟩ := mergeStep_spec hc (hok s List.mem_cons_self) (fun x hx => hle x hx s List.mem_cons_self)
    obtain ⟨hs1, hs2⟩ := List.pairwise_cons.1 hso
    obtain ⟨k1, k2, k3⟩ := mergeAll_spec l (mergeStep out s) h1 (fun x hx => hok x (List.mem_cons_of_mem _ hx)) hs2 (fun x hx y hy => Int.le_trans (h3 x hx) (hs1 y hy))
    refine ⟨k1, fun n => ?_, by simp only [List.foldl_cons, List.length_cons]; omega⟩
    rw [List.foldl_cons, k2, h2, memS_cons, or_assoc]
def norm (l : List SP) : List SP := (l.mergeSort (fun x y => decide (x.f0 ≤ y.f0))).foldl mergeStep []
theorem sort_sorted (l : List SP) : sortedLo (l.mergeSort (fun x y => decide (x.f0 ≤ y.f0))) := by
  have h := List.pairwise_mergeSort (le := fun x y : SP => decide (x.f0 ≤ y.f0)) (fun a b c h1 h2 => by simp only [decide_eq_true_eq] at *; omega) (fun a b => by simp only [Bool.or_eq_true, decide_eq_true_eq]; omega) l
  exact h.imp (fun h => by simpa using h)
theorem mergeAll_norm {l s : List SP} (hok : ∀ x ∈ l, okS x) (hp : s.Perm l) (hs : sortedLo s) : Canon (s.foldl mergeStep []) ∧ (∀ n, memS n (s.foldl mergeStep []) ↔ memS n l) ∧ (s.foldl mergeStep []).length ≤ l.length := by
  obtain ⟨h1, h2, h3⟩ := mergeAll_spec s [] Canon.nil (fun x hx => hok x (hp.mem_iff.1 hx)) hs (fun _ h => by cases h)
  refine ⟨h1, fun n => ?_, by rw [← hp.length_eq]; simpa using h3⟩
  rw [h2, memS_perm hp]
  simp [memS_nil]
theorem norm_spec {l : List SP} (hok : ∀ x ∈ l, okS x) : Canon (norm l) ∧ (∀ n, memS n (norm l) ↔ memS n l) ∧ (norm l).length ≤ l.length := mergeAll_norm hok (List.mergeSort_perm _ _) (sort_sorted l)
theorem eq_norm {l r : List SP} (hok : ∀ x ∈ l, okS x) (hc : Canon r) (h : ∀ n, memS n r ↔ memS n l) : r = norm l :=
  canon_unique hc (norm_spec hok).1 (fun n => by rw [h, (norm_spec hok).2.1])
theorem norm_canon {l : List SP} (hc : Canon l) : norm l = l := (eq_norm hc.ok hc (fun _ => Iff.rfl)).symm
end Go.Proofs.Ytbahibaohehojaa.Q
-- YtbahibaohehojaaQHPBase
namespace Go.Proofs.Ytbahibaohehojaa.Q
open Go.RowKit Go.Proofs.YtbahibaohehojaaW.PrintWords Go.Proofs.YtbahibaohehojaaW.PrintLast Go.Proofs.YtbahibaohehojaaW.PrintMore
attribute [local go_sem] max2_int min2_int max_two min_two max_three min_three max_four min_four
set_option linter.unusedVariables false
set_option linter.unusedSimpArgs false
theorem w64 {e : Int} (h1 : -9223372036854775808 ≤ e) (h2 : e ≤ 9223372036854775807) : wrap64 e = e := by unfold wrap64; omega
theorem getD_at {α : Type} {l : List α} {i : Nat} (h : i < l.length) (z : α) : l.getD i z = l[i] := by
  rw [List.getD_eq_getElem?_getD, List.getElem?_eq_getElem h, Option.getD_some]
theorem rd_nat (l : List S56) (i : Nat) : rd_T56 l (i : Int) = l.getD i z56 := by unfold rd_T56; rw [Int.toNat_natCast]
theorem rdi_nat (l : List Int) (i : Nat) : rd l (i : Int) = l.getD i 0 := by unfold rd; rw [Int.toNat_natCast]
theorem Ev.const {α : Type} {g : Nat → Option α} {r : α} (h : ∀ k, g k = some r) : Ev g r := ⟨0, fun k _ => h k⟩
theorem Ev.last {α : Type} {g : Nat → Option α} {r : α} (h : ∀ k, g (k + 1) = some r) : Ev g r := ⟨1, fun k hk => by
  obtain ⟨m, rfl⟩ : ∃ m, k = m + 1 := ⟨k - 1, by omega⟩
  exact h m⟩
theorem u8_wf {x : Int} (h : (Lit.int .u8 x).wf = true) : 0 ≤ x ∧ x ≤ 255 := by
  simp only [Lit.wf, IntKind.min, IntKind.max, IntKind.signed, IntKind.bits, Bool.and_eq_true, decide_eq_true_eq] at h
  constructor
  · simpa using h.1
  · simpa using h.2
end Go.Proofs.Ytbahibaohehojaa.Q
-- YtbahibaohehojaaQHPMerge
namespace Go.Proofs.Ytbahibaohehojaa.Q
open Go.RowKit Go.Proofs.YtbahibaohehojaaW.PrintWords Go.Proofs.YtbahibaohehojaaW.PrintLast Go.Proofs.YtbahibaohehojaaW.PrintMore
attribute [local go_sem] max2_int min2_int max_two min_two max_three min_three max_four min_four
set_option linter.unusedVariables false
set_option linter.unusedSimpArgs false
theorem merge_l0 (l : List SP) (hok : ∀ x ∈ l, okS x) (hl : l.length < 8796093022208) : ∀ (d i : Nat) (out : List SP), i + d = l.length → out.length ≤ i → (∀ x ∈ out, okS x) →
    Ev (fun k => intset_merge.l0 k out l (l.length : Int) (i : Int)) ((l.drop i).foldl mergeStep out)
  | 0, i, out, hi, _, _ => by
    refine ⟨1, fun k hk => ?_⟩
    obtain ⟨m, rfl⟩ : ∃ m, k = m + 1 := ⟨k - 1, by omega⟩
    simp only [intset_merge.l0]
    rw [if_neg (by omega), List.drop_of_length_le (by omega)]
    rfl
  | d + 1, i, out, hi, ho, hoo => by
    have hlt : i < l.length := by omega
    have hx := hok l[i] (List.getElem_mem hlt)
    have hg : l.getD i z56 = l[i] := getD_at hlt _
    rw [List.drop_eq_getElem_cons hlt, List.foldl_cons]
    generalize hxe : l[i] = x at hx hg
    have hstep : (mergeStep out x).length ≤ i + 1 ∧ ∀ y ∈ mergeStep out x, okS y := by
      unfold mergeStep
      by_cases h0 : out.length = 0
      · rw [if_pos h0]
        exact ⟨by simp, fun y hy => by rw [List.mem_singleton.1 hy]; exact hx⟩
      · rw [if_neg h0]
        have hlast : out.length - 1 < out.length := by omega
        have ht := hoo _ (List.getElem_mem hlast)
        rw [getD_at hlast]
        by_cases h1 : x.f0 ≤ out[out.length - 1].f1 + 1
        · rw [if_pos h1]
          refine ⟨by simp; omega, fun y hy => ?_⟩
          rcases List.mem_or_eq_of_mem_set hy with hy | hy
          · exact hoo y hy
          · rw [hy]
            have hm := mx_cases out[out.length - 1].f1 x.f1
            unfold okS at *
            simp only
            omega
        · rw [if_neg h1]
          refine ⟨by simp; omega, fun y hy => ?_⟩
          rcases List.mem_append.1 hy with hy | hy
          · exact hoo y hy
          · rw [List.mem_singleton.1 hy]; exact hx
    refine Ev.step (f := fun k => intset_merge.l0 k (mergeStep out x) l (l.length : Int) ((i + 1 : Nat) : Int)) (fun k => ?_) (merge_l0 l hok hl d (i + 1) _ (by omega) hstep.1 hstep.2)
    simp only [intset_merge.l0]
    rw [if_pos (by omega), if_pos (by omega), if_pos (by omega), rd_nat, hg, show wrap64 ((i : Int) + 1) = ((i + 1 : Nat) : Int) from by rw [w64 (by omega) (by omega)]; omega]
    by_cases h0 : out.length = 0
    · rw [if_neg (by omega), if_pos (by omega)]
      unfold mergeStep
      rw [if_pos h0, List.eq_nil_of_length_eq_zero h0]
      rfl
    · have hlast : out.length - 1 < out.length := by omega
      have ht := hoo _ (List.getElem_mem hlast)
      unfold okS at ht
      have hw : wrap64 ((out.length : Int) - 1) = ((out.length - 1 : Nat) : Int) := by rw [w64 (by omega) (by omega)]; omega
      rw [if_pos (by omega), hw, if_pos (by omega), if_pos (by omega), rd_nat, getD_at hlast, w64 (by omega) (by omega)]
      unfold mergeStep
      rw [if_neg h0, getD_at hlast]
      by_cases h1 : x.f0 ≤ out[out.length - 1].f1 + 1
      · rw [if_pos h1, if_pos h1, Int.toNat_natCast]
      · rw [if_neg h1, if_neg h1, if_pos (by omega)]
theorem merge_ev (l : List SP) (hok : ∀ x ∈ l, okS x) (hl : l.length < 8796093022208) : Ev (fun k => intset_merge.f k l) (l.foldl mergeStep []) := by
  have := merge_l0 l hok hl l.length 0 [] (by omega) (Nat.le_refl _) (fun _ h => by cases h)
  exact this
theorem fineS_iff (x : SP) : fineS x = true ↔ okS x := by
  unfold fineS okS
  simp only [Bool.and_eq_true, decide_eq_true_eq]
def makeR (l : List SP) : List SP × Int := if ∀ x ∈ l, okS x then (if 64 < (norm l).length then ([], 3) else (norm l, 0)) else ([], 2)
theorem make_ev (l : List SP) (hl : l.length < 8796093022208) : Ev (fun k => intset_Make.f k l) (makeR l) := by
  unfold makeR
  by_cases h : ∀ x ∈ l, okS x
  · have hall : l.all fineS = true := List.all_eq_true.2 (fun x hx => (fineS_iff x).2 (h x hx))
    have hp : (sortSpans (l.pmap Subtype.mk (all_fine hall))).Perm l := by
      have h1 := (sortedBy_perm (ltOf loDiff) loSWO (l.pmap Subtype.mk (all_fine hall))).map Subtype.val
      have h2 : (l.pmap Subtype.mk (all_fine hall)).map Subtype.val = l := by rw [List.map_pmap]; simp
      rw [h2] at h1
      exact h1
    have hs : sortedLo (sortSpans (l.pmap Subtype.mk (all_fine hall))) := by
      have h1 := sortedBy_sorted (ltOf loDiff) loSWO (l.pmap Subtype.mk (all_fine hall))
      unfold sortSpans sortedLo
      rw [List.pairwise_map]
      exact h1.imp (fun {a b} h => by rw [ltLo] at h; simpa using h)
    have hok : ∀ x ∈ sortSpans (l.pmap Subtype.mk (all_fine hall)), okS x := fun x hx => h x (hp.mem_iff.1 hx)
    have hn : (sortSpans (l.pmap Subtype.mk (all_fine hall))).foldl mergeStep [] = norm l := eq_norm h (mergeAll_norm h hp hs).1 (mergeAll_norm h hp hs).2.1
    rw [if_pos h]
    have hm := merge_ev _ hok (by rw [hp.length_eq]; exact hl)
    rw [hn] at hm
    have hc : api_Span.f l = some l := by unfold api_Span.f; rw [if_pos hl]
    refine Ev.congr (f := fun k => (intset_merge.f k (sortSpans (l.pmap Subtype.mk (all_fine hall)))).bind fun out => if 64 < out.length then some ([], 3) else some (out, 0)) (fun k => ?_) (Ev.bind (f := fun _ out => if 64 < out.length then some ([], 3) else some (out, 0)) hm ?_)
    · unfold intset_Make.f
      rw [dif_pos hall, hc]
      rfl
    · exact ⟨0, fun _ _ => by by_cases h64 : 64 < (norm l).length <;> simp [h64]⟩
  · have hall : ¬ l.all fineS = true := fun ha => h (fun x hx => (fineS_iff x).1 (List.all_eq_true.1 ha x hx))
    rw [if_neg h]
    exact Ev.const (fun k => by unfold intset_Make.f; rw [dif_neg hall])
end Go.Proofs.Ytbahibaohehojaa.Q
-- YtbahibaohehojaaQHPValid
namespace Go.Proofs.Ytbahibaohehojaa.Q
open Go.RowKit Go.Proofs.YtbahibaohehojaaW.PrintWords Go.Proofs.YtbahibaohehojaaW.PrintLast Go.Proofs.YtbahibaohehojaaW.PrintMore
attribute [local go_sem] max2_int min2_int max_two min_two max_three min_three max_four min_four
set_option linter.unusedVariables false
set_option linter.unusedSimpArgs false
def okV (l : List SP) : Prop := Canon l ∧ l.length ≤ 64
noncomputable instance (l : List SP) : Decidable (okV l) := Classical.propDecidable _
noncomputable def spansR (l : List SP) : List SP := if okV l then l else []
theorem spansR_canon (l : List SP) : Canon (spansR l) ∧ (spansR l).length ≤ 64 := by
  unfold spansR
  by_cases h : okV l
  · rw [if_pos h]; exact h
  · rw [if_neg h]; exact ⟨Canon.nil, by simp⟩
theorem spansR_of {l : List SP} (h : okV l) : spansR l = l := if_pos h
theorem Canon.take {l : List SP} (h : Canon l) (i : Nat) : Canon (l.take i) := ⟨fun x hx => h.ok x (List.mem_of_mem_take hx), h.sep.sublist (List.take_sublist _ _)⟩
theorem take_canon {l : List SP} {i : Nat} (hi : i < l.length) (hc : Canon (l.take i)) (hx : okS l[i]) (hp : ∀ h : 0 < i, (l[i - 1]'(by omega)).f1 + 1 < l[i].f0) : Canon (l.take (i + 1)) := by
  rw [List.take_succ_eq_append_getElem hi, canon_snoc]
  refine ⟨hc, hx, fun x hm => ?_⟩
  obtain ⟨j, hj, rfl⟩ := List.mem_iff_getElem.1 hm
  have hji : j < i := by rw [List.length_take] at hj; omega
  rw [List.getElem_take]
  have hlast := hp (by omega)
  by_cases he : j = i - 1
  · subst he; exact hlast
  · have h1 := List.pairwise_iff_getElem.1 hc.sep j (i - 1) hj (by rw [List.length_take]; omega) (by omega)
    rw [List.getElem_take, List.getElem_take] at h1
    have h2 : okS (l[i - 1]'(by omega)) := hc.ok _ (List.mem_iff_getElem.2 ⟨i - 1, by rw [List.length_take]; omega, by rw [List.getElem_take]⟩)
    unfold okS at h2
    omega
theorem canon_at {l : List SP} {i : Nat} (hi : i < l.length) (hc : Canon l) : okS l[i] ∧ ∀ h : 0 < i, (l[i - 1]'(by omega)).f1 + 1 < l[i].f0 :=
  ⟨hc.ok _ (List.getElem_mem hi), fun h => List.pairwise_iff_getElem.1 hc.sep (i - 1) i (by omega) hi (by omega)⟩
theorem fine_ev (x : SP) : intset_fine.f x.f0 x.f1 = some (fineS x) := by
  unfold intset_fine.f fineS
  by_cases h0 : 0 ≤ x.f0 <;> by_cases h1 : x.f0 ≤ x.f1 <;> by_cases h2 : x.f1 ≤ 2147483647 <;> simp only [h0, h1, h2, if_true, if_false, decide_true, decide_false, Bool.true_and, Bool.false_and, Bool.and_true, Bool.and_false]
theorem valid_l0 (l : List SP) (b : Bool) (hb : b = true ↔ okV l) (hl : l.length < 8796093022208) : ∀ (d i : Nat), i + d = l.length → Canon (l.take i) →
    Ev (fun k => intset_Valid.l0 k l (l.length : Int) (i : Int) l) b
  | 0, i, hi, hc => by
    rw [List.take_of_length_le (by omega)] at hc
    refine Ev.last fun k => ?_
    simp only [intset_Valid.l0]
    rw [if_neg (by omega)]
    by_cases h : l.length ≤ 64
    · rw [hb.2 ⟨hc, h⟩]; simp; omega
    · have : b = false := by cases hbb : b; rfl; exact absurd (hb.1 hbb).2 h
      rw [this]; simp; omega
  | d + 1, i, hi, hc => by
    have hlt : i < l.length := by omega
    have hfalse : ∀ (_ : ¬ okV l), b = false := fun h => by cases hbb : b; rfl; exact absurd (hb.1 hbb) h
    have hg : rd_T56 l (i : Int) = l[i] := by rw [rd_nat, getD_at hlt]
    have hw1 : wrap64 ((i : Int) + 1) = ((i + 1 : Nat) : Int) := by rw [w64 (by omega) (by omega)]; omega
    by_cases hx : okS l[i]
    · by_cases h0 : 0 < i
      · have hw : wrap64 ((i : Int) - 1) = ((i - 1 : Nat) : Int) := by rw [w64 (by omega) (by omega)]; omega
        have hp1 : i - 1 < l.length := by omega
        have hg' : rd_T56 l ((i - 1 : Nat) : Int) = l[i - 1] := by rw [rd_nat, getD_at hp1]
        have hpo : okS l[i - 1] := hc.ok _ (List.mem_iff_getElem.2 ⟨i - 1, by rw [List.length_take]; omega, by rw [List.getElem_take]⟩)
        unfold okS at hpo
        by_cases hs : l[i].f0 ≤ l[i - 1].f1 + 1
        · have hn : ¬ okV l := fun h => by have := (canon_at hlt h.1).2 h0; omega
          rw [hfalse hn]
          refine Ev.last fun k => ?_
          simp only [intset_Valid.l0]
          rw [if_pos (by omega), if_pos (by omega), if_pos (by omega), hg, fine_ev, Option.bind_some, if_pos ((fineS_iff _).2 hx), if_pos (by omega), hw, if_pos (by omega), if_pos (by omega), hg', w64 (by omega) (by omega), if_pos hs]
        · refine Ev.step (fun k => ?_) (valid_l0 l b hb hl d (i + 1) (by omega) (take_canon hlt hc hx (fun _ => by omega)))
          simp only [intset_Valid.l0]
          rw [if_pos (by omega), if_pos (by omega), if_pos (by omega), hg, fine_ev, Option.bind_some, if_pos ((fineS_iff _).2 hx), if_pos (by omega), hw, if_pos (by omega), if_pos (by omega), hg', w64 (by omega) (by omega), if_neg hs, hw1]
      · refine Ev.step (fun k => ?_) (valid_l0 l b hb hl d (i + 1) (by omega) (take_canon hlt hc hx (fun h => absurd h h0)))
        simp only [intset_Valid.l0]
        rw [if_pos (by omega), if_pos (by omega), if_pos (by omega), hg, fine_ev, Option.bind_some, if_pos ((fineS_iff _).2 hx), if_neg (by omega), hw1]
    · have hn : ¬ okV l := fun h => hx (canon_at hlt h.1).1
      rw [hfalse hn]
      refine Ev.last fun k => ?_
      simp only [intset_Valid.l0]
      rw [if_pos (by omega), if_pos (by omega), if_pos (by omega), hg, fine_ev, Option.bind_some, if_neg (fun h => hx ((fineS_iff _).1 h))]
theorem valid_ev (l : List SP) (hl : l.length < 8796093022208) : Ev (fun k => intset_Valid.f k l) (decide (okV l)) := valid_l0 l _ (by simp) hl l.length 0 (by omega) Canon.nil
theorem spans_ev (l : List SP) (hl : l.length < 8796093022208) : Ev (fun k => intset_spans.f k l) (spansR l) := by
  refine Ev.bind (f := fun _ t => if t = true then some l else some []) (valid_ev l hl) (Ev.const fun k => ?_)
  unfold spansR
  by_cases h : okV l <;> simp [h]
end Go.Proofs.Ytbahibaohehojaa.Q
-- YtbahibaohehojaaQHPHas
namespace Go.Proofs.Ytbahibaohehojaa.Q
open Go.RowKit Go.Proofs.YtbahibaohehojaaW.PrintWords Go.Proofs.YtbahibaohehojaaW.PrintLast Go.Proofs.YtbahibaohehojaaW.PrintMore
attribute [local go_sem] max2_int min2_int max_two min_two max_three min_three max_four min_four
set_option linter.unusedVariables false
set_option linter.unusedSimpArgs false
noncomputable instance (n : Int) (l : List SP) : Decidable (memS n l) := Classical.propDecidable _
theorem any_spanHas (n : Int) (l : List SP) : l.any (spanHas n) = decide (memS n l) := by
  rw [Bool.eq_iff_iff, List.any_eq_true, decide_eq_true_eq]
  constructor
  · rintro ⟨x, hx, h⟩
    simp only [spanHas, Bool.and_eq_true, decide_eq_true_eq] at h
    exact ⟨x, hx, h⟩
  · rintro ⟨x, hx, h⟩
    exact ⟨x, hx, by simp only [spanHas, Bool.and_eq_true, decide_eq_true_eq]; exact h⟩
theorem has_ev (l : List SP) (n : Int) (hl : l.length < 8796093022208) : Ev (fun k => intset_Has.f k l n) (decide (memS n (spansR l))) := by
  refine Ev.bind (f := fun _ s => some (s.any (spanHas n))) (spans_ev l hl) (Ev.const fun k => ?_)
  rw [any_spanHas]
def gap (a b : Int) : Int := if a < b then b - a else a - b
def clamp (x : SP) (n : Int) : Int := mx x.f0 (mn x.f1 n)
def nearS (n : Int) (r : Int × Bool) (x : SP) : Int × Bool := if r.2 = true then (if gap (clamp x n) n < gap r.1 n then (clamp x n, true) else r) else (clamp x n, true)
def near (l : List SP) (n : Int) : Int × Bool := l.foldl (nearS n) (0, false)
theorem clamp_in {x : SP} (hx : okS x) (n : Int) : x.f0 ≤ clamp x n ∧ clamp x n ≤ x.f1 := by
  unfold okS at hx
  unfold clamp
  have h1 := mn_cases x.f1 n
  have h2 := mx_cases x.f0 (mn x.f1 n)
  omega
theorem u64sub {a b : Int} (h0 : 0 ≤ a - b) (h1 : a - b < 18446744073709551616) : IntKind.u64.wrap ((IntKind.u64.wrap a) - (IntKind.u64.wrap b)) = a - b := by
  simp only [IntKind.wrap, IntKind.bits, IntKind.signed]
  simp
  omega
theorem dist_ev {a b : Int} (h0 : 0 ≤ a ∧ a ≤ 2147483647) (hb : -9223372036854775808 ≤ b ∧ b ≤ 9223372036854775807) : intset_distance.f a b = some (gap a b) := by
  unfold intset_distance.f gap
  by_cases h : a < b
  · rw [if_pos h, if_pos h, u64sub (by omega) (by omega)]
  · rw [if_neg h, if_neg h, u64sub (by omega) (by omega)]
theorem near_l0 (l : List SP) (n : Int) (hn : -9223372036854775808 ≤ n ∧ n ≤ 9223372036854775807) (hok : ∀ x ∈ l, okS x) (hl : l.length < 8796093022208) : ∀ (d i : Nat) (c : Int) (b : Bool), i + d = l.length → (0 ≤ c ∧ c ≤ 2147483647) →
    Ev (fun k => intset_Nearest.l0 k n c b l (l.length : Int) (i : Int)) ((l.drop i).foldl (nearS n) (c, b))
  | 0, i, c, b, hi, _ => by
    refine Ev.last fun k => ?_
    simp only [intset_Nearest.l0]
    rw [if_neg (by omega), List.drop_of_length_le (by omega)]
    rfl
  | d + 1, i, c, b, hi, hc => by
    have hlt : i < l.length := by omega
    have hg : rd_T56 l (i : Int) = l[i] := by rw [rd_nat, getD_at hlt]
    have hw1 : wrap64 ((i : Int) + 1) = ((i + 1 : Nat) : Int) := by rw [w64 (by omega) (by omega)]; omega
    have hx := hok l[i] (List.getElem_mem hlt)
    have hcl := clamp_in hx n
    have hx' := hx
    unfold okS at hx'
    rw [List.drop_eq_getElem_cons hlt, List.foldl_cons]
    have hns : nearS n (c, b) l[i] = if b = true then (if gap (clamp l[i] n) n < gap c n then (clamp l[i] n, true) else (c, b)) else (clamp l[i] n, true) := rfl
    rw [hns]
    by_cases hb : b = true
    · rw [if_pos hb]
      by_cases hd : gap (clamp l[i] n) n < gap c n
      · rw [if_pos hd]
        refine Ev.step (fun k => ?_) (near_l0 l n hn hok hl d (i + 1) (clamp l[i] n) true (by omega) (by omega))
        simp only [intset_Nearest.l0]
        rw [if_pos (by omega), if_pos (by omega), if_pos (by omega), hg, if_pos hb, show mx l[i].f0 (mn l[i].f1 n) = clamp l[i] n from rfl, dist_ev (by omega) hn, Option.bind_some, dist_ev hc hn, Option.bind_some, if_pos hd, hw1]
      · rw [if_neg hd]
        refine Ev.step (fun k => ?_) (near_l0 l n hn hok hl d (i + 1) c b (by omega) hc)
        simp only [intset_Nearest.l0]
        rw [if_pos (by omega), if_pos (by omega), if_pos (by omega), hg, if_pos hb, show mx l[i].f0 (mn l[i].f1 n) = clamp l[i] n from rfl, dist_ev (by omega) hn, Option.bind_some, dist_ev hc hn, Option.bind_some, if_neg hd, hw1]
    · rw [if_neg hb]
      refine Ev.step (fun k => ?_) (near_l0 l n hn hok hl d (i + 1) (clamp l[i] n) true (by omega) (by omega))
      simp only [intset_Nearest.l0]
      rw [if_pos (by omega), if_pos (by omega), if_pos (by omega), hg, if_neg hb, show mx l[i].f0 (mn l[i].f1 n) = clamp l[i] n from rfl, hw1]
theorem nearest_ev (l : List SP) (n : Int) (hn : -9223372036854775808 ≤ n ∧ n ≤ 9223372036854775807) (hl : l.length < 8796093022208) : Ev (fun k => intset_Nearest.f k l n) (near (spansR l) n) := by
  refine Ev.bind (f := fun k t => intset_Nearest.l0 k n 0 false t (t.length : Int) 0) (spans_ev l hl) ?_
  have := spansR_canon l
  exact near_l0 (spansR l) n hn this.1.ok (by omega) (spansR l).length 0 0 false (by omega) (by omega)
end Go.Proofs.Ytbahibaohehojaa.Q
-- YtbahibaohehojaaQHPMade
namespace Go.Proofs.Ytbahibaohehojaa.Q
open Go.RowKit Go.Proofs.YtbahibaohehojaaW.PrintWords Go.Proofs.YtbahibaohehojaaW.PrintLast Go.Proofs.YtbahibaohehojaaW.PrintMore
attribute [local go_sem] max2_int min2_int max_two min_two max_three min_three max_four min_four
set_option linter.unusedVariables false
set_option linter.unusedSimpArgs false
theorem joined_l2 (l : List SP) (hok : ∀ x ∈ l, okS x) (hl : l.length < 8796093022208) : ∀ (d i : Nat) (out : List SP), i + d = l.length → out.length ≤ i → (∀ x ∈ out, okS x) →
    Ev (fun k => soundserviceref09_joined.l2 k out l (l.length : Int) (i : Int)) ((l.drop i).foldl mergeStep out)
  | 0, i, out, hi, _, _ => by
    refine Ev.last fun k => ?_
    simp only [soundserviceref09_joined.l2]
    rw [if_neg (by omega), List.drop_of_length_le (by omega)]
    rfl
  | d + 1, i, out, hi, ho, hoo => by
    have hlt : i < l.length := by omega
    have hx := hok l[i] (List.getElem_mem hlt)
    have hg : l.getD i z56 = l[i] := getD_at hlt _
    rw [List.drop_eq_getElem_cons hlt, List.foldl_cons]
    generalize hxe : l[i] = x at hx hg
    have hx' := hx
    unfold okS at hx'
    have hstep : (mergeStep out x).length ≤ i + 1 ∧ ∀ y ∈ mergeStep out x, okS y := by
      unfold mergeStep
      by_cases h0 : out.length = 0
      · rw [if_pos h0]
        exact ⟨by simp, fun y hy => by rw [List.mem_singleton.1 hy]; exact hx⟩
      · rw [if_neg h0]
        have hlast : out.length - 1 < out.length := by omega
        have ht := hoo _ (List.getElem_mem hlast)
        rw [getD_at hlast]
        by_cases h1 : x.f0 ≤ out[out.length - 1].f1 + 1
        · rw [if_pos h1]
          refine ⟨by simp; omega, fun y hy => ?_⟩
          rcases List.mem_or_eq_of_mem_set hy with hy | hy
          · exact hoo y hy
          · rw [hy]
            have hm := mx_cases out[out.length - 1].f1 x.f1
            unfold okS at *
            simp only
            omega
        · rw [if_neg h1]
          refine ⟨by simp; omega, fun y hy => ?_⟩
          rcases List.mem_append.1 hy with hy | hy
          · exact hoo y hy
          · rw [List.mem_singleton.1 hy]; exact hx
    refine Ev.step (f := fun k => soundserviceref09_joined.l2 k (mergeStep out x) l (l.length : Int) ((i + 1 : Nat) : Int)) (fun k => ?_) (joined_l2 l hok hl d (i + 1) _ (by omega) hstep.1 hstep.2)
    simp only [soundserviceref09_joined.l2]
    rw [if_pos (by omega), if_pos (by omega), if_pos (by omega), rd_nat, hg, show wrap64 ((i : Int) + 1) = ((i + 1 : Nat) : Int) from by rw [w64 (by omega) (by omega)]; omega]
    by_cases h0 : out.length = 0
    · rw [if_neg (by rw [w64 (by omega) (by omega)]; omega), Option.bind_some, if_pos (by simp; omega)]
      unfold mergeStep
      rw [if_pos h0, List.eq_nil_of_length_eq_zero h0]
      rfl
    · have hlast : out.length - 1 < out.length := by omega
      have ht := hoo _ (List.getElem_mem hlast)
      unfold okS at ht
      have hw : wrap64 ((out.length : Int) - 1) = ((out.length - 1 : Nat) : Int) := by rw [w64 (by omega) (by omega)]; omega
      rw [hw, if_pos (by omega), if_pos (by omega), if_pos (by omega), rd_nat, getD_at hlast, w64 (by omega) (by omega)]
      unfold mergeStep
      rw [if_neg h0, getD_at hlast]
      by_cases h1 : x.f0 ≤ out[out.length - 1].f1 + 1
      · rw [if_pos h1, if_pos (by omega), Int.toNat_natCast]
      · rw [if_neg h1, if_neg (by omega), Option.bind_some, if_pos (by simp; omega)]
theorem ins_perm {out : List SP} {q : Nat} (x : SP) : (out.take q ++ [x] ++ out.drop q).Perm (x :: out) := by
  have h1 : (out.take q ++ [x] ++ out.drop q).Perm (x :: (out.take q ++ out.drop q)) := by
    rw [List.append_assoc]
    exact List.perm_middle
  rw [List.take_append_drop] at h1
  exact h1
theorem ins_sorted {out : List SP} {q : Nat} {x : SP} (hq : q ≤ out.length) (hs : sortedLo out) (hhi : ∀ j (h : j < out.length), q ≤ j → x.f0 < out[j].f0) (hlo : ∀ h : 0 < q, (out[q - 1]'(by omega)).f0 ≤ x.f0) :
    sortedLo (out.take q ++ [x] ++ out.drop q) := by
  have hlow : ∀ y ∈ out.take q, y.f0 ≤ x.f0 := fun y hy => by
    obtain ⟨j, hj, rfl⟩ := List.mem_iff_getElem.1 hy
    rw [List.getElem_take]
    rw [List.length_take] at hj
    have hl := hlo (by omega)
    by_cases he : j = q - 1
    · subst he; exact hl
    · have := List.pairwise_iff_getElem.1 hs j (q - 1) (by omega) (by omega) (by omega)
      omega
  have hhigh : ∀ y ∈ out.drop q, x.f0 < y.f0 := fun y hy => by
    obtain ⟨j, hj, rfl⟩ := List.mem_iff_getElem.1 hy
    rw [List.getElem_drop]
    rw [List.length_drop] at hj
    exact hhi (q + j) (by omega) (by omega)
  unfold sortedLo
  rw [List.append_assoc]
  refine List.pairwise_append.2 ⟨hs.sublist (List.take_sublist _ _), ?_, fun a ha b hb => ?_⟩
  · refine List.pairwise_append.2 ⟨List.pairwise_singleton _ _, hs.sublist (List.drop_sublist _ _), fun a ha b hb => ?_⟩
    rw [List.mem_singleton.1 ha]
    have := hhigh b hb
    omega
  · have h1 := hlow a ha
    rcases List.mem_append.1 hb with hb | hb
    · rw [List.mem_singleton.1 hb]; exact h1
    · have := hhigh b hb; omega
theorem joined_l1 (l out : List SP) (x : SP) (i : Nat) (r : List SP) (hol : out.length + 1 < 8796093022208) (hs : sortedLo out)
    (H : ∀ out', out'.Perm (x :: out) → sortedLo out' → Ev (fun k => soundserviceref09_joined.l0 k out' l (l.length : Int) (wrap64 ((i : Int) + 1))) r) :
    ∀ p : Nat, p ≤ out.length → (∀ j (h : j < out.length), p ≤ j → x.f0 < out[j].f0) → Ev (fun k => soundserviceref09_joined.l1 k out (p : Int) l (l.length : Int) (i : Int) x.f0 x.f1) r
  | 0, hp, hhi => by
    refine Ev.step (fun k => ?_) (H (out.take 0 ++ [x] ++ out.drop 0) (ins_perm x) (ins_sorted (by omega) hs hhi (fun h => absurd h (by omega))))
    simp only [soundserviceref09_joined.l1]
    rw [if_neg (by omega), if_pos (by omega), if_pos (by omega)]
    simp only [Option.bind_some, Int.toNat_natCast]
    rw [if_pos (by simp), if_pos (by simp), if_pos (by simp; omega)]
    rfl
  | p + 1, hp, hhi => by
    have hlt : p < out.length := by omega
    have hw : wrap64 (((p + 1 : Nat) : Int) - 1) = (p : Int) := by rw [w64 (by omega) (by omega)]; omega
    have hg : rd_T56 out (p : Int) = out[p] := by rw [rd_nat, getD_at hlt]
    by_cases hgt : out[p].f0 > x.f0
    · refine Ev.step (fun k => ?_) (joined_l1 l out x i r hol hs H p (by omega) (fun j hj hpj => by
        by_cases he : j = p
        · subst he; exact hgt
        · exact hhi j hj (by omega)))
      simp only [soundserviceref09_joined.l1]
      rw [if_pos (by omega), hw, if_pos (by omega), if_pos (by omega), hg, if_pos hgt]
    · refine Ev.step (fun k => ?_) (H (out.take (p + 1) ++ [x] ++ out.drop (p + 1)) (ins_perm x) (ins_sorted hp hs hhi (fun h => by simpa using hgt)))
      simp only [soundserviceref09_joined.l1]
      rw [if_pos (by omega), hw, if_pos (by omega), if_pos (by omega), hg, if_neg hgt, if_pos (by omega), if_pos (by omega)]
      simp only [Option.bind_some, Int.toNat_natCast, List.nil_append]
      rw [if_pos (by simp; omega), if_pos (by simp; omega), if_pos (by simp; omega)]
theorem joined_l0 (l : List SP) (hok : ∀ x ∈ l, okS x) (hl : l.length + 1 < 8796093022208) : ∀ (d i : Nat) (out : List SP), i + d = l.length → out.Perm (l.take i) → sortedLo out →
    Ev (fun k => soundserviceref09_joined.l0 k out l (l.length : Int) (i : Int)) (norm l)
  | 0, i, out, hi, hp, hs => by
    rw [List.take_of_length_le (by omega)] at hp
    have hn : norm l = out.foldl mergeStep [] := (eq_norm hok (mergeAll_norm hok hp hs).1 (mergeAll_norm hok hp hs).2.1).symm
    rw [hn]
    refine Ev.step (fun k => ?_) (joined_l2 out (fun x hx => hok x (hp.mem_iff.1 hx)) (by rw [hp.length_eq]; omega) out.length 0 [] (by omega) (by simp) (fun _ h => by cases h))
    simp only [soundserviceref09_joined.l0]
    rw [if_neg (by omega)]
    rfl
  | d + 1, i, out, hi, hp, hs => by
    have hlt : i < l.length := by omega
    have hol : out.length = i := by rw [hp.length_eq, List.length_take]; omega
    refine Ev.step (fun k => ?_) (joined_l1 l out l[i] i (norm l) (by omega) hs (fun out' hp' hs' => ?_) out.length (by omega) (fun j hj hpj => absurd hj (by omega)))
    · simp only [soundserviceref09_joined.l0]
      rw [if_pos (by omega), if_pos (by omega), if_pos (by omega), rd_nat, getD_at hlt]
    · rw [show wrap64 ((i : Int) + 1) = ((i + 1 : Nat) : Int) from by rw [w64 (by omega) (by omega)]; omega]
      refine joined_l0 l hok hl d (i + 1) out' (by omega) ?_ hs'
      rw [List.take_succ_eq_append_getElem hlt]
      exact hp'.trans ((List.Perm.cons _ hp).trans (List.perm_append_singleton _ _).symm)
theorem joined_ev (l : List SP) (hok : ∀ x ∈ l, okS x) (hl : l.length + 1 < 8796093022208) : Ev (fun k => soundserviceref09_joined.f k l) (norm l) :=
  joined_l0 l hok hl l.length 0 [] (by omega) (List.Perm.refl _) List.Pairwise.nil
theorem refmake_l0 (l : List SP) (hl : l.length + 1 < 8796093022208) : ∀ (d i : Nat), i + d = l.length → (∀ x ∈ l.take i, okS x) →
    Ev (fun k => soundserviceref09_Make.l0 k l l (l.length : Int) (i : Int)) (makeR l)
  | 0, i, hi, hok => by
    rw [List.take_of_length_le (by omega)] at hok
    unfold makeR
    rw [if_pos hok]
    refine Ev.step (f := fun k => (soundserviceref09_joined.f k l).bind fun out => if (out.length : Int) > 64 then some ([], 3) else some (out, 0)) (fun k => ?_) (Ev.bind (f := fun _ out => if (out.length : Int) > 64 then some ([], 3) else some (out, 0)) (joined_ev l hok hl) (Ev.const fun k => ?_))
    · simp only [soundserviceref09_Make.l0]
      rw [if_neg (by omega)]
    · by_cases h64 : 64 < (norm l).length
      · rw [if_pos (by omega), if_pos h64]
      · rw [if_neg (by omega), if_neg h64]
  | d + 1, i, hi, hok => by
    have hlt : i < l.length := by omega
    have hg : rd_T56 l (i : Int) = l[i] := by rw [rd_nat, getD_at hlt]
    by_cases hx : okS l[i]
    · have hx' := hx
      unfold okS at hx'
      refine Ev.step (fun k => ?_) (refmake_l0 l hl d (i + 1) (by omega) (fun x hm => ?_))
      · simp only [soundserviceref09_Make.l0]
        rw [if_pos (by omega), if_pos (by omega), if_pos (by omega), hg, if_neg (by omega), if_neg (by omega), if_neg (by omega), w64 (by omega) (by omega)]
        rfl
      · rw [List.take_succ_eq_append_getElem hlt] at hm
        rcases List.mem_append.1 hm with hm | hm
        · exact hok x hm
        · rw [List.mem_singleton.1 hm]; exact hx
    · have hr : makeR l = ([], 2) := if_neg (fun h => hx (h _ (List.getElem_mem hlt)))
      rw [hr]
      refine Ev.last fun k => ?_
      simp only [soundserviceref09_Make.l0]
      rw [if_pos (by omega), if_pos (by omega), if_pos (by omega), hg]
      unfold okS at hx
      by_cases h0 : l[i].f0 < 0
      · rw [if_pos h0]
      · rw [if_neg h0]
        by_cases h1 : l[i].f1 < l[i].f0
        · rw [if_pos h1]
        · rw [if_neg h1, if_pos (by omega)]
theorem refmake_ev (l : List SP) (hl : l.length + 1 < 8796093022208) : Ev (fun k => soundserviceref09_Make.f k l) (makeR l) :=
  refmake_l0 l hl l.length 0 (by omega) (fun _ h => by cases h)
theorem same_l0 (l : List SP) (hl : l.length + 1 < 8796093022208) : ∀ (d i : Nat), i + d = l.length →
    Ev (fun k => soundserviceref09_Same.l0 k (l.length : Int) (i : Int) l l) true
  | 0, i, hi => by
    refine Ev.last fun k => ?_
    simp only [soundserviceref09_Same.l0]
    rw [if_neg (by omega)]
  | d + 1, i, hi => by
    refine Ev.step (fun k => ?_) (same_l0 l hl d (i + 1) (by omega))
    simp only [soundserviceref09_Same.l0]
    rw [if_pos (by omega), if_pos (by omega), if_pos (by omega), if_pos (by omega), if_neg (by simp), w64 (by omega) (by omega)]
    rfl
theorem same_ev (l : List SP) (hl : l.length + 1 < 8796093022208) : Ev (fun k => soundserviceref09_Same.f k l l) true := by
  have h := same_l0 l hl l.length 0 (by omega)
  refine Ev.congr (fun k => ?_) h
  unfold soundserviceref09_Same.f
  rw [if_pos rfl]
  rfl
structure Small (m : List SP) : Prop where
  can : Canon m
  len : m.length ≤ 20
  top : ∀ x ∈ m, x.f1 ≤ 274
theorem Small.okV {m : List SP} (h : Small m) : okV m := ⟨h.can, by have := h.len; omega⟩
theorem Small.lt {m : List SP} (h : Small m) : m.length + 1 < 8796093022208 := by have := h.len; omega
theorem small_norm {raw : List SP} (hok : ∀ x ∈ raw, okS x ∧ x.f1 ≤ 274) (hlen : raw.length ≤ 20) : Small (norm raw) ∧ makeR raw = (norm raw, 0) := by
  have ho : ∀ x ∈ raw, okS x := fun x hx => (hok x hx).1
  have hs := norm_spec ho
  refine ⟨⟨hs.1, by omega, fun x hx => ?_⟩, ?_⟩
  · have hx' := hs.1.ok x hx
    unfold okS at hx'
    obtain ⟨y, hy, h1, h2⟩ := (hs.2.1 x.f1).1 ⟨x, hx, hx'.2.1, Int.le_refl _⟩
    have := (hok y hy).2
    omega
  · unfold makeR
    rw [if_pos ho, if_neg (by omega)]
theorem made_end {raw : List SP} (hok : ∀ x ∈ raw, okS x ∧ x.f1 ≤ 274) (hlen : raw.length ≤ 20) :
    Ev (fun k => (soundserviceref09_Make.f k raw).bind fun bt => some bt.1) (norm raw) := by
  have h := refmake_ev raw (by omega)
  rw [(small_norm hok hlen).2] at h
  exact Ev.bind (f := fun _ bt => some bt.1) h (Ev.const fun _ => rfl)
theorem made_l0 (l : List Int) (hb : ∀ x ∈ l, 0 ≤ x ∧ x ≤ 255) (hl : l.length < 9223372036854775000) : ∀ (d j : Nat) (raw : List SP), j + d = 20 → raw.length = j → (∀ x ∈ raw, okS x ∧ x.f1 ≤ 274) →
    ∃ m, Small m ∧ Ev (fun k => soundservicelaw09_made.l0 k l raw ((2 * j : Nat) : Int)) m
  | 0, j, raw, hj, hr, hok => by
    have hjj : j = 20 := by omega
    refine ⟨norm raw, (small_norm hok (by omega)).1, Ev.step (fun k => ?_) (made_end hok (by omega))⟩
    simp only [soundservicelaw09_made.l0]
    by_cases h : wrap64 (((2 * j : Nat) : Int) + 1) < (l.length : Int)
    · rw [if_pos h, if_neg (by omega)]
    · rw [if_neg h]
  | d + 1, j, raw, hj, hr, hok => by
    have hw : wrap64 (((2 * j : Nat) : Int) + 1) = ((2 * j + 1 : Nat) : Int) := by rw [w64 (by omega) (by omega)]; omega
    by_cases h : 2 * j + 1 < l.length
    · have h0 : 2 * j < l.length := by omega
      have hb0 := hb _ (List.getElem_mem h0)
      have hb1 := hb _ (List.getElem_mem h)
      have hm0 := Int.emod_nonneg l[2 * j + 1] (show (20 : Int) ≠ 0 by omega)
      have hm1 := Int.emod_lt_of_pos l[2 * j + 1] (show (0 : Int) < 20 by omega)
      have ht : Int.tmod l[2 * j + 1] 20 = l[2 * j + 1] % 20 := Int.tmod_eq_emod_of_nonneg hb1.1
      obtain ⟨m, hm, he⟩ := made_l0 l hb hl d (j + 1) (raw ++ [⟨l[2 * j], l[2 * j] + l[2 * j + 1] % 20⟩]) (by omega) (by simp; omega) (fun x hx => by
        rcases List.mem_append.1 hx with hx | hx
        · exact hok x hx
        · rw [List.mem_singleton.1 hx]; unfold okS; simp only; omega)
      refine ⟨m, hm, Ev.step (fun k => ?_) he⟩
      simp only [soundservicelaw09_made.l0]
      rw [hw, if_pos (by omega), if_pos (by omega), if_pos (by omega), if_pos (by omega), if_pos (by omega), if_pos (by omega), rdi_nat, rdi_nat, getD_at h0, getD_at h, ht, w64 (e := l[2 * j]) (by omega) (by omega), w64 (e := l[2 * j + 1] % 20) (by omega) (by omega), w64 (by omega) (by omega), w64 (by omega) (by omega)]
      rfl
    · refine ⟨norm raw, (small_norm hok (by omega)).1, Ev.step (fun k => ?_) (made_end hok (by omega))⟩
      simp only [soundservicelaw09_made.l0]
      rw [hw, if_neg (by omega)]
theorem made_ev (l : List Int) (hb : ∀ x ∈ l, 0 ≤ x ∧ x ≤ 255) (hl : l.length < 9223372036854775000) : ∃ m, Small m ∧ Ev (fun k => soundservicelaw09_made.f k l) m :=
  made_l0 l hb hl 20 0 [] (by omega) rfl (fun _ h => by cases h)
theorem sane_norm : norm [⟨5, 9⟩, ⟨1, 4⟩, ⟨20, 20⟩] = ([⟨1, 9⟩, ⟨20, 20⟩] : List SP) := by
  refine (eq_norm ?_ ⟨?_, ?_⟩ fun n => ?_).symm
  · decide
  · decide
  · simp
  · simp only [memS_cons, memS_nil, or_false]
    omega
theorem sane_canon : okV ([⟨1, 9⟩, ⟨20, 20⟩] : List SP) := ⟨⟨by decide, by simp⟩, by simp⟩
theorem sane_ev : Ev (fun k => soundservicelaw09_sane.f k) true := by
  have hmk := make_ev [⟨5, 9⟩, ⟨1, 4⟩, ⟨20, 20⟩] (by simp)
  have hmr : makeR [⟨5, 9⟩, ⟨1, 4⟩, ⟨20, 20⟩] = (([⟨1, 9⟩, ⟨20, 20⟩] : List SP), 0) := by
    unfold makeR
    rw [if_pos (by decide), sane_norm, if_neg (by simp)]
  rw [hmr] at hmk
  have hn1 := nearest_ev [⟨1, 9⟩, ⟨20, 20⟩] 14 (by omega) (by simp)
  have hn2 := nearest_ev [⟨1, 9⟩, ⟨20, 20⟩] 15 (by omega) (by simp)
  rw [spansR_of sane_canon] at hn1 hn2
  rw [show near [⟨1, 9⟩, ⟨20, 20⟩] 14 = (9, true) from by decide] at hn1
  rw [show near [⟨1, 9⟩, ⟨20, 20⟩] 15 = (20, true) from by decide] at hn2
  have hv := valid_ev [⟨1, 9⟩, ⟨20, 20⟩] (by simp)
  rw [decide_eq_true sane_canon] at hv
  have hh1 := has_ev [⟨1, 9⟩, ⟨20, 20⟩] 20 (by simp)
  have hh2 := has_ev [⟨1, 9⟩, ⟨20, 20⟩] 10 (by simp)
  rw [spansR_of sane_canon, decide_eq_true (by simp only [memS_cons, memS_nil, or_false]; omega)] at hh1
  rw [spansR_of sane_canon, decide_eq_false (by simp only [memS_cons, memS_nil, or_false]; omega)] at hh2
  unfold soundservicelaw09_sane.f
  refine Ev.bind hmk ?_
  refine Ev.bind hn1 ?_
  refine Ev.bind hn2 ?_
  refine Ev.bind hv ?_
  refine Ev.bind hh1 ?_
  refine Ev.bind hh2 ?_
  exact Ev.const fun _ => rfl
end Go.Proofs.Ytbahibaohehojaa.Q
-- YtbahibaohehojaaPureIntsetForms
namespace Go.Proofs.Ytbahibaohehojaa.Pure
open Go.Proofs.Ytbahibaohehojaa.Q Go.RowKit Go.Proofs.YtbahibaohehojaaW.PrintWords Go.Proofs.YtbahibaohehojaaW.PrintLast Go.Proofs.YtbahibaohehojaaW.PrintMore
attribute [local go_sem] max2_int min2_int max_two min_two max_three min_three max_four min_four
set_option linter.unusedVariables false
set_option linter.unusedSimpArgs false
def evens (j : Nat) : List SP := (List.range j).map fun i : Nat => ⟨2 * (i : Int), 2 * (i : Int)⟩
theorem evens_len (j : Nat) : (evens j).length = j := by simp [evens]
theorem evens_canon (j : Nat) (hj : j ≤ 100) : Canon (evens j) := by
  refine ⟨fun x hx => ?_, List.pairwise_iff_getElem.2 fun a b ha hb hab => ?_⟩
  · obtain ⟨i, hi, rfl⟩ := List.mem_map.1 hx
    have := List.mem_range.1 hi
    unfold okS
    simp only
    omega
  · simp only [evens, List.getElem_map, List.getElem_range]
    omega
theorem evens_succ (j : Nat) : evens (j + 1) = evens j ++ [⟨2 * (j : Int), 2 * (j : Int)⟩] := by simp [evens, List.range_succ]
theorem makeR_canon {l : List SP} (h : Canon l) : makeR l = if 64 < l.length then ([], 3) else (l, 0) := by
  unfold makeR
  rw [if_pos h.ok, norm_canon h]
theorem forms_l1 {m : List SP} (hm : Small m) (n : Nat) (hn : n ≤ 70) : ∀ (d j : Nat), j + d = n →
    Ev (fun k => soundservicelaw09_IntsetForms.l1 k 0 (n : Int) (evens j) (j : Int) m m) true
  | 0, j, hj => by
    have hjn : j = n := by omega
    subst hjn
    have hmk := make_ev (evens j) (by rw [evens_len]; omega)
    rw [makeR_canon (evens_canon j (by omega)), evens_len] at hmk
    have hs := same_ev m hm.lt
    refine Ev.step (f := fun k => (intset_Make.f k (evens j)).bind fun bt => ((soundserviceref09_Same.f k m m).bind fun t703 => (if t703 = true then (if (j : Int) ≤ 64 then (if bt.2 = 0 then (if (bt.1.length : Int) = j then (some true) else (if (j : Int) > 64 then (if bt.2 = 3 then (some ((bt.1.length : Int) == 0)) else (some false)) else (some false))) else (if (j : Int) > 64 then (if bt.2 = 3 then (some ((bt.1.length : Int) == 0)) else (some false)) else (some false))) else (if (j : Int) > 64 then (if bt.2 = 3 then (some ((bt.1.length : Int) == 0)) else (some false)) else (some false))) else (some false)))) (fun k => ?_) ?_
    · simp only [soundservicelaw09_IntsetForms.l1]
      rw [if_neg (by omega)]
      rfl
    · refine Ev.bind hmk ?_
      refine Ev.bind hs (Ev.const fun k => ?_)
      by_cases h : 64 < j
      · rw [if_pos h, if_pos rfl, if_neg (by omega), if_pos (by omega), if_pos rfl]
        rfl
      · rw [if_neg h, if_pos rfl, if_pos (by omega), if_pos rfl, if_pos (by simp only [evens_len])]
  | d + 1, j, hj => by
    refine Ev.step (fun k => ?_) (forms_l1 hm n hn d (j + 1) (by omega))
    simp only [soundservicelaw09_IntsetForms.l1]
    rw [if_pos (by omega), if_pos (by rw [evens_len]; omega), evens_succ, w64 (e := 2 * (j : Int)) (by omega) (by omega), w64 (by omega) (by omega)]
    rfl
theorem forms_l0 {m : List SP} (hm : Small m) (a1 : Int) (ha : 0 ≤ a1 ∧ a1 ≤ 255) : ∀ (i : Nat) (acc : List SP), i ≤ m.length → (∀ x ∈ acc, okS x) → (∀ n, memS n acc ↔ memS n (m.drop i)) → acc.length + 3 * i = 3 * m.length →
    Ev (fun k => soundservicelaw09_IntsetForms.l0 k a1 acc ((i : Int) - 1) m) true
  | 0, acc, _, hok, hmem, hlen => by
    have hlm := hm.len
    rw [List.drop_zero] at hmem
    have hmk := make_ev acc (by omega)
    have hnm : norm acc = m := (eq_norm hok hm.can (fun n => (hmem n).symm)).symm
    have hmr : makeR acc = (m, 0) := by
      unfold makeR
      rw [if_pos hok, hnm, if_neg (by omega)]
    rw [hmr] at hmk
    have hm0 := Int.emod_nonneg a1 (show (5 : Int) ≠ 0 by omega)
    have hm1 := Int.emod_lt_of_pos a1 (show (0 : Int) < 5 by omega)
    have ht : Int.tmod a1 5 = a1 % 5 := Int.tmod_eq_emod_of_nonneg ha.1
    have hn : wrap64 (62 + wrap64 (Int.tmod a1 5)) = (((62 + a1 % 5).toNat : Nat) : Int) := by
      rw [ht, w64 (e := a1 % 5) (by omega) (by omega), w64 (by omega) (by omega)]
      omega
    refine Ev.step (f := fun k => (intset_Make.f k acc).bind fun bt690 => (soundservicelaw09_IntsetForms.l1 k bt690.2 (((62 + a1 % 5).toNat : Nat) : Int) ([] : List SP) 0 m bt690.1)) (fun k => ?_) ?_
    · simp only [soundservicelaw09_IntsetForms.l0]
      rw [if_neg (by omega), hn]
    · refine Ev.bind hmk ?_
      exact forms_l1 hm (62 + a1 % 5).toNat (by omega) _ 0 (Nat.zero_add _)
  | i + 1, acc, hi, hok, hmem, hlen => by
    have hlm := hm.len
    have hlt : i < m.length := by omega
    have hx := hm.can.ok m[i] (List.getElem_mem hlt)
    have ht := hm.top m[i] (List.getElem_mem hlt)
    have hx' := hx
    unfold okS at hx'
    have hg : rd_T56 m (i : Int) = m[i] := by rw [rd_nat, getD_at hlt]
    have hmid : Int.tdiv (m[i].f1 - m[i].f0) 2 = (m[i].f1 - m[i].f0) / 2 := Int.tdiv_eq_ediv_of_nonneg (by omega)
    have hmd : wrap64 (m[i].f0 + wrap64 (Int.tdiv (wrap64 (m[i].f1 - m[i].f0)) 2)) = m[i].f0 + (m[i].f1 - m[i].f0) / 2 := by
      rw [w64 (e := m[i].f1 - m[i].f0) (by omega) (by omega), hmid, w64 (e := (m[i].f1 - m[i].f0) / 2) (by omega) (by omega), w64 (by omega) (by omega)]
    refine Ev.step (fun k => ?_) (forms_l0 hm a1 ha i (acc ++ [⟨m[i].f0 + (m[i].f1 - m[i].f0) / 2, m[i].f1⟩, ⟨m[i].f0, m[i].f0 + (m[i].f1 - m[i].f0) / 2⟩, ⟨m[i].f0, m[i].f1⟩]) (by omega) (fun x hm' => ?_) (fun n => ?_) (by simp; omega))
    · simp only [soundservicelaw09_IntsetForms.l0]
      rw [show (((i + 1 : Nat) : Int) - 1) = (i : Int) from by omega, if_pos (by omega), if_pos (by omega), if_pos (by omega), hg, Option.bind_some, if_pos (by simp; omega), hmd, w64 (by omega) (by omega)]
    · rcases List.mem_append.1 hm' with h | h
      · exact hok x h
      · simp only [List.mem_cons, List.not_mem_nil, or_false] at h
        rcases h with rfl | rfl | rfl <;> (unfold okS; simp only; omega)
    · rw [List.drop_eq_getElem_cons hlt, memS_append, hmem n, memS_cons n m[i]]
      simp only [memS_cons, memS_nil, or_false]
      constructor
      · rintro (h | h)
        · exact .inr h
        · exact .inl (by omega)
      · rintro (h | h)
        · exact .inr (.inr (.inr h))
        · exact .inl h
theorem IntsetForms : soundservicelaw09_IntsetForms.Pure := by
  intro l0 a1 hl hl2 hb h1
  have hb' : ∀ x ∈ l0, 0 ≤ x ∧ x ≤ 255 := fun x hx => u8_wf (hb x hx)
  have ha1 := u8_wf h1
  obtain ⟨m, hm, hme⟩ := made_ev l0 hb' (by omega)
  refine Ev.rounds ?_
  unfold soundservicelaw09_IntsetForms.f
  refine Ev.bind sane_ev ?_
  refine Ev.bind hme ?_
  have hlm := hm.len
  rw [show wrap64 ((m.length : Int) - 1) = (m.length : Int) - 1 from w64 (by omega) (by omega)]
  exact forms_l0 hm a1 ha1 m.length [] (Nat.le_refl _) (fun _ h => by cases h) (fun n => by rw [List.drop_length]) (by simp)
end Go.Proofs.Ytbahibaohehojaa.Pure
-- YtbahibaohehojaaQEnter
namespace Go.Proofs.Ytbahibaohehojaa.Q
open Go.RowKit Go.Proofs.YtbahibaohehojaaW.PrintWords Go.Proofs.YtbahibaohehojaaW.PrintLast Go.Proofs.YtbahibaohehojaaW.PrintMore
attribute [local go_sem] max2_int min2_int max_two min_two max_three min_three max_four min_four
set_option linter.unusedVariables false
set_option linter.unusedSimpArgs false
def joinW : List (List Char) → List Char
  | [] => []
  | [w] => w
  | w :: v :: ws => w ++ ' ' :: joinW (v :: ws)
theorem ws_char {c : Char} {r : List Char} (h : c ≠ ' ') {w : List Char} {ws : List (List Char)} (hr : wordsSigns r = w :: ws) : wordsSigns (c :: r) = (c :: w) :: ws := by
  rw [wordsSigns.eq_3 c r h, hr]
theorem ws_space (r : List Char) : wordsSigns (' ' :: r) = [] :: wordsSigns r := by
  rw [wordsSigns.eq_2]
theorem ws_word (r : List Char) : ∀ w : List Char, (∀ c ∈ w, c ≠ ' ') → wordsSigns (w ++ ' ' :: r) = w :: wordsSigns r
  | [], _ => ws_space r
  | c :: w, h => ws_char (h c List.mem_cons_self) (ws_word r w fun x hx => h x (List.mem_cons_of_mem _ hx))
theorem ws_last : ∀ w : List Char, (∀ c ∈ w, c ≠ ' ') → wordsSigns w = [w]
  | [], _ => by rw [wordsSigns.eq_1]
  | c :: w, h => ws_char (h c List.mem_cons_self) (ws_last w fun x hx => h x (List.mem_cons_of_mem _ hx))
theorem ws_join : ∀ ws : List (List Char), ws ≠ [] → (∀ w ∈ ws, ∀ c ∈ w, c ≠ ' ') → wordsSigns (joinW ws) = ws
  | [], h, _ => absurd rfl h
  | [w], _, h => ws_last w (h w List.mem_cons_self)
  | w :: v :: ws, _, h => by
    show wordsSigns (w ++ ' ' :: joinW (v :: ws)) = _
    rw [ws_word _ w (h w List.mem_cons_self), ws_join (v :: ws) (by simp) (fun x hx => h x (List.mem_cons_of_mem _ hx))]
def headWords : List (List Char) := [['h', 'a', 'r', 'n', 'e', 's', 's'],
  ['0', '5', '4', '4', '3', 'e', '7', '0', '4', 'd', '7', 'e', 'c', '0', 'e', '3', 'a', '5', '8', 'b', 'e', '4', '2', 'f', '9', '6', 'd', 'b', 'f', '8', '9', 'f', 'c', '7', '1', '7', '7', 'd', '0', 'f', '0', '0', 'f', '5', '5', '8', '5', '7', 'd', 'f', '4', 'e', '7', '2', '4', 'c', '0', '9', '9', '8', '5', 'd', '0', '7'],
  ['c', 'u', 't'],
  ['a', 't'],
  ['s', 'o', 'u', 'n', 'd', 's', 'e', 'r', 'v', 'i', 'c', 'e', '/', 's', 'o', 'u', 'n', 'd', 's', 'e', 'r', 'v', 'i', 'c', 'e', 'l', 'a', 'w', '1', '0', '.', 'O', 'f', 'f', 'e', 'r', 'B', 'e', 's', 't'],
  ['s', 'o', 'u', 'n', 'd', 's', 'e', 'r', 'v', 'i', 'c', 'e', '/', 's', 'o', 'u', 'n', 'd', 's', 'e', 'r', 'v', 'i', 'c', 'e', 'l', 'a', 'w', '1', '0', '.', 'O', 'f', 'f', 'e', 'r', 'C', 'o', 'm', 'p', 'a', 'r', 'e', 's'],
  ['s', 'o', 'u', 'n', 'd', 's', 'e', 'r', 'v', 'i', 'c', 'e', '/', 's', 'o', 'u', 'n', 'd', 's', 'e', 'r', 'v', 'i', 'c', 'e', 'l', 'a', 'w', '0', '9', '.', 'I', 'n', 't', 's', 'e', 't', 'M', 'a', 'k', 'e', 's'],
  ['s', 'o', 'u', 'n', 'd', 's', 'e', 'r', 'v', 'i', 'c', 'e', '/', 's', 'o', 'u', 'n', 'd', 's', 'e', 'r', 'v', 'i', 'c', 'e', 'l', 'a', 'w', '0', '9', '.', 'I', 'n', 't', 's', 'e', 't', 'N', 'e', 'a', 'r', 'e', 's', 't'],
  ['s', 'o', 'u', 'n', 'd', 's', 'e', 'r', 'v', 'i', 'c', 'e', '/', 's', 'o', 'u', 'n', 'd', 's', 'e', 'r', 'v', 'i', 'c', 'e', 'l', 'a', 'w', '0', '9', '.', 'I', 'n', 't', 's', 'e', 't', 'F', 'o', 'r', 'm', 's'],
  ['s', 'o', 'u', 'n', 'd', 's', 'e', 'r', 'v', 'i', 'c', 'e', '/', 's', 'o', 'u', 'n', 'd', 's', 'e', 'r', 'v', 'i', 'c', 'e', 'l', 'a', 'w', '3', '7', '.', 'G', 'l', 'i', 't', 'c', 'h', 'S', 'u', 'm', 's'],
  ['s', 'o', 'u', 'n', 'd', 's', 'e', 'r', 'v', 'i', 'c', 'e', '/', 's', 'o', 'u', 'n', 'd', 's', 'e', 'r', 'v', 'i', 'c', 'e', 'l', 'a', 'w', '3', '7', '.', 'G', 'l', 'i', 't', 'c', 'h', 'O', 'r', 'd', 'e', 'r', 's'],
  ['s', 'o', 'u', 'n', 'd', 's', 'e', 'r', 'v', 'i', 'c', 'e', '/', 's', 'o', 'u', 'n', 'd', 's', 'e', 'r', 'v', 'i', 'c', 'e', 'l', 'a', 'w', '3', '7', '.', 'G', 'l', 'i', 't', 'c', 'h', 'T', 'o', 't', 'a', 'l'],
  ['s', 'o', 'u', 'n', 'd', 's', 'e', 'r', 'v', 'i', 'c', 'e', '/', 's', 'o', 'u', 'n', 'd', 's', 'e', 'r', 'v', 'i', 'c', 'e', 'l', 'a', 'w', '0', '9', '.', 'I', 'n', 't', 's', 'e', 't', 'A', 'l', 'g', 'e', 'b', 'r', 'a'],
  ['s', 'o', 'u', 'n', 'd', 's', 'e', 'r', 'v', 'i', 'c', 'e', '/', 's', 'o', 'u', 'n', 'd', 's', 'e', 'r', 'v', 'i', 'c', 'e', 'l', 'a', 'w', '0', '9', '.', 'I', 'n', 't', 's', 'e', 't', 'C', 'o', 'm', 'b', 'i', 'n', 'e', 's'],
  ['s', 'o', 'u', 'n', 'd', 's', 'e', 'r', 'v', 'i', 'c', 'e', '/', 's', 'o', 'u', 'n', 'd', 's', 'e', 'r', 'v', 'i', 'c', 'e', 'l', 'a', 'w', '0', '9', '.', 'I', 'n', 't', 's', 'e', 't', 'M', 'e', 'm', 'b', 'e', 'r', 's'],
  ['s', 'o', 'u', 'n', 'd', 's', 'e', 'r', 'v', 'i', 'c', 'e', '/', 's', 'o', 'u', 'n', 'd', 's', 'e', 'r', 'v', 'i', 'c', 'e', 'l', 'a', 'w', '1', '2', '.', 'N', 'e', 'g', 'o', 't', 'i', 'a', 't', 'e', 'R', 'e', 'f', 'u', 's', 'e', 's'],
  ['s', 'o', 'u', 'n', 'd', 's', 'e', 'r', 'v', 'i', 'c', 'e', '/', 's', 'o', 'u', 'n', 'd', 's', 'e', 'r', 'v', 'i', 'c', 'e', 'l', 'a', 'w', '1', '2', '.', 'N', 'e', 'g', 'o', 't', 'i', 'a', 't', 'e', 'C', 'o', 'n', 'v', 'e', 'r', 't', 's'],
  ['s', 'o', 'u', 'n', 'd', 's', 'e', 'r', 'v', 'i', 'c', 'e', '/', 's', 'o', 'u', 'n', 'd', 's', 'e', 'r', 'v', 'i', 'c', 'e', 'l', 'a', 'w', '1', '2', '.', 'N', 'e', 'g', 'o', 't', 'i', 'a', 't', 'e', 'B', 'a', 'c', 'k', 'w', 'a', 'r', 'd', 's'],
  ['s', 'o', 'u', 'n', 'd', 's', 'e', 'r', 'v', 'i', 'c', 'e', '/', 's', 'o', 'u', 'n', 'd', 's', 'e', 'r', 'v', 'i', 'c', 'e', 'l', 'a', 'w', '1', '2', '.', 'N', 'e', 'g', 'o', 't', 'i', 'a', 't', 'e', 'W', 'i', 'd', 'e', 'r']]
theorem head_is : Try.prog.initOrder = String.ofList (joinW headWords) := by kernel_rfl
theorem head_words : wordsSigns Try.prog.initOrder.toList = headWords := by
  rw [head_is, String.toList_ofList]
  refine ws_join _ (by unfold headWords; exact List.cons_ne_nil _ _) ?_
  have h : headWords.all (fun w => w.all (fun c => c != ' ')) = true := by kernel_rfl
  intro w hw c hc e
  have := List.all_eq_true.1 (List.all_eq_true.1 h w hw) c hc
  rw [e] at this
  exact absurd this (by decide)
theorem bm : behindMainWord headWords = headWords.drop 2 := by kernel_rfl
theorem c0 : headWords.drop 2 = "cut".toList :: headWords.drop 3 := by kernel_rfl
theorem sl : stripLifts liftWords ("cut".toList :: headWords.drop 3) = ([], "cut".toList :: headWords.drop 3) := by kernel_rfl
theorem hw : behindMainWord (wordsSigns Try.prog.initOrder.toList) = "cut".toList :: headWords.drop 3 := (congrArg behindMainWord head_words).trans (bm.trans c0)
theorem enter_of (P : Program) (rest : List (List Char)) (h : behindMainWord (wordsSigns P.initOrder.toList) = "cut".toList :: rest) (hs : stripLifts liftWords ("cut".toList :: rest) = ([], "cut".toList :: rest))
    (h1 : P.laysLater = false) (h2 : P.bearsReflect = false) (h3 : P.doorFits [] = true) : P.mayEnter = true := by
  unfold Program.mayEnter
  rw [h]
  simp only []
  rw [hs, h1, h2, h3]
  simp
theorem final_of (P : Program) (rest : List (List Char)) (h : behindMainWord (wordsSigns P.initOrder.toList) = "cut".toList :: rest) (hs : stripLifts liftWords ("cut".toList :: rest) = ([], "cut".toList :: rest)) : P.liftsFinal = false := by
  unfold Program.liftsFinal Program.headLifts
  rw [h]
  simp only []
  rw [hs]
  simp
theorem make_of (P : Program) (rest : List (List Char)) (h : behindMainWord (wordsSigns P.initOrder.toList) = "cut".toList :: rest) : P.make = some .cut := by
  unfold Program.make
  rw [h]
  rfl
theorem lays : Try.prog.laysLater = false := by kernel_rfl
theorem refl : Try.prog.bearsReflect = false := by kernel_rfl
theorem door : Try.prog.doorFits [] = true := by kernel_rfl
theorem may_enter : Try.prog.mayEnter = true := enter_of _ _ hw sl lays refl door
theorem lifts_final : Try.prog.liftsFinal = false := final_of _ _ hw sl
theorem make_is : Try.prog.make = some .cut := make_of _ _ hw
end Go.Proofs.Ytbahibaohehojaa.Q
-- YtbahibaohehojaaLawIntsetForms
namespace Go.Proofs.Ytbahibaohehojaa.intsetForms
open Go.ChangeShapes Go.WideShapes Go.ChangeAt Go.RowKit
open Go.ChangeMaps (open_string shut_string)
set_option linter.unusedVariables false
theorem own : ownKnob Try.prog.godebug = none := by kernel_rfl
theorem laidOut : laidOutB Try.prog = true := by kernel_rfl
def IsRow (k : IntKind) (w : World) (a : Option Addr) (len cap : Nat) (zs : List Int) : Prop :=
  (a = none ∧ len = 0 ∧ cap = 0 ∧ zs = []) ∨
  ∃ x, a = some x ∧ len ≤ cap ∧ cap ≤ maxLen ∧ zs.length = cap ∧ (∀ i, i < zs.length → w.cell? (x.add i) = some (.int k (zs.getD i 0))) ∧ ∀ n ∈ zs, (Lit.int k n).wf = true
set_option maxRecDepth 100000 in
theorem lifted (os : Os) (started : os.Started) (H : Type) (enc : TypeId × Value → H) :
    ReturnsInHanded {} Try.checked os 7 .any (Rows.intsetFormsSpec.pre6 enc Try.prog Try.f7 Rows.intsetFormsRow.domain false) (Rows.intsetFormsSpec.post enc Try.prog Try.f7 false true false false) := by
  refine returnsInHanded_of_change_sized (C := Try.checked) own started (by kernel_rfl) Try.func7
    (ChangeSpec.witness6 (enc := enc) (C := Try.checked) false ⟨#[], #[.slice none 0 0, .int .u8 0], []⟩ 8 (by kernel_rfl) (by kernel_rfl) (by kernel_rfl) (by kernel_rfl)) ?_
  intro W base args ds gs before hval0 hW hcnd hsz0 _
  have hsz : (DataW.weightsEach Try.prog (Try.f7.params.toList ++ Rows.intsetFormsSpec.plain.varTypes Try.prog) (ds ++ gs)).all (· ≤ reachBytes) = true := hsz0
  have hval : ∀ (j : Nat) t v, Try.f7.params[j]? = some t → args[j]? = some v → Value.okWide Try.prog W .any base t v := hval0
  have hW' := hW
  obtain ⟨p, q, hA0, hV, rfl, hfz, hnd⟩ := hW
  have hA : DataW.TrodAll enc Try.prog W 0 (fun _ => true) true Try.f7.params.toList args.toList ds p := hA0
  rw [Try.params7] at hA hval hsz
  obtain ⟨v0, vs0, d0, ds0, p0, q0, hargs, rfl, rfl, h0, r0⟩ := trodAll_cons hA
  obtain ⟨v1, vs1, d1, ds1, p1, q1, rfl, rfl, rfl, h1, r1⟩ := trodAll_cons r0
  obtain ⟨rfl, rfl, rfl⟩ := trodAll_nil r1
  obtain rfl : args = #[v0, v1] := by cases args; simp_all
  obtain ⟨rfl, rfl⟩ := trodVars_none hV
  obtain ⟨a0, len0, cap0, rfl⟩ := okWide_slice Try.underlying22 (hval 0 22 v0 rfl rfl)
  have k0 := h0
  have lt0 : ∀ x ∈ p0, x.block < W.heap.size := by obtain ⟨m, hm⟩ := k0; exact DataW.trod_lt m _ _ _ hm
  obtain ⟨z0, w0⟩ : ∃ zs, IsRow .u8 W a0 len0 cap0 zs := by
    obtain ⟨fuel, hf⟩ := h0
    rcases open_ints Try.underlying22 Try.underlying5 (by kernel_rfl) hf with ⟨hcs, _⟩ | ⟨x, l, c, zs, hcs, _, hl, hm, hz, _, hcell, hwz⟩
    · simp [Value.cells] at hcs
      obtain ⟨rfl, rfl, rfl⟩ := hcs
      exact ⟨[], .inl ⟨rfl, rfl, rfl, rfl⟩⟩
    · simp [Value.cells] at hcs
      obtain ⟨rfl, rfl, rfl⟩ := hcs
      exact ⟨zs, .inr ⟨_, rfl, hl, hm, by simpa using hz, hcell, hwz⟩⟩
  have y0 : len0 * 1 ≤ 140737488351232 := Go.Proofs.YtbahibaohehojaaW.PrintWords.sized_ints hsz (j := 0) (t := 22) rfl rfl Try.underlying22 Try.underlying5 (by kernel_rfl) (by kernel_rfl) h0
  obtain ⟨a1, rfl, rfl, rfl, w1⟩ := open_int Try.underlying5 (hval 1 5 v1 rfl rfl) h1
  clear hA0 hval0 hsz0 hsz
  refine (Q.soundservicelaw09_IntsetForms.walk Pure.IntsetForms a0 len0 cap0 z0 a1 W w0 y0 w1).mono fun e W' ⟨he, bel⟩ => ?_
  subst he
  exact ⟨_, rfl, _, _, _, [], _, [], hW', trodAll_mk1 (shut_bool Try.underlying4 _), (trodAll_cons_mk (Below.trod laidOut (by kernel_rfl) (of_decide_eq_true (by kernel_rfl)) k0 bel lt0) (trodAll_cons_mk (shut_int Try.underlying5 w1) trodAll_mk0)), rfl, bel.frame _, fun h => by cases h⟩
theorem over : Rows.intsetFormsRow.holds Try.pinned (OpenSpec.ofChange Rows.intsetFormsSpec) :=
  OpenClaim.holds_of_wide 7 Try.f7 rfl rfl rfl rfl rfl rfl rfl ⟨rfl, rfl, rfl, rfl, rfl⟩ rfl rfl rfl rfl rfl (by kernel_rfl) Try.func7 (by show joinedFacts Try.prog _ _ _ _ = true; unfold joinedFacts; rw [Q.may_enter, Q.lifts_final, Q.make_is]; kernel_rfl)
    (of_decide_eq_true (by kernel_rfl)) (by unfold Func.isWrapper; first | (rw [if_pos (by decide +kernel)]; kernel_rfl) | (rw [if_neg (by decide +kernel)]; exact ⟨rfl, rfl⟩))
    (fun os started H enc _ => lifted os started H enc)
theorem proved : Rows.IntsetFormsSaid := over
end Go.Proofs.Ytbahibaohehojaa.intsetForms
namespace Go.Proofs.Ytbahibaohehojaa
theorem intsetForms_holds : Rows.IntsetFormsSaid := intsetForms.proved
end Go.Proofs.Ytbahibaohehojaa
