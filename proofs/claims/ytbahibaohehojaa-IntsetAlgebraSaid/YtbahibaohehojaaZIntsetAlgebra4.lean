/- Proves that soundservice/soundservicelaw09.IntsetAlgebra returns true for every input, never panics, and leaves its input as it was (the given statement IntsetAlgebraSaid). Conditions: none but those of the given statement. This text is the last: it holds the theorem; it was written by a program (wip/pack.py) out of this claim's own texts, in build order; Lean checks it. -/
import Derived.Test.YtbahibaohehojaaZIntsetAlgebra3
import Derived.Below
import Derived.ChangeOld
import Derived.Deep.RegionHeld3
import Derived.Deep.RegionWith
import Derived.KernelRfl
import Derived.OpenShut
import Derived.ProofKit
import Derived.ShutString
import Derived.SizedLaws
import Derived.Test.YtbahibaohehojaaChecked
import Derived.Test.YtbahibaohehojaaRows
import Derived.WalkKit
import GoSem.ClaimJoined
-- YtbahibaohehojaaQHLAlgebra
namespace Go.Proofs.Ytbahibaohehojaa.Q
open Go.RowKit Go.Proofs.YtbahibaohehojaaW.PrintWords Go.Proofs.YtbahibaohehojaaW.PrintLast Go.Proofs.YtbahibaohehojaaW.PrintMore
attribute [local go_sem] max2_int min2_int max_two min_two max_three min_three max_four min_four
set_option linter.unusedVariables false
set_option linter.unusedSimpArgs false
def algebra.T10 : Bool × List (List Nat × List Nat) := (true, [([], []), ([0], [0]), ([1], [1]), ([2], [2]), ([3, 2], [2, 3]), ([2, 4], [2, 4]), ([5, 2], [5]), ([6], [6]), ([7, 6], [6, 7]), ([6, 8], [6, 8]), ([9, 6], [9]), ([10], [10]), ([11, 10], [10, 11]), ([10, 12], [10, 12]), ([13, 10], [13]), ([14], [14]), ([15, 14], [14, 15]), ([14, 16], [14, 16]), ([17, 14], [17]), ([18], [18]), ([19, 18], [18, 19]), ([18, 20], [18, 20]), ([21, 18], [21]), ([22], [22]), ([22], [22]), ([23, 24, 22, 22], [22, 23, 24]), ([22, 25], [22, 25]), ([26, 25], [26]), ([27], [27]), ([27], [27]), ([28, 29, 27, 27], [27, 28, 29]), ([27, 30], [27, 30]), ([31, 30], [31]), ([32], [32]), ([32], [32]), ([33, 34, 32, 32], [32, 33, 34]), ([32, 35], [32, 35]), ([36, 35], [36]), ([37], [37]), ([37], [37]), ([38, 39, 37, 37], [37, 38, 39]), ([37], [37]), ([37], [37]), ([41, 42, 40, 37], [37, 41, 42]), ([40, 43, 43, 37], [37, 40, 43]), ([37, 44], [37, 44]), ([45, 44], [45]), ([46], [46]), ([46], [46]), ([47, 48, 46, 46], [46, 47, 48]), ([46], [46]), ([49, 50, 49, 46], [46, 49, 50]), ([46, 51], [46, 51]), ([52, 51], [52]), ([53], [53]), ([53], [53]), ([54, 55, 53, 53], [53, 54, 55]), ([53], [53]), ([56, 57, 56, 53], [53, 56, 57]), ([53, 58], [53, 58]), ([59, 58], [59]), ([60], [60]), ([60], [60]), ([61, 62, 60, 60], [60, 61, 62]), ([60], [60]), ([63, 64, 63, 60], [60, 63, 64]), ([60], [60]), ([60], [60]), ([60], [60]), ([67, 68, 65, 60], [60, 67, 68]), ([66, 69, 69, 60], [60, 66, 69]), ([65, 70, 70, 60], [60, 65, 70]), ([60, 71], [60, 71]), ([72, 71, 0, 1, 2, 3, 4, 5, 6, 7, 8, 9, 10, 11, 12, 13, 14, 15, 16, 17, 18, 19, 20, 21, 22, 23, 24, 25, 26, 27, 28, 29, 30, 31, 32, 33, 34, 35, 36, 37, 38, 39, 40, 41, 42, 43, 44, 45, 46, 47, 48, 49, 50, 51, 52, 53, 54, 55, 56, 57, 58, 59, 60, 61, 62, 63, 64, 65, 66, 67, 68, 69, 70, 71, 72], [72])])
def algebra.B10 : List Nat := [0, 1, 3, 7, 15, 31, 63, 127, 255, 511, 1023, 2047, 4095, 8191, 16383, 32767, 65535, 131071, 262143, 524287, 1048575, 2097151, 4194303, 8388607, 8388607, 33554431, 67108863, 134217727, 268435455, 268435455, 1073741823, 2147483647, 4294967295, 8589934591, 8589934591, 34359738367, 68719476735, 137438953471, 274877906943, 274877906943, 1099511627775, 274877906943, 274877906943, 8796093022207, 17592186044415, 35184372088831, 70368744177663, 140737488355327, 140737488355327, 562949953421311, 140737488355327, 2251799813685247, 4503599627370495, 9007199254740991, 18014398509481983, 18014398509481983, 72057594037927935, 18014398509481983, 288230376151711743, 576460752303423487, 1152921504606846975, 2305843009213693951, 2305843009213693951, 9223372036854775807, 2305843009213693951, 36893488147419103231, 2305843009213693951, 2305843009213693951, 2305843009213693951, 516508834063867445247, 1180591620717411303423, 2361183241434822606847, 4722366482869645213695, 9444732965739290427391]
theorem algebra.tab10 : rtab .any (opsOf Try.f11 10) = algebra.T10 := by kernel_rfl
theorem algebra.bits10 : waitsOk algebra.T10.2 algebra.B10 = true := by kernel_rfl
def algebra.T6 : Bool × List (List Nat × List Nat) := (true, [([], []), ([], []), ([], []), ([1, 2], [1, 2]), ([0, 3, 3], [0, 3]), ([4], [4]), ([5], [5]), ([5], [5]), ([], []), ([8, 6, 4, 0, 1, 2, 3, 4, 5, 6, 8], [6, 8]), ([7, 9, 0, 1, 2, 3, 4, 5, 6, 7, 8, 9], [7])])
def algebra.B6 : List Nat := [0, 0, 0, 6, 15, 31, 63, 63, 0, 383, 1023]
theorem algebra.tab6 : rtab .any (opsOf Try.f11 6) = algebra.T6 := by kernel_rfl
theorem algebra.bits6 : waitsOk algebra.T6.2 algebra.B6 = true := by kernel_rfl
structure AlgebraF (k : Nat) (l0 l1 l2 : List Int) (a b c ab ba i x abc bc cba i' p q u bi v : List S56) : Prop where
  sane : soundservicelaw09_sane.f k = some true
  ma : soundservicelaw09_made.f k l0 = some a
  mb : soundservicelaw09_made.f k l1 = some b
  mc : soundservicelaw09_made.f k l2 = some c
  u_ab : intset_Union.f k a b = some (ab, 0)
  u_ba : intset_Union.f k b a = some (ba, 0)
  u_x : intset_Union.f k a i = some (x, 0)
  u_abc : intset_Union.f k ab c = some (abc, 0)
  u_bc : intset_Union.f k b c = some (bc, 0)
  u_cba : intset_Union.f k a bc = some (cba, 0)
  i_i : intset_Intersect.f k a b = some i
  i_i1 : intset_Intersect.f k b a = some i'
  i_p : intset_Intersect.f k a ab = some p
  i_q : intset_Intersect.f k a a = some q
  i_u : intset_Intersect.f k i c = some u
  i_bi : intset_Intersect.f k b c = some bi
  i_v : intset_Intersect.f k a bi = some v
  s_ab : soundserviceref09_Same.f k ab ba = some true
  s_x : soundserviceref09_Same.f k x a = some true
  s_abc : soundserviceref09_Same.f k abc cba = some true
  s_i : soundserviceref09_Same.f k i i' = some true
  s_p : soundserviceref09_Same.f k p a = some true
  s_q : soundserviceref09_Same.f k q a = some true
  s_u : soundserviceref09_Same.f k u v = some true
theorem held_keep9 {W6 W W' : World} {p1 p2 p3 p4 p5 p6 p7 p8 p9 : Addr} {v1 v2 v3 v4 v5 v6 v7 v8 v9 : Value} (hb : Below W.heap.size W W')
    (h : Below W6.heap.size W6 W ∧ W.cell? p1 = some v1 ∧ W.cell? p2 = some v2 ∧ W.cell? p3 = some v3 ∧ W.cell? p4 = some v4 ∧ W.cell? p5 = some v5 ∧ W.cell? p6 = some v6 ∧ W.cell? p7 = some v7 ∧ W.cell? p8 = some v8 ∧ W.cell? p9 = some v9) :
    Below W6.heap.size W6 W' ∧ W'.cell? p1 = some v1 ∧ W'.cell? p2 = some v2 ∧ W'.cell? p3 = some v3 ∧ W'.cell? p4 = some v4 ∧ W'.cell? p5 = some v5 ∧ W'.cell? p6 = some v6 ∧ W'.cell? p7 = some v7 ∧ W'.cell? p8 = some v8 ∧ W'.cell? p9 = some v9 := by
  obtain ⟨h0, h1, h2, h3, h4, h5, h6, h7, h8, h9⟩ := h
  exact ⟨below_then h0 h0.size hb, pw_cell_below hb h1, pw_cell_below hb h2, pw_cell_below hb h3, pw_cell_below hb h4, pw_cell_below hb h5, pw_cell_below hb h6, pw_cell_below hb h7, pw_cell_below hb h8, pw_cell_below hb h9⟩
set_option maxHeartbeats 8000000 in
set_option maxRecDepth 100000 in
theorem algebra_calls (k : Nat) (A0 : Option Addr) (c0 : Nat) (l0 : List Int) (A1 : Option Addr) (c1 : Nat) (l1 : List Int) (A2 : Option Addr) (c2 : Nat) (l2 : List Int) (a b c ab ba i x abc bc cba i' p q u bi v : List S56) (w : World)
    (hr0 : Kd.C (Kd.int .u8) w A0 l0.length l0) (hc0 : l0.length ≤ c0) (hr1 : Kd.C (Kd.int .u8) w A1 l1.length l1) (hc1 : l1.length ≤ c1) (hr2 : Kd.C (Kd.int .u8) w A2 l2.length l2) (hc2 : l2.length ≤ c2) (F : AlgebraF k l0 l1 l2 a b c ab ba i x abc bc cba i' p q u bi v) :
    Calls Try.prog 11 #[.slice A0 l0.length c0, .slice A1 l1.length c1, .slice A2 l2.length c2] w fun e w' => e = .returned (.bool true) ∧ Below w.heap.size w w' := by
  have HR0 := Aside0.mk hr0
  have HC0 := Aside0.mk hc0
  have HR1 := Aside0.mk hr1
  have HC1 := Aside0.mk hc1
  have HR2 := Aside0.mk hr2
  have HC2 := Aside0.mk hc2
  have HF := Aside0.mk F
  clear hr0 hc0 hr1 hc1 hr2 hc2 F
  have hu1 := Try.underlying42
  go_enter Try.func11, Try.ntmps11
  go_wp2_with fail
  refine (soundservicelaw09_sane.calls k true _ HF.out.sane).mono ?_
  rintro e w1 ⟨rfl, hb1⟩
  have E1 := Aside0.mk hb1
  clear hb1
  go_wp2_with fail
  refine (soundservicelaw09_made.calls k A0 c0 l0 a _ (Kd.C_below HR0.out E1.out) HC0.out HF.out.ma).mono ?_
  rintro e w2 ⟨v0, rfl, hR, hb1⟩
  obtain ⟨Aa, da, rfl⟩ := Kd.R_slice hR
  have Ra := Aside0.mk (R_zero hR)
  have E2 := Aside0.mk (below_then E1.out E1.out.size hb1)
  clear E1 hR hb1
  go_wp2_with fail
  refine (soundservicelaw09_made.calls k A1 c1 l1 b _ (Kd.C_below HR1.out E2.out) HC1.out HF.out.mb).mono ?_
  rintro e w3 ⟨v0, rfl, hR, hb1⟩
  obtain ⟨Ab, db, rfl⟩ := Kd.R_slice hR
  replace Ra := Aside0.mk (Kd.R_below Ra.out hb1)
  have Rb := Aside0.mk (R_zero hR)
  have E3 := Aside0.mk (below_then E2.out E2.out.size hb1)
  clear E2 hR hb1
  go_wp2_with fail
  refine (soundservicelaw09_made.calls k A2 c2 l2 c _ (Kd.C_below HR2.out E3.out) HC2.out HF.out.mc).mono ?_
  rintro e w4 ⟨v0, rfl, hR, hb1⟩
  obtain ⟨Ac, dc, rfl⟩ := Kd.R_slice hR
  replace Ra := Aside0.mk (Kd.R_below Ra.out hb1)
  replace Rb := Aside0.mk (Kd.R_below Rb.out hb1)
  have Rc := Aside0.mk (R_zero hR)
  have E4 := Aside0.mk (below_then E3.out E3.out.size hb1)
  clear E3 hR hb1
  go_wp2_with fail
  have Ba := Aside0.mk (((AtSet.made w4 Ra.out).alloc (.cells #[.slice Ab b.length db] 42)).alloc (.cells #[.slice Ac c.length dc] 42))
  have Bb : Aside0 (AtSet (((w4.alloc (.cells #[.slice Aa a.length da] 42)).alloc (.cells #[.slice Ab b.length db] 42)).alloc (.cells #[.slice Ac c.length dc] 42)) (w4.heap.size + 1) Ab db b) := Aside0.mk (by have h := (AtSet.made (w4.alloc (.cells #[.slice Aa a.length da] 42)) (Kd.R_alloc Rb.out _)).alloc (.cells #[.slice Ac c.length dc] 42); rwa [World.size_alloc] at h)
  have Bc : Aside0 (AtSet (((w4.alloc (.cells #[.slice Aa a.length da] 42)).alloc (.cells #[.slice Ab b.length db] 42)).alloc (.cells #[.slice Ac c.length dc] 42)) (w4.heap.size + 1 + 1) Ac dc c) := Aside0.mk (by have h := AtSet.made ((w4.alloc (.cells #[.slice Aa a.length da] 42)).alloc (.cells #[.slice Ab b.length db] 42)) (Kd.R_alloc (Kd.R_alloc Rc.out _) _); rwa [World.size_alloc, World.size_alloc] at h)
  have E5 := Aside0.mk (below_alloc (below_alloc (below_alloc E4.out (.cells #[.slice Aa a.length da] 42)) (.cells #[.slice Ab b.length db] 42)) (.cells #[.slice Ac c.length dc] 42))
  clear E4 Ra Rb Rc
  generalize (((w4.alloc (.cells #[.slice Aa a.length da] 42)).alloc (.cells #[.slice Ab b.length db] 42)).alloc (.cells #[.slice Ac c.length dc] 42)) = W5 at Ba Bb Bc E5 ⊢
  refine (intset_Union.calls k Aa da a Ab db b ab 0 _ Ba.out.row Ba.out.cap Bb.out.row Bb.out.cap HF.out.u_ab).mono ?_
  rintro e w6 ⟨v0, rfl, hR, hb1⟩
  obtain ⟨Aab, dab, rfl⟩ := Kd.R_slice hR
  replace Ba := Aside0.mk (Ba.out.below hb1)
  replace Bb := Aside0.mk (Bb.out.below hb1)
  replace Bc := Aside0.mk (Bc.out.below hb1)
  replace E5 := Aside0.mk (below_then E5.out E5.out.size hb1)
  have hb := Bb.out.cell
  have hlb := Bb.out.lt
  have ha := Ba.out.cell
  have hla := Ba.out.lt
  go_wp2_with fail
  clear hb hlb ha hla
  replace Ba := Aside0.mk (Ba.out.alloc (.cells #[.slice Aab ab.length dab] 42))
  replace Bb := Aside0.mk (Bb.out.alloc (.cells #[.slice Aab ab.length dab] 42))
  replace Bc := Aside0.mk (Bc.out.alloc (.cells #[.slice Aab ab.length dab] 42))
  have Bab := Aside0.mk (AtSet.made w6 (R_zero hR))
  replace E5 := Aside0.mk (below_alloc E5.out (.cells #[.slice Aab ab.length dab] 42))
  clear hR hb1
  generalize w6.alloc (.cells #[.slice Aab ab.length dab] 42) = W7 at Ba Bb Bc Bab E5 ⊢
  refine (intset_Union.calls k Ab db b Aa da a ba 0 _ Bb.out.row Bb.out.cap Ba.out.row Ba.out.cap HF.out.u_ba).mono ?_
  rintro e w8 ⟨v0, rfl, hR, hb1⟩
  obtain ⟨Aba, dba, rfl⟩ := Kd.R_slice hR
  replace Ba := Aside0.mk (Ba.out.below hb1)
  replace Bb := Aside0.mk (Bb.out.below hb1)
  replace Bc := Aside0.mk (Bc.out.below hb1)
  replace Bab := Aside0.mk (Bab.out.below hb1)
  replace E5 := Aside0.mk (below_then E5.out E5.out.size hb1)
  go_wp2_with fail
  replace Ba := Aside0.mk (Ba.out.alloc (.cells #[.slice Aba ba.length dba] 42))
  replace Bb := Aside0.mk (Bb.out.alloc (.cells #[.slice Aba ba.length dba] 42))
  replace Bc := Aside0.mk (Bc.out.alloc (.cells #[.slice Aba ba.length dba] 42))
  replace Bab := Aside0.mk (Bab.out.alloc (.cells #[.slice Aba ba.length dba] 42))
  have Bba := Aside0.mk (AtSet.made w8 (R_zero hR))
  replace E5 := Aside0.mk (below_alloc E5.out (.cells #[.slice Aba ba.length dba] 42))
  clear hR hb1
  generalize w8.alloc (.cells #[.slice Aba ba.length dba] 42) = W9 at Ba Bb Bc Bab Bba E5 ⊢
  have ha := Ba.out.cell
  have hla := Ba.out.lt
  have hb := Bb.out.cell
  have hlb := Bb.out.lt
  go_cut [14, 15] (fun s14 s15 W => ∃ gx Ax dx, s14 = .pointer (some ⟨gx, 0, none⟩) ∧ s15 = .int .i64 0 ∧ Aside0 (AtSet W gx Ax dx x) ∧ Aside0 (Below w.heap.size w W) ∧ Aside0 (AtSet W w4.heap.size Aa da a) ∧ Aside0 (AtSet W (w4.heap.size + 1) Ab db b) ∧ Aside0 (AtSet W (w4.heap.size + 1 + 1) Ac dc c) ∧ Aside0 (AtSet W w6.heap.size Aab dab ab) ∧ Aside0 (AtSet W w8.heap.size Aba dba ba))
  case first =>
    refine start_ (n := 11) (S := (fun W' => W'.cell? ⟨w4.heap.size, 0, none⟩ = some (.slice Aa a.length da) ∧ W'.cell? ⟨w4.heap.size + 1, 0, none⟩ = some (.slice Ab b.length db))) (ds := []) #[false, false, false, false, false, false, false, false, false, false, false] (by kernel_rfl) rfl rfl (And.intro Ba.out.drew.cell Bb.out.drew.cell) (fun hHeld => ?_)
    refine with_tabW algebra.tab6 algebra.bits6 (fun HT_ HW_ => ?_)
    replace Ba := Aside0.mk Ba.out.drew
    replace Bb := Aside0.mk Bb.out.drew
    replace Bc := Aside0.mk Bc.out.drew
    replace Bab := Aside0.mk Bab.out.drew
    replace Bba := Aside0.mk Bba.out.drew
    replace E5 := Aside0.mk (below_drew E5.out)
    clear ha hb hla hlb
    generalize W9.drew = WR at hHeld Ba Bb Bc Bab Bba E5 ⊢
    refine take_ (i := 0) (N := (some 43)) (v := ?_) (a' := ?_) #[true, false, false, false, false, false, false, false, false, false, false] rfl rfl (take_ofW HT_.out HW_.out (by kernel_rfl)) (fun _ _ _ h => h) (Or.inl ⟨by rfl, ?_⟩) hHeld ?_ ?_
    rotate_left
    · rintro w' ⟨s_, s0⟩
      go_simp
      first | done | with_reducible rfl
    rotate_left
    · simp only [Act.put, List.setIfInBounds_toArray, List.set_cons_zero, List.set_cons_succ, i64_w, i32_w]
      rfl
    refine take_ (i := 1) (N := (some 44)) (v := ?_) (a' := ?_) #[true, true, false, false, false, false, false, false, false, false, false] rfl rfl (take_ofW HT_.out HW_.out (by kernel_rfl)) (fun _ _ _ h => h) (Or.inl ⟨by rfl, ?_⟩) hHeld ?_ ?_
    rotate_left
    · rintro w' ⟨s_, s0⟩
      go_simp
      first | done | with_reducible rfl
    rotate_left
    · simp only [Act.put, List.setIfInBounds_toArray, List.set_cons_zero, List.set_cons_succ, i64_w, i32_w]
      rfl
    refine take_ (i := 2) (N := (some 45)) (v := ?_) (a' := ?_) #[true, true, true, false, false, false, false, false, false, false, false] rfl rfl (take_ofW HT_.out HW_.out (by kernel_rfl)) (fun _ _ _ h => h) (Or.inl ⟨by rfl, ?_⟩) hHeld ?_ ?_
    rotate_left
    · rintro w' ⟨s_, s0⟩
      go_simp
      first | done | with_reducible rfl
    rotate_left
    · simp only [Act.put, List.setIfInBounds_toArray, List.set_cons_zero, List.set_cons_succ, i64_w, i32_w]
      rfl
    refine two_ (i := 3) (j := 8) (Ni := (some 46)) (Nj := (some 14)) #[true, true, true, true, false, false, false, false, false, false, false] #[true, true, true, false, false, false, false, false, true, false, false] rfl rfl rfl rfl (two_of HT_.out (by kernel_rfl)) (by decide) (by decide) (fun K hK => ?_) (fun K hK => ?_)
    · refine goes_ Try.func51 (by kernel_rfl) rfl #[.agg #[.slice Aa a.length da], .agg #[.slice Ab b.length db]] (by rfl) rfl rfl (by (try simp only [List.map_toArray, List.map_cons, List.map_nil]); first | done | rfl) ?_
      refine (intset_Intersect.calls k Aa da a Ab db b i _ Ba.out.row Ba.out.cap Bb.out.row Bb.out.cap HF.out.i_i).mono ?_
      rintro e w20 ⟨v0, rfl, hR, hb1⟩
      obtain ⟨Ai, di, rfl⟩ := Kd.R_slice hR
      have Ri := Aside0.mk (R_zero hR)
      replace Ba := Aside0.mk (Ba.out.below hb1)
      replace Bb := Aside0.mk (Bb.out.below hb1)
      replace Bc := Aside0.mk (Bc.out.below hb1)
      replace Bab := Aside0.mk (Bab.out.below hb1)
      replace Bba := Aside0.mk (Bba.out.below hb1)
      replace E5 := Aside0.mk (below_then E5.out E5.out.size hb1)
      (first | replace KX := Aside0.mk (blk_below KX.out hb1) | skip)
      have hS_ := And.intro Ba.out.cell Bb.out.cell
      clear hR hb1
      refine ⟨_, rfl, ?_⟩
      refine hK.out _ _ hS_ (fun hHeld => ?_)
      clear hK K hS_
      refine norm_ (a' := ?_) ?_ ?_
      rotate_left
      · show Act.put _ (some 46) _ = _
        simp only [Act.put, List.setIfInBounds_toArray, List.set_cons_zero, List.set_cons_succ, i64_w, i32_w]
        rfl
      refine two_ (i := 4) (j := 8) (Ni := (some 47)) (Nj := (some 14)) #[true, true, true, true, true, false, false, false, false, false, false] #[true, true, true, true, false, false, false, false, true, false, false] rfl rfl rfl rfl (two_of HT_.out (by kernel_rfl)) (by decide) (by decide) (fun K hK => ?_) (fun K hK => ?_)
      · refine goes_ Try.func50 (by kernel_rfl) rfl #[.agg #[.slice Aa a.length da], .agg #[.slice Ai i.length di]] (by rfl) rfl rfl (by (try simp only [List.map_toArray, List.map_cons, List.map_nil]); first | done | rfl) ?_
        refine (intset_Union.calls k Aa da a Ai di i x 0 _ Ba.out.row Ba.out.cap (Kd.R_reads' Ri.out).2.2 (Kd.R_reads' Ri.out).2.1 HF.out.u_x).mono ?_
        rintro e w21 ⟨v0, rfl, hR, hb1⟩
        obtain ⟨Ax, dx, rfl⟩ := Kd.R_slice hR
        have Rx := Aside0.mk (R_zero hR)
        clear Ri
        replace Ba := Aside0.mk (Ba.out.below hb1)
        replace Bb := Aside0.mk (Bb.out.below hb1)
        replace Bc := Aside0.mk (Bc.out.below hb1)
        replace Bab := Aside0.mk (Bab.out.below hb1)
        replace Bba := Aside0.mk (Bba.out.below hb1)
        replace E5 := Aside0.mk (below_then E5.out E5.out.size hb1)
        (first | replace KX := Aside0.mk (blk_below KX.out hb1) | skip)
        have hS_ := And.intro Ba.out.cell Bb.out.cell
        clear hR hb1
        refine ⟨_, rfl, ?_⟩
        refine hK.out _ _ hS_ (fun hHeld => ?_)
        clear hK K hS_
        refine norm_ (a' := ?_) ?_ ?_
        rotate_left
        · show Act.put _ (some 47) _ = _
          simp only [Act.put, List.setIfInBounds_toArray, List.set_cons_zero, List.set_cons_succ, i64_w, i32_w]
          rfl
        refine pure_ (i := 5) (N := (some 42)) (v := ?_) (a' := ?_) #[true, true, true, true, true, true, false, false, false, false, false] rfl rfl (any_of HT_.out (by kernel_rfl)) (fun _ _ _ h => h) (Or.inl ⟨by rfl, ?_⟩) ?_ ?_
        rotate_left
        · intro w'
          go_simp
          first | done | with_reducible rfl
        rotate_left
        · simp only [Act.put, List.setIfInBounds_toArray, List.set_cons_zero, List.set_cons_succ, i64_w, i32_w]
          rfl
        refine pure_ (i := 6) (N := (some 48)) (v := ?_) (a' := ?_) #[true, true, true, true, true, true, true, false, false, false, false] rfl rfl (any_of HT_.out (by kernel_rfl)) (fun _ _ _ h => h) (Or.inl ⟨by rfl, ?_⟩) ?_ ?_
        rotate_left
        · intro w'
          go_simp
          first | done | with_reducible rfl
        rotate_left
        · simp only [Act.put, List.setIfInBounds_toArray, List.set_cons_zero, List.set_cons_succ, i64_w, i32_w]
          rfl
        refine pure_ (i := 7) (N := (some 49)) (v := ?_) (a' := ?_) #[true, true, true, true, true, true, true, true, false, false, false] rfl rfl (any_of HT_.out (by kernel_rfl)) (fun _ _ _ h => h) (Or.inl ⟨by rfl, ?_⟩) ?_ ?_
        rotate_left
        · intro w'
          go_simp
          first | done | with_reducible rfl
        rotate_left
        · simp only [Act.put, List.setIfInBounds_toArray, List.set_cons_zero, List.set_cons_succ, i64_w, i32_w]
          rfl
        refine one_ (i := 8) (N := (some 14)) #[true, true, true, true, true, true, true, true, true, false, false] rfl rfl (one_of HT_.out (by kernel_rfl)) (by decide) (fun K hK => ?_)
        refine box_step ?hg (N := 14) ?hd (cs := #[.slice none 0 0]) (t := 42) ?hr ?_; (case hd => rfl); (case hg => rfl); (case hr => first | (go_simp; done) | (go_simp; rfl))
        intro gx hg w40 hbox hb1
        have GX := Aside0.mk (show w.heap.size ≤ gx from by rw [hg]; exact E5.out.size)
        have Na := Aside0.mk (show w4.heap.size ≠ gx from by rw [hg]; exact Nat.ne_of_lt Ba.out.lt)
        have Nb := Aside0.mk (show (w4.heap.size + 1) ≠ gx from by rw [hg]; exact Nat.ne_of_lt Bb.out.lt)
        have Nc := Aside0.mk (show (w4.heap.size + 1 + 1) ≠ gx from by rw [hg]; exact Nat.ne_of_lt Bc.out.lt)
        have Nab := Aside0.mk (show w6.heap.size ≠ gx from by rw [hg]; exact Nat.ne_of_lt Bab.out.lt)
        have Nba := Aside0.mk (show w8.heap.size ≠ gx from by rw [hg]; exact Nat.ne_of_lt Bba.out.lt)
        clear hg
        have KX := Aside0.mk hbox
        replace Ba := Aside0.mk (Ba.out.below hb1)
        replace Bb := Aside0.mk (Bb.out.below hb1)
        replace Bc := Aside0.mk (Bc.out.below hb1)
        replace Bab := Aside0.mk (Bab.out.below hb1)
        replace Bba := Aside0.mk (Bba.out.below hb1)
        replace E5 := Aside0.mk (below_then E5.out E5.out.size hb1)
        (first | replace Ri := Aside0.mk (Kd.R_below Ri.out hb1) | skip)
        (first | replace Rx := Aside0.mk (Kd.R_below Rx.out hb1) | skip)
        have hS_ := And.intro Ba.out.cell Bb.out.cell
        clear hbox hb1
        refine hK.out _ _ hS_ (fun hHeld => ?_)
        clear hK K hS_
        refine norm_ (a' := ?_) ?_ ?_
        rotate_left
        · show Act.put _ (some 14) _ = _
          simp only [Act.put, List.setIfInBounds_toArray, List.set_cons_zero, List.set_cons_succ, i64_w, i32_w]
          rfl
        refine one_ (i := 9) (N := none) #[true, true, true, true, true, true, true, true, true, true, false] rfl rfl (one_of HT_.out (by kernel_rfl)) (by decide) (fun K hK => ?_)
        have hcx := (blk_cell KX.out 0).trans rfl
        have hzx := blk_frozen KX.out 0
        refine skip_ (w1 := ?_) (by rfl) rfl ?_ ?_
        rotate_left
        · go_simp
          rfl
        clear hcx hzx
        have Bx := Aside0.mk (AtSet.laid KX.out Rx.out)
        replace Ba := Aside0.mk (Ba.out.store KX.out Na.out (.slice Ax x.length dx))
        replace Bb := Aside0.mk (Bb.out.store KX.out Nb.out (.slice Ax x.length dx))
        replace Bc := Aside0.mk (Bc.out.store KX.out Nc.out (.slice Ax x.length dx))
        replace Bab := Aside0.mk (Bab.out.store KX.out Nab.out (.slice Ax x.length dx))
        replace Bba := Aside0.mk (Bba.out.store KX.out Nba.out (.slice Ax x.length dx))
        replace E5 := Aside0.mk (below_set (j := 0) (v := .slice Ax x.length dx) E5.out GX.out)
        have hS_ := And.intro Ba.out.cell Bb.out.cell
        refine hK.out _ _ hS_ (fun hHeld => ?_)
        clear hK K hS_
        refine pure_ (i := 10) (N := (some 15)) (v := ?_) (a' := ?_) #[true, true, true, true, true, true, true, true, true, true, true] rfl rfl (any_of HT_.out (by kernel_rfl)) (fun _ _ _ h => h) (Or.inl ⟨by rfl, ?_⟩) ?_ ?_
        rotate_left
        · intro w'
          go_simp
          first | done | with_reducible rfl
        rotate_left
        · simp only [Act.put, List.setIfInBounds_toArray, List.set_cons_zero, List.set_cons_succ, i64_w, i32_w]
          rfl
        refine done_ (done_of HT_.out (by kernel_rfl)) ?_
        go_wp2_with fail
        go_meet
        exact ⟨_, _, _, rfl, rfl, Bx, E5, Ba, Bb, Bc, Bab, Bba⟩
      · refine box_step ?hg (N := 14) ?hd (cs := #[.slice none 0 0]) (t := 42) ?hr ?_; (case hd => rfl); (case hg => rfl); (case hr => first | (go_simp; done) | (go_simp; rfl))
        intro gx hg w40 hbox hb1
        have GX := Aside0.mk (show w.heap.size ≤ gx from by rw [hg]; exact E5.out.size)
        have Na := Aside0.mk (show w4.heap.size ≠ gx from by rw [hg]; exact Nat.ne_of_lt Ba.out.lt)
        have Nb := Aside0.mk (show (w4.heap.size + 1) ≠ gx from by rw [hg]; exact Nat.ne_of_lt Bb.out.lt)
        have Nc := Aside0.mk (show (w4.heap.size + 1 + 1) ≠ gx from by rw [hg]; exact Nat.ne_of_lt Bc.out.lt)
        have Nab := Aside0.mk (show w6.heap.size ≠ gx from by rw [hg]; exact Nat.ne_of_lt Bab.out.lt)
        have Nba := Aside0.mk (show w8.heap.size ≠ gx from by rw [hg]; exact Nat.ne_of_lt Bba.out.lt)
        clear hg
        have KX := Aside0.mk hbox
        replace Ba := Aside0.mk (Ba.out.below hb1)
        replace Bb := Aside0.mk (Bb.out.below hb1)
        replace Bc := Aside0.mk (Bc.out.below hb1)
        replace Bab := Aside0.mk (Bab.out.below hb1)
        replace Bba := Aside0.mk (Bba.out.below hb1)
        replace E5 := Aside0.mk (below_then E5.out E5.out.size hb1)
        (first | replace Ri := Aside0.mk (Kd.R_below Ri.out hb1) | skip)
        (first | replace Rx := Aside0.mk (Kd.R_below Rx.out hb1) | skip)
        have hS_ := And.intro Ba.out.cell Bb.out.cell
        clear hbox hb1
        refine hK.out _ _ hS_ (fun hHeld => ?_)
        clear hK K hS_
        refine norm_ (a' := ?_) ?_ ?_
        rotate_left
        · show Act.put _ (some 14) _ = _
          simp only [Act.put, List.setIfInBounds_toArray, List.set_cons_zero, List.set_cons_succ, i64_w, i32_w]
          rfl
        refine one_ (i := 4) (N := (some 47)) #[true, true, true, true, true, false, false, false, true, false, false] rfl rfl (one_of HT_.out (by kernel_rfl)) (by decide) (fun K hK => ?_)
        refine goes_ Try.func50 (by kernel_rfl) rfl #[.agg #[.slice Aa a.length da], .agg #[.slice Ai i.length di]] (by rfl) rfl rfl (by (try simp only [List.map_toArray, List.map_cons, List.map_nil]); first | done | rfl) ?_
        refine (intset_Union.calls k Aa da a Ai di i x 0 _ Ba.out.row Ba.out.cap (Kd.R_reads' Ri.out).2.2 (Kd.R_reads' Ri.out).2.1 HF.out.u_x).mono ?_
        rintro e w21 ⟨v0, rfl, hR, hb1⟩
        obtain ⟨Ax, dx, rfl⟩ := Kd.R_slice hR
        have Rx := Aside0.mk (R_zero hR)
        clear Ri
        replace Ba := Aside0.mk (Ba.out.below hb1)
        replace Bb := Aside0.mk (Bb.out.below hb1)
        replace Bc := Aside0.mk (Bc.out.below hb1)
        replace Bab := Aside0.mk (Bab.out.below hb1)
        replace Bba := Aside0.mk (Bba.out.below hb1)
        replace E5 := Aside0.mk (below_then E5.out E5.out.size hb1)
        (first | replace KX := Aside0.mk (blk_below KX.out hb1) | skip)
        have hS_ := And.intro Ba.out.cell Bb.out.cell
        clear hR hb1
        refine ⟨_, rfl, ?_⟩
        refine hK.out _ _ hS_ (fun hHeld => ?_)
        clear hK K hS_
        refine norm_ (a' := ?_) ?_ ?_
        rotate_left
        · show Act.put _ (some 47) _ = _
          simp only [Act.put, List.setIfInBounds_toArray, List.set_cons_zero, List.set_cons_succ, i64_w, i32_w]
          rfl
        refine pure_ (i := 5) (N := (some 42)) (v := ?_) (a' := ?_) #[true, true, true, true, true, true, false, false, true, false, false] rfl rfl (any_of HT_.out (by kernel_rfl)) (fun _ _ _ h => h) (Or.inl ⟨by rfl, ?_⟩) ?_ ?_
        rotate_left
        · intro w'
          go_simp
          first | done | with_reducible rfl
        rotate_left
        · simp only [Act.put, List.setIfInBounds_toArray, List.set_cons_zero, List.set_cons_succ, i64_w, i32_w]
          rfl
        refine pure_ (i := 6) (N := (some 48)) (v := ?_) (a' := ?_) #[true, true, true, true, true, true, true, false, true, false, false] rfl rfl (any_of HT_.out (by kernel_rfl)) (fun _ _ _ h => h) (Or.inl ⟨by rfl, ?_⟩) ?_ ?_
        rotate_left
        · intro w'
          go_simp
          first | done | with_reducible rfl
        rotate_left
        · simp only [Act.put, List.setIfInBounds_toArray, List.set_cons_zero, List.set_cons_succ, i64_w, i32_w]
          rfl
        refine pure_ (i := 7) (N := (some 49)) (v := ?_) (a' := ?_) #[true, true, true, true, true, true, true, true, true, false, false] rfl rfl (any_of HT_.out (by kernel_rfl)) (fun _ _ _ h => h) (Or.inl ⟨by rfl, ?_⟩) ?_ ?_
        rotate_left
        · intro w'
          go_simp
          first | done | with_reducible rfl
        rotate_left
        · simp only [Act.put, List.setIfInBounds_toArray, List.set_cons_zero, List.set_cons_succ, i64_w, i32_w]
          rfl
        refine one_ (i := 9) (N := none) #[true, true, true, true, true, true, true, true, true, true, false] rfl rfl (one_of HT_.out (by kernel_rfl)) (by decide) (fun K hK => ?_)
        have hcx := (blk_cell KX.out 0).trans rfl
        have hzx := blk_frozen KX.out 0
        refine skip_ (w1 := ?_) (by rfl) rfl ?_ ?_
        rotate_left
        · go_simp
          rfl
        clear hcx hzx
        have Bx := Aside0.mk (AtSet.laid KX.out Rx.out)
        replace Ba := Aside0.mk (Ba.out.store KX.out Na.out (.slice Ax x.length dx))
        replace Bb := Aside0.mk (Bb.out.store KX.out Nb.out (.slice Ax x.length dx))
        replace Bc := Aside0.mk (Bc.out.store KX.out Nc.out (.slice Ax x.length dx))
        replace Bab := Aside0.mk (Bab.out.store KX.out Nab.out (.slice Ax x.length dx))
        replace Bba := Aside0.mk (Bba.out.store KX.out Nba.out (.slice Ax x.length dx))
        replace E5 := Aside0.mk (below_set (j := 0) (v := .slice Ax x.length dx) E5.out GX.out)
        have hS_ := And.intro Ba.out.cell Bb.out.cell
        refine hK.out _ _ hS_ (fun hHeld => ?_)
        clear hK K hS_
        refine pure_ (i := 10) (N := (some 15)) (v := ?_) (a' := ?_) #[true, true, true, true, true, true, true, true, true, true, true] rfl rfl (any_of HT_.out (by kernel_rfl)) (fun _ _ _ h => h) (Or.inl ⟨by rfl, ?_⟩) ?_ ?_
        rotate_left
        · intro w'
          go_simp
          first | done | with_reducible rfl
        rotate_left
        · simp only [Act.put, List.setIfInBounds_toArray, List.set_cons_zero, List.set_cons_succ, i64_w, i32_w]
          rfl
        refine done_ (done_of HT_.out (by kernel_rfl)) ?_
        go_wp2_with fail
        go_meet
        exact ⟨_, _, _, rfl, rfl, Bx, E5, Ba, Bb, Bc, Bab, Bba⟩
    · refine box_step ?hg (N := 14) ?hd (cs := #[.slice none 0 0]) (t := 42) ?hr ?_; (case hd => rfl); (case hg => rfl); (case hr => first | (go_simp; done) | (go_simp; rfl))
      intro gx hg w40 hbox hb1
      have GX := Aside0.mk (show w.heap.size ≤ gx from by rw [hg]; exact E5.out.size)
      have Na := Aside0.mk (show w4.heap.size ≠ gx from by rw [hg]; exact Nat.ne_of_lt Ba.out.lt)
      have Nb := Aside0.mk (show (w4.heap.size + 1) ≠ gx from by rw [hg]; exact Nat.ne_of_lt Bb.out.lt)
      have Nc := Aside0.mk (show (w4.heap.size + 1 + 1) ≠ gx from by rw [hg]; exact Nat.ne_of_lt Bc.out.lt)
      have Nab := Aside0.mk (show w6.heap.size ≠ gx from by rw [hg]; exact Nat.ne_of_lt Bab.out.lt)
      have Nba := Aside0.mk (show w8.heap.size ≠ gx from by rw [hg]; exact Nat.ne_of_lt Bba.out.lt)
      clear hg
      have KX := Aside0.mk hbox
      replace Ba := Aside0.mk (Ba.out.below hb1)
      replace Bb := Aside0.mk (Bb.out.below hb1)
      replace Bc := Aside0.mk (Bc.out.below hb1)
      replace Bab := Aside0.mk (Bab.out.below hb1)
      replace Bba := Aside0.mk (Bba.out.below hb1)
      replace E5 := Aside0.mk (below_then E5.out E5.out.size hb1)
      (first | replace Ri := Aside0.mk (Kd.R_below Ri.out hb1) | skip)
      (first | replace Rx := Aside0.mk (Kd.R_below Rx.out hb1) | skip)
      have hS_ := And.intro Ba.out.cell Bb.out.cell
      clear hbox hb1
      refine hK.out _ _ hS_ (fun hHeld => ?_)
      clear hK K hS_
      refine norm_ (a' := ?_) ?_ ?_
      rotate_left
      · show Act.put _ (some 14) _ = _
        simp only [Act.put, List.setIfInBounds_toArray, List.set_cons_zero, List.set_cons_succ, i64_w, i32_w]
        rfl
      refine one_ (i := 3) (N := (some 46)) #[true, true, true, true, false, false, false, false, true, false, false] rfl rfl (one_of HT_.out (by kernel_rfl)) (by decide) (fun K hK => ?_)
      refine goes_ Try.func51 (by kernel_rfl) rfl #[.agg #[.slice Aa a.length da], .agg #[.slice Ab b.length db]] (by rfl) rfl rfl (by (try simp only [List.map_toArray, List.map_cons, List.map_nil]); first | done | rfl) ?_
      refine (intset_Intersect.calls k Aa da a Ab db b i _ Ba.out.row Ba.out.cap Bb.out.row Bb.out.cap HF.out.i_i).mono ?_
      rintro e w20 ⟨v0, rfl, hR, hb1⟩
      obtain ⟨Ai, di, rfl⟩ := Kd.R_slice hR
      have Ri := Aside0.mk (R_zero hR)
      replace Ba := Aside0.mk (Ba.out.below hb1)
      replace Bb := Aside0.mk (Bb.out.below hb1)
      replace Bc := Aside0.mk (Bc.out.below hb1)
      replace Bab := Aside0.mk (Bab.out.below hb1)
      replace Bba := Aside0.mk (Bba.out.below hb1)
      replace E5 := Aside0.mk (below_then E5.out E5.out.size hb1)
      (first | replace KX := Aside0.mk (blk_below KX.out hb1) | skip)
      have hS_ := And.intro Ba.out.cell Bb.out.cell
      clear hR hb1
      refine ⟨_, rfl, ?_⟩
      refine hK.out _ _ hS_ (fun hHeld => ?_)
      clear hK K hS_
      refine norm_ (a' := ?_) ?_ ?_
      rotate_left
      · show Act.put _ (some 46) _ = _
        simp only [Act.put, List.setIfInBounds_toArray, List.set_cons_zero, List.set_cons_succ, i64_w, i32_w]
        rfl
      refine one_ (i := 4) (N := (some 47)) #[true, true, true, true, true, false, false, false, true, false, false] rfl rfl (one_of HT_.out (by kernel_rfl)) (by decide) (fun K hK => ?_)
      refine goes_ Try.func50 (by kernel_rfl) rfl #[.agg #[.slice Aa a.length da], .agg #[.slice Ai i.length di]] (by rfl) rfl rfl (by (try simp only [List.map_toArray, List.map_cons, List.map_nil]); first | done | rfl) ?_
      refine (intset_Union.calls k Aa da a Ai di i x 0 _ Ba.out.row Ba.out.cap (Kd.R_reads' Ri.out).2.2 (Kd.R_reads' Ri.out).2.1 HF.out.u_x).mono ?_
      rintro e w21 ⟨v0, rfl, hR, hb1⟩
      obtain ⟨Ax, dx, rfl⟩ := Kd.R_slice hR
      have Rx := Aside0.mk (R_zero hR)
      clear Ri
      replace Ba := Aside0.mk (Ba.out.below hb1)
      replace Bb := Aside0.mk (Bb.out.below hb1)
      replace Bc := Aside0.mk (Bc.out.below hb1)
      replace Bab := Aside0.mk (Bab.out.below hb1)
      replace Bba := Aside0.mk (Bba.out.below hb1)
      replace E5 := Aside0.mk (below_then E5.out E5.out.size hb1)
      (first | replace KX := Aside0.mk (blk_below KX.out hb1) | skip)
      have hS_ := And.intro Ba.out.cell Bb.out.cell
      clear hR hb1
      refine ⟨_, rfl, ?_⟩
      refine hK.out _ _ hS_ (fun hHeld => ?_)
      clear hK K hS_
      refine norm_ (a' := ?_) ?_ ?_
      rotate_left
      · show Act.put _ (some 47) _ = _
        simp only [Act.put, List.setIfInBounds_toArray, List.set_cons_zero, List.set_cons_succ, i64_w, i32_w]
        rfl
      refine pure_ (i := 5) (N := (some 42)) (v := ?_) (a' := ?_) #[true, true, true, true, true, true, false, false, true, false, false] rfl rfl (any_of HT_.out (by kernel_rfl)) (fun _ _ _ h => h) (Or.inl ⟨by rfl, ?_⟩) ?_ ?_
      rotate_left
      · intro w'
        go_simp
        first | done | with_reducible rfl
      rotate_left
      · simp only [Act.put, List.setIfInBounds_toArray, List.set_cons_zero, List.set_cons_succ, i64_w, i32_w]
        rfl
      refine pure_ (i := 6) (N := (some 48)) (v := ?_) (a' := ?_) #[true, true, true, true, true, true, true, false, true, false, false] rfl rfl (any_of HT_.out (by kernel_rfl)) (fun _ _ _ h => h) (Or.inl ⟨by rfl, ?_⟩) ?_ ?_
      rotate_left
      · intro w'
        go_simp
        first | done | with_reducible rfl
      rotate_left
      · simp only [Act.put, List.setIfInBounds_toArray, List.set_cons_zero, List.set_cons_succ, i64_w, i32_w]
        rfl
      refine pure_ (i := 7) (N := (some 49)) (v := ?_) (a' := ?_) #[true, true, true, true, true, true, true, true, true, false, false] rfl rfl (any_of HT_.out (by kernel_rfl)) (fun _ _ _ h => h) (Or.inl ⟨by rfl, ?_⟩) ?_ ?_
      rotate_left
      · intro w'
        go_simp
        first | done | with_reducible rfl
      rotate_left
      · simp only [Act.put, List.setIfInBounds_toArray, List.set_cons_zero, List.set_cons_succ, i64_w, i32_w]
        rfl
      refine one_ (i := 9) (N := none) #[true, true, true, true, true, true, true, true, true, true, false] rfl rfl (one_of HT_.out (by kernel_rfl)) (by decide) (fun K hK => ?_)
      have hcx := (blk_cell KX.out 0).trans rfl
      have hzx := blk_frozen KX.out 0
      refine skip_ (w1 := ?_) (by rfl) rfl ?_ ?_
      rotate_left
      · go_simp
        rfl
      clear hcx hzx
      have Bx := Aside0.mk (AtSet.laid KX.out Rx.out)
      replace Ba := Aside0.mk (Ba.out.store KX.out Na.out (.slice Ax x.length dx))
      replace Bb := Aside0.mk (Bb.out.store KX.out Nb.out (.slice Ax x.length dx))
      replace Bc := Aside0.mk (Bc.out.store KX.out Nc.out (.slice Ax x.length dx))
      replace Bab := Aside0.mk (Bab.out.store KX.out Nab.out (.slice Ax x.length dx))
      replace Bba := Aside0.mk (Bba.out.store KX.out Nba.out (.slice Ax x.length dx))
      replace E5 := Aside0.mk (below_set (j := 0) (v := .slice Ax x.length dx) E5.out GX.out)
      have hS_ := And.intro Ba.out.cell Bb.out.cell
      refine hK.out _ _ hS_ (fun hHeld => ?_)
      clear hK K hS_
      refine pure_ (i := 10) (N := (some 15)) (v := ?_) (a' := ?_) #[true, true, true, true, true, true, true, true, true, true, true] rfl rfl (any_of HT_.out (by kernel_rfl)) (fun _ _ _ h => h) (Or.inl ⟨by rfl, ?_⟩) ?_ ?_
      rotate_left
      · intro w'
        go_simp
        first | done | with_reducible rfl
      rotate_left
      · simp only [Act.put, List.setIfInBounds_toArray, List.set_cons_zero, List.set_cons_succ, i64_w, i32_w]
        rfl
      refine done_ (done_of HT_.out (by kernel_rfl)) ?_
      go_wp2_with fail
      go_meet
      exact ⟨_, _, _, rfl, rfl, Bx, E5, Ba, Bb, Bc, Bab, Bba⟩
  case rest =>
    clear E5 ha hb hla hlb Ba Bb Bc Bab Bba
    obtain ⟨gx, Ax, dx, rfl, rfl, Bx, E5, Ba, Bb, Bc, Bab, Bba⟩ := hcut
    have hab := Bab.out.cell
    have hc := Bc.out.cell
    go_wp2_with fail
    clear hab hc
    refine (intset_Union.calls k Aab dab ab Ac dc c abc 0 _ Bab.out.row Bab.out.cap Bc.out.row Bc.out.cap HF.out.u_abc).mono ?_
    rintro e w10 ⟨v0, rfl, hR, hb1⟩
    obtain ⟨Aabc, dabc, rfl⟩ := Kd.R_slice hR
    replace Ba := Aside0.mk (Ba.out.below hb1)
    replace Bb := Aside0.mk (Bb.out.below hb1)
    replace Bc := Aside0.mk (Bc.out.below hb1)
    replace Bab := Aside0.mk (Bab.out.below hb1)
    replace Bba := Aside0.mk (Bba.out.below hb1)
    replace Bx := Aside0.mk (Bx.out.below hb1)
    replace E5 := Aside0.mk (below_then E5.out E5.out.size hb1)
    have hb := Bb.out.cell
    have hlb := Bb.out.lt
    have hc := Bc.out.cell
    have hlc := Bc.out.lt
    go_wp2_with fail
    clear hb hlb hc hlc
    replace Ba := Aside0.mk (Ba.out.alloc (.cells #[.slice Aabc abc.length dabc] 42))
    replace Bb := Aside0.mk (Bb.out.alloc (.cells #[.slice Aabc abc.length dabc] 42))
    replace Bc := Aside0.mk (Bc.out.alloc (.cells #[.slice Aabc abc.length dabc] 42))
    replace Bab := Aside0.mk (Bab.out.alloc (.cells #[.slice Aabc abc.length dabc] 42))
    replace Bba := Aside0.mk (Bba.out.alloc (.cells #[.slice Aabc abc.length dabc] 42))
    replace Bx := Aside0.mk (Bx.out.alloc (.cells #[.slice Aabc abc.length dabc] 42))
    have Babc := Aside0.mk (AtSet.made w10 (R_zero hR))
    replace E5 := Aside0.mk (below_alloc E5.out (.cells #[.slice Aabc abc.length dabc] 42))
    clear hR hb1
    generalize w10.alloc (.cells #[.slice Aabc abc.length dabc] 42) = W11 at Ba Bb Bc Bab Bba Bx Babc E5 ⊢
    refine (intset_Union.calls k Ab db b Ac dc c bc 0 _ Bb.out.row Bb.out.cap Bc.out.row Bc.out.cap HF.out.u_bc).mono ?_
    rintro e w12 ⟨v0, rfl, hR, hb1⟩
    obtain ⟨Abc, dbc, rfl⟩ := Kd.R_slice hR
    replace Ba := Aside0.mk (Ba.out.below hb1)
    replace Bb := Aside0.mk (Bb.out.below hb1)
    replace Bc := Aside0.mk (Bc.out.below hb1)
    replace Bab := Aside0.mk (Bab.out.below hb1)
    replace Bba := Aside0.mk (Bba.out.below hb1)
    replace Bx := Aside0.mk (Bx.out.below hb1)
    replace Babc := Aside0.mk (Babc.out.below hb1)
    replace E5 := Aside0.mk (below_then E5.out E5.out.size hb1)
    have ha := Ba.out.cell
    have hla := Ba.out.lt
    go_wp2_with fail
    clear ha hla
    replace Ba := Aside0.mk (Ba.out.alloc (.cells #[.slice Abc bc.length dbc] 42))
    replace Bb := Aside0.mk (Bb.out.alloc (.cells #[.slice Abc bc.length dbc] 42))
    replace Bc := Aside0.mk (Bc.out.alloc (.cells #[.slice Abc bc.length dbc] 42))
    replace Bab := Aside0.mk (Bab.out.alloc (.cells #[.slice Abc bc.length dbc] 42))
    replace Bba := Aside0.mk (Bba.out.alloc (.cells #[.slice Abc bc.length dbc] 42))
    replace Bx := Aside0.mk (Bx.out.alloc (.cells #[.slice Abc bc.length dbc] 42))
    replace Babc := Aside0.mk (Babc.out.alloc (.cells #[.slice Abc bc.length dbc] 42))
    have Bbc := Aside0.mk (AtSet.made w12 (R_zero hR))
    replace E5 := Aside0.mk (below_alloc E5.out (.cells #[.slice Abc bc.length dbc] 42))
    clear hR hb1
    generalize w12.alloc (.cells #[.slice Abc bc.length dbc] 42) = W13 at Ba Bb Bc Bab Bba Bx Babc Bbc E5 ⊢
    refine (intset_Union.calls k Aa da a Abc dbc bc cba 0 _ Ba.out.row Ba.out.cap Bbc.out.row Bbc.out.cap HF.out.u_cba).mono ?_
    rintro e w14 ⟨v0, rfl, hR, hb1⟩
    obtain ⟨Acba, dcba, rfl⟩ := Kd.R_slice hR
    replace Ba := Aside0.mk (Ba.out.below hb1)
    replace Bb := Aside0.mk (Bb.out.below hb1)
    replace Bc := Aside0.mk (Bc.out.below hb1)
    replace Bab := Aside0.mk (Bab.out.below hb1)
    replace Bba := Aside0.mk (Bba.out.below hb1)
    replace Bx := Aside0.mk (Bx.out.below hb1)
    replace Babc := Aside0.mk (Babc.out.below hb1)
    replace Bbc := Aside0.mk (Bbc.out.below hb1)
    replace E5 := Aside0.mk (below_then E5.out E5.out.size hb1)
    go_wp2_with fail
    replace Ba := Aside0.mk (Ba.out.alloc (.cells #[.slice Acba cba.length dcba] 42))
    replace Bb := Aside0.mk (Bb.out.alloc (.cells #[.slice Acba cba.length dcba] 42))
    replace Bc := Aside0.mk (Bc.out.alloc (.cells #[.slice Acba cba.length dcba] 42))
    replace Bab := Aside0.mk (Bab.out.alloc (.cells #[.slice Acba cba.length dcba] 42))
    replace Bba := Aside0.mk (Bba.out.alloc (.cells #[.slice Acba cba.length dcba] 42))
    replace Bx := Aside0.mk (Bx.out.alloc (.cells #[.slice Acba cba.length dcba] 42))
    replace Babc := Aside0.mk (Babc.out.alloc (.cells #[.slice Acba cba.length dcba] 42))
    replace Bbc := Aside0.mk (Bbc.out.alloc (.cells #[.slice Acba cba.length dcba] 42))
    have Bcba := Aside0.mk (AtSet.made w14 (R_zero hR))
    replace E5 := Aside0.mk (below_alloc E5.out (.cells #[.slice Acba cba.length dcba] 42))
    clear hR hb1
    generalize w14.alloc (.cells #[.slice Acba cba.length dcba] 42) = W15 at Ba Bb Bc Bab Bba Bx Babc Bbc Bcba E5 ⊢
    have ha := Ba.out.cell
    have hb := Bb.out.cell
    have hc := Bc.out.cell
    have hab := Bab.out.cell
    have hba := Bba.out.cell
    have hx := Bx.out.cell
    have habc := Babc.out.cell
    have hbc := Bbc.out.cell
    have hcba := Bcba.out.cell
    simp only [List.append]
    have hself : Below W15.heap.size W15 W15.drew := below_drew (Below.refl _ _)
    refine start_ (n := 74) (S := (fun W' => Below W15.heap.size W15 W' ∧ W'.cell? ⟨w4.heap.size, 0, none⟩ = some (.slice Aa a.length da) ∧ W'.cell? ⟨w4.heap.size + 1, 0, none⟩ = some (.slice Ab b.length db) ∧ W'.cell? ⟨w4.heap.size + 1 + 1, 0, none⟩ = some (.slice Ac c.length dc) ∧ W'.cell? ⟨w6.heap.size, 0, none⟩ = some (.slice Aab ab.length dab) ∧ W'.cell? ⟨w8.heap.size, 0, none⟩ = some (.slice Aba ba.length dba) ∧ W'.cell? ⟨gx, 0, none⟩ = some (.slice Ax x.length dx) ∧ W'.cell? ⟨w10.heap.size, 0, none⟩ = some (.slice Aabc abc.length dabc) ∧ W'.cell? ⟨w12.heap.size, 0, none⟩ = some (.slice Abc bc.length dbc) ∧ W'.cell? ⟨w14.heap.size, 0, none⟩ = some (.slice Acba cba.length dcba))) (ds := []) #[false, false, false, false, false, false, false, false, false, false, false, false, false, false, false, false, false, false, false, false, false, false, false, false, false, false, false, false, false, false, false, false, false, false, false, false, false, false, false, false, false, false, false, false, false, false, false, false, false, false, false, false, false, false, false, false, false, false, false, false, false, false, false, false, false, false, false, false, false, false, false, false, false, false] (by kernel_rfl) rfl rfl (⟨hself, ha, hb, hc, hab, hba, hx, habc, hbc, hcba⟩) (fun hHeld => ?_)
    refine with_tabW algebra.tab10 algebra.bits10 (fun HT_ HW_ => ?_)
    refine pure_ (i := 0) (N := (some 68)) (v := ?_) (a' := ?_) #[true, false, false, false, false, false, false, false, false, false, false, false, false, false, false, false, false, false, false, false, false, false, false, false, false, false, false, false, false, false, false, false, false, false, false, false, false, false, false, false, false, false, false, false, false, false, false, false, false, false, false, false, false, false, false, false, false, false, false, false, false, false, false, false, false, false, false, false, false, false, false, false, false, false] rfl rfl (any_of HT_.out (by kernel_rfl)) (fun _ _ _ h => h) (Or.inl ⟨by rfl, ?_⟩) ?_ ?_
    rotate_left
    · intro w'
      go_simp
      first | done | with_reducible rfl
    rotate_left
    · simp only [Act.put, List.setIfInBounds_toArray, List.set_cons_zero, List.set_cons_succ, i64_w, i32_w]
      rfl
    refine pure_ (i := 1) (N := (some 69)) (v := ?_) (a' := ?_) #[true, true, false, false, false, false, false, false, false, false, false, false, false, false, false, false, false, false, false, false, false, false, false, false, false, false, false, false, false, false, false, false, false, false, false, false, false, false, false, false, false, false, false, false, false, false, false, false, false, false, false, false, false, false, false, false, false, false, false, false, false, false, false, false, false, false, false, false, false, false, false, false, false, false] rfl rfl (any_of HT_.out (by kernel_rfl)) (fun _ _ _ h => h) (Or.inl ⟨by rfl, ?_⟩) ?_ ?_
    rotate_left
    · intro w'
      go_simp
      first | done | with_reducible rfl
    rotate_left
    · simp only [Act.put, List.setIfInBounds_toArray, List.set_cons_zero, List.set_cons_succ, i64_w, i32_w]
      rfl
    refine pure_ (i := 2) (N := (some 70)) (v := ?_) (a' := ?_) #[true, true, true, false, false, false, false, false, false, false, false, false, false, false, false, false, false, false, false, false, false, false, false, false, false, false, false, false, false, false, false, false, false, false, false, false, false, false, false, false, false, false, false, false, false, false, false, false, false, false, false, false, false, false, false, false, false, false, false, false, false, false, false, false, false, false, false, false, false, false, false, false, false, false] rfl rfl (any_of HT_.out (by kernel_rfl)) (fun _ _ _ h => h) (Or.inl ⟨by rfl, ?_⟩) ?_ ?_
    rotate_left
    · intro w'
      go_simp
      first | done | with_reducible rfl
    rotate_left
    · simp only [Act.put, List.setIfInBounds_toArray, List.set_cons_zero, List.set_cons_succ, i64_w, i32_w]
      rfl
    refine pure_ (i := 3) (N := (some 71)) (v := ?_) (a' := ?_) #[true, true, true, true, false, false, false, false, false, false, false, false, false, false, false, false, false, false, false, false, false, false, false, false, false, false, false, false, false, false, false, false, false, false, false, false, false, false, false, false, false, false, false, false, false, false, false, false, false, false, false, false, false, false, false, false, false, false, false, false, false, false, false, false, false, false, false, false, false, false, false, false, false, false] rfl rfl (any_of HT_.out (by kernel_rfl)) (fun _ _ _ h => h) (Or.inl ⟨by rfl, ?_⟩) ?_ ?_
    rotate_left
    · intro w'
      go_simp
      first | done | with_reducible rfl
    rotate_left
    · simp only [Act.put, List.setIfInBounds_toArray, List.set_cons_zero, List.set_cons_succ, i64_w, i32_w]
      rfl
    refine pure_ (i := 4) (N := (some 72)) (v := ?_) (a' := ?_) #[true, true, true, true, true, false, false, false, false, false, false, false, false, false, false, false, false, false, false, false, false, false, false, false, false, false, false, false, false, false, false, false, false, false, false, false, false, false, false, false, false, false, false, false, false, false, false, false, false, false, false, false, false, false, false, false, false, false, false, false, false, false, false, false, false, false, false, false, false, false, false, false, false, false] rfl rfl (any_of HT_.out (by kernel_rfl)) (fun _ _ _ h => h) (Or.inl ⟨by rfl, ?_⟩) ?_ ?_
    rotate_left
    · intro w'
      go_simp
      first | done | with_reducible rfl
    rotate_left
    · simp only [Act.put, List.setIfInBounds_toArray, List.set_cons_zero, List.set_cons_succ, i64_w, i32_w]
      rfl
    refine pure_ (i := 5) (N := (some 73)) (v := ?_) (a' := ?_) #[true, true, true, true, true, true, false, false, false, false, false, false, false, false, false, false, false, false, false, false, false, false, false, false, false, false, false, false, false, false, false, false, false, false, false, false, false, false, false, false, false, false, false, false, false, false, false, false, false, false, false, false, false, false, false, false, false, false, false, false, false, false, false, false, false, false, false, false, false, false, false, false, false, false] rfl rfl (any_of HT_.out (by kernel_rfl)) (fun _ _ _ h => h) (Or.inl ⟨by rfl, ?_⟩) ?_ ?_
    rotate_left
    · intro w'
      go_simp
      first | done | with_reducible rfl
    rotate_left
    · simp only [Act.put, List.setIfInBounds_toArray, List.set_cons_zero, List.set_cons_succ, i64_w, i32_w]
      rfl
    refine pure_ (i := 6) (N := (some 74)) (v := ?_) (a' := ?_) #[true, true, true, true, true, true, true, false, false, false, false, false, false, false, false, false, false, false, false, false, false, false, false, false, false, false, false, false, false, false, false, false, false, false, false, false, false, false, false, false, false, false, false, false, false, false, false, false, false, false, false, false, false, false, false, false, false, false, false, false, false, false, false, false, false, false, false, false, false, false, false, false, false, false] rfl rfl (any_of HT_.out (by kernel_rfl)) (fun _ _ _ h => h) (Or.inl ⟨by rfl, ?_⟩) ?_ ?_
    rotate_left
    · intro w'
      go_simp
      first | done | with_reducible rfl
    rotate_left
    · simp only [Act.put, List.setIfInBounds_toArray, List.set_cons_zero, List.set_cons_succ, i64_w, i32_w]
      rfl
    refine pure_ (i := 7) (N := (some 75)) (v := ?_) (a' := ?_) #[true, true, true, true, true, true, true, true, false, false, false, false, false, false, false, false, false, false, false, false, false, false, false, false, false, false, false, false, false, false, false, false, false, false, false, false, false, false, false, false, false, false, false, false, false, false, false, false, false, false, false, false, false, false, false, false, false, false, false, false, false, false, false, false, false, false, false, false, false, false, false, false, false, false] rfl rfl (any_of HT_.out (by kernel_rfl)) (fun _ _ _ h => h) (Or.inl ⟨by rfl, ?_⟩) ?_ ?_
    rotate_left
    · intro w'
      go_simp
      first | done | with_reducible rfl
    rotate_left
    · simp only [Act.put, List.setIfInBounds_toArray, List.set_cons_zero, List.set_cons_succ, i64_w, i32_w]
      rfl
    refine pure_ (i := 8) (N := (some 76)) (v := ?_) (a' := ?_) #[true, true, true, true, true, true, true, true, true, false, false, false, false, false, false, false, false, false, false, false, false, false, false, false, false, false, false, false, false, false, false, false, false, false, false, false, false, false, false, false, false, false, false, false, false, false, false, false, false, false, false, false, false, false, false, false, false, false, false, false, false, false, false, false, false, false, false, false, false, false, false, false, false, false] rfl rfl (any_of HT_.out (by kernel_rfl)) (fun _ _ _ h => h) (Or.inl ⟨by rfl, ?_⟩) ?_ ?_
    rotate_left
    · intro w'
      go_simp
      first | done | with_reducible rfl
    rotate_left
    · simp only [Act.put, List.setIfInBounds_toArray, List.set_cons_zero, List.set_cons_succ, i64_w, i32_w]
      rfl
    refine pure_ (i := 9) (N := (some 77)) (v := ?_) (a' := ?_) #[true, true, true, true, true, true, true, true, true, true, false, false, false, false, false, false, false, false, false, false, false, false, false, false, false, false, false, false, false, false, false, false, false, false, false, false, false, false, false, false, false, false, false, false, false, false, false, false, false, false, false, false, false, false, false, false, false, false, false, false, false, false, false, false, false, false, false, false, false, false, false, false, false, false] rfl rfl (any_of HT_.out (by kernel_rfl)) (fun _ _ _ h => h) (Or.inl ⟨by rfl, ?_⟩) ?_ ?_
    rotate_left
    · intro w'
      go_simp
      first | done | with_reducible rfl
    rotate_left
    · simp only [Act.put, List.setIfInBounds_toArray, List.set_cons_zero, List.set_cons_succ, i64_w, i32_w]
      rfl
    refine pure_ (i := 10) (N := (some 78)) (v := ?_) (a' := ?_) #[true, true, true, true, true, true, true, true, true, true, true, false, false, false, false, false, false, false, false, false, false, false, false, false, false, false, false, false, false, false, false, false, false, false, false, false, false, false, false, false, false, false, false, false, false, false, false, false, false, false, false, false, false, false, false, false, false, false, false, false, false, false, false, false, false, false, false, false, false, false, false, false, false, false] rfl rfl (any_of HT_.out (by kernel_rfl)) (fun _ _ _ h => h) (Or.inl ⟨by rfl, ?_⟩) ?_ ?_
    rotate_left
    · intro w'
      go_simp
      first | done | with_reducible rfl
    rotate_left
    · simp only [Act.put, List.setIfInBounds_toArray, List.set_cons_zero, List.set_cons_succ, i64_w, i32_w]
      rfl
    refine pure_ (i := 11) (N := (some 79)) (v := ?_) (a' := ?_) #[true, true, true, true, true, true, true, true, true, true, true, true, false, false, false, false, false, false, false, false, false, false, false, false, false, false, false, false, false, false, false, false, false, false, false, false, false, false, false, false, false, false, false, false, false, false, false, false, false, false, false, false, false, false, false, false, false, false, false, false, false, false, false, false, false, false, false, false, false, false, false, false, false, false] rfl rfl (any_of HT_.out (by kernel_rfl)) (fun _ _ _ h => h) (Or.inl ⟨by rfl, ?_⟩) ?_ ?_
    rotate_left
    · intro w'
      go_simp
      first | done | with_reducible rfl
    rotate_left
    · simp only [Act.put, List.setIfInBounds_toArray, List.set_cons_zero, List.set_cons_succ, i64_w, i32_w]
      rfl
    refine pure_ (i := 12) (N := (some 80)) (v := ?_) (a' := ?_) #[true, true, true, true, true, true, true, true, true, true, true, true, true, false, false, false, false, false, false, false, false, false, false, false, false, false, false, false, false, false, false, false, false, false, false, false, false, false, false, false, false, false, false, false, false, false, false, false, false, false, false, false, false, false, false, false, false, false, false, false, false, false, false, false, false, false, false, false, false, false, false, false, false, false] rfl rfl (any_of HT_.out (by kernel_rfl)) (fun _ _ _ h => h) (Or.inl ⟨by rfl, ?_⟩) ?_ ?_
    rotate_left
    · intro w'
      go_simp
      first | done | with_reducible rfl
    rotate_left
    · simp only [Act.put, List.setIfInBounds_toArray, List.set_cons_zero, List.set_cons_succ, i64_w, i32_w]
      rfl
    refine pure_ (i := 13) (N := (some 81)) (v := ?_) (a' := ?_) #[true, true, true, true, true, true, true, true, true, true, true, true, true, true, false, false, false, false, false, false, false, false, false, false, false, false, false, false, false, false, false, false, false, false, false, false, false, false, false, false, false, false, false, false, false, false, false, false, false, false, false, false, false, false, false, false, false, false, false, false, false, false, false, false, false, false, false, false, false, false, false, false, false, false] rfl rfl (any_of HT_.out (by kernel_rfl)) (fun _ _ _ h => h) (Or.inl ⟨by rfl, ?_⟩) ?_ ?_
    rotate_left
    · intro w'
      go_simp
      first | done | with_reducible rfl
    rotate_left
    · simp only [Act.put, List.setIfInBounds_toArray, List.set_cons_zero, List.set_cons_succ, i64_w, i32_w]
      rfl
    refine pure_ (i := 14) (N := (some 82)) (v := ?_) (a' := ?_) #[true, true, true, true, true, true, true, true, true, true, true, true, true, true, true, false, false, false, false, false, false, false, false, false, false, false, false, false, false, false, false, false, false, false, false, false, false, false, false, false, false, false, false, false, false, false, false, false, false, false, false, false, false, false, false, false, false, false, false, false, false, false, false, false, false, false, false, false, false, false, false, false, false, false] rfl rfl (any_of HT_.out (by kernel_rfl)) (fun _ _ _ h => h) (Or.inl ⟨by rfl, ?_⟩) ?_ ?_
    rotate_left
    · intro w'
      go_simp
      first | done | with_reducible rfl
    rotate_left
    · simp only [Act.put, List.setIfInBounds_toArray, List.set_cons_zero, List.set_cons_succ, i64_w, i32_w]
      rfl
    refine pure_ (i := 15) (N := (some 83)) (v := ?_) (a' := ?_) #[true, true, true, true, true, true, true, true, true, true, true, true, true, true, true, true, false, false, false, false, false, false, false, false, false, false, false, false, false, false, false, false, false, false, false, false, false, false, false, false, false, false, false, false, false, false, false, false, false, false, false, false, false, false, false, false, false, false, false, false, false, false, false, false, false, false, false, false, false, false, false, false, false, false] rfl rfl (any_of HT_.out (by kernel_rfl)) (fun _ _ _ h => h) (Or.inl ⟨by rfl, ?_⟩) ?_ ?_
    rotate_left
    · intro w'
      go_simp
      first | done | with_reducible rfl
    rotate_left
    · simp only [Act.put, List.setIfInBounds_toArray, List.set_cons_zero, List.set_cons_succ, i64_w, i32_w]
      rfl
    refine pure_ (i := 16) (N := (some 84)) (v := ?_) (a' := ?_) #[true, true, true, true, true, true, true, true, true, true, true, true, true, true, true, true, true, false, false, false, false, false, false, false, false, false, false, false, false, false, false, false, false, false, false, false, false, false, false, false, false, false, false, false, false, false, false, false, false, false, false, false, false, false, false, false, false, false, false, false, false, false, false, false, false, false, false, false, false, false, false, false, false, false] rfl rfl (any_of HT_.out (by kernel_rfl)) (fun _ _ _ h => h) (Or.inl ⟨by rfl, ?_⟩) ?_ ?_
    rotate_left
    · intro w'
      go_simp
      first | done | with_reducible rfl
    rotate_left
    · simp only [Act.put, List.setIfInBounds_toArray, List.set_cons_zero, List.set_cons_succ, i64_w, i32_w]
      rfl
    refine pure_ (i := 17) (N := (some 85)) (v := ?_) (a' := ?_) #[true, true, true, true, true, true, true, true, true, true, true, true, true, true, true, true, true, true, false, false, false, false, false, false, false, false, false, false, false, false, false, false, false, false, false, false, false, false, false, false, false, false, false, false, false, false, false, false, false, false, false, false, false, false, false, false, false, false, false, false, false, false, false, false, false, false, false, false, false, false, false, false, false, false] rfl rfl (any_of HT_.out (by kernel_rfl)) (fun _ _ _ h => h) (Or.inl ⟨by rfl, ?_⟩) ?_ ?_
    rotate_left
    · intro w'
      go_simp
      first | done | with_reducible rfl
    rotate_left
    · simp only [Act.put, List.setIfInBounds_toArray, List.set_cons_zero, List.set_cons_succ, i64_w, i32_w]
      rfl
    refine pure_ (i := 18) (N := (some 86)) (v := ?_) (a' := ?_) #[true, true, true, true, true, true, true, true, true, true, true, true, true, true, true, true, true, true, true, false, false, false, false, false, false, false, false, false, false, false, false, false, false, false, false, false, false, false, false, false, false, false, false, false, false, false, false, false, false, false, false, false, false, false, false, false, false, false, false, false, false, false, false, false, false, false, false, false, false, false, false, false, false, false] rfl rfl (any_of HT_.out (by kernel_rfl)) (fun _ _ _ h => h) (Or.inl ⟨by rfl, ?_⟩) ?_ ?_
    rotate_left
    · intro w'
      go_simp
      first | done | with_reducible rfl
    rotate_left
    · simp only [Act.put, List.setIfInBounds_toArray, List.set_cons_zero, List.set_cons_succ, i64_w, i32_w]
      rfl
    refine pure_ (i := 19) (N := (some 87)) (v := ?_) (a' := ?_) #[true, true, true, true, true, true, true, true, true, true, true, true, true, true, true, true, true, true, true, true, false, false, false, false, false, false, false, false, false, false, false, false, false, false, false, false, false, false, false, false, false, false, false, false, false, false, false, false, false, false, false, false, false, false, false, false, false, false, false, false, false, false, false, false, false, false, false, false, false, false, false, false, false, false] rfl rfl (any_of HT_.out (by kernel_rfl)) (fun _ _ _ h => h) (Or.inl ⟨by rfl, ?_⟩) ?_ ?_
    rotate_left
    · intro w'
      go_simp
      first | done | with_reducible rfl
    rotate_left
    · simp only [Act.put, List.setIfInBounds_toArray, List.set_cons_zero, List.set_cons_succ, i64_w, i32_w]
      rfl
    refine pure_ (i := 20) (N := (some 88)) (v := ?_) (a' := ?_) #[true, true, true, true, true, true, true, true, true, true, true, true, true, true, true, true, true, true, true, true, true, false, false, false, false, false, false, false, false, false, false, false, false, false, false, false, false, false, false, false, false, false, false, false, false, false, false, false, false, false, false, false, false, false, false, false, false, false, false, false, false, false, false, false, false, false, false, false, false, false, false, false, false, false] rfl rfl (any_of HT_.out (by kernel_rfl)) (fun _ _ _ h => h) (Or.inl ⟨by rfl, ?_⟩) ?_ ?_
    rotate_left
    · intro w'
      go_simp
      first | done | with_reducible rfl
    rotate_left
    · simp only [Act.put, List.setIfInBounds_toArray, List.set_cons_zero, List.set_cons_succ, i64_w, i32_w]
      rfl
    refine pure_ (i := 21) (N := (some 89)) (v := ?_) (a' := ?_) #[true, true, true, true, true, true, true, true, true, true, true, true, true, true, true, true, true, true, true, true, true, true, false, false, false, false, false, false, false, false, false, false, false, false, false, false, false, false, false, false, false, false, false, false, false, false, false, false, false, false, false, false, false, false, false, false, false, false, false, false, false, false, false, false, false, false, false, false, false, false, false, false, false, false] rfl rfl (any_of HT_.out (by kernel_rfl)) (fun _ _ _ h => h) (Or.inl ⟨by rfl, ?_⟩) ?_ ?_
    rotate_left
    · intro w'
      go_simp
      first | done | with_reducible rfl
    rotate_left
    · simp only [Act.put, List.setIfInBounds_toArray, List.set_cons_zero, List.set_cons_succ, i64_w, i32_w]
      rfl
    refine pure_ (i := 22) (N := (some 90)) (v := ?_) (a' := ?_) #[true, true, true, true, true, true, true, true, true, true, true, true, true, true, true, true, true, true, true, true, true, true, true, false, false, false, false, false, false, false, false, false, false, false, false, false, false, false, false, false, false, false, false, false, false, false, false, false, false, false, false, false, false, false, false, false, false, false, false, false, false, false, false, false, false, false, false, false, false, false, false, false, false, false] rfl rfl (any_of HT_.out (by kernel_rfl)) (fun _ _ _ h => h) (Or.inl ⟨by rfl, ?_⟩) ?_ ?_
    rotate_left
    · intro w'
      go_simp
      first | done | with_reducible rfl
    rotate_left
    · simp only [Act.put, List.setIfInBounds_toArray, List.set_cons_zero, List.set_cons_succ, i64_w, i32_w]
      rfl
    refine take_ (i := 23) (N := (some 91)) (v := ?_) (a' := ?_) #[true, true, true, true, true, true, true, true, true, true, true, true, true, true, true, true, true, true, true, true, true, true, true, true, false, false, false, false, false, false, false, false, false, false, false, false, false, false, false, false, false, false, false, false, false, false, false, false, false, false, false, false, false, false, false, false, false, false, false, false, false, false, false, false, false, false, false, false, false, false, false, false, false, false] rfl rfl (take_ofW HT_.out HW_.out (by kernel_rfl)) (fun _ _ _ h => h) (Or.inl ⟨by rfl, ?_⟩) hHeld ?_ ?_
    rotate_left
    · rintro w' ⟨s_, s0, s1, s2, s3, s4, s5, s6, s7, s8⟩
      go_simp
      first | done | with_reducible rfl
    rotate_left
    · simp only [Act.put, List.setIfInBounds_toArray, List.set_cons_zero, List.set_cons_succ, i64_w, i32_w]
      rfl
    refine take_ (i := 24) (N := (some 92)) (v := ?_) (a' := ?_) #[true, true, true, true, true, true, true, true, true, true, true, true, true, true, true, true, true, true, true, true, true, true, true, true, true, false, false, false, false, false, false, false, false, false, false, false, false, false, false, false, false, false, false, false, false, false, false, false, false, false, false, false, false, false, false, false, false, false, false, false, false, false, false, false, false, false, false, false, false, false, false, false, false, false] rfl rfl (take_ofW HT_.out HW_.out (by kernel_rfl)) (fun _ _ _ h => h) (Or.inl ⟨by rfl, ?_⟩) hHeld ?_ ?_
    rotate_left
    · rintro w' ⟨s_, s0, s1, s2, s3, s4, s5, s6, s7, s8⟩
      go_simp
      first | done | with_reducible rfl
    rotate_left
    · simp only [Act.put, List.setIfInBounds_toArray, List.set_cons_zero, List.set_cons_succ, i64_w, i32_w]
      rfl
    refine one_ (i := 25) (N := (some 93)) #[true, true, true, true, true, true, true, true, true, true, true, true, true, true, true, true, true, true, true, true, true, true, true, true, true, true, false, false, false, false, false, false, false, false, false, false, false, false, false, false, false, false, false, false, false, false, false, false, false, false, false, false, false, false, false, false, false, false, false, false, false, false, false, false, false, false, false, false, false, false, false, false, false, false] rfl rfl (one_of HT_.out (by kernel_rfl)) (by decide) (fun K hK => ?_)
    refine goes_ Try.func29 (by kernel_rfl) rfl #[.agg #[.slice Aab ab.length dab], .agg #[.slice Aba ba.length dba]] (by rfl) rfl rfl (by (try simp only [List.map_toArray, List.map_cons, List.map_nil]); first | done | rfl) ?_
    refine (soundserviceref09_Same.calls k Aab dab ab Aba dba ba true _ (Kd.C_below Bab.out.row hHeld.1) Bab.out.cap (Kd.C_below Bba.out.row hHeld.1) Bba.out.cap HF.out.s_ab).mono ?_
    rintro e w40 ⟨rfl, hb1⟩
    refine ⟨_, rfl, ?_⟩
    refine hK.out _ _ (held_keep9 hb1 hHeld) (fun hHeld => ?_)
    clear hK K
    refine norm_ (a' := ?_) ?_ ?_
    rotate_left
    · show Act.put _ (some 93) _ = _
      simp only [Act.put, List.setIfInBounds_toArray, List.set_cons_zero, List.set_cons_succ, i64_w, i32_w]
      rfl
    refine pure_ (i := 26) (N := (some 94)) (v := ?_) (a' := ?_) #[true, true, true, true, true, true, true, true, true, true, true, true, true, true, true, true, true, true, true, true, true, true, true, true, true, true, true, false, false, false, false, false, false, false, false, false, false, false, false, false, false, false, false, false, false, false, false, false, false, false, false, false, false, false, false, false, false, false, false, false, false, false, false, false, false, false, false, false, false, false, false, false, false, false] rfl rfl (any_of HT_.out (by kernel_rfl)) (fun _ _ _ h => h) (Or.inl ⟨by rfl, ?_⟩) ?_ ?_
    rotate_left
    · intro w'
      go_simp
      first | done | with_reducible rfl
    rotate_left
    · simp only [Act.put, List.setIfInBounds_toArray, List.set_cons_zero, List.set_cons_succ, i64_w, i32_w]
      rfl
    refine pure_ (i := 27) (N := (some 95)) (v := ?_) (a' := ?_) #[true, true, true, true, true, true, true, true, true, true, true, true, true, true, true, true, true, true, true, true, true, true, true, true, true, true, true, true, false, false, false, false, false, false, false, false, false, false, false, false, false, false, false, false, false, false, false, false, false, false, false, false, false, false, false, false, false, false, false, false, false, false, false, false, false, false, false, false, false, false, false, false, false, false] rfl rfl (any_of HT_.out (by kernel_rfl)) (fun _ _ _ h => h) (Or.inl ⟨by rfl, ?_⟩) ?_ ?_
    rotate_left
    · intro w'
      go_simp
      first | done | with_reducible rfl
    rotate_left
    · simp only [Act.put, List.setIfInBounds_toArray, List.set_cons_zero, List.set_cons_succ, i64_w, i32_w]
      rfl
    refine take_ (i := 28) (N := (some 96)) (v := ?_) (a' := ?_) #[true, true, true, true, true, true, true, true, true, true, true, true, true, true, true, true, true, true, true, true, true, true, true, true, true, true, true, true, true, false, false, false, false, false, false, false, false, false, false, false, false, false, false, false, false, false, false, false, false, false, false, false, false, false, false, false, false, false, false, false, false, false, false, false, false, false, false, false, false, false, false, false, false, false] rfl rfl (take_ofW HT_.out HW_.out (by kernel_rfl)) (fun _ _ _ h => h) (Or.inl ⟨by rfl, ?_⟩) hHeld ?_ ?_
    rotate_left
    · rintro w' ⟨s_, s0, s1, s2, s3, s4, s5, s6, s7, s8⟩
      go_simp
      first | done | with_reducible rfl
    rotate_left
    · simp only [Act.put, List.setIfInBounds_toArray, List.set_cons_zero, List.set_cons_succ, i64_w, i32_w]
      rfl
    refine take_ (i := 29) (N := (some 97)) (v := ?_) (a' := ?_) #[true, true, true, true, true, true, true, true, true, true, true, true, true, true, true, true, true, true, true, true, true, true, true, true, true, true, true, true, true, true, false, false, false, false, false, false, false, false, false, false, false, false, false, false, false, false, false, false, false, false, false, false, false, false, false, false, false, false, false, false, false, false, false, false, false, false, false, false, false, false, false, false, false, false] rfl rfl (take_ofW HT_.out HW_.out (by kernel_rfl)) (fun _ _ _ h => h) (Or.inl ⟨by rfl, ?_⟩) hHeld ?_ ?_
    rotate_left
    · rintro w' ⟨s_, s0, s1, s2, s3, s4, s5, s6, s7, s8⟩
      go_simp
      first | done | with_reducible rfl
    rotate_left
    · simp only [Act.put, List.setIfInBounds_toArray, List.set_cons_zero, List.set_cons_succ, i64_w, i32_w]
      rfl
    refine one_ (i := 30) (N := (some 98)) #[true, true, true, true, true, true, true, true, true, true, true, true, true, true, true, true, true, true, true, true, true, true, true, true, true, true, true, true, true, true, true, false, false, false, false, false, false, false, false, false, false, false, false, false, false, false, false, false, false, false, false, false, false, false, false, false, false, false, false, false, false, false, false, false, false, false, false, false, false, false, false, false, false, false] rfl rfl (one_of HT_.out (by kernel_rfl)) (by decide) (fun K hK => ?_)
    refine goes_ Try.func29 (by kernel_rfl) rfl #[.agg #[.slice Ax x.length dx], .agg #[.slice Aa a.length da]] (by rfl) rfl rfl (by (try simp only [List.map_toArray, List.map_cons, List.map_nil]); first | done | rfl) ?_
    refine (soundserviceref09_Same.calls k Ax dx x Aa da a true _ (Kd.C_below Bx.out.row hHeld.1) Bx.out.cap (Kd.C_below Ba.out.row hHeld.1) Ba.out.cap HF.out.s_x).mono ?_
    rintro e w40 ⟨rfl, hb1⟩
    refine ⟨_, rfl, ?_⟩
    refine hK.out _ _ (held_keep9 hb1 hHeld) (fun hHeld => ?_)
    clear hK K
    refine norm_ (a' := ?_) ?_ ?_
    rotate_left
    · show Act.put _ (some 98) _ = _
      simp only [Act.put, List.setIfInBounds_toArray, List.set_cons_zero, List.set_cons_succ, i64_w, i32_w]
      rfl
    refine pure_ (i := 31) (N := (some 99)) (v := ?_) (a' := ?_) #[true, true, true, true, true, true, true, true, true, true, true, true, true, true, true, true, true, true, true, true, true, true, true, true, true, true, true, true, true, true, true, true, false, false, false, false, false, false, false, false, false, false, false, false, false, false, false, false, false, false, false, false, false, false, false, false, false, false, false, false, false, false, false, false, false, false, false, false, false, false, false, false, false, false] rfl rfl (any_of HT_.out (by kernel_rfl)) (fun _ _ _ h => h) (Or.inl ⟨by rfl, ?_⟩) ?_ ?_
    rotate_left
    · intro w'
      go_simp
      first | done | with_reducible rfl
    rotate_left
    · simp only [Act.put, List.setIfInBounds_toArray, List.set_cons_zero, List.set_cons_succ, i64_w, i32_w]
      rfl
    refine pure_ (i := 32) (N := (some 100)) (v := ?_) (a' := ?_) #[true, true, true, true, true, true, true, true, true, true, true, true, true, true, true, true, true, true, true, true, true, true, true, true, true, true, true, true, true, true, true, true, true, false, false, false, false, false, false, false, false, false, false, false, false, false, false, false, false, false, false, false, false, false, false, false, false, false, false, false, false, false, false, false, false, false, false, false, false, false, false, false, false, false] rfl rfl (any_of HT_.out (by kernel_rfl)) (fun _ _ _ h => h) (Or.inl ⟨by rfl, ?_⟩) ?_ ?_
    rotate_left
    · intro w'
      go_simp
      first | done | with_reducible rfl
    rotate_left
    · simp only [Act.put, List.setIfInBounds_toArray, List.set_cons_zero, List.set_cons_succ, i64_w, i32_w]
      rfl
    refine take_ (i := 33) (N := (some 101)) (v := ?_) (a' := ?_) #[true, true, true, true, true, true, true, true, true, true, true, true, true, true, true, true, true, true, true, true, true, true, true, true, true, true, true, true, true, true, true, true, true, true, false, false, false, false, false, false, false, false, false, false, false, false, false, false, false, false, false, false, false, false, false, false, false, false, false, false, false, false, false, false, false, false, false, false, false, false, false, false, false, false] rfl rfl (take_ofW HT_.out HW_.out (by kernel_rfl)) (fun _ _ _ h => h) (Or.inl ⟨by rfl, ?_⟩) hHeld ?_ ?_
    rotate_left
    · rintro w' ⟨s_, s0, s1, s2, s3, s4, s5, s6, s7, s8⟩
      go_simp
      first | done | with_reducible rfl
    rotate_left
    · simp only [Act.put, List.setIfInBounds_toArray, List.set_cons_zero, List.set_cons_succ, i64_w, i32_w]
      rfl
    refine take_ (i := 34) (N := (some 102)) (v := ?_) (a' := ?_) #[true, true, true, true, true, true, true, true, true, true, true, true, true, true, true, true, true, true, true, true, true, true, true, true, true, true, true, true, true, true, true, true, true, true, true, false, false, false, false, false, false, false, false, false, false, false, false, false, false, false, false, false, false, false, false, false, false, false, false, false, false, false, false, false, false, false, false, false, false, false, false, false, false, false] rfl rfl (take_ofW HT_.out HW_.out (by kernel_rfl)) (fun _ _ _ h => h) (Or.inl ⟨by rfl, ?_⟩) hHeld ?_ ?_
    rotate_left
    · rintro w' ⟨s_, s0, s1, s2, s3, s4, s5, s6, s7, s8⟩
      go_simp
      first | done | with_reducible rfl
    rotate_left
    · simp only [Act.put, List.setIfInBounds_toArray, List.set_cons_zero, List.set_cons_succ, i64_w, i32_w]
      rfl
    refine one_ (i := 35) (N := (some 103)) #[true, true, true, true, true, true, true, true, true, true, true, true, true, true, true, true, true, true, true, true, true, true, true, true, true, true, true, true, true, true, true, true, true, true, true, true, false, false, false, false, false, false, false, false, false, false, false, false, false, false, false, false, false, false, false, false, false, false, false, false, false, false, false, false, false, false, false, false, false, false, false, false, false, false] rfl rfl (one_of HT_.out (by kernel_rfl)) (by decide) (fun K hK => ?_)
    refine goes_ Try.func29 (by kernel_rfl) rfl #[.agg #[.slice Aabc abc.length dabc], .agg #[.slice Acba cba.length dcba]] (by rfl) rfl rfl (by (try simp only [List.map_toArray, List.map_cons, List.map_nil]); first | done | rfl) ?_
    refine (soundserviceref09_Same.calls k Aabc dabc abc Acba dcba cba true _ (Kd.C_below Babc.out.row hHeld.1) Babc.out.cap (Kd.C_below Bcba.out.row hHeld.1) Bcba.out.cap HF.out.s_abc).mono ?_
    rintro e w40 ⟨rfl, hb1⟩
    refine ⟨_, rfl, ?_⟩
    refine hK.out _ _ (held_keep9 hb1 hHeld) (fun hHeld => ?_)
    clear hK K
    refine norm_ (a' := ?_) ?_ ?_
    rotate_left
    · show Act.put _ (some 103) _ = _
      simp only [Act.put, List.setIfInBounds_toArray, List.set_cons_zero, List.set_cons_succ, i64_w, i32_w]
      rfl
    refine pure_ (i := 36) (N := (some 104)) (v := ?_) (a' := ?_) #[true, true, true, true, true, true, true, true, true, true, true, true, true, true, true, true, true, true, true, true, true, true, true, true, true, true, true, true, true, true, true, true, true, true, true, true, true, false, false, false, false, false, false, false, false, false, false, false, false, false, false, false, false, false, false, false, false, false, false, false, false, false, false, false, false, false, false, false, false, false, false, false, false, false] rfl rfl (any_of HT_.out (by kernel_rfl)) (fun _ _ _ h => h) (Or.inl ⟨by rfl, ?_⟩) ?_ ?_
    rotate_left
    · intro w'
      go_simp
      first | done | with_reducible rfl
    rotate_left
    · simp only [Act.put, List.setIfInBounds_toArray, List.set_cons_zero, List.set_cons_succ, i64_w, i32_w]
      rfl
    refine pure_ (i := 37) (N := (some 105)) (v := ?_) (a' := ?_) #[true, true, true, true, true, true, true, true, true, true, true, true, true, true, true, true, true, true, true, true, true, true, true, true, true, true, true, true, true, true, true, true, true, true, true, true, true, true, false, false, false, false, false, false, false, false, false, false, false, false, false, false, false, false, false, false, false, false, false, false, false, false, false, false, false, false, false, false, false, false, false, false, false, false] rfl rfl (any_of HT_.out (by kernel_rfl)) (fun _ _ _ h => h) (Or.inl ⟨by rfl, ?_⟩) ?_ ?_
    rotate_left
    · intro w'
      go_simp
      first | done | with_reducible rfl
    rotate_left
    · simp only [Act.put, List.setIfInBounds_toArray, List.set_cons_zero, List.set_cons_succ, i64_w, i32_w]
      rfl
    refine take_ (i := 38) (N := (some 106)) (v := ?_) (a' := ?_) #[true, true, true, true, true, true, true, true, true, true, true, true, true, true, true, true, true, true, true, true, true, true, true, true, true, true, true, true, true, true, true, true, true, true, true, true, true, true, true, false, false, false, false, false, false, false, false, false, false, false, false, false, false, false, false, false, false, false, false, false, false, false, false, false, false, false, false, false, false, false, false, false, false, false] rfl rfl (take_ofW HT_.out HW_.out (by kernel_rfl)) (fun _ _ _ h => h) (Or.inl ⟨by rfl, ?_⟩) hHeld ?_ ?_
    rotate_left
    · rintro w' ⟨s_, s0, s1, s2, s3, s4, s5, s6, s7, s8⟩
      go_simp
      first | done | with_reducible rfl
    rotate_left
    · simp only [Act.put, List.setIfInBounds_toArray, List.set_cons_zero, List.set_cons_succ, i64_w, i32_w]
      rfl
    refine take_ (i := 39) (N := (some 107)) (v := ?_) (a' := ?_) #[true, true, true, true, true, true, true, true, true, true, true, true, true, true, true, true, true, true, true, true, true, true, true, true, true, true, true, true, true, true, true, true, true, true, true, true, true, true, true, true, false, false, false, false, false, false, false, false, false, false, false, false, false, false, false, false, false, false, false, false, false, false, false, false, false, false, false, false, false, false, false, false, false, false] rfl rfl (take_ofW HT_.out HW_.out (by kernel_rfl)) (fun _ _ _ h => h) (Or.inl ⟨by rfl, ?_⟩) hHeld ?_ ?_
    rotate_left
    · rintro w' ⟨s_, s0, s1, s2, s3, s4, s5, s6, s7, s8⟩
      go_simp
      first | done | with_reducible rfl
    rotate_left
    · simp only [Act.put, List.setIfInBounds_toArray, List.set_cons_zero, List.set_cons_succ, i64_w, i32_w]
      rfl
    refine take_ (i := 41) (N := (some 109)) (v := ?_) (a' := ?_) #[true, true, true, true, true, true, true, true, true, true, true, true, true, true, true, true, true, true, true, true, true, true, true, true, true, true, true, true, true, true, true, true, true, true, true, true, true, true, true, true, false, true, false, false, false, false, false, false, false, false, false, false, false, false, false, false, false, false, false, false, false, false, false, false, false, false, false, false, false, false, false, false, false, false] rfl rfl (take_ofW HT_.out HW_.out (by kernel_rfl)) (fun _ _ _ h => h) (Or.inl ⟨by rfl, ?_⟩) hHeld ?_ ?_
    rotate_left
    · rintro w' ⟨s_, s0, s1, s2, s3, s4, s5, s6, s7, s8⟩
      go_simp
      first | done | with_reducible rfl
    rotate_left
    · simp only [Act.put, List.setIfInBounds_toArray, List.set_cons_zero, List.set_cons_succ, i64_w, i32_w]
      rfl
    refine take_ (i := 42) (N := (some 110)) (v := ?_) (a' := ?_) #[true, true, true, true, true, true, true, true, true, true, true, true, true, true, true, true, true, true, true, true, true, true, true, true, true, true, true, true, true, true, true, true, true, true, true, true, true, true, true, true, false, true, true, false, false, false, false, false, false, false, false, false, false, false, false, false, false, false, false, false, false, false, false, false, false, false, false, false, false, false, false, false, false, false] rfl rfl (take_ofW HT_.out HW_.out (by kernel_rfl)) (fun _ _ _ h => h) (Or.inl ⟨by rfl, ?_⟩) hHeld ?_ ?_
    rotate_left
    · rintro w' ⟨s_, s0, s1, s2, s3, s4, s5, s6, s7, s8⟩
      go_simp
      first | done | with_reducible rfl
    rotate_left
    · simp only [Act.put, List.setIfInBounds_toArray, List.set_cons_zero, List.set_cons_succ, i64_w, i32_w]
      rfl
    refine one_ (i := 40) (N := (some 108)) #[true, true, true, true, true, true, true, true, true, true, true, true, true, true, true, true, true, true, true, true, true, true, true, true, true, true, true, true, true, true, true, true, true, true, true, true, true, true, true, true, true, true, true, false, false, false, false, false, false, false, false, false, false, false, false, false, false, false, false, false, false, false, false, false, false, false, false, false, false, false, false, false, false, false] rfl rfl (one_of HT_.out (by kernel_rfl)) (by decide) (fun K hK => ?_)
    refine goes_ Try.func51 (by kernel_rfl) rfl #[.agg #[.slice Aa a.length da], .agg #[.slice Ab b.length db]] (by rfl) rfl rfl (by (try simp only [List.map_toArray, List.map_cons, List.map_nil]); first | done | rfl) ?_
    refine (intset_Intersect.calls k Aa da a Ab db b i _ (Kd.C_below Ba.out.row hHeld.1) Ba.out.cap (Kd.C_below Bb.out.row hHeld.1) Bb.out.cap HF.out.i_i).mono ?_
    rintro e w40 ⟨v0, rfl, hR, hb1⟩
    obtain ⟨Ai, di, rfl, hc1, hC1⟩ := Kd.R_reads hR
    have C_i := Aside0.mk hC1
    have L_i := Aside0.mk hc1
    clear hR hC1 hc1
    refine ⟨_, rfl, ?_⟩
    refine hK.out _ _ (held_keep9 hb1 hHeld) (fun hHeld => ?_)
    clear hK K
    refine norm_ (a' := ?_) ?_ ?_
    rotate_left
    · show Act.put _ (some 108) _ = _
      simp only [Act.put, List.setIfInBounds_toArray, List.set_cons_zero, List.set_cons_succ, i64_w, i32_w]
      rfl
    refine one_ (i := 43) (N := (some 111)) #[true, true, true, true, true, true, true, true, true, true, true, true, true, true, true, true, true, true, true, true, true, true, true, true, true, true, true, true, true, true, true, true, true, true, true, true, true, true, true, true, true, true, true, true, false, false, false, false, false, false, false, false, false, false, false, false, false, false, false, false, false, false, false, false, false, false, false, false, false, false, false, false, false, false] rfl rfl (one_of HT_.out (by kernel_rfl)) (by decide) (fun K hK => ?_)
    refine goes_ Try.func51 (by kernel_rfl) rfl #[.agg #[.slice Ab b.length db], .agg #[.slice Aa a.length da]] (by rfl) rfl rfl (by (try simp only [List.map_toArray, List.map_cons, List.map_nil]); first | done | rfl) ?_
    refine (intset_Intersect.calls k Ab db b Aa da a i' _ (Kd.C_below Bb.out.row hHeld.1) Bb.out.cap (Kd.C_below Ba.out.row hHeld.1) Ba.out.cap HF.out.i_i1).mono ?_
    rintro e w40 ⟨v0, rfl, hR, hb1⟩
    obtain ⟨Ai1, di1, rfl, hc1, hC1⟩ := Kd.R_reads hR
    replace C_i := Aside0.mk (Kd.C_below C_i.out hb1)
    have C_i1 := Aside0.mk hC1
    have L_i1 := Aside0.mk hc1
    clear hR hC1 hc1
    refine ⟨_, rfl, ?_⟩
    refine hK.out _ _ (held_keep9 hb1 hHeld) (fun hHeld => ?_)
    clear hK K
    refine norm_ (a' := ?_) ?_ ?_
    rotate_left
    · show Act.put _ (some 111) _ = _
      simp only [Act.put, List.setIfInBounds_toArray, List.set_cons_zero, List.set_cons_succ, i64_w, i32_w]
      rfl
    refine one_ (i := 44) (N := (some 112)) #[true, true, true, true, true, true, true, true, true, true, true, true, true, true, true, true, true, true, true, true, true, true, true, true, true, true, true, true, true, true, true, true, true, true, true, true, true, true, true, true, true, true, true, true, true, false, false, false, false, false, false, false, false, false, false, false, false, false, false, false, false, false, false, false, false, false, false, false, false, false, false, false, false, false] rfl rfl (one_of HT_.out (by kernel_rfl)) (by decide) (fun K hK => ?_)
    refine goes_ Try.func29 (by kernel_rfl) rfl #[.agg #[.slice Ai i.length di], .agg #[.slice Ai1 i'.length di1]] (by rfl) rfl rfl (by (try simp only [List.map_toArray, List.map_cons, List.map_nil]); first | done | rfl) ?_
    refine (soundserviceref09_Same.calls k Ai di i Ai1 di1 i' true _ C_i.out L_i.out C_i1.out L_i1.out HF.out.s_i).mono ?_
    rintro e w40 ⟨rfl, hb1⟩
    refine ⟨_, rfl, ?_⟩
    refine hK.out _ _ (held_keep9 hb1 hHeld) (fun hHeld => ?_)
    clear hK K
    refine norm_ (a' := ?_) ?_ ?_
    rotate_left
    · show Act.put _ (some 112) _ = _
      simp only [Act.put, List.setIfInBounds_toArray, List.set_cons_zero, List.set_cons_succ, i64_w, i32_w]
      rfl
    refine pure_ (i := 45) (N := (some 113)) (v := ?_) (a' := ?_) #[true, true, true, true, true, true, true, true, true, true, true, true, true, true, true, true, true, true, true, true, true, true, true, true, true, true, true, true, true, true, true, true, true, true, true, true, true, true, true, true, true, true, true, true, true, true, false, false, false, false, false, false, false, false, false, false, false, false, false, false, false, false, false, false, false, false, false, false, false, false, false, false, false, false] rfl rfl (any_of HT_.out (by kernel_rfl)) (fun _ _ _ h => h) (Or.inl ⟨by rfl, ?_⟩) ?_ ?_
    rotate_left
    · intro w'
      go_simp
      first | done | with_reducible rfl
    rotate_left
    · simp only [Act.put, List.setIfInBounds_toArray, List.set_cons_zero, List.set_cons_succ, i64_w, i32_w]
      rfl
    refine pure_ (i := 46) (N := (some 114)) (v := ?_) (a' := ?_) #[true, true, true, true, true, true, true, true, true, true, true, true, true, true, true, true, true, true, true, true, true, true, true, true, true, true, true, true, true, true, true, true, true, true, true, true, true, true, true, true, true, true, true, true, true, true, true, false, false, false, false, false, false, false, false, false, false, false, false, false, false, false, false, false, false, false, false, false, false, false, false, false, false, false] rfl rfl (any_of HT_.out (by kernel_rfl)) (fun _ _ _ h => h) (Or.inl ⟨by rfl, ?_⟩) ?_ ?_
    rotate_left
    · intro w'
      go_simp
      first | done | with_reducible rfl
    rotate_left
    · simp only [Act.put, List.setIfInBounds_toArray, List.set_cons_zero, List.set_cons_succ, i64_w, i32_w]
      rfl
    refine take_ (i := 47) (N := (some 115)) (v := ?_) (a' := ?_) #[true, true, true, true, true, true, true, true, true, true, true, true, true, true, true, true, true, true, true, true, true, true, true, true, true, true, true, true, true, true, true, true, true, true, true, true, true, true, true, true, true, true, true, true, true, true, true, true, false, false, false, false, false, false, false, false, false, false, false, false, false, false, false, false, false, false, false, false, false, false, false, false, false, false] rfl rfl (take_ofW HT_.out HW_.out (by kernel_rfl)) (fun _ _ _ h => h) (Or.inl ⟨by rfl, ?_⟩) hHeld ?_ ?_
    rotate_left
    · rintro w' ⟨s_, s0, s1, s2, s3, s4, s5, s6, s7, s8⟩
      go_simp
      first | done | with_reducible rfl
    rotate_left
    · simp only [Act.put, List.setIfInBounds_toArray, List.set_cons_zero, List.set_cons_succ, i64_w, i32_w]
      rfl
    refine take_ (i := 48) (N := (some 116)) (v := ?_) (a' := ?_) #[true, true, true, true, true, true, true, true, true, true, true, true, true, true, true, true, true, true, true, true, true, true, true, true, true, true, true, true, true, true, true, true, true, true, true, true, true, true, true, true, true, true, true, true, true, true, true, true, true, false, false, false, false, false, false, false, false, false, false, false, false, false, false, false, false, false, false, false, false, false, false, false, false, false] rfl rfl (take_ofW HT_.out HW_.out (by kernel_rfl)) (fun _ _ _ h => h) (Or.inl ⟨by rfl, ?_⟩) hHeld ?_ ?_
    rotate_left
    · rintro w' ⟨s_, s0, s1, s2, s3, s4, s5, s6, s7, s8⟩
      go_simp
      first | done | with_reducible rfl
    rotate_left
    · simp only [Act.put, List.setIfInBounds_toArray, List.set_cons_zero, List.set_cons_succ, i64_w, i32_w]
      rfl
    refine take_ (i := 50) (N := (some 118)) (v := ?_) (a' := ?_) #[true, true, true, true, true, true, true, true, true, true, true, true, true, true, true, true, true, true, true, true, true, true, true, true, true, true, true, true, true, true, true, true, true, true, true, true, true, true, true, true, true, true, true, true, true, true, true, true, true, false, true, false, false, false, false, false, false, false, false, false, false, false, false, false, false, false, false, false, false, false, false, false, false, false] rfl rfl (take_ofW HT_.out HW_.out (by kernel_rfl)) (fun _ _ _ h => h) (Or.inl ⟨by rfl, ?_⟩) hHeld ?_ ?_
    rotate_left
    · rintro w' ⟨s_, s0, s1, s2, s3, s4, s5, s6, s7, s8⟩
      go_simp
      first | done | with_reducible rfl
    rotate_left
    · simp only [Act.put, List.setIfInBounds_toArray, List.set_cons_zero, List.set_cons_succ, i64_w, i32_w]
      rfl
    refine one_ (i := 49) (N := (some 117)) #[true, true, true, true, true, true, true, true, true, true, true, true, true, true, true, true, true, true, true, true, true, true, true, true, true, true, true, true, true, true, true, true, true, true, true, true, true, true, true, true, true, true, true, true, true, true, true, true, true, true, true, false, false, false, false, false, false, false, false, false, false, false, false, false, false, false, false, false, false, false, false, false, false, false] rfl rfl (one_of HT_.out (by kernel_rfl)) (by decide) (fun K hK => ?_)
    refine goes_ Try.func51 (by kernel_rfl) rfl #[.agg #[.slice Aa a.length da], .agg #[.slice Aab ab.length dab]] (by rfl) rfl rfl (by (try simp only [List.map_toArray, List.map_cons, List.map_nil]); first | done | rfl) ?_
    refine (intset_Intersect.calls k Aa da a Aab dab ab p _ (Kd.C_below Ba.out.row hHeld.1) Ba.out.cap (Kd.C_below Bab.out.row hHeld.1) Bab.out.cap HF.out.i_p).mono ?_
    rintro e w40 ⟨v0, rfl, hR, hb1⟩
    obtain ⟨Ap, dp, rfl, hc1, hC1⟩ := Kd.R_reads hR
    have C_p := Aside0.mk hC1
    have L_p := Aside0.mk hc1
    clear hR hC1 hc1
    refine ⟨_, rfl, ?_⟩
    refine hK.out _ _ (held_keep9 hb1 hHeld) (fun hHeld => ?_)
    clear hK K
    refine norm_ (a' := ?_) ?_ ?_
    rotate_left
    · show Act.put _ (some 117) _ = _
      simp only [Act.put, List.setIfInBounds_toArray, List.set_cons_zero, List.set_cons_succ, i64_w, i32_w]
      rfl
    refine one_ (i := 51) (N := (some 119)) #[true, true, true, true, true, true, true, true, true, true, true, true, true, true, true, true, true, true, true, true, true, true, true, true, true, true, true, true, true, true, true, true, true, true, true, true, true, true, true, true, true, true, true, true, true, true, true, true, true, true, true, true, false, false, false, false, false, false, false, false, false, false, false, false, false, false, false, false, false, false, false, false, false, false] rfl rfl (one_of HT_.out (by kernel_rfl)) (by decide) (fun K hK => ?_)
    refine goes_ Try.func29 (by kernel_rfl) rfl #[.agg #[.slice Ap p.length dp], .agg #[.slice Aa a.length da]] (by rfl) rfl rfl (by (try simp only [List.map_toArray, List.map_cons, List.map_nil]); first | done | rfl) ?_
    refine (soundserviceref09_Same.calls k Ap dp p Aa da a true _ C_p.out L_p.out (Kd.C_below Ba.out.row hHeld.1) Ba.out.cap HF.out.s_p).mono ?_
    rintro e w40 ⟨rfl, hb1⟩
    refine ⟨_, rfl, ?_⟩
    refine hK.out _ _ (held_keep9 hb1 hHeld) (fun hHeld => ?_)
    clear hK K
    refine norm_ (a' := ?_) ?_ ?_
    rotate_left
    · show Act.put _ (some 119) _ = _
      simp only [Act.put, List.setIfInBounds_toArray, List.set_cons_zero, List.set_cons_succ, i64_w, i32_w]
      rfl
    refine pure_ (i := 52) (N := (some 120)) (v := ?_) (a' := ?_) #[true, true, true, true, true, true, true, true, true, true, true, true, true, true, true, true, true, true, true, true, true, true, true, true, true, true, true, true, true, true, true, true, true, true, true, true, true, true, true, true, true, true, true, true, true, true, true, true, true, true, true, true, true, false, false, false, false, false, false, false, false, false, false, false, false, false, false, false, false, false, false, false, false, false] rfl rfl (any_of HT_.out (by kernel_rfl)) (fun _ _ _ h => h) (Or.inl ⟨by rfl, ?_⟩) ?_ ?_
    rotate_left
    · intro w'
      go_simp
      first | done | with_reducible rfl
    rotate_left
    · simp only [Act.put, List.setIfInBounds_toArray, List.set_cons_zero, List.set_cons_succ, i64_w, i32_w]
      rfl
    refine pure_ (i := 53) (N := (some 121)) (v := ?_) (a' := ?_) #[true, true, true, true, true, true, true, true, true, true, true, true, true, true, true, true, true, true, true, true, true, true, true, true, true, true, true, true, true, true, true, true, true, true, true, true, true, true, true, true, true, true, true, true, true, true, true, true, true, true, true, true, true, true, false, false, false, false, false, false, false, false, false, false, false, false, false, false, false, false, false, false, false, false] rfl rfl (any_of HT_.out (by kernel_rfl)) (fun _ _ _ h => h) (Or.inl ⟨by rfl, ?_⟩) ?_ ?_
    rotate_left
    · intro w'
      go_simp
      first | done | with_reducible rfl
    rotate_left
    · simp only [Act.put, List.setIfInBounds_toArray, List.set_cons_zero, List.set_cons_succ, i64_w, i32_w]
      rfl
    refine take_ (i := 54) (N := (some 122)) (v := ?_) (a' := ?_) #[true, true, true, true, true, true, true, true, true, true, true, true, true, true, true, true, true, true, true, true, true, true, true, true, true, true, true, true, true, true, true, true, true, true, true, true, true, true, true, true, true, true, true, true, true, true, true, true, true, true, true, true, true, true, true, false, false, false, false, false, false, false, false, false, false, false, false, false, false, false, false, false, false, false] rfl rfl (take_ofW HT_.out HW_.out (by kernel_rfl)) (fun _ _ _ h => h) (Or.inl ⟨by rfl, ?_⟩) hHeld ?_ ?_
    rotate_left
    · rintro w' ⟨s_, s0, s1, s2, s3, s4, s5, s6, s7, s8⟩
      go_simp
      first | done | with_reducible rfl
    rotate_left
    · simp only [Act.put, List.setIfInBounds_toArray, List.set_cons_zero, List.set_cons_succ, i64_w, i32_w]
      rfl
    refine take_ (i := 55) (N := (some 123)) (v := ?_) (a' := ?_) #[true, true, true, true, true, true, true, true, true, true, true, true, true, true, true, true, true, true, true, true, true, true, true, true, true, true, true, true, true, true, true, true, true, true, true, true, true, true, true, true, true, true, true, true, true, true, true, true, true, true, true, true, true, true, true, true, false, false, false, false, false, false, false, false, false, false, false, false, false, false, false, false, false, false] rfl rfl (take_ofW HT_.out HW_.out (by kernel_rfl)) (fun _ _ _ h => h) (Or.inl ⟨by rfl, ?_⟩) hHeld ?_ ?_
    rotate_left
    · rintro w' ⟨s_, s0, s1, s2, s3, s4, s5, s6, s7, s8⟩
      go_simp
      first | done | with_reducible rfl
    rotate_left
    · simp only [Act.put, List.setIfInBounds_toArray, List.set_cons_zero, List.set_cons_succ, i64_w, i32_w]
      rfl
    refine take_ (i := 57) (N := (some 125)) (v := ?_) (a' := ?_) #[true, true, true, true, true, true, true, true, true, true, true, true, true, true, true, true, true, true, true, true, true, true, true, true, true, true, true, true, true, true, true, true, true, true, true, true, true, true, true, true, true, true, true, true, true, true, true, true, true, true, true, true, true, true, true, true, false, true, false, false, false, false, false, false, false, false, false, false, false, false, false, false, false, false] rfl rfl (take_ofW HT_.out HW_.out (by kernel_rfl)) (fun _ _ _ h => h) (Or.inl ⟨by rfl, ?_⟩) hHeld ?_ ?_
    rotate_left
    · rintro w' ⟨s_, s0, s1, s2, s3, s4, s5, s6, s7, s8⟩
      go_simp
      first | done | with_reducible rfl
    rotate_left
    · simp only [Act.put, List.setIfInBounds_toArray, List.set_cons_zero, List.set_cons_succ, i64_w, i32_w]
      rfl
    refine one_ (i := 56) (N := (some 124)) #[true, true, true, true, true, true, true, true, true, true, true, true, true, true, true, true, true, true, true, true, true, true, true, true, true, true, true, true, true, true, true, true, true, true, true, true, true, true, true, true, true, true, true, true, true, true, true, true, true, true, true, true, true, true, true, true, true, true, false, false, false, false, false, false, false, false, false, false, false, false, false, false, false, false] rfl rfl (one_of HT_.out (by kernel_rfl)) (by decide) (fun K hK => ?_)
    refine goes_ Try.func51 (by kernel_rfl) rfl #[.agg #[.slice Aa a.length da], .agg #[.slice Aa a.length da]] (by rfl) rfl rfl (by (try simp only [List.map_toArray, List.map_cons, List.map_nil]); first | done | rfl) ?_
    refine (intset_Intersect.calls k Aa da a Aa da a q _ (Kd.C_below Ba.out.row hHeld.1) Ba.out.cap (Kd.C_below Ba.out.row hHeld.1) Ba.out.cap HF.out.i_q).mono ?_
    rintro e w40 ⟨v0, rfl, hR, hb1⟩
    obtain ⟨Aq, dq, rfl, hc1, hC1⟩ := Kd.R_reads hR
    have C_q := Aside0.mk hC1
    have L_q := Aside0.mk hc1
    clear hR hC1 hc1
    refine ⟨_, rfl, ?_⟩
    refine hK.out _ _ (held_keep9 hb1 hHeld) (fun hHeld => ?_)
    clear hK K
    refine norm_ (a' := ?_) ?_ ?_
    rotate_left
    · show Act.put _ (some 124) _ = _
      simp only [Act.put, List.setIfInBounds_toArray, List.set_cons_zero, List.set_cons_succ, i64_w, i32_w]
      rfl
    refine one_ (i := 58) (N := (some 126)) #[true, true, true, true, true, true, true, true, true, true, true, true, true, true, true, true, true, true, true, true, true, true, true, true, true, true, true, true, true, true, true, true, true, true, true, true, true, true, true, true, true, true, true, true, true, true, true, true, true, true, true, true, true, true, true, true, true, true, true, false, false, false, false, false, false, false, false, false, false, false, false, false, false, false] rfl rfl (one_of HT_.out (by kernel_rfl)) (by decide) (fun K hK => ?_)
    refine goes_ Try.func29 (by kernel_rfl) rfl #[.agg #[.slice Aq q.length dq], .agg #[.slice Aa a.length da]] (by rfl) rfl rfl (by (try simp only [List.map_toArray, List.map_cons, List.map_nil]); first | done | rfl) ?_
    refine (soundserviceref09_Same.calls k Aq dq q Aa da a true _ C_q.out L_q.out (Kd.C_below Ba.out.row hHeld.1) Ba.out.cap HF.out.s_q).mono ?_
    rintro e w40 ⟨rfl, hb1⟩
    refine ⟨_, rfl, ?_⟩
    refine hK.out _ _ (held_keep9 hb1 hHeld) (fun hHeld => ?_)
    clear hK K
    refine norm_ (a' := ?_) ?_ ?_
    rotate_left
    · show Act.put _ (some 126) _ = _
      simp only [Act.put, List.setIfInBounds_toArray, List.set_cons_zero, List.set_cons_succ, i64_w, i32_w]
      rfl
    refine pure_ (i := 59) (N := (some 127)) (v := ?_) (a' := ?_) #[true, true, true, true, true, true, true, true, true, true, true, true, true, true, true, true, true, true, true, true, true, true, true, true, true, true, true, true, true, true, true, true, true, true, true, true, true, true, true, true, true, true, true, true, true, true, true, true, true, true, true, true, true, true, true, true, true, true, true, true, false, false, false, false, false, false, false, false, false, false, false, false, false, false] rfl rfl (any_of HT_.out (by kernel_rfl)) (fun _ _ _ h => h) (Or.inl ⟨by rfl, ?_⟩) ?_ ?_
    rotate_left
    · intro w'
      go_simp
      first | done | with_reducible rfl
    rotate_left
    · simp only [Act.put, List.setIfInBounds_toArray, List.set_cons_zero, List.set_cons_succ, i64_w, i32_w]
      rfl
    refine pure_ (i := 60) (N := (some 128)) (v := ?_) (a' := ?_) #[true, true, true, true, true, true, true, true, true, true, true, true, true, true, true, true, true, true, true, true, true, true, true, true, true, true, true, true, true, true, true, true, true, true, true, true, true, true, true, true, true, true, true, true, true, true, true, true, true, true, true, true, true, true, true, true, true, true, true, true, true, false, false, false, false, false, false, false, false, false, false, false, false, false] rfl rfl (any_of HT_.out (by kernel_rfl)) (fun _ _ _ h => h) (Or.inl ⟨by rfl, ?_⟩) ?_ ?_
    rotate_left
    · intro w'
      go_simp
      first | done | with_reducible rfl
    rotate_left
    · simp only [Act.put, List.setIfInBounds_toArray, List.set_cons_zero, List.set_cons_succ, i64_w, i32_w]
      rfl
    refine take_ (i := 61) (N := (some 129)) (v := ?_) (a' := ?_) #[true, true, true, true, true, true, true, true, true, true, true, true, true, true, true, true, true, true, true, true, true, true, true, true, true, true, true, true, true, true, true, true, true, true, true, true, true, true, true, true, true, true, true, true, true, true, true, true, true, true, true, true, true, true, true, true, true, true, true, true, true, true, false, false, false, false, false, false, false, false, false, false, false, false] rfl rfl (take_ofW HT_.out HW_.out (by kernel_rfl)) (fun _ _ _ h => h) (Or.inl ⟨by rfl, ?_⟩) hHeld ?_ ?_
    rotate_left
    · rintro w' ⟨s_, s0, s1, s2, s3, s4, s5, s6, s7, s8⟩
      go_simp
      first | done | with_reducible rfl
    rotate_left
    · simp only [Act.put, List.setIfInBounds_toArray, List.set_cons_zero, List.set_cons_succ, i64_w, i32_w]
      rfl
    refine take_ (i := 62) (N := (some 130)) (v := ?_) (a' := ?_) #[true, true, true, true, true, true, true, true, true, true, true, true, true, true, true, true, true, true, true, true, true, true, true, true, true, true, true, true, true, true, true, true, true, true, true, true, true, true, true, true, true, true, true, true, true, true, true, true, true, true, true, true, true, true, true, true, true, true, true, true, true, true, true, false, false, false, false, false, false, false, false, false, false, false] rfl rfl (take_ofW HT_.out HW_.out (by kernel_rfl)) (fun _ _ _ h => h) (Or.inl ⟨by rfl, ?_⟩) hHeld ?_ ?_
    rotate_left
    · rintro w' ⟨s_, s0, s1, s2, s3, s4, s5, s6, s7, s8⟩
      go_simp
      first | done | with_reducible rfl
    rotate_left
    · simp only [Act.put, List.setIfInBounds_toArray, List.set_cons_zero, List.set_cons_succ, i64_w, i32_w]
      rfl
    refine take_ (i := 64) (N := (some 132)) (v := ?_) (a' := ?_) #[true, true, true, true, true, true, true, true, true, true, true, true, true, true, true, true, true, true, true, true, true, true, true, true, true, true, true, true, true, true, true, true, true, true, true, true, true, true, true, true, true, true, true, true, true, true, true, true, true, true, true, true, true, true, true, true, true, true, true, true, true, true, true, false, true, false, false, false, false, false, false, false, false, false] rfl rfl (take_ofW HT_.out HW_.out (by kernel_rfl)) (fun _ _ _ h => h) (Or.inl ⟨by rfl, ?_⟩) hHeld ?_ ?_
    rotate_left
    · rintro w' ⟨s_, s0, s1, s2, s3, s4, s5, s6, s7, s8⟩
      go_simp
      first | done | with_reducible rfl
    rotate_left
    · simp only [Act.put, List.setIfInBounds_toArray, List.set_cons_zero, List.set_cons_succ, i64_w, i32_w]
      rfl
    refine take_ (i := 66) (N := (some 134)) (v := ?_) (a' := ?_) #[true, true, true, true, true, true, true, true, true, true, true, true, true, true, true, true, true, true, true, true, true, true, true, true, true, true, true, true, true, true, true, true, true, true, true, true, true, true, true, true, true, true, true, true, true, true, true, true, true, true, true, true, true, true, true, true, true, true, true, true, true, true, true, false, true, false, true, false, false, false, false, false, false, false] rfl rfl (take_ofW HT_.out HW_.out (by kernel_rfl)) (fun _ _ _ h => h) (Or.inl ⟨by rfl, ?_⟩) hHeld ?_ ?_
    rotate_left
    · rintro w' ⟨s_, s0, s1, s2, s3, s4, s5, s6, s7, s8⟩
      go_simp
      first | done | with_reducible rfl
    rotate_left
    · simp only [Act.put, List.setIfInBounds_toArray, List.set_cons_zero, List.set_cons_succ, i64_w, i32_w]
      rfl
    refine take_ (i := 67) (N := (some 135)) (v := ?_) (a' := ?_) #[true, true, true, true, true, true, true, true, true, true, true, true, true, true, true, true, true, true, true, true, true, true, true, true, true, true, true, true, true, true, true, true, true, true, true, true, true, true, true, true, true, true, true, true, true, true, true, true, true, true, true, true, true, true, true, true, true, true, true, true, true, true, true, false, true, false, true, true, false, false, false, false, false, false] rfl rfl (take_ofW HT_.out HW_.out (by kernel_rfl)) (fun _ _ _ h => h) (Or.inl ⟨by rfl, ?_⟩) hHeld ?_ ?_
    rotate_left
    · rintro w' ⟨s_, s0, s1, s2, s3, s4, s5, s6, s7, s8⟩
      go_simp
      first | done | with_reducible rfl
    rotate_left
    · simp only [Act.put, List.setIfInBounds_toArray, List.set_cons_zero, List.set_cons_succ, i64_w, i32_w]
      rfl
    refine take_ (i := 68) (N := (some 136)) (v := ?_) (a' := ?_) #[true, true, true, true, true, true, true, true, true, true, true, true, true, true, true, true, true, true, true, true, true, true, true, true, true, true, true, true, true, true, true, true, true, true, true, true, true, true, true, true, true, true, true, true, true, true, true, true, true, true, true, true, true, true, true, true, true, true, true, true, true, true, true, false, true, false, true, true, true, false, false, false, false, false] rfl rfl (take_ofW HT_.out HW_.out (by kernel_rfl)) (fun _ _ _ h => h) (Or.inl ⟨by rfl, ?_⟩) hHeld ?_ ?_
    rotate_left
    · rintro w' ⟨s_, s0, s1, s2, s3, s4, s5, s6, s7, s8⟩
      go_simp
      first | done | with_reducible rfl
    rotate_left
    · simp only [Act.put, List.setIfInBounds_toArray, List.set_cons_zero, List.set_cons_succ, i64_w, i32_w]
      rfl
    refine one_ (i := 63) (N := (some 131)) #[true, true, true, true, true, true, true, true, true, true, true, true, true, true, true, true, true, true, true, true, true, true, true, true, true, true, true, true, true, true, true, true, true, true, true, true, true, true, true, true, true, true, true, true, true, true, true, true, true, true, true, true, true, true, true, true, true, true, true, true, true, true, true, true, true, false, true, true, true, false, false, false, false, false] rfl rfl (one_of HT_.out (by kernel_rfl)) (by decide) (fun K hK => ?_)
    refine goes_ Try.func51 (by kernel_rfl) rfl #[.agg #[.slice Aa a.length da], .agg #[.slice Ab b.length db]] (by rfl) rfl rfl (by (try simp only [List.map_toArray, List.map_cons, List.map_nil]); first | done | rfl) ?_
    refine (intset_Intersect.calls k Aa da a Ab db b i _ (Kd.C_below Ba.out.row hHeld.1) Ba.out.cap (Kd.C_below Bb.out.row hHeld.1) Bb.out.cap HF.out.i_i).mono ?_
    rintro e w40 ⟨v0, rfl, hR, hb1⟩
    obtain ⟨Ai, di, rfl, hc1, hC1⟩ := Kd.R_reads hR
    have C_i := Aside0.mk hC1
    have L_i := Aside0.mk hc1
    clear hR hC1 hc1
    refine ⟨_, rfl, ?_⟩
    refine hK.out _ _ (held_keep9 hb1 hHeld) (fun hHeld => ?_)
    clear hK K
    refine norm_ (a' := ?_) ?_ ?_
    rotate_left
    · show Act.put _ (some 131) _ = _
      simp only [Act.put, List.setIfInBounds_toArray, List.set_cons_zero, List.set_cons_succ, i64_w, i32_w]
      rfl
    refine one_ (i := 65) (N := (some 133)) #[true, true, true, true, true, true, true, true, true, true, true, true, true, true, true, true, true, true, true, true, true, true, true, true, true, true, true, true, true, true, true, true, true, true, true, true, true, true, true, true, true, true, true, true, true, true, true, true, true, true, true, true, true, true, true, true, true, true, true, true, true, true, true, true, true, true, true, true, true, false, false, false, false, false] rfl rfl (one_of HT_.out (by kernel_rfl)) (by decide) (fun K hK => ?_)
    refine goes_ Try.func51 (by kernel_rfl) rfl #[.agg #[.slice Ai i.length di], .agg #[.slice Ac c.length dc]] (by rfl) rfl rfl (by (try simp only [List.map_toArray, List.map_cons, List.map_nil]); first | done | rfl) ?_
    refine (intset_Intersect.calls k Ai di i Ac dc c u _ C_i.out L_i.out (Kd.C_below Bc.out.row hHeld.1) Bc.out.cap HF.out.i_u).mono ?_
    rintro e w40 ⟨v0, rfl, hR, hb1⟩
    obtain ⟨Au, du, rfl, hc1, hC1⟩ := Kd.R_reads hR
    replace C_i := Aside0.mk (Kd.C_below C_i.out hb1)
    have C_u := Aside0.mk hC1
    have L_u := Aside0.mk hc1
    clear hR hC1 hc1
    refine ⟨_, rfl, ?_⟩
    refine hK.out _ _ (held_keep9 hb1 hHeld) (fun hHeld => ?_)
    clear hK K
    refine norm_ (a' := ?_) ?_ ?_
    rotate_left
    · show Act.put _ (some 133) _ = _
      simp only [Act.put, List.setIfInBounds_toArray, List.set_cons_zero, List.set_cons_succ, i64_w, i32_w]
      rfl
    refine one_ (i := 69) (N := (some 137)) #[true, true, true, true, true, true, true, true, true, true, true, true, true, true, true, true, true, true, true, true, true, true, true, true, true, true, true, true, true, true, true, true, true, true, true, true, true, true, true, true, true, true, true, true, true, true, true, true, true, true, true, true, true, true, true, true, true, true, true, true, true, true, true, true, true, true, true, true, true, true, false, false, false, false] rfl rfl (one_of HT_.out (by kernel_rfl)) (by decide) (fun K hK => ?_)
    refine goes_ Try.func51 (by kernel_rfl) rfl #[.agg #[.slice Ab b.length db], .agg #[.slice Ac c.length dc]] (by rfl) rfl rfl (by (try simp only [List.map_toArray, List.map_cons, List.map_nil]); first | done | rfl) ?_
    refine (intset_Intersect.calls k Ab db b Ac dc c bi _ (Kd.C_below Bb.out.row hHeld.1) Bb.out.cap (Kd.C_below Bc.out.row hHeld.1) Bc.out.cap HF.out.i_bi).mono ?_
    rintro e w40 ⟨v0, rfl, hR, hb1⟩
    obtain ⟨Abi, dbi, rfl, hc1, hC1⟩ := Kd.R_reads hR
    replace C_i := Aside0.mk (Kd.C_below C_i.out hb1)
    replace C_u := Aside0.mk (Kd.C_below C_u.out hb1)
    have C_bi := Aside0.mk hC1
    have L_bi := Aside0.mk hc1
    clear hR hC1 hc1
    refine ⟨_, rfl, ?_⟩
    refine hK.out _ _ (held_keep9 hb1 hHeld) (fun hHeld => ?_)
    clear hK K
    refine norm_ (a' := ?_) ?_ ?_
    rotate_left
    · show Act.put _ (some 137) _ = _
      simp only [Act.put, List.setIfInBounds_toArray, List.set_cons_zero, List.set_cons_succ, i64_w, i32_w]
      rfl
    refine one_ (i := 70) (N := (some 138)) #[true, true, true, true, true, true, true, true, true, true, true, true, true, true, true, true, true, true, true, true, true, true, true, true, true, true, true, true, true, true, true, true, true, true, true, true, true, true, true, true, true, true, true, true, true, true, true, true, true, true, true, true, true, true, true, true, true, true, true, true, true, true, true, true, true, true, true, true, true, true, true, false, false, false] rfl rfl (one_of HT_.out (by kernel_rfl)) (by decide) (fun K hK => ?_)
    refine goes_ Try.func51 (by kernel_rfl) rfl #[.agg #[.slice Aa a.length da], .agg #[.slice Abi bi.length dbi]] (by rfl) rfl rfl (by (try simp only [List.map_toArray, List.map_cons, List.map_nil]); first | done | rfl) ?_
    refine (intset_Intersect.calls k Aa da a Abi dbi bi v _ (Kd.C_below Ba.out.row hHeld.1) Ba.out.cap C_bi.out L_bi.out HF.out.i_v).mono ?_
    rintro e w40 ⟨v0, rfl, hR, hb1⟩
    obtain ⟨Av, dv, rfl, hc1, hC1⟩ := Kd.R_reads hR
    replace C_i := Aside0.mk (Kd.C_below C_i.out hb1)
    replace C_u := Aside0.mk (Kd.C_below C_u.out hb1)
    replace C_bi := Aside0.mk (Kd.C_below C_bi.out hb1)
    have C_v := Aside0.mk hC1
    have L_v := Aside0.mk hc1
    clear hR hC1 hc1
    refine ⟨_, rfl, ?_⟩
    refine hK.out _ _ (held_keep9 hb1 hHeld) (fun hHeld => ?_)
    clear hK K
    refine norm_ (a' := ?_) ?_ ?_
    rotate_left
    · show Act.put _ (some 138) _ = _
      simp only [Act.put, List.setIfInBounds_toArray, List.set_cons_zero, List.set_cons_succ, i64_w, i32_w]
      rfl
    refine one_ (i := 71) (N := (some 139)) #[true, true, true, true, true, true, true, true, true, true, true, true, true, true, true, true, true, true, true, true, true, true, true, true, true, true, true, true, true, true, true, true, true, true, true, true, true, true, true, true, true, true, true, true, true, true, true, true, true, true, true, true, true, true, true, true, true, true, true, true, true, true, true, true, true, true, true, true, true, true, true, true, false, false] rfl rfl (one_of HT_.out (by kernel_rfl)) (by decide) (fun K hK => ?_)
    refine goes_ Try.func29 (by kernel_rfl) rfl #[.agg #[.slice Au u.length du], .agg #[.slice Av v.length dv]] (by rfl) rfl rfl (by (try simp only [List.map_toArray, List.map_cons, List.map_nil]); first | done | rfl) ?_
    refine (soundserviceref09_Same.calls k Au du u Av dv v true _ C_u.out L_u.out C_v.out L_v.out HF.out.s_u).mono ?_
    rintro e w40 ⟨rfl, hb1⟩
    refine ⟨_, rfl, ?_⟩
    refine hK.out _ _ (held_keep9 hb1 hHeld) (fun hHeld => ?_)
    clear hK K
    refine norm_ (a' := ?_) ?_ ?_
    rotate_left
    · show Act.put _ (some 139) _ = _
      simp only [Act.put, List.setIfInBounds_toArray, List.set_cons_zero, List.set_cons_succ, i64_w, i32_w]
      rfl
    refine pure_ (i := 72) (N := (some 140)) (v := ?_) (a' := ?_) #[true, true, true, true, true, true, true, true, true, true, true, true, true, true, true, true, true, true, true, true, true, true, true, true, true, true, true, true, true, true, true, true, true, true, true, true, true, true, true, true, true, true, true, true, true, true, true, true, true, true, true, true, true, true, true, true, true, true, true, true, true, true, true, true, true, true, true, true, true, true, true, true, true, false] rfl rfl (any_of HT_.out (by kernel_rfl)) (fun _ _ _ h => h) (Or.inl ⟨by rfl, ?_⟩) ?_ ?_
    rotate_left
    · intro w'
      go_simp
      first | done | with_reducible rfl
    rotate_left
    · simp only [Act.put, List.setIfInBounds_toArray, List.set_cons_zero, List.set_cons_succ, i64_w, i32_w]
      rfl
    refine pure_ (i := 73) (N := (some 6)) (v := ?_) (a' := ?_) #[true, true, true, true, true, true, true, true, true, true, true, true, true, true, true, true, true, true, true, true, true, true, true, true, true, true, true, true, true, true, true, true, true, true, true, true, true, true, true, true, true, true, true, true, true, true, true, true, true, true, true, true, true, true, true, true, true, true, true, true, true, true, true, true, true, true, true, true, true, true, true, true, true, true] rfl rfl (any_of HT_.out (by kernel_rfl)) (fun _ _ _ h => h) (Or.inl ⟨by rfl, ?_⟩) ?_ ?_
    rotate_left
    · intro w'
      go_simp
      first | done | with_reducible rfl
    rotate_left
    · simp only [Act.put, List.setIfInBounds_toArray, List.set_cons_zero, List.set_cons_succ, i64_w, i32_w]
      rfl
    refine done_ (done_of HT_.out (by kernel_rfl)) ?_
    go_wp2
    go_ret
    exact ⟨rfl, below_then E5.out E5.out.size hHeld.1⟩
def soundservicelaw09_IntsetAlgebra.Pure : Prop := ∀ (l0 : List Int) (l1 : List Int) (l2 : List Int), l0.length ≤ maxLen → l0.length * 1 ≤ 140737488351232 → (∀ x ∈ l0, (Lit.int .u8 x).wf = true) → l1.length ≤ maxLen → l1.length * 1 ≤ 140737488351232 → (∀ x ∈ l1, (Lit.int .u8 x).wf = true) → l2.length ≤ maxLen → l2.length * 1 ≤ 140737488351232 → (∀ x ∈ l2, (Lit.int .u8 x).wf = true) → ∃ (k : Nat) (a b c ab ba i x abc bc cba i' p q u bi v : List S56), AlgebraF k l0 l1 l2 a b c ab ba i x abc bc cba i' p q u bi v
theorem soundservicelaw09_IntsetAlgebra.walk (P : soundservicelaw09_IntsetAlgebra.Pure) (a0 : Option Addr) (len0 cap0 : Nat) (z0 : List Int) (a1 : Option Addr) (len1 cap1 : Nat) (z1 : List Int) (a2 : Option Addr) (len2 cap2 : Nat) (z2 : List Int) (w : World) (w0 : (a0 = none ∧ len0 = 0 ∧ cap0 = 0 ∧ z0 = []) ∨ ∃ x, a0 = some x ∧ len0 ≤ cap0 ∧ cap0 ≤ maxLen ∧ z0.length = cap0 ∧ (∀ i, i < z0.length → w.cell? (x.add i) = some (.int .u8 (z0.getD i 0))) ∧ ∀ n ∈ z0, (Lit.int .u8 n).wf = true) (y0 : len0 * 1 ≤ 140737488351232) (w1 : (a1 = none ∧ len1 = 0 ∧ cap1 = 0 ∧ z1 = []) ∨ ∃ x, a1 = some x ∧ len1 ≤ cap1 ∧ cap1 ≤ maxLen ∧ z1.length = cap1 ∧ (∀ i, i < z1.length → w.cell? (x.add i) = some (.int .u8 (z1.getD i 0))) ∧ ∀ n ∈ z1, (Lit.int .u8 n).wf = true) (y1 : len1 * 1 ≤ 140737488351232) (w2 : (a2 = none ∧ len2 = 0 ∧ cap2 = 0 ∧ z2 = []) ∨ ∃ x, a2 = some x ∧ len2 ≤ cap2 ∧ cap2 ≤ maxLen ∧ z2.length = cap2 ∧ (∀ i, i < z2.length → w.cell? (x.add i) = some (.int .u8 (z2.getD i 0))) ∧ ∀ n ∈ z2, (Lit.int .u8 n).wf = true) (y2 : len2 * 1 ≤ 140737488351232) :
    Calls Try.prog 11 #[.slice a0 len0 cap0, .slice a1 len1 cap1, .slice a2 len2 cap2] w fun e w' => e = .returned (.bool true) ∧ Below w.heap.size w w' := by
  obtain ⟨l0, rfl, hr0, hm0, hw0, hc0⟩ := ReadsInt.ofRowC w0
  obtain ⟨l1, rfl, hr1, hm1, hw1, hc1⟩ := ReadsInt.ofRowC w1
  obtain ⟨l2, rfl, hr2, hm2, hw2, hc2⟩ := ReadsInt.ofRowC w2
  obtain ⟨k, a, b, c, ab, ba, i, x, abc, bc, cba, i', p, q, u, bi, v, F⟩ := P l0 l1 l2 hm0 y0 hw0 hm1 y1 hw1 hm2 y2 hw2
  exact algebra_calls k _ _ l0 _ _ l1 _ _ l2 a b c ab ba i x abc bc cba i' p q u bi v w (Kd.C_of_reads (d := (0 : Int)) (h1 := fun _ => rfl) hr0) hc0 (Kd.C_of_reads (d := (0 : Int)) (h1 := fun _ => rfl) hr1) hc1 (Kd.C_of_reads (d := (0 : Int)) (h1 := fun _ => rfl) hr2) hc2 F
end Go.Proofs.Ytbahibaohehojaa.Q
-- YtbahibaohehojaaQHPBase
namespace Go.Proofs.Ytbahibaohehojaa.Q
open Go.RowKit Go.Proofs.YtbahibaohehojaaW.PrintWords Go.Proofs.YtbahibaohehojaaW.PrintLast Go.Proofs.YtbahibaohehojaaW.PrintMore
attribute [local go_sem] max2_int min2_int max_two min_two max_three min_three max_four min_four
set_option linter.unusedVariables false
set_option linter.unusedSimpArgs false
theorem w64 {e : Int} (h1 : -9223372036854775808 ≤ e) (h2 : e ≤ 9223372036854775807) : wrap64 e = e := by unfold wrap64; omega
theorem getD_at {α : Type} {l : List α} {i : Nat} (h : i < l.length) (z : α) : l.getD i z = l[i] := by
  rw [List.getD_eq_getElem?_getD, List.getElem?_eq_getElem h, Option.getD_some]
theorem rd_nat (l : List S56) (i : Nat) : rd_T56 l (i : Int) = l.getD i z56 := by unfold rd_T56; rw [Int.toNat_natCast]
theorem rdi_nat (l : List Int) (i : Nat) : rd l (i : Int) = l.getD i 0 := by unfold rd; rw [Int.toNat_natCast]
theorem Ev.const {α : Type} {g : Nat → Option α} {r : α} (h : ∀ k, g k = some r) : Ev g r := ⟨0, fun k _ => h k⟩
theorem Ev.last {α : Type} {g : Nat → Option α} {r : α} (h : ∀ k, g (k + 1) = some r) : Ev g r := ⟨1, fun k hk => by
  obtain ⟨m, rfl⟩ : ∃ m, k = m + 1 := ⟨k - 1, by omega⟩
  exact h m⟩
theorem u8_wf {x : Int} (h : (Lit.int .u8 x).wf = true) : 0 ≤ x ∧ x ≤ 255 := by
  simp only [Lit.wf, IntKind.min, IntKind.max, IntKind.signed, IntKind.bits, Bool.and_eq_true, decide_eq_true_eq] at h
  constructor
  · simpa using h.1
  · simpa using h.2
end Go.Proofs.Ytbahibaohehojaa.Q
-- YtbahibaohehojaaQHPMerge
namespace Go.Proofs.Ytbahibaohehojaa.Q
open Go.RowKit Go.Proofs.YtbahibaohehojaaW.PrintWords Go.Proofs.YtbahibaohehojaaW.PrintLast Go.Proofs.YtbahibaohehojaaW.PrintMore
attribute [local go_sem] max2_int min2_int max_two min_two max_three min_three max_four min_four
set_option linter.unusedVariables false
set_option linter.unusedSimpArgs false
theorem merge_l0 (l : List SP) (hok : ∀ x ∈ l, okS x) (hl : l.length < 8796093022208) : ∀ (d i : Nat) (out : List SP), i + d = l.length → out.length ≤ i → (∀ x ∈ out, okS x) →
    Ev (fun k => intset_merge.l0 k out l (l.length : Int) (i : Int)) ((l.drop i).foldl mergeStep out)
  | 0, i, out, hi, _, _ => by
    refine ⟨1, fun k hk => ?_⟩
    obtain ⟨m, rfl⟩ : ∃ m, k = m + 1 := ⟨k - 1, by omega⟩
    simp only [intset_merge.l0]
    rw [if_neg (by omega), List.drop_of_length_le (by omega)]
    rfl
  | d + 1, i, out, hi, ho, hoo => by
    have hlt : i < l.length := by omega
    have hx := hok l[i] (List.getElem_mem hlt)
    have hg : l.getD i z56 = l[i] := getD_at hlt _
    rw [List.drop_eq_getElem_cons hlt, List.foldl_cons]
    generalize hxe : l[i] = x at hx hg
    have hstep : (mergeStep out x).length ≤ i + 1 ∧ ∀ y ∈ mergeStep out x, okS y := by
      unfold mergeStep
      by_cases h0 : out.length = 0
      · rw [if_pos h0]
        exact ⟨by simp, fun y hy => by rw [List.mem_singleton.1 hy]; exact hx⟩
      · rw [if_neg h0]
        have hlast : out.length - 1 < out.length := by omega
        have ht := hoo _ (List.getElem_mem hlast)
        rw [getD_at hlast]
        by_cases h1 : x.f0 ≤ out[out.length - 1].f1 + 1
        · rw [if_pos h1]
          refine ⟨by simp; omega, fun y hy => ?_⟩
          rcases List.mem_or_eq_of_mem_set hy with hy | hy
          · exact hoo y hy
          · rw [hy]
            have hm := mx_cases out[out.length - 1].f1 x.f1
            unfold okS at *
            simp only
            omega
        · rw [if_neg h1]
          refine ⟨by simp; omega, fun y hy => ?_⟩
          rcases List.mem_append.1 hy with hy | hy
          · exact hoo y hy
          · rw [List.mem_singleton.1 hy]; exact hx
    refine Ev.step (f := fun k => intset_merge.l0 k (mergeStep out x) l (l.length : Int) ((i + 1 : Nat) : Int)) (fun k => ?_) (merge_l0 l hok hl d (i + 1) _ (by omega) hstep.1 hstep.2)
    simp only [intset_merge.l0]
    rw [if_pos (by omega), if_pos (by omega), if_pos (by omega), rd_nat, hg, show wrap64 ((i : Int) + 1) = ((i + 1 : Nat) : Int) from by rw [w64 (by omega) (by omega)]; omega]
    by_cases h0 : out.length = 0
    · rw [if_neg (by omega), if_pos (by omega)]
      unfold mergeStep
      rw [if_pos h0, List.eq_nil_of_length_eq_zero h0]
      rfl
    · have hlast : out.length - 1 < out.length := by omega
      have ht := hoo _ (List.getElem_mem hlast)
      unfold okS at ht
      have hw : wrap64 ((out.length : Int) - 1) = ((out.length - 1 : Nat) : Int) := by rw [w64 (by omega) (by omega)]; omega
      rw [if_pos (by omega), hw, if_pos (by omega), if_pos (by omega), rd_nat, getD_at hlast, w64 (by omega) (by omega)]
      unfold mergeStep
      rw [if_neg h0, getD_at hlast]
      by_cases h1 : x.f0 ≤ out[out.length - 1].f1 + 1
      · rw [if_pos h1, if_pos h1, Int.toNat_natCast]
      · rw [if_neg h1, if_neg h1, if_pos (by omega)]
theorem merge_ev (l : List SP) (hok : ∀ x ∈ l, okS x) (hl : l.length < 8796093022208) : Ev (fun k => intset_merge.f k l) (l.foldl mergeStep []) := by
  have := merge_l0 l hok hl l.length 0 [] (by omega) (Nat.le_refl _) (fun _ h => by cases h)
  exact this
theorem fineS_iff (x : SP) : fineS x = true ↔ okS x := by
  unfold fineS okS
  simp only [Bool.and_eq_true, decide_eq_true_eq]
def makeR (l : List SP) : List SP × Int := if ∀ x ∈ l, okS x then (if 64 < (norm l).length then ([], 3) else (norm l, 0)) else ([], 2)
theorem make_ev (l : List SP) (hl : l.length < 8796093022208) : Ev (fun k => intset_Make.f k l) (makeR l) := by
  unfold makeR
  by_cases h : ∀ x ∈ l, okS x
  · have hall : l.all fineS = true := List.all_eq_true.2 (fun x hx => (fineS_iff x).2 (h x hx))
    have hp : (sortSpans (l.pmap Subtype.mk (all_fine hall))).Perm l := by
      have h1 := (sortedBy_perm (ltOf loDiff) loSWO (l.pmap Subtype.mk (all_fine hall))).map Subtype.val
      have h2 : (l.pmap Subtype.mk (all_fine hall)).map Subtype.val = l := by rw [List.map_pmap]; simp
      rw [h2] at h1
      exact h1
    have hs : sortedLo (sortSpans (l.pmap Subtype.mk (all_fine hall))) := by
      have h1 := sortedBy_sorted (ltOf loDiff) loSWO (l.pmap Subtype.mk (all_fine hall))
      unfold sortSpans sortedLo
      rw [List.pairwise_map]
      exact h1.imp (fun {a b} h => by rw [ltLo] at h; simpa using h)
    have hok : ∀ x ∈ sortSpans (l.pmap Subtype.mk (all_fine hall)), okS x := fun x hx => h x (hp.mem_iff.1 hx)
    have hn : (sortSpans (l.pmap Subtype.mk (all_fine hall))).foldl mergeStep [] = norm l := eq_norm h (mergeAll_norm h hp hs).1 (mergeAll_norm h hp hs).2.1
    rw [if_pos h]
    have hm := merge_ev _ hok (by rw [hp.length_eq]; exact hl)
    rw [hn] at hm
    have hc : api_Span.f l = some l := by unfold api_Span.f; rw [if_pos hl]
    refine Ev.congr (f := fun k => (intset_merge.f k (sortSpans (l.pmap Subtype.mk (all_fine hall)))).bind fun out => if 64 < out.length then some ([], 3) else some (out, 0)) (fun k => ?_) (Ev.bind (f := fun _ out => if 64 < out.length then some ([], 3) else some (out, 0)) hm ?_)
    · unfold intset_Make.f
      rw [dif_pos hall, hc]
      rfl
    · exact ⟨0, fun _ _ => by by_cases h64 : 64 < (norm l).length <;> simp [h64]⟩
  · have hall : ¬ l.all fineS = true := fun ha => h (fun x hx => (fineS_iff x).1 (List.all_eq_true.1 ha x hx))
    rw [if_neg h]
    exact Ev.const (fun k => by unfold intset_Make.f; rw [dif_neg hall])
end Go.Proofs.Ytbahibaohehojaa.Q
-- YtbahibaohehojaaQHPValid
namespace Go.Proofs.Ytbahibaohehojaa.Q
open Go.RowKit Go.Proofs.YtbahibaohehojaaW.PrintWords Go.Proofs.YtbahibaohehojaaW.PrintLast Go.Proofs.YtbahibaohehojaaW.PrintMore
attribute [local go_sem] max2_int min2_int max_two min_two max_three min_three max_four min_four
set_option linter.unusedVariables false
set_option linter.unusedSimpArgs false
def okV (l : List SP) : Prop := Canon l ∧ l.length ≤ 64
noncomputable instance (l : List SP) : Decidable (okV l) := Classical.propDecidable _
noncomputable def spansR (l : List SP) : List SP := if okV l then l else []
theorem spansR_canon (l : List SP) : Canon (spansR l) ∧ (spansR l).length ≤ 64 := by
  unfold spansR
  by_cases h : okV l
  · rw [if_pos h]; exact h
  · rw [if_neg h]; exact ⟨Canon.nil, by simp⟩
theorem spansR_of {l : List SP} (h : okV l) : spansR l = l := if_pos h
theorem Canon.take {l : List SP} (h : Canon l) (i : Nat) : Canon (l.take i) := ⟨fun x hx => h.ok x (List.mem_of_mem_take hx), h.sep.sublist (List.take_sublist _ _)⟩
theorem take_canon {l : List SP} {i : Nat} (hi : i < l.length) (hc : Canon (l.take i)) (hx : okS l[i]) (hp : ∀ h : 0 < i, (l[i - 1]'(by omega)).f1 + 1 < l[i].f0) : Canon (l.take (i + 1)) := by
  rw [List.take_succ_eq_append_getElem hi, canon_snoc]
  refine ⟨hc, hx, fun x hm => ?_⟩
  obtain ⟨j, hj, rfl⟩ := List.mem_iff_getElem.1 hm
  have hji : j < i := by rw [List.length_take] at hj; omega
  rw [List.getElem_take]
  have hlast := hp (by omega)
  by_cases he : j = i - 1
  · subst he; exact hlast
  · have h1 := List.pairwise_iff_getElem.1 hc.sep j (i - 1) hj (by rw [List.length_take]; omega) (by omega)
    rw [List.getElem_take, List.getElem_take] at h1
    have h2 : okS (l[i - 1]'(by omega)) := hc.ok _ (List.mem_iff_getElem.2 ⟨i - 1, by rw [List.length_take]; omega, by rw [List.getElem_take]⟩)
    unfold okS at h2
    omega
theorem canon_at {l : List SP} {i : Nat} (hi : i < l.length) (hc : Canon l) : okS l[i] ∧ ∀ h : 0 < i, (l[i - 1]'(by omega)).f1 + 1 < l[i].f0 :=
  ⟨hc.ok _ (List.getElem_mem hi), fun h => List.pairwise_iff_getElem.1 hc.sep (i - 1) i (by omega) hi (by omega)⟩
theorem fine_ev (x : SP) : intset_fine.f x.f0 x.f1 = some (fineS x) := by
  unfold intset_fine.f fineS
  by_cases h0 : 0 ≤ x.f0 <;> by_cases h1 : x.f0 ≤ x.f1 <;> by_cases h2 : x.f1 ≤ 2147483647 <;> simp only [h0, h1, h2, if_true, if_false, decide_true, decide_false, Bool.true_and, Bool.false_and, Bool.and_true, Bool.and_false]
theorem valid_l0 (l : List SP) (b : Bool) (hb : b = true ↔ okV l) (hl : l.length < 8796093022208) : ∀ (d i : Nat), i + d = l.length → Canon (l.take i) →
    Ev (fun k => intset_Valid.l0 k l (l.length : Int) (i : Int) l) b
  | 0, i, hi, hc => by
    rw [List.take_of_length_le (by omega)] at hc
    refine Ev.last fun k => ?_
    simp only [intset_Valid.l0]
    rw [if_neg (by omega)]
    by_cases h : l.length ≤ 64
    · rw [hb.2 ⟨hc, h⟩]; simp; omega
    · have : b = false := by cases hbb : b; rfl; exact absurd (hb.1 hbb).2 h
      rw [this]; simp; omega
  | d + 1, i, hi, hc => by
    have hlt : i < l.length := by omega
    have hfalse : ∀ (_ : ¬ okV l), b = false := fun h => by cases hbb : b; rfl; exact absurd (hb.1 hbb) h
    have hg : rd_T56 l (i : Int) = l[i] := by rw [rd_nat, getD_at hlt]
    have hw1 : wrap64 ((i : Int) + 1) = ((i + 1 : Nat) : Int) := by rw [w64 (by omega) (by omega)]; omega
    by_cases hx : okS l[i]
    · by_cases h0 : 0 < i
      · have hw : wrap64 ((i : Int) - 1) = ((i - 1 : Nat) : Int) := by rw [w64 (by omega) (by omega)]; omega
        have hp1 : i - 1 < l.length := by omega
        have hg' : rd_T56 l ((i - 1 : Nat) : Int) = l[i - 1] := by rw [rd_nat, getD_at hp1]
        have hpo : okS l[i - 1] := hc.ok _ (List.mem_iff_getElem.2 ⟨i - 1, by rw [List.length_take]; omega, by rw [List.getElem_take]⟩)
        unfold okS at hpo
        by_cases hs : l[i].f0 ≤ l[i - 1].f1 + 1
        · have hn : ¬ okV l := fun h => by have := (canon_at hlt h.1).2 h0; omega
          rw [hfalse hn]
          refine Ev.last fun k => ?_
          simp only [intset_Valid.l0]
          rw [if_pos (by omega), if_pos (by omega), if_pos (by omega), hg, fine_ev, Option.bind_some, if_pos ((fineS_iff _).2 hx), if_pos (by omega), hw, if_pos (by omega), if_pos (by omega), hg', w64 (by omega) (by omega), if_pos hs]
        · refine Ev.step (fun k => ?_) (valid_l0 l b hb hl d (i + 1) (by omega) (take_canon hlt hc hx (fun _ => by omega)))
          simp only [intset_Valid.l0]
          rw [if_pos (by omega), if_pos (by omega), if_pos (by omega), hg, fine_ev, Option.bind_some, if_pos ((fineS_iff _).2 hx), if_pos (by omega), hw, if_pos (by omega), if_pos (by omega), hg', w64 (by omega) (by omega), if_neg hs, hw1]
      · refine Ev.step (fun k => ?_) (valid_l0 l b hb hl d (i + 1) (by omega) (take_canon hlt hc hx (fun h => absurd h h0)))
        simp only [intset_Valid.l0]
        rw [if_pos (by omega), if_pos (by omega), if_pos (by omega), hg, fine_ev, Option.bind_some, if_pos ((fineS_iff _).2 hx), if_neg (by omega), hw1]
    · have hn : ¬ okV l := fun h => hx (canon_at hlt h.1).1
      rw [hfalse hn]
      refine Ev.last fun k => ?_
      simp only [intset_Valid.l0]
      rw [if_pos (by omega), if_pos (by omega), if_pos (by omega), hg, fine_ev, Option.bind_some, if_neg (fun h => hx ((fineS_iff _).1 h))]
theorem valid_ev (l : List SP) (hl : l.length < 8796093022208) : Ev (fun k => intset_Valid.f k l) (decide (okV l)) := valid_l0 l _ (by simp) hl l.length 0 (by omega) Canon.nil
theorem spans_ev (l : List SP) (hl : l.length < 8796093022208) : Ev (fun k => intset_spans.f k l) (spansR l) := by
  refine Ev.bind (f := fun _ t => if t = true then some l else some []) (valid_ev l hl) (Ev.const fun k => ?_)
  unfold spansR
  by_cases h : okV l <;> simp [h]
end Go.Proofs.Ytbahibaohehojaa.Q
-- YtbahibaohehojaaQHPHas
namespace Go.Proofs.Ytbahibaohehojaa.Q
open Go.RowKit Go.Proofs.YtbahibaohehojaaW.PrintWords Go.Proofs.YtbahibaohehojaaW.PrintLast Go.Proofs.YtbahibaohehojaaW.PrintMore
attribute [local go_sem] max2_int min2_int max_two min_two max_three min_three max_four min_four
set_option linter.unusedVariables false
set_option linter.unusedSimpArgs false
noncomputable instance (n : Int) (l : List SP) : Decidable (memS n l) := Classical.propDecidable _
theorem any_spanHas (n : Int) (l : List SP) : l.any (spanHas n) = decide (memS n l) := by
  rw [Bool.eq_iff_iff, List.any_eq_true, decide_eq_true_eq]
  constructor
  · rintro ⟨x, hx, h⟩
    simp only [spanHas, Bool.and_eq_true, decide_eq_true_eq] at h
    exact ⟨x, hx, h⟩
  · rintro ⟨x, hx, h⟩
    exact ⟨x, hx, by simp only [spanHas, Bool.and_eq_true, decide_eq_true_eq]; exact h⟩
theorem has_ev (l : List SP) (n : Int) (hl : l.length < 8796093022208) : Ev (fun k => intset_Has.f k l n) (decide (memS n (spansR l))) := by
  refine Ev.bind (f := fun _ s => some (s.any (spanHas n))) (spans_ev l hl) (Ev.const fun k => ?_)
  rw [any_spanHas]
def gap (a b : Int) : Int := if a < b then b - a else a - b
def clamp (x : SP) (n : Int) : Int := mx x.f0 (mn x.f1 n)
def nearS (n : Int) (r : Int × Bool) (x : SP) : Int × Bool := if r.2 = true then (if gap (clamp x n) n < gap r.1 n then (clamp x n, true) else r) else (clamp x n, true)
def near (l : List SP) (n : Int) : Int × Bool := l.foldl (nearS n) (0, false)
theorem clamp_in {x : SP} (hx : okS x) (n : Int) : x.f0 ≤ clamp x n ∧ clamp x n ≤ x.f1 := by
  unfold okS at hx
  unfold clamp
  have h1 := mn_cases x.f1 n
  have h2 := mx_cases x.f0 (mn x.f1 n)
  omega
theorem u64sub {a b : Int} (h0 : 0 ≤ a - b) (h1 : a - b < 18446744073709551616) : IntKind.u64.wrap ((IntKind.u64.wrap a) - (IntKind.u64.wrap b)) = a - b := by
  simp only [IntKind.wrap, IntKind.bits, IntKind.signed]
  simp
  omega
theorem dist_ev {a b : Int} (h0 : 0 ≤ a ∧ a ≤ 2147483647) (hb : -9223372036854775808 ≤ b ∧ b ≤ 9223372036854775807) : intset_distance.f a b = some (gap a b) := by
  unfold intset_distance.f gap
  by_cases h : a < b
  · rw [if_pos h, if_pos h, u64sub (by omega) (by omega)]
  · rw [if_neg h, if_neg h, u64sub (by omega) (by omega)]
theorem near_l0 (l : List SP) (n : Int) (hn : -9223372036854775808 ≤ n ∧ n ≤ 9223372036854775807) (hok : ∀ x ∈ l, okS x) (hl : l.length < 8796093022208) : ∀ (d i : Nat) (c : Int) (b : Bool), i + d = l.length → (0 ≤ c ∧ c ≤ 2147483647) →
    Ev (fun k => intset_Nearest.l0 k n c b l (l.length : Int) (i : Int)) ((l.drop i).foldl (nearS n) (c, b))
  | 0, i, c, b, hi, _ => by
    refine Ev.last fun k => ?_
    simp only [intset_Nearest.l0]
    rw [if_neg (by omega), List.drop_of_length_le (by omega)]
    rfl
  | d + 1, i, c, b, hi, hc => by
    have hlt : i < l.length := by omega
    have hg : rd_T56 l (i : Int) = l[i] := by rw [rd_nat, getD_at hlt]
    have hw1 : wrap64 ((i : Int) + 1) = ((i + 1 : Nat) : Int) := by rw [w64 (by omega) (by omega)]; omega
    have hx := hok l[i] (List.getElem_mem hlt)
    have hcl := clamp_in hx n
    have hx' := hx
    unfold okS at hx'
    rw [List.drop_eq_getElem_cons hlt, List.foldl_cons]
    have hns : nearS n (c, b) l[i] = if b = true then (if gap (clamp l[i] n) n < gap c n then (clamp l[i] n, true) else (c, b)) else (clamp l[i] n, true) := rfl
    rw [hns]
    by_cases hb : b = true
    · rw [if_pos hb]
      by_cases hd : gap (clamp l[i] n) n < gap c n
      · rw [if_pos hd]
        refine Ev.step (fun k => ?_) (near_l0 l n hn hok hl d (i + 1) (clamp l[i] n) true (by omega) (by omega))
        simp only [intset_Nearest.l0]
        rw [if_pos (by omega), if_pos (by omega), if_pos (by omega), hg, if_pos hb, show mx l[i].f0 (mn l[i].f1 n) = clamp l[i] n from rfl, dist_ev (by omega) hn, Option.bind_some, dist_ev hc hn, Option.bind_some, if_pos hd, hw1]
      · rw [if_neg hd]
        refine Ev.step (fun k => ?_) (near_l0 l n hn hok hl d (i + 1) c b (by omega) hc)
        simp only [intset_Nearest.l0]
        rw [if_pos (by omega), if_pos (by omega), if_pos (by omega), hg, if_pos hb, show mx l[i].f0 (mn l[i].f1 n) = clamp l[i] n from rfl, dist_ev (by omega) hn, Option.bind_some, dist_ev hc hn, Option.bind_some, if_neg hd, hw1]
    · rw [if_neg hb]
      refine Ev.step (fun k => ?_) (near_l0 l n hn hok hl d (i + 1) (clamp l[i] n) true (by omega) (by omega))
      simp only [intset_Nearest.l0]
      rw [if_pos (by omega), if_pos (by omega), if_pos (by omega), hg, if_neg hb, show mx l[i].f0 (mn l[i].f1 n) = clamp l[i] n from rfl, hw1]
theorem nearest_ev (l : List SP) (n : Int) (hn : -9223372036854775808 ≤ n ∧ n ≤ 9223372036854775807) (hl : l.length < 8796093022208) : Ev (fun k => intset_Nearest.f k l n) (near (spansR l) n) := by
  refine Ev.bind (f := fun k t => intset_Nearest.l0 k n 0 false t (t.length : Int) 0) (spans_ev l hl) ?_
  have := spansR_canon l
  exact near_l0 (spansR l) n hn this.1.ok (by omega) (spansR l).length 0 0 false (by omega) (by omega)
end Go.Proofs.Ytbahibaohehojaa.Q
-- YtbahibaohehojaaQHPMade
namespace Go.Proofs.Ytbahibaohehojaa.Q
open Go.RowKit Go.Proofs.YtbahibaohehojaaW.PrintWords Go.Proofs.YtbahibaohehojaaW.PrintLast Go.Proofs.YtbahibaohehojaaW.PrintMore
attribute [local go_sem] max2_int min2_int max_two min_two max_three min_three max_four min_four
set_option linter.unusedVariables false
set_option linter.unusedSimpArgs false
theorem joined_l2 (l : List SP) (hok : ∀ x ∈ l, okS x) (hl : l.length < 8796093022208) : ∀ (d i : Nat) (out : List SP), i + d = l.length → out.length ≤ i → (∀ x ∈ out, okS x) →
    Ev (fun k => soundserviceref09_joined.l2 k out l (l.length : Int) (i : Int)) ((l.drop i).foldl mergeStep out)
  | 0, i, out, hi, _, _ => by
    refine Ev.last fun k => ?_
    simp only [soundserviceref09_joined.l2]
    rw [if_neg (by omega), List.drop_of_length_le (by omega)]
    rfl
  | d + 1, i, out, hi, ho, hoo => by
    have hlt : i < l.length := by omega
    have hx := hok l[i] (List.getElem_mem hlt)
    have hg : l.getD i z56 = l[i] := getD_at hlt _
    rw [List.drop_eq_getElem_cons hlt, List.foldl_cons]
    generalize hxe : l[i] = x at hx hg
    have hx' := hx
    unfold okS at hx'
    have hstep : (mergeStep out x).length ≤ i + 1 ∧ ∀ y ∈ mergeStep out x, okS y := by
      unfold mergeStep
      by_cases h0 : out.length = 0
      · rw [if_pos h0]
        exact ⟨by simp, fun y hy => by rw [List.mem_singleton.1 hy]; exact hx⟩
      · rw [if_neg h0]
        have hlast : out.length - 1 < out.length := by omega
        have ht := hoo _ (List.getElem_mem hlast)
        rw [getD_at hlast]
        by_cases h1 : x.f0 ≤ out[out.length - 1].f1 + 1
        · rw [if_pos h1]
          refine ⟨by simp; omega, fun y hy => ?_⟩
          rcases List.mem_or_eq_of_mem_set hy with hy | hy
          · exact hoo y hy
          · rw [hy]
            have hm := mx_cases out[out.length - 1].f1 x.f1
            unfold okS at *
            simp only
            omega
        · rw [if_neg h1]
          refine ⟨by simp; omega, fun y hy => ?_⟩
          rcases List.mem_append.1 hy with hy | hy
          · exact hoo y hy
          · rw [List.mem_singleton.1 hy]; exact hx
    refine Ev.step (f := fun k => soundserviceref09_joined.l2 k (mergeStep out x) l (l.length : Int) ((i + 1 : Nat) : Int)) (fun k => ?_) (joined_l2 l hok hl d (i + 1) _ (by omega) hstep.1 hstep.2)
    simp only [soundserviceref09_joined.l2]
    rw [if_pos (by omega), if_pos (by omega), if_pos (by omega), rd_nat, hg, show wrap64 ((i : Int) + 1) = ((i + 1 : Nat) : Int) from by rw [w64 (by omega) (by omega)]; omega]
    by_cases h0 : out.length = 0
    · rw [if_neg (by rw [w64 (by omega) (by omega)]; omega), Option.bind_some, if_pos (by simp; omega)]
      unfold mergeStep
      rw [if_pos h0, List.eq_nil_of_length_eq_zero h0]
      rfl
    · have hlast : out.length - 1 < out.length := by omega
      have ht := hoo _ (List.getElem_mem hlast)
      unfold okS at ht
      have hw : wrap64 ((out.length : Int) - 1) = ((out.length - 1 : Nat) : Int) := by rw [w64 (by omega) (by omega)]; omega
      rw [hw, if_pos (by omega), if_pos (by omega), if_pos (by omega), rd_nat, getD_at hlast, w64 (by omega) (by omega)]
      unfold mergeStep
      rw [if_neg h0, getD_at hlast]
      by_cases h1 : x.f0 ≤ out[out.length - 1].f1 + 1
      · rw [if_pos h1, if_pos (by omega), Int.toNat_natCast]
      · rw [if_neg h1, if_neg (by omega), Option.bind_some, if_pos (by simp; omega)]
theorem ins_perm {out : List SP} {q : Nat} (x : SP) : (out.take q ++ [x] ++ out.drop q).Perm (x :: out) := by
  have h1 : (out.take q ++ [x] ++ out.drop q).Perm (x :: (out.take q ++ out.drop q)) := by
    rw [List.append_assoc]
    exact List.perm_middle
  rw [List.take_append_drop] at h1
  exact h1
theorem ins_sorted {out : List SP} {q : Nat} {x : SP} (hq : q ≤ out.length) (hs : sortedLo out) (hhi : ∀ j (h : j < out.length), q ≤ j → x.f0 < out[j].f0) (hlo : ∀ h : 0 < q, (out[q - 1]'(by omega)).f0 ≤ x.f0) :
    sortedLo (out.take q ++ [x] ++ out.drop q) := by
  have hlow : ∀ y ∈ out.take q, y.f0 ≤ x.f0 := fun y hy => by
    obtain ⟨j, hj, rfl⟩ := List.mem_iff_getElem.1 hy
    rw [List.getElem_take]
    rw [List.length_take] at hj
    have hl := hlo (by omega)
    by_cases he : j = q - 1
    · subst he; exact hl
    · have := List.pairwise_iff_getElem.1 hs j (q - 1) (by omega) (by omega) (by omega)
      omega
  have hhigh : ∀ y ∈ out.drop q, x.f0 < y.f0 := fun y hy => by
    obtain ⟨j, hj, rfl⟩ := List.mem_iff_getElem.1 hy
    rw [List.getElem_drop]
    rw [List.length_drop] at hj
    exact hhi (q + j) (by omega) (by omega)
  unfold sortedLo
  rw [List.append_assoc]
  refine List.pairwise_append.2 ⟨hs.sublist (List.take_sublist _ _), ?_, fun a ha b hb => ?_⟩
  · refine List.pairwise_append.2 ⟨List.pairwise_singleton _ _, hs.sublist (List.drop_sublist _ _), fun a ha b hb => ?_⟩
    rw [List.mem_singleton.1 ha]
    have := hhigh b hb
    omega
  · have h1 := hlow a ha
    rcases List.mem_append.1 hb with hb | hb
    · rw [List.mem_singleton.1 hb]; exact h1
    · have := hhigh b hb; omega
theorem joined_l1 (l out : List SP) (x : SP) (i : Nat) (r : List SP) (hol : out.length + 1 < 8796093022208) (hs : sortedLo out)
    (H : ∀ out', out'.Perm (x :: out) → sortedLo out' → Ev (fun k => soundserviceref09_joined.l0 k out' l (l.length : Int) (wrap64 ((i : Int) + 1))) r) :
    ∀ p : Nat, p ≤ out.length → (∀ j (h : j < out.length), p ≤ j → x.f0 < out[j].f0) → Ev (fun k => soundserviceref09_joined.l1 k out (p : Int) l (l.length : Int) (i : Int) x.f0 x.f1) r
  | 0, hp, hhi => by
    refine Ev.step (fun k => ?_) (H (out.take 0 ++ [x] ++ out.drop 0) (ins_perm x) (ins_sorted (by omega) hs hhi (fun h => absurd h (by omega))))
    simp only [soundserviceref09_joined.l1]
    rw [if_neg (by omega), if_pos (by omega), if_pos (by omega)]
    simp only [Option.bind_some, Int.toNat_natCast]
    rw [if_pos (by simp), if_pos (by simp), if_pos (by simp; omega)]
    rfl
  | p + 1, hp, hhi => by
    have hlt : p < out.length := by omega
    have hw : wrap64 (((p + 1 : Nat) : Int) - 1) = (p : Int) := by rw [w64 (by omega) (by omega)]; omega
    have hg : rd_T56 out (p : Int) = out[p] := by rw [rd_nat, getD_at hlt]
    by_cases hgt : out[p].f0 > x.f0
    · refine Ev.step (fun k => ?_) (joined_l1 l out x i r hol hs H p (by omega) (fun j hj hpj => by
        by_cases he : j = p
        · subst he; exact hgt
        · exact hhi j hj (by omega)))
      simp only [soundserviceref09_joined.l1]
      rw [if_pos (by omega), hw, if_pos (by omega), if_pos (by omega), hg, if_pos hgt]
    · refine Ev.step (fun k => ?_) (H (out.take (p + 1) ++ [x] ++ out.drop (p + 1)) (ins_perm x) (ins_sorted hp hs hhi (fun h => by simpa using hgt)))
      simp only [soundserviceref09_joined.l1]
      rw [if_pos (by omega), hw, if_pos (by omega), if_pos (by omega), hg, if_neg hgt, if_pos (by omega), if_pos (by omega)]
      simp only [Option.bind_some, Int.toNat_natCast, List.nil_append]
      rw [if_pos (by simp; omega), if_pos (by simp; omega), if_pos (by simp; omega)]
theorem joined_l0 (l : List SP) (hok : ∀ x ∈ l, okS x) (hl : l.length + 1 < 8796093022208) : ∀ (d i : Nat) (out : List SP), i + d = l.length → out.Perm (l.take i) → sortedLo out →
    Ev (fun k => soundserviceref09_joined.l0 k out l (l.length : Int) (i : Int)) (norm l)
  | 0, i, out, hi, hp, hs => by
    rw [List.take_of_length_le (by omega)] at hp
    have hn : norm l = out.foldl mergeStep [] := (eq_norm hok (mergeAll_norm hok hp hs).1 (mergeAll_norm hok hp hs).2.1).symm
    rw [hn]
    refine Ev.step (fun k => ?_) (joined_l2 out (fun x hx => hok x (hp.mem_iff.1 hx)) (by rw [hp.length_eq]; omega) out.length 0 [] (by omega) (by simp) (fun _ h => by cases h))
    simp only [soundserviceref09_joined.l0]
    rw [if_neg (by omega)]
    rfl
  | d + 1, i, out, hi, hp, hs => by
    have hlt : i < l.length := by omega
    have hol : out.length = i := by rw [hp.length_eq, List.length_take]; omega
    refine Ev.step (fun k => ?_) (joined_l1 l out l[i] i (norm l) (by omega) hs (fun out' hp' hs' => ?_) out.length (by omega) (fun j hj hpj => absurd hj (by omega)))
    · simp only [soundserviceref09_joined.l0]
      rw [if_pos (by omega), if_pos (by omega), if_pos (by omega), rd_nat, getD_at hlt]
    · rw [show wrap64 ((i : Int) + 1) = ((i + 1 : Nat) : Int) from by rw [w64 (by omega) (by omega)]; omega]
      refine joined_l0 l hok hl d (i + 1) out' (by omega) ?_ hs'
      rw [List.take_succ_eq_append_getElem hlt]
      exact hp'.trans ((List.Perm.cons _ hp).trans (List.perm_append_singleton _ _).symm)
theorem joined_ev (l : List SP) (hok : ∀ x ∈ l, okS x) (hl : l.length + 1 < 8796093022208) : Ev (fun k => soundserviceref09_joined.f k l) (norm l) :=
  joined_l0 l hok hl l.length 0 [] (by omega) (List.Perm.refl _) List.Pairwise.nil
theorem refmake_l0 (l : List SP) (hl : l.length + 1 < 8796093022208) : ∀ (d i : Nat), i + d = l.length → (∀ x ∈ l.take i, okS x) →
    Ev (fun k => soundserviceref09_Make.l0 k l l (l.length : Int) (i : Int)) (makeR l)
  | 0, i, hi, hok => by
    rw [List.take_of_length_le (by omega)] at hok
    unfold makeR
    rw [if_pos hok]
    refine Ev.step (f := fun k => (soundserviceref09_joined.f k l).bind fun out => if (out.length : Int) > 64 then some ([], 3) else some (out, 0)) (fun k => ?_) (Ev.bind (f := fun _ out => if (out.length : Int) > 64 then some ([], 3) else some (out, 0)) (joined_ev l hok hl) (Ev.const fun k => ?_))
    · simp only [soundserviceref09_Make.l0]
      rw [if_neg (by omega)]
    · by_cases h64 : 64 < (norm l).length
      · rw [if_pos (by omega), if_pos h64]
      · rw [if_neg (by omega), if_neg h64]
  | d + 1, i, hi, hok => by
    have hlt : i < l.length := by omega
    have hg : rd_T56 l (i : Int) = l[i] := by rw [rd_nat, getD_at hlt]
    by_cases hx : okS l[i]
    · have hx' := hx
      unfold okS at hx'
      refine Ev.step (fun k => ?_) (refmake_l0 l hl d (i + 1) (by omega) (fun x hm => ?_))
      · simp only [soundserviceref09_Make.l0]
        rw [if_pos (by omega), if_pos (by omega), if_pos (by omega), hg, if_neg (by omega), if_neg (by omega), if_neg (by omega), w64 (by omega) (by omega)]
        rfl
      · rw [List.take_succ_eq_append_getElem hlt] at hm
        rcases List.mem_append.1 hm with hm | hm
        · exact hok x hm
        · rw [List.mem_singleton.1 hm]; exact hx
    · have hr : makeR l = ([], 2) := if_neg (fun h => hx (h _ (List.getElem_mem hlt)))
      rw [hr]
      refine Ev.last fun k => ?_
      simp only [soundserviceref09_Make.l0]
      rw [if_pos (by omega), if_pos (by omega), if_pos (by omega), hg]
      unfold okS at hx
      by_cases h0 : l[i].f0 < 0
      · rw [if_pos h0]
      · rw [if_neg h0]
        by_cases h1 : l[i].f1 < l[i].f0
        · rw [if_pos h1]
        · rw [if_neg h1, if_pos (by omega)]
theorem refmake_ev (l : List SP) (hl : l.length + 1 < 8796093022208) : Ev (fun k => soundserviceref09_Make.f k l) (makeR l) :=
  refmake_l0 l hl l.length 0 (by omega) (fun _ h => by cases h)
theorem same_l0 (l : List SP) (hl : l.length + 1 < 8796093022208) : ∀ (d i : Nat), i + d = l.length →
    Ev (fun k => soundserviceref09_Same.l0 k (l.length : Int) (i : Int) l l) true
  | 0, i, hi => by
    refine Ev.last fun k => ?_
    simp only [soundserviceref09_Same.l0]
    rw [if_neg (by omega)]
  | d + 1, i, hi => by
    refine Ev.step (fun k => ?_) (same_l0 l hl d (i + 1) (by omega))
    simp only [soundserviceref09_Same.l0]
    rw [if_pos (by omega), if_pos (by omega), if_pos (by omega), if_pos (by omega), if_neg (by simp), w64 (by omega) (by omega)]
    rfl
theorem same_ev (l : List SP) (hl : l.length + 1 < 8796093022208) : Ev (fun k => soundserviceref09_Same.f k l l) true := by
  have h := same_l0 l hl l.length 0 (by omega)
  refine Ev.congr (fun k => ?_) h
  unfold soundserviceref09_Same.f
  rw [if_pos rfl]
  rfl
structure Small (m : List SP) : Prop where
  can : Canon m
  len : m.length ≤ 20
  top : ∀ x ∈ m, x.f1 ≤ 274
theorem Small.okV {m : List SP} (h : Small m) : okV m := ⟨h.can, by have := h.len; omega⟩
theorem Small.spans {m : List SP} (h : Small m) : spansR m = m := spansR_of h.okV
theorem Small.lt {m : List SP} (h : Small m) : m.length + 1 < 8796093022208 := by have := h.len; omega
theorem small_norm {raw : List SP} (hok : ∀ x ∈ raw, okS x ∧ x.f1 ≤ 274) (hlen : raw.length ≤ 20) : Small (norm raw) ∧ makeR raw = (norm raw, 0) := by
  have ho : ∀ x ∈ raw, okS x := fun x hx => (hok x hx).1
  have hs := norm_spec ho
  refine ⟨⟨hs.1, by omega, fun x hx => ?_⟩, ?_⟩
  · have hx' := hs.1.ok x hx
    unfold okS at hx'
    obtain ⟨y, hy, h1, h2⟩ := (hs.2.1 x.f1).1 ⟨x, hx, hx'.2.1, Int.le_refl _⟩
    have := (hok y hy).2
    omega
  · unfold makeR
    rw [if_pos ho, if_neg (by omega)]
theorem made_end {raw : List SP} (hok : ∀ x ∈ raw, okS x ∧ x.f1 ≤ 274) (hlen : raw.length ≤ 20) :
    Ev (fun k => (soundserviceref09_Make.f k raw).bind fun bt => some bt.1) (norm raw) := by
  have h := refmake_ev raw (by omega)
  rw [(small_norm hok hlen).2] at h
  exact Ev.bind (f := fun _ bt => some bt.1) h (Ev.const fun _ => rfl)
theorem made_l0 (l : List Int) (hb : ∀ x ∈ l, 0 ≤ x ∧ x ≤ 255) (hl : l.length < 9223372036854775000) : ∀ (d j : Nat) (raw : List SP), j + d = 20 → raw.length = j → (∀ x ∈ raw, okS x ∧ x.f1 ≤ 274) →
    ∃ m, Small m ∧ Ev (fun k => soundservicelaw09_made.l0 k l raw ((2 * j : Nat) : Int)) m
  | 0, j, raw, hj, hr, hok => by
    have hjj : j = 20 := by omega
    refine ⟨norm raw, (small_norm hok (by omega)).1, Ev.step (fun k => ?_) (made_end hok (by omega))⟩
    simp only [soundservicelaw09_made.l0]
    by_cases h : wrap64 (((2 * j : Nat) : Int) + 1) < (l.length : Int)
    · rw [if_pos h, if_neg (by omega)]
    · rw [if_neg h]
  | d + 1, j, raw, hj, hr, hok => by
    have hw : wrap64 (((2 * j : Nat) : Int) + 1) = ((2 * j + 1 : Nat) : Int) := by rw [w64 (by omega) (by omega)]; omega
    by_cases h : 2 * j + 1 < l.length
    · have h0 : 2 * j < l.length := by omega
      have hb0 := hb _ (List.getElem_mem h0)
      have hb1 := hb _ (List.getElem_mem h)
      have hm0 := Int.emod_nonneg l[2 * j + 1] (show (20 : Int) ≠ 0 by omega)
      have hm1 := Int.emod_lt_of_pos l[2 * j + 1] (show (0 : Int) < 20 by omega)
      have ht : Int.tmod l[2 * j + 1] 20 = l[2 * j + 1] % 20 := Int.tmod_eq_emod_of_nonneg hb1.1
      obtain ⟨m, hm, he⟩ := made_l0 l hb hl d (j + 1) (raw ++ [⟨l[2 * j], l[2 * j] + l[2 * j + 1] % 20⟩]) (by omega) (by simp; omega) (fun x hx => by
        rcases List.mem_append.1 hx with hx | hx
        · exact hok x hx
        · rw [List.mem_singleton.1 hx]; unfold okS; simp only; omega)
      refine ⟨m, hm, Ev.step (fun k => ?_) he⟩
      simp only [soundservicelaw09_made.l0]
      rw [hw, if_pos (by omega), if_pos (by omega), if_pos (by omega), if_pos (by omega), if_pos (by omega), if_pos (by omega), rdi_nat, rdi_nat, getD_at h0, getD_at h, ht, w64 (e := l[2 * j]) (by omega) (by omega), w64 (e := l[2 * j + 1] % 20) (by omega) (by omega), w64 (by omega) (by omega), w64 (by omega) (by omega)]
      rfl
    · refine ⟨norm raw, (small_norm hok (by omega)).1, Ev.step (fun k => ?_) (made_end hok (by omega))⟩
      simp only [soundservicelaw09_made.l0]
      rw [hw, if_neg (by omega)]
theorem made_ev (l : List Int) (hb : ∀ x ∈ l, 0 ≤ x ∧ x ≤ 255) (hl : l.length < 9223372036854775000) : ∃ m, Small m ∧ Ev (fun k => soundservicelaw09_made.f k l) m :=
  made_l0 l hb hl 20 0 [] (by omega) rfl (fun _ h => by cases h)
theorem sane_norm : norm [⟨5, 9⟩, ⟨1, 4⟩, ⟨20, 20⟩] = ([⟨1, 9⟩, ⟨20, 20⟩] : List SP) := by
  refine (eq_norm ?_ ⟨?_, ?_⟩ fun n => ?_).symm
  · decide
  · decide
  · simp
  · simp only [memS_cons, memS_nil, or_false]
    omega
theorem sane_canon : okV ([⟨1, 9⟩, ⟨20, 20⟩] : List SP) := ⟨⟨by decide, by simp⟩, by simp⟩
theorem sane_ev : Ev (fun k => soundservicelaw09_sane.f k) true := by
  have hmk := make_ev [⟨5, 9⟩, ⟨1, 4⟩, ⟨20, 20⟩] (by simp)
  have hmr : makeR [⟨5, 9⟩, ⟨1, 4⟩, ⟨20, 20⟩] = (([⟨1, 9⟩, ⟨20, 20⟩] : List SP), 0) := by
    unfold makeR
    rw [if_pos (by decide), sane_norm, if_neg (by simp)]
  rw [hmr] at hmk
  have hn1 := nearest_ev [⟨1, 9⟩, ⟨20, 20⟩] 14 (by omega) (by simp)
  have hn2 := nearest_ev [⟨1, 9⟩, ⟨20, 20⟩] 15 (by omega) (by simp)
  rw [spansR_of sane_canon] at hn1 hn2
  rw [show near [⟨1, 9⟩, ⟨20, 20⟩] 14 = (9, true) from by decide] at hn1
  rw [show near [⟨1, 9⟩, ⟨20, 20⟩] 15 = (20, true) from by decide] at hn2
  have hv := valid_ev [⟨1, 9⟩, ⟨20, 20⟩] (by simp)
  rw [decide_eq_true sane_canon] at hv
  have hh1 := has_ev [⟨1, 9⟩, ⟨20, 20⟩] 20 (by simp)
  have hh2 := has_ev [⟨1, 9⟩, ⟨20, 20⟩] 10 (by simp)
  rw [spansR_of sane_canon, decide_eq_true (by simp only [memS_cons, memS_nil, or_false]; omega)] at hh1
  rw [spansR_of sane_canon, decide_eq_false (by simp only [memS_cons, memS_nil, or_false]; omega)] at hh2
  unfold soundservicelaw09_sane.f
  refine Ev.bind hmk ?_
  refine Ev.bind hn1 ?_
  refine Ev.bind hn2 ?_
  refine Ev.bind hv ?_
  refine Ev.bind hh1 ?_
  refine Ev.bind hh2 ?_
  exact Ev.const fun _ => rfl
end Go.Proofs.Ytbahibaohehojaa.Q
-- YtbahibaohehojaaQHPInter
namespace Go.Proofs.Ytbahibaohehojaa.Q
open Go.RowKit Go.Proofs.YtbahibaohehojaaW.PrintWords Go.Proofs.YtbahibaohehojaaW.PrintLast Go.Proofs.YtbahibaohehojaaW.PrintMore
attribute [local go_sem] max2_int min2_int max_two min_two max_three min_three max_four min_four
set_option linter.unusedVariables false
set_option linter.unusedSimpArgs false
theorem union_ev (a b : List SP) (ha : a.length < 8796093022208) (hb : b.length < 8796093022208) : Ev (fun k => intset_Union.f k a b) (makeR (spansR a ++ spansR b)) := by
  have h1 := (spansR_canon a).2
  have h2 := (spansR_canon b).2
  refine Ev.bind (f := fun k s => (intset_spans.f k b).bind fun t => if s.length + t.length < 8796093022208 then intset_Make.f k (s ++ t) else none) (spans_ev a ha) ?_
  refine Ev.bind (f := fun k t => if (spansR a).length + t.length < 8796093022208 then intset_Make.f k (spansR a ++ t) else none) (spans_ev b hb) ?_
  refine Ev.congr (fun k => ?_) (make_ev (spansR a ++ spansR b) (by rw [List.length_append]; omega))
  rw [if_pos (by omega)]
def inter : List SP → List SP → List SP
  | [], _ => []
  | _ :: _, [] => []
  | x :: a, y :: b => (if (cutS x y).f0 ≤ (cutS x y).f1 then [cutS x y] else []) ++ (if x.f1 < y.f1 then inter a (y :: b) else inter (x :: a) b)
termination_by a b => a.length + b.length
theorem inter_nil (b : List SP) : inter [] b = [] := by unfold inter; rfl
theorem inter_nil' (a : List SP) : inter a [] = [] := by cases a <;> (unfold inter; rfl)
theorem inter_cons (x y : SP) (a b : List SP) : inter (x :: a) (y :: b) = (if (cutS x y).f0 ≤ (cutS x y).f1 then [cutS x y] else []) ++ (if x.f1 < y.f1 then inter a (y :: b) else inter (x :: a) b) := by
  conv => lhs; unfold inter
theorem cut_mem (x y : SP) (n : Int) : memS n (if (cutS x y).f0 ≤ (cutS x y).f1 then [cutS x y] else []) ↔ (x.f0 ≤ n ∧ n ≤ x.f1) ∧ (y.f0 ≤ n ∧ n ≤ y.f1) := by
  have h1 := mx_cases x.f0 y.f0
  have h2 := mn_cases x.f1 y.f1
  by_cases h : (cutS x y).f0 ≤ (cutS x y).f1
  · rw [if_pos h]
    simp only [memS_cons, memS_nil, or_false]
    unfold cutS at h ⊢
    simp only at h ⊢
    omega
  · rw [if_neg h]
    unfold cutS at h
    simp only at h
    refine ⟨fun hh => absurd hh (memS_nil n), fun hh => ?_⟩
    omega
theorem inter_mem (n : Int) : ∀ (N : Nat) (a b : List SP), a.length + b.length = N → Canon a → Canon b → (memS n (inter a b) ↔ memS n a ∧ memS n b)
  | N, [], b, _, _, _ => by rw [inter_nil]; exact ⟨fun h => absurd h (memS_nil n), fun h => absurd h.1 (memS_nil n)⟩
  | N, x :: a, [], _, _, _ => by rw [inter_nil']; exact ⟨fun h => absurd h (memS_nil n), fun h => absurd h.2 (memS_nil n)⟩
  | 0, x :: a, y :: b, hN, _, _ => by simp at hN
  | N + 1, x :: a, y :: b, hN, ha, hb => by
    have hoa := ha.head
    have hob := hb.head
    unfold okS at hoa hob
    rw [inter_cons, memS_append, cut_mem, memS_cons n x a, memS_cons n y b]
    by_cases h : x.f1 < y.f1
    · rw [if_pos h, inter_mem n N a (y :: b) (by simp at hN ⊢; omega) ha.tail hb, memS_cons n y b]
      constructor
      · rintro (h1 | ⟨h1, h2⟩)
        · exact ⟨.inl h1.1, .inl h1.2⟩
        · exact ⟨.inr h1, h2⟩
      · rintro ⟨h1 | h1, h2⟩
        · rcases h2 with h2 | h2
          · exact .inl ⟨h1, h2⟩
          · have := hb.above h2
            omega
        · exact .inr ⟨h1, h2⟩
    · rw [if_neg h, inter_mem n N (x :: a) b (by simp at hN ⊢; omega) ha hb.tail, memS_cons n x a]
      constructor
      · rintro (h1 | ⟨h1, h2⟩)
        · exact ⟨.inl h1.1, .inl h1.2⟩
        · exact ⟨h1, .inr h2⟩
      · rintro ⟨h1, h2 | h2⟩
        · rcases h1 with h1 | h1
          · exact .inl ⟨h1, h2⟩
          · have := ha.above h1
            omega
        · exact .inr ⟨h1, h2⟩
theorem inter_canon : ∀ (N : Nat) (a b : List SP), a.length + b.length = N → Canon a → Canon b → Canon (inter a b) ∧ (inter a b).length ≤ a.length + b.length
  | N, [], b, _, _, _ => by rw [inter_nil]; exact ⟨Canon.nil, by simp⟩
  | N, x :: a, [], _, _, _ => by rw [inter_nil']; exact ⟨Canon.nil, by simp⟩
  | 0, x :: a, y :: b, hN, _, _ => by simp at hN
  | N + 1, x :: a, y :: b, hN, ha, hb => by
    have hoa := ha.head
    have hob := hb.head
    unfold okS at hoa hob
    have hx1 := mx_cases x.f0 y.f0
    have hx2 := mn_cases x.f1 y.f1
    have key : ∀ r : List SP, Canon r → r.length + 1 ≤ (x :: a).length + (y :: b).length → (∀ n, memS n r → (cutS x y).f1 + 1 < n) → Canon ((if (cutS x y).f0 ≤ (cutS x y).f1 then [cutS x y] else []) ++ r) ∧ ((if (cutS x y).f0 ≤ (cutS x y).f1 then [cutS x y] else []) ++ r).length ≤ (x :: a).length + (y :: b).length := by
      intro r hr hl hab
      by_cases h : (cutS x y).f0 ≤ (cutS x y).f1
      · rw [if_pos h]
        refine ⟨⟨fun z hz => ?_, ?_⟩, by simp at hl ⊢; omega⟩
        · rcases List.mem_append.1 hz with hz | hz
          · rw [List.mem_singleton.1 hz]
            unfold cutS at h ⊢
            unfold okS
            simp only at h ⊢
            omega
          · exact hr.ok z hz
        · refine List.pairwise_append.2 ⟨List.pairwise_singleton _ _, hr.sep, fun u hu v hv => ?_⟩
          rw [List.mem_singleton.1 hu]
          have hov := hr.ok v hv
          unfold okS at hov
          exact hab v.f0 ⟨v, hv, Int.le_refl _, hov.2.1⟩
      · rw [if_neg h]
        exact ⟨hr, by simp at hl ⊢; omega⟩
    rw [inter_cons]
    by_cases h : x.f1 < y.f1
    · rw [if_pos h]
      obtain ⟨h1, h2⟩ := inter_canon N a (y :: b) (by simp at hN ⊢; omega) ha.tail hb
      refine key _ h1 (by simp at h2 ⊢; omega) (fun n hn => ?_)
      have hm := ((inter_mem n N a (y :: b) (by simp at hN ⊢; omega) ha.tail hb).1 hn).1
      have := ha.above hm
      unfold cutS
      simp only
      omega
    · rw [if_neg h]
      obtain ⟨h1, h2⟩ := inter_canon N (x :: a) b (by simp at hN ⊢; omega) ha hb.tail
      refine key _ h1 (by simp at h2 ⊢; omega) (fun n hn => ?_)
      have hm := ((inter_mem n N (x :: a) b (by simp at hN ⊢; omega) ha hb.tail).1 hn).2
      have := hb.above hm
      unfold cutS
      simp only
      omega
theorem interL_eq : ∀ (N : Nat) (s t out : List SP), s.length + t.length = N → out.length + N ≤ 64 → interL out s t = out ++ inter s t
  | N, [], t, out, _, _ => by rw [interL_nil, inter_nil, List.append_nil]
  | N, x :: s, [], out, _, _ => by rw [interL_nil', inter_nil', List.append_nil]
  | 0, x :: s, y :: t, out, hN, _ => by simp at hN
  | N + 1, x :: s, y :: t, out, hN, ho => by
    rw [interL_cons, inter_cons, if_pos (by omega)]
    have hl : (if (cutS x y).f0 ≤ (cutS x y).f1 then out ++ [cutS x y] else out) = out ++ (if (cutS x y).f0 ≤ (cutS x y).f1 then [cutS x y] else []) := by
      by_cases h : (cutS x y).f0 ≤ (cutS x y).f1
      · rw [if_pos h, if_pos h]
      · rw [if_neg h, if_neg h, List.append_nil]
    have hlen : (out ++ (if (cutS x y).f0 ≤ (cutS x y).f1 then [cutS x y] else [])).length ≤ out.length + 1 := by
      by_cases h : (cutS x y).f0 ≤ (cutS x y).f1
      · rw [if_pos h]; simp
      · rw [if_neg h]; simp
    rw [hl]
    by_cases h : x.f1 < y.f1
    · rw [if_pos h, if_pos h, interL_eq N s (y :: t) _ (by simp at hN ⊢; omega) (by omega), List.append_assoc]
    · rw [if_neg h, if_neg h, interL_eq N (x :: s) t _ (by simp at hN ⊢; omega) (by omega), List.append_assoc]
theorem intersect_ev (a b : List SP) (ha : a.length < 8796093022208) (hb : b.length < 8796093022208) (hlen : (spansR a).length + (spansR b).length ≤ 64) : Ev (fun k => intset_Intersect.f k a b) (inter (spansR a) (spansR b)) := by
  refine Ev.bind (f := fun k s => (intset_spans.f k b).bind fun t => some (interL [] s t)) (spans_ev a ha) ?_
  refine Ev.bind (f := fun _ t => some (interL [] (spansR a) t)) (spans_ev b hb) (Ev.const fun _ => ?_)
  rw [interL_eq _ (spansR a) (spansR b) [] rfl (by simpa using hlen), List.nil_append]
end Go.Proofs.Ytbahibaohehojaa.Q
-- YtbahibaohehojaaPureIntsetAlgebra
namespace Go.Proofs.Ytbahibaohehojaa.Pure
open Go.Proofs.Ytbahibaohehojaa.Q Go.RowKit Go.Proofs.YtbahibaohehojaaW.PrintWords Go.Proofs.YtbahibaohehojaaW.PrintLast Go.Proofs.YtbahibaohehojaaW.PrintMore
attribute [local go_sem] max2_int min2_int max_two min_two max_three min_three max_four min_four
set_option linter.unusedVariables false
set_option linter.unusedSimpArgs false
structure Can (m : List SP) (n : Nat) : Prop where
  can : Canon m
  len : m.length ≤ n
theorem Can.of {m : List SP} (h : Small m) : Can m 20 := ⟨h.can, h.len⟩
theorem Can.spans {m : List SP} {n : Nat} (h : Can m n) (hn : n ≤ 64) : spansR m = m := spansR_of ⟨h.can, by have := h.len; omega⟩
def un (a b : List SP) : List SP := norm (a ++ b)
theorem un_can {a b : List SP} {n m : Nat} (ha : Can a n) (hb : Can b m) : Can (un a b) (n + m) ∧ ∀ j, memS j (un a b) ↔ memS j a ∨ memS j b := by
  have hok : ∀ x ∈ a ++ b, okS x := fun x hx => by
    rcases List.mem_append.1 hx with hx | hx
    · exact ha.can.ok x hx
    · exact hb.can.ok x hx
  have hu := norm_spec hok
  refine ⟨⟨hu.1, by have := hu.2.2; have := ha.len; have := hb.len; rw [List.length_append] at *; unfold un; omega⟩, fun j => ?_⟩
  unfold un
  rw [hu.2.1, memS_append]
theorem un_ev {a b : List SP} {n m : Nat} (ha : Can a n) (hb : Can b m) (h : n + m ≤ 64) : Ev (fun k => intset_Union.f k a b) (un a b, 0) := by
  have hok : ∀ x ∈ a ++ b, okS x := fun x hx => by
    rcases List.mem_append.1 hx with hx | hx
    · exact ha.can.ok x hx
    · exact hb.can.ok x hx
  have hl := (un_can ha hb).1.len
  have h1 := ha.len
  have h2 := hb.len
  have e := union_ev a b (by omega) (by omega)
  rw [ha.spans (by omega), hb.spans (by omega), show makeR (a ++ b) = (un a b, 0) from by unfold makeR; rw [if_pos hok, if_neg (by unfold un at hl; omega)]; rfl] at e
  exact e
theorem in_can {a b : List SP} {n m : Nat} (ha : Can a n) (hb : Can b m) : Can (inter a b) (n + m) ∧ ∀ j, memS j (inter a b) ↔ memS j a ∧ memS j b := by
  have hi := inter_canon _ a b rfl ha.can hb.can
  exact ⟨⟨hi.1, by have := hi.2; have := ha.len; have := hb.len; omega⟩, fun j => inter_mem j _ a b rfl ha.can hb.can⟩
theorem in_ev {a b : List SP} {n m : Nat} (ha : Can a n) (hb : Can b m) (h : n + m ≤ 64) : Ev (fun k => intset_Intersect.f k a b) (inter a b) := by
  have h1 := ha.len
  have h2 := hb.len
  have s1 := ha.spans (by omega)
  have s2 := hb.spans (by omega)
  have e := intersect_ev a b (by omega) (by omega) (by rw [s1, s2]; omega)
  rwa [s1, s2] at e
theorem sm_ev {a b : List SP} {n m : Nat} (ha : Can a n) (hb : Can b m) (h : n ≤ 64) (hm : ∀ j, memS j a ↔ memS j b) : Ev (fun k => soundserviceref09_Same.f k a b) true := by
  obtain rfl := canon_unique ha.can hb.can hm
  have h1 := ha.len
  exact same_ev a (by omega)
theorem IntsetAlgebra : soundservicelaw09_IntsetAlgebra.Pure := by
  intro l0 l1 l2 hl0 hl0' hb0 hl1 hl1' hb1 hl2 hl2' hb2
  obtain ⟨a, ha, K1, e1⟩ := made_ev l0 (fun x hx => u8_wf (hb0 x hx)) (by omega)
  obtain ⟨b, hb, K2, e2⟩ := made_ev l1 (fun x hx => u8_wf (hb1 x hx)) (by omega)
  obtain ⟨c, hc, K3, e3⟩ := made_ev l2 (fun x hx => u8_wf (hb2 x hx)) (by omega)
  obtain ⟨K0, e0⟩ := sane_ev
  have ca := Can.of ha
  have cb := Can.of hb
  have cc := Can.of hc
  have ⟨cab, mab⟩ := un_can ca cb
  have ⟨cba, mba⟩ := un_can cb ca
  have ⟨ci, mi⟩ := in_can ca cb
  have ⟨cx, mx⟩ := un_can ca ci
  have ⟨cabc, mabc⟩ := un_can cab cc
  have ⟨cbc, mbc⟩ := un_can cb cc
  have ⟨ccba, mcba⟩ := un_can ca cbc
  have ⟨ci1, mi1⟩ := in_can cb ca
  have ⟨cp, mp⟩ := in_can ca cab
  have ⟨cq, mq⟩ := in_can ca ca
  have ⟨cu, mu⟩ := in_can ci cc
  have ⟨cbi, mbi⟩ := in_can cb cc
  have ⟨cv, mv⟩ := in_can ca cbi
  obtain ⟨K4, e4⟩ := un_ev ca cb (by omega)
  obtain ⟨K5, e5⟩ := un_ev cb ca (by omega)
  obtain ⟨K6, e6⟩ := un_ev ca ci (by omega)
  obtain ⟨K7, e7⟩ := un_ev cab cc (by omega)
  obtain ⟨K8, e8⟩ := un_ev cb cc (by omega)
  obtain ⟨K9, e9⟩ := un_ev ca cbc (by omega)
  obtain ⟨K10, e10⟩ := in_ev ca cb (by omega)
  obtain ⟨K11, e11⟩ := in_ev cb ca (by omega)
  obtain ⟨K12, e12⟩ := in_ev ca cab (by omega)
  obtain ⟨K13, e13⟩ := in_ev ca ca (by omega)
  obtain ⟨K14, e14⟩ := in_ev ci cc (by omega)
  obtain ⟨K15, e15⟩ := in_ev cb cc (by omega)
  obtain ⟨K16, e16⟩ := in_ev ca cbi (by omega)
  obtain ⟨K17, e17⟩ := sm_ev cab cba (by omega) (fun j => by rw [mab, mba]; exact or_comm)
  obtain ⟨K18, e18⟩ := sm_ev cx ca (by omega) (fun j => by rw [mx, mi]; exact ⟨fun h => h.elim id And.left, Or.inl⟩)
  obtain ⟨K19, e19⟩ := sm_ev cabc ccba (by omega) (fun j => by rw [mabc, mab, mcba, mbc]; exact or_assoc)
  obtain ⟨K20, e20⟩ := sm_ev ci ci1 (by omega) (fun j => by rw [mi, mi1]; exact and_comm)
  obtain ⟨K21, e21⟩ := sm_ev cp ca (by omega) (fun j => by rw [mp, mab]; exact ⟨And.left, fun h => ⟨h, .inl h⟩⟩)
  obtain ⟨K22, e22⟩ := sm_ev cq ca (by omega) (fun j => by rw [mq]; exact ⟨And.left, fun h => ⟨h, h⟩⟩)
  obtain ⟨K23, e23⟩ := sm_ev cu cv (by omega) (fun j => by rw [mu, mi, mv, mbi]; exact and_assoc)
  let K := K0 + K1 + K2 + K3 + K4 + K5 + K6 + K7 + K8 + K9 + K10 + K11 + K12 + K13 + K14 + K15 + K16 + K17 + K18 + K19 + K20 + K21 + K22 + K23
  refine ⟨K, a, b, c, un a b, un b a, inter a b, un a (inter a b), un (un a b) c, un b c, un a (un b c), inter b a, inter a (un a b), inter a a, inter (inter a b) c, inter b c, inter a (inter b c), ?_⟩
  exact { sane := e0 K (by omega), ma := e1 K (by omega), mb := e2 K (by omega), mc := e3 K (by omega), u_ab := e4 K (by omega), u_ba := e5 K (by omega), u_x := e6 K (by omega), u_abc := e7 K (by omega), u_bc := e8 K (by omega), u_cba := e9 K (by omega), i_i := e10 K (by omega), i_i1 := e11 K (by omega), i_p := e12 K (by omega), i_q := e13 K (by omega), i_u := e14 K (by omega), i_bi := e15 K (by omega), i_v := e16 K (by omega), s_ab := e17 K (by omega), s_x := e18 K (by omega), s_abc := e19 K (by omega), s_i := e20 K (by omega), s_p := e21 K (by omega), s_q := e22 K (by omega), s_u := e23 K (by omega) }
end Go.Proofs.Ytbahibaohehojaa.Pure
-- YtbahibaohehojaaQEnter
namespace Go.Proofs.Ytbahibaohehojaa.Q
open Go.RowKit Go.Proofs.YtbahibaohehojaaW.PrintWords Go.Proofs.YtbahibaohehojaaW.PrintLast Go.Proofs.YtbahibaohehojaaW.PrintMore
attribute [local go_sem] max2_int min2_int max_two min_two max_three min_three max_four min_four
set_option linter.unusedVariables false
set_option linter.unusedSimpArgs false
def joinW : List (List Char) → List Char
  | [] => []
  | [w] => w
  | w :: v :: ws => w ++ ' ' :: joinW (v :: ws)
theorem ws_char {c : Char} {r : List Char} (h : c ≠ ' ') {w : List Char} {ws : List (List Char)} (hr : wordsSigns r = w :: ws) : wordsSigns (c :: r) = (c :: w) :: ws := by
  rw [wordsSigns.eq_3 c r h, hr]
theorem ws_space (r : List Char) : wordsSigns (' ' :: r) = [] :: wordsSigns r := by
  rw [wordsSigns.eq_2]
theorem ws_word (r : List Char) : ∀ w : List Char, (∀ c ∈ w, c ≠ ' ') → wordsSigns (w ++ ' ' :: r) = w :: wordsSigns r
  | [], _ => ws_space r
  | c :: w, h => ws_char (h c List.mem_cons_self) (ws_word r w fun x hx => h x (List.mem_cons_of_mem _ hx))
theorem ws_last : ∀ w : List Char, (∀ c ∈ w, c ≠ ' ') → wordsSigns w = [w]
  | [], _ => by rw [wordsSigns.eq_1]
  | c :: w, h => ws_char (h c List.mem_cons_self) (ws_last w fun x hx => h x (List.mem_cons_of_mem _ hx))
theorem ws_join : ∀ ws : List (List Char), ws ≠ [] → (∀ w ∈ ws, ∀ c ∈ w, c ≠ ' ') → wordsSigns (joinW ws) = ws
  | [], h, _ => absurd rfl h
  | [w], _, h => ws_last w (h w List.mem_cons_self)
  | w :: v :: ws, _, h => by
    show wordsSigns (w ++ ' ' :: joinW (v :: ws)) = _
    rw [ws_word _ w (h w List.mem_cons_self), ws_join (v :: ws) (by simp) (fun x hx => h x (List.mem_cons_of_mem _ hx))]
def headWords : List (List Char) := [['h', 'a', 'r', 'n', 'e', 's', 's'],
  ['0', '5', '4', '4', '3', 'e', '7', '0', '4', 'd', '7', 'e', 'c', '0', 'e', '3', 'a', '5', '8', 'b', 'e', '4', '2', 'f', '9', '6', 'd', 'b', 'f', '8', '9', 'f', 'c', '7', '1', '7', '7', 'd', '0', 'f', '0', '0', 'f', '5', '5', '8', '5', '7', 'd', 'f', '4', 'e', '7', '2', '4', 'c', '0', '9', '9', '8', '5', 'd', '0', '7'],
  ['c', 'u', 't'],
  ['a', 't'],
  ['s', 'o', 'u', 'n', 'd', 's', 'e', 'r', 'v', 'i', 'c', 'e', '/', 's', 'o', 'u', 'n', 'd', 's', 'e', 'r', 'v', 'i', 'c', 'e', 'l', 'a', 'w', '1', '0', '.', 'O', 'f', 'f', 'e', 'r', 'B', 'e', 's', 't'],
  ['s', 'o', 'u', 'n', 'd', 's', 'e', 'r', 'v', 'i', 'c', 'e', '/', 's', 'o', 'u', 'n', 'd', 's', 'e', 'r', 'v', 'i', 'c', 'e', 'l', 'a', 'w', '1', '0', '.', 'O', 'f', 'f', 'e', 'r', 'C', 'o', 'm', 'p', 'a', 'r', 'e', 's'],
  ['s', 'o', 'u', 'n', 'd', 's', 'e', 'r', 'v', 'i', 'c', 'e', '/', 's', 'o', 'u', 'n', 'd', 's', 'e', 'r', 'v', 'i', 'c', 'e', 'l', 'a', 'w', '0', '9', '.', 'I', 'n', 't', 's', 'e', 't', 'M', 'a', 'k', 'e', 's'],
  ['s', 'o', 'u', 'n', 'd', 's', 'e', 'r', 'v', 'i', 'c', 'e', '/', 's', 'o', 'u', 'n', 'd', 's', 'e', 'r', 'v', 'i', 'c', 'e', 'l', 'a', 'w', '0', '9', '.', 'I', 'n', 't', 's', 'e', 't', 'N', 'e', 'a', 'r', 'e', 's', 't'],
  ['s', 'o', 'u', 'n', 'd', 's', 'e', 'r', 'v', 'i', 'c', 'e', '/', 's', 'o', 'u', 'n', 'd', 's', 'e', 'r', 'v', 'i', 'c', 'e', 'l', 'a', 'w', '0', '9', '.', 'I', 'n', 't', 's', 'e', 't', 'F', 'o', 'r', 'm', 's'],
  ['s', 'o', 'u', 'n', 'd', 's', 'e', 'r', 'v', 'i', 'c', 'e', '/', 's', 'o', 'u', 'n', 'd', 's', 'e', 'r', 'v', 'i', 'c', 'e', 'l', 'a', 'w', '3', '7', '.', 'G', 'l', 'i', 't', 'c', 'h', 'S', 'u', 'm', 's'],
  ['s', 'o', 'u', 'n', 'd', 's', 'e', 'r', 'v', 'i', 'c', 'e', '/', 's', 'o', 'u', 'n', 'd', 's', 'e', 'r', 'v', 'i', 'c', 'e', 'l', 'a', 'w', '3', '7', '.', 'G', 'l', 'i', 't', 'c', 'h', 'O', 'r', 'd', 'e', 'r', 's'],
  ['s', 'o', 'u', 'n', 'd', 's', 'e', 'r', 'v', 'i', 'c', 'e', '/', 's', 'o', 'u', 'n', 'd', 's', 'e', 'r', 'v', 'i', 'c', 'e', 'l', 'a', 'w', '3', '7', '.', 'G', 'l', 'i', 't', 'c', 'h', 'T', 'o', 't', 'a', 'l'],
  ['s', 'o', 'u', 'n', 'd', 's', 'e', 'r', 'v', 'i', 'c', 'e', '/', 's', 'o', 'u', 'n', 'd', 's', 'e', 'r', 'v', 'i', 'c', 'e', 'l', 'a', 'w', '0', '9', '.', 'I', 'n', 't', 's', 'e', 't', 'A', 'l', 'g', 'e', 'b', 'r', 'a'],
  ['s', 'o', 'u', 'n', 'd', 's', 'e', 'r', 'v', 'i', 'c', 'e', '/', 's', 'o', 'u', 'n', 'd', 's', 'e', 'r', 'v', 'i', 'c', 'e', 'l', 'a', 'w', '0', '9', '.', 'I', 'n', 't', 's', 'e', 't', 'C', 'o', 'm', 'b', 'i', 'n', 'e', 's'],
  ['s', 'o', 'u', 'n', 'd', 's', 'e', 'r', 'v', 'i', 'c', 'e', '/', 's', 'o', 'u', 'n', 'd', 's', 'e', 'r', 'v', 'i', 'c', 'e', 'l', 'a', 'w', '0', '9', '.', 'I', 'n', 't', 's', 'e', 't', 'M', 'e', 'm', 'b', 'e', 'r', 's'],
  ['s', 'o', 'u', 'n', 'd', 's', 'e', 'r', 'v', 'i', 'c', 'e', '/', 's', 'o', 'u', 'n', 'd', 's', 'e', 'r', 'v', 'i', 'c', 'e', 'l', 'a', 'w', '1', '2', '.', 'N', 'e', 'g', 'o', 't', 'i', 'a', 't', 'e', 'R', 'e', 'f', 'u', 's', 'e', 's'],
  ['s', 'o', 'u', 'n', 'd', 's', 'e', 'r', 'v', 'i', 'c', 'e', '/', 's', 'o', 'u', 'n', 'd', 's', 'e', 'r', 'v', 'i', 'c', 'e', 'l', 'a', 'w', '1', '2', '.', 'N', 'e', 'g', 'o', 't', 'i', 'a', 't', 'e', 'C', 'o', 'n', 'v', 'e', 'r', 't', 's'],
  ['s', 'o', 'u', 'n', 'd', 's', 'e', 'r', 'v', 'i', 'c', 'e', '/', 's', 'o', 'u', 'n', 'd', 's', 'e', 'r', 'v', 'i', 'c', 'e', 'l', 'a', 'w', '1', '2', '.', 'N', 'e', 'g', 'o', 't', 'i', 'a', 't', 'e', 'B', 'a', 'c', 'k', 'w', 'a', 'r', 'd', 's'],
  ['s', 'o', 'u', 'n', 'd', 's', 'e', 'r', 'v', 'i', 'c', 'e', '/', 's', 'o', 'u', 'n', 'd', 's', 'e', 'r', 'v', 'i', 'c', 'e', 'l', 'a', 'w', '1', '2', '.', 'N', 'e', 'g', 'o', 't', 'i', 'a', 't', 'e', 'W', 'i', 'd', 'e', 'r']]
theorem head_is : Try.prog.initOrder = String.ofList (joinW headWords) := by kernel_rfl
theorem head_words : wordsSigns Try.prog.initOrder.toList = headWords := by
  rw [head_is, String.toList_ofList]
  refine ws_join _ (by unfold headWords; exact List.cons_ne_nil _ _) ?_
  have h : headWords.all (fun w => w.all (fun c => c != ' ')) = true := by kernel_rfl
  intro w hw c hc e
  have := List.all_eq_true.1 (List.all_eq_true.1 h w hw) c hc
  rw [e] at this
  exact absurd this (by decide)
theorem bm : behindMainWord headWords = headWords.drop 2 := by kernel_rfl
theorem c0 : headWords.drop 2 = "cut".toList :: headWords.drop 3 := by kernel_rfl
theorem sl : stripLifts liftWords ("cut".toList :: headWords.drop 3) = ([], "cut".toList :: headWords.drop 3) := by kernel_rfl
theorem hw : behindMainWord (wordsSigns Try.prog.initOrder.toList) = "cut".toList :: headWords.drop 3 := (congrArg behindMainWord head_words).trans (bm.trans c0)
theorem enter_of (P : Program) (rest : List (List Char)) (h : behindMainWord (wordsSigns P.initOrder.toList) = "cut".toList :: rest) (hs : stripLifts liftWords ("cut".toList :: rest) = ([], "cut".toList :: rest))
    (h1 : P.laysLater = false) (h2 : P.bearsReflect = false) (h3 : P.doorFits [] = true) : P.mayEnter = true := by
  unfold Program.mayEnter
  rw [h]
  simp only []
  rw [hs, h1, h2, h3]
  simp
theorem final_of (P : Program) (rest : List (List Char)) (h : behindMainWord (wordsSigns P.initOrder.toList) = "cut".toList :: rest) (hs : stripLifts liftWords ("cut".toList :: rest) = ([], "cut".toList :: rest)) : P.liftsFinal = false := by
  unfold Program.liftsFinal Program.headLifts
  rw [h]
  simp only []
  rw [hs]
  simp
theorem make_of (P : Program) (rest : List (List Char)) (h : behindMainWord (wordsSigns P.initOrder.toList) = "cut".toList :: rest) : P.make = some .cut := by
  unfold Program.make
  rw [h]
  rfl
theorem lays : Try.prog.laysLater = false := by kernel_rfl
theorem refl : Try.prog.bearsReflect = false := by kernel_rfl
theorem door : Try.prog.doorFits [] = true := by kernel_rfl
theorem may_enter : Try.prog.mayEnter = true := enter_of _ _ hw sl lays refl door
theorem lifts_final : Try.prog.liftsFinal = false := final_of _ _ hw sl
theorem make_is : Try.prog.make = some .cut := make_of _ _ hw
end Go.Proofs.Ytbahibaohehojaa.Q
-- YtbahibaohehojaaLawIntsetAlgebra
namespace Go.Proofs.Ytbahibaohehojaa.intsetAlgebra
open Go.ChangeShapes Go.WideShapes Go.ChangeAt Go.RowKit
open Go.ChangeMaps (open_string shut_string)
set_option linter.unusedVariables false
theorem own : ownKnob Try.prog.godebug = none := by kernel_rfl
theorem laidOut : laidOutB Try.prog = true := by kernel_rfl
def IsRow (k : IntKind) (w : World) (a : Option Addr) (len cap : Nat) (zs : List Int) : Prop :=
  (a = none ∧ len = 0 ∧ cap = 0 ∧ zs = []) ∨
  ∃ x, a = some x ∧ len ≤ cap ∧ cap ≤ maxLen ∧ zs.length = cap ∧ (∀ i, i < zs.length → w.cell? (x.add i) = some (.int k (zs.getD i 0))) ∧ ∀ n ∈ zs, (Lit.int k n).wf = true
set_option maxRecDepth 100000 in
theorem lifted (os : Os) (started : os.Started) (H : Type) (enc : TypeId × Value → H) :
    ReturnsInHanded {} Try.checked os 11 .any (Rows.intsetAlgebraSpec.pre6 enc Try.prog Try.f11 Rows.intsetAlgebraRow.domain false) (Rows.intsetAlgebraSpec.post enc Try.prog Try.f11 false true false false) := by
  refine returnsInHanded_of_change_sized (C := Try.checked) own started (by kernel_rfl) Try.func11
    (ChangeSpec.witness6 (enc := enc) (C := Try.checked) false ⟨#[], #[.slice none 0 0, .slice none 0 0, .slice none 0 0], []⟩ 8 (by kernel_rfl) (by kernel_rfl) (by kernel_rfl) (by kernel_rfl)) ?_
  intro W base args ds gs before hval0 hW hcnd hsz0 _
  have hsz : (DataW.weightsEach Try.prog (Try.f11.params.toList ++ Rows.intsetAlgebraSpec.plain.varTypes Try.prog) (ds ++ gs)).all (· ≤ reachBytes) = true := hsz0
  have hval : ∀ (j : Nat) t v, Try.f11.params[j]? = some t → args[j]? = some v → Value.okWide Try.prog W .any base t v := hval0
  have hW' := hW
  obtain ⟨p, q, hA0, hV, rfl, hfz, hnd⟩ := hW
  have hA : DataW.TrodAll enc Try.prog W 0 (fun _ => true) true Try.f11.params.toList args.toList ds p := hA0
  rw [Try.params11] at hA hval hsz
  obtain ⟨v0, vs0, d0, ds0, p0, q0, hargs, rfl, rfl, h0, r0⟩ := trodAll_cons hA
  obtain ⟨v1, vs1, d1, ds1, p1, q1, rfl, rfl, rfl, h1, r1⟩ := trodAll_cons r0
  obtain ⟨v2, vs2, d2, ds2, p2, q2, rfl, rfl, rfl, h2, r2⟩ := trodAll_cons r1
  obtain ⟨rfl, rfl, rfl⟩ := trodAll_nil r2
  obtain rfl : args = #[v0, v1, v2] := by cases args; simp_all
  obtain ⟨rfl, rfl⟩ := trodVars_none hV
  obtain ⟨a0, len0, cap0, rfl⟩ := okWide_slice Try.underlying22 (hval 0 22 v0 rfl rfl)
  have k0 := h0
  have lt0 : ∀ x ∈ p0, x.block < W.heap.size := by obtain ⟨m, hm⟩ := k0; exact DataW.trod_lt m _ _ _ hm
  obtain ⟨z0, w0⟩ : ∃ zs, IsRow .u8 W a0 len0 cap0 zs := by
    obtain ⟨fuel, hf⟩ := h0
    rcases open_ints Try.underlying22 Try.underlying5 (by kernel_rfl) hf with ⟨hcs, _⟩ | ⟨x, l, c, zs, hcs, _, hl, hm, hz, _, hcell, hwz⟩
    · simp [Value.cells] at hcs
      obtain ⟨rfl, rfl, rfl⟩ := hcs
      exact ⟨[], .inl ⟨rfl, rfl, rfl, rfl⟩⟩
    · simp [Value.cells] at hcs
      obtain ⟨rfl, rfl, rfl⟩ := hcs
      exact ⟨zs, .inr ⟨_, rfl, hl, hm, by simpa using hz, hcell, hwz⟩⟩
  have y0 : len0 * 1 ≤ 140737488351232 := Go.Proofs.YtbahibaohehojaaW.PrintWords.sized_ints hsz (j := 0) (t := 22) rfl rfl Try.underlying22 Try.underlying5 (by kernel_rfl) (by kernel_rfl) h0
  obtain ⟨a1, len1, cap1, rfl⟩ := okWide_slice Try.underlying22 (hval 1 22 v1 rfl rfl)
  have k1 := h1
  have lt1 : ∀ x ∈ p1, x.block < W.heap.size := by obtain ⟨m, hm⟩ := k1; exact DataW.trod_lt m _ _ _ hm
  obtain ⟨z1, w1⟩ : ∃ zs, IsRow .u8 W a1 len1 cap1 zs := by
    obtain ⟨fuel, hf⟩ := h1
    rcases open_ints Try.underlying22 Try.underlying5 (by kernel_rfl) hf with ⟨hcs, _⟩ | ⟨x, l, c, zs, hcs, _, hl, hm, hz, _, hcell, hwz⟩
    · simp [Value.cells] at hcs
      obtain ⟨rfl, rfl, rfl⟩ := hcs
      exact ⟨[], .inl ⟨rfl, rfl, rfl, rfl⟩⟩
    · simp [Value.cells] at hcs
      obtain ⟨rfl, rfl, rfl⟩ := hcs
      exact ⟨zs, .inr ⟨_, rfl, hl, hm, by simpa using hz, hcell, hwz⟩⟩
  have y1 : len1 * 1 ≤ 140737488351232 := Go.Proofs.YtbahibaohehojaaW.PrintWords.sized_ints hsz (j := 1) (t := 22) rfl rfl Try.underlying22 Try.underlying5 (by kernel_rfl) (by kernel_rfl) h1
  obtain ⟨a2, len2, cap2, rfl⟩ := okWide_slice Try.underlying22 (hval 2 22 v2 rfl rfl)
  have k2 := h2
  have lt2 : ∀ x ∈ p2, x.block < W.heap.size := by obtain ⟨m, hm⟩ := k2; exact DataW.trod_lt m _ _ _ hm
  obtain ⟨z2, w2⟩ : ∃ zs, IsRow .u8 W a2 len2 cap2 zs := by
    obtain ⟨fuel, hf⟩ := h2
    rcases open_ints Try.underlying22 Try.underlying5 (by kernel_rfl) hf with ⟨hcs, _⟩ | ⟨x, l, c, zs, hcs, _, hl, hm, hz, _, hcell, hwz⟩
    · simp [Value.cells] at hcs
      obtain ⟨rfl, rfl, rfl⟩ := hcs
      exact ⟨[], .inl ⟨rfl, rfl, rfl, rfl⟩⟩
    · simp [Value.cells] at hcs
      obtain ⟨rfl, rfl, rfl⟩ := hcs
      exact ⟨zs, .inr ⟨_, rfl, hl, hm, by simpa using hz, hcell, hwz⟩⟩
  have y2 : len2 * 1 ≤ 140737488351232 := Go.Proofs.YtbahibaohehojaaW.PrintWords.sized_ints hsz (j := 2) (t := 22) rfl rfl Try.underlying22 Try.underlying5 (by kernel_rfl) (by kernel_rfl) h2
  clear hA0 hval0 hsz0 hsz
  refine (Q.soundservicelaw09_IntsetAlgebra.walk Pure.IntsetAlgebra a0 len0 cap0 z0 a1 len1 cap1 z1 a2 len2 cap2 z2 W w0 y0 w1 y1 w2 y2).mono fun e W' ⟨he, bel⟩ => ?_
  subst he
  exact ⟨_, rfl, _, _, _, [], _, [], hW', trodAll_mk1 (shut_bool Try.underlying4 _), (trodAll_cons_mk (Below.trod laidOut (by kernel_rfl) (of_decide_eq_true (by kernel_rfl)) k0 bel lt0) (trodAll_cons_mk (Below.trod laidOut (by kernel_rfl) (of_decide_eq_true (by kernel_rfl)) k1 bel lt1) (trodAll_cons_mk (Below.trod laidOut (by kernel_rfl) (of_decide_eq_true (by kernel_rfl)) k2 bel lt2) trodAll_mk0))), rfl, bel.frame _, fun h => by cases h⟩
theorem over : Rows.intsetAlgebraRow.holds Try.pinned (OpenSpec.ofChange Rows.intsetAlgebraSpec) :=
  OpenClaim.holds_of_wide 11 Try.f11 rfl rfl rfl rfl rfl rfl rfl ⟨rfl, rfl, rfl, rfl, rfl⟩ rfl rfl rfl rfl rfl (by kernel_rfl) Try.func11 (by show joinedFacts Try.prog _ _ _ _ = true; unfold joinedFacts; rw [Q.may_enter, Q.lifts_final, Q.make_is]; kernel_rfl)
    (of_decide_eq_true (by kernel_rfl)) (by unfold Func.isWrapper; first | (rw [if_pos (by decide +kernel)]; kernel_rfl) | (rw [if_neg (by decide +kernel)]; exact ⟨rfl, rfl⟩))
    (fun os started H enc _ => lifted os started H enc)
theorem proved : Rows.IntsetAlgebraSaid := over
end Go.Proofs.Ytbahibaohehojaa.intsetAlgebra
namespace Go.Proofs.Ytbahibaohehojaa
theorem intsetAlgebra_holds : Rows.IntsetAlgebraSaid := intsetAlgebra.proved
end Go.Proofs.Ytbahibaohehojaa
