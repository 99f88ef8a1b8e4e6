/- Proves that soundservice/soundservicelaw09.IntsetMakes returns true for every input, never panics, and leaves its input as it was (the given statement IntsetMakesSaid). Conditions: none but those of the given statement. This text is the last: it holds the theorem; it was written by a program (wip/pack.py) out of this claim's own texts, in build order; Lean checks it. -/
import Derived.Test.YtbahibaohehojaaZIntsetMakes4
import Derived.Below
import Derived.ChangeOld
import Derived.OpenShut
import Derived.ProofKit
import Derived.ShutString
import Derived.SizedLaws
import Derived.Test.YtbahibaohehojaaRows
import Derived.WalkKit
-- YtbahibaohehojaaQHPMade
namespace Go.Proofs.Ytbahibaohehojaa.Q
open Go.RowKit Go.Proofs.YtbahibaohehojaaW.PrintWords Go.Proofs.YtbahibaohehojaaW.PrintLast Go.Proofs.YtbahibaohehojaaW.PrintMore
attribute [local go_sem] max2_int min2_int max_two min_two max_three min_three max_four min_four
set_option linter.unusedVariables false
set_option linter.unusedSimpArgs false
theorem joined_l2 (l : List SP) (hok : ∀ x ∈ l, okS x) (hl : l.length < 8796093022208) : ∀ (d i : Nat) (out : List SP), i + d = l.length → out.length ≤ i → (∀ x ∈ out, okS x) →
    Ev (fun k => soundserviceref09_joined.l2 k out l (l.length : Int) (i : Int)) ((l.drop i).foldl mergeStep out)
  | 0, i, out, hi, _, _ => by
    refine Ev.last fun k => ?_
    simp only [soundserviceref09_joined.l2]
    rw [if_neg (by omega), List.drop_of_length_le (by omega)]
    rfl
  | d + 1, i, out, hi, ho, hoo => by
    have hlt : i < l.length := by omega
    have hx := hok l[i] (List.getElem_mem hlt)
    have hg : l.getD i z56 = l[i] := getD_at hlt _
    rw [List.drop_eq_getElem_cons hlt, List.foldl_cons]
    generalize hxe : l[i] = x at hx hg
    have hx' := hx
    unfold okS at hx'
    have hstep : (mergeStep out x).length ≤ i + 1 ∧ ∀ y ∈ mergeStep out x, okS y := by
      unfold mergeStep
      by_cases h0 : out.length = 0
      · rw [if_pos h0]
        exact ⟨by simp, fun y hy => by rw [List.mem_singleton.1 hy]; exact hx⟩
      · rw [if_neg h0]
        have hlast : out.length - 1 < out.length := by omega
        have ht := hoo _ (List.getElem_mem hlast)
        rw [getD_at hlast]
        by_cases h1 : x.f0 ≤ out[out.length - 1].f1 + 1
        · rw [if_pos h1]
          refine ⟨by simp; omega, fun y hy => ?_⟩
          rcases List.mem_or_eq_of_mem_set hy with hy | hy
          · exact hoo y hy
          · rw [hy]
            have hm := mx_cases out[out.length - 1].f1 x.f1
            unfold okS at *
            simp only
            omega
        · rw [if_neg h1]
          refine ⟨by simp; omega, fun y hy => ?_⟩
          rcases List.mem_append.1 hy with hy | hy
          · exact hoo y hy
          · rw [List.mem_singleton.1 hy]; exact hx
    refine Ev.step (f := fun k => soundserviceref09_joined.l2 k (mergeStep out x) l (l.length : Int) ((i + 1 : Nat) : Int)) (fun k => ?_) (joined_l2 l hok hl d (i + 1) _ (by omega) hstep.1 hstep.2)
    simp only [soundserviceref09_joined.l2]
    rw [if_pos (by omega), if_pos (by omega), if_pos (by omega), rd_nat, hg, show wrap64 ((i : Int) + 1) = ((i + 1 : Nat) : Int) from by rw [w64 (by omega) (by omega)]; omega]
    by_cases h0 : out.length = 0
    · rw [if_neg (by rw [w64 (by omega) (by omega)]; omega), Option.bind_some, if_pos (by simp; omega)]
      unfold mergeStep
      rw [if_pos h0, List.eq_nil_of_length_eq_zero h0]
      rfl
    · have hlast : out.length - 1 < out.length := by omega
      have ht := hoo _ (List.getElem_mem hlast)
      unfold okS at ht
      have hw : wrap64 ((out.length : Int) - 1) = ((out.length - 1 : Nat) : Int) := by rw [w64 (by omega) (by omega)]; omega
      rw [hw, if_pos (by omega), if_pos (by omega), if_pos (by omega), rd_nat, getD_at hlast, w64 (by omega) (by omega)]
      unfold mergeStep
      rw [if_neg h0, getD_at hlast]
      by_cases h1 : x.f0 ≤ out[out.length - 1].f1 + 1
      · rw [if_pos h1, if_pos (by omega), Int.toNat_natCast]
      · rw [if_neg h1, if_neg (by omega), Option.bind_some, if_pos (by simp; omega)]
theorem ins_perm {out : List SP} {q : Nat} (x : SP) : (out.take q ++ [x] ++ out.drop q).Perm (x :: out) := by
  have h1 : (out.take q ++ [x] ++ out.drop q).Perm (x :: (out.take q ++ out.drop q)) := by
    rw [List.append_assoc]
    exact List.perm_middle
  rw [List.take_append_drop] at h1
  exact h1
theorem ins_sorted {out : List SP} {q : Nat} {x : SP} (hq : q ≤ out.length) (hs : sortedLo out) (hhi : ∀ j (h : j < out.length), q ≤ j → x.f0 < out[j].f0) (hlo : ∀ h : 0 < q, (out[q - 1]'(by omega)).f0 ≤ x.f0) :
    sortedLo (out.take q ++ [x] ++ out.drop q) := by
  have hlow : ∀ y ∈ out.take q, y.f0 ≤ x.f0 := fun y hy => by
    obtain ⟨j, hj, rfl⟩ := List.mem_iff_getElem.1 hy
    rw [List.getElem_take]
    rw [List.length_take] at hj
    have hl := hlo (by omega)
    by_cases he : j = q - 1
    · subst he; exact hl
    · have := List.pairwise_iff_getElem.1 hs j (q - 1) (by omega) (by omega) (by omega)
      omega
  have hhigh : ∀ y ∈ out.drop q, x.f0 < y.f0 := fun y hy => by
    obtain ⟨j, hj, rfl⟩ := List.mem_iff_getElem.1 hy
    rw [List.getElem_drop]
    rw [List.length_drop] at hj
    exact hhi (q + j) (by omega) (by omega)
  unfold sortedLo
  rw [List.append_assoc]
  refine List.pairwise_append.2 ⟨hs.sublist (List.take_sublist _ _), ?_, fun a ha b hb => ?_⟩
  · refine List.pairwise_append.2 ⟨List.pairwise_singleton _ _, hs.sublist (List.drop_sublist _ _), fun a ha b hb => ?_⟩
    rw [List.mem_singleton.1 ha]
    have := hhigh b hb
    omega
  · have h1 := hlow a ha
    rcases List.mem_append.1 hb with hb | hb
    · rw [List.mem_singleton.1 hb]; exact h1
    · have := hhigh b hb; omega
theorem joined_l1 (l out : List SP) (x : SP) (i : Nat) (r : List SP) (hol : out.length + 1 < 8796093022208) (hs : sortedLo out)
    (H : ∀ out', out'.Perm (x :: out) → sortedLo out' → Ev (fun k => soundserviceref09_joined.l0 k out' l (l.length : Int) (wrap64 ((i : Int) + 1))) r) :
    ∀ p : Nat, p ≤ out.length → (∀ j (h : j < out.length), p ≤ j → x.f0 < out[j].f0) → Ev (fun k => soundserviceref09_joined.l1 k out (p : Int) l (l.length : Int) (i : Int) x.f0 x.f1) r
  | 0, hp, hhi => by
    refine Ev.step (fun k => ?_) (H (out.take 0 ++ [x] ++ out.drop 0) (ins_perm x) (ins_sorted (by omega) hs hhi (fun h => absurd h (by omega))))
    simp only [soundserviceref09_joined.l1]
    rw [if_neg (by omega), if_pos (by omega), if_pos (by omega)]
    simp only [Option.bind_some, Int.toNat_natCast]
    rw [if_pos (by simp), if_pos (by simp), if_pos (by simp; omega)]
    rfl
  | p + 1, hp, hhi => by
    have hlt : p < out.length := by omega
    have hw : wrap64 (((p + 1 : Nat) : Int) - 1) = (p : Int) := by rw [w64 (by omega) (by omega)]; omega
    have hg : rd_T56 out (p : Int) = out[p] := by rw [rd_nat, getD_at hlt]
    by_cases hgt : out[p].f0 > x.f0
    · refine Ev.step (fun k => ?_) (joined_l1 l out x i r hol hs H p (by omega) (fun j hj hpj => by
        by_cases he : j = p
        · subst he; exact hgt
        · exact hhi j hj (by omega)))
      simp only [soundserviceref09_joined.l1]
      rw [if_pos (by omega), hw, if_pos (by omega), if_pos (by omega), hg, if_pos hgt]
    · refine Ev.step (fun k => ?_) (H (out.take (p + 1) ++ [x] ++ out.drop (p + 1)) (ins_perm x) (ins_sorted hp hs hhi (fun h => by simpa using hgt)))
      simp only [soundserviceref09_joined.l1]
      rw [if_pos (by omega), hw, if_pos (by omega), if_pos (by omega), hg, if_neg hgt, if_pos (by omega), if_pos (by omega)]
      simp only [Option.bind_some, Int.toNat_natCast, List.nil_append]
      rw [if_pos (by simp; omega), if_pos (by simp; omega), if_pos (by simp; omega)]
theorem joined_l0 (l : List SP) (hok : ∀ x ∈ l, okS x) (hl : l.length + 1 < 8796093022208) : ∀ (d i : Nat) (out : List SP), i + d = l.length → out.Perm (l.take i) → sortedLo out →
    Ev (fun k => soundserviceref09_joined.l0 k out l (l.length : Int) (i : Int)) (norm l)
  | 0, i, out, hi, hp, hs => by
    rw [List.take_of_length_le (by omega)] at hp
    have hn : norm l = out.foldl mergeStep [] := (eq_norm hok (mergeAll_norm hok hp hs).1 (mergeAll_norm hok hp hs).2.1).symm
    rw [hn]
    refine Ev.step (fun k => ?_) (joined_l2 out (fun x hx => hok x (hp.mem_iff.1 hx)) (by rw [hp.length_eq]; omega) out.length 0 [] (by omega) (by simp) (fun _ h => by cases h))
    simp only [soundserviceref09_joined.l0]
    rw [if_neg (by omega)]
    rfl
  | d + 1, i, out, hi, hp, hs => by
    have hlt : i < l.length := by omega
    have hol : out.length = i := by rw [hp.length_eq, List.length_take]; omega
    refine Ev.step (fun k => ?_) (joined_l1 l out l[i] i (norm l) (by omega) hs (fun out' hp' hs' => ?_) out.length (by omega) (fun j hj hpj => absurd hj (by omega)))
    · simp only [soundserviceref09_joined.l0]
      rw [if_pos (by omega), if_pos (by omega), if_pos (by omega), rd_nat, getD_at hlt]
    · rw [show wrap64 ((i : Int) + 1) = ((i + 1 : Nat) : Int) from by rw [w64 (by omega) (by omega)]; omega]
      refine joined_l0 l hok hl d (i + 1) out' (by omega) ?_ hs'
      rw [List.take_succ_eq_append_getElem hlt]
      exact hp'.trans ((List.Perm.cons _ hp).trans (List.perm_append_singleton _ _).symm)
theorem joined_ev (l : List SP) (hok : ∀ x ∈ l, okS x) (hl : l.length + 1 < 8796093022208) : Ev (fun k => soundserviceref09_joined.f k l) (norm l) :=
  joined_l0 l hok hl l.length 0 [] (by omega) (List.Perm.refl _) List.Pairwise.nil
theorem refmake_l0 (l : List SP) (hl : l.length + 1 < 8796093022208) : ∀ (d i : Nat), i + d = l.length → (∀ x ∈ l.take i, okS x) →
    Ev (fun k => soundserviceref09_Make.l0 k l l (l.length : Int) (i : Int)) (makeR l)
  | 0, i, hi, hok => by
    rw [List.take_of_length_le (by omega)] at hok
    unfold makeR
    rw [if_pos hok]
    refine Ev.step (f := fun k => (soundserviceref09_joined.f k l).bind fun out => if (out.length : Int) > 64 then some ([], 3) else some (out, 0)) (fun k => ?_) (Ev.bind (f := fun _ out => if (out.length : Int) > 64 then some ([], 3) else some (out, 0)) (joined_ev l hok hl) (Ev.const fun k => ?_))
    · simp only [soundserviceref09_Make.l0]
      rw [if_neg (by omega)]
    · by_cases h64 : 64 < (norm l).length
      · rw [if_pos (by omega), if_pos h64]
      · rw [if_neg (by omega), if_neg h64]
  | d + 1, i, hi, hok => by
    have hlt : i < l.length := by omega
    have hg : rd_T56 l (i : Int) = l[i] := by rw [rd_nat, getD_at hlt]
    by_cases hx : okS l[i]
    · have hx' := hx
      unfold okS at hx'
      refine Ev.step (fun k => ?_) (refmake_l0 l hl d (i + 1) (by omega) (fun x hm => ?_))
      · simp only [soundserviceref09_Make.l0]
        rw [if_pos (by omega), if_pos (by omega), if_pos (by omega), hg, if_neg (by omega), if_neg (by omega), if_neg (by omega), w64 (by omega) (by omega)]
        rfl
      · rw [List.take_succ_eq_append_getElem hlt] at hm
        rcases List.mem_append.1 hm with hm | hm
        · exact hok x hm
        · rw [List.mem_singleton.1 hm]; exact hx
    · have hr : makeR l = ([], 2) := if_neg (fun h => hx (h _ (List.getElem_mem hlt)))
      rw [hr]
      refine Ev.last fun k => ?_
      simp only [soundserviceref09_Make.l0]
      rw [if_pos (by omega), if_pos (by omega), if_pos (by omega), hg]
      unfold okS at hx
      by_cases h0 : l[i].f0 < 0
      · rw [if_pos h0]
      · rw [if_neg h0]
        by_cases h1 : l[i].f1 < l[i].f0
        · rw [if_pos h1]
        · rw [if_neg h1, if_pos (by omega)]
theorem refmake_ev (l : List SP) (hl : l.length + 1 < 8796093022208) : Ev (fun k => soundserviceref09_Make.f k l) (makeR l) :=
  refmake_l0 l hl l.length 0 (by omega) (fun _ h => by cases h)
theorem same_l0 (l : List SP) (hl : l.length + 1 < 8796093022208) : ∀ (d i : Nat), i + d = l.length →
    Ev (fun k => soundserviceref09_Same.l0 k (l.length : Int) (i : Int) l l) true
  | 0, i, hi => by
    refine Ev.last fun k => ?_
    simp only [soundserviceref09_Same.l0]
    rw [if_neg (by omega)]
  | d + 1, i, hi => by
    refine Ev.step (fun k => ?_) (same_l0 l hl d (i + 1) (by omega))
    simp only [soundserviceref09_Same.l0]
    rw [if_pos (by omega), if_pos (by omega), if_pos (by omega), if_pos (by omega), if_neg (by simp), w64 (by omega) (by omega)]
    rfl
theorem same_ev (l : List SP) (hl : l.length + 1 < 8796093022208) : Ev (fun k => soundserviceref09_Same.f k l l) true := by
  have h := same_l0 l hl l.length 0 (by omega)
  refine Ev.congr (fun k => ?_) h
  unfold soundserviceref09_Same.f
  rw [if_pos rfl]
  rfl
structure Small (m : List SP) : Prop where
  can : Canon m
  len : m.length ≤ 20
  top : ∀ x ∈ m, x.f1 ≤ 274
theorem Small.okV {m : List SP} (h : Small m) : okV m := ⟨h.can, by have := h.len; omega⟩
theorem Small.lt {m : List SP} (h : Small m) : m.length + 1 < 8796093022208 := by have := h.len; omega
theorem sane_norm : norm [⟨5, 9⟩, ⟨1, 4⟩, ⟨20, 20⟩] = ([⟨1, 9⟩, ⟨20, 20⟩] : List SP) := by
  refine (eq_norm ?_ ⟨?_, ?_⟩ fun n => ?_).symm
  · decide
  · decide
  · simp
  · simp only [memS_cons, memS_nil, or_false]
    omega
theorem sane_canon : okV ([⟨1, 9⟩, ⟨20, 20⟩] : List SP) := ⟨⟨by decide, by simp⟩, by simp⟩
theorem sane_ev : Ev (fun k => soundservicelaw09_sane.f k) true := by
  have hmk := make_ev [⟨5, 9⟩, ⟨1, 4⟩, ⟨20, 20⟩] (by simp)
  have hmr : makeR [⟨5, 9⟩, ⟨1, 4⟩, ⟨20, 20⟩] = (([⟨1, 9⟩, ⟨20, 20⟩] : List SP), 0) := by
    unfold makeR
    rw [if_pos (by decide), sane_norm, if_neg (by simp)]
  rw [hmr] at hmk
  have hn1 := nearest_ev [⟨1, 9⟩, ⟨20, 20⟩] 14 (by omega) (by simp)
  have hn2 := nearest_ev [⟨1, 9⟩, ⟨20, 20⟩] 15 (by omega) (by simp)
  rw [spansR_of sane_canon] at hn1 hn2
  rw [show near [⟨1, 9⟩, ⟨20, 20⟩] 14 = (9, true) from by decide] at hn1
  rw [show near [⟨1, 9⟩, ⟨20, 20⟩] 15 = (20, true) from by decide] at hn2
  have hv := valid_ev [⟨1, 9⟩, ⟨20, 20⟩] (by simp)
  rw [decide_eq_true sane_canon] at hv
  have hh1 := has_ev [⟨1, 9⟩, ⟨20, 20⟩] 20 (by simp)
  have hh2 := has_ev [⟨1, 9⟩, ⟨20, 20⟩] 10 (by simp)
  rw [spansR_of sane_canon, decide_eq_true (by simp only [memS_cons, memS_nil, or_false]; omega)] at hh1
  rw [spansR_of sane_canon, decide_eq_false (by simp only [memS_cons, memS_nil, or_false]; omega)] at hh2
  unfold soundservicelaw09_sane.f
  refine Ev.bind hmk ?_
  refine Ev.bind hn1 ?_
  refine Ev.bind hn2 ?_
  refine Ev.bind hv ?_
  refine Ev.bind hh1 ?_
  refine Ev.bind hh2 ?_
  exact Ev.const fun _ => rfl
end Go.Proofs.Ytbahibaohehojaa.Q
-- YtbahibaohehojaaPureIntsetMakes
namespace Go.Proofs.Ytbahibaohehojaa.Pure
open Go.Proofs.Ytbahibaohehojaa.Q Go.RowKit Go.Proofs.YtbahibaohehojaaW.PrintWords Go.Proofs.YtbahibaohehojaaW.PrintLast Go.Proofs.YtbahibaohehojaaW.PrintMore
attribute [local go_sem] max2_int min2_int max_two min_two max_three min_three max_four min_four
set_option linter.unusedVariables false
set_option linter.unusedSimpArgs false
theorem IntsetMakes : soundservicelaw09_IntsetMakes.Pure := by
  intro l0 l1 a2 hw0 hw1 hw2
  have ha := i64_wf hw2
  refine Ev.rounds ?_
  unfold soundservicelaw09_IntsetMakes.f
  refine Ev.bind sane_ev ?_
  simp only [if_true]
  by_cases h0 : (l0.length : Int) > 200
  · simp only [if_pos h0]
    exact Ev.last fun k => by simp only [soundservicelaw09_IntsetMakes.j0, if_true]
  · simp only [if_neg h0]
    unfold soundservicekeep_Set.f
    simp only [Option.bind_some]
    by_cases h1 : (l1.length : Int) ≤ 70
    · simp only [decide_eq_true h1, Bool.not_true]
      have hl : (makeR l0).1.length ≤ 200 := by
        unfold makeR
        by_cases hk : ∀ x ∈ l0, okS x
        · rw [if_pos hk]
          have := (norm_spec hk).2.2
          by_cases h64 : 64 < (norm l0).length
          · rw [if_pos h64]; simp
          · rw [if_neg h64]; simp only; omega
        · rw [if_neg hk]; simp
      refine Ev.step (f := fun k => (intset_Make.f k l0).bind fun bt632 => ((soundserviceref09_Make.f k l0).bind fun bt637 => (if bt632.2 = bt637.2 then ((soundserviceref09_Same.f k bt632.1 bt637.1).bind fun t642 => (if t642 = true then ((intset_Valid.f k l1).bind fun t643 => ((soundserviceref09_Valid.f k l1).bind fun t644 => (if (t643 == t644) = true then ((intset_Has.f k l1 a2).bind fun t645 => ((soundserviceref09_Has.f k l1 a2).bind fun t646 => (if (t645 == t646) = true then ((intset_Has.f k bt637.1 a2).bind fun t647 => ((soundserviceref09_Has.f k bt637.1 a2).bind fun t648 => (some (t647 == t648)))) else (some false)))) else (some false)))) else (some false))) else (some false)))) (fun k => by simp only [soundservicelaw09_IntsetMakes.j0]; rw [if_neg (by simp)]) ?_
      refine Ev.bind (make_ev l0 (by omega)) ?_
      refine Ev.bind (refmake_ev l0 (by omega)) ?_
      simp only [if_true]
      refine Ev.bind (same_ev (makeR l0).1 (by omega)) ?_
      simp only [if_true]
      refine Ev.bind (valid_ev l1 (by omega)) ?_
      refine Ev.bind (refvalid_ev l1 (by omega)) ?_
      simp only [beq_self_eq_true, if_true]
      refine Ev.bind (has_ev l1 a2 (by omega)) ?_
      refine Ev.bind (refhas_ev l1 a2 (by omega)) ?_
      simp only [beq_self_eq_true, if_true]
      refine Ev.bind (has_ev (makeR l0).1 a2 (by omega)) ?_
      refine Ev.bind (refhas_ev (makeR l0).1 a2 (by omega)) ?_
      exact Ev.const fun _ => by simp
    · simp only [decide_eq_false h1, Bool.not_false]
      exact Ev.last fun k => by simp only [soundservicelaw09_IntsetMakes.j0, if_true]
end Go.Proofs.Ytbahibaohehojaa.Pure
-- YtbahibaohehojaaLawIntsetMakes
namespace Go.Proofs.Ytbahibaohehojaa.intsetMakes
open Go.ChangeShapes Go.WideShapes Go.ChangeAt Go.RowKit
open Go.ChangeMaps (open_string shut_string)
set_option linter.unusedVariables false
theorem own : ownKnob Try.prog.godebug = none := by kernel_rfl
theorem laidOut : laidOutB Try.prog = true := by kernel_rfl
def IsRow (k : IntKind) (w : World) (a : Option Addr) (len cap : Nat) (zs : List Int) : Prop :=
  (a = none ∧ len = 0 ∧ cap = 0 ∧ zs = []) ∨
  ∃ x, a = some x ∧ len ≤ cap ∧ cap ≤ maxLen ∧ zs.length = cap ∧ (∀ i, i < zs.length → w.cell? (x.add i) = some (.int k (zs.getD i 0))) ∧ ∀ n ∈ zs, (Lit.int k n).wf = true
set_option maxRecDepth 100000 in
theorem lifted (os : Os) (started : os.Started) (H : Type) (enc : TypeId × Value → H) :
    ReturnsInHanded {} Try.checked os 5 .any (Rows.intsetMakesSpec.pre6 enc Try.prog Try.f5 Rows.intsetMakesRow.domain false) (Rows.intsetMakesSpec.post enc Try.prog Try.f5 false true false false) := by
  refine returnsInHanded_of_change_sized (C := Try.checked) own started (by kernel_rfl) Try.func5
    (ChangeSpec.witness6 (enc := enc) (C := Try.checked) false ⟨#[], #[.slice none 0 0, .agg #[.slice none 0 0], .int .i64 0], []⟩ 8 (by kernel_rfl) (by kernel_rfl) (by kernel_rfl) (by kernel_rfl)) ?_
  intro W base args ds gs before hval0 hW hcnd hsz0 _
  have hsz : (DataW.weightsEach Try.prog (Try.f5.params.toList ++ Rows.intsetMakesSpec.plain.varTypes Try.prog) (ds ++ gs)).all (· ≤ reachBytes) = true := hsz0
  have hval : ∀ (j : Nat) t v, Try.f5.params[j]? = some t → args[j]? = some v → Value.okWide Try.prog W .any base t v := hval0
  have hW' := hW
  obtain ⟨p, q, hA0, hV, rfl, hfz, hnd⟩ := hW
  have hA : DataW.TrodAll enc Try.prog W 0 (fun _ => true) true Try.f5.params.toList args.toList ds p := hA0
  rw [Try.params5] at hA hval hsz
  obtain ⟨v0, vs0, d0, ds0, p0, q0, hargs, rfl, rfl, h0, r0⟩ := trodAll_cons hA
  obtain ⟨v1, vs1, d1, ds1, p1, q1, rfl, rfl, rfl, h1, r1⟩ := trodAll_cons r0
  obtain ⟨v2, vs2, d2, ds2, p2, q2, rfl, rfl, rfl, h2, r2⟩ := trodAll_cons r1
  obtain ⟨rfl, rfl, rfl⟩ := trodAll_nil r2
  obtain rfl : args = #[v0, v1, v2] := by cases args; simp_all
  obtain ⟨rfl, rfl⟩ := trodVars_none hV
  obtain ⟨a0, len0, cap0, rfl⟩ := okWide_slice Try.underlying40 (hval 0 40 v0 rfl rfl)
  have k0 := h0
  have lt0 : ∀ x ∈ p0, x.block < W.heap.size := by obtain ⟨m, hm⟩ := k0; exact DataW.trod_lt m _ _ _ hm
  obtain ⟨l0, rfl, lc0, lC0, lw0⟩ := Q.Opens.slice_at Q.opens_spans h0
  obtain ⟨cs1, rfl, _⟩ := okWide_struct Try.underlying42 (hval 1 42 v1 rfl rfl)
  have k1 := h1
  have lt1 : ∀ x ∈ p1, x.block < W.heap.size := by obtain ⟨m, hm⟩ := k1; exact DataW.trod_lt m _ _ _ hm
  obtain ⟨a1, cap1, l1, rfl, lc1, lC1, lw1⟩ := Q.set_at h1
  obtain ⟨a2, rfl, rfl, rfl, w2⟩ := open_int Try.underlying3 (hval 2 3 v2 rfl rfl) h2
  clear hA0 hval0 hsz0 hsz
  refine (Q.soundservicelaw09_IntsetMakes.walk Pure.IntsetMakes a0 cap0 l0 a1 cap1 l1 a2 W lC0 lc0 lw0 lC1 lc1 lw1 w2).mono fun e W' ⟨he, bel⟩ => ?_
  subst he
  exact ⟨_, rfl, _, _, _, [], _, [], hW', trodAll_mk1 (shut_bool Try.underlying4 _), (trodAll_cons_mk (Below.trod laidOut (by kernel_rfl) (of_decide_eq_true (by kernel_rfl)) k0 bel lt0) (trodAll_cons_mk (Below.trod laidOut (by kernel_rfl) (of_decide_eq_true (by kernel_rfl)) k1 bel lt1) (trodAll_cons_mk (shut_int Try.underlying3 w2) trodAll_mk0))), rfl, bel.frame _, fun h => by cases h⟩
theorem over : Rows.intsetMakesRow.holds Try.pinned (OpenSpec.ofChange Rows.intsetMakesSpec) :=
  OpenClaim.holds_of_wide 5 Try.f5 rfl rfl rfl rfl rfl rfl rfl ⟨rfl, rfl, rfl, rfl, rfl⟩ rfl rfl rfl rfl rfl (by kernel_rfl) Try.func5 (by show joinedFacts Try.prog _ _ _ _ = true; unfold joinedFacts; rw [Q.may_enter, Q.lifts_final, Q.make_is]; kernel_rfl)
    (of_decide_eq_true (by kernel_rfl)) (by unfold Func.isWrapper; first | (rw [if_pos (by decide +kernel)]; kernel_rfl) | (rw [if_neg (by decide +kernel)]; exact ⟨rfl, rfl⟩))
    (fun os started H enc _ => lifted os started H enc)
theorem proved : Rows.IntsetMakesSaid := over
end Go.Proofs.Ytbahibaohehojaa.intsetMakes
namespace Go.Proofs.Ytbahibaohehojaa
theorem intsetMakes_holds : Rows.IntsetMakesSaid := intsetMakes.proved
end Go.Proofs.Ytbahibaohehojaa
