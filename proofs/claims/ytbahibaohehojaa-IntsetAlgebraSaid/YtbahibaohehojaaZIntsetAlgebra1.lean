/- Proves that soundservice/soundservicelaw09.IntsetAlgebra returns true for every input, never panics, and leaves its input as it was (the given statement IntsetAlgebraSaid). Conditions: none but those of the given statement. This text is part 2 of 5 of that proof; it was written by a program (wip/pack.py) out of this claim's own texts, in build order; Lean checks it. -/
import Derived.Test.YtbahibaohehojaaZIntsetAlgebra0
import Derived.ArgAppend
import Derived.Below
import Derived.BigQuiet
import Derived.Deep.AppendLies
import Derived.Deep.CutBlock
import Derived.Deep.DeepCutAuto
import Derived.Deep.Draws
import Derived.Deep.LoopGhost
import Derived.Deep.OwnRows
import Derived.Deep.QuietTactic
import Derived.Deep.RegionHeld3
import Derived.Deep.RegionWith
import Derived.Ground.NamesProg
import Derived.Ground.SlsfProg
import Derived.KernelRfl
import Derived.Laws.BitsLemmas
import Derived.Laws.BytesArg
import Derived.Laws.IdiomCopy
import Derived.Laws.MakeOwn
import Derived.Laws.OwnMore
import Derived.Laws.Rows
import Derived.Laws.Slices
import Derived.Lib.AppendStr
import Derived.Lib.ConvBytes
import Derived.Maps.AppendAt
import Derived.OrdersHeld
import Derived.OwnWalk
import Derived.RowKit
import Derived.RowKit3
import Derived.Shelf.Abstract
import Derived.Shelf.SlLaysF0
import Derived.Shelf.SlSortCmp.NoneTotal
import Derived.Shelf.SlSortCmp.WholeK
import Derived.Tactics
import Derived.Test.YtbahibaohehojaaProg
import Derived.WalkKit
import Derived.WalkSpells
import Derived.WideLaws
-- YtbahibaohehojaaQ0
namespace Go.Proofs.Ytbahibaohehojaa.Q
open Go.RowKit Go.Proofs.YtbahibaohehojaaW.PrintWords Go.Proofs.YtbahibaohehojaaW.PrintLast Go.Proofs.YtbahibaohehojaaW.PrintMore
attribute [local go_sem] max2_int min2_int max_two min_two max_three min_three max_four min_four
set_option linter.unusedVariables false
set_option linter.unusedSimpArgs false
def errW : Option Int → Value
  | none => .nilIface
  | some c => .iface 0 (.int .i64 c)
theorem errW_none : errW none = .nilIface := rfl
theorem errW_some (c : Int) : errW (some c) = .iface 0 (.int .i64 c) := rfl
theorem info56 : (Try.prog.info? 56).map (fun i => (i.zero, i.size, i.bytes)) = some (some (.agg #[(.int .i64 0), (.int .i64 0)]), 2, 16) := by kernel_rfl
structure S56 where
  f0 : Int
  f1 : Int
def z56 : S56 := ⟨(0 : Int), (0 : Int)⟩
def k56 : Kd S56 := Kd.iso (Kd.pair (Kd.int .i64) (Kd.int .i64)) (fun x : S56 => (x.f0, x.f1))
theorem k56_heap : Kd.Heap k56 := Kd.heap_iso _ (Kd.heap_pair (Kd.heap_int .i64) (Kd.heap_int .i64))
theorem k56_open {w : World} {x : S56} {cs : List Value} (h : k56.K w x cs) : cs = [.int .i64 x.f0, .int .i64 x.f1] := by
  obtain ⟨_, _, rfl, rfl, rfl⟩ := h
  exact rfl
theorem k56_openM {w : World} {base : Nat} {ok : Nat → Prop} {x : S56} {cs : List Value} (h : k56.M w base ok x cs) : cs = [.int .i64 x.f0, .int .i64 x.f1] := by
  obtain ⟨_, _, rfl, rfl, rfl⟩ := h
  exact rfl
theorem k56_mkM (w : World) (base : Nat) (ok : Nat → Prop) (x : S56)  : k56.M w base ok x [.int .i64 x.f0, .int .i64 x.f1] := ⟨[.int .i64 x.f0], [.int .i64 x.f1], rfl, rfl, rfl⟩
def rd_T56 (xs : List S56) (i : Int) : S56 := xs.getD i.toNat z56
theorem at_T56 {w : World} {A : Option Addr} {n : Nat} {xs : List S56} (h : Kd.C k56 w A n xs) (i : Int) (h0 : 0 ≤ i) (h1 : i < n) : ∃ ad , A = some ad ∧ w.cell? (ad.add (i.toNat * 2)) = some (.int .i64 (rd_T56 xs i).f0) ∧ w.cell? ⟨(ad.add (i.toNat * 2)).block, (ad.add (i.toNat * 2)).off + 1, none⟩ = some (.int .i64 (rd_T56 xs i).f1) := by
  obtain ⟨ad, c, e, _, hK, hc0⟩ := Kd.C_get h z56 i h0 h1
  have hc : ∀ j u, c[j]? = some u → w.cell? (ad.add (i.toNat * 2 + j)) = some u := hc0
  obtain rfl := k56_open hK
  exact ⟨ad, e, hc 0 _ rfl, by rw [← add_field _ _ 1 (by omega)]; exact hc 1 _ rfl⟩
structure S55 where
  f0 : Int
  f1 : Int
def z55 : S55 := ⟨(0 : Int), (0 : Int)⟩
end Go.Proofs.Ytbahibaohehojaa.Q
-- YtbahibaohehojaaQHAtSet
namespace Go.Proofs.Ytbahibaohehojaa.Q
open Go.RowKit Go.Proofs.YtbahibaohehojaaW.PrintWords Go.Proofs.YtbahibaohehojaaW.PrintLast Go.Proofs.YtbahibaohehojaaW.PrintMore
attribute [local go_sem] max2_int min2_int max_two min_two max_three min_three max_four min_four
set_option linter.unusedVariables false
set_option linter.unusedSimpArgs false
structure AtSet (w : World) (g : Nat) (A : Option Addr) (c : Nat) (l : List S56) : Prop where
  blk : w.heap[g]? = some (.cells #[.slice A l.length c] 42 (0, 0))
  own : Kd.R k56 56 w 0 (fun _ => True) (.slice A l.length c) l
namespace AtSet
variable {w w1 : World} {g : Nat} {A : Option Addr} {c : Nat} {l : List S56}
theorem below (h : AtSet w g A c l) (hb : Below w.heap.size w w1) : AtSet w1 g A c l := ⟨blk_below h.blk hb, Kd.R_below h.own hb⟩
theorem alloc (h : AtSet w g A c l) (o : Obj) : AtSet (w.alloc o) g A c l := ⟨blk_alloc h.blk o, Kd.R_alloc h.own o⟩
theorem drew (h : AtSet w g A c l) : AtSet w.drew g A c l := ⟨blk_drew h.blk, Kd.R_drew h.own⟩
theorem cap (h : AtSet w g A c l) : l.length ≤ c := (Kd.R_reads' h.own).2.1
theorem row (h : AtSet w g A c l) : Kd.C k56 w A l.length l := (Kd.R_reads' h.own).2.2
theorem cell (h : AtSet w g A c l) : w.cell? ⟨g, 0, none⟩ = some (.slice A l.length c) := (blk_cell h.blk 0).trans rfl
theorem lt (h : AtSet w g A c l) : g < w.heap.size := blk_lt h.blk
theorem made (w : World) (hr : Kd.R k56 56 w 0 (fun _ => True) (.slice A l.length c) l) : AtSet (w.alloc (.cells #[.slice A l.length c] 42)) w.heap.size A c l := ⟨heap_alloc_new w _, Kd.R_alloc hr _⟩
theorem store (h : AtSet w g A c l) {g1 : Nat} {cs : Array Value} (hb : w.heap[g1]? = some (.cells cs 42 (0, 0))) (hne : g ≠ g1) (u : Value) : AtSet (w.setCell ⟨g1, 0, none⟩ u) g A c l :=
  ⟨(Below.heap_setCell w ⟨g1, 0, none⟩ u g hne).trans h.blk, Kd.R_set h.own hb (by decide) 0 u⟩
theorem laid {v0 : Value} (hb : w.heap[g]? = some (.cells #[v0] 42 (0, 0))) (hr : Kd.R k56 56 w 0 (fun _ => True) (.slice A l.length c) l) : AtSet (w.setCell ⟨g, 0, none⟩ (.slice A l.length c)) g A c l :=
  ⟨blk_put hb 0 _ rfl, Kd.R_set hr hb (by decide) 0 _⟩
end AtSet
theorem R_zero {e base : Nat} {w : World} {v : Value} {l : List S56} (h : Kd.R k56 e w base (fun _ => True) v l) : Kd.R k56 e w 0 (fun _ => True) v l := Kd.R_lower h (Nat.zero_le _)
end Go.Proofs.Ytbahibaohehojaa.Q
-- YtbahibaohehojaaQHCloneSpan
namespace Go.Proofs.Ytbahibaohehojaa.Q
open Go.RowKit Go.Proofs.YtbahibaohehojaaW.PrintWords Go.Proofs.YtbahibaohehojaaW.PrintLast Go.Proofs.YtbahibaohehojaaW.PrintMore
attribute [local go_sem] max2_int min2_int max_two min_two max_three min_three max_four min_four
set_option linter.unusedVariables false
set_option linter.unusedSimpArgs false
def api_Span.f (l0 : List (S56)) : Option ((List (S56))) := if l0.length < 8796093022208 then some l0 else none
theorem k_of_span {w : World} {base : Nat} {ok : Nat → Prop} {x : S56} {cs : List Value} (h : k56.K w x cs) : k56.M w base ok x cs := by
  obtain rfl := k56_open h
  exact k56_mkM _ _ _ _
set_option maxHeartbeats 1000000 in
theorem api_Span.calls (A0 : Option Addr) (c0 : Nat) (l0 : List (S56)) (r : List (S56)) (w : World) (hr0 : Kd.C k56 w A0 l0.length l0) (hc0 : l0.length ≤ c0) (h : api_Span.f l0 = some r) :
    Calls Try.prog 85 #[.slice A0 l0.length c0] w fun e w' => ∃ v0_ : Value, e = .returned (v0_) ∧ Kd.R k56 56 w' w.heap.size (fun _ => True) v0_ r ∧ Below w.heap.size w w' := by
  unfold api_Span.f at h
  by_cases hl : l0.length < 8796093022208
  · rw [if_pos hl] at h
    obtain rfl := Option.some.inj h
    clear h
    have q40 : ∀ (w : World) (a : Option Addr) (n c n' c' : Nat), (binOp .eql 40 (.slice a n c) (.slice none n' c')).run Try.prog w = .ok (.bool a.isNone) w := fun w a n c n' c' => Lib.run_eql_slice_nil w _ _ a n c n' c' Try.underlying40
    cases A0 with
    | none =>
      have h0 : l0.length = 0 := by
        rcases Nat.eq_zero_or_pos l0.length with h | h
        · exact h
        · obtain ⟨ad, e, _⟩ := hr0.2.2 h
          cases e
      obtain rfl : l0 = [] := List.eq_nil_of_length_eq_zero h0
      clear hr0 h0 hl
      go_enter Try.func85, Try.ntmps85
      go_wp2
      go_ret
      exact ⟨_, rfl, Kd.R_nil _ _ _ _ _, Below.refl _ _⟩
    | some ad =>
      have HR := Aside0.mk hr0
      clear hr0
      go_enter Try.func85, Try.ntmps85
      have hO : Kd.R k56 56 (w.alloc (.cells #[] 56)) w.heap.size (fun _ => True) (.slice (some ⟨w.heap.size, 0, none⟩) 0 0) ([] : List S56) :=
        ⟨fun _ _ => trivial, [], World.ownsRow_lit (base := w.heap.size) (e := 56) (size := 2) w #[] 0 (Nat.le_refl _) (by simp [maxLen]) rfl, Reps.none _ _⟩
      have HO := Aside0.mk hO
      clear hO
      go_wp2_with (at_builtin; refine Kd.R_append_rows k56 (w0 := w) w.heap.size rfl (.tmp 5) (.tmp 6) 40 56 (.agg #[.int .i64 0, .int .i64 0]) 16 rfl Try.underlying40 info56 rfl (by decide) (by decide) _ [] l0 (some ad) l0.length c0 (fun _ => True) (fun _ => False) rfl rfl HO.out (Kd.C_below HR.out (below_alloc (Below.refl _ _) _)) (fun x cs hx => k_of_span hx) (fun _ h => h.elim) (fun _ _ => trivial) ((Below.refl _ _).alloc (Nat.le_refl _) _) (by simp) (by simp; omega) ?_; intro v1 w1 hR hb hg hat)
      go_ret
      exact ⟨_, rfl, hR, hb⟩
  · rw [if_neg hl] at h
    cases h
end Go.Proofs.Ytbahibaohehojaa.Q
-- YtbahibaohehojaaQHGrow
namespace Go.Proofs.Ytbahibaohehojaa.Q
open Go.RowKit Go.Proofs.YtbahibaohehojaaW.PrintWords Go.Proofs.YtbahibaohehojaaW.PrintLast Go.Proofs.YtbahibaohehojaaW.PrintMore
attribute [local go_sem] max2_int min2_int max_two min_two max_three min_three max_four min_four
set_option linter.unusedVariables false
set_option linter.unusedSimpArgs false
theorem zero_span (w : World) (base : Nat) : k56.M w base (fun _ => False) z56 (Value.agg #[.int .i64 0, .int .i64 0]).cells.toList := k56_mkM _ _ _ _
theorem wrap00 : wrap64 (0 - 0) = 0 := by unfold wrap64; omega
set_option maxHeartbeats 1000000 in
set_option maxRecDepth 100000 in
theorem grow_calls (n : Nat) (hn : n < 8796093022208) (w : World) :
    Calls Try.prog 145 #[.slice none 0 0, .int .i64 n] w fun e w' => ∃ v0_ : Value, e = .returned (v0_) ∧ Kd.R k56 56 w' w.heap.size (fun _ => True) v0_ ([] : List S56) ∧ Below w.heap.size w w' := by
  have h0 : ¬ (n : Int) < 0 := by omega
  have hw : wrap64 ((n : Int) - wrap64 (0 - 0)) = (n : Int) := by rw [wrap00]; unfold wrap64; omega
  have hw' : wrap64 ((n : Int) - 0) = (n : Int) := by unfold wrap64; omega
  by_cases hp : 0 < n
  · have hp' : (0 : Int) < (n : Int) := by omega
    go_enter Try.func145, Try.ntmps145
    have HO := Aside0.mk (Kd.R_nil k56 56 w w.heap.size (fun _ => True))
    have hz := Aside0.mk (zero_span w w.heap.size)
    go_wp2_with (at_builtin; refine Kd.R_append_zeros k56 (w0 := w) w.heap.size rfl (.tmp 20) (.tmp 21) 40 3 56 (.agg #[.int .i64 0, .int .i64 0]) 16 rfl Try.underlying40 Try.underlying3 info56 rfl (by decide) (by omega) (.slice none 0 0) [] z56 (n : Int) (fun _ => True) rfl (by first | rfl | simp [go_sem, hw, hw']) hz.out (fun _ _ => trivial) HO.out (by omega) (Below.refl _ _) (Nat.le_refl _) (by simp; omega) ?_; intro v1 w1 hR hb hg hat; obtain ⟨gg, cap, rfl, hg1, hg2, hg3⟩ := Kd.R_form hR (by simp; omega); have HR := Aside0.mk (Kd.R_take (m := 0) hR (Nat.zero_le _)); have HB := Aside0.mk hb; clear hR hb hg hat hg3 HO hz)
    go_wp2
    go_ret
    exact ⟨_, rfl, HR.out, HB.out⟩
  · have hp' : ¬ (0 : Int) < (n : Int) := by omega
    have hn0 : n = 0 := by omega
    go_enter Try.func145, Try.ntmps145
    go_wp2
    go_ret
    exact ⟨_, rfl, Kd.R_nil _ _ _ _ _, Below.refl _ _⟩
end Go.Proofs.Ytbahibaohehojaa.Q
-- YtbahibaohehojaaQHConcat
namespace Go.Proofs.Ytbahibaohehojaa.Q
open Go.RowKit Go.Proofs.YtbahibaohehojaaW.PrintWords Go.Proofs.YtbahibaohehojaaW.PrintLast Go.Proofs.YtbahibaohehojaaW.PrintMore
attribute [local go_sem] max2_int min2_int max_two min_two max_three min_three max_four min_four
set_option linter.unusedVariables false
set_option linter.unusedSimpArgs false
set_option maxHeartbeats 4000000 in
set_option maxRecDepth 100000 in
theorem concat_calls (A0 : Option Addr) (c0 : Nat) (l0 : List (S56)) (A1 : Option Addr) (c1 : Nat) (l1 : List (S56)) (w : World) (B : Nat)
    (hb0 : w.cell? ⟨B, 0, none⟩ = some (.slice A0 l0.length c0)) (hb1 : w.cell? ⟨B, 1, none⟩ = some (.slice A1 l1.length c1))
    (hr0 : Kd.C k56 w A0 l0.length l0) (hr1 : Kd.C k56 w A1 l1.length l1) (hl : l0.length + l1.length < 8796093022208) :
    Calls Try.prog 103 #[.slice (some ⟨B, 0, none⟩) 2 2] w fun e w' => ∃ v0_ : Value, e = .returned (v0_) ∧ Kd.R k56 56 w' w.heap.size (fun _ => True) v0_ (l0 ++ l1) ∧ Below w.heap.size w w' := by
  have HR0 := Aside0.mk hr0
  have HR1 := Aside0.mk hr1
  have HL := Aside0.mk hl
  have hw1 : wrap64 (l0.length : Int) = (l0.length : Int) := by unfold wrap64; omega
  have hw2 : wrap64 ((l0.length : Int) + (l1.length : Int)) = (l0.length : Int) + (l1.length : Int) := by unfold wrap64; omega
  have n0 : ¬ wrap64 (l0.length : Int) < 0 := by rw [hw1]; omega
  have n2 : ¬ wrap64 ((l0.length : Int) + (l1.length : Int)) < 0 := by rw [hw2]; omega
  have HG := Aside0.mk (fun W => grow_calls (l0.length + l1.length) hl W)
  have W1 := Aside0.mk hw1
  have W2 := Aside0.mk hw2
  clear hw1 hw2
  clear hr0 hr1 hl
  go_enter Try.func103, Try.ntmps103
  go_wp2
  go_loopg [3, 5, 11] 2 (fun gg s3 _ s11 wr => ∃ (kk : Nat) (sz : Int), kk ≤ 2 ∧ 2 - kk ≤ gg ∧ s11 = .int .i64 kk ∧ s3 = .int .i64 sz ∧ (kk = 0 → sz = 0) ∧ (kk = 1 → sz = (l0.length : Int)) ∧ (kk = 2 → sz = ((l0.length : Int) + (l1.length : Int))) ∧ Aside0 (Below w.heap.size w wr))
  case atStart => exact ⟨0, 0, Nat.zero_le _, by omega, rfl, rfl, fun _ => rfl, fun h => by omega, fun h => by omega, ⟨Below.refl _ w⟩⟩
  case round =>
    obtain ⟨kk, sz, hkk, hg, rfl, rfl, e0, e1, e2, BW⟩ := hrel
    have hc0 := (BW.out.cell (World.block_lt_of_cell? w _ hb0)).trans hb0
    have hc1 := (BW.out.cell (World.block_lt_of_cell? w _ hb1)).trans hb1
    rcases (by omega : kk = 0 ∨ kk = 1 ∨ kk = 2) with rfl | rfl | rfl
    · obtain rfl := e0 rfl
      clear e0 e1 e2
      go_wp2
      go_roundg 1
      case measure => omega
      case rel => exact ⟨1, (l0.length : Int), by omega, by omega, by go_num, by rw [W1.out], fun h => by omega, fun _ => rfl, fun h => by omega, BW⟩
    · obtain rfl := e1 rfl
      clear e0 e1 e2
      go_wp2
      go_roundg 0
      case measure => omega
      case rel => exact ⟨2, ((l0.length : Int) + (l1.length : Int)), by omega, by omega, by go_num, by rw [W2.out], fun h => by omega, fun h => by omega, fun _ => rfl, BW⟩
    · obtain rfl := e2 rfl
      clear e0 e1 e2
      have hG := HG.out wr
      simp only [Int.natCast_add] at hG
      go_wp2_with fail
      refine hG.mono ?_
      rintro e w2 ⟨v0, rfl, hR, hb⟩
      clear hG
      have HR := Aside0.mk (Kd.R_lower hR BW.out.size)
      have HB := Aside0.mk (BW.out.trans (hb.mono BW.out.size))
      have hd0 := (hb.cell (World.block_lt_of_cell? wr _ hc0)).trans hc0
      have hd1 := (hb.cell (World.block_lt_of_cell? wr _ hc1)).trans hc1
      clear hR hb
      go_wp2
      clear hc0 hc1 hd0 hd1
      go_loopg [6, 8, 27] 2 (fun gg s6 _ s27 W => ∃ (kk : Nat) (xs : List (S56)), kk ≤ 2 ∧ 2 - kk ≤ gg ∧ s27 = .int .i64 kk ∧ (kk = 0 → xs = []) ∧ (kk = 1 → xs = l0) ∧ (kk = 2 → xs = l0 ++ l1) ∧ Aside0 (Kd.R k56 56 W w.heap.size (fun _ => True) s6 xs) ∧ Aside0 (Below w.heap.size w W))
      case atStart => exact ⟨0, [], Nat.zero_le _, by omega, rfl, fun _ => rfl, fun h => by omega, fun h => by omega, HR, HB⟩
      case round =>
        obtain ⟨kk, xs, hkk, hg, rfl, e0, e1, e2, RX, BX⟩ := hrel
        rename_i s6 _ W _
        have hc0 := (BX.out.cell (World.block_lt_of_cell? w _ hb0)).trans hb0
        have hc1 := (BX.out.cell (World.block_lt_of_cell? w _ hb1)).trans hb1
        rcases (by omega : kk = 0 ∨ kk = 1 ∨ kk = 2) with rfl | rfl | rfl
        · obtain rfl := e0 rfl
          clear e0 e1 e2
          go_wp2_with (at_builtin; refine Kd.R_append_rows k56 (w0 := w) w.heap.size rfl (.tmp 31) (.tmp 32) 40 56 (.agg #[.int .i64 0, .int .i64 0]) 16 rfl Try.underlying40 info56 rfl (by decide) (by decide) _ [] l0 A0 l0.length c0 (fun _ => True) (fun _ => False) rfl rfl RX.out (Kd.C_below HR0.out BX.out) (fun x cs hx => k_of_span hx) (fun _ h => h.elim) (fun _ _ => trivial) BX.out BX.out.size (by have := HL.out; simp; omega) ?_; intro v1 w1 hR hb hg hat; have HR1' := Aside0.mk hR; have HB1 := Aside0.mk hb; clear hR hb hg hat)
          go_roundg 1
          case measure => omega
          case rel => exact ⟨1, [] ++ l0, by omega, by omega, by go_num, fun h => by omega, fun _ => rfl, fun h => by omega, HR1', HB1⟩
        · obtain rfl := e1 rfl
          clear e0 e1 e2
          go_wp2_with (at_builtin; refine Kd.R_append_rows k56 (w0 := w) w.heap.size rfl (.tmp 31) (.tmp 32) 40 56 (.agg #[.int .i64 0, .int .i64 0]) 16 rfl Try.underlying40 info56 rfl (by decide) (by decide) _ xs l1 A1 l1.length c1 (fun _ => True) (fun _ => False) rfl rfl RX.out (Kd.C_below HR1.out BX.out) (fun x cs hx => k_of_span hx) (fun _ h => h.elim) (fun _ _ => trivial) BX.out BX.out.size (by have := HL.out; simp; omega) ?_; intro v1 w1 hR hb hg hat; have HR1' := Aside0.mk hR; have HB1 := Aside0.mk hb; clear hR hb hg hat)
          go_roundg 0
          case measure => omega
          case rel => exact ⟨2, xs ++ l1, by omega, by omega, by go_num, fun h => by omega, fun h => by omega, fun _ => rfl, HR1', HB1⟩
        · obtain rfl := e2 rfl
          clear e0 e1 e2
          go_wp2
          go_ret
          exact ⟨_, rfl, RX.out, BX.out⟩
end Go.Proofs.Ytbahibaohehojaa.Q
-- YtbahibaohehojaaQHSortLib
namespace Go.Proofs.Ytbahibaohehojaa.Q
open Go.RowKit Go.Proofs.YtbahibaohehojaaW.PrintWords Go.Proofs.YtbahibaohehojaaW.PrintLast Go.Proofs.YtbahibaohehojaaW.PrintMore
attribute [local go_sem] max2_int min2_int max_two min_two max_three min_three max_four min_four
set_option linter.unusedVariables false
set_option linter.unusedSimpArgs false
open Go.Sort
section
variable {α β : Type} [Inhabited α] {d : Kd β} {encB : β → List Value} {val : α → β} {e base g n cap : Nat} {ok : Nat → Prop} {W w0 : World} {xs : List β}
structure ConstCells (d : Kd β) (encB : β → List Value) : Prop where
  open_ : ∀ {w base ok x cs}, d.M w base ok x cs → cs = encB x
  mk_ : ∀ w base ok x, d.M w base ok x (encB x)
  len : ∀ x, (encB x).length = d.sz
  pos : 0 < d.sz
theorem holdsK_of_R (C : ConstCells d encB) (h : d.R e W base ok (.slice (some ⟨g, 0, none⟩) n cap) xs) (arr : Array α) (hx : arr.toList.map val = xs) :
    HoldsK (fun x => encB (val x)) d.sz W g 0 arr := by
  have hn := (Kd.R_reads' h).1
  have hs : arr.size = xs.length := by rw [← hx]; simp
  intro t ht
  rw [size_flatK] at ht
  have hk := C.pos
  have hi : t / d.sz < arr.size := (Nat.div_lt_iff_lt_mul hk).2 ht
  have hj : t % d.sz < d.sz := Nat.mod_lt _ hk
  rw [get_flatK _ _ _ t ht]
  have hi' : t / d.sz < xs.length := by omega
  obtain ⟨c, hcl, hM, hcc, hfr⟩ := Kd.R_elem h (xs[t / d.sz]'hi') ((t / d.sz : Nat) : Int) (Int.natCast_nonneg _) (Int.ofNat_lt.2 (by rw [hn]; exact hi'))
  simp only [Int.toNat_natCast] at hM hcc hfr
  obtain rfl := C.open_ hM
  have e0 : d.sz * (t / d.sz) + t % d.sz = t := Nat.div_add_mod _ _
  have e1 : t / d.sz * d.sz + t % d.sz = t := by rw [Nat.mul_comm]; exact e0
  have hget : xs.getD (t / d.sz) (xs[t / d.sz]'hi') = val arr[t / d.sz]! := by
    rw [List.getD_eq_getElem?_getD, List.getElem?_eq_getElem hi', Option.getD_some]
    subst hx
    simp [getElem!_pos arr (t / d.sz) hi]
  rw [hget] at hcc hcl
  have hc := hcc (t % d.sz) _ (List.getElem?_eq_getElem (by rw [hcl]; exact hj))
  have hf := hfr (t % d.sz)
  rw [e1] at hc hf
  rw [Nat.zero_add]
  refine ⟨?_, hf⟩
  rw [hc]
  congr 1
  simp only [id]
  exact (getElem!_pos _ _ _).symm
theorem heap_sortWorldK (enc : α → List Value) (k : Nat) (W : World) (g m : Nat) (arr : Array α) (os : Array Obj) (hg : g < W.heap.size) {cur : Array Value} {q : TypeId} {fr : Nat × Nat} (hh : W.heap[g]? = some (.cells cur q fr)) :
    (sortWorldK enc k W g 0 m arr os).heap[g]? = some (.cells (putCells id 0 (flatK enc k arr) cur) q fr) := by
  unfold sortWorldK
  rw [heap_grow_old _ _ (by rw [size_putRowK]; exact hg)]
  show (W.heap.modify g (onCells (putCells id 0 (flatK enc k arr))))[g]? = _
  rw [Array.getElem?_modify, if_pos rfl, hh]
  rfl
theorem heap_sortWorldK_other (enc : α → List Value) (k : Nat) (W : World) (g m : Nat) (arr : Array α) (os : Array Obj) {i : Nat} (hi : i < W.heap.size) (hne : i ≠ g) :
    (sortWorldK enc k W g 0 m arr os).heap[i]? = W.heap[i]? := by
  unfold sortWorldK
  rw [heap_grow_old _ _ (by rw [size_putRowK]; exact hi)]
  show (W.heap.modify g (onCells (putCells id 0 (flatK enc k arr))))[i]? = _
  rw [Array.getElem?_modify, if_neg (Ne.symm hne)]
theorem grownBy_sortWorldK (enc : α → List Value) (k : Nat) (W : World) (g m : Nat) (arr : Array α) (os : Array Obj) : W.grownBy (sortWorldK enc k W g 0 m arr os) (some g) :=
  ⟨rfl, rfl, rfl, size_sortWorldK_c enc k W g 0 m arr os, fun i hi hne => heap_sortWorldK_other enc k W g m arr os hi (fun he => hne (by rw [he]))⟩
theorem R_sorted (C : ConstCells d encB) (h : d.R e W base ok (.slice (some ⟨g, 0, none⟩) n cap) xs) (arr : Array α) (hs : arr.size = xs.length) (m : Nat) (os : Array Obj) :
    d.R e (sortWorldK (fun x => encB (val x)) d.sz W g 0 m arr os) base ok (.slice (some ⟨g, 0, none⟩) n cap) (arr.toList.map val) := by
  have hn := (Kd.R_reads' h).1
  obtain ⟨h0, inner, ⟨hl, ho⟩, hr⟩ := h
  rcases ho with ⟨hv, _⟩ | ⟨g', cap', cur, hv, hb, hh, h1, h2, h3, h4⟩
  · cases hv
  injection hv with ha hn' hc'
  injection ha with ha
  injection ha with ha _ _
  subst ha hc'
  have hg : g < W.heap.size := (Array.getElem?_eq_some_iff.1 hh).1
  have hsz : (flatK (fun x => encB (val x)) d.sz arr).size = xs.length * d.sz := by rw [size_flatK, hs]
  have hal : (arr.toList.map val).length = xs.length := by rw [List.length_map, Array.length_toList]; exact hs
  refine ⟨h0, (flatK (fun x => encB (val x)) d.sz arr).toList, ⟨?_, .inr ⟨g, cap, putCells id 0 (flatK (fun x => encB (val x)) d.sz arr) cur, ?_, hb, heap_sortWorldK _ _ W g m arr os hg hh, by rw [hal]; exact h1, h2, ?_, ?_⟩⟩, ?_⟩
  · rw [hal, Array.length_toList]; exact hsz
  · rw [hal, hn]
  · simpa [putCells] using h3
  · rw [hal]
    have hle : xs.length * d.sz ≤ cur.size := by rw [h3]; exact Nat.mul_le_mul_right _ h1
    apply List.ext_getElem
    · simp [putCells, hsz]; omega
    · intro i p q
      have hi : i < xs.length * d.sz := by simpa [hsz, Array.length_toList] using q
      simp only [List.getElem_take, Array.getElem_toList]
      unfold putCells
      rw [Array.getElem_mapIdx, if_pos ⟨Nat.zero_le _, by rw [Nat.zero_add, hsz]; exact hi⟩, Nat.sub_zero, getElem!_pos _ i (by rw [hsz]; exact hi)]
      rfl
  · refine ⟨by rw [hal, Array.length_toList]; exact hsz, fun j p hj => ?_⟩
    obtain ⟨hjl, hp⟩ := List.getElem?_eq_some_iff.1 hj
    have hja : j < arr.size := by simpa using hjl
    have hval : p = val arr[j] := by rw [← hp]; simp
    subst hval
    have hk := C.pos
    have hseg : ((flatK (fun x => encB (val x)) d.sz arr).toList.drop (j * d.sz)).take d.sz = encB (val arr[j]) := by
      have hfit : j * d.sz + d.sz ≤ arr.size * d.sz := by rw [← Nat.succ_mul]; exact Nat.mul_le_mul_right _ hja
      apply List.ext_getElem
      · rw [List.length_take, List.length_drop, Array.length_toList, size_flatK, C.len]; omega
      · intro i p q
        have hi : i < d.sz := by rw [C.len] at q; exact q
        rw [List.getElem_take, List.getElem_drop, Array.getElem_toList]
        have hlt : j * d.sz + i < arr.size * d.sz := by omega
        have := get_flatK (fun x => encB (val x)) d.sz arr (j * d.sz + i) hlt
        rw [getElem!_pos _ _ (by rw [size_flatK]; exact hlt)] at this
        rw [this]
        have e1 : (j * d.sz + i) / d.sz = j := by rw [Nat.mul_comm, Nat.mul_add_div hk, Nat.div_eq_of_lt hi, Nat.add_zero]
        have e2 : (j * d.sz + i) % d.sz = i := by rw [Nat.mul_comm, Nat.mul_add_mod, Nat.mod_eq_of_lt hi]
        rw [e1, e2, getElem!_pos arr j hja, getElem!_pos _ i q]
    rw [hseg]
    exact C.mk_ _ _ _ _
def sortedBy (lt : α → α → Bool) (xs : List α) : List α := (pdq lt xs.toArray 0 xs.length (Lib.bitLen xs.length) true true).toList
theorem sortedBy_perm (lt : α → α → Bool) (hO : SWO lt) (xs : List α) : (sortedBy lt xs).Perm xs := by
  have h := (pdq_sorts lt hO xs.toArray 0 xs.length (Lib.bitLen xs.length) true true (Nat.zero_le _) (by simp) (Or.inl rfl)).1
  obtain ⟨hs, _, hp⟩ := h
  unfold sortedBy
  have e1 : (xs.toArray.extract 0 xs.length).toList = xs := by simp
  have e2 : ((pdq lt xs.toArray 0 xs.length (Lib.bitLen xs.length) true true).extract 0 xs.length).toList = (pdq lt xs.toArray 0 xs.length (Lib.bitLen xs.length) true true).toList := by
    rw [Array.toList_extract]
    have : (pdq lt xs.toArray 0 xs.length (Lib.bitLen xs.length) true true).toList.length = xs.length := by rw [Array.length_toList, hs]; simp
    rw [List.extract_eq_take_drop, List.drop_zero, Nat.sub_zero]
    exact List.take_of_length_le (by rw [this]; exact Nat.le_refl _)
  rw [e1, e2] at hp
  exact hp
theorem sortedBy_sorted (lt : α → α → Bool) (hO : SWO lt) (xs : List α) : (sortedBy lt xs).Pairwise (fun a b => lt b a = false) := by
  have h := pdq_sorts lt hO xs.toArray 0 xs.length (Lib.bitLen xs.length) true true (Nat.zero_le _) (by simp) (Or.inl rfl)
  have hs : (pdq lt xs.toArray 0 xs.length (Lib.bitLen xs.length) true true).size = xs.length := by rw [h.1.1]; simp
  unfold sortedBy
  rw [List.pairwise_iff_getElem]
  intro i j hi hj hij
  have hj' : j < xs.length := by rw [Array.length_toList, hs] at hj; exact hj
  have := h.2 i j (Nat.zero_le _) hij hj'
  rw [getElem!_pos _ i (by rw [hs]; omega), getElem!_pos _ j (by rw [hs]; exact hj')] at this
  simpa using this
end
end Go.Proofs.Ytbahibaohehojaa.Q
-- YtbahibaohehojaaQHLaySort
namespace Go.Proofs
open Go.Shelf
def Try.sortSpan_ren : Go.Shelf.Ren := ⟨fun | 6 => 86 | 15 => 120 | 14 => 139 | 28 => 159 | 29 => 160 | 20 => 171 | 21 => 172 | 22 => 173 | 23 => 174 | 24 => 175 | 25 => 176 | 26 => 177 | 27 => 178 | 46 => 198 | 47 => 199 | 48 => 200 | 49 => 201 | 50 => 202 | 57 => 211 | n => n, fun | 22 => 40 | 24 => 56 | 25 => 118 | 3 => 3 | 39 => 148 | 0 => 0 | 53 => 174 | 55 => 60 | 4 => 4 | 46 => 181 | 45 => 180 | 50 => 52 | 5 => 5 | 9 => 9 | 66 => 198 | 70 => 202 | 76 => 208 | 77 => 209 | n => n, fun | n => n⟩
theorem Try.sortSpan : Go.Proofs.SlLaysF0.n6 Try.prog Try.sortSpan_ren := {
  mixed := by kernel_rfl
  f6 := ⟨Try.f86.name, by decide, Try.func86.trans (congrArg some (by kernel_rfl))⟩
  f14 := ⟨Try.f139.name, by decide, Try.func139.trans (congrArg some (by kernel_rfl))⟩
  f15 := Try.func120.trans (congrArg some (by kernel_rfl))
  f20 := ⟨Try.f171.name, by decide, Try.func171.trans (congrArg some (by kernel_rfl))⟩
  f21 := ⟨Try.f172.name, by decide, Try.func172.trans (congrArg some (by kernel_rfl))⟩
  f22 := ⟨Try.f173.name, by decide, Try.func173.trans (congrArg some (by kernel_rfl))⟩
  f23 := ⟨Try.f174.name, by decide, Try.func174.trans (congrArg some (by kernel_rfl))⟩
  f24 := ⟨Try.f175.name, by decide, Try.func175.trans (congrArg some (by kernel_rfl))⟩
  f25 := ⟨Try.f176.name, by decide, Try.func176.trans (congrArg some (by kernel_rfl))⟩
  f26 := ⟨Try.f177.name, by decide, Try.func177.trans (congrArg some (by kernel_rfl))⟩
  f27 := ⟨Try.f178.name, by decide, Try.func178.trans (congrArg some (by kernel_rfl))⟩
  f28 := Try.func159.trans (congrArg some (by kernel_rfl))
  f29 := Try.func160.trans (congrArg some (by kernel_rfl))
  f46 := ⟨Try.f198.name, by decide, Try.func198.trans (congrArg some (by kernel_rfl))⟩
  f47 := Try.func199.trans (congrArg some (by kernel_rfl))
  f48 := Try.func200.trans (congrArg some (by kernel_rfl))
  f49 := ⟨Try.f201.name, by decide, Try.func201.trans (congrArg some (by kernel_rfl))⟩
  f50 := ⟨Try.f202.name, by decide, Try.func202.trans (congrArg some (by kernel_rfl))⟩
  f57 := ⟨Try.f211.name, by decide, Try.func211.trans (congrArg some (by kernel_rfl))⟩
  t0 := Try.underlying0
  a0 := Try.isAgg0
  z0 := Try.sizeOf0
  v0 := Try.zeroValue0
  t3 := Try.underlying3
  a3 := Try.isAgg3
  z3 := Try.sizeOf3
  v3 := Try.zeroValue3
  t4 := Try.underlying4
  a4 := Try.isAgg4
  z4 := Try.sizeOf4
  v4 := Try.zeroValue4
  t5 := Try.underlying5
  a5 := Try.isAgg5
  z5 := Try.sizeOf5
  v5 := Try.zeroValue5
  t9 := Try.underlying9
  a9 := Try.isAgg9
  z9 := Try.sizeOf9
  v9 := Try.zeroValue9
  t22 := Try.underlying40
  a22 := Try.isAgg40
  z22 := Try.sizeOf40
  v22 := Try.zeroValue40
  t25 := Try.underlying118
  a25 := Try.isAgg118
  z25 := Try.sizeOf118
  v25 := Try.zeroValue118
  t39 := Try.underlying148
  a39 := Try.isAgg148
  z39 := Try.sizeOf148
  v39 := Try.zeroValue148
  t45 := Try.underlying180
  a45 := Try.isAgg180
  z45 := Try.sizeOf180
  v45 := Try.zeroValue180
  t46 := Try.underlying181
  a46 := Try.isAgg181
  z46 := Try.sizeOf181
  v46 := Try.zeroValue181
  t50 := Try.underlying52
  a50 := Try.isAgg52
  z50 := Try.sizeOf52
  v50 := Try.zeroValue52
  t53 := Try.underlying174
  a53 := Try.isAgg174
  z53 := Try.sizeOf174
  v53 := Try.zeroValue174
  t55 := Try.underlying60
  a55 := Try.isAgg60
  z55 := Try.sizeOf60
  v55 := Try.zeroValue60
  t66 := Try.underlying198
  a66 := Try.isAgg198
  z66 := Try.sizeOf198
  v66 := Try.zeroValue198
  t70 := Try.underlying202
  a70 := Try.isAgg202
  z70 := Try.sizeOf202
  v70 := Try.zeroValue202
  t76 := Try.underlying208
  a76 := Try.isAgg208
  z76 := Try.sizeOf208
  v76 := Try.zeroValue208
  t77 := Try.underlying209
  a77 := Try.isAgg209
  z77 := Try.sizeOf209
  v77 := Try.zeroValue209 }
end Go.Proofs
-- YtbahibaohehojaaQf84
namespace Go.Proofs.Ytbahibaohehojaa.Q
open Go.RowKit Go.Proofs.YtbahibaohehojaaW.PrintWords Go.Proofs.YtbahibaohehojaaW.PrintLast Go.Proofs.YtbahibaohehojaaW.PrintMore
attribute [local go_sem] max2_int min2_int max_two min_two max_three min_three max_four min_four
set_option linter.unusedVariables false
set_option linter.unusedSimpArgs false
def intset_fine.f (a0_0 : Int) (a0_1 : Int) : Option (Bool) := if a0_0 ≥ 0 then (if a0_0 ≤ a0_1 then (some (decide (a0_1 ≤ 2147483647))) else (some false)) else (some false)
set_option maxHeartbeats 8000000 in
set_option maxRecDepth 100000 in
theorem intset_fine.calls (a0_0 : Int) (a0_1 : Int) (r : Bool) (w : World) (h : intset_fine.f a0_0 a0_1 = some r) :
    Calls Try.prog 84 #[.agg #[.int .i64 a0_0, .int .i64 a0_1]] w fun e w' => e = .returned (.bool r) ∧ Below w.heap.size w w' := by
  have hu56 := Try.underlying56
  have HB := Aside0.mk (Below.refl w.heap.size w)
  have H : (if a0_0 ≥ 0 then (if a0_0 ≤ a0_1 then (some (decide (a0_1 ≤ 2147483647))) else (some false)) else (some false)) = some r := h
  clear h
  by_cases c2 : a0_0 ≥ 0
  · rw [if_pos c2] at H
    have c2b0 : decide (0 ≤ a0_0) = true := decide_eq_true c2
    clear c2
    by_cases c3 : a0_0 ≤ a0_1
    · rw [if_pos c3] at H
      have c3b0 : decide (a0_0 ≤ a0_1) = true := decide_eq_true c3
      clear c3
      obtain rfl := Option.some.inj H
      go_enter Try.func84, Try.ntmps84
      go_wp2_with (first | ((with_reducible refine gate_dst (N := 1) rfl ?_); refine box_event ?hg (N := 1) ?hd (cs := #[.int .i64 a0_0, .int .i64 a0_1]) (t := 56) ?hr ?_; (case hd => rfl); (case hg => rfl); (case hr => first | (go_simp; done) | (go_simp; rfl)); intro gb142 hg w4 hbox hb; have n0_ := Aside0.mk (below_step (by repeat (first | (with_reducible first | exact HB.out | apply below_alloc | apply pw_below_drewN | apply below_drew1) | exact HB.out)) hb); have n1_ := Aside0.mk (hbox); have n2_ := Aside0.mk ((by rw [hg]; exact (below_size (by repeat (first | (with_reducible first | exact HB.out | apply below_alloc | apply pw_below_drewN | apply below_drew1) | exact HB.out))) : w.heap.size ≤ gb142)); have n3_ := Aside0.mk ((by rw [hg]; exact (below_size (by repeat (first | (with_reducible first | exact HB.out | apply below_alloc | apply pw_below_drewN | apply below_drew1) | exact HB.out))) : w.heap.size ≤ gb142)); clear HB; have HB := n0_; have BK142 := n1_; have GW142 := n2_; have GE142 := n3_; clear n0_ n1_ n2_ n3_; clear hb hbox hg; have hcz5_0 : w4.cell? ⟨gb142, 0, none⟩ = some (.int .i64 a0_0) := (blk_cell BK142.out 0).trans rfl; have hcz5_1 : w4.cell? ⟨gb142, 1, none⟩ = some (.int .i64 a0_1) := (blk_cell BK142.out 1).trans rfl; have hfz5_0 := blk_frozen BK142.out 0; have hfz5_1 := blk_frozen BK142.out 1))
      go_ret
      exact ⟨by first | rfl | (simp [errW_none, errW_some] <;> rfl) | (simp [*, errW_none, errW_some] <;> rfl), by repeat (first | (with_reducible first | exact HB.out | apply below_alloc | apply pw_below_drewN | apply below_drew1 | refine below_set ?_ GE142.out) | exact HB.out)⟩
    · rw [if_neg c3] at H
      have c3b0 : decide (a0_0 ≤ a0_1) = false := decide_eq_false c3
      clear c3
      obtain rfl := Option.some.inj H
      go_enter Try.func84, Try.ntmps84
      go_wp2_with (first | ((with_reducible refine gate_dst (N := 1) rfl ?_); refine box_event ?hg (N := 1) ?hd (cs := #[.int .i64 a0_0, .int .i64 a0_1]) (t := 56) ?hr ?_; (case hd => rfl); (case hg => rfl); (case hr => first | (go_simp; done) | (go_simp; rfl)); intro gb142 hg w6 hbox hb; have n0_ := Aside0.mk (below_step (by repeat (first | (with_reducible first | exact HB.out | apply below_alloc | apply pw_below_drewN | apply below_drew1) | exact HB.out)) hb); have n1_ := Aside0.mk (hbox); have n2_ := Aside0.mk ((by rw [hg]; exact (below_size (by repeat (first | (with_reducible first | exact HB.out | apply below_alloc | apply pw_below_drewN | apply below_drew1) | exact HB.out))) : w.heap.size ≤ gb142)); have n3_ := Aside0.mk ((by rw [hg]; exact (below_size (by repeat (first | (with_reducible first | exact HB.out | apply below_alloc | apply pw_below_drewN | apply below_drew1) | exact HB.out))) : w.heap.size ≤ gb142)); clear HB; have HB := n0_; have BK142 := n1_; have GW142 := n2_; have GE142 := n3_; clear n0_ n1_ n2_ n3_; clear hb hbox hg; have hcz7_0 : w6.cell? ⟨gb142, 0, none⟩ = some (.int .i64 a0_0) := (blk_cell BK142.out 0).trans rfl; have hcz7_1 : w6.cell? ⟨gb142, 1, none⟩ = some (.int .i64 a0_1) := (blk_cell BK142.out 1).trans rfl; have hfz7_0 := blk_frozen BK142.out 0; have hfz7_1 := blk_frozen BK142.out 1))
      go_ret
      exact ⟨by first | rfl | (simp [errW_none, errW_some] <;> rfl) | (simp [*, errW_none, errW_some] <;> rfl), by repeat (first | (with_reducible first | exact HB.out | apply below_alloc | apply pw_below_drewN | apply below_drew1 | refine below_set ?_ GE142.out) | exact HB.out)⟩
  · rw [if_neg c2] at H
    have c2b0 : decide (0 ≤ a0_0) = false := decide_eq_false c2
    clear c2
    obtain rfl := Option.some.inj H
    go_enter Try.func84, Try.ntmps84
    go_wp2_with (first | ((with_reducible refine gate_dst (N := 1) rfl ?_); refine box_event ?hg (N := 1) ?hd (cs := #[.int .i64 a0_0, .int .i64 a0_1]) (t := 56) ?hr ?_; (case hd => rfl); (case hg => rfl); (case hr => first | (go_simp; done) | (go_simp; rfl)); intro gb142 hg w8 hbox hb; have n0_ := Aside0.mk (below_step (by repeat (first | (with_reducible first | exact HB.out | apply below_alloc | apply pw_below_drewN | apply below_drew1) | exact HB.out)) hb); have n1_ := Aside0.mk (hbox); have n2_ := Aside0.mk ((by rw [hg]; exact (below_size (by repeat (first | (with_reducible first | exact HB.out | apply below_alloc | apply pw_below_drewN | apply below_drew1) | exact HB.out))) : w.heap.size ≤ gb142)); have n3_ := Aside0.mk ((by rw [hg]; exact (below_size (by repeat (first | (with_reducible first | exact HB.out | apply below_alloc | apply pw_below_drewN | apply below_drew1) | exact HB.out))) : w.heap.size ≤ gb142)); clear HB; have HB := n0_; have BK142 := n1_; have GW142 := n2_; have GE142 := n3_; clear n0_ n1_ n2_ n3_; clear hb hbox hg; have hcz9_0 : w8.cell? ⟨gb142, 0, none⟩ = some (.int .i64 a0_0) := (blk_cell BK142.out 0).trans rfl; have hcz9_1 : w8.cell? ⟨gb142, 1, none⟩ = some (.int .i64 a0_1) := (blk_cell BK142.out 1).trans rfl; have hfz9_0 := blk_frozen BK142.out 0; have hfz9_1 := blk_frozen BK142.out 1))
    go_ret
    exact ⟨by first | rfl | (simp [errW_none, errW_some] <;> rfl) | (simp [*, errW_none, errW_some] <;> rfl), by repeat (first | (with_reducible first | exact HB.out | apply below_alloc | apply pw_below_drewN | apply below_drew1 | refine below_set ?_ GE142.out) | exact HB.out)⟩
end Go.Proofs.Ytbahibaohehojaa.Q
-- YtbahibaohehojaaQf88
namespace Go.Proofs.Ytbahibaohehojaa.Q
open Go.RowKit Go.Proofs.YtbahibaohehojaaW.PrintWords Go.Proofs.YtbahibaohehojaaW.PrintLast Go.Proofs.YtbahibaohehojaaW.PrintMore
attribute [local go_sem] max2_int min2_int max_two min_two max_three min_three max_four min_four
set_option linter.unusedVariables false
set_option linter.unusedSimpArgs false
def intset_merge.l0 : Nat → List (S56) → List (S56) → Int → Int → Option ((List (S56)))
  | 0, _, _, _, _ => none
  | k + 1, x3, x7, x8, x9 => if x9 < x8 then (if 0 ≤ x9 then (if x9 < (x7.length : Int) then (if (x3.length : Int) > 0 then (if 0 ≤ (wrap64 ((x3.length : Int) - 1)) then (if (wrap64 ((x3.length : Int) - 1)) < (x3.length : Int) then (if ((rd_T56 x7 x9).f0) ≤ (wrap64 (((rd_T56 x3 (wrap64 ((x3.length : Int) - 1))).f1) + 1)) then (intset_merge.l0 k (x3.set ((wrap64 ((x3.length : Int) - 1)) : Int).toNat (⟨(rd_T56 x3 (wrap64 ((x3.length : Int) - 1))).f0, mx ((rd_T56 x3 (wrap64 ((x3.length : Int) - 1))).f1) ((rd_T56 x7 x9).f1)⟩ : S56)) x7 x8 (wrap64 (x9 + 1))) else (if x3.length < 8796093022208 then (intset_merge.l0 k (x3 ++ [(⟨(rd_T56 x7 x9).f0, (rd_T56 x7 x9).f1⟩ : S56)]) x7 x8 (wrap64 (x9 + 1))) else (none))) else (none)) else (none)) else (if x3.length < 8796093022208 then (intset_merge.l0 k (x3 ++ [(⟨(rd_T56 x7 x9).f0, (rd_T56 x7 x9).f1⟩ : S56)]) x7 x8 (wrap64 (x9 + 1))) else (none))) else (none)) else (none)) else (some x3)
def intset_merge.f (k : Nat) (l0 : List (S56)) : Option ((List (S56))) := intset_merge.l0 k ([] : List (S56)) l0 (l0.length : Int) 0
def intset_merge.T6 : Bool × List (List Nat × List Nat) := (true, [([], []), ([0], [0]), ([1], [1]), ([2], [2]), ([3, 2], [2, 3]), ([2], [2]), ([2], [2]), ([6, 2], [2, 6]), ([5, 7, 2], [2, 5, 7]), ([8, 2], [2, 8]), ([9, 2], [2, 9]), ([10, 2], [2, 10]), ([4, 11, 2], [2, 4, 11]), ([2, 12], [2, 12])])
def intset_merge.B6 : List Nat := [0, 1, 3, 7, 15, 7, 7, 71, 231, 487, 999, 2023, 4095, 8191]
theorem intset_merge.tab6 : rtab .any (opsOf Try.f88 6) = intset_merge.T6 := by kernel_rfl
theorem intset_merge.bits6 : waitsOk intset_merge.T6.2 intset_merge.B6 = true := by kernel_rfl
def intset_merge.T7 : Bool × List (List Nat × List Nat) := (true, [([], []), ([], []), ([1], [1]), ([], []), ([], []), ([4], [4]), ([3, 5], [3, 5]), ([6], [6]), ([7], [7]), ([], []), ([9], [9]), ([8, 10], [8, 10]), ([0, 2, 0, 1, 2, 3, 4, 5, 6, 7, 8, 9, 10, 11], [0, 2]), ([12, 0, 1, 2, 3, 4, 5, 6, 7, 8, 9, 10, 11], [12]), ([13, 11, 0, 1, 2, 3, 4, 5, 6, 7, 8, 9, 10, 11], [11, 13])])
def intset_merge.B7 : List Nat := [0, 0, 2, 0, 0, 16, 56, 120, 248, 0, 512, 2040, 4095, 8191, 16383]
theorem intset_merge.tab7 : rtab .any (opsOf Try.f88 7) = intset_merge.T7 := by kernel_rfl
theorem intset_merge.bits7 : waitsOk intset_merge.T7.2 intset_merge.B7 = true := by kernel_rfl
set_option maxHeartbeats 8000000 in
set_option maxRecDepth 100000 in
theorem intset_merge.calls (k : Nat) (A0 : Option Addr) (c0 : Nat) (l0 : List (S56)) (r : List (S56)) (w : World) (hr0 : Kd.C k56 w A0 l0.length l0) (hc0 : l0.length ≤ c0) (h : intset_merge.f k l0 = some r) :
    Calls Try.prog 88 #[.slice A0 l0.length c0] w fun e w' => ∃ v0_ : Value, e = .returned (v0_) ∧ Kd.R k56 56 w' w.heap.size (fun _ => True) v0_ r ∧ Below w.heap.size w w' := by
  have hu56 := Try.underlying56
  have HR0 := Aside0.mk hr0
  have HC0 := Aside0.mk hc0
  clear hr0 hc0
  have HB := Aside0.mk (Below.refl w.heap.size w)
  have H : (intset_merge.l0 k ([] : List (S56)) l0 (l0.length : Int) 0) = some r := h
  clear h
  have H' := Aside0.mk H
  clear H
  go_enter Try.func88, Try.ntmps88
  go_wp2
  go_loopg [3, 9] k (fun kq v3 v9 w' => ∃ (x3_1 : List (S56)) (x9_1 : Int), v9 = .int .i64 x9_1 ∧ Aside0 (intset_merge.l0 kq x3_1 l0 (l0.length : Int) x9_1 = some r) ∧ Aside0 (kq ≤ k) ∧ Aside0 (Kd.R k56 56 w' w.heap.size (fun _ => True) v3 x3_1) ∧ Aside0 (Below w.heap.size w w'))
  case atStart => exact ⟨(([] : List (S56))), (0), (by first | rfl | (simp; done) | (simp [*]; done)), H', ⟨Nat.le_refl _⟩, ⟨by first | exact Kd.R_nil _ _ _ _ _ | exact Kd.N_nil _ _ _ _ _ | exact Kd.V_nil _ _ _ _ _ | exact Kd.Q_nil _ _ _ _ _ | exact Kd.S_nil _ _ _ _ _⟩, ⟨by repeat (first | (with_reducible first | exact HB.out | apply below_alloc | apply pw_below_drewN | apply below_drew1) | exact HB.out)⟩⟩
  case round =>
    clear H'
    obtain ⟨x3_1, x9_1, rfl, HA, HK1, HO_3, HB⟩ := hrel
    cases gk with
    | zero => exact absurd HA.out (by simp [intset_merge.l0])
    | succ k1 =>
      have H := HA.out
      clear HA
      simp only [intset_merge.l0] at H
      by_cases c2 : x9_1 < (l0.length : Int)
      · rw [if_pos c2] at H
        have c2b0 : decide (x9_1 < (l0.length : Int)) = true := decide_eq_true c2
        clear c2
        by_cases c3 : 0 ≤ x9_1
        · rw [if_pos c3] at H
          have c3b0 : decide (0 ≤ x9_1) = true := decide_eq_true c3
          clear c3
          by_cases c4 : x9_1 < (l0.length : Int)
          · rw [if_pos c4] at H
            have c4b0 : decide (x9_1 < (l0.length : Int)) = true := decide_eq_true c4
            clear c4
            by_cases c5 : (x3_1.length : Int) > 0
            · rw [if_pos c5] at H
              have c5b0 : decide (0 < (x3_1.length : Int)) = true := decide_eq_true c5
              have c5b1 : decide (0 < x3_1.length) = true := decide_eq_true (by omega)
              clear c5
              obtain ⟨ji6, hji6⟩ : ∃ j_ : Int, (wrap64 ((x3_1.length : Int) - 1)) = j_ := ⟨_, rfl⟩
              replace H : (if 0 ≤ (ji6) then (if (ji6) < (x3_1.length : Int) then (if ((rd_T56 l0 x9_1).f0) ≤ (wrap64 (((rd_T56 x3_1 (ji6)).f1) + 1)) then (intset_merge.l0 k1 (x3_1.set ((ji6) : Int).toNat (⟨(rd_T56 x3_1 (ji6)).f0, mx ((rd_T56 x3_1 (ji6)).f1) ((rd_T56 l0 x9_1).f1)⟩ : S56)) l0 (l0.length : Int) (wrap64 (x9_1 + 1))) else (if x3_1.length < 8796093022208 then (intset_merge.l0 k1 (x3_1 ++ [(⟨(rd_T56 l0 x9_1).f0, (rd_T56 l0 x9_1).f1⟩ : S56)]) l0 (l0.length : Int) (wrap64 (x9_1 + 1))) else (none))) else (none)) else (none)) = some r := by first | (rw [hji6] at H; exact H) | (simp only [hji6] at H ⊢; exact H)
              have hji6w : (IntKind.i64.wrap ((x3_1.length : Int) - 1)) = ji6 := (i64_w _).trans hji6
              by_cases c7 : 0 ≤ (ji6)
              · rw [if_pos c7] at H
                have c7b0 : decide (0 ≤ (ji6)) = true := decide_eq_true c7
                clear c7
                by_cases c8 : (ji6) < (x3_1.length : Int)
                · rw [if_pos c8] at H
                  have c8b0 : decide ((ji6) < (x3_1.length : Int)) = true := decide_eq_true c8
                  clear c8
                  by_cases c9 : ((rd_T56 l0 x9_1).f0) ≤ (wrap64 (((rd_T56 x3_1 (ji6)).f1) + 1))
                  · rw [if_pos c9] at H
                    have c9b0 : decide (((rd_T56 l0 x9_1).f0) ≤ (wrap64 (((rd_T56 x3_1 (ji6)).f1) + 1))) = true := decide_eq_true c9
                    clear c9
                    obtain ⟨ji10, hji10⟩ : ∃ j_ : Int, (mx ((rd_T56 x3_1 (ji6)).f1) ((rd_T56 l0 x9_1).f1)) = j_ := ⟨_, rfl⟩
                    replace H : (intset_merge.l0 k1 (x3_1.set ((ji6) : Int).toNat (⟨(rd_T56 x3_1 (ji6)).f0, ji10⟩ : S56)) l0 (l0.length : Int) (wrap64 (x9_1 + 1))) = some r := by first | (rw [hji10] at H; exact H) | (simp only [hji10] at H ⊢; exact H)
                    have hji10_ : (if ((rd_T56 x3_1 (ji6)).f1) < ((rd_T56 l0 x9_1).f1) then ((rd_T56 l0 x9_1).f1) else ((rd_T56 x3_1 (ji6)).f1)) = ji10 := hji10
                    obtain ⟨y607, hy607⟩ : ∃ y_ : List (S56), y_ = (x3_1.set ((ji6) : Int).toNat (⟨(rd_T56 x3_1 (ji6)).f0, ji10⟩ : S56)) := ⟨_, rfl⟩
                    replace H : (intset_merge.l0 k1 y607 l0 (l0.length : Int) (wrap64 (x9_1 + 1))) = some r := by first | (rw [hy607]; with_reducible exact H) | (have H2_ := (Option.bind_some _ _).symm.trans H; rw [hy607]; with_reducible exact H2_) | (have H2_ := (Option.bind_some _ _).symm.trans H; with_reducible exact H2_) | with_reducible exact H | (rw [hy607]; exact H) | exact H
                    have Ny607 := Aside0.mk hy607
                    clear hy607
                    have H' := Aside0.mk H
                    clear H
                    have p603 : 0 ≤ (x9_1 : Int) := of_decide_eq_true (by first | (with_reducible assumption) | assumption)
                    have q603 : x9_1 < (l0.length : Int) := of_decide_eq_true (by first | (with_reducible assumption) | assumption)
                    obtain ⟨ad603, e603, hx603_0, hx603_1⟩ := at_T56 HR0.out x9_1 p603 q603
                    cases e603
                    replace hx603_0 := (HB.out.cell (World.block_lt_of_cell? w _ hx603_0)).trans hx603_0
                    replace hx603_1 := (HB.out.cell (World.block_lt_of_cell? w _ hx603_1)).trans hx603_1
                    replace p603 := eq_true p603
                    replace q603 := eq_true q603
                    try go_wp2_with (first | ((with_reducible refine gate_dst (N := 5) rfl ?_); refine box_event ?hg (N := 5) ?hd (cs := #[.int .i64 0, .int .i64 0]) (t := 56) ?hr ?_; (case hd => rfl); (case hg => rfl); (case hr => first | (go_simp; done) | (go_simp; rfl)); intro gb604 hg w12 hbox hb; have n0_ := Aside0.mk (Kd.R_below (Kd.R_elderB (by (with_reducible repeat (first | apply Kd.R_alloc | apply Kd.R_drewN | apply Kd.R_drew)); exact HO_3.out) gb604 (Nat.le_of_eq hg.symm)) hb); have n1_ := Aside0.mk (below_step (by repeat (first | (with_reducible first | exact HB.out | apply below_alloc | apply pw_below_drewN | apply below_drew1) | exact HB.out)) hb); have n2_ := Aside0.mk (hbox); have n3_ := Aside0.mk ((by rw [hg]; exact (below_size (by repeat (first | (with_reducible first | exact HB.out | apply below_alloc | apply pw_below_drewN | apply below_drew1) | exact HB.out))) : w.heap.size ≤ gb604)); have n4_ := Aside0.mk ((by rw [hg]; exact (below_size (by repeat (first | (with_reducible first | exact HB.out | apply below_alloc | apply pw_below_drewN | apply below_drew1) | exact HB.out))) : w.heap.size ≤ gb604)); clear HO_3; clear HB; have HO_3 := n0_; have HB := n1_; have BK604 := n2_; have GW604 := n3_; have GE604 := n4_; clear n0_ n1_ n2_ n3_ n4_; clear hb hbox hg; have hcz13_0 : w12.cell? ⟨gb604, 0, none⟩ = some (.int .i64 0) := (blk_cell BK604.out 0).trans rfl; have hcz13_1 : w12.cell? ⟨gb604, 1, none⟩ = some (.int .i64 0) := (blk_cell BK604.out 1).trans rfl; have hfz13_0 := blk_frozen BK604.out 0; have hfz13_1 := blk_frozen BK604.out 1; obtain ⟨Ao14, co14, eo14⟩ := Kd.R_slice HO_3.out; subst eo14))
                    have n0_ : Aside0 (Kd.R k56 56 ((w12.setCell ⟨gb604, 0, none⟩ (.int .i64 ((rd_T56 l0 x9_1).f0))).setCell ⟨gb604, 1, none⟩ (.int .i64 ((rd_T56 l0 x9_1).f1))) w.heap.size (fun k_ => k_ ≠ gb604) (.slice Ao14 x3_1.length co14) x3_1) := ⟨by (with_reducible repeat (first | apply Kd.R_alloc | apply Kd.R_drewN | apply Kd.R_drew)); exact Kd.R_mono (Kd.R_far (p := ⟨gb604, 1, none⟩) (Kd.R_far (p := ⟨gb604, 0, none⟩) (Kd.R_mono HO_3.out (fun k_ hk => (⟨hk, hk.2⟩ : _ ∧ k_ ≠ gb604))) (fun _ hk => hk.2) (.int .i64 ((rd_T56 l0 x9_1).f0))) (fun _ hk => hk.2) (.int .i64 ((rd_T56 l0 x9_1).f1))) (fun _ hk => hk.1.2)⟩
                    have n1_ : Aside0 (((w12.setCell ⟨gb604, 0, none⟩ (.int .i64 ((rd_T56 l0 x9_1).f0))).setCell ⟨gb604, 1, none⟩ (.int .i64 ((rd_T56 l0 x9_1).f1))).heap[gb604]? = some (.cells #[.int .i64 ((rd_T56 l0 x9_1).f0), .int .i64 ((rd_T56 l0 x9_1).f1)] 56 (0, 0))) := ⟨by (with_reducible repeat (first | refine blk_drewN ?_ _ | refine blk_drew ?_ | refine blk_alloc ?_ _)); refine blk_put (cs := #[.int .i64 ((rd_T56 l0 x9_1).f0), .int .i64 0]) ?_ 1 _ rfl; (with_reducible repeat (first | refine blk_drewN ?_ _ | refine blk_drew ?_ | refine blk_alloc ?_ _)); refine blk_put (cs := #[.int .i64 0, .int .i64 0]) ?_ 0 _ rfl; (with_reducible repeat (first | refine blk_drewN ?_ _ | refine blk_drew ?_ | refine blk_alloc ?_ _)); exact BK604.out⟩
                    have n2_ : Aside0 (Below w.heap.size w ((w12.setCell ⟨gb604, 0, none⟩ (.int .i64 ((rd_T56 l0 x9_1).f0))).setCell ⟨gb604, 1, none⟩ (.int .i64 ((rd_T56 l0 x9_1).f1)))) := ⟨by repeat (first | (with_reducible first | exact HB.out | apply below_alloc | apply pw_below_drewN | apply below_drew1 | refine below_set ?_ GE604.out) | exact HB.out)⟩
                    (try clear HO_3)
                    (try clear BK604)
                    (try clear HB)
                    generalize ((w12.setCell ⟨gb604, 0, none⟩ (.int .i64 ((rd_T56 l0 x9_1).f0))).setCell ⟨gb604, 1, none⟩ (.int .i64 ((rd_T56 l0 x9_1).f1))) = w15 at n0_ n1_ n2_ ⊢
                    have HO_3 := n0_
                    have BK604 := n1_
                    have HB := n2_
                    clear n0_ n1_ n2_
                    have n0_ := Aside0.mk (Kd.R_drew HO_3.out)
                    have n1_ := Aside0.mk (blk_drew BK604.out)
                    have n2_ := Aside0.mk (below_drew1 HB.out)
                    clear HO_3
                    clear BK604
                    clear HB
                    have HO_3 := n0_
                    have BK604 := n1_
                    have HB := n2_
                    clear n0_ n1_ n2_
                    have p605 : 0 ≤ ((ji6) : Int) := of_decide_eq_true (by first | (with_reducible assumption) | assumption)
                    have q605 : (ji6) < (x3_1.length : Int) := of_decide_eq_true (by first | (with_reducible assumption) | assumption)
                    obtain ⟨ad605, e605, hx605_0, hx605_1⟩ := at_T56 (Kd.R_reads' HO_3.out).2.2 (ji6) p605 q605
                    cases e605
                    replace p605 := eq_true p605
                    replace q605 := eq_true q605
                    refine start_ (n := 14) (S := fun w' => w'.cell? ⟨gb604, 0, none⟩ = some (.int .i64 ((rd_T56 l0 x9_1).f0)) ∧ w'.cell? ⟨gb604, 1, none⟩ = some (.int .i64 ((rd_T56 l0 x9_1).f1)) ∧ w'.cell? (ad605.add (((ji6)).toNat * 2)) = some (.int .i64 ((rd_T56 x3_1 (ji6)).f0)) ∧ w'.cell? ⟨(ad605.add (((ji6)).toNat * 2)).block, (ad605.add (((ji6)).toNat * 2)).off + 1, none⟩ = some (.int .i64 ((rd_T56 x3_1 (ji6)).f1))) (ds := []) #[false, false, false, false, false, false, false, false, false, false, false, false, false, false] (by kernel_rfl) rfl rfl ⟨(blk_cell BK604.out 0).trans rfl, (blk_cell BK604.out 1).trans rfl, hx605_0, hx605_1⟩ (fun hHeld => ?_); refine with_tabW intset_merge.tab6 intset_merge.bits6 (fun HT_ HW_ => ?_)
                    generalize w15.drew = w16 at HO_3 BK604 HB hx605_0 hx605_1 hHeld ⊢
                    refine pure_ (i := 0) (N := some 15) (v := ?_) (a' := ?_) #[true, false, false, false, false, false, false, false, false, false, false, false, false, false] rfl rfl (any_of HT_.out (by kernel_rfl)) (fun _ _ _ h => h) (Or.inl ⟨by rfl, ?_⟩) ?_ ?_
                    rotate_left
                    · intro w'
                      go_simp
                      with_reducible rfl
                    rotate_left
                    · simp only [Act.put, List.setIfInBounds_toArray, List.set_cons_zero, List.set_cons_succ, i64_w, i32_w]
                      rfl
                    refine pure_ (i := 1) (N := some 16) (v := ?_) (a' := ?_) #[true, true, false, false, false, false, false, false, false, false, false, false, false, false] rfl rfl (any_of HT_.out (by kernel_rfl)) (fun _ _ _ h => h) (Or.inl ⟨by rfl, ?_⟩) ?_ ?_
                    rotate_left
                    · intro w'
                      go_simp
                      with_reducible rfl
                    rotate_left
                    · simp only [Act.put, List.setIfInBounds_toArray, List.set_cons_zero, List.set_cons_succ, i64_w, i32_w]
                      rfl
                    refine pure_ (i := 2) (N := some 17) (v := ?_) (a' := ?_) #[true, true, true, false, false, false, false, false, false, false, false, false, false, false] rfl rfl (any_of HT_.out (by kernel_rfl)) (fun _ _ _ h => h) (Or.inl ⟨by rfl, ?_⟩) ?_ ?_
                    rotate_left
                    · intro w'
                      go_simp
                      with_reducible rfl
                    rotate_left
                    · simp only [Act.put, List.setIfInBounds_toArray, List.set_cons_zero, List.set_cons_succ, i64_w, i32_w]
                      rfl
                    refine pure_ (i := 3) (N := some 18) (v := ?_) (a' := ?_) #[true, true, true, true, false, false, false, false, false, false, false, false, false, false] rfl rfl (any_of HT_.out (by kernel_rfl)) (fun _ _ _ h => h) (Or.inl ⟨by rfl, ?_⟩) ?_ ?_
                    rotate_left
                    · intro w'
                      go_simp
                      with_reducible rfl
                    rotate_left
                    · simp only [Act.put, List.setIfInBounds_toArray, List.set_cons_zero, List.set_cons_succ, i64_w, i32_w]
                      rfl
                    refine pure_ (i := 5) (N := some 20) (v := ?_) (a' := ?_) #[true, true, true, true, false, true, false, false, false, false, false, false, false, false] rfl rfl (any_of HT_.out (by kernel_rfl)) (fun _ _ _ h => h) (Or.inl ⟨by rfl, ?_⟩) ?_ ?_
                    rotate_left
                    · intro w'
                      go_simp
                      with_reducible rfl
                    rotate_left
                    · simp only [Act.put, List.setIfInBounds_toArray, List.set_cons_zero, List.set_cons_succ, i64_w, i32_w]
                      rfl
                    refine pure_ (i := 6) (N := some 21) (v := ?_) (a' := ?_) #[true, true, true, true, false, true, true, false, false, false, false, false, false, false] rfl rfl (any_of HT_.out (by kernel_rfl)) (fun _ _ _ h => h) (Or.inl ⟨by rfl, ?_⟩) ?_ ?_
                    rotate_left
                    · intro w'
                      go_simp
                      with_reducible rfl
                    rotate_left
                    · simp only [Act.put, List.setIfInBounds_toArray, List.set_cons_zero, List.set_cons_succ, i64_w, i32_w]
                      rfl
                    refine pure_ (i := 7) (N := some 22) (v := ?_) (a' := ?_) #[true, true, true, true, false, true, true, true, false, false, false, false, false, false] rfl rfl (any_of HT_.out (by kernel_rfl)) (fun _ _ _ h => h) (Or.inl ⟨by rfl, ?_⟩) ?_ ?_
                    rotate_left
                    · intro w'
                      go_simp
                      with_reducible rfl
                    rotate_left
                    · simp only [Act.put, List.setIfInBounds_toArray, List.set_cons_zero, List.set_cons_succ, i64_w, i32_w]
                      rfl
                    refine pure_ (i := 8) (N := some 23) (v := ?_) (a' := ?_) #[true, true, true, true, false, true, true, true, true, false, false, false, false, false] rfl rfl (any_of HT_.out (by kernel_rfl)) (fun _ _ _ h => h) (Or.inl ⟨by rfl, ?_⟩) ?_ ?_
                    rotate_left
                    · intro w'
                      go_simp
                      with_reducible rfl
                    rotate_left
                    · simp only [Act.put, List.setIfInBounds_toArray, List.set_cons_zero, List.set_cons_succ, i64_w, i32_w]
                      rfl
                    refine pure_ (i := 9) (N := some 24) (v := ?_) (a' := ?_) #[true, true, true, true, false, true, true, true, true, true, false, false, false, false] rfl rfl (any_of HT_.out (by kernel_rfl)) (fun _ _ _ h => h) (Or.inl ⟨by rfl, ?_⟩) ?_ ?_
                    rotate_left
                    · intro w'
                      go_simp
                      with_reducible rfl
                    rotate_left
                    · simp only [Act.put, List.setIfInBounds_toArray, List.set_cons_zero, List.set_cons_succ, i64_w, i32_w]
                      rfl
                    refine take_ (i := 4) (N := some 19) (v := ?_) (a' := ?_) #[true, true, true, true, true, true, true, true, true, true, false, false, false, false] rfl rfl (take_ofW HT_.out HW_.out (by kernel_rfl)) (fun _ _ _ h => h) (Or.inl ⟨by rfl, ?_⟩) hHeld ?_ ?_
                    rotate_left
                    · rintro w' ⟨s0, s1, s2, s3⟩
                      go_simp
                      with_reducible rfl
                    rotate_left
                    · simp only [Act.put, List.setIfInBounds_toArray, List.set_cons_zero, List.set_cons_succ, i64_w, i32_w]
                      rfl
                    refine take_ (i := 10) (N := some 25) (v := ?_) (a' := ?_) #[true, true, true, true, true, true, true, true, true, true, true, false, false, false] rfl rfl (take_ofW HT_.out HW_.out (by kernel_rfl)) (fun _ _ _ h => h) (Or.inl ⟨by rfl, ?_⟩) hHeld ?_ ?_
                    rotate_left
                    · rintro w' ⟨s0, s1, s2, s3⟩
                      go_simp
                      with_reducible rfl
                    rotate_left
                    · simp only [Act.put, List.setIfInBounds_toArray, List.set_cons_zero, List.set_cons_succ, i64_w, i32_w]
                      rfl
                    refine pure_ (i := 11) (N := some 26) (v := ?_) (a' := ?_) #[true, true, true, true, true, true, true, true, true, true, true, true, false, false] rfl rfl (any_of HT_.out (by kernel_rfl)) (fun _ _ _ h => h) (Or.inl ⟨by rfl, ?_⟩) ?_ ?_
                    rotate_left
                    · intro w'
                      go_simp
                      with_reducible rfl
                    rotate_left
                    · simp only [Act.put, List.setIfInBounds_toArray, List.set_cons_zero, List.set_cons_succ, i64_w, i32_w]
                      rfl
                    refine pure_ (i := 12) (N := some 27) (v := ?_) (a' := ?_) #[true, true, true, true, true, true, true, true, true, true, true, true, true, false] rfl rfl (any_of HT_.out (by kernel_rfl)) (fun _ _ _ h => h) (Or.inl ⟨by rfl, ?_⟩) ?_ ?_
                    rotate_left
                    · intro w'
                      go_simp
                      with_reducible rfl
                    rotate_left
                    · simp only [Act.put, List.setIfInBounds_toArray, List.set_cons_zero, List.set_cons_succ, i64_w, i32_w]
                      rfl
                    refine pure_ (i := 13) (N := some 28) (v := ?_) (a' := ?_) #[true, true, true, true, true, true, true, true, true, true, true, true, true, true] rfl rfl (any_of HT_.out (by kernel_rfl)) (fun _ _ _ h => h) (Or.inl ⟨by rfl, ?_⟩) ?_ ?_
                    rotate_left
                    · intro w'
                      go_simp
                      with_reducible rfl
                    rotate_left
                    · simp only [Act.put, List.setIfInBounds_toArray, List.set_cons_zero, List.set_cons_succ, i64_w, i32_w]
                      rfl
                    refine done_ (done_of HT_.out (by kernel_rfl)) ?_
                    try go_wp2
                    have n0_ := Aside0.mk (Kd.R_drew HO_3.out)
                    have n1_ := Aside0.mk (blk_drew BK604.out)
                    have n2_ := Aside0.mk (below_drew1 HB.out)
                    clear HO_3
                    clear BK604
                    clear HB
                    have HO_3 := n0_
                    have BK604 := n1_
                    have HB := n2_
                    clear n0_ n1_ n2_
                    have p606 : 0 ≤ ((ji6) : Int) := of_decide_eq_true (by first | (with_reducible assumption) | assumption)
                    have q606 : (ji6) < (x3_1.length : Int) := of_decide_eq_true (by first | (with_reducible assumption) | assumption)
                    obtain ⟨ad606, e606, hx606_0, hx606_1⟩ := at_T56 (Kd.R_reads' HO_3.out).2.2 (ji6) p606 q606
                    obtain rfl : ad605 = ad606 := (by injection e606)
                    replace p606 := eq_true p606
                    replace q606 := eq_true q606
                    have p11 : 0 ≤ ((ji6) : Int) := of_decide_eq_true (by first | (with_reducible assumption) | assumption)
                    have q11 : ((ji6) : Int) < ((x3_1.length : Int) : Int) := of_decide_eq_true (by first | (with_reducible assumption) | assumption)
                    obtain ⟨go11, co11, eo11, gb11, gl11, cl11, HG11⟩ := Kd.R_form HO_3.out (by omega)
                    (first | cases eo11 | (injection eo11 with ea_ en_ ec_; (first | subst ea_ | (injection ea_ with ea_; subst ea_)); subst ec_; clear en_))
                    have GB11 := Aside0.mk gb11
                    have GG11 := Aside0.mk HG11
                    clear gb11 gl11 HG11
                    (first | simp only [add_plain] at hx605_0 | skip)
                    (first | simp only [add_plain] at hx605_1 | skip)
                    (first | simp only [add_plain] at hx606_0 | skip)
                    (first | simp only [add_plain] at hx606_1 | skip)
                    obtain ⟨ce11, hcl11, hM11, hcc11, hfr11⟩ := Kd.R_elem HO_3.out z56 ((ji6) : Int) p11 q11
                    obtain rfl := k56_openM hM11
                    have hx11_0 : World.cell? _ ⟨go11, ((ji6) : Int).toNat * 2, none⟩ = some (.int .i64 ((rd_T56 x3_1 (ji6)).f0)) := hcc11 0 _ rfl
                    have hx11_1 : World.cell? _ ⟨go11, ((ji6) : Int).toNat * 2 + 1, none⟩ = some (.int .i64 ((rd_T56 x3_1 (ji6)).f1)) := hcc11 1 _ rfl
                    have hf11_0 : World.frozen? _ ⟨go11, ((ji6) : Int).toNat * 2, none⟩ = false := hfr11 0
                    have hf11_1 : World.frozen? _ ⟨go11, ((ji6) : Int).toNat * 2 + 1, none⟩ = false := hfr11 1
                    clear hcl11 hcc11 hfr11 hM11
                    replace p11 := eq_true p11
                    replace q11 := eq_true q11
                    obtain ⟨ce18, hcl18, hM18, hcc18, hfr18⟩ := Kd.R_elem HO_3.out z56 ((ji6) : Int) (of_decide_eq_true (by first | (with_reducible assumption) | assumption)) (by have h_ : ((ji6) : Int) < ((x3_1.length : Int) : Int) := of_decide_eq_true (by first | (with_reducible assumption) | assumption); first | exact h_ | (have e_ := (Kd.R_reads' HO_3.out).1; omega) | simpa using h_)
                    obtain rfl := k56_openM hM18
                    have HP18 := (Kd.R_seg HO_3.out ((ji6) : Int) (of_decide_eq_true (by first | (with_reducible assumption) | assumption)) (by have h_ : ((ji6) : Int) < ((x3_1.length : Int) : Int) := of_decide_eq_true (by first | (with_reducible assumption) | assumption); first | exact h_ | (have e_ := (Kd.R_reads' HO_3.out).1; omega) | simpa using h_) (seg := [.int .i64 ji10]) (j := 1) hcl18 hcc18 (show 2 ≤ 2 from by decide) (x' := (⟨(rd_T56 x3_1 (ji6)).f0, ji10⟩ : S56)) (k56_mkM _ _ _ (⟨(rd_T56 x3_1 (ji6)).f0, ji10⟩ : S56) ) (fun _ hk => hk)).1
                    rw [← Ny607.out] at HP18
                    have HQ18 := Aside0.mk HP18
                    clear hcl18 hcc18 hfr18 hM18 HP18
                    refine start_ (n := 15) (S := fun w' => w'.cell? ⟨gb604, 0, none⟩ = some (.int .i64 ((rd_T56 l0 x9_1).f0)) ∧ w'.cell? ⟨gb604, 1, none⟩ = some (.int .i64 ((rd_T56 l0 x9_1).f1)) ∧ w'.cell? ⟨go11, ((ji6) : Int).toNat * 2, none⟩ = some (.int .i64 ((rd_T56 x3_1 (ji6)).f0)) ∧ w'.cell? ⟨go11, ((ji6) : Int).toNat * 2 + 1, none⟩ = some (.int .i64 ((rd_T56 x3_1 (ji6)).f1))) (ds := [14]) #[false, false, false, false, false, false, false, false, false, false, false, false, false, false, false] (by kernel_rfl) rfl rfl ⟨(blk_cell BK604.out 0).trans rfl, (blk_cell BK604.out 1).trans rfl, hx606_0, hx606_1⟩ (fun hHeld => ?_); refine with_tabW intset_merge.tab7 intset_merge.bits7 (fun HT_ HW_ => ?_)
                    generalize w16.drew = w17 at HO_3 BK604 HB GG11 HQ18 hf11_0 hf11_1 hx11_0 hx11_1 hx605_0 hx605_1 hx606_0 hx606_1 hHeld ⊢
                    refine pure_ (i := 0) (N := some 29) (v := ?_) (a' := ?_) #[true, false, false, false, false, false, false, false, false, false, false, false, false, false, false] rfl rfl (any_of HT_.out (by kernel_rfl)) (fun _ _ _ h => h) (Or.inl ⟨by rfl, ?_⟩) ?_ ?_
                    rotate_left
                    · intro w'
                      go_simp
                      with_reducible rfl
                    rotate_left
                    · simp only [Act.put, List.setIfInBounds_toArray, List.set_cons_zero, List.set_cons_succ, i64_w, i32_w]
                      rfl
                    refine pure_ (i := 1) (N := some 30) (v := ?_) (a' := ?_) #[true, true, false, false, false, false, false, false, false, false, false, false, false, false, false] rfl rfl (any_of HT_.out (by kernel_rfl)) (fun _ _ _ h => h) (Or.inl ⟨by rfl, ?_⟩) ?_ ?_
                    rotate_left
                    · intro w'
                      go_simp
                      with_reducible rfl
                    rotate_left
                    · simp only [Act.put, List.setIfInBounds_toArray, List.set_cons_zero, List.set_cons_succ, i64_w, i32_w]
                      rfl
                    refine pure_ (i := 2) (N := some 31) (v := ?_) (a' := ?_) #[true, true, true, false, false, false, false, false, false, false, false, false, false, false, false] rfl rfl (any_of HT_.out (by kernel_rfl)) (fun _ _ _ h => h) (Or.inl ⟨by rfl, ?_⟩) ?_ ?_
                    rotate_left
                    · intro w'
                      go_simp
                      with_reducible rfl
                    rotate_left
                    · simp only [Act.put, List.setIfInBounds_toArray, List.set_cons_zero, List.set_cons_succ, i64_w, i32_w]
                      rfl
                    refine pure_ (i := 3) (N := some 32) (v := ?_) (a' := ?_) #[true, true, true, true, false, false, false, false, false, false, false, false, false, false, false] rfl rfl (any_of HT_.out (by kernel_rfl)) (fun _ _ _ h => h) (Or.inl ⟨by rfl, ?_⟩) ?_ ?_
                    rotate_left
                    · intro w'
                      go_simp
                      with_reducible rfl
                    rotate_left
                    · simp only [Act.put, List.setIfInBounds_toArray, List.set_cons_zero, List.set_cons_succ, i64_w, i32_w]
                      rfl
                    refine pure_ (i := 4) (N := some 33) (v := ?_) (a' := ?_) #[true, true, true, true, true, false, false, false, false, false, false, false, false, false, false] rfl rfl (any_of HT_.out (by kernel_rfl)) (fun _ _ _ h => h) (Or.inl ⟨by rfl, ?_⟩) ?_ ?_
                    rotate_left
                    · intro w'
                      go_simp
                      with_reducible rfl
                    rotate_left
                    · simp only [Act.put, List.setIfInBounds_toArray, List.set_cons_zero, List.set_cons_succ, i64_w, i32_w]
                      rfl
                    refine pure_ (i := 5) (N := some 34) (v := ?_) (a' := ?_) #[true, true, true, true, true, true, false, false, false, false, false, false, false, false, false] rfl rfl (any_of HT_.out (by kernel_rfl)) (fun _ _ _ h => h) (Or.inl ⟨by rfl, ?_⟩) ?_ ?_
                    rotate_left
                    · intro w'
                      go_simp
                      with_reducible rfl
                    rotate_left
                    · simp only [Act.put, List.setIfInBounds_toArray, List.set_cons_zero, List.set_cons_succ, i64_w, i32_w]
                      rfl
                    refine pure_ (i := 6) (N := some 35) (v := ?_) (a' := ?_) #[true, true, true, true, true, true, true, false, false, false, false, false, false, false, false] rfl rfl (any_of HT_.out (by kernel_rfl)) (fun _ _ _ h => h) (Or.inl ⟨by rfl, ?_⟩) ?_ ?_
                    rotate_left
                    · intro w'
                      go_simp
                      with_reducible rfl
                    rotate_left
                    · simp only [Act.put, List.setIfInBounds_toArray, List.set_cons_zero, List.set_cons_succ, i64_w, i32_w]
                      rfl
                    refine pure_ (i := 7) (N := some 36) (v := ?_) (a' := ?_) #[true, true, true, true, true, true, true, true, false, false, false, false, false, false, false] rfl rfl (any_of HT_.out (by kernel_rfl)) (fun _ _ _ h => h) (Or.inl ⟨by rfl, ?_⟩) ?_ ?_
                    rotate_left
                    · intro w'
                      go_simp
                      with_reducible rfl
                    rotate_left
                    · simp only [Act.put, List.setIfInBounds_toArray, List.set_cons_zero, List.set_cons_succ, i64_w, i32_w]
                      rfl
                    refine pure_ (i := 9) (N := some 38) (v := ?_) (a' := ?_) #[true, true, true, true, true, true, true, true, false, true, false, false, false, false, false] rfl rfl (any_of HT_.out (by kernel_rfl)) (fun _ _ _ h => h) (Or.inl ⟨by rfl, ?_⟩) ?_ ?_
                    rotate_left
                    · intro w'
                      go_simp
                      with_reducible rfl
                    rotate_left
                    · simp only [Act.put, List.setIfInBounds_toArray, List.set_cons_zero, List.set_cons_succ, i64_w, i32_w]
                      rfl
                    refine take_ (i := 8) (N := some 37) (v := ?_) (a' := ?_) #[true, true, true, true, true, true, true, true, true, true, false, false, false, false, false] rfl rfl (take_ofW HT_.out HW_.out (by kernel_rfl)) (fun _ _ _ h => h) (Or.inl ⟨by rfl, ?_⟩) hHeld ?_ ?_
                    rotate_left
                    · rintro w' ⟨s0, s1, s2, s3⟩
                      go_simp
                      with_reducible rfl
                    rotate_left
                    · simp only [Act.put, List.setIfInBounds_toArray, List.set_cons_zero, List.set_cons_succ, i64_w, i32_w]
                      rfl
                    refine take_ (i := 10) (N := some 39) (v := ?_) (a' := ?_) #[true, true, true, true, true, true, true, true, true, true, true, false, false, false, false] rfl rfl (take_ofW HT_.out HW_.out (by kernel_rfl)) (fun _ _ _ h => h) (Or.inl ⟨by rfl, ?_⟩) hHeld ?_ ?_
                    rotate_left
                    · rintro w' ⟨s0, s1, s2, s3⟩
                      go_simp
                      with_reducible rfl
                    rotate_left
                    · simp only [Act.put, List.setIfInBounds_toArray, List.set_cons_zero, List.set_cons_succ, i64_w, i32_w]
                      rfl
                    refine pure_ (i := 11) (N := some 40) (v := ?_) (a' := ?_) #[true, true, true, true, true, true, true, true, true, true, true, true, false, false, false] rfl rfl (any_of HT_.out (by kernel_rfl)) (fun _ _ _ h => h) (Or.inl ⟨by rfl, ?_⟩) ?_ ?_
                    rotate_left
                    · intro w'
                      go_simp
                      with_reducible rfl
                    rotate_left
                    · simp only [Act.put, List.setIfInBounds_toArray, List.set_cons_zero, List.set_cons_succ, i64_w, i32_w]
                      rfl
                    refine pure_ (i := 12) (N := some 41) (v := ?_) (a' := ?_) #[true, true, true, true, true, true, true, true, true, true, true, true, true, false, false] rfl rfl (any_of HT_.out (by kernel_rfl)) (fun _ _ _ h => h) (Or.inl ⟨by rfl, ?_⟩) ?_ ?_
                    rotate_left
                    · intro w'
                      go_simp
                      with_reducible rfl
                    rotate_left
                    · simp only [Act.put, List.setIfInBounds_toArray, List.set_cons_zero, List.set_cons_succ, i64_w, i32_w]
                      rfl
                    refine pure_ (i := 13) (N := some 42) (v := ?_) (a' := ?_) #[true, true, true, true, true, true, true, true, true, true, true, true, true, true, false] rfl rfl (any_of HT_.out (by kernel_rfl)) (fun _ _ _ h => h) (Or.inl ⟨by rfl, ?_⟩) ?_ ?_
                    rotate_left
                    · intro w'
                      go_simp
                      with_reducible rfl
                    rotate_left
                    · simp only [Act.put, List.setIfInBounds_toArray, List.set_cons_zero, List.set_cons_succ, i64_w, i32_w]
                      rfl
                    refine last_ (i := 14) (N := none) #[true, true, true, true, true, true, true, true, true, true, true, true, true, true, true] rfl rfl (one_of HT_.out (by kernel_rfl)) (by decide) (fun K hK => ?_)
                    refine skip_ (w1 := ?_) (by rfl) rfl ?_ ?_
                    rotate_left
                    · go_simp
                      rfl
                    refine hK.out _ _ ?_
                    clear hK K
                    refine done_ (done_of HT_.out (by kernel_rfl)) ?_
                    try go_wp2
                    go_roundg k1
                    case measure => have := HK1.out; omega
                    case rel => exact ⟨(y607), (wrap64 (x9_1 + 1)), (by first | rfl | (simp; done) | (simp [*]; done)), H', ⟨by have := HK1.out; omega⟩, ⟨by (with_reducible repeat (first | apply Kd.R_alloc | apply Kd.R_drewN | apply Kd.R_drew)); exact Kd.R_mono HQ18.out (fun _ hk => trivial)⟩, ⟨by repeat (first | (with_reducible first | exact HB.out | apply below_alloc | apply pw_below_drewN | apply below_drew1 | refine below_set ?_ GB11.out | refine below_set ?_ GE604.out) | exact HB.out)⟩⟩
                  · rw [if_neg c9] at H
                    have c9b0 : decide (((rd_T56 l0 x9_1).f0) ≤ (wrap64 (((rd_T56 x3_1 (ji6)).f1) + 1))) = false := decide_eq_false c9
                    clear c9
                    by_cases c19 : x3_1.length < 8796093022208
                    · rw [if_pos c19] at H
                      have LMc19 := Aside0.mk c19
                      clear c19
                      obtain ⟨y608, hy608⟩ : ∃ y_ : List (S56), y_ = (x3_1 ++ [(⟨(rd_T56 l0 x9_1).f0, (rd_T56 l0 x9_1).f1⟩ : S56)]) := ⟨_, rfl⟩
                      replace H : (intset_merge.l0 k1 y608 l0 (l0.length : Int) (wrap64 (x9_1 + 1))) = some r := by first | (rw [hy608]; with_reducible exact H) | (have H2_ := (Option.bind_some _ _).symm.trans H; rw [hy608]; with_reducible exact H2_) | (have H2_ := (Option.bind_some _ _).symm.trans H; with_reducible exact H2_) | with_reducible exact H | (rw [hy608]; exact H) | exact H
                      have Ny608 := Aside0.mk hy608
                      clear hy608
                      have H' := Aside0.mk H
                      clear H
                      have p603 : 0 ≤ (x9_1 : Int) := of_decide_eq_true (by first | (with_reducible assumption) | assumption)
                      have q603 : x9_1 < (l0.length : Int) := of_decide_eq_true (by first | (with_reducible assumption) | assumption)
                      obtain ⟨ad603, e603, hx603_0, hx603_1⟩ := at_T56 HR0.out x9_1 p603 q603
                      cases e603
                      replace hx603_0 := (HB.out.cell (World.block_lt_of_cell? w _ hx603_0)).trans hx603_0
                      replace hx603_1 := (HB.out.cell (World.block_lt_of_cell? w _ hx603_1)).trans hx603_1
                      replace p603 := eq_true p603
                      replace q603 := eq_true q603
                      try go_wp2_with (first | ((with_reducible refine gate_dst (N := 5) rfl ?_); refine box_event ?hg (N := 5) ?hd (cs := #[.int .i64 0, .int .i64 0]) (t := 56) ?hr ?_; (case hd => rfl); (case hg => rfl); (case hr => first | (go_simp; done) | (go_simp; rfl)); intro gb604 hg w20 hbox hb; have n0_ := Aside0.mk (Kd.R_below (Kd.R_elderB (by (with_reducible repeat (first | apply Kd.R_alloc | apply Kd.R_drewN | apply Kd.R_drew)); exact HO_3.out) gb604 (Nat.le_of_eq hg.symm)) hb); have n1_ := Aside0.mk (below_step (by repeat (first | (with_reducible first | exact HB.out | apply below_alloc | apply pw_below_drewN | apply below_drew1) | exact HB.out)) hb); have n2_ := Aside0.mk (hbox); have n3_ := Aside0.mk ((by rw [hg]; exact (below_size (by repeat (first | (with_reducible first | exact HB.out | apply below_alloc | apply pw_below_drewN | apply below_drew1) | exact HB.out))) : w.heap.size ≤ gb604)); have n4_ := Aside0.mk ((by rw [hg]; exact (below_size (by repeat (first | (with_reducible first | exact HB.out | apply below_alloc | apply pw_below_drewN | apply below_drew1) | exact HB.out))) : w.heap.size ≤ gb604)); clear HO_3; clear HB; have HO_3 := n0_; have HB := n1_; have BK604 := n2_; have GW604 := n3_; have GE604 := n4_; clear n0_ n1_ n2_ n3_ n4_; clear hb hbox hg; have hcz21_0 : w20.cell? ⟨gb604, 0, none⟩ = some (.int .i64 0) := (blk_cell BK604.out 0).trans rfl; have hcz21_1 : w20.cell? ⟨gb604, 1, none⟩ = some (.int .i64 0) := (blk_cell BK604.out 1).trans rfl; have hfz21_0 := blk_frozen BK604.out 0; have hfz21_1 := blk_frozen BK604.out 1; obtain ⟨Ao22, co22, eo22⟩ := Kd.R_slice HO_3.out; subst eo22))
                      have n0_ : Aside0 (Kd.R k56 56 ((w20.setCell ⟨gb604, 0, none⟩ (.int .i64 ((rd_T56 l0 x9_1).f0))).setCell ⟨gb604, 1, none⟩ (.int .i64 ((rd_T56 l0 x9_1).f1))) w.heap.size (fun k_ => k_ ≠ gb604) (.slice Ao22 x3_1.length co22) x3_1) := ⟨by (with_reducible repeat (first | apply Kd.R_alloc | apply Kd.R_drewN | apply Kd.R_drew)); exact Kd.R_mono (Kd.R_far (p := ⟨gb604, 1, none⟩) (Kd.R_far (p := ⟨gb604, 0, none⟩) (Kd.R_mono HO_3.out (fun k_ hk => (⟨hk, hk.2⟩ : _ ∧ k_ ≠ gb604))) (fun _ hk => hk.2) (.int .i64 ((rd_T56 l0 x9_1).f0))) (fun _ hk => hk.2) (.int .i64 ((rd_T56 l0 x9_1).f1))) (fun _ hk => hk.1.2)⟩
                      have n1_ : Aside0 (((w20.setCell ⟨gb604, 0, none⟩ (.int .i64 ((rd_T56 l0 x9_1).f0))).setCell ⟨gb604, 1, none⟩ (.int .i64 ((rd_T56 l0 x9_1).f1))).heap[gb604]? = some (.cells #[.int .i64 ((rd_T56 l0 x9_1).f0), .int .i64 ((rd_T56 l0 x9_1).f1)] 56 (0, 0))) := ⟨by (with_reducible repeat (first | refine blk_drewN ?_ _ | refine blk_drew ?_ | refine blk_alloc ?_ _)); refine blk_put (cs := #[.int .i64 ((rd_T56 l0 x9_1).f0), .int .i64 0]) ?_ 1 _ rfl; (with_reducible repeat (first | refine blk_drewN ?_ _ | refine blk_drew ?_ | refine blk_alloc ?_ _)); refine blk_put (cs := #[.int .i64 0, .int .i64 0]) ?_ 0 _ rfl; (with_reducible repeat (first | refine blk_drewN ?_ _ | refine blk_drew ?_ | refine blk_alloc ?_ _)); exact BK604.out⟩
                      have n2_ : Aside0 (Below w.heap.size w ((w20.setCell ⟨gb604, 0, none⟩ (.int .i64 ((rd_T56 l0 x9_1).f0))).setCell ⟨gb604, 1, none⟩ (.int .i64 ((rd_T56 l0 x9_1).f1)))) := ⟨by repeat (first | (with_reducible first | exact HB.out | apply below_alloc | apply pw_below_drewN | apply below_drew1 | refine below_set ?_ GE604.out) | exact HB.out)⟩
                      (try clear HO_3)
                      (try clear BK604)
                      (try clear HB)
                      generalize ((w20.setCell ⟨gb604, 0, none⟩ (.int .i64 ((rd_T56 l0 x9_1).f0))).setCell ⟨gb604, 1, none⟩ (.int .i64 ((rd_T56 l0 x9_1).f1))) = w23 at n0_ n1_ n2_ ⊢
                      have HO_3 := n0_
                      have BK604 := n1_
                      have HB := n2_
                      clear n0_ n1_ n2_
                      have n0_ := Aside0.mk (Kd.R_drew HO_3.out)
                      have n1_ := Aside0.mk (blk_drew BK604.out)
                      have n2_ := Aside0.mk (below_drew1 HB.out)
                      clear HO_3
                      clear BK604
                      clear HB
                      have HO_3 := n0_
                      have BK604 := n1_
                      have HB := n2_
                      clear n0_ n1_ n2_
                      have p605 : 0 ≤ ((ji6) : Int) := of_decide_eq_true (by first | (with_reducible assumption) | assumption)
                      have q605 : (ji6) < (x3_1.length : Int) := of_decide_eq_true (by first | (with_reducible assumption) | assumption)
                      obtain ⟨ad605, e605, hx605_0, hx605_1⟩ := at_T56 (Kd.R_reads' HO_3.out).2.2 (ji6) p605 q605
                      cases e605
                      replace p605 := eq_true p605
                      replace q605 := eq_true q605
                      refine start_ (n := 14) (S := fun w' => w'.cell? ⟨gb604, 0, none⟩ = some (.int .i64 ((rd_T56 l0 x9_1).f0)) ∧ w'.cell? ⟨gb604, 1, none⟩ = some (.int .i64 ((rd_T56 l0 x9_1).f1)) ∧ w'.cell? (ad605.add (((ji6)).toNat * 2)) = some (.int .i64 ((rd_T56 x3_1 (ji6)).f0)) ∧ w'.cell? ⟨(ad605.add (((ji6)).toNat * 2)).block, (ad605.add (((ji6)).toNat * 2)).off + 1, none⟩ = some (.int .i64 ((rd_T56 x3_1 (ji6)).f1))) (ds := []) #[false, false, false, false, false, false, false, false, false, false, false, false, false, false] (by kernel_rfl) rfl rfl ⟨(blk_cell BK604.out 0).trans rfl, (blk_cell BK604.out 1).trans rfl, hx605_0, hx605_1⟩ (fun hHeld => ?_); refine with_tabW intset_merge.tab6 intset_merge.bits6 (fun HT_ HW_ => ?_)
                      generalize w23.drew = w24 at HO_3 BK604 HB hx605_0 hx605_1 hHeld ⊢
                      refine pure_ (i := 0) (N := some 15) (v := ?_) (a' := ?_) #[true, false, false, false, false, false, false, false, false, false, false, false, false, false] rfl rfl (any_of HT_.out (by kernel_rfl)) (fun _ _ _ h => h) (Or.inl ⟨by rfl, ?_⟩) ?_ ?_
                      rotate_left
                      · intro w'
                        go_simp
                        with_reducible rfl
                      rotate_left
                      · simp only [Act.put, List.setIfInBounds_toArray, List.set_cons_zero, List.set_cons_succ, i64_w, i32_w]
                        rfl
                      refine pure_ (i := 1) (N := some 16) (v := ?_) (a' := ?_) #[true, true, false, false, false, false, false, false, false, false, false, false, false, false] rfl rfl (any_of HT_.out (by kernel_rfl)) (fun _ _ _ h => h) (Or.inl ⟨by rfl, ?_⟩) ?_ ?_
                      rotate_left
                      · intro w'
                        go_simp
                        with_reducible rfl
                      rotate_left
                      · simp only [Act.put, List.setIfInBounds_toArray, List.set_cons_zero, List.set_cons_succ, i64_w, i32_w]
                        rfl
                      refine pure_ (i := 2) (N := some 17) (v := ?_) (a' := ?_) #[true, true, true, false, false, false, false, false, false, false, false, false, false, false] rfl rfl (any_of HT_.out (by kernel_rfl)) (fun _ _ _ h => h) (Or.inl ⟨by rfl, ?_⟩) ?_ ?_
                      rotate_left
                      · intro w'
                        go_simp
                        with_reducible rfl
                      rotate_left
                      · simp only [Act.put, List.setIfInBounds_toArray, List.set_cons_zero, List.set_cons_succ, i64_w, i32_w]
                        rfl
                      refine pure_ (i := 3) (N := some 18) (v := ?_) (a' := ?_) #[true, true, true, true, false, false, false, false, false, false, false, false, false, false] rfl rfl (any_of HT_.out (by kernel_rfl)) (fun _ _ _ h => h) (Or.inl ⟨by rfl, ?_⟩) ?_ ?_
                      rotate_left
                      · intro w'
                        go_simp
                        with_reducible rfl
                      rotate_left
                      · simp only [Act.put, List.setIfInBounds_toArray, List.set_cons_zero, List.set_cons_succ, i64_w, i32_w]
                        rfl
                      refine pure_ (i := 5) (N := some 20) (v := ?_) (a' := ?_) #[true, true, true, true, false, true, false, false, false, false, false, false, false, false] rfl rfl (any_of HT_.out (by kernel_rfl)) (fun _ _ _ h => h) (Or.inl ⟨by rfl, ?_⟩) ?_ ?_
                      rotate_left
                      · intro w'
                        go_simp
                        with_reducible rfl
                      rotate_left
                      · simp only [Act.put, List.setIfInBounds_toArray, List.set_cons_zero, List.set_cons_succ, i64_w, i32_w]
                        rfl
                      refine pure_ (i := 6) (N := some 21) (v := ?_) (a' := ?_) #[true, true, true, true, false, true, true, false, false, false, false, false, false, false] rfl rfl (any_of HT_.out (by kernel_rfl)) (fun _ _ _ h => h) (Or.inl ⟨by rfl, ?_⟩) ?_ ?_
                      rotate_left
                      · intro w'
                        go_simp
                        with_reducible rfl
                      rotate_left
                      · simp only [Act.put, List.setIfInBounds_toArray, List.set_cons_zero, List.set_cons_succ, i64_w, i32_w]
                        rfl
                      refine pure_ (i := 7) (N := some 22) (v := ?_) (a' := ?_) #[true, true, true, true, false, true, true, true, false, false, false, false, false, false] rfl rfl (any_of HT_.out (by kernel_rfl)) (fun _ _ _ h => h) (Or.inl ⟨by rfl, ?_⟩) ?_ ?_
                      rotate_left
                      · intro w'
                        go_simp
                        with_reducible rfl
                      rotate_left
                      · simp only [Act.put, List.setIfInBounds_toArray, List.set_cons_zero, List.set_cons_succ, i64_w, i32_w]
                        rfl
                      refine pure_ (i := 8) (N := some 23) (v := ?_) (a' := ?_) #[true, true, true, true, false, true, true, true, true, false, false, false, false, false] rfl rfl (any_of HT_.out (by kernel_rfl)) (fun _ _ _ h => h) (Or.inl ⟨by rfl, ?_⟩) ?_ ?_
                      rotate_left
                      · intro w'
                        go_simp
                        with_reducible rfl
                      rotate_left
                      · simp only [Act.put, List.setIfInBounds_toArray, List.set_cons_zero, List.set_cons_succ, i64_w, i32_w]
                        rfl
                      refine pure_ (i := 9) (N := some 24) (v := ?_) (a' := ?_) #[true, true, true, true, false, true, true, true, true, true, false, false, false, false] rfl rfl (any_of HT_.out (by kernel_rfl)) (fun _ _ _ h => h) (Or.inl ⟨by rfl, ?_⟩) ?_ ?_
                      rotate_left
                      · intro w'
                        go_simp
                        with_reducible rfl
                      rotate_left
                      · simp only [Act.put, List.setIfInBounds_toArray, List.set_cons_zero, List.set_cons_succ, i64_w, i32_w]
                        rfl
                      refine take_ (i := 4) (N := some 19) (v := ?_) (a' := ?_) #[true, true, true, true, true, true, true, true, true, true, false, false, false, false] rfl rfl (take_ofW HT_.out HW_.out (by kernel_rfl)) (fun _ _ _ h => h) (Or.inl ⟨by rfl, ?_⟩) hHeld ?_ ?_
                      rotate_left
                      · rintro w' ⟨s0, s1, s2, s3⟩
                        go_simp
                        with_reducible rfl
                      rotate_left
                      · simp only [Act.put, List.setIfInBounds_toArray, List.set_cons_zero, List.set_cons_succ, i64_w, i32_w]
                        rfl
                      refine take_ (i := 10) (N := some 25) (v := ?_) (a' := ?_) #[true, true, true, true, true, true, true, true, true, true, true, false, false, false] rfl rfl (take_ofW HT_.out HW_.out (by kernel_rfl)) (fun _ _ _ h => h) (Or.inl ⟨by rfl, ?_⟩) hHeld ?_ ?_
                      rotate_left
                      · rintro w' ⟨s0, s1, s2, s3⟩
                        go_simp
                        with_reducible rfl
                      rotate_left
                      · simp only [Act.put, List.setIfInBounds_toArray, List.set_cons_zero, List.set_cons_succ, i64_w, i32_w]
                        rfl
                      refine pure_ (i := 11) (N := some 26) (v := ?_) (a' := ?_) #[true, true, true, true, true, true, true, true, true, true, true, true, false, false] rfl rfl (any_of HT_.out (by kernel_rfl)) (fun _ _ _ h => h) (Or.inl ⟨by rfl, ?_⟩) ?_ ?_
                      rotate_left
                      · intro w'
                        go_simp
                        with_reducible rfl
                      rotate_left
                      · simp only [Act.put, List.setIfInBounds_toArray, List.set_cons_zero, List.set_cons_succ, i64_w, i32_w]
                        rfl
                      refine pure_ (i := 12) (N := some 27) (v := ?_) (a' := ?_) #[true, true, true, true, true, true, true, true, true, true, true, true, true, false] rfl rfl (any_of HT_.out (by kernel_rfl)) (fun _ _ _ h => h) (Or.inl ⟨by rfl, ?_⟩) ?_ ?_
                      rotate_left
                      · intro w'
                        go_simp
                        with_reducible rfl
                      rotate_left
                      · simp only [Act.put, List.setIfInBounds_toArray, List.set_cons_zero, List.set_cons_succ, i64_w, i32_w]
                        rfl
                      refine pure_ (i := 13) (N := some 28) (v := ?_) (a' := ?_) #[true, true, true, true, true, true, true, true, true, true, true, true, true, true] rfl rfl (any_of HT_.out (by kernel_rfl)) (fun _ _ _ h => h) (Or.inl ⟨by rfl, ?_⟩) ?_ ?_
                      rotate_left
                      · intro w'
                        go_simp
                        with_reducible rfl
                      rotate_left
                      · simp only [Act.put, List.setIfInBounds_toArray, List.set_cons_zero, List.set_cons_succ, i64_w, i32_w]
                        rfl
                      refine done_ (done_of HT_.out (by kernel_rfl)) ?_
                      have hcz25_0 : w24.cell? ⟨gb604, 0, none⟩ = some (.int .i64 ((rd_T56 l0 x9_1).f0)) := (blk_cell BK604.out 0).trans rfl
                      have hcz25_1 : w24.cell? ⟨gb604, 1, none⟩ = some (.int .i64 ((rd_T56 l0 x9_1).f1)) := (blk_cell BK604.out 1).trans rfl
                      have hfz25_0 := blk_frozen BK604.out 0
                      have hfz25_1 := blk_frozen BK604.out 1
                      try go_wp2_with (first | ((with_reducible refine gate_builtin (b := .append) (xs := #[.tmp 43, .tmp 45]) rfl ?_); at_builtin; refine Kd.R_append k56 (w0 := w) w.heap.size rfl (.tmp 43) (.tmp 45) 40 56 (.agg #[(.int .i64 0), (.int .i64 0)]) 16 rfl Try.underlying40 info56 rfl (by decide) (by omega) (.slice (some ad605) x3_1.length co22) x3_1 (⟨(rd_T56 l0 x9_1).f0, (rd_T56 l0 x9_1).f1⟩ : S56) [.int .i64 ((rd_T56 l0 x9_1).f0), .int .i64 ((rd_T56 l0 x9_1).f1)] (fun k_ => k_ ≠ gb604) (fun _ => False) rfl rfl ?aP (fun _ hk => hk.elim) ?aF ?aO ?aB ?aS ?aL ?_; (case aP => exact k56_mkM _ _ _ (⟨(rd_T56 l0 x9_1).f0, (rd_T56 l0 x9_1).f1⟩ : S56)); (case aB => exact (by repeat (first | (with_reducible first | exact HB.out | apply below_alloc | apply pw_below_drewN | apply below_drew1 | refine below_set ?_ GE604.out) | exact HB.out))); (case aF => exact (fun k_ hk => Kd.freshB (g := gb604) (o := .cells #[.int .i64 ((rd_T56 l0 x9_1).f0), .int .i64 ((rd_T56 l0 x9_1).f1)] 56 (0, 0)) (by (with_reducible repeat (first | refine blk_drewN ?_ _ | refine blk_drew ?_ | refine blk_alloc ?_ _)); exact BK604.out) k_ hk)); (case aO => exact (by (with_reducible repeat (first | apply Kd.R_alloc | apply Kd.R_drewN | apply Kd.R_drew)); exact HO_3.out)); (case aS => exact (below_size (by repeat (first | (with_reducible first | exact HB.out | apply below_alloc | apply pw_below_drewN | apply below_drew1 | refine below_set ?_ GE604.out) | exact HB.out)))); (case aL => have := LMc19.out; omega); intro v609 w26 ho hb hg hat; rw [← Ny608.out] at ho; have n0_ := Aside0.mk (blk_grown (g := gb604) (o := .cells #[.int .i64 ((rd_T56 l0 x9_1).f0), .int .i64 ((rd_T56 l0 x9_1).f1)] 56 (0, 0)) (by (with_reducible repeat (first | refine blk_drewN ?_ _ | refine blk_drew ?_ | refine blk_alloc ?_ _)); exact BK604.out) hg (Kd.R_away HO_3.out (fun _ hk => hk))); have n1_ := Aside0.mk (hb); have n2_ := Aside0.mk (ho); clear BK604; clear HB; clear HO_3; have BK604 := n0_; have HB := n1_; have HO610 := n2_; clear n0_ n1_ n2_; clear ho hb hg hat))
                      go_roundg k1
                      case measure => have := HK1.out; omega
                      case rel => exact ⟨(y608), (wrap64 (x9_1 + 1)), (by first | rfl | (simp; done) | (simp [*]; done)), H', ⟨by have := HK1.out; omega⟩, ⟨by (with_reducible repeat (first | apply Kd.R_alloc | apply Kd.R_drewN | apply Kd.R_drew)); exact Kd.R_mono HO610.out (fun _ hk => trivial)⟩, ⟨by repeat (first | (with_reducible first | exact HB.out | apply below_alloc | apply pw_below_drewN | apply below_drew1 | refine below_set ?_ GE604.out) | exact HB.out)⟩⟩
                    · rw [if_neg c19] at H
                      exact absurd H (by simp)
                · rw [if_neg c8] at H
                  exact absurd H (by simp)
              · rw [if_neg c7] at H
                exact absurd H (by simp)
            · rw [if_neg c5] at H
              have c5b0 : decide (0 < (x3_1.length : Int)) = false := decide_eq_false c5
              have c5b1 : decide (0 < x3_1.length) = false := decide_eq_false (by omega)
              clear c5
              by_cases c27 : x3_1.length < 8796093022208
              · rw [if_pos c27] at H
                have LMc27 := Aside0.mk c27
                clear c27
                obtain ⟨y611, hy611⟩ : ∃ y_ : List (S56), y_ = (x3_1 ++ [(⟨(rd_T56 l0 x9_1).f0, (rd_T56 l0 x9_1).f1⟩ : S56)]) := ⟨_, rfl⟩
                replace H : (intset_merge.l0 k1 y611 l0 (l0.length : Int) (wrap64 (x9_1 + 1))) = some r := by first | (rw [hy611]; with_reducible exact H) | (have H2_ := (Option.bind_some _ _).symm.trans H; rw [hy611]; with_reducible exact H2_) | (have H2_ := (Option.bind_some _ _).symm.trans H; with_reducible exact H2_) | with_reducible exact H | (rw [hy611]; exact H) | exact H
                have Ny611 := Aside0.mk hy611
                clear hy611
                have H' := Aside0.mk H
                clear H
                have p603 : 0 ≤ (x9_1 : Int) := of_decide_eq_true (by first | (with_reducible assumption) | assumption)
                have q603 : x9_1 < (l0.length : Int) := of_decide_eq_true (by first | (with_reducible assumption) | assumption)
                obtain ⟨ad603, e603, hx603_0, hx603_1⟩ := at_T56 HR0.out x9_1 p603 q603
                cases e603
                replace hx603_0 := (HB.out.cell (World.block_lt_of_cell? w _ hx603_0)).trans hx603_0
                replace hx603_1 := (HB.out.cell (World.block_lt_of_cell? w _ hx603_1)).trans hx603_1
                replace p603 := eq_true p603
                replace q603 := eq_true q603
                try go_wp2_with (first | ((with_reducible refine gate_dst (N := 5) rfl ?_); refine box_event ?hg (N := 5) ?hd (cs := #[.int .i64 0, .int .i64 0]) (t := 56) ?hr ?_; (case hd => rfl); (case hg => rfl); (case hr => first | (go_simp; done) | (go_simp; rfl)); intro gb604 hg w28 hbox hb; have n0_ := Aside0.mk (Kd.R_below (Kd.R_elderB (by (with_reducible repeat (first | apply Kd.R_alloc | apply Kd.R_drewN | apply Kd.R_drew)); exact HO_3.out) gb604 (Nat.le_of_eq hg.symm)) hb); have n1_ := Aside0.mk (below_step (by repeat (first | (with_reducible first | exact HB.out | apply below_alloc | apply pw_below_drewN | apply below_drew1) | exact HB.out)) hb); have n2_ := Aside0.mk (hbox); have n3_ := Aside0.mk ((by rw [hg]; exact (below_size (by repeat (first | (with_reducible first | exact HB.out | apply below_alloc | apply pw_below_drewN | apply below_drew1) | exact HB.out))) : w.heap.size ≤ gb604)); have n4_ := Aside0.mk ((by rw [hg]; exact (below_size (by repeat (first | (with_reducible first | exact HB.out | apply below_alloc | apply pw_below_drewN | apply below_drew1) | exact HB.out))) : w.heap.size ≤ gb604)); clear HO_3; clear HB; have HO_3 := n0_; have HB := n1_; have BK604 := n2_; have GW604 := n3_; have GE604 := n4_; clear n0_ n1_ n2_ n3_ n4_; clear hb hbox hg; have hcz29_0 : w28.cell? ⟨gb604, 0, none⟩ = some (.int .i64 0) := (blk_cell BK604.out 0).trans rfl; have hcz29_1 : w28.cell? ⟨gb604, 1, none⟩ = some (.int .i64 0) := (blk_cell BK604.out 1).trans rfl; have hfz29_0 := blk_frozen BK604.out 0; have hfz29_1 := blk_frozen BK604.out 1; obtain ⟨Ao30, co30, eo30⟩ := Kd.R_slice HO_3.out; subst eo30))
                have n0_ : Aside0 (Kd.R k56 56 ((w28.setCell ⟨gb604, 0, none⟩ (.int .i64 ((rd_T56 l0 x9_1).f0))).setCell ⟨gb604, 1, none⟩ (.int .i64 ((rd_T56 l0 x9_1).f1))) w.heap.size (fun k_ => k_ ≠ gb604) (.slice Ao30 x3_1.length co30) x3_1) := ⟨by (with_reducible repeat (first | apply Kd.R_alloc | apply Kd.R_drewN | apply Kd.R_drew)); exact Kd.R_mono (Kd.R_far (p := ⟨gb604, 1, none⟩) (Kd.R_far (p := ⟨gb604, 0, none⟩) (Kd.R_mono HO_3.out (fun k_ hk => (⟨hk, hk.2⟩ : _ ∧ k_ ≠ gb604))) (fun _ hk => hk.2) (.int .i64 ((rd_T56 l0 x9_1).f0))) (fun _ hk => hk.2) (.int .i64 ((rd_T56 l0 x9_1).f1))) (fun _ hk => hk.1.2)⟩
                have n1_ : Aside0 (((w28.setCell ⟨gb604, 0, none⟩ (.int .i64 ((rd_T56 l0 x9_1).f0))).setCell ⟨gb604, 1, none⟩ (.int .i64 ((rd_T56 l0 x9_1).f1))).heap[gb604]? = some (.cells #[.int .i64 ((rd_T56 l0 x9_1).f0), .int .i64 ((rd_T56 l0 x9_1).f1)] 56 (0, 0))) := ⟨by (with_reducible repeat (first | refine blk_drewN ?_ _ | refine blk_drew ?_ | refine blk_alloc ?_ _)); refine blk_put (cs := #[.int .i64 ((rd_T56 l0 x9_1).f0), .int .i64 0]) ?_ 1 _ rfl; (with_reducible repeat (first | refine blk_drewN ?_ _ | refine blk_drew ?_ | refine blk_alloc ?_ _)); refine blk_put (cs := #[.int .i64 0, .int .i64 0]) ?_ 0 _ rfl; (with_reducible repeat (first | refine blk_drewN ?_ _ | refine blk_drew ?_ | refine blk_alloc ?_ _)); exact BK604.out⟩
                have n2_ : Aside0 (Below w.heap.size w ((w28.setCell ⟨gb604, 0, none⟩ (.int .i64 ((rd_T56 l0 x9_1).f0))).setCell ⟨gb604, 1, none⟩ (.int .i64 ((rd_T56 l0 x9_1).f1)))) := ⟨by repeat (first | (with_reducible first | exact HB.out | apply below_alloc | apply pw_below_drewN | apply below_drew1 | refine below_set ?_ GE604.out) | exact HB.out)⟩
                (try clear HO_3)
                (try clear BK604)
                (try clear HB)
                generalize ((w28.setCell ⟨gb604, 0, none⟩ (.int .i64 ((rd_T56 l0 x9_1).f0))).setCell ⟨gb604, 1, none⟩ (.int .i64 ((rd_T56 l0 x9_1).f1))) = w31 at n0_ n1_ n2_ ⊢
                have HO_3 := n0_
                have BK604 := n1_
                have HB := n2_
                clear n0_ n1_ n2_
                have n0_ := Aside0.mk (Kd.R_drew HO_3.out)
                have n1_ := Aside0.mk (blk_drew BK604.out)
                have n2_ := Aside0.mk (below_drew1 HB.out)
                clear HO_3
                clear BK604
                clear HB
                have HO_3 := n0_
                have BK604 := n1_
                have HB := n2_
                clear n0_ n1_ n2_
                refine start_ (n := 14) (S := fun w' => True) (ds := []) #[false, false, false, false, false, false, false, false, false, false, false, false, false, false] (by kernel_rfl) rfl rfl trivial (fun hHeld => ?_); refine with_tabW intset_merge.tab6 intset_merge.bits6 (fun HT_ HW_ => ?_)
                generalize w31.drew = w32 at HO_3 BK604 HB hHeld ⊢
                refine pure_ (i := 0) (N := some 15) (v := ?_) (a' := ?_) #[true, false, false, false, false, false, false, false, false, false, false, false, false, false] rfl rfl (any_of HT_.out (by kernel_rfl)) (fun _ _ _ h => h) (Or.inl ⟨by rfl, ?_⟩) ?_ ?_
                rotate_left
                · intro w'
                  go_simp
                  with_reducible rfl
                rotate_left
                · simp only [Act.put, List.setIfInBounds_toArray, List.set_cons_zero, List.set_cons_succ, i64_w, i32_w]
                  rfl
                refine pure_ (i := 1) (N := some 16) (v := ?_) (a' := ?_) #[true, true, false, false, false, false, false, false, false, false, false, false, false, false] rfl rfl (any_of HT_.out (by kernel_rfl)) (fun _ _ _ h => h) (Or.inl ⟨by rfl, ?_⟩) ?_ ?_
                rotate_left
                · intro w'
                  go_simp
                  with_reducible rfl
                rotate_left
                · simp only [Act.put, List.setIfInBounds_toArray, List.set_cons_zero, List.set_cons_succ, i64_w, i32_w]
                  rfl
                refine pure_ (i := 2) (N := some 17) (v := ?_) (a' := ?_) #[true, true, true, false, false, false, false, false, false, false, false, false, false, false] rfl rfl (any_of HT_.out (by kernel_rfl)) (fun _ _ _ h => h) (Or.inl ⟨by rfl, ?_⟩) ?_ ?_
                rotate_left
                · intro w'
                  go_simp
                  with_reducible rfl
                rotate_left
                · simp only [Act.put, List.setIfInBounds_toArray, List.set_cons_zero, List.set_cons_succ, i64_w, i32_w]
                  rfl
                refine pure_ (i := 3) (N := some 18) (v := undef) (a' := ?_) #[true, true, true, true, false, false, false, false, false, false, false, false, false, false] rfl rfl (any_of HT_.out (by kernel_rfl)) (fun _ _ _ h => h) (Or.inr ⟨by rfl, rfl⟩) ?_ ?_
                rotate_left
                · simp only [Act.put, List.setIfInBounds_toArray, List.set_cons_zero, List.set_cons_succ, i64_w, i32_w]
                  rfl
                refine pure_ (i := 4) (N := some 19) (v := undef) (a' := ?_) #[true, true, true, true, true, false, false, false, false, false, false, false, false, false] rfl rfl (any_of HT_.out (by kernel_rfl)) (fun _ _ _ h => h) (Or.inr ⟨by rfl, rfl⟩) ?_ ?_
                rotate_left
                · simp only [Act.put, List.setIfInBounds_toArray, List.set_cons_zero, List.set_cons_succ, i64_w, i32_w]
                  rfl
                refine pure_ (i := 5) (N := some 20) (v := undef) (a' := ?_) #[true, true, true, true, true, true, false, false, false, false, false, false, false, false] rfl rfl (any_of HT_.out (by kernel_rfl)) (fun _ _ _ h => h) (Or.inr ⟨by rfl, rfl⟩) ?_ ?_
                rotate_left
                · simp only [Act.put, List.setIfInBounds_toArray, List.set_cons_zero, List.set_cons_succ, i64_w, i32_w]
                  rfl
                refine pure_ (i := 6) (N := some 21) (v := undef) (a' := ?_) #[true, true, true, true, true, true, true, false, false, false, false, false, false, false] rfl rfl (any_of HT_.out (by kernel_rfl)) (fun _ _ _ h => h) (Or.inr ⟨by rfl, rfl⟩) ?_ ?_
                rotate_left
                · simp only [Act.put, List.setIfInBounds_toArray, List.set_cons_zero, List.set_cons_succ, i64_w, i32_w]
                  rfl
                refine pure_ (i := 7) (N := some 22) (v := undef) (a' := ?_) #[true, true, true, true, true, true, true, true, false, false, false, false, false, false] rfl rfl (any_of HT_.out (by kernel_rfl)) (fun _ _ _ h => h) (Or.inr ⟨by rfl, rfl⟩) ?_ ?_
                rotate_left
                · simp only [Act.put, List.setIfInBounds_toArray, List.set_cons_zero, List.set_cons_succ, i64_w, i32_w]
                  rfl
                refine pure_ (i := 8) (N := some 23) (v := undef) (a' := ?_) #[true, true, true, true, true, true, true, true, true, false, false, false, false, false] rfl rfl (any_of HT_.out (by kernel_rfl)) (fun _ _ _ h => h) (Or.inr ⟨by rfl, rfl⟩) ?_ ?_
                rotate_left
                · simp only [Act.put, List.setIfInBounds_toArray, List.set_cons_zero, List.set_cons_succ, i64_w, i32_w]
                  rfl
                refine pure_ (i := 9) (N := some 24) (v := undef) (a' := ?_) #[true, true, true, true, true, true, true, true, true, true, false, false, false, false] rfl rfl (any_of HT_.out (by kernel_rfl)) (fun _ _ _ h => h) (Or.inr ⟨by rfl, rfl⟩) ?_ ?_
                rotate_left
                · simp only [Act.put, List.setIfInBounds_toArray, List.set_cons_zero, List.set_cons_succ, i64_w, i32_w]
                  rfl
                refine pure_ (i := 10) (N := some 25) (v := undef) (a' := ?_) #[true, true, true, true, true, true, true, true, true, true, true, false, false, false] rfl rfl (any_of HT_.out (by kernel_rfl)) (fun _ _ _ h => h) (Or.inr ⟨by rfl, rfl⟩) ?_ ?_
                rotate_left
                · simp only [Act.put, List.setIfInBounds_toArray, List.set_cons_zero, List.set_cons_succ, i64_w, i32_w]
                  rfl
                refine pure_ (i := 11) (N := some 26) (v := undef) (a' := ?_) #[true, true, true, true, true, true, true, true, true, true, true, true, false, false] rfl rfl (any_of HT_.out (by kernel_rfl)) (fun _ _ _ h => h) (Or.inr ⟨by rfl, rfl⟩) ?_ ?_
                rotate_left
                · simp only [Act.put, List.setIfInBounds_toArray, List.set_cons_zero, List.set_cons_succ, i64_w, i32_w]
                  rfl
                refine pure_ (i := 12) (N := some 27) (v := undef) (a' := ?_) #[true, true, true, true, true, true, true, true, true, true, true, true, true, false] rfl rfl (any_of HT_.out (by kernel_rfl)) (fun _ _ _ h => h) (Or.inr ⟨by rfl, rfl⟩) ?_ ?_
                rotate_left
                · simp only [Act.put, List.setIfInBounds_toArray, List.set_cons_zero, List.set_cons_succ, i64_w, i32_w]
                  rfl
                refine pure_ (i := 13) (N := some 28) (v := ?_) (a' := ?_) #[true, true, true, true, true, true, true, true, true, true, true, true, true, true] rfl rfl (any_of HT_.out (by kernel_rfl)) (fun _ _ _ h => h) (Or.inl ⟨by rfl, ?_⟩) ?_ ?_
                rotate_left
                · intro w'
                  go_simp
                  with_reducible rfl
                rotate_left
                · simp only [Act.put, List.setIfInBounds_toArray, List.set_cons_zero, List.set_cons_succ, i64_w, i32_w]
                  rfl
                refine done_ (done_of HT_.out (by kernel_rfl)) ?_
                have hcz33_0 : w32.cell? ⟨gb604, 0, none⟩ = some (.int .i64 ((rd_T56 l0 x9_1).f0)) := (blk_cell BK604.out 0).trans rfl
                have hcz33_1 : w32.cell? ⟨gb604, 1, none⟩ = some (.int .i64 ((rd_T56 l0 x9_1).f1)) := (blk_cell BK604.out 1).trans rfl
                have hfz33_0 := blk_frozen BK604.out 0
                have hfz33_1 := blk_frozen BK604.out 1
                try go_wp2_with (first | ((with_reducible refine gate_builtin (b := .append) (xs := #[.tmp 43, .tmp 45]) rfl ?_); at_builtin; refine Kd.R_append k56 (w0 := w) w.heap.size rfl (.tmp 43) (.tmp 45) 40 56 (.agg #[(.int .i64 0), (.int .i64 0)]) 16 rfl Try.underlying40 info56 rfl (by decide) (by omega) (.slice Ao30 x3_1.length co30) x3_1 (⟨(rd_T56 l0 x9_1).f0, (rd_T56 l0 x9_1).f1⟩ : S56) [.int .i64 ((rd_T56 l0 x9_1).f0), .int .i64 ((rd_T56 l0 x9_1).f1)] (fun k_ => k_ ≠ gb604) (fun _ => False) rfl rfl ?aP (fun _ hk => hk.elim) ?aF ?aO ?aB ?aS ?aL ?_; (case aP => exact k56_mkM _ _ _ (⟨(rd_T56 l0 x9_1).f0, (rd_T56 l0 x9_1).f1⟩ : S56)); (case aB => exact (by repeat (first | (with_reducible first | exact HB.out | apply below_alloc | apply pw_below_drewN | apply below_drew1 | refine below_set ?_ GE604.out) | exact HB.out))); (case aF => exact (fun k_ hk => Kd.freshB (g := gb604) (o := .cells #[.int .i64 ((rd_T56 l0 x9_1).f0), .int .i64 ((rd_T56 l0 x9_1).f1)] 56 (0, 0)) (by (with_reducible repeat (first | refine blk_drewN ?_ _ | refine blk_drew ?_ | refine blk_alloc ?_ _)); exact BK604.out) k_ hk)); (case aO => exact (by (with_reducible repeat (first | apply Kd.R_alloc | apply Kd.R_drewN | apply Kd.R_drew)); exact HO_3.out)); (case aS => exact (below_size (by repeat (first | (with_reducible first | exact HB.out | apply below_alloc | apply pw_below_drewN | apply below_drew1 | refine below_set ?_ GE604.out) | exact HB.out)))); (case aL => have := LMc27.out; omega); intro v612 w34 ho hb hg hat; rw [← Ny611.out] at ho; have n0_ := Aside0.mk (blk_grown (g := gb604) (o := .cells #[.int .i64 ((rd_T56 l0 x9_1).f0), .int .i64 ((rd_T56 l0 x9_1).f1)] 56 (0, 0)) (by (with_reducible repeat (first | refine blk_drewN ?_ _ | refine blk_drew ?_ | refine blk_alloc ?_ _)); exact BK604.out) hg (Kd.R_away HO_3.out (fun _ hk => hk))); have n1_ := Aside0.mk (hb); have n2_ := Aside0.mk (ho); clear BK604; clear HB; clear HO_3; have BK604 := n0_; have HB := n1_; have HO613 := n2_; clear n0_ n1_ n2_; clear ho hb hg hat))
                go_roundg k1
                case measure => have := HK1.out; omega
                case rel => exact ⟨(y611), (wrap64 (x9_1 + 1)), (by first | rfl | (simp; done) | (simp [*]; done)), H', ⟨by have := HK1.out; omega⟩, ⟨by (with_reducible repeat (first | apply Kd.R_alloc | apply Kd.R_drewN | apply Kd.R_drew)); exact Kd.R_mono HO613.out (fun _ hk => trivial)⟩, ⟨by repeat (first | (with_reducible first | exact HB.out | apply below_alloc | apply pw_below_drewN | apply below_drew1 | refine below_set ?_ GE604.out) | exact HB.out)⟩⟩
              · rw [if_neg c27] at H
                exact absurd H (by simp)
          · rw [if_neg c4] at H
            exact absurd H (by simp)
        · rw [if_neg c3] at H
          exact absurd H (by simp)
      · rw [if_neg c2] at H
        have c2b0 : decide (x9_1 < (l0.length : Int)) = false := decide_eq_false c2
        clear c2
        obtain rfl := Option.some.inj H
        go_wp2
        go_ret
        exact ⟨_, by first | rfl | (simp [errW_none, errW_some] <;> rfl) | (simp [*, errW_none, errW_some] <;> rfl), by (with_reducible repeat (first | apply Kd.R_alloc | apply Kd.R_drewN | apply Kd.R_drew)); exact HO_3.out, by repeat (first | (with_reducible first | exact HB.out | apply below_alloc | apply pw_below_drewN | apply below_drew1) | exact HB.out)⟩
end Go.Proofs.Ytbahibaohehojaa.Q
-- YtbahibaohehojaaQHMake
namespace Go.Proofs.Ytbahibaohehojaa.Q
open Go.RowKit Go.Proofs.YtbahibaohehojaaW.PrintWords Go.Proofs.YtbahibaohehojaaW.PrintLast Go.Proofs.YtbahibaohehojaaW.PrintMore
attribute [local go_sem] max2_int min2_int max_two min_two max_three min_three max_four min_four
set_option linter.unusedVariables false
set_option linter.unusedSimpArgs false
open Go.Sort
def fineS (x : S56) : Bool := decide (0 ≤ x.f0) && (decide (x.f0 ≤ x.f1) && decide (x.f1 ≤ 2147483647))
theorem fine_f (x : S56) : intset_fine.f x.f0 x.f1 = some (fineS x) := by
  unfold intset_fine.f fineS
  by_cases h0 : 0 ≤ x.f0
  · by_cases h1 : x.f0 ≤ x.f1 <;> simp [h0, h1]
  · simp [h0]
abbrev FS := {x : S56 // fineS x = true}
instance : Inhabited FS := ⟨⟨⟨0, 0⟩, rfl⟩⟩
def loDiff (x y : FS) : Int := x.1.f0 - y.1.f0
theorem ltLo (x y : FS) : ltOf loDiff x y = decide (x.1.f0 < y.1.f0) := by
  unfold ltOf loDiff
  rw [decide_eq_decide]
  omega
theorem loSWO : SWO (ltOf loDiff) where
  irrefl x := by rw [ltLo]; simp
  trans x y z h1 h2 := by rw [ltLo] at *; simp at *; omega
  ntrans x y z h1 h2 := by rw [ltLo] at *; simp at *; omega
theorem all_fine {l : List S56} (h : l.all fineS = true) : ∀ x ∈ l, fineS x = true := List.all_eq_true.1 h
def sortSpans (l : List FS) : List S56 := (sortedBy (ltOf loDiff) l).map Subtype.val
def intset_Make.f (k : Nat) (l0 : List S56) : Option (List S56 × Int) :=
  if h : l0.all fineS = true then (api_Span.f l0).bind fun _ => (intset_merge.f k (sortSpans (l0.pmap Subtype.mk (all_fine h)))).bind fun out => if 64 < out.length then some ([], 3) else some (out, 0)
  else some ([], 2)
theorem sortSpans_nil : sortSpans [] = [] := by
  have h := (sortedBy_perm (ltOf loDiff) loSWO []).eq_nil
  unfold sortSpans
  rw [h]
  rfl
def encSpan (x : S56) : List Value := [.int .i64 x.f0, .int .i64 x.f1]
theorem constSpan : ConstCells k56 encSpan where
  open_ h := k56_openM h
  mk_ w base ok x := k56_mkM w base ok x
  len _ := rfl
  pos := by decide
set_option maxHeartbeats 1000000 in
theorem make1 (x y : FS) (W : World) : Calls Try.prog 87 #[.agg #[.int .i64 x.1.f0, .int .i64 x.1.f1], .agg #[.int .i64 y.1.f0, .int .i64 y.1.f1]] W fun e w' => e = .returned (.int .i64 (loDiff x y)) ∧ ∃ q os', w' = grow (W.drewN q) os' := by
  obtain ⟨⟨x0, x1⟩, hx⟩ := x
  obtain ⟨⟨y0, y1⟩, hy⟩ := y
  simp only [fineS, Bool.and_eq_true, decide_eq_true_eq] at hx hy
  obtain ⟨ha, hb, hc⟩ := hx
  obtain ⟨hd, he, hf⟩ := hy
  have hu1 := Try.underlying56
  show Calls _ _ #[.agg #[.int .i64 x0, .int .i64 x1], .agg #[.int .i64 y0, .int .i64 y1]] W fun e w' => e = .returned (.int .i64 (x0 - y0)) ∧ _
  go_enter Try.func87, Try.ntmps87
  go_wp2
  go_ret
  exact ⟨rfl, 0, _, by rw [alloc_eq_grow, alloc_eq_grow, grow_grow]; rfl⟩
theorem cmpMake (blk off size : Nat) (w : World) : CmpLays Try.prog 87 #[] (fun x : FS => encSpan x.1) 2 loDiff blk off size w := fun _ _ _ _ x y => make1 x y _
theorem sortCall {e base : Nat} {ok : Nat → Prop} {W w0 : World} {v : Value} {l : List S56} (hf : l.all fineS = true) (h : Kd.R k56 e W base ok v l) (hl : l.length < 8796093022208) (hB : Below base w0 W) :
    Calls Try.prog 86 #[v, .func (.func 87) #[] #[]] W fun e' w' => e' = .returned (.tuple #[]) ∧ Kd.R k56 e w' base ok v (sortSpans (l.pmap Subtype.mk (all_fine hf))) ∧ Below base w0 w' ∧ W.heap.size ≤ w'.heap.size := by
  rcases Nat.eq_zero_or_pos l.length with h0 | hp
  · obtain rfl : l = [] := List.eq_nil_of_length_eq_zero h0
    obtain ⟨A, c, rfl⟩ := Kd.R_slice h
    refine (AnyF.slices_SortFunc_none (P := Try.prog) Try.sortSpan A c _ W).mono ?_
    rintro e' w' ⟨rfl, rfl⟩
    exact ⟨rfl, by rw [List.pmap_nil, sortSpans_nil]; exact h, hB, Nat.le_refl _⟩
  · obtain ⟨g, cap, rfl, hb, hlt, _⟩ := Kd.R_form h hp
    have eg : ∀ args w, (callFunc 87 args).run Try.prog w = .ok (.enter 87 args) w := enters_of Try.func87 (by kernel_rfl) rfl
    have hx : (l.pmap Subtype.mk (all_fine hf)).toArray.toList.map Subtype.val = l := by
      rw [List.toList_toArray, List.map_pmap]
      simp
    have hH := holdsK_of_R (val := fun x : FS => x.1) constSpan h (l.pmap Subtype.mk (all_fine hf)).toArray hx
    have hs : (l.pmap Subtype.mk (all_fine hf)).toArray.size = l.length := by simp
    have hcon := AnyQ.slices_SortFunc_eq Try.sortSpan 2 Try.isAgg56 Try.sizeOf56 (fun x : FS => encSpan x.1) (fun _ => rfl) (fun x v hv => by simp [encSpan] at hv; rcases hv with rfl | rfl <;> rfl) loDiff loSWO 87 #[] g 0 cap (l.pmap Subtype.mk (all_fine hf)).toArray W eg (cmpMake g 0 _ W) hH hlt (by rw [hs]; omega)
    rw [hs] at hcon
    change Calls Try.prog 86 _ _ _ at hcon
    refine hcon.mono ?_
    rintro e' w' ⟨rfl, n, os, rfl⟩
    have hR := R_sorted (val := fun x : FS => x.1) constSpan h (pdq (ltOf loDiff) (l.pmap Subtype.mk (all_fine hf)).toArray 0 l.length (Lib.bitLen l.length) true true) (by rw [(pdq_sorts (ltOf loDiff) loSWO _ 0 _ _ true true (Nat.zero_le _) (by rw [hs]; exact Nat.le_refl _) (Or.inl rfl)).1.1, hs]) n os
    refine ⟨rfl, ?_, ?_, size_sortWorldK_c _ _ _ _ _ _ _ _⟩
    · have e1 : sortSpans (l.pmap Subtype.mk (all_fine hf)) = (pdq (ltOf loDiff) (l.pmap Subtype.mk (all_fine hf)).toArray 0 l.length (Lib.bitLen l.length) true true).toList.map fun x : FS => x.1 := by
        unfold sortSpans sortedBy
        rw [List.length_pmap]
      rw [e1]
      exact hR
    · exact hB.grown (grownBy_sortWorldK _ _ _ _ _ _ _) (by have := hB.size; omega) (fun k hk => by injection hk with hk; omega)
theorem all_at {l : List S56} (h : ∀ j, j < l.length → fineS (l.getD j z56) = true) : l.all fineS = true := by
  rw [List.all_eq_true]
  intro x hx
  obtain ⟨j, hj, rfl⟩ := List.mem_iff_getElem.1 hx
  have := h j hj
  rwa [List.getD_eq_getElem?_getD, List.getElem?_eq_getElem hj, Option.getD_some] at this
set_option maxHeartbeats 4000000 in
theorem intset_Make.calls (k : Nat) (A0 : Option Addr) (c0 : Nat) (l0 : List (S56)) (r1 : List (S56)) (r2 : Int) (w : World) (hr0 : Kd.C k56 w A0 l0.length l0) (hc0 : l0.length ≤ c0) (h : intset_Make.f k l0 = some (r1, r2)) :
    Calls Try.prog 27 #[.slice A0 l0.length c0] w fun e w' => ∃ v0_ : Value, e = .returned (.tuple #[.agg #[v0_], .int .i64 r2]) ∧ Kd.R k56 56 w' w.heap.size (fun _ => True) v0_ r1 ∧ Below w.heap.size w w' := by
  have hm : l0.length ≤ 9223372036854775807 := hr0.2.1
  have HR := Aside0.mk hr0
  have HC := Aside0.mk hc0
  have H := Aside0.mk h
  clear hr0 hc0 h
  have hu1 := Try.underlying56
  have hu2 := Try.underlying42
  go_enter Try.func27, Try.ntmps27
  go_wp2
  go_loopg [10] l0.length (fun gg s10 wr => ∃ kk : Nat, kk ≤ l0.length ∧ l0.length - kk ≤ gg ∧ s10 = .int .i64 kk ∧ Aside0 (Below w.heap.size w wr) ∧ Aside0 (wr.heap[w.heap.size]? = some (.cells #[.slice none 0 0] 42 (0, 0))) ∧ Aside0 (∀ j, j < kk → fineS (l0.getD j z56) = true))
  case atStart => exact ⟨0, Nat.zero_le _, by omega, rfl, ⟨below_alloc (Below.refl _ w) _⟩, ⟨heap_alloc_new w _⟩, ⟨fun j hj => absurd hj (Nat.not_lt_zero _)⟩⟩
  case round =>
    obtain ⟨kk, hkk, hg, rfl, BW, BK, A'⟩ := hrel
    by_cases hlt : kk < l0.length
    · have hltz : (kk : Int) < (l0.length : Int) := by omega
      obtain ⟨ad, ea, h0, h1⟩ := at_T56 HR.out (kk : Int) (by omega) hltz
      cases ea
      replace h0 := (BW.out.cell (World.block_lt_of_cell? w _ h0)).trans h0
      replace h1 := (BW.out.cell (World.block_lt_of_cell? w _ h1)).trans h1
      simp only [Int.toNat_natCast] at h0 h1
      have hy0 : rd_T56 l0 (kk : Int) = l0.getD kk z56 := by unfold rd_T56; rw [Int.toNat_natCast]
      generalize hy : rd_T56 l0 (kk : Int) = y at h0 h1 hy0
      clear hy
      have B := Aside0.mk hy0
      clear hy0
      go_wp2_with fail
      refine (intset_fine.calls y.f0 y.f1 (fineS y) _ (fine_f y)).mono ?_
      rintro e w2 ⟨rfl, hb⟩
      have hb2 : Below w.heap.size w w2 := below_then (below_alloc BW.out _) (by have := BW.out.size; simp; omega) hb
      have BK2 := Aside0.mk ((hb.block w.heap.size (by have := blk_lt BK.out; simp; omega)).trans ((heap_alloc_old wr _ (blk_lt BK.out)).trans BK.out))
      have hc0 := blk_cell BK2.out 0
      have hz0 := blk_frozen BK2.out 0
      have hbad : fineS y = false → r1 = [] ∧ r2 = 2 := fun hq => by
        have hna : ¬ l0.all fineS = true := fun ha => by
          have hmem : l0.getD kk z56 ∈ l0 := by
            rw [List.getD_eq_getElem?_getD, List.getElem?_eq_getElem hlt]
            exact List.getElem_mem hlt
          have := List.all_eq_true.1 ha _ hmem
          rw [← B.out, hq] at this
          cases this
        have h1 := H.out
        unfold intset_Make.f at h1
        rw [dif_neg hna] at h1
        injection h1 with h1
        injection h1 with h1 h2
        exact ⟨h1.symm, h2.symm⟩
      cases hq : fineS y with
      | false =>
        obtain ⟨rfl, rfl⟩ := hbad hq
        go_wp2
        refine bodyPost_ret (results_ct rfl _ _ w.heap.size 42 #[.slice none 0 0] (0, 0) _ rfl (blk_put BK2.out 0 _ rfl) Try.underlying42 rfl (by kernel_rfl)) rfl ?_
        exact ⟨_, rfl, Kd.R_nil _ _ _ _ _, below_set hb2 (Nat.le_refl _)⟩
      | true =>
        clear hbad hc0 hz0
        go_wp2
        go_roundg (l0.length - (kk + 1))
        case measure => omega
        case rel =>
          refine ⟨kk + 1, by omega, by omega, by go_num, ⟨hb2⟩, BK2, ⟨fun j hj => ?_⟩⟩
          by_cases e : j = kk
          · subst e
            rw [← B.out]; exact hq
          · exact A'.out j (by omega)
    · have hltz : ¬ (kk : Int) < (l0.length : Int) := by omega
      have hkl : kk = l0.length := by omega
      have hall : l0.all fineS = true := all_at (fun j hj => A'.out j (by omega))
      have h1 := H.out
      unfold intset_Make.f at h1
      rw [dif_pos hall] at h1
      replace h1 := Option.bind_eq_some_iff.1 h1
      obtain ⟨s, hs, h1⟩ := h1
      replace h1 := Option.bind_eq_some_iff.1 h1
      obtain ⟨out, ho, h1⟩ := h1
      have hlim : l0.length < 8796093022208 := by
        unfold api_Span.f at hs
        by_cases hl : l0.length < 8796093022208
        · exact hl
        · rw [if_neg hl] at hs
          cases hs
      have hcl : api_Span.f l0 = some l0 := by unfold api_Span.f; rw [if_pos hlim]
      have HO := Aside0.mk ho
      have HE := Aside0.mk h1
      have HA := Aside0.mk hall
      have HL := Aside0.mk hlim
      have HCL := Aside0.mk hcl
      clear hkl hs ho h1 hlim hcl H A'
      go_wp2_with fail
      refine (api_Span.calls A0 c0 l0 l0 _ (Kd.C_below HR.out BW.out) HC.out HCL.out).mono ?_
      rintro e w2 ⟨v0, rfl, hR2, hb⟩
      have HR2 := Aside0.mk hR2
      have HB2 := Aside0.mk hb
      clear hR2 hb
      go_wp2_with fail
      refine (sortCall HA.out HR2.out HL.out HB2.out).mono ?_
      rintro e w3 ⟨rfl, hR3, hb3, hsz3⟩
      obtain ⟨A1, c1, rfl, hc1, hC1⟩ := Kd.R_reads hR3
      have HC1 := Aside0.mk hc1
      have HCC := Aside0.mk hC1
      have HB3 := Aside0.mk (below_then BW.out BW.out.size hb3)
      have BK3 := Aside0.mk ((hb3.block w.heap.size (blk_lt BK.out)).trans BK.out)
      clear hR3 hb3 HR2 HB2 hc1 hC1 hsz3
      go_wp2_with fail
      refine (intset_merge.calls k A1 c1 _ out _ HCC.out HC1.out HO.out).mono ?_
      rintro e w4 ⟨v1, rfl, hR4, hb4⟩
      obtain ⟨A2, c2, rfl⟩ := Kd.R_slice hR4
      have hb5 : Below w.heap.size w w4 := below_then HB3.out HB3.out.size hb4
      have BK4 := Aside0.mk (blk_below BK3.out hb4)
      have hR5 := Kd.R_lower hR4 HB3.out.size
      have HR5 := Aside0.mk hR5
      have hc0 := blk_cell BK4.out 0
      have hz0 := blk_frozen BK4.out 0
      clear hR4 hR5 hb4
      by_cases h64 : 64 < out.length
      · have h2 := HE.out
        rw [if_pos h64] at h2
        injection h2 with h2
        injection h2 with h2 h3
        subst h2 h3
        have hd : decide ((64 : Int) < (out.length : Int)) = true := decide_eq_true (by omega)
        go_wp2
        refine bodyPost_ret (results_ct rfl _ _ w.heap.size 42 #[.slice none 0 0] (0, 0) _ rfl (blk_put BK4.out 0 _ rfl) Try.underlying42 rfl (by kernel_rfl)) rfl ?_
        exact ⟨_, rfl, Kd.R_nil _ _ _ _ _, below_set hb5 (Nat.le_refl _)⟩
      · have h2 := HE.out
        rw [if_neg h64] at h2
        injection h2 with h2
        injection h2 with h2 h3
        subst h2 h3
        have hd : decide ((64 : Int) < (out.length : Int)) = false := decide_eq_false (by omega)
        go_wp2
        refine bodyPost_ret (results_ct rfl _ _ w.heap.size 42 #[.slice A2 out.length c2] (0, 0) _ rfl (blk_put BK4.out 0 _ rfl) Try.underlying42 rfl (by kernel_rfl)) rfl ?_
        exact ⟨_, rfl, Kd.R_set HR5.out BK4.out (by decide) _ _, below_set hb5 (Nat.le_refl _)⟩
end Go.Proofs.Ytbahibaohehojaa.Q
-- YtbahibaohehojaaQf30
namespace Go.Proofs.Ytbahibaohehojaa.Q
open Go.RowKit Go.Proofs.YtbahibaohehojaaW.PrintWords Go.Proofs.YtbahibaohehojaaW.PrintLast Go.Proofs.YtbahibaohehojaaW.PrintMore
attribute [local go_sem] max2_int min2_int max_two min_two max_three min_three max_four min_four
set_option linter.unusedVariables false
set_option linter.unusedSimpArgs false
def intset_Valid.l0 : Nat → List (S56) → Int → Int → List (S56) → Option (Bool)
  | 0, _, _, _, _ => none
  | k + 1, x6, x7, x8, x144000 => if x8 < x7 then (if 0 ≤ x8 then (if x8 < (x6.length : Int) then ((intset_fine.f ((rd_T56 x6 x8).f0) ((rd_T56 x6 x8).f1)).bind fun t146 => (if t146 = true then (if x8 > 0 then (if 0 ≤ (wrap64 (x8 - 1)) then (if (wrap64 (x8 - 1)) < (x144000.length : Int) then (if ((rd_T56 x6 x8).f0) ≤ (wrap64 (((rd_T56 x144000 (wrap64 (x8 - 1))).f1) + 1)) then (some false) else (intset_Valid.l0 k x6 x7 (wrap64 (x8 + 1)) x144000)) else (none)) else (none)) else (intset_Valid.l0 k x6 x7 (wrap64 (x8 + 1)) x144000)) else (some false))) else (none)) else (none)) else (some (decide ((x144000.length : Int) ≤ 64)))
def intset_Valid.f (k : Nat) (l0_0 : List (S56)) : Option (Bool) := intset_Valid.l0 k l0_0 (l0_0.length : Int) 0 l0_0
def intset_Valid.T4 : Bool × List (List Nat × List Nat) := (true, [([], []), ([0], [0]), ([1], [1]), ([2, 1], [2]), ([3], [3]), ([4, 3], [3, 4]), ([5, 3, 3], [3, 5]), ([6], [6]), ([7, 6], [6, 7]), ([6], [6]), ([9, 6], [6, 9]), ([6], [6]), ([11, 6], [6, 11]), ([10, 12, 6], [6, 10, 12]), ([13, 6], [6, 13]), ([14, 6], [6, 14]), ([15, 6], [6, 15]), ([8, 16, 6], [6, 8, 16]), ([6, 17, 3], [3, 6, 17]), ([3, 18], [3, 18])])
def intset_Valid.B4 : List Nat := [0, 1, 3, 7, 15, 31, 63, 127, 255, 127, 639, 127, 2175, 7807, 15999, 32383, 65151, 131071, 262143, 524287]
theorem intset_Valid.tab4 : rtab .any (opsOf Try.f30 4) = intset_Valid.T4 := by kernel_rfl
theorem intset_Valid.bits4 : waitsOk intset_Valid.T4.2 intset_Valid.B4 = true := by kernel_rfl
set_option maxHeartbeats 8000000 in
set_option maxRecDepth 100000 in
theorem intset_Valid.calls (k : Nat) (A0_0 : Option Addr) (c0_0 : Nat) (l0_0 : List (S56)) (r : Bool) (w : World) (hr0_0 : Kd.C k56 w A0_0 l0_0.length l0_0) (hc0_0 : l0_0.length ≤ c0_0) (h : intset_Valid.f k l0_0 = some r) :
    Calls Try.prog 30 #[.agg #[.slice A0_0 l0_0.length c0_0]] w fun e w' => e = .returned (.bool r) ∧ Below w.heap.size w w' := by
  have hu42 := Try.underlying42
  have hu56 := Try.underlying56
  have HR0_0 := Aside0.mk hr0_0
  have HC0_0 := Aside0.mk hc0_0
  clear hr0_0 hc0_0
  have HB := Aside0.mk (Below.refl w.heap.size w)
  have H : (intset_Valid.l0 k l0_0 (l0_0.length : Int) 0 l0_0) = some r := h
  clear h
  have H' := Aside0.mk H
  clear H
  go_enter Try.func30, Try.ntmps30
  go_wp2_with (first | ((with_reducible refine gate_dst (N := 1) rfl ?_); refine box_event ?hg (N := 1) ?hd (cs := #[.slice A0_0 l0_0.length c0_0]) (t := 42) ?hr ?_; (case hd => rfl); (case hg => rfl); (case hr => first | (go_simp; done) | (go_simp; rfl)); intro gb143 hg w2 hbox hb; have n0_ := Aside0.mk (below_step (by repeat (first | (with_reducible first | exact HB.out | apply below_alloc | apply pw_below_drewN | apply below_drew1) | exact HB.out)) hb); have n1_ := Aside0.mk (hbox); have n2_ := Aside0.mk ((by rw [hg]; exact (below_size (by repeat (first | (with_reducible first | exact HB.out | apply below_alloc | apply pw_below_drewN | apply below_drew1) | exact HB.out))) : w.heap.size ≤ gb143)); have n3_ := Aside0.mk ((by rw [hg]; exact (below_size (by repeat (first | (with_reducible first | exact HB.out | apply below_alloc | apply pw_below_drewN | apply below_drew1) | exact HB.out))) : w.heap.size ≤ gb143)); clear HB; have HB := n0_; have BK143 := n1_; have GW143 := n2_; have GE143 := n3_; clear n0_ n1_ n2_ n3_; clear hb hbox hg; have hcz3_0 : w2.cell? ⟨gb143, 0, none⟩ = some (.slice A0_0 l0_0.length c0_0) := (blk_cell BK143.out 0).trans rfl; have hfz3_0 := blk_frozen BK143.out 0))
  go_loopg [8] k (fun kq v8 w' => ∃ (x8_1 : Int), v8 = .int .i64 x8_1 ∧ Aside0 (intset_Valid.l0 kq l0_0 (l0_0.length : Int) x8_1 l0_0 = some r) ∧ Aside0 (kq ≤ k) ∧ Aside0 (w'.heap[gb143]? = some (.cells #[(.slice A0_0 l0_0.length c0_0)] 42 (0, 0))) ∧ Aside0 (Below w.heap.size w w'))
  case atStart => exact ⟨(0), (by first | rfl | (simp; done) | (simp [*]; done)), H', ⟨Nat.le_refl _⟩, ⟨by (with_reducible repeat (first | refine blk_drewN ?_ _ | refine blk_drew ?_ | refine blk_alloc ?_ _)); exact BK143.out⟩, ⟨by repeat (first | (with_reducible first | exact HB.out | apply below_alloc | apply pw_below_drewN | apply below_drew1 | refine below_set ?_ GE143.out) | exact HB.out)⟩⟩
  case round =>
    clear H'
    try clear p2
    try clear c3
    try clear hcz3_0
    try clear hfz3_0
    obtain ⟨x8_1, rfl, HA, HK1, BK143, HB⟩ := hrel
    cases gk with
    | zero => exact absurd HA.out (by simp [intset_Valid.l0])
    | succ k1 =>
      have H := HA.out
      clear HA
      simp only [intset_Valid.l0] at H
      by_cases c4 : x8_1 < (l0_0.length : Int)
      · rw [if_pos c4] at H
        have c4b0 : decide (x8_1 < (l0_0.length : Int)) = true := decide_eq_true c4
        clear c4
        by_cases c5 : 0 ≤ x8_1
        · rw [if_pos c5] at H
          have c5b0 : decide (0 ≤ x8_1) = true := decide_eq_true c5
          clear c5
          by_cases c6 : x8_1 < (l0_0.length : Int)
          · rw [if_pos c6] at H
            have c6b0 : decide (x8_1 < (l0_0.length : Int)) = true := decide_eq_true c6
            clear c6
            replace H := Option.bind_eq_some_iff.mp H
            obtain ⟨t146, A70, H⟩ := H
            replace H : (if t146 = true then (if x8_1 > 0 then (if 0 ≤ (wrap64 (x8_1 - 1)) then (if (wrap64 (x8_1 - 1)) < (l0_0.length : Int) then (if ((rd_T56 l0_0 x8_1).f0) ≤ (wrap64 (((rd_T56 l0_0 (wrap64 (x8_1 - 1))).f1) + 1)) then (some false) else (intset_Valid.l0 k1 l0_0 (l0_0.length : Int) (wrap64 (x8_1 + 1)) l0_0)) else (none)) else (none)) else (intset_Valid.l0 k1 l0_0 (l0_0.length : Int) (wrap64 (x8_1 + 1)) l0_0)) else (some false)) = some r := H
            have A7 := Aside0.mk A70
            clear A70
            by_cases c8 : t146 = true
            · subst c8
              have H1 : (if x8_1 > 0 then (if 0 ≤ (wrap64 (x8_1 - 1)) then (if (wrap64 (x8_1 - 1)) < (l0_0.length : Int) then (if ((rd_T56 l0_0 x8_1).f0) ≤ (wrap64 (((rd_T56 l0_0 (wrap64 (x8_1 - 1))).f1) + 1)) then (some false) else (intset_Valid.l0 k1 l0_0 (l0_0.length : Int) (wrap64 (x8_1 + 1)) l0_0)) else (none)) else (none)) else (intset_Valid.l0 k1 l0_0 (l0_0.length : Int) (wrap64 (x8_1 + 1)) l0_0)) = some r := by rw [if_pos rfl] at H; exact H
              clear H
              have H := H1
              clear H1
              by_cases c9 : x8_1 > 0
              · rw [if_pos c9] at H
                have c9b0 : decide (0 < x8_1) = true := decide_eq_true c9
                clear c9
                obtain ⟨ji10, hji10⟩ : ∃ j_ : Int, (wrap64 (x8_1 - 1)) = j_ := ⟨_, rfl⟩
                replace H : (if 0 ≤ (ji10) then (if (ji10) < (l0_0.length : Int) then (if ((rd_T56 l0_0 x8_1).f0) ≤ (wrap64 (((rd_T56 l0_0 (ji10)).f1) + 1)) then (some false) else (intset_Valid.l0 k1 l0_0 (l0_0.length : Int) (wrap64 (x8_1 + 1)) l0_0)) else (none)) else (none)) = some r := by first | (rw [hji10] at H; exact H) | (simp only [hji10] at H ⊢; exact H)
                (try rw [hji10] at A7)
                have hji10w : (IntKind.i64.wrap (x8_1 - 1)) = ji10 := (i64_w _).trans hji10
                by_cases c11 : 0 ≤ (ji10)
                · rw [if_pos c11] at H
                  have c11b0 : decide (0 ≤ (ji10)) = true := decide_eq_true c11
                  clear c11
                  by_cases c12 : (ji10) < (l0_0.length : Int)
                  · rw [if_pos c12] at H
                    have c12b0 : decide ((ji10) < (l0_0.length : Int)) = true := decide_eq_true c12
                    clear c12
                    by_cases c13 : ((rd_T56 l0_0 x8_1).f0) ≤ (wrap64 (((rd_T56 l0_0 (ji10)).f1) + 1))
                    · rw [if_pos c13] at H
                      have c13b0 : decide (((rd_T56 l0_0 x8_1).f0) ≤ (wrap64 (((rd_T56 l0_0 (ji10)).f1) + 1))) = true := decide_eq_true c13
                      clear c13
                      obtain rfl := Option.some.inj H
                      have p144 : 0 ≤ (x8_1 : Int) := of_decide_eq_true (by first | (with_reducible assumption) | assumption)
                      have q144 : x8_1 < (l0_0.length : Int) := of_decide_eq_true (by first | (with_reducible assumption) | assumption)
                      obtain ⟨ad144, e144, hx144_0, hx144_1⟩ := at_T56 HR0_0.out x8_1 p144 q144
                      cases e144
                      replace hx144_0 := (HB.out.cell (World.block_lt_of_cell? w _ hx144_0)).trans hx144_0
                      replace hx144_1 := (HB.out.cell (World.block_lt_of_cell? w _ hx144_1)).trans hx144_1
                      replace p144 := eq_true p144
                      replace q144 := eq_true q144
                      try go_wp2_with (first | ((with_reducible refine gate_dst (N := 4) rfl ?_); refine box_event ?hg (N := 4) ?hd (cs := #[.int .i64 0, .int .i64 0]) (t := 56) ?hr ?_; (case hd => rfl); (case hg => rfl); (case hr => first | (go_simp; done) | (go_simp; rfl)); intro gb145 hg w14 hbox hb; have n0_ := Aside0.mk (blk_below (g := gb143) (o := .cells #[.slice (some ad144) l0_0.length c0_0] 42 (0, 0)) (by (with_reducible repeat (first | refine blk_drewN ?_ _ | refine blk_drew ?_ | refine blk_alloc ?_ _)); exact BK143.out) hb); have n1_ := Aside0.mk (below_step (by repeat (first | (with_reducible first | exact HB.out | apply below_alloc | apply pw_below_drewN | apply below_drew1 | refine below_set ?_ GE143.out) | exact HB.out)) hb); have n2_ := Aside0.mk (hbox); have n3_ := Aside0.mk ((by rw [hg]; exact (below_size (by repeat (first | (with_reducible first | exact HB.out | apply below_alloc | apply pw_below_drewN | apply below_drew1 | refine below_set ?_ GE143.out) | exact HB.out))) : w.heap.size ≤ gb145)); have n4_ := Aside0.mk ((by rw [hg]; exact (below_size (by repeat (first | (with_reducible first | exact HB.out | apply below_alloc | apply pw_below_drewN | apply below_drew1 | refine below_set ?_ GE143.out) | exact HB.out))) : w.heap.size ≤ gb145)); have n5_ := Aside0.mk ((by rw [hg]; exact Nat.ne_of_lt (blk_lt (g := gb143) (o := .cells #[.slice (some ad144) l0_0.length c0_0] 42 (0, 0)) (by (with_reducible repeat (first | refine blk_drewN ?_ _ | refine blk_drew ?_ | refine blk_alloc ?_ _)); exact BK143.out)) : gb143 ≠ gb145)); have n6_ := Aside0.mk ((by rw [hg]; exact Nat.ne_of_gt (blk_lt (g := gb143) (o := .cells #[.slice (some ad144) l0_0.length c0_0] 42 (0, 0)) (by (with_reducible repeat (first | refine blk_drewN ?_ _ | refine blk_drew ?_ | refine blk_alloc ?_ _)); exact BK143.out)) : gb145 ≠ gb143)); clear BK143; clear HB; have BK143 := n0_; have HB := n1_; have BK145 := n2_; have GW145 := n3_; have GE145 := n4_; have NB143_145 := n5_; have NB145_143 := n6_; clear n0_ n1_ n2_ n3_ n4_ n5_ n6_; clear hb hbox hg; have hnb15 := NB145_143.out; have hnc15 := NB143_145.out; have hcz16_0 : w14.cell? ⟨gb145, 0, none⟩ = some (.int .i64 0) := (blk_cell BK145.out 0).trans rfl; have hcz16_1 : w14.cell? ⟨gb145, 1, none⟩ = some (.int .i64 0) := (blk_cell BK145.out 1).trans rfl; have hfz16_0 := blk_frozen BK145.out 0; have hfz16_1 := blk_frozen BK145.out 1))
                      have n0_ : Aside0 (((w14.setCell ⟨gb145, 0, none⟩ (.int .i64 ((rd_T56 l0_0 x8_1).f0))).setCell ⟨gb145, 1, none⟩ (.int .i64 ((rd_T56 l0_0 x8_1).f1))).heap[gb143]? = some (.cells #[.slice (some ad144) l0_0.length c0_0] 42 (0, 0))) := ⟨by (with_reducible repeat (first | refine blk_drewN ?_ _ | refine blk_drew ?_ | refine blk_alloc ?_ _)); refine blk_far ?_ NB143_145.out _; (with_reducible repeat (first | refine blk_drewN ?_ _ | refine blk_drew ?_ | refine blk_alloc ?_ _)); refine blk_far ?_ NB143_145.out _; (with_reducible repeat (first | refine blk_drewN ?_ _ | refine blk_drew ?_ | refine blk_alloc ?_ _)); exact BK143.out⟩
                      have n1_ : Aside0 (((w14.setCell ⟨gb145, 0, none⟩ (.int .i64 ((rd_T56 l0_0 x8_1).f0))).setCell ⟨gb145, 1, none⟩ (.int .i64 ((rd_T56 l0_0 x8_1).f1))).heap[gb145]? = some (.cells #[.int .i64 ((rd_T56 l0_0 x8_1).f0), .int .i64 ((rd_T56 l0_0 x8_1).f1)] 56 (0, 0))) := ⟨by (with_reducible repeat (first | refine blk_drewN ?_ _ | refine blk_drew ?_ | refine blk_alloc ?_ _)); refine blk_put (cs := #[.int .i64 ((rd_T56 l0_0 x8_1).f0), .int .i64 0]) ?_ 1 _ rfl; (with_reducible repeat (first | refine blk_drewN ?_ _ | refine blk_drew ?_ | refine blk_alloc ?_ _)); refine blk_put (cs := #[.int .i64 0, .int .i64 0]) ?_ 0 _ rfl; (with_reducible repeat (first | refine blk_drewN ?_ _ | refine blk_drew ?_ | refine blk_alloc ?_ _)); exact BK145.out⟩
                      have n2_ : Aside0 (Below w.heap.size w ((w14.setCell ⟨gb145, 0, none⟩ (.int .i64 ((rd_T56 l0_0 x8_1).f0))).setCell ⟨gb145, 1, none⟩ (.int .i64 ((rd_T56 l0_0 x8_1).f1)))) := ⟨by repeat (first | (with_reducible first | exact HB.out | apply below_alloc | apply pw_below_drewN | apply below_drew1 | refine below_set ?_ GE143.out | refine below_set ?_ GE145.out) | exact HB.out)⟩
                      (try clear BK143)
                      (try clear BK145)
                      (try clear HB)
                      generalize ((w14.setCell ⟨gb145, 0, none⟩ (.int .i64 ((rd_T56 l0_0 x8_1).f0))).setCell ⟨gb145, 1, none⟩ (.int .i64 ((rd_T56 l0_0 x8_1).f1))) = w17 at n0_ n1_ n2_ ⊢
                      have BK143 := n0_
                      have BK145 := n1_
                      have HB := n2_
                      clear n0_ n1_ n2_
                      have n0_ := Aside0.mk (blk_drew BK143.out)
                      have n1_ := Aside0.mk (blk_drew BK145.out)
                      have n2_ := Aside0.mk (below_drew1 HB.out)
                      clear BK143
                      clear BK145
                      clear HB
                      have BK143 := n0_
                      have BK145 := n1_
                      have HB := n2_
                      clear n0_ n1_ n2_
                      have p147 : 0 ≤ ((ji10) : Int) := of_decide_eq_true (by first | (with_reducible assumption) | assumption)
                      have q147 : (ji10) < (l0_0.length : Int) := of_decide_eq_true (by first | (with_reducible assumption) | assumption)
                      obtain ⟨ad147, e147, hx147_0, hx147_1⟩ := at_T56 HR0_0.out (ji10) p147 q147
                      have hw147_1 := hx147_1
                      have hw147_0 := hx147_0
                      obtain rfl : ad144 = ad147 := (by injection e147)
                      replace hx147_0 := (HB.out.cell (World.block_lt_of_cell? w _ hx147_0)).trans hx147_0
                      replace hx147_1 := (HB.out.cell (World.block_lt_of_cell? w _ hx147_1)).trans hx147_1
                      replace p147 := eq_true p147
                      replace q147 := eq_true q147
                      refine start_ (n := 20) (S := fun w' => w'.cell? ⟨gb145, 0, none⟩ = some (.int .i64 ((rd_T56 l0_0 x8_1).f0)) ∧ w'.cell? ⟨gb145, 1, none⟩ = some (.int .i64 ((rd_T56 l0_0 x8_1).f1)) ∧ w'.cell? ⟨gb143, 0, none⟩ = some (.slice (some ad144) l0_0.length c0_0) ∧ w'.cell? (ad144.add (((ji10)).toNat * 2)) = some (.int .i64 ((rd_T56 l0_0 (ji10)).f0)) ∧ w'.cell? ⟨(ad144.add (((ji10)).toNat * 2)).block, (ad144.add (((ji10)).toNat * 2)).off + 1, none⟩ = some (.int .i64 ((rd_T56 l0_0 (ji10)).f1))) (ds := []) #[false, false, false, false, false, false, false, false, false, false, false, false, false, false, false, false, false, false, false, false] (by kernel_rfl) rfl rfl ⟨(blk_cell BK145.out 0).trans rfl, (blk_cell BK145.out 1).trans rfl, (blk_cell BK143.out 0).trans rfl, ((HB.out.cell (World.block_lt_of_cell? w _ hw147_0)).trans hw147_0), ((HB.out.cell (World.block_lt_of_cell? w _ hw147_1)).trans hw147_1)⟩ (fun hHeld => ?_); refine with_tabW intset_Valid.tab4 intset_Valid.bits4 (fun HT_ HW_ => ?_)
                      generalize w17.drew = w18 at BK143 BK145 HB hx147_0 hx147_1 hHeld ⊢
                      refine take_ (i := 0) (N := some 13) (v := ?_) (a' := ?_) #[true, false, false, false, false, false, false, false, false, false, false, false, false, false, false, false, false, false, false, false] rfl rfl (take_ofW HT_.out HW_.out (by kernel_rfl)) (fun _ _ _ h => h) (Or.inl ⟨by rfl, ?_⟩) hHeld ?_ ?_
                      rotate_left
                      · rintro w' ⟨s0, s1, s2, s3, s4⟩
                        go_simp
                        with_reducible rfl
                      rotate_left
                      · simp only [Act.put, List.setIfInBounds_toArray, List.set_cons_zero, List.set_cons_succ, i64_w, i32_w]
                        rfl
                      refine one_ (i := 1) (N := some 14) #[true, true, false, false, false, false, false, false, false, false, false, false, false, false, false, false, false, false, false, false] rfl rfl (one_of HT_.out (by kernel_rfl)) (by decide) (fun K hK => ?_)
                      refine goes_ Try.func84 (by kernel_rfl) rfl #[.agg #[.int .i64 ((rd_T56 l0_0 x8_1).f0), .int .i64 ((rd_T56 l0_0 x8_1).f1)]] (by rfl) rfl rfl (by (try simp only [List.map_toArray, List.map_cons, List.map_nil]); first | done | rfl | (simp only [List.length_drop, List.length_take]; rfl)) ?_
                      with_reducible refine (intset_fine.calls ((rd_T56 l0_0 x8_1).f0) ((rd_T56 l0_0 x8_1).f1) true _ A7.out).mono ?_
                      rintro e w19 ⟨rfl, hb⟩
                      refine ⟨_, rfl, ?_⟩
                      have n0_ := Aside0.mk (blk_below (g := gb143) (o := .cells #[.slice (some ad144) l0_0.length c0_0] 42 (0, 0)) (by (with_reducible repeat (first | refine blk_drewN ?_ _ | refine blk_drew ?_ | refine blk_alloc ?_ _)); exact BK143.out) hb)
                      have n1_ := Aside0.mk (blk_below (g := gb145) (o := .cells #[.int .i64 ((rd_T56 l0_0 x8_1).f0), .int .i64 ((rd_T56 l0_0 x8_1).f1)] 56 (0, 0)) (by (with_reducible repeat (first | refine blk_drewN ?_ _ | refine blk_drew ?_ | refine blk_alloc ?_ _)); exact BK145.out) hb)
                      have n2_ := Aside0.mk (below_step (by repeat (first | (with_reducible first | exact HB.out | apply below_alloc | apply pw_below_drewN | apply below_drew1 | refine below_set ?_ GE143.out | refine below_set ?_ GE145.out) | exact HB.out)) hb)
                      clear BK143
                      clear BK145
                      clear HB
                      have BK143 := n0_
                      have BK145 := n1_
                      have HB := n2_
                      clear n0_ n1_ n2_
                      (try clear hb)
                      (try clear hb2)
                      (try clear hk)
                      (try clear hi)
                      refine hK.out _ _ ⟨(blk_cell BK145.out 0).trans rfl, (blk_cell BK145.out 1).trans rfl, (blk_cell BK143.out 0).trans rfl, ((HB.out.cell (World.block_lt_of_cell? w _ hw147_0)).trans hw147_0), ((HB.out.cell (World.block_lt_of_cell? w _ hw147_1)).trans hw147_1)⟩ (fun hHeld => ?_)
                      clear hK K
                      refine norm_ (a' := ?_) ?_ ?_
                      rotate_left
                      · show Act.put _ (some 14) _ = _
                        simp only [Act.put, List.setIfInBounds_toArray, List.set_cons_zero, List.set_cons_succ, i64_w, i32_w]
                        rfl
                      refine pure_ (i := 2) (N := some 15) (v := ?_) (a' := ?_) #[true, true, true, false, false, false, false, false, false, false, false, false, false, false, false, false, false, false, false, false] rfl rfl (any_of HT_.out (by kernel_rfl)) (fun _ _ _ h => h) (Or.inl ⟨by rfl, ?_⟩) ?_ ?_
                      rotate_left
                      · intro w'
                        go_simp
                        with_reducible rfl
                      rotate_left
                      · simp only [Act.put, List.setIfInBounds_toArray, List.set_cons_zero, List.set_cons_succ, i64_w, i32_w]
                        rfl
                      refine pure_ (i := 3) (N := some 16) (v := ?_) (a' := ?_) #[true, true, true, true, false, false, false, false, false, false, false, false, false, false, false, false, false, false, false, false] rfl rfl (any_of HT_.out (by kernel_rfl)) (fun _ _ _ h => h) (Or.inl ⟨by rfl, ?_⟩) ?_ ?_
                      rotate_left
                      · intro w'
                        go_simp
                        with_reducible rfl
                      rotate_left
                      · simp only [Act.put, List.setIfInBounds_toArray, List.set_cons_zero, List.set_cons_succ, i64_w, i32_w]
                        rfl
                      refine pure_ (i := 4) (N := some 17) (v := ?_) (a' := ?_) #[true, true, true, true, true, false, false, false, false, false, false, false, false, false, false, false, false, false, false, false] rfl rfl (any_of HT_.out (by kernel_rfl)) (fun _ _ _ h => h) (Or.inl ⟨by rfl, ?_⟩) ?_ ?_
                      rotate_left
                      · intro w'
                        go_simp
                        with_reducible rfl
                      rotate_left
                      · simp only [Act.put, List.setIfInBounds_toArray, List.set_cons_zero, List.set_cons_succ, i64_w, i32_w]
                        rfl
                      refine pure_ (i := 5) (N := some 18) (v := ?_) (a' := ?_) #[true, true, true, true, true, true, false, false, false, false, false, false, false, false, false, false, false, false, false, false] rfl rfl (any_of HT_.out (by kernel_rfl)) (fun _ _ _ h => h) (Or.inl ⟨by rfl, ?_⟩) ?_ ?_
                      rotate_left
                      · intro w'
                        go_simp
                        with_reducible rfl
                      rotate_left
                      · simp only [Act.put, List.setIfInBounds_toArray, List.set_cons_zero, List.set_cons_succ, i64_w, i32_w]
                        rfl
                      refine pure_ (i := 6) (N := some 19) (v := ?_) (a' := ?_) #[true, true, true, true, true, true, true, false, false, false, false, false, false, false, false, false, false, false, false, false] rfl rfl (any_of HT_.out (by kernel_rfl)) (fun _ _ _ h => h) (Or.inl ⟨by rfl, ?_⟩) ?_ ?_
                      rotate_left
                      · intro w'
                        go_simp
                        with_reducible rfl
                      rotate_left
                      · simp only [Act.put, List.setIfInBounds_toArray, List.set_cons_zero, List.set_cons_succ, i64_w, i32_w]
                        rfl
                      refine pure_ (i := 7) (N := some 20) (v := ?_) (a' := ?_) #[true, true, true, true, true, true, true, true, false, false, false, false, false, false, false, false, false, false, false, false] rfl rfl (any_of HT_.out (by kernel_rfl)) (fun _ _ _ h => h) (Or.inl ⟨by rfl, ?_⟩) ?_ ?_
                      rotate_left
                      · intro w'
                        go_simp
                        with_reducible rfl
                      rotate_left
                      · simp only [Act.put, List.setIfInBounds_toArray, List.set_cons_zero, List.set_cons_succ, i64_w, i32_w]
                        rfl
                      refine pure_ (i := 9) (N := some 22) (v := ?_) (a' := ?_) #[true, true, true, true, true, true, true, true, false, true, false, false, false, false, false, false, false, false, false, false] rfl rfl (any_of HT_.out (by kernel_rfl)) (fun _ _ _ h => h) (Or.inl ⟨by rfl, ?_⟩) ?_ ?_
                      rotate_left
                      · intro w'
                        go_simp
                        with_reducible rfl
                      rotate_left
                      · simp only [Act.put, List.setIfInBounds_toArray, List.set_cons_zero, List.set_cons_succ, i64_w, i32_w]
                        rfl
                      refine pure_ (i := 11) (N := some 24) (v := ?_) (a' := ?_) #[true, true, true, true, true, true, true, true, false, true, false, true, false, false, false, false, false, false, false, false] rfl rfl (any_of HT_.out (by kernel_rfl)) (fun _ _ _ h => h) (Or.inl ⟨by rfl, ?_⟩) ?_ ?_
                      rotate_left
                      · intro w'
                        go_simp
                        with_reducible rfl
                      rotate_left
                      · simp only [Act.put, List.setIfInBounds_toArray, List.set_cons_zero, List.set_cons_succ, i64_w, i32_w]
                        rfl
                      refine pure_ (i := 12) (N := some 25) (v := ?_) (a' := ?_) #[true, true, true, true, true, true, true, true, false, true, false, true, true, false, false, false, false, false, false, false] rfl rfl (any_of HT_.out (by kernel_rfl)) (fun _ _ _ h => h) (Or.inl ⟨by rfl, ?_⟩) ?_ ?_
                      rotate_left
                      · intro w'
                        go_simp
                        with_reducible rfl
                      rotate_left
                      · simp only [Act.put, List.setIfInBounds_toArray, List.set_cons_zero, List.set_cons_succ, i64_w, i32_w]
                        rfl
                      refine take_ (i := 8) (N := some 21) (v := ?_) (a' := ?_) #[true, true, true, true, true, true, true, true, true, true, false, true, true, false, false, false, false, false, false, false] rfl rfl (take_ofW HT_.out HW_.out (by kernel_rfl)) (fun _ _ _ h => h) (Or.inl ⟨by rfl, ?_⟩) hHeld ?_ ?_
                      rotate_left
                      · rintro w' ⟨s0, s1, s2, s3, s4⟩
                        go_simp
                        with_reducible rfl
                      rotate_left
                      · simp only [Act.put, List.setIfInBounds_toArray, List.set_cons_zero, List.set_cons_succ, i64_w, i32_w]
                        rfl
                      refine take_ (i := 10) (N := some 23) (v := ?_) (a' := ?_) #[true, true, true, true, true, true, true, true, true, true, true, true, true, false, false, false, false, false, false, false] rfl rfl (take_ofW HT_.out HW_.out (by kernel_rfl)) (fun _ _ _ h => h) (Or.inl ⟨by rfl, ?_⟩) hHeld ?_ ?_
                      rotate_left
                      · rintro w' ⟨s0, s1, s2, s3, s4⟩
                        go_simp
                        with_reducible rfl
                      rotate_left
                      · simp only [Act.put, List.setIfInBounds_toArray, List.set_cons_zero, List.set_cons_succ, i64_w, i32_w]
                        rfl
                      refine pure_ (i := 13) (N := some 26) (v := ?_) (a' := ?_) #[true, true, true, true, true, true, true, true, true, true, true, true, true, true, false, false, false, false, false, false] rfl rfl (any_of HT_.out (by kernel_rfl)) (fun _ _ _ h => h) (Or.inl ⟨by rfl, ?_⟩) ?_ ?_
                      rotate_left
                      · intro w'
                        go_simp
                        with_reducible rfl
                      rotate_left
                      · simp only [Act.put, List.setIfInBounds_toArray, List.set_cons_zero, List.set_cons_succ, i64_w, i32_w]
                        rfl
                      refine pure_ (i := 14) (N := some 27) (v := ?_) (a' := ?_) #[true, true, true, true, true, true, true, true, true, true, true, true, true, true, true, false, false, false, false, false] rfl rfl (any_of HT_.out (by kernel_rfl)) (fun _ _ _ h => h) (Or.inl ⟨by rfl, ?_⟩) ?_ ?_
                      rotate_left
                      · intro w'
                        go_simp
                        with_reducible rfl
                      rotate_left
                      · simp only [Act.put, List.setIfInBounds_toArray, List.set_cons_zero, List.set_cons_succ, i64_w, i32_w]
                        rfl
                      refine take_ (i := 15) (N := some 28) (v := ?_) (a' := ?_) #[true, true, true, true, true, true, true, true, true, true, true, true, true, true, true, true, false, false, false, false] rfl rfl (take_ofW HT_.out HW_.out (by kernel_rfl)) (fun _ _ _ h => h) (Or.inl ⟨by rfl, ?_⟩) hHeld ?_ ?_
                      rotate_left
                      · rintro w' ⟨s0, s1, s2, s3, s4⟩
                        go_simp
                        with_reducible rfl
                      rotate_left
                      · simp only [Act.put, List.setIfInBounds_toArray, List.set_cons_zero, List.set_cons_succ, i64_w, i32_w]
                        rfl
                      refine pure_ (i := 16) (N := some 29) (v := ?_) (a' := ?_) #[true, true, true, true, true, true, true, true, true, true, true, true, true, true, true, true, true, false, false, false] rfl rfl (any_of HT_.out (by kernel_rfl)) (fun _ _ _ h => h) (Or.inl ⟨by rfl, ?_⟩) ?_ ?_
                      rotate_left
                      · intro w'
                        go_simp
                        with_reducible rfl
                      rotate_left
                      · simp only [Act.put, List.setIfInBounds_toArray, List.set_cons_zero, List.set_cons_succ, i64_w, i32_w]
                        rfl
                      refine pure_ (i := 17) (N := some 30) (v := ?_) (a' := ?_) #[true, true, true, true, true, true, true, true, true, true, true, true, true, true, true, true, true, true, false, false] rfl rfl (any_of HT_.out (by kernel_rfl)) (fun _ _ _ h => h) (Or.inl ⟨by rfl, ?_⟩) ?_ ?_
                      rotate_left
                      · intro w'
                        go_simp
                        with_reducible rfl
                      rotate_left
                      · simp only [Act.put, List.setIfInBounds_toArray, List.set_cons_zero, List.set_cons_succ, i64_w, i32_w]
                        rfl
                      refine pure_ (i := 18) (N := some 31) (v := ?_) (a' := ?_) #[true, true, true, true, true, true, true, true, true, true, true, true, true, true, true, true, true, true, true, false] rfl rfl (any_of HT_.out (by kernel_rfl)) (fun _ _ _ h => h) (Or.inl ⟨by rfl, ?_⟩) ?_ ?_
                      rotate_left
                      · intro w'
                        go_simp
                        with_reducible rfl
                      rotate_left
                      · simp only [Act.put, List.setIfInBounds_toArray, List.set_cons_zero, List.set_cons_succ, i64_w, i32_w]
                        rfl
                      refine pure_ (i := 19) (N := some 32) (v := ?_) (a' := ?_) #[true, true, true, true, true, true, true, true, true, true, true, true, true, true, true, true, true, true, true, true] rfl rfl (any_of HT_.out (by kernel_rfl)) (fun _ _ _ h => h) (Or.inl ⟨by rfl, ?_⟩) ?_ ?_
                      rotate_left
                      · intro w'
                        go_simp
                        with_reducible rfl
                      rotate_left
                      · simp only [Act.put, List.setIfInBounds_toArray, List.set_cons_zero, List.set_cons_succ, i64_w, i32_w]
                        rfl
                      refine done_ (done_of HT_.out (by kernel_rfl)) ?_
                      try go_wp2
                      go_ret
                      exact ⟨by first | rfl | (simp [errW_none, errW_some] <;> rfl) | (simp only [← hji10]; first | rfl | (simp [errW_none, errW_some] <;> rfl)) | (simp [*, errW_none, errW_some] <;> rfl), by repeat (first | (with_reducible first | exact HB.out | apply below_alloc | apply pw_below_drewN | apply below_drew1 | refine below_set ?_ GE143.out | refine below_set ?_ GE145.out) | exact HB.out)⟩
                    · rw [if_neg c13] at H
                      have c13b0 : decide (((rd_T56 l0_0 x8_1).f0) ≤ (wrap64 (((rd_T56 l0_0 (ji10)).f1) + 1))) = false := decide_eq_false c13
                      clear c13
                      have H' := Aside0.mk H
                      clear H
                      have p144 : 0 ≤ (x8_1 : Int) := of_decide_eq_true (by first | (with_reducible assumption) | assumption)
                      have q144 : x8_1 < (l0_0.length : Int) := of_decide_eq_true (by first | (with_reducible assumption) | assumption)
                      obtain ⟨ad144, e144, hx144_0, hx144_1⟩ := at_T56 HR0_0.out x8_1 p144 q144
                      cases e144
                      replace hx144_0 := (HB.out.cell (World.block_lt_of_cell? w _ hx144_0)).trans hx144_0
                      replace hx144_1 := (HB.out.cell (World.block_lt_of_cell? w _ hx144_1)).trans hx144_1
                      replace p144 := eq_true p144
                      replace q144 := eq_true q144
                      try go_wp2_with (first | ((with_reducible refine gate_dst (N := 4) rfl ?_); refine box_event ?hg (N := 4) ?hd (cs := #[.int .i64 0, .int .i64 0]) (t := 56) ?hr ?_; (case hd => rfl); (case hg => rfl); (case hr => first | (go_simp; done) | (go_simp; rfl)); intro gb145 hg w20 hbox hb; have n0_ := Aside0.mk (blk_below (g := gb143) (o := .cells #[.slice (some ad144) l0_0.length c0_0] 42 (0, 0)) (by (with_reducible repeat (first | refine blk_drewN ?_ _ | refine blk_drew ?_ | refine blk_alloc ?_ _)); exact BK143.out) hb); have n1_ := Aside0.mk (below_step (by repeat (first | (with_reducible first | exact HB.out | apply below_alloc | apply pw_below_drewN | apply below_drew1 | refine below_set ?_ GE143.out) | exact HB.out)) hb); have n2_ := Aside0.mk (hbox); have n3_ := Aside0.mk ((by rw [hg]; exact (below_size (by repeat (first | (with_reducible first | exact HB.out | apply below_alloc | apply pw_below_drewN | apply below_drew1 | refine below_set ?_ GE143.out) | exact HB.out))) : w.heap.size ≤ gb145)); have n4_ := Aside0.mk ((by rw [hg]; exact (below_size (by repeat (first | (with_reducible first | exact HB.out | apply below_alloc | apply pw_below_drewN | apply below_drew1 | refine below_set ?_ GE143.out) | exact HB.out))) : w.heap.size ≤ gb145)); have n5_ := Aside0.mk ((by rw [hg]; exact Nat.ne_of_lt (blk_lt (g := gb143) (o := .cells #[.slice (some ad144) l0_0.length c0_0] 42 (0, 0)) (by (with_reducible repeat (first | refine blk_drewN ?_ _ | refine blk_drew ?_ | refine blk_alloc ?_ _)); exact BK143.out)) : gb143 ≠ gb145)); have n6_ := Aside0.mk ((by rw [hg]; exact Nat.ne_of_gt (blk_lt (g := gb143) (o := .cells #[.slice (some ad144) l0_0.length c0_0] 42 (0, 0)) (by (with_reducible repeat (first | refine blk_drewN ?_ _ | refine blk_drew ?_ | refine blk_alloc ?_ _)); exact BK143.out)) : gb145 ≠ gb143)); clear BK143; clear HB; have BK143 := n0_; have HB := n1_; have BK145 := n2_; have GW145 := n3_; have GE145 := n4_; have NB143_145 := n5_; have NB145_143 := n6_; clear n0_ n1_ n2_ n3_ n4_ n5_ n6_; clear hb hbox hg; have hnb21 := NB145_143.out; have hnc21 := NB143_145.out; have hcz22_0 : w20.cell? ⟨gb145, 0, none⟩ = some (.int .i64 0) := (blk_cell BK145.out 0).trans rfl; have hcz22_1 : w20.cell? ⟨gb145, 1, none⟩ = some (.int .i64 0) := (blk_cell BK145.out 1).trans rfl; have hfz22_0 := blk_frozen BK145.out 0; have hfz22_1 := blk_frozen BK145.out 1))
                      have n0_ : Aside0 (((w20.setCell ⟨gb145, 0, none⟩ (.int .i64 ((rd_T56 l0_0 x8_1).f0))).setCell ⟨gb145, 1, none⟩ (.int .i64 ((rd_T56 l0_0 x8_1).f1))).heap[gb143]? = some (.cells #[.slice (some ad144) l0_0.length c0_0] 42 (0, 0))) := ⟨by (with_reducible repeat (first | refine blk_drewN ?_ _ | refine blk_drew ?_ | refine blk_alloc ?_ _)); refine blk_far ?_ NB143_145.out _; (with_reducible repeat (first | refine blk_drewN ?_ _ | refine blk_drew ?_ | refine blk_alloc ?_ _)); refine blk_far ?_ NB143_145.out _; (with_reducible repeat (first | refine blk_drewN ?_ _ | refine blk_drew ?_ | refine blk_alloc ?_ _)); exact BK143.out⟩
                      have n1_ : Aside0 (((w20.setCell ⟨gb145, 0, none⟩ (.int .i64 ((rd_T56 l0_0 x8_1).f0))).setCell ⟨gb145, 1, none⟩ (.int .i64 ((rd_T56 l0_0 x8_1).f1))).heap[gb145]? = some (.cells #[.int .i64 ((rd_T56 l0_0 x8_1).f0), .int .i64 ((rd_T56 l0_0 x8_1).f1)] 56 (0, 0))) := ⟨by (with_reducible repeat (first | refine blk_drewN ?_ _ | refine blk_drew ?_ | refine blk_alloc ?_ _)); refine blk_put (cs := #[.int .i64 ((rd_T56 l0_0 x8_1).f0), .int .i64 0]) ?_ 1 _ rfl; (with_reducible repeat (first | refine blk_drewN ?_ _ | refine blk_drew ?_ | refine blk_alloc ?_ _)); refine blk_put (cs := #[.int .i64 0, .int .i64 0]) ?_ 0 _ rfl; (with_reducible repeat (first | refine blk_drewN ?_ _ | refine blk_drew ?_ | refine blk_alloc ?_ _)); exact BK145.out⟩
                      have n2_ : Aside0 (Below w.heap.size w ((w20.setCell ⟨gb145, 0, none⟩ (.int .i64 ((rd_T56 l0_0 x8_1).f0))).setCell ⟨gb145, 1, none⟩ (.int .i64 ((rd_T56 l0_0 x8_1).f1)))) := ⟨by repeat (first | (with_reducible first | exact HB.out | apply below_alloc | apply pw_below_drewN | apply below_drew1 | refine below_set ?_ GE143.out | refine below_set ?_ GE145.out) | exact HB.out)⟩
                      (try clear BK143)
                      (try clear BK145)
                      (try clear HB)
                      generalize ((w20.setCell ⟨gb145, 0, none⟩ (.int .i64 ((rd_T56 l0_0 x8_1).f0))).setCell ⟨gb145, 1, none⟩ (.int .i64 ((rd_T56 l0_0 x8_1).f1))) = w23 at n0_ n1_ n2_ ⊢
                      have BK143 := n0_
                      have BK145 := n1_
                      have HB := n2_
                      clear n0_ n1_ n2_
                      have n0_ := Aside0.mk (blk_drew BK143.out)
                      have n1_ := Aside0.mk (blk_drew BK145.out)
                      have n2_ := Aside0.mk (below_drew1 HB.out)
                      clear BK143
                      clear BK145
                      clear HB
                      have BK143 := n0_
                      have BK145 := n1_
                      have HB := n2_
                      clear n0_ n1_ n2_
                      have p147 : 0 ≤ ((ji10) : Int) := of_decide_eq_true (by first | (with_reducible assumption) | assumption)
                      have q147 : (ji10) < (l0_0.length : Int) := of_decide_eq_true (by first | (with_reducible assumption) | assumption)
                      obtain ⟨ad147, e147, hx147_0, hx147_1⟩ := at_T56 HR0_0.out (ji10) p147 q147
                      have hw147_1 := hx147_1
                      have hw147_0 := hx147_0
                      obtain rfl : ad144 = ad147 := (by injection e147)
                      replace hx147_0 := (HB.out.cell (World.block_lt_of_cell? w _ hx147_0)).trans hx147_0
                      replace hx147_1 := (HB.out.cell (World.block_lt_of_cell? w _ hx147_1)).trans hx147_1
                      replace p147 := eq_true p147
                      replace q147 := eq_true q147
                      refine start_ (n := 20) (S := fun w' => w'.cell? ⟨gb145, 0, none⟩ = some (.int .i64 ((rd_T56 l0_0 x8_1).f0)) ∧ w'.cell? ⟨gb145, 1, none⟩ = some (.int .i64 ((rd_T56 l0_0 x8_1).f1)) ∧ w'.cell? ⟨gb143, 0, none⟩ = some (.slice (some ad144) l0_0.length c0_0) ∧ w'.cell? (ad144.add (((ji10)).toNat * 2)) = some (.int .i64 ((rd_T56 l0_0 (ji10)).f0)) ∧ w'.cell? ⟨(ad144.add (((ji10)).toNat * 2)).block, (ad144.add (((ji10)).toNat * 2)).off + 1, none⟩ = some (.int .i64 ((rd_T56 l0_0 (ji10)).f1))) (ds := []) #[false, false, false, false, false, false, false, false, false, false, false, false, false, false, false, false, false, false, false, false] (by kernel_rfl) rfl rfl ⟨(blk_cell BK145.out 0).trans rfl, (blk_cell BK145.out 1).trans rfl, (blk_cell BK143.out 0).trans rfl, ((HB.out.cell (World.block_lt_of_cell? w _ hw147_0)).trans hw147_0), ((HB.out.cell (World.block_lt_of_cell? w _ hw147_1)).trans hw147_1)⟩ (fun hHeld => ?_); refine with_tabW intset_Valid.tab4 intset_Valid.bits4 (fun HT_ HW_ => ?_)
                      generalize w23.drew = w24 at BK143 BK145 HB hx147_0 hx147_1 hHeld ⊢
                      refine take_ (i := 0) (N := some 13) (v := ?_) (a' := ?_) #[true, false, false, false, false, false, false, false, false, false, false, false, false, false, false, false, false, false, false, false] rfl rfl (take_ofW HT_.out HW_.out (by kernel_rfl)) (fun _ _ _ h => h) (Or.inl ⟨by rfl, ?_⟩) hHeld ?_ ?_
                      rotate_left
                      · rintro w' ⟨s0, s1, s2, s3, s4⟩
                        go_simp
                        with_reducible rfl
                      rotate_left
                      · simp only [Act.put, List.setIfInBounds_toArray, List.set_cons_zero, List.set_cons_succ, i64_w, i32_w]
                        rfl
                      refine one_ (i := 1) (N := some 14) #[true, true, false, false, false, false, false, false, false, false, false, false, false, false, false, false, false, false, false, false] rfl rfl (one_of HT_.out (by kernel_rfl)) (by decide) (fun K hK => ?_)
                      refine goes_ Try.func84 (by kernel_rfl) rfl #[.agg #[.int .i64 ((rd_T56 l0_0 x8_1).f0), .int .i64 ((rd_T56 l0_0 x8_1).f1)]] (by rfl) rfl rfl (by (try simp only [List.map_toArray, List.map_cons, List.map_nil]); first | done | rfl | (simp only [List.length_drop, List.length_take]; rfl)) ?_
                      with_reducible refine (intset_fine.calls ((rd_T56 l0_0 x8_1).f0) ((rd_T56 l0_0 x8_1).f1) true _ A7.out).mono ?_
                      rintro e w25 ⟨rfl, hb⟩
                      refine ⟨_, rfl, ?_⟩
                      have n0_ := Aside0.mk (blk_below (g := gb143) (o := .cells #[.slice (some ad144) l0_0.length c0_0] 42 (0, 0)) (by (with_reducible repeat (first | refine blk_drewN ?_ _ | refine blk_drew ?_ | refine blk_alloc ?_ _)); exact BK143.out) hb)
                      have n1_ := Aside0.mk (blk_below (g := gb145) (o := .cells #[.int .i64 ((rd_T56 l0_0 x8_1).f0), .int .i64 ((rd_T56 l0_0 x8_1).f1)] 56 (0, 0)) (by (with_reducible repeat (first | refine blk_drewN ?_ _ | refine blk_drew ?_ | refine blk_alloc ?_ _)); exact BK145.out) hb)
                      have n2_ := Aside0.mk (below_step (by repeat (first | (with_reducible first | exact HB.out | apply below_alloc | apply pw_below_drewN | apply below_drew1 | refine below_set ?_ GE143.out | refine below_set ?_ GE145.out) | exact HB.out)) hb)
                      clear BK143
                      clear BK145
                      clear HB
                      have BK143 := n0_
                      have BK145 := n1_
                      have HB := n2_
                      clear n0_ n1_ n2_
                      (try clear hb)
                      (try clear hb2)
                      (try clear hk)
                      (try clear hi)
                      refine hK.out _ _ ⟨(blk_cell BK145.out 0).trans rfl, (blk_cell BK145.out 1).trans rfl, (blk_cell BK143.out 0).trans rfl, ((HB.out.cell (World.block_lt_of_cell? w _ hw147_0)).trans hw147_0), ((HB.out.cell (World.block_lt_of_cell? w _ hw147_1)).trans hw147_1)⟩ (fun hHeld => ?_)
                      clear hK K
                      refine norm_ (a' := ?_) ?_ ?_
                      rotate_left
                      · show Act.put _ (some 14) _ = _
                        simp only [Act.put, List.setIfInBounds_toArray, List.set_cons_zero, List.set_cons_succ, i64_w, i32_w]
                        rfl
                      refine pure_ (i := 2) (N := some 15) (v := ?_) (a' := ?_) #[true, true, true, false, false, false, false, false, false, false, false, false, false, false, false, false, false, false, false, false] rfl rfl (any_of HT_.out (by kernel_rfl)) (fun _ _ _ h => h) (Or.inl ⟨by rfl, ?_⟩) ?_ ?_
                      rotate_left
                      · intro w'
                        go_simp
                        with_reducible rfl
                      rotate_left
                      · simp only [Act.put, List.setIfInBounds_toArray, List.set_cons_zero, List.set_cons_succ, i64_w, i32_w]
                        rfl
                      refine pure_ (i := 3) (N := some 16) (v := ?_) (a' := ?_) #[true, true, true, true, false, false, false, false, false, false, false, false, false, false, false, false, false, false, false, false] rfl rfl (any_of HT_.out (by kernel_rfl)) (fun _ _ _ h => h) (Or.inl ⟨by rfl, ?_⟩) ?_ ?_
                      rotate_left
                      · intro w'
                        go_simp
                        with_reducible rfl
                      rotate_left
                      · simp only [Act.put, List.setIfInBounds_toArray, List.set_cons_zero, List.set_cons_succ, i64_w, i32_w]
                        rfl
                      refine pure_ (i := 4) (N := some 17) (v := ?_) (a' := ?_) #[true, true, true, true, true, false, false, false, false, false, false, false, false, false, false, false, false, false, false, false] rfl rfl (any_of HT_.out (by kernel_rfl)) (fun _ _ _ h => h) (Or.inl ⟨by rfl, ?_⟩) ?_ ?_
                      rotate_left
                      · intro w'
                        go_simp
                        with_reducible rfl
                      rotate_left
                      · simp only [Act.put, List.setIfInBounds_toArray, List.set_cons_zero, List.set_cons_succ, i64_w, i32_w]
                        rfl
                      refine pure_ (i := 5) (N := some 18) (v := ?_) (a' := ?_) #[true, true, true, true, true, true, false, false, false, false, false, false, false, false, false, false, false, false, false, false] rfl rfl (any_of HT_.out (by kernel_rfl)) (fun _ _ _ h => h) (Or.inl ⟨by rfl, ?_⟩) ?_ ?_
                      rotate_left
                      · intro w'
                        go_simp
                        with_reducible rfl
                      rotate_left
                      · simp only [Act.put, List.setIfInBounds_toArray, List.set_cons_zero, List.set_cons_succ, i64_w, i32_w]
                        rfl
                      refine pure_ (i := 6) (N := some 19) (v := ?_) (a' := ?_) #[true, true, true, true, true, true, true, false, false, false, false, false, false, false, false, false, false, false, false, false] rfl rfl (any_of HT_.out (by kernel_rfl)) (fun _ _ _ h => h) (Or.inl ⟨by rfl, ?_⟩) ?_ ?_
                      rotate_left
                      · intro w'
                        go_simp
                        with_reducible rfl
                      rotate_left
                      · simp only [Act.put, List.setIfInBounds_toArray, List.set_cons_zero, List.set_cons_succ, i64_w, i32_w]
                        rfl
                      refine pure_ (i := 7) (N := some 20) (v := ?_) (a' := ?_) #[true, true, true, true, true, true, true, true, false, false, false, false, false, false, false, false, false, false, false, false] rfl rfl (any_of HT_.out (by kernel_rfl)) (fun _ _ _ h => h) (Or.inl ⟨by rfl, ?_⟩) ?_ ?_
                      rotate_left
                      · intro w'
                        go_simp
                        with_reducible rfl
                      rotate_left
                      · simp only [Act.put, List.setIfInBounds_toArray, List.set_cons_zero, List.set_cons_succ, i64_w, i32_w]
                        rfl
                      refine pure_ (i := 9) (N := some 22) (v := ?_) (a' := ?_) #[true, true, true, true, true, true, true, true, false, true, false, false, false, false, false, false, false, false, false, false] rfl rfl (any_of HT_.out (by kernel_rfl)) (fun _ _ _ h => h) (Or.inl ⟨by rfl, ?_⟩) ?_ ?_
                      rotate_left
                      · intro w'
                        go_simp
                        with_reducible rfl
                      rotate_left
                      · simp only [Act.put, List.setIfInBounds_toArray, List.set_cons_zero, List.set_cons_succ, i64_w, i32_w]
                        rfl
                      refine pure_ (i := 11) (N := some 24) (v := ?_) (a' := ?_) #[true, true, true, true, true, true, true, true, false, true, false, true, false, false, false, false, false, false, false, false] rfl rfl (any_of HT_.out (by kernel_rfl)) (fun _ _ _ h => h) (Or.inl ⟨by rfl, ?_⟩) ?_ ?_
                      rotate_left
                      · intro w'
                        go_simp
                        with_reducible rfl
                      rotate_left
                      · simp only [Act.put, List.setIfInBounds_toArray, List.set_cons_zero, List.set_cons_succ, i64_w, i32_w]
                        rfl
                      refine pure_ (i := 12) (N := some 25) (v := ?_) (a' := ?_) #[true, true, true, true, true, true, true, true, false, true, false, true, true, false, false, false, false, false, false, false] rfl rfl (any_of HT_.out (by kernel_rfl)) (fun _ _ _ h => h) (Or.inl ⟨by rfl, ?_⟩) ?_ ?_
                      rotate_left
                      · intro w'
                        go_simp
                        with_reducible rfl
                      rotate_left
                      · simp only [Act.put, List.setIfInBounds_toArray, List.set_cons_zero, List.set_cons_succ, i64_w, i32_w]
                        rfl
                      refine take_ (i := 8) (N := some 21) (v := ?_) (a' := ?_) #[true, true, true, true, true, true, true, true, true, true, false, true, true, false, false, false, false, false, false, false] rfl rfl (take_ofW HT_.out HW_.out (by kernel_rfl)) (fun _ _ _ h => h) (Or.inl ⟨by rfl, ?_⟩) hHeld ?_ ?_
                      rotate_left
                      · rintro w' ⟨s0, s1, s2, s3, s4⟩
                        go_simp
                        with_reducible rfl
                      rotate_left
                      · simp only [Act.put, List.setIfInBounds_toArray, List.set_cons_zero, List.set_cons_succ, i64_w, i32_w]
                        rfl
                      refine take_ (i := 10) (N := some 23) (v := ?_) (a' := ?_) #[true, true, true, true, true, true, true, true, true, true, true, true, true, false, false, false, false, false, false, false] rfl rfl (take_ofW HT_.out HW_.out (by kernel_rfl)) (fun _ _ _ h => h) (Or.inl ⟨by rfl, ?_⟩) hHeld ?_ ?_
                      rotate_left
                      · rintro w' ⟨s0, s1, s2, s3, s4⟩
                        go_simp
                        with_reducible rfl
                      rotate_left
                      · simp only [Act.put, List.setIfInBounds_toArray, List.set_cons_zero, List.set_cons_succ, i64_w, i32_w]
                        rfl
                      refine pure_ (i := 13) (N := some 26) (v := ?_) (a' := ?_) #[true, true, true, true, true, true, true, true, true, true, true, true, true, true, false, false, false, false, false, false] rfl rfl (any_of HT_.out (by kernel_rfl)) (fun _ _ _ h => h) (Or.inl ⟨by rfl, ?_⟩) ?_ ?_
                      rotate_left
                      · intro w'
                        go_simp
                        with_reducible rfl
                      rotate_left
                      · simp only [Act.put, List.setIfInBounds_toArray, List.set_cons_zero, List.set_cons_succ, i64_w, i32_w]
                        rfl
                      refine pure_ (i := 14) (N := some 27) (v := ?_) (a' := ?_) #[true, true, true, true, true, true, true, true, true, true, true, true, true, true, true, false, false, false, false, false] rfl rfl (any_of HT_.out (by kernel_rfl)) (fun _ _ _ h => h) (Or.inl ⟨by rfl, ?_⟩) ?_ ?_
                      rotate_left
                      · intro w'
                        go_simp
                        with_reducible rfl
                      rotate_left
                      · simp only [Act.put, List.setIfInBounds_toArray, List.set_cons_zero, List.set_cons_succ, i64_w, i32_w]
                        rfl
                      refine take_ (i := 15) (N := some 28) (v := ?_) (a' := ?_) #[true, true, true, true, true, true, true, true, true, true, true, true, true, true, true, true, false, false, false, false] rfl rfl (take_ofW HT_.out HW_.out (by kernel_rfl)) (fun _ _ _ h => h) (Or.inl ⟨by rfl, ?_⟩) hHeld ?_ ?_
                      rotate_left
                      · rintro w' ⟨s0, s1, s2, s3, s4⟩
                        go_simp
                        with_reducible rfl
                      rotate_left
                      · simp only [Act.put, List.setIfInBounds_toArray, List.set_cons_zero, List.set_cons_succ, i64_w, i32_w]
                        rfl
                      refine pure_ (i := 16) (N := some 29) (v := ?_) (a' := ?_) #[true, true, true, true, true, true, true, true, true, true, true, true, true, true, true, true, true, false, false, false] rfl rfl (any_of HT_.out (by kernel_rfl)) (fun _ _ _ h => h) (Or.inl ⟨by rfl, ?_⟩) ?_ ?_
                      rotate_left
                      · intro w'
                        go_simp
                        with_reducible rfl
                      rotate_left
                      · simp only [Act.put, List.setIfInBounds_toArray, List.set_cons_zero, List.set_cons_succ, i64_w, i32_w]
                        rfl
                      refine pure_ (i := 17) (N := some 30) (v := ?_) (a' := ?_) #[true, true, true, true, true, true, true, true, true, true, true, true, true, true, true, true, true, true, false, false] rfl rfl (any_of HT_.out (by kernel_rfl)) (fun _ _ _ h => h) (Or.inl ⟨by rfl, ?_⟩) ?_ ?_
                      rotate_left
                      · intro w'
                        go_simp
                        with_reducible rfl
                      rotate_left
                      · simp only [Act.put, List.setIfInBounds_toArray, List.set_cons_zero, List.set_cons_succ, i64_w, i32_w]
                        rfl
                      refine pure_ (i := 18) (N := some 31) (v := ?_) (a' := ?_) #[true, true, true, true, true, true, true, true, true, true, true, true, true, true, true, true, true, true, true, false] rfl rfl (any_of HT_.out (by kernel_rfl)) (fun _ _ _ h => h) (Or.inl ⟨by rfl, ?_⟩) ?_ ?_
                      rotate_left
                      · intro w'
                        go_simp
                        with_reducible rfl
                      rotate_left
                      · simp only [Act.put, List.setIfInBounds_toArray, List.set_cons_zero, List.set_cons_succ, i64_w, i32_w]
                        rfl
                      refine pure_ (i := 19) (N := some 32) (v := ?_) (a' := ?_) #[true, true, true, true, true, true, true, true, true, true, true, true, true, true, true, true, true, true, true, true] rfl rfl (any_of HT_.out (by kernel_rfl)) (fun _ _ _ h => h) (Or.inl ⟨by rfl, ?_⟩) ?_ ?_
                      rotate_left
                      · intro w'
                        go_simp
                        with_reducible rfl
                      rotate_left
                      · simp only [Act.put, List.setIfInBounds_toArray, List.set_cons_zero, List.set_cons_succ, i64_w, i32_w]
                        rfl
                      refine done_ (done_of HT_.out (by kernel_rfl)) ?_
                      try go_wp2
                      go_roundg k1
                      case measure => have := HK1.out; omega
                      case rel => exact ⟨(wrap64 (x8_1 + 1)), (by first | rfl | (simp; done) | (simp [*]; done)), H', ⟨by have := HK1.out; omega⟩, ⟨by (with_reducible repeat (first | refine blk_drewN ?_ _ | refine blk_drew ?_ | refine blk_alloc ?_ _)); exact BK143.out⟩, ⟨by repeat (first | (with_reducible first | exact HB.out | apply below_alloc | apply pw_below_drewN | apply below_drew1 | refine below_set ?_ GE143.out | refine below_set ?_ GE145.out) | exact HB.out)⟩⟩
                  · rw [if_neg c12] at H
                    exact absurd H (by simp)
                · rw [if_neg c11] at H
                  exact absurd H (by simp)
              · rw [if_neg c9] at H
                have c9b0 : decide (0 < x8_1) = false := decide_eq_false c9
                clear c9
                have H' := Aside0.mk H
                clear H
                have p144 : 0 ≤ (x8_1 : Int) := of_decide_eq_true (by first | (with_reducible assumption) | assumption)
                have q144 : x8_1 < (l0_0.length : Int) := of_decide_eq_true (by first | (with_reducible assumption) | assumption)
                obtain ⟨ad144, e144, hx144_0, hx144_1⟩ := at_T56 HR0_0.out x8_1 p144 q144
                cases e144
                replace hx144_0 := (HB.out.cell (World.block_lt_of_cell? w _ hx144_0)).trans hx144_0
                replace hx144_1 := (HB.out.cell (World.block_lt_of_cell? w _ hx144_1)).trans hx144_1
                replace p144 := eq_true p144
                replace q144 := eq_true q144
                try go_wp2_with (first | ((with_reducible refine gate_dst (N := 4) rfl ?_); refine box_event ?hg (N := 4) ?hd (cs := #[.int .i64 0, .int .i64 0]) (t := 56) ?hr ?_; (case hd => rfl); (case hg => rfl); (case hr => first | (go_simp; done) | (go_simp; rfl)); intro gb145 hg w26 hbox hb; have n0_ := Aside0.mk (blk_below (g := gb143) (o := .cells #[.slice (some ad144) l0_0.length c0_0] 42 (0, 0)) (by (with_reducible repeat (first | refine blk_drewN ?_ _ | refine blk_drew ?_ | refine blk_alloc ?_ _)); exact BK143.out) hb); have n1_ := Aside0.mk (below_step (by repeat (first | (with_reducible first | exact HB.out | apply below_alloc | apply pw_below_drewN | apply below_drew1 | refine below_set ?_ GE143.out) | exact HB.out)) hb); have n2_ := Aside0.mk (hbox); have n3_ := Aside0.mk ((by rw [hg]; exact (below_size (by repeat (first | (with_reducible first | exact HB.out | apply below_alloc | apply pw_below_drewN | apply below_drew1 | refine below_set ?_ GE143.out) | exact HB.out))) : w.heap.size ≤ gb145)); have n4_ := Aside0.mk ((by rw [hg]; exact (below_size (by repeat (first | (with_reducible first | exact HB.out | apply below_alloc | apply pw_below_drewN | apply below_drew1 | refine below_set ?_ GE143.out) | exact HB.out))) : w.heap.size ≤ gb145)); have n5_ := Aside0.mk ((by rw [hg]; exact Nat.ne_of_lt (blk_lt (g := gb143) (o := .cells #[.slice (some ad144) l0_0.length c0_0] 42 (0, 0)) (by (with_reducible repeat (first | refine blk_drewN ?_ _ | refine blk_drew ?_ | refine blk_alloc ?_ _)); exact BK143.out)) : gb143 ≠ gb145)); have n6_ := Aside0.mk ((by rw [hg]; exact Nat.ne_of_gt (blk_lt (g := gb143) (o := .cells #[.slice (some ad144) l0_0.length c0_0] 42 (0, 0)) (by (with_reducible repeat (first | refine blk_drewN ?_ _ | refine blk_drew ?_ | refine blk_alloc ?_ _)); exact BK143.out)) : gb145 ≠ gb143)); clear BK143; clear HB; have BK143 := n0_; have HB := n1_; have BK145 := n2_; have GW145 := n3_; have GE145 := n4_; have NB143_145 := n5_; have NB145_143 := n6_; clear n0_ n1_ n2_ n3_ n4_ n5_ n6_; clear hb hbox hg; have hnb27 := NB145_143.out; have hnc27 := NB143_145.out; have hcz28_0 : w26.cell? ⟨gb145, 0, none⟩ = some (.int .i64 0) := (blk_cell BK145.out 0).trans rfl; have hcz28_1 : w26.cell? ⟨gb145, 1, none⟩ = some (.int .i64 0) := (blk_cell BK145.out 1).trans rfl; have hfz28_0 := blk_frozen BK145.out 0; have hfz28_1 := blk_frozen BK145.out 1))
                have n0_ : Aside0 (((w26.setCell ⟨gb145, 0, none⟩ (.int .i64 ((rd_T56 l0_0 x8_1).f0))).setCell ⟨gb145, 1, none⟩ (.int .i64 ((rd_T56 l0_0 x8_1).f1))).heap[gb143]? = some (.cells #[.slice (some ad144) l0_0.length c0_0] 42 (0, 0))) := ⟨by (with_reducible repeat (first | refine blk_drewN ?_ _ | refine blk_drew ?_ | refine blk_alloc ?_ _)); refine blk_far ?_ NB143_145.out _; (with_reducible repeat (first | refine blk_drewN ?_ _ | refine blk_drew ?_ | refine blk_alloc ?_ _)); refine blk_far ?_ NB143_145.out _; (with_reducible repeat (first | refine blk_drewN ?_ _ | refine blk_drew ?_ | refine blk_alloc ?_ _)); exact BK143.out⟩
                have n1_ : Aside0 (((w26.setCell ⟨gb145, 0, none⟩ (.int .i64 ((rd_T56 l0_0 x8_1).f0))).setCell ⟨gb145, 1, none⟩ (.int .i64 ((rd_T56 l0_0 x8_1).f1))).heap[gb145]? = some (.cells #[.int .i64 ((rd_T56 l0_0 x8_1).f0), .int .i64 ((rd_T56 l0_0 x8_1).f1)] 56 (0, 0))) := ⟨by (with_reducible repeat (first | refine blk_drewN ?_ _ | refine blk_drew ?_ | refine blk_alloc ?_ _)); refine blk_put (cs := #[.int .i64 ((rd_T56 l0_0 x8_1).f0), .int .i64 0]) ?_ 1 _ rfl; (with_reducible repeat (first | refine blk_drewN ?_ _ | refine blk_drew ?_ | refine blk_alloc ?_ _)); refine blk_put (cs := #[.int .i64 0, .int .i64 0]) ?_ 0 _ rfl; (with_reducible repeat (first | refine blk_drewN ?_ _ | refine blk_drew ?_ | refine blk_alloc ?_ _)); exact BK145.out⟩
                have n2_ : Aside0 (Below w.heap.size w ((w26.setCell ⟨gb145, 0, none⟩ (.int .i64 ((rd_T56 l0_0 x8_1).f0))).setCell ⟨gb145, 1, none⟩ (.int .i64 ((rd_T56 l0_0 x8_1).f1)))) := ⟨by repeat (first | (with_reducible first | exact HB.out | apply below_alloc | apply pw_below_drewN | apply below_drew1 | refine below_set ?_ GE143.out | refine below_set ?_ GE145.out) | exact HB.out)⟩
                (try clear BK143)
                (try clear BK145)
                (try clear HB)
                generalize ((w26.setCell ⟨gb145, 0, none⟩ (.int .i64 ((rd_T56 l0_0 x8_1).f0))).setCell ⟨gb145, 1, none⟩ (.int .i64 ((rd_T56 l0_0 x8_1).f1))) = w29 at n0_ n1_ n2_ ⊢
                have BK143 := n0_
                have BK145 := n1_
                have HB := n2_
                clear n0_ n1_ n2_
                have n0_ := Aside0.mk (blk_drew BK143.out)
                have n1_ := Aside0.mk (blk_drew BK145.out)
                have n2_ := Aside0.mk (below_drew1 HB.out)
                clear BK143
                clear BK145
                clear HB
                have BK143 := n0_
                have BK145 := n1_
                have HB := n2_
                clear n0_ n1_ n2_
                refine start_ (n := 20) (S := fun w' => w'.cell? ⟨gb145, 0, none⟩ = some (.int .i64 ((rd_T56 l0_0 x8_1).f0)) ∧ w'.cell? ⟨gb145, 1, none⟩ = some (.int .i64 ((rd_T56 l0_0 x8_1).f1))) (ds := []) #[false, false, false, false, false, false, false, false, false, false, false, false, false, false, false, false, false, false, false, false] (by kernel_rfl) rfl rfl ⟨(blk_cell BK145.out 0).trans rfl, (blk_cell BK145.out 1).trans rfl⟩ (fun hHeld => ?_); refine with_tabW intset_Valid.tab4 intset_Valid.bits4 (fun HT_ HW_ => ?_)
                generalize w29.drew = w30 at BK143 BK145 HB hHeld ⊢
                refine take_ (i := 0) (N := some 13) (v := ?_) (a' := ?_) #[true, false, false, false, false, false, false, false, false, false, false, false, false, false, false, false, false, false, false, false] rfl rfl (take_ofW HT_.out HW_.out (by kernel_rfl)) (fun _ _ _ h => h) (Or.inl ⟨by rfl, ?_⟩) hHeld ?_ ?_
                rotate_left
                · rintro w' ⟨s0, s1⟩
                  go_simp
                  with_reducible rfl
                rotate_left
                · simp only [Act.put, List.setIfInBounds_toArray, List.set_cons_zero, List.set_cons_succ, i64_w, i32_w]
                  rfl
                refine one_ (i := 1) (N := some 14) #[true, true, false, false, false, false, false, false, false, false, false, false, false, false, false, false, false, false, false, false] rfl rfl (one_of HT_.out (by kernel_rfl)) (by decide) (fun K hK => ?_)
                refine goes_ Try.func84 (by kernel_rfl) rfl #[.agg #[.int .i64 ((rd_T56 l0_0 x8_1).f0), .int .i64 ((rd_T56 l0_0 x8_1).f1)]] (by rfl) rfl rfl (by (try simp only [List.map_toArray, List.map_cons, List.map_nil]); first | done | rfl | (simp only [List.length_drop, List.length_take]; rfl)) ?_
                with_reducible refine (intset_fine.calls ((rd_T56 l0_0 x8_1).f0) ((rd_T56 l0_0 x8_1).f1) true _ A7.out).mono ?_
                rintro e w31 ⟨rfl, hb⟩
                refine ⟨_, rfl, ?_⟩
                have n0_ := Aside0.mk (blk_below (g := gb143) (o := .cells #[.slice (some ad144) l0_0.length c0_0] 42 (0, 0)) (by (with_reducible repeat (first | refine blk_drewN ?_ _ | refine blk_drew ?_ | refine blk_alloc ?_ _)); exact BK143.out) hb)
                have n1_ := Aside0.mk (blk_below (g := gb145) (o := .cells #[.int .i64 ((rd_T56 l0_0 x8_1).f0), .int .i64 ((rd_T56 l0_0 x8_1).f1)] 56 (0, 0)) (by (with_reducible repeat (first | refine blk_drewN ?_ _ | refine blk_drew ?_ | refine blk_alloc ?_ _)); exact BK145.out) hb)
                have n2_ := Aside0.mk (below_step (by repeat (first | (with_reducible first | exact HB.out | apply below_alloc | apply pw_below_drewN | apply below_drew1 | refine below_set ?_ GE143.out | refine below_set ?_ GE145.out) | exact HB.out)) hb)
                clear BK143
                clear BK145
                clear HB
                have BK143 := n0_
                have BK145 := n1_
                have HB := n2_
                clear n0_ n1_ n2_
                (try clear hb)
                (try clear hb2)
                (try clear hk)
                (try clear hi)
                refine hK.out _ _ ⟨(blk_cell BK145.out 0).trans rfl, (blk_cell BK145.out 1).trans rfl⟩ (fun hHeld => ?_)
                clear hK K
                refine norm_ (a' := ?_) ?_ ?_
                rotate_left
                · show Act.put _ (some 14) _ = _
                  simp only [Act.put, List.setIfInBounds_toArray, List.set_cons_zero, List.set_cons_succ, i64_w, i32_w]
                  rfl
                refine pure_ (i := 2) (N := some 15) (v := ?_) (a' := ?_) #[true, true, true, false, false, false, false, false, false, false, false, false, false, false, false, false, false, false, false, false] rfl rfl (any_of HT_.out (by kernel_rfl)) (fun _ _ _ h => h) (Or.inl ⟨by rfl, ?_⟩) ?_ ?_
                rotate_left
                · intro w'
                  go_simp
                  with_reducible rfl
                rotate_left
                · simp only [Act.put, List.setIfInBounds_toArray, List.set_cons_zero, List.set_cons_succ, i64_w, i32_w]
                  rfl
                refine pure_ (i := 3) (N := some 16) (v := ?_) (a' := ?_) #[true, true, true, true, false, false, false, false, false, false, false, false, false, false, false, false, false, false, false, false] rfl rfl (any_of HT_.out (by kernel_rfl)) (fun _ _ _ h => h) (Or.inl ⟨by rfl, ?_⟩) ?_ ?_
                rotate_left
                · intro w'
                  go_simp
                  with_reducible rfl
                rotate_left
                · simp only [Act.put, List.setIfInBounds_toArray, List.set_cons_zero, List.set_cons_succ, i64_w, i32_w]
                  rfl
                refine pure_ (i := 4) (N := some 17) (v := ?_) (a' := ?_) #[true, true, true, true, true, false, false, false, false, false, false, false, false, false, false, false, false, false, false, false] rfl rfl (any_of HT_.out (by kernel_rfl)) (fun _ _ _ h => h) (Or.inl ⟨by rfl, ?_⟩) ?_ ?_
                rotate_left
                · intro w'
                  go_simp
                  with_reducible rfl
                rotate_left
                · simp only [Act.put, List.setIfInBounds_toArray, List.set_cons_zero, List.set_cons_succ, i64_w, i32_w]
                  rfl
                refine pure_ (i := 5) (N := some 18) (v := ?_) (a' := ?_) #[true, true, true, true, true, true, false, false, false, false, false, false, false, false, false, false, false, false, false, false] rfl rfl (any_of HT_.out (by kernel_rfl)) (fun _ _ _ h => h) (Or.inl ⟨by rfl, ?_⟩) ?_ ?_
                rotate_left
                · intro w'
                  go_simp
                  with_reducible rfl
                rotate_left
                · simp only [Act.put, List.setIfInBounds_toArray, List.set_cons_zero, List.set_cons_succ, i64_w, i32_w]
                  rfl
                refine pure_ (i := 6) (N := some 19) (v := ?_) (a' := ?_) #[true, true, true, true, true, true, true, false, false, false, false, false, false, false, false, false, false, false, false, false] rfl rfl (any_of HT_.out (by kernel_rfl)) (fun _ _ _ h => h) (Or.inl ⟨by rfl, ?_⟩) ?_ ?_
                rotate_left
                · intro w'
                  go_simp
                  with_reducible rfl
                rotate_left
                · simp only [Act.put, List.setIfInBounds_toArray, List.set_cons_zero, List.set_cons_succ, i64_w, i32_w]
                  rfl
                refine pure_ (i := 7) (N := some 20) (v := undef) (a' := ?_) #[true, true, true, true, true, true, true, true, false, false, false, false, false, false, false, false, false, false, false, false] rfl rfl (any_of HT_.out (by kernel_rfl)) (fun _ _ _ h => h) (Or.inr ⟨by rfl, rfl⟩) ?_ ?_
                rotate_left
                · simp only [Act.put, List.setIfInBounds_toArray, List.set_cons_zero, List.set_cons_succ, i64_w, i32_w]
                  rfl
                refine pure_ (i := 8) (N := some 21) (v := undef) (a' := ?_) #[true, true, true, true, true, true, true, true, true, false, false, false, false, false, false, false, false, false, false, false] rfl rfl (any_of HT_.out (by kernel_rfl)) (fun _ _ _ h => h) (Or.inr ⟨by rfl, rfl⟩) ?_ ?_
                rotate_left
                · simp only [Act.put, List.setIfInBounds_toArray, List.set_cons_zero, List.set_cons_succ, i64_w, i32_w]
                  rfl
                refine pure_ (i := 9) (N := some 22) (v := undef) (a' := ?_) #[true, true, true, true, true, true, true, true, true, true, false, false, false, false, false, false, false, false, false, false] rfl rfl (any_of HT_.out (by kernel_rfl)) (fun _ _ _ h => h) (Or.inr ⟨by rfl, rfl⟩) ?_ ?_
                rotate_left
                · simp only [Act.put, List.setIfInBounds_toArray, List.set_cons_zero, List.set_cons_succ, i64_w, i32_w]
                  rfl
                refine pure_ (i := 10) (N := some 23) (v := undef) (a' := ?_) #[true, true, true, true, true, true, true, true, true, true, true, false, false, false, false, false, false, false, false, false] rfl rfl (any_of HT_.out (by kernel_rfl)) (fun _ _ _ h => h) (Or.inr ⟨by rfl, rfl⟩) ?_ ?_
                rotate_left
                · simp only [Act.put, List.setIfInBounds_toArray, List.set_cons_zero, List.set_cons_succ, i64_w, i32_w]
                  rfl
                refine pure_ (i := 11) (N := some 24) (v := undef) (a' := ?_) #[true, true, true, true, true, true, true, true, true, true, true, true, false, false, false, false, false, false, false, false] rfl rfl (any_of HT_.out (by kernel_rfl)) (fun _ _ _ h => h) (Or.inr ⟨by rfl, rfl⟩) ?_ ?_
                rotate_left
                · simp only [Act.put, List.setIfInBounds_toArray, List.set_cons_zero, List.set_cons_succ, i64_w, i32_w]
                  rfl
                refine pure_ (i := 12) (N := some 25) (v := undef) (a' := ?_) #[true, true, true, true, true, true, true, true, true, true, true, true, true, false, false, false, false, false, false, false] rfl rfl (any_of HT_.out (by kernel_rfl)) (fun _ _ _ h => h) (Or.inr ⟨by rfl, rfl⟩) ?_ ?_
                rotate_left
                · simp only [Act.put, List.setIfInBounds_toArray, List.set_cons_zero, List.set_cons_succ, i64_w, i32_w]
                  rfl
                refine pure_ (i := 13) (N := some 26) (v := undef) (a' := ?_) #[true, true, true, true, true, true, true, true, true, true, true, true, true, true, false, false, false, false, false, false] rfl rfl (any_of HT_.out (by kernel_rfl)) (fun _ _ _ h => h) (Or.inr ⟨by rfl, rfl⟩) ?_ ?_
                rotate_left
                · simp only [Act.put, List.setIfInBounds_toArray, List.set_cons_zero, List.set_cons_succ, i64_w, i32_w]
                  rfl
                refine pure_ (i := 14) (N := some 27) (v := undef) (a' := ?_) #[true, true, true, true, true, true, true, true, true, true, true, true, true, true, true, false, false, false, false, false] rfl rfl (any_of HT_.out (by kernel_rfl)) (fun _ _ _ h => h) (Or.inr ⟨by rfl, rfl⟩) ?_ ?_
                rotate_left
                · simp only [Act.put, List.setIfInBounds_toArray, List.set_cons_zero, List.set_cons_succ, i64_w, i32_w]
                  rfl
                refine pure_ (i := 15) (N := some 28) (v := undef) (a' := ?_) #[true, true, true, true, true, true, true, true, true, true, true, true, true, true, true, true, false, false, false, false] rfl rfl (any_of HT_.out (by kernel_rfl)) (fun _ _ _ h => h) (Or.inr ⟨by rfl, rfl⟩) ?_ ?_
                rotate_left
                · simp only [Act.put, List.setIfInBounds_toArray, List.set_cons_zero, List.set_cons_succ, i64_w, i32_w]
                  rfl
                refine pure_ (i := 16) (N := some 29) (v := undef) (a' := ?_) #[true, true, true, true, true, true, true, true, true, true, true, true, true, true, true, true, true, false, false, false] rfl rfl (any_of HT_.out (by kernel_rfl)) (fun _ _ _ h => h) (Or.inr ⟨by rfl, rfl⟩) ?_ ?_
                rotate_left
                · simp only [Act.put, List.setIfInBounds_toArray, List.set_cons_zero, List.set_cons_succ, i64_w, i32_w]
                  rfl
                refine pure_ (i := 17) (N := some 30) (v := undef) (a' := ?_) #[true, true, true, true, true, true, true, true, true, true, true, true, true, true, true, true, true, true, false, false] rfl rfl (any_of HT_.out (by kernel_rfl)) (fun _ _ _ h => h) (Or.inr ⟨by rfl, rfl⟩) ?_ ?_
                rotate_left
                · simp only [Act.put, List.setIfInBounds_toArray, List.set_cons_zero, List.set_cons_succ, i64_w, i32_w]
                  rfl
                refine pure_ (i := 18) (N := some 31) (v := ?_) (a' := ?_) #[true, true, true, true, true, true, true, true, true, true, true, true, true, true, true, true, true, true, true, false] rfl rfl (any_of HT_.out (by kernel_rfl)) (fun _ _ _ h => h) (Or.inl ⟨by rfl, ?_⟩) ?_ ?_
                rotate_left
                · intro w'
                  go_simp
                  with_reducible rfl
                rotate_left
                · simp only [Act.put, List.setIfInBounds_toArray, List.set_cons_zero, List.set_cons_succ, i64_w, i32_w]
                  rfl
                refine pure_ (i := 19) (N := some 32) (v := ?_) (a' := ?_) #[true, true, true, true, true, true, true, true, true, true, true, true, true, true, true, true, true, true, true, true] rfl rfl (any_of HT_.out (by kernel_rfl)) (fun _ _ _ h => h) (Or.inl ⟨by rfl, ?_⟩) ?_ ?_
                rotate_left
                · intro w'
                  go_simp
                  with_reducible rfl
                rotate_left
                · simp only [Act.put, List.setIfInBounds_toArray, List.set_cons_zero, List.set_cons_succ, i64_w, i32_w]
                  rfl
                refine done_ (done_of HT_.out (by kernel_rfl)) ?_
                try go_wp2
                go_roundg k1
                case measure => have := HK1.out; omega
                case rel => exact ⟨(wrap64 (x8_1 + 1)), (by first | rfl | (simp; done) | (simp [*]; done)), H', ⟨by have := HK1.out; omega⟩, ⟨by (with_reducible repeat (first | refine blk_drewN ?_ _ | refine blk_drew ?_ | refine blk_alloc ?_ _)); exact BK143.out⟩, ⟨by repeat (first | (with_reducible first | exact HB.out | apply below_alloc | apply pw_below_drewN | apply below_drew1 | refine below_set ?_ GE143.out | refine below_set ?_ GE145.out) | exact HB.out)⟩⟩
            · replace c8 := Bool.eq_false_iff.mpr c8
              subst c8
              have H1 : (some false) = some r := by rw [if_neg (show ¬ (false = true) by decide)] at H; exact H
              clear H
              have H := H1
              clear H1
              obtain rfl := Option.some.inj H
              have p144 : 0 ≤ (x8_1 : Int) := of_decide_eq_true (by first | (with_reducible assumption) | assumption)
              have q144 : x8_1 < (l0_0.length : Int) := of_decide_eq_true (by first | (with_reducible assumption) | assumption)
              obtain ⟨ad144, e144, hx144_0, hx144_1⟩ := at_T56 HR0_0.out x8_1 p144 q144
              cases e144
              replace hx144_0 := (HB.out.cell (World.block_lt_of_cell? w _ hx144_0)).trans hx144_0
              replace hx144_1 := (HB.out.cell (World.block_lt_of_cell? w _ hx144_1)).trans hx144_1
              replace p144 := eq_true p144
              replace q144 := eq_true q144
              try go_wp2_with (first | ((with_reducible refine gate_dst (N := 4) rfl ?_); refine box_event ?hg (N := 4) ?hd (cs := #[.int .i64 0, .int .i64 0]) (t := 56) ?hr ?_; (case hd => rfl); (case hg => rfl); (case hr => first | (go_simp; done) | (go_simp; rfl)); intro gb145 hg w32 hbox hb; have n0_ := Aside0.mk (blk_below (g := gb143) (o := .cells #[.slice (some ad144) l0_0.length c0_0] 42 (0, 0)) (by (with_reducible repeat (first | refine blk_drewN ?_ _ | refine blk_drew ?_ | refine blk_alloc ?_ _)); exact BK143.out) hb); have n1_ := Aside0.mk (below_step (by repeat (first | (with_reducible first | exact HB.out | apply below_alloc | apply pw_below_drewN | apply below_drew1 | refine below_set ?_ GE143.out) | exact HB.out)) hb); have n2_ := Aside0.mk (hbox); have n3_ := Aside0.mk ((by rw [hg]; exact (below_size (by repeat (first | (with_reducible first | exact HB.out | apply below_alloc | apply pw_below_drewN | apply below_drew1 | refine below_set ?_ GE143.out) | exact HB.out))) : w.heap.size ≤ gb145)); have n4_ := Aside0.mk ((by rw [hg]; exact (below_size (by repeat (first | (with_reducible first | exact HB.out | apply below_alloc | apply pw_below_drewN | apply below_drew1 | refine below_set ?_ GE143.out) | exact HB.out))) : w.heap.size ≤ gb145)); have n5_ := Aside0.mk ((by rw [hg]; exact Nat.ne_of_lt (blk_lt (g := gb143) (o := .cells #[.slice (some ad144) l0_0.length c0_0] 42 (0, 0)) (by (with_reducible repeat (first | refine blk_drewN ?_ _ | refine blk_drew ?_ | refine blk_alloc ?_ _)); exact BK143.out)) : gb143 ≠ gb145)); have n6_ := Aside0.mk ((by rw [hg]; exact Nat.ne_of_gt (blk_lt (g := gb143) (o := .cells #[.slice (some ad144) l0_0.length c0_0] 42 (0, 0)) (by (with_reducible repeat (first | refine blk_drewN ?_ _ | refine blk_drew ?_ | refine blk_alloc ?_ _)); exact BK143.out)) : gb145 ≠ gb143)); clear BK143; clear HB; have BK143 := n0_; have HB := n1_; have BK145 := n2_; have GW145 := n3_; have GE145 := n4_; have NB143_145 := n5_; have NB145_143 := n6_; clear n0_ n1_ n2_ n3_ n4_ n5_ n6_; clear hb hbox hg; have hnb33 := NB145_143.out; have hnc33 := NB143_145.out; have hcz34_0 : w32.cell? ⟨gb145, 0, none⟩ = some (.int .i64 0) := (blk_cell BK145.out 0).trans rfl; have hcz34_1 : w32.cell? ⟨gb145, 1, none⟩ = some (.int .i64 0) := (blk_cell BK145.out 1).trans rfl; have hfz34_0 := blk_frozen BK145.out 0; have hfz34_1 := blk_frozen BK145.out 1))
              have n0_ : Aside0 (((w32.setCell ⟨gb145, 0, none⟩ (.int .i64 ((rd_T56 l0_0 x8_1).f0))).setCell ⟨gb145, 1, none⟩ (.int .i64 ((rd_T56 l0_0 x8_1).f1))).heap[gb143]? = some (.cells #[.slice (some ad144) l0_0.length c0_0] 42 (0, 0))) := ⟨by (with_reducible repeat (first | refine blk_drewN ?_ _ | refine blk_drew ?_ | refine blk_alloc ?_ _)); refine blk_far ?_ NB143_145.out _; (with_reducible repeat (first | refine blk_drewN ?_ _ | refine blk_drew ?_ | refine blk_alloc ?_ _)); refine blk_far ?_ NB143_145.out _; (with_reducible repeat (first | refine blk_drewN ?_ _ | refine blk_drew ?_ | refine blk_alloc ?_ _)); exact BK143.out⟩
              have n1_ : Aside0 (((w32.setCell ⟨gb145, 0, none⟩ (.int .i64 ((rd_T56 l0_0 x8_1).f0))).setCell ⟨gb145, 1, none⟩ (.int .i64 ((rd_T56 l0_0 x8_1).f1))).heap[gb145]? = some (.cells #[.int .i64 ((rd_T56 l0_0 x8_1).f0), .int .i64 ((rd_T56 l0_0 x8_1).f1)] 56 (0, 0))) := ⟨by (with_reducible repeat (first | refine blk_drewN ?_ _ | refine blk_drew ?_ | refine blk_alloc ?_ _)); refine blk_put (cs := #[.int .i64 ((rd_T56 l0_0 x8_1).f0), .int .i64 0]) ?_ 1 _ rfl; (with_reducible repeat (first | refine blk_drewN ?_ _ | refine blk_drew ?_ | refine blk_alloc ?_ _)); refine blk_put (cs := #[.int .i64 0, .int .i64 0]) ?_ 0 _ rfl; (with_reducible repeat (first | refine blk_drewN ?_ _ | refine blk_drew ?_ | refine blk_alloc ?_ _)); exact BK145.out⟩
              have n2_ : Aside0 (Below w.heap.size w ((w32.setCell ⟨gb145, 0, none⟩ (.int .i64 ((rd_T56 l0_0 x8_1).f0))).setCell ⟨gb145, 1, none⟩ (.int .i64 ((rd_T56 l0_0 x8_1).f1)))) := ⟨by repeat (first | (with_reducible first | exact HB.out | apply below_alloc | apply pw_below_drewN | apply below_drew1 | refine below_set ?_ GE143.out | refine below_set ?_ GE145.out) | exact HB.out)⟩
              (try clear BK143)
              (try clear BK145)
              (try clear HB)
              generalize ((w32.setCell ⟨gb145, 0, none⟩ (.int .i64 ((rd_T56 l0_0 x8_1).f0))).setCell ⟨gb145, 1, none⟩ (.int .i64 ((rd_T56 l0_0 x8_1).f1))) = w35 at n0_ n1_ n2_ ⊢
              have BK143 := n0_
              have BK145 := n1_
              have HB := n2_
              clear n0_ n1_ n2_
              have n0_ := Aside0.mk (blk_drew BK143.out)
              have n1_ := Aside0.mk (blk_drew BK145.out)
              have n2_ := Aside0.mk (below_drew1 HB.out)
              clear BK143
              clear BK145
              clear HB
              have BK143 := n0_
              have BK145 := n1_
              have HB := n2_
              clear n0_ n1_ n2_
              refine start_ (n := 20) (S := fun w' => w'.cell? ⟨gb145, 0, none⟩ = some (.int .i64 ((rd_T56 l0_0 x8_1).f0)) ∧ w'.cell? ⟨gb145, 1, none⟩ = some (.int .i64 ((rd_T56 l0_0 x8_1).f1))) (ds := []) #[false, false, false, false, false, false, false, false, false, false, false, false, false, false, false, false, false, false, false, false] (by kernel_rfl) rfl rfl ⟨(blk_cell BK145.out 0).trans rfl, (blk_cell BK145.out 1).trans rfl⟩ (fun hHeld => ?_); refine with_tabW intset_Valid.tab4 intset_Valid.bits4 (fun HT_ HW_ => ?_)
              generalize w35.drew = w36 at BK143 BK145 HB hHeld ⊢
              refine take_ (i := 0) (N := some 13) (v := ?_) (a' := ?_) #[true, false, false, false, false, false, false, false, false, false, false, false, false, false, false, false, false, false, false, false] rfl rfl (take_ofW HT_.out HW_.out (by kernel_rfl)) (fun _ _ _ h => h) (Or.inl ⟨by rfl, ?_⟩) hHeld ?_ ?_
              rotate_left
              · rintro w' ⟨s0, s1⟩
                go_simp
                with_reducible rfl
              rotate_left
              · simp only [Act.put, List.setIfInBounds_toArray, List.set_cons_zero, List.set_cons_succ, i64_w, i32_w]
                rfl
              refine one_ (i := 1) (N := some 14) #[true, true, false, false, false, false, false, false, false, false, false, false, false, false, false, false, false, false, false, false] rfl rfl (one_of HT_.out (by kernel_rfl)) (by decide) (fun K hK => ?_)
              refine goes_ Try.func84 (by kernel_rfl) rfl #[.agg #[.int .i64 ((rd_T56 l0_0 x8_1).f0), .int .i64 ((rd_T56 l0_0 x8_1).f1)]] (by rfl) rfl rfl (by (try simp only [List.map_toArray, List.map_cons, List.map_nil]); first | done | rfl | (simp only [List.length_drop, List.length_take]; rfl)) ?_
              with_reducible refine (intset_fine.calls ((rd_T56 l0_0 x8_1).f0) ((rd_T56 l0_0 x8_1).f1) false _ A7.out).mono ?_
              rintro e w37 ⟨rfl, hb⟩
              refine ⟨_, rfl, ?_⟩
              have n0_ := Aside0.mk (blk_below (g := gb143) (o := .cells #[.slice (some ad144) l0_0.length c0_0] 42 (0, 0)) (by (with_reducible repeat (first | refine blk_drewN ?_ _ | refine blk_drew ?_ | refine blk_alloc ?_ _)); exact BK143.out) hb)
              have n1_ := Aside0.mk (blk_below (g := gb145) (o := .cells #[.int .i64 ((rd_T56 l0_0 x8_1).f0), .int .i64 ((rd_T56 l0_0 x8_1).f1)] 56 (0, 0)) (by (with_reducible repeat (first | refine blk_drewN ?_ _ | refine blk_drew ?_ | refine blk_alloc ?_ _)); exact BK145.out) hb)
              have n2_ := Aside0.mk (below_step (by repeat (first | (with_reducible first | exact HB.out | apply below_alloc | apply pw_below_drewN | apply below_drew1 | refine below_set ?_ GE143.out | refine below_set ?_ GE145.out) | exact HB.out)) hb)
              clear BK143
              clear BK145
              clear HB
              have BK143 := n0_
              have BK145 := n1_
              have HB := n2_
              clear n0_ n1_ n2_
              (try clear hb)
              (try clear hb2)
              (try clear hk)
              (try clear hi)
              refine hK.out _ _ ⟨(blk_cell BK145.out 0).trans rfl, (blk_cell BK145.out 1).trans rfl⟩ (fun hHeld => ?_)
              clear hK K
              refine norm_ (a' := ?_) ?_ ?_
              rotate_left
              · show Act.put _ (some 14) _ = _
                simp only [Act.put, List.setIfInBounds_toArray, List.set_cons_zero, List.set_cons_succ, i64_w, i32_w]
                rfl
              refine pure_ (i := 2) (N := some 15) (v := ?_) (a' := ?_) #[true, true, true, false, false, false, false, false, false, false, false, false, false, false, false, false, false, false, false, false] rfl rfl (any_of HT_.out (by kernel_rfl)) (fun _ _ _ h => h) (Or.inl ⟨by rfl, ?_⟩) ?_ ?_
              rotate_left
              · intro w'
                go_simp
                with_reducible rfl
              rotate_left
              · simp only [Act.put, List.setIfInBounds_toArray, List.set_cons_zero, List.set_cons_succ, i64_w, i32_w]
                rfl
              refine pure_ (i := 3) (N := some 16) (v := ?_) (a' := ?_) #[true, true, true, true, false, false, false, false, false, false, false, false, false, false, false, false, false, false, false, false] rfl rfl (any_of HT_.out (by kernel_rfl)) (fun _ _ _ h => h) (Or.inl ⟨by rfl, ?_⟩) ?_ ?_
              rotate_left
              · intro w'
                go_simp
                with_reducible rfl
              rotate_left
              · simp only [Act.put, List.setIfInBounds_toArray, List.set_cons_zero, List.set_cons_succ, i64_w, i32_w]
                rfl
              refine pure_ (i := 4) (N := some 17) (v := undef) (a' := ?_) #[true, true, true, true, true, false, false, false, false, false, false, false, false, false, false, false, false, false, false, false] rfl rfl (any_of HT_.out (by kernel_rfl)) (fun _ _ _ h => h) (Or.inr ⟨by rfl, rfl⟩) ?_ ?_
              rotate_left
              · simp only [Act.put, List.setIfInBounds_toArray, List.set_cons_zero, List.set_cons_succ, i64_w, i32_w]
                rfl
              refine pure_ (i := 5) (N := some 18) (v := undef) (a' := ?_) #[true, true, true, true, true, true, false, false, false, false, false, false, false, false, false, false, false, false, false, false] rfl rfl (any_of HT_.out (by kernel_rfl)) (fun _ _ _ h => h) (Or.inr ⟨by rfl, rfl⟩) ?_ ?_
              rotate_left
              · simp only [Act.put, List.setIfInBounds_toArray, List.set_cons_zero, List.set_cons_succ, i64_w, i32_w]
                rfl
              refine pure_ (i := 6) (N := some 19) (v := undef) (a' := ?_) #[true, true, true, true, true, true, true, false, false, false, false, false, false, false, false, false, false, false, false, false] rfl rfl (any_of HT_.out (by kernel_rfl)) (fun _ _ _ h => h) (Or.inr ⟨by rfl, rfl⟩) ?_ ?_
              rotate_left
              · simp only [Act.put, List.setIfInBounds_toArray, List.set_cons_zero, List.set_cons_succ, i64_w, i32_w]
                rfl
              refine pure_ (i := 7) (N := some 20) (v := undef) (a' := ?_) #[true, true, true, true, true, true, true, true, false, false, false, false, false, false, false, false, false, false, false, false] rfl rfl (any_of HT_.out (by kernel_rfl)) (fun _ _ _ h => h) (Or.inr ⟨by rfl, rfl⟩) ?_ ?_
              rotate_left
              · simp only [Act.put, List.setIfInBounds_toArray, List.set_cons_zero, List.set_cons_succ, i64_w, i32_w]
                rfl
              refine pure_ (i := 8) (N := some 21) (v := undef) (a' := ?_) #[true, true, true, true, true, true, true, true, true, false, false, false, false, false, false, false, false, false, false, false] rfl rfl (any_of HT_.out (by kernel_rfl)) (fun _ _ _ h => h) (Or.inr ⟨by rfl, rfl⟩) ?_ ?_
              rotate_left
              · simp only [Act.put, List.setIfInBounds_toArray, List.set_cons_zero, List.set_cons_succ, i64_w, i32_w]
                rfl
              refine pure_ (i := 9) (N := some 22) (v := undef) (a' := ?_) #[true, true, true, true, true, true, true, true, true, true, false, false, false, false, false, false, false, false, false, false] rfl rfl (any_of HT_.out (by kernel_rfl)) (fun _ _ _ h => h) (Or.inr ⟨by rfl, rfl⟩) ?_ ?_
              rotate_left
              · simp only [Act.put, List.setIfInBounds_toArray, List.set_cons_zero, List.set_cons_succ, i64_w, i32_w]
                rfl
              refine pure_ (i := 10) (N := some 23) (v := undef) (a' := ?_) #[true, true, true, true, true, true, true, true, true, true, true, false, false, false, false, false, false, false, false, false] rfl rfl (any_of HT_.out (by kernel_rfl)) (fun _ _ _ h => h) (Or.inr ⟨by rfl, rfl⟩) ?_ ?_
              rotate_left
              · simp only [Act.put, List.setIfInBounds_toArray, List.set_cons_zero, List.set_cons_succ, i64_w, i32_w]
                rfl
              refine pure_ (i := 11) (N := some 24) (v := undef) (a' := ?_) #[true, true, true, true, true, true, true, true, true, true, true, true, false, false, false, false, false, false, false, false] rfl rfl (any_of HT_.out (by kernel_rfl)) (fun _ _ _ h => h) (Or.inr ⟨by rfl, rfl⟩) ?_ ?_
              rotate_left
              · simp only [Act.put, List.setIfInBounds_toArray, List.set_cons_zero, List.set_cons_succ, i64_w, i32_w]
                rfl
              refine pure_ (i := 12) (N := some 25) (v := undef) (a' := ?_) #[true, true, true, true, true, true, true, true, true, true, true, true, true, false, false, false, false, false, false, false] rfl rfl (any_of HT_.out (by kernel_rfl)) (fun _ _ _ h => h) (Or.inr ⟨by rfl, rfl⟩) ?_ ?_
              rotate_left
              · simp only [Act.put, List.setIfInBounds_toArray, List.set_cons_zero, List.set_cons_succ, i64_w, i32_w]
                rfl
              refine pure_ (i := 13) (N := some 26) (v := undef) (a' := ?_) #[true, true, true, true, true, true, true, true, true, true, true, true, true, true, false, false, false, false, false, false] rfl rfl (any_of HT_.out (by kernel_rfl)) (fun _ _ _ h => h) (Or.inr ⟨by rfl, rfl⟩) ?_ ?_
              rotate_left
              · simp only [Act.put, List.setIfInBounds_toArray, List.set_cons_zero, List.set_cons_succ, i64_w, i32_w]
                rfl
              refine pure_ (i := 14) (N := some 27) (v := undef) (a' := ?_) #[true, true, true, true, true, true, true, true, true, true, true, true, true, true, true, false, false, false, false, false] rfl rfl (any_of HT_.out (by kernel_rfl)) (fun _ _ _ h => h) (Or.inr ⟨by rfl, rfl⟩) ?_ ?_
              rotate_left
              · simp only [Act.put, List.setIfInBounds_toArray, List.set_cons_zero, List.set_cons_succ, i64_w, i32_w]
                rfl
              refine pure_ (i := 15) (N := some 28) (v := undef) (a' := ?_) #[true, true, true, true, true, true, true, true, true, true, true, true, true, true, true, true, false, false, false, false] rfl rfl (any_of HT_.out (by kernel_rfl)) (fun _ _ _ h => h) (Or.inr ⟨by rfl, rfl⟩) ?_ ?_
              rotate_left
              · simp only [Act.put, List.setIfInBounds_toArray, List.set_cons_zero, List.set_cons_succ, i64_w, i32_w]
                rfl
              refine pure_ (i := 16) (N := some 29) (v := undef) (a' := ?_) #[true, true, true, true, true, true, true, true, true, true, true, true, true, true, true, true, true, false, false, false] rfl rfl (any_of HT_.out (by kernel_rfl)) (fun _ _ _ h => h) (Or.inr ⟨by rfl, rfl⟩) ?_ ?_
              rotate_left
              · simp only [Act.put, List.setIfInBounds_toArray, List.set_cons_zero, List.set_cons_succ, i64_w, i32_w]
                rfl
              refine pure_ (i := 17) (N := some 30) (v := undef) (a' := ?_) #[true, true, true, true, true, true, true, true, true, true, true, true, true, true, true, true, true, true, false, false] rfl rfl (any_of HT_.out (by kernel_rfl)) (fun _ _ _ h => h) (Or.inr ⟨by rfl, rfl⟩) ?_ ?_
              rotate_left
              · simp only [Act.put, List.setIfInBounds_toArray, List.set_cons_zero, List.set_cons_succ, i64_w, i32_w]
                rfl
              refine pure_ (i := 18) (N := some 31) (v := undef) (a' := ?_) #[true, true, true, true, true, true, true, true, true, true, true, true, true, true, true, true, true, true, true, false] rfl rfl (any_of HT_.out (by kernel_rfl)) (fun _ _ _ h => h) (Or.inr ⟨by rfl, rfl⟩) ?_ ?_
              rotate_left
              · simp only [Act.put, List.setIfInBounds_toArray, List.set_cons_zero, List.set_cons_succ, i64_w, i32_w]
                rfl
              refine pure_ (i := 19) (N := some 32) (v := ?_) (a' := ?_) #[true, true, true, true, true, true, true, true, true, true, true, true, true, true, true, true, true, true, true, true] rfl rfl (any_of HT_.out (by kernel_rfl)) (fun _ _ _ h => h) (Or.inl ⟨by rfl, ?_⟩) ?_ ?_
              rotate_left
              · intro w'
                go_simp
                with_reducible rfl
              rotate_left
              · simp only [Act.put, List.setIfInBounds_toArray, List.set_cons_zero, List.set_cons_succ, i64_w, i32_w]
                rfl
              refine done_ (done_of HT_.out (by kernel_rfl)) ?_
              try go_wp2
              go_ret
              exact ⟨by first | rfl | (simp [errW_none, errW_some] <;> rfl) | (simp [*, errW_none, errW_some] <;> rfl), by repeat (first | (with_reducible first | exact HB.out | apply below_alloc | apply pw_below_drewN | apply below_drew1 | refine below_set ?_ GE143.out | refine below_set ?_ GE145.out) | exact HB.out)⟩
          · rw [if_neg c6] at H
            exact absurd H (by simp)
        · rw [if_neg c5] at H
          exact absurd H (by simp)
      · rw [if_neg c4] at H
        have c4b0 : decide (x8_1 < (l0_0.length : Int)) = false := decide_eq_false c4
        clear c4
        obtain rfl := Option.some.inj H
        have hcz38_0 : wr.cell? ⟨gb143, 0, none⟩ = some (.slice A0_0 l0_0.length c0_0) := (blk_cell BK143.out 0).trans rfl
        have hfz38_0 := blk_frozen BK143.out 0
        go_wp2
        go_ret
        exact ⟨by first | rfl | (simp [errW_none, errW_some] <;> rfl) | (simp [*, errW_none, errW_some] <;> rfl), by repeat (first | (with_reducible first | exact HB.out | apply below_alloc | apply pw_below_drewN | apply below_drew1 | refine below_set ?_ GE143.out) | exact HB.out)⟩
end Go.Proofs.Ytbahibaohehojaa.Q
-- YtbahibaohehojaaQf91
namespace Go.Proofs.Ytbahibaohehojaa.Q
open Go.RowKit Go.Proofs.YtbahibaohehojaaW.PrintWords Go.Proofs.YtbahibaohehojaaW.PrintLast Go.Proofs.YtbahibaohehojaaW.PrintMore
attribute [local go_sem] max2_int min2_int max_two min_two max_three min_three max_four min_four
set_option linter.unusedVariables false
set_option linter.unusedSimpArgs false
def intset_spans.f (k : Nat) (l0_0 : List (S56)) : Option ((List (S56))) := (intset_Valid.f k l0_0).bind fun t167 => (if t167 = true then (some l0_0) else (some ([] : List (S56))))
set_option maxHeartbeats 8000000 in
set_option maxRecDepth 100000 in
theorem intset_spans.calls (k : Nat) (P0_0_ : Nat → Prop) (A0_0 : Option Addr) (c0_0 : Nat) (l0_0 : List (S56)) (r : List (S56)) (w : World) (hs0_0 : Kd.V k56 56 w w.heap.size (fun k_ => P0_0_ k_) (.slice A0_0 l0_0.length c0_0) l0_0) (h : intset_spans.f k l0_0 = some r) :
    Calls Try.prog 91 #[.agg #[.slice A0_0 l0_0.length c0_0]] w fun e w' => ∃ v0_ : Value, e = .returned (v0_) ∧ Kd.V k56 56 w' w.heap.size (fun k_ => (P0_0_ k_ ∨ w.heap.size ≤ k_)) v0_ r ∧ Below w.heap.size w w' := by
  have hu42 := Try.underlying42
  have HO0_0 := Aside0.mk (show Kd.V k56 56 w w.heap.size (fun k_ => (P0_0_ k_ ∨ w.heap.size ≤ k_)) (.slice A0_0 l0_0.length c0_0) l0_0 from Kd.V_mono hs0_0 (fun k_ hk => .inl hk))
  have HB := Aside0.mk (Below.refl w.heap.size w)
  have H : ((intset_Valid.f k l0_0).bind fun t167 => (if t167 = true then (some l0_0) else (some ([] : List (S56))))) = some r := h
  clear h
  replace H := Option.bind_eq_some_iff.mp H
  obtain ⟨t167, A20, H⟩ := H
  replace H : (if t167 = true then (some l0_0) else (some ([] : List (S56)))) = some r := H
  have A2 := Aside0.mk A20
  clear A20
  by_cases c3 : t167 = true
  · subst c3
    have H1 : (some l0_0) = some r := by rw [if_pos rfl] at H; exact H
    clear H
    have H := H1
    clear H1
    obtain rfl := Option.some.inj H
    go_enter Try.func91, Try.ntmps91
    go_wp2_with (first | ((with_reducible refine gate_dst (N := 1) rfl ?_); refine box_event ?hg (N := 1) ?hd (cs := #[.slice A0_0 l0_0.length c0_0]) (t := 42) ?hr ?_; (case hd => rfl); (case hg => rfl); (case hr => first | (go_simp; done) | (go_simp; rfl)); intro gb166 hg w4 hbox hb; have n0_ := Aside0.mk (Kd.V_below (Kd.V_elderB (by (with_reducible repeat (first | apply Kd.V_alloc | apply Kd.V_drewN | apply Kd.V_drew)); exact HO0_0.out) gb166 (Nat.le_of_eq hg.symm)) hb); have n1_ := Aside0.mk (below_step (by repeat (first | (with_reducible first | exact HB.out | apply below_alloc | apply pw_below_drewN | apply below_drew1) | exact HB.out)) hb); have n2_ := Aside0.mk (hbox); have n3_ := Aside0.mk ((by rw [hg]; exact (below_size (by repeat (first | (with_reducible first | exact HB.out | apply below_alloc | apply pw_below_drewN | apply below_drew1) | exact HB.out))) : w.heap.size ≤ gb166)); have n4_ := Aside0.mk ((by rw [hg]; exact (below_size (by repeat (first | (with_reducible first | exact HB.out | apply below_alloc | apply pw_below_drewN | apply below_drew1) | exact HB.out))) : w.heap.size ≤ gb166)); clear HO0_0; clear HB; have HO0_0 := n0_; have HB := n1_; have BK166 := n2_; have GW166 := n3_; have GE166 := n4_; clear n0_ n1_ n2_ n3_ n4_; clear hb hbox hg; have hcz5_0 : w4.cell? ⟨gb166, 0, none⟩ = some (.slice A0_0 l0_0.length c0_0) := (blk_cell BK166.out 0).trans rfl; have hfz5_0 := blk_frozen BK166.out 0) | ((with_reducible refine gate_callee (f := 30) rfl ?_); refine goesL_ (some 4) rfl rfl Try.func30 (by kernel_rfl) rfl #[.agg #[.slice A0_0 l0_0.length c0_0]] rfl (by (try simp only [List.map_toArray, List.map_cons, List.map_nil]); first | done | rfl | (simp only [List.length_drop, List.length_take]; rfl)) ?_; (with_reducible refine (intset_Valid.calls k _ _ l0_0 true _ ?side1 ?side2 A2.out).mono ?_); (case side1 => repeat (first | exact (Kd.V_reads' HO0_0.out).2.2 | (with_reducible refine Kd.C_alloc ?_ _) | (with_reducible refine Kd.C_drewN ?_ _) | (with_reducible refine Kd.C_drew ?_))); (case side2 => exact (Kd.V_reads' HO0_0.out).2.1); rintro e w6 ⟨rfl, hb⟩; refine ⟨_, rfl, ?_⟩; have n0_ := Aside0.mk (Kd.V_below (by (with_reducible repeat (first | apply Kd.V_alloc | apply Kd.V_drewN | apply Kd.V_drew)); exact HO0_0.out) hb); have n1_ := Aside0.mk (blk_below (g := gb166) (o := .cells #[.slice A0_0 l0_0.length c0_0] 42 (0, 0)) (by (with_reducible repeat (first | refine blk_drewN ?_ _ | refine blk_drew ?_ | refine blk_alloc ?_ _)); exact BK166.out) hb); have n2_ := Aside0.mk (below_step (by repeat (first | (with_reducible first | exact HB.out | apply below_alloc | apply pw_below_drewN | apply below_drew1 | refine below_set ?_ GE166.out) | exact HB.out)) hb); clear HO0_0; clear BK166; clear HB; have HO0_0 := n0_; have BK166 := n1_; have HB := n2_; clear n0_ n1_ n2_; (try clear hb); (try clear hb2); (try clear hk); (try clear hi); have hcz7_0 : w6.cell? ⟨gb166, 0, none⟩ = some (.slice A0_0 l0_0.length c0_0) := (blk_cell BK166.out 0).trans rfl; have hfz7_0 := blk_frozen BK166.out 0))
    go_ret
    exact ⟨_, by first | rfl | (simp [errW_none, errW_some] <;> rfl) | (simp [*, errW_none, errW_some] <;> rfl), by (with_reducible repeat (first | apply Kd.V_alloc | apply Kd.V_drewN | apply Kd.V_drew)); exact Kd.V_mono HO0_0.out (fun _ hk => hk.1), by repeat (first | (with_reducible first | exact HB.out | apply below_alloc | apply pw_below_drewN | apply below_drew1 | refine below_set ?_ GE166.out) | exact HB.out)⟩
  · replace c3 := Bool.eq_false_iff.mpr c3
    subst c3
    have H1 : (some ([] : List (S56))) = some r := by rw [if_neg (show ¬ (false = true) by decide)] at H; exact H
    clear H
    have H := H1
    clear H1
    obtain rfl := Option.some.inj H
    go_enter Try.func91, Try.ntmps91
    go_wp2_with (first | ((with_reducible refine gate_dst (N := 1) rfl ?_); refine box_event ?hg (N := 1) ?hd (cs := #[.slice A0_0 l0_0.length c0_0]) (t := 42) ?hr ?_; (case hd => rfl); (case hg => rfl); (case hr => first | (go_simp; done) | (go_simp; rfl)); intro gb166 hg w8 hbox hb; have n0_ := Aside0.mk (Kd.V_below (Kd.V_elderB (by (with_reducible repeat (first | apply Kd.V_alloc | apply Kd.V_drewN | apply Kd.V_drew)); exact HO0_0.out) gb166 (Nat.le_of_eq hg.symm)) hb); have n1_ := Aside0.mk (below_step (by repeat (first | (with_reducible first | exact HB.out | apply below_alloc | apply pw_below_drewN | apply below_drew1) | exact HB.out)) hb); have n2_ := Aside0.mk (hbox); have n3_ := Aside0.mk ((by rw [hg]; exact (below_size (by repeat (first | (with_reducible first | exact HB.out | apply below_alloc | apply pw_below_drewN | apply below_drew1) | exact HB.out))) : w.heap.size ≤ gb166)); have n4_ := Aside0.mk ((by rw [hg]; exact (below_size (by repeat (first | (with_reducible first | exact HB.out | apply below_alloc | apply pw_below_drewN | apply below_drew1) | exact HB.out))) : w.heap.size ≤ gb166)); clear HO0_0; clear HB; have HO0_0 := n0_; have HB := n1_; have BK166 := n2_; have GW166 := n3_; have GE166 := n4_; clear n0_ n1_ n2_ n3_ n4_; clear hb hbox hg; have hcz9_0 : w8.cell? ⟨gb166, 0, none⟩ = some (.slice A0_0 l0_0.length c0_0) := (blk_cell BK166.out 0).trans rfl; have hfz9_0 := blk_frozen BK166.out 0) | ((with_reducible refine gate_callee (f := 30) rfl ?_); refine goesL_ (some 4) rfl rfl Try.func30 (by kernel_rfl) rfl #[.agg #[.slice A0_0 l0_0.length c0_0]] rfl (by (try simp only [List.map_toArray, List.map_cons, List.map_nil]); first | done | rfl | (simp only [List.length_drop, List.length_take]; rfl)) ?_; (with_reducible refine (intset_Valid.calls k _ _ l0_0 false _ ?side1 ?side2 A2.out).mono ?_); (case side1 => repeat (first | exact (Kd.V_reads' HO0_0.out).2.2 | (with_reducible refine Kd.C_alloc ?_ _) | (with_reducible refine Kd.C_drewN ?_ _) | (with_reducible refine Kd.C_drew ?_))); (case side2 => exact (Kd.V_reads' HO0_0.out).2.1); rintro e w10 ⟨rfl, hb⟩; refine ⟨_, rfl, ?_⟩; have n0_ := Aside0.mk (Kd.V_below (by (with_reducible repeat (first | apply Kd.V_alloc | apply Kd.V_drewN | apply Kd.V_drew)); exact HO0_0.out) hb); have n1_ := Aside0.mk (blk_below (g := gb166) (o := .cells #[.slice A0_0 l0_0.length c0_0] 42 (0, 0)) (by (with_reducible repeat (first | refine blk_drewN ?_ _ | refine blk_drew ?_ | refine blk_alloc ?_ _)); exact BK166.out) hb); have n2_ := Aside0.mk (below_step (by repeat (first | (with_reducible first | exact HB.out | apply below_alloc | apply pw_below_drewN | apply below_drew1 | refine below_set ?_ GE166.out) | exact HB.out)) hb); clear HO0_0; clear BK166; clear HB; have HO0_0 := n0_; have BK166 := n1_; have HB := n2_; clear n0_ n1_ n2_; (try clear hb); (try clear hb2); (try clear hk); (try clear hi)))
    go_ret
    exact ⟨_, by first | rfl | (simp [errW_none, errW_some] <;> rfl) | (simp [*, errW_none, errW_some] <;> rfl), by first | exact Kd.V_nil _ _ _ _ _ | (show Kd.V _ _ _ _ _ (Value.slice none 0 0) []; exact Kd.V_nil _ _ _ _ _), by repeat (first | (with_reducible first | exact HB.out | apply below_alloc | apply pw_below_drewN | apply below_drew1 | refine below_set ?_ GE166.out) | exact HB.out)⟩
end Go.Proofs.Ytbahibaohehojaa.Q
-- YtbahibaohehojaaQHUnion
namespace Go.Proofs.Ytbahibaohehojaa.Q
open Go.RowKit Go.Proofs.YtbahibaohehojaaW.PrintWords Go.Proofs.YtbahibaohehojaaW.PrintLast Go.Proofs.YtbahibaohehojaaW.PrintMore
attribute [local go_sem] max2_int min2_int max_two min_two max_three min_three max_four min_four
set_option linter.unusedVariables false
set_option linter.unusedSimpArgs false
def intset_Union.f (k : Nat) (l0_0 : List (S56)) (l1_0 : List (S56)) : Option ((List (S56)) × Int) := (intset_spans.f k l0_0).bind fun s => (intset_spans.f k l1_0).bind fun t => if s.length + t.length < 8796093022208 then intset_Make.f k (s ++ t) else none
set_option maxHeartbeats 4000000 in
set_option maxRecDepth 100000 in
theorem intset_Union.calls (k : Nat) (A0_0 : Option Addr) (c0_0 : Nat) (l0_0 : List (S56)) (A1_0 : Option Addr) (c1_0 : Nat) (l1_0 : List (S56)) (r1 : List (S56)) (r2 : Int) (w : World) (hr0_0 : Kd.C k56 w A0_0 l0_0.length l0_0) (hc0_0 : l0_0.length ≤ c0_0) (hr1_0 : Kd.C k56 w A1_0 l1_0.length l1_0) (hc1_0 : l1_0.length ≤ c1_0) (h : intset_Union.f k l0_0 l1_0 = some (r1, r2)) :
    Calls Try.prog 50 #[.agg #[.slice A0_0 l0_0.length c0_0], .agg #[.slice A1_0 l1_0.length c1_0]] w fun e w' => ∃ v0_ : Value, e = .returned (.tuple #[.agg #[v0_], .int .i64 r2]) ∧ Kd.R k56 56 w' w.heap.size (fun _ => True) v0_ r1 ∧ Below w.heap.size w w' := by
  obtain ⟨s, hs, h⟩ := Option.bind_eq_some_iff.1 h
  obtain ⟨t, ht, h⟩ := Option.bind_eq_some_iff.1 h
  by_cases hl : s.length + t.length < 8796093022208
  case neg => rw [if_neg hl] at h; cases h
  rw [if_pos hl] at h
  have HR0 := Aside0.mk hr0_0
  have HC0 := Aside0.mk hc0_0
  have HR1 := Aside0.mk hr1_0
  have HC1 := Aside0.mk hc1_0
  have HS := Aside0.mk hs
  have HT := Aside0.mk ht
  have HM := Aside0.mk h
  have HL := Aside0.mk hl
  clear hr0_0 hc0_0 hr1_0 hc1_0 hs ht h hl
  have hu1 := Try.underlying42
  go_enter Try.func50, Try.ntmps50
  go_wp2_with fail
  have E0 := Aside0.mk (below_alloc (below_alloc (below_alloc (Below.refl w.heap.size w) (.cells #[.slice A0_0 l0_0.length c0_0] 42)) (.cells #[.slice A1_0 l1_0.length c1_0] 42)) (.cells #[.slice none 0 0] 42))
  have BA := blk_alloc (blk_alloc (heap_alloc_new w (.cells #[.slice A0_0 l0_0.length c0_0] 42)) (.cells #[.slice A1_0 l1_0.length c1_0] 42)) (.cells #[.slice none 0 0] 42)
  have BB : ((((w.alloc (.cells #[.slice A0_0 l0_0.length c0_0] 42)).alloc (.cells #[.slice A1_0 l1_0.length c1_0] 42)).alloc (.cells #[.slice none 0 0] 42)).heap[w.heap.size + 1]?) = some (.cells #[.slice A1_0 l1_0.length c1_0] 42 (0, 0)) :=
    blk_alloc (by have := heap_alloc_new (w.alloc (.cells #[.slice A0_0 l0_0.length c0_0] 42)) (.cells #[.slice A1_0 l1_0.length c1_0] 42); rwa [World.size_alloc] at this) _
  have BK : ((((w.alloc (.cells #[.slice A0_0 l0_0.length c0_0] 42)).alloc (.cells #[.slice A1_0 l1_0.length c1_0] 42)).alloc (.cells #[.slice none 0 0] 42)).heap[w.heap.size + 1 + 1]?) = some (.cells #[.slice none 0 0] 42 (0, 0)) := by
    have := heap_alloc_new ((w.alloc (.cells #[.slice A0_0 l0_0.length c0_0] 42)).alloc (.cells #[.slice A1_0 l1_0.length c1_0] 42)) (.cells #[.slice none 0 0] 42)
    rwa [World.size_alloc, World.size_alloc] at this
  generalize ((w.alloc (.cells #[.slice A0_0 l0_0.length c0_0] 42)).alloc (.cells #[.slice A1_0 l1_0.length c1_0] 42)).alloc (.cells #[.slice none 0 0] 42) = W0 at E0 BA BB BK ⊢
  have ha0 := blk_cell BA 0
  have hb0 := blk_cell BB 0
  have XB := Aside0.mk BB
  have XK := Aside0.mk BK
  clear BA BB BK
  go_region_with (first
    | (go_at_call 91; with_reducible refine (intset_spans.calls k _ A0_0 c0_0 l0_0 s _ (Kd.V_mk HC0.out (Kd.C_F k56_heap (Kd.C_below HR0.out (below_drew E0.out)))) HS.out).mono ?_; rintro e w2 ⟨v0, rfl, hV, hb⟩;
       have E2 := Aside0.mk (below_then (below_drew E0.out) E0.out.size hb); have K2 := Aside0.mk (blk_below (blk_drew XK.out) hb); have hb2 := blk_cell (blk_below (blk_drew XB.out) hb) 0; obtain ⟨A2, c2, rfl⟩ := Kd.V_slice hV; have C2 := Aside0.mk (Kd.V_reads' hV).2.2; clear hV hb)
    | (go_at_call 91; with_reducible refine (intset_spans.calls k _ A1_0 c1_0 l1_0 t _ (Kd.V_mk HC1.out (Kd.C_F k56_heap (Kd.C_below HR1.out E2.out))) HT.out).mono ?_; rintro e w3 ⟨v1, rfl, hV, hb⟩;
       have E3 := Aside0.mk (below_then E2.out E2.out.size hb); have K3 := Aside0.mk (blk_below K2.out hb); have C2' := Aside0.mk (Kd.C_below C2.out hb); obtain ⟨A3, c3, rfl⟩ := Kd.V_slice hV; have C3 := Aside0.mk (Kd.V_reads' hV).2.2; clear hV hb)
    | (go_at_call 103; with_reducible refine (concat_calls A2 c2 s A3 c3 t _ w3.heap.size (by simp [go_sem]) (by simp [go_sem]) (Kd.C_below C2'.out (below_alloc (Below.refl _ _) _)) (Kd.C_below C3.out (below_alloc (Below.refl _ _) _)) HL.out).mono ?_; rintro e w4 ⟨v2, rfl, hR, hb⟩;
       have E4 := Aside0.mk (below_then (below_alloc E3.out _) (by have := E3.out.size; simp; omega) hb); have K4 := Aside0.mk (blk_below (blk_alloc K3.out _) hb); obtain ⟨A4, c4, rfl, hc4, hC4⟩ := Kd.R_reads hR; have C4 := Aside0.mk hC4; have L4 := Aside0.mk hc4; clear hR hb hc4 hC4)
    | (go_at_call 27; have M := intset_Make.calls k A4 c4 (s ++ t) r1 r2 w4 C4.out L4.out HM.out; rw [List.length_append] at M; with_reducible refine M.mono ?_; clear M; rintro e w5 ⟨v3, rfl, hR, hb⟩;
       have E5 := Aside0.mk (below_then E4.out E4.out.size hb); have K5 := Aside0.mk (blk_below K4.out hb); have hz5 := blk_frozen (blk_below K4.out hb) 0; have hc5 := blk_cell (blk_below K4.out hb) 0; obtain ⟨A5, c5, rfl⟩ := Kd.R_slice hR; have R5 := Aside0.mk (Kd.R_lower hR E4.out.size); clear hR hb))
  all_goals go_wp2
  all_goals refine bodyPost_ret (results_ct rfl _ _ (w.heap.size + 1 + 1) 42 #[.slice A5 r1.length c5] (0, 0) _ rfl (blk_put K5.out 0 _ rfl) Try.underlying42 rfl (by kernel_rfl)) rfl ?_
  all_goals exact ⟨_, rfl, Kd.R_set R5.out K5.out (by decide) _ _, below_set E5.out (by omega)⟩
end Go.Proofs.Ytbahibaohehojaa.Q
-- YtbahibaohehojaaQHPSet
namespace Go.Proofs.Ytbahibaohehojaa.Q
open Go.RowKit Go.Proofs.YtbahibaohehojaaW.PrintWords Go.Proofs.YtbahibaohehojaaW.PrintLast Go.Proofs.YtbahibaohehojaaW.PrintMore
attribute [local go_sem] max2_int min2_int max_two min_two max_three min_three max_four min_four
set_option linter.unusedVariables false
set_option linter.unusedSimpArgs false
abbrev SP := S56
def memS (n : Int) (l : List SP) : Prop := ∃ x ∈ l, x.f0 ≤ n ∧ n ≤ x.f1
def okS (x : SP) : Prop := 0 ≤ x.f0 ∧ x.f0 ≤ x.f1 ∧ x.f1 ≤ 2147483647
instance (x : SP) : Decidable (okS x) := by unfold okS; exact inferInstance
structure Canon (l : List SP) : Prop where
  ok : ∀ x ∈ l, okS x
  sep : l.Pairwise (fun x y => x.f1 + 1 < y.f0)
theorem sp_ext {x y : SP} (h0 : x.f0 = y.f0) (h1 : x.f1 = y.f1) : x = y := by cases x; cases y; simp_all
theorem memS_nil (n : Int) : ¬ memS n [] := fun ⟨_, h, _⟩ => by cases h
theorem memS_cons (n : Int) (x : SP) (l : List SP) : memS n (x :: l) ↔ (x.f0 ≤ n ∧ n ≤ x.f1) ∨ memS n l := by
  constructor
  · rintro ⟨y, hy, h⟩
    rcases List.mem_cons.1 hy with rfl | hy
    · exact .inl h
    · exact .inr ⟨y, hy, h⟩
  · rintro (h | ⟨y, hy, h⟩)
    · exact ⟨x, List.mem_cons_self, h⟩
    · exact ⟨y, List.mem_cons_of_mem _ hy, h⟩
theorem memS_append (n : Int) (a b : List SP) : memS n (a ++ b) ↔ memS n a ∨ memS n b := by
  constructor
  · rintro ⟨y, hy, h⟩
    rcases List.mem_append.1 hy with hy | hy
    · exact .inl ⟨y, hy, h⟩
    · exact .inr ⟨y, hy, h⟩
  · rintro (⟨y, hy, h⟩ | ⟨y, hy, h⟩)
    · exact ⟨y, List.mem_append_left _ hy, h⟩
    · exact ⟨y, List.mem_append_right _ hy, h⟩
theorem memS_perm {a b : List SP} (h : a.Perm b) (n : Int) : memS n a ↔ memS n b :=
  ⟨fun ⟨x, hx, e⟩ => ⟨x, h.mem_iff.1 hx, e⟩, fun ⟨x, hx, e⟩ => ⟨x, h.mem_iff.2 hx, e⟩⟩
theorem Canon.nil : Canon [] := ⟨(fun _ h => by cases h), List.Pairwise.nil⟩
theorem Canon.tail {x : SP} {l : List SP} (h : Canon (x :: l)) : Canon l := ⟨fun y hy => h.ok y (List.mem_cons_of_mem _ hy), (List.pairwise_cons.1 h.sep).2⟩
theorem Canon.head {x : SP} {l : List SP} (h : Canon (x :: l)) : okS x := h.ok x List.mem_cons_self
theorem Canon.lt {x : SP} {l : List SP} (h : Canon (x :: l)) {y : SP} (hy : y ∈ l) : x.f1 + 1 < y.f0 := (List.pairwise_cons.1 h.sep).1 y hy
theorem Canon.above {x : SP} {l : List SP} (h : Canon (x :: l)) {n : Int} (hn : memS n l) : x.f1 + 1 < n := by
  obtain ⟨y, hy, h1, h2⟩ := hn
  have := h.lt hy
  omega
theorem Canon.least {x : SP} {l : List SP} (h : Canon (x :: l)) {n : Int} (hn : memS n (x :: l)) : x.f0 ≤ n := by
  rcases (memS_cons _ _ _).1 hn with hn | hn
  · exact hn.1
  · have := h.above hn
    have := h.head
    unfold okS at this
    omega
theorem canon_unique : ∀ {a b : List SP}, Canon a → Canon b → (∀ n, memS n a ↔ memS n b) → a = b
  | [], [], _, _, _ => rfl
  | [], y :: bs, _, hb, h => by
    have := hb.head
    unfold okS at this
    exact absurd ((h y.f0).2 ((memS_cons _ _ _).2 (.inl ⟨Int.le_refl _, this.2.1⟩))) (memS_nil _)
  | x :: as_, [], ha, _, h => by
    have := ha.head
    unfold okS at this
    exact absurd ((h x.f0).1 ((memS_cons _ _ _).2 (.inl ⟨Int.le_refl _, this.2.1⟩))) (memS_nil _)
  | x :: as_, y :: bs, ha, hb, h => by
    have hx := ha.head
    have hy := hb.head
    unfold okS at hx hy
    have e0 : x.f0 = y.f0 := by
      have h1 := hb.least ((h x.f0).1 ((memS_cons _ _ _).2 (.inl ⟨Int.le_refl _, hx.2.1⟩)))
      have h2 := ha.least ((h y.f0).2 ((memS_cons _ _ _).2 (.inl ⟨Int.le_refl _, hy.2.1⟩)))
      omega
    have e1 : x.f1 = y.f1 := by
      rcases Int.lt_trichotomy x.f1 y.f1 with hl | he | hl
      · have h1 := (h (x.f1 + 1)).2 ((memS_cons _ _ _).2 (.inl ⟨by omega, by omega⟩))
        rcases (memS_cons _ _ _).1 h1 with h2 | h2
        · omega
        · have := ha.above h2
          omega
      · exact he
      · have h1 := (h (y.f1 + 1)).1 ((memS_cons _ _ _).2 (.inl ⟨by omega, by omega⟩))
        rcases (memS_cons _ _ _).1 h1 with h2 | h2
        · omega
        · have := hb.above h2
          omega
    have ht : as_ = bs := canon_unique ha.tail hb.tail (fun n => by
      constructor
      · intro hn
        have h1 := ha.above hn
        rcases (memS_cons _ _ _).1 ((h n).1 ((memS_cons _ _ _).2 (.inr hn))) with h2 | h2
        · omega
        · exact h2
      · intro hn
        have h1 := hb.above hn
        rcases (memS_cons _ _ _).1 ((h n).2 ((memS_cons _ _ _).2 (.inr hn))) with h2 | h2
        · omega
        · exact h2)
    rw [sp_ext e0 e1, ht]
def mergeStep (out : List SP) (s : SP) : List SP :=
  if out.length = 0 then [s]
  else if s.f0 ≤ (out.getD (out.length - 1) z56).f1 + 1 then out.set (out.length - 1) ⟨(out.getD (out.length - 1) z56).f0, mx (out.getD (out.length - 1) z56).f1 s.f1⟩
  else out ++ [s]
theorem mergeStep_nil (s : SP) : mergeStep [] s = [s] := rfl
theorem mergeStep_snoc (i : List SP) (t s : SP) : mergeStep (i ++ [t]) s = if s.f0 ≤ t.f1 + 1 then i ++ [⟨t.f0, mx t.f1 s.f1⟩] else i ++ [t] ++ [s] := by
  unfold mergeStep
  have h1 : (i ++ [t]).length - 1 = i.length := by simp
  have h2 : (i ++ [t]).getD i.length z56 = t := by simp [List.getD_eq_getElem?_getD]
  rw [if_neg (by simp), h1, h2]
  by_cases h : s.f0 ≤ t.f1 + 1
  · rw [if_pos h, if_pos h, List.set_append_right _ _ (Nat.le_refl _), Nat.sub_self]
    rfl
  · rw [if_neg h, if_neg h]
theorem snoc_cases {α : Type} (l : List α) : l = [] ∨ ∃ i t, l = i ++ [t] := by
  rcases List.eq_nil_or_concat l with h | ⟨i, t, h⟩
  · exact .inl h
  · exact .inr ⟨i, t, by rw [h, List.concat_eq_append]⟩
theorem canon_snoc {i : List SP} {t : SP} : Canon (i ++ [t]) ↔ Canon i ∧ okS t ∧ ∀ x ∈ i, x.f1 + 1 < t.f0 := by
  constructor
  · intro h
    refine ⟨⟨fun x hx => h.ok x (List.mem_append_left _ hx), (List.pairwise_append.1 h.sep).1⟩, h.ok t (by simp), fun x hx => (List.pairwise_append.1 h.sep).2.2 x hx t (by simp)⟩
  · rintro ⟨h1, h2, h3⟩
    refine ⟨fun x hx => ?_, List.pairwise_append.2 ⟨h1.sep, by simp, fun x hx y hy => ?_⟩⟩
    · rcases List.mem_append.1 hx with hx | hx
      · exact h1.ok x hx
      · rw [List.mem_singleton.1 hx]; exact h2
    · rw [List.mem_singleton.1 hy]; exact h3 x hx
theorem mx_cases (a b : Int) : (a < b ∧ mx a b = b) ∨ (b ≤ a ∧ mx a b = a) := by
  unfold mx
  by_cases h : a < b
  · exact .inl ⟨h, by rw [if_pos h]⟩
  · exact .inr ⟨by omega, by rw [if_neg h]⟩
theorem mn_cases (a b : Int) : (b < a ∧ mn a b = b) ∨ (a ≤ b ∧ mn a b = a) := by
  unfold mn
  by_cases h : b < a
  · exact .inl ⟨h, by rw [if_pos h]⟩
  · exact .inr ⟨by omega, by rw [if_neg h]⟩
theorem mergeStep_spec {out : List SP} {s : SP} (hc : Canon out) (hs : okS s) (hle : ∀ x ∈ out, x.f0 ≤ s.f0) :
    Canon (mergeStep out s) ∧ (∀ n, memS n (mergeStep out s) ↔ memS n out ∨ (s.f0 ≤ n ∧ n ≤ s.f1)) ∧ (∀ x ∈ mergeStep out s, x.f0 ≤ s.f0) ∧ (mergeStep out s).length ≤ out.length + 1 := by
  rcases snoc_cases out with rfl | ⟨i, t, rfl⟩
  · rw [mergeStep_nil]
    refine ⟨canon_snoc (i := []).2 ⟨Canon.nil, hs, (fun _ h => by cases h)⟩, fun n => ?_, fun x hx => ?_, by simp⟩
    · rw [memS_cons]
      constructor
      · rintro (h | h)
        · exact .inr h
        · exact absurd h (memS_nil _)
      · rintro (h | h)
        · exact absurd h (memS_nil _)
        · exact .inl h
    · rw [List.mem_singleton.1 hx]; exact Int.le_refl _
  · obtain ⟨h1, h2, h3⟩ := canon_snoc.1 hc
    have ht := hle t (by simp)
    unfold okS at h2 hs
    rw [mergeStep_snoc]
    by_cases h : s.f0 ≤ t.f1 + 1
    · rw [if_pos h]
      have hm := mx_cases t.f1 s.f1
      refine ⟨canon_snoc.2 ⟨h1, ?_, fun x hx => by have := h3 x hx; exact this⟩, fun n => ?_, fun x hx => ?_, by simp⟩
      · unfold okS
        simp only
        omega
      · rw [memS_append, memS_append, memS_cons, memS_cons]
        simp only [memS_nil, or_false]
        constructor
        · rintro (h4 | h4)
          · exact .inl (.inl h4)
          · by_cases h5 : t.f1 < n
            · exact .inr ⟨by omega, by omega⟩
            · exact .inl (.inr ⟨h4.1, by omega⟩)
        · rintro ((h4 | h4) | h4)
          · exact .inl h4
          · exact .inr ⟨h4.1, by omega⟩
          · exact .inr ⟨by omega, by omega⟩
      · rcases List.mem_append.1 hx with hx | hx
        · exact hle x (List.mem_append_left _ hx)
        · rw [List.mem_singleton.1 hx]; exact ht
    · rw [if_neg h]
      refine ⟨canon_snoc.2 ⟨hc, hs, fun x hx => ?_⟩, fun n => ?_, fun x hx => ?_, by simp⟩
      · rcases List.mem_append.1 hx with hx | hx
        · have := h3 x hx
          omega
        · rw [List.mem_singleton.1 hx]; omega
      · rw [memS_append n (i ++ [t]) [s], memS_cons n s []]
        simp only [memS_nil, or_false]
      · rcases List.mem_append.1 hx with hx | hx
        · exact hle x hx
        · rw [List.mem_singleton.1 hx]; exact Int.le_refl _
def sortedLo (l : List SP) : Prop := l.Pairwise (fun x y => x.f0 ≤ y.f0)
theorem mergeAll_spec : ∀ (l out : List SP), Canon out → (∀ x ∈ l, okS x) → sortedLo l → (∀ x ∈ out, ∀ y ∈ l, x.f0 ≤ y.f0) →
    Canon (l.foldl mergeStep out) ∧ (∀ n, memS n (l.foldl mergeStep out) ↔ memS n out ∨ memS n l) ∧ (l.foldl mergeStep out).length ≤ out.length + l.length
  | [], out, hc, _, _, _ => ⟨hc, fun n => by simp [memS_nil], by simp⟩
  | s :: l, out, hc, hok, hso, hle => by
    obtain ⟨h1, h2, h3, h4⟩ := mergeStep_spec hc (hok s List.mem_cons_self) (fun x hx => hle x hx s List.mem_cons_self)
    obtain ⟨hs1, hs2⟩ := List.pairwise_cons.1 hso
    obtain ⟨k1, k2, k3⟩ := mergeAll_spec l (mergeStep out s) h1 (fun x hx => hok x (List.mem_cons_of_mem _ hx)) hs2 (fun x hx y hy => Int.le_trans (h3 x hx) (hs1 y hy))
    refine ⟨k1, fun n => ?_, by simp only [List.foldl_cons, List.length_cons]; omega⟩
    rw [List.foldl_cons, k2, h2, memS_cons, or_assoc]
def norm (l : List SP) : List SP := (l.mergeSort (fun x y => decide (x.f0 ≤ y.f0))).foldl mergeStep []
theorem sort_sorted (l : List SP) : sortedLo (l.mergeSort (fun x y => decide (x.f0 ≤ y.f0))) := by
  have h := List.pairwise_mergeSort (le := fun x y : SP => decide (x.f0 ≤ y.f0)) (fun a b c h1 h2 => by simp only [decide_eq_true_eq] at *; omega) (fun a b => by simp only [Bool.or_eq_true, decide_eq_true_eq]; omega) l
  exact h.imp (fun h => by simpa using h)
theorem mergeAll_norm {l s : List SP} (hok : ∀ x ∈ l, okS x) (hp : s.Perm l) (hs : sortedLo s) : Canon (s.foldl mergeStep []) ∧ (∀ n, memS n (s.foldl mergeStep []) ↔ memS n l) ∧ (s.foldl mergeStep []).length ≤ l.length := by
  obtain ⟨h1, h2, h3⟩ := mergeAll_spec s [] Canon.nil (fun x hx => hok x (hp.mem_iff.1 hx)) hs (fun _ h => by cases h)
  refine ⟨h1, fun n => ?_, by rw [← hp.length_eq]; simpa using h3⟩
  rw [h2, memS_perm hp]
  simp [memS_nil]
theorem norm_spec {l : List SP} (hok : ∀ x ∈ l, okS x) : Canon (norm l) ∧ (∀ n, memS n (norm l) ↔ memS n l) ∧ (norm l).length ≤ l.length := mergeAll_norm hok (List.mergeSort_perm _ _) (sort_sorted l)
theorem eq_norm {l r : List SP} (hok : ∀ x ∈ l, okS x) (hc : Canon r) (h : ∀ n, memS n r ↔ memS n l) : r = norm l :=
  canon_unique hc (norm_spec hok).1 (fun n => by rw [h, (norm_spec hok).2.1])
end Go.Proofs.Ytbahibaohehojaa.Q
-- YtbahibaohehojaaQHInter
namespace Go.Proofs.Ytbahibaohehojaa.Q
open Go.RowKit Go.Proofs.YtbahibaohehojaaW.PrintWords Go.Proofs.YtbahibaohehojaaW.PrintLast Go.Proofs.YtbahibaohehojaaW.PrintMore
attribute [local go_sem] max2_int min2_int max_two min_two max_three min_three max_four min_four
set_option linter.unusedVariables false
set_option linter.unusedSimpArgs false
def cutS (x y : S56) : S56 := ⟨mx x.f0 y.f0, mn x.f1 y.f1⟩
def interL : List S56 → List S56 → List S56 → List S56
  | out, x :: a, y :: b => if out.length < 64 then (if x.f1 < y.f1 then interL (if (cutS x y).f0 ≤ (cutS x y).f1 then out ++ [cutS x y] else out) a (y :: b) else interL (if (cutS x y).f0 ≤ (cutS x y).f1 then out ++ [cutS x y] else out) (x :: a) b) else out
  | out, [], _ => out
  | out, _ :: _, [] => out
termination_by _ a b => a.length + b.length
theorem interL_nil (out b : List S56) : interL out [] b = out := by unfold interL; rfl
theorem interL_nil' (out a : List S56) : interL out a [] = out := by cases a <;> (unfold interL; rfl)
theorem interL_cons (out : List S56) (x y : S56) (a b : List S56) : interL out (x :: a) (y :: b) = if out.length < 64 then (if x.f1 < y.f1 then interL (if (cutS x y).f0 ≤ (cutS x y).f1 then out ++ [cutS x y] else out) a (y :: b) else interL (if (cutS x y).f0 ≤ (cutS x y).f1 then out ++ [cutS x y] else out) (x :: a) b) else out := by
  conv => lhs; unfold interL
def intset_Intersect.f (k : Nat) (l0_0 : List (S56)) (l1_0 : List (S56)) : Option (List (S56)) := (intset_spans.f k l0_0).bind fun s => (intset_spans.f k l1_0).bind fun t => some (interL [] s t)
set_option maxHeartbeats 8000000 in
set_option maxRecDepth 100000 in
theorem intset_Intersect.calls (k : Nat) (A0_0 : Option Addr) (c0_0 : Nat) (l0_0 : List (S56)) (A1_0 : Option Addr) (c1_0 : Nat) (l1_0 : List (S56)) (r : List (S56)) (w : World) (hr0_0 : Kd.C k56 w A0_0 l0_0.length l0_0) (hc0_0 : l0_0.length ≤ c0_0) (hr1_0 : Kd.C k56 w A1_0 l1_0.length l1_0) (hc1_0 : l1_0.length ≤ c1_0) (h : intset_Intersect.f k l0_0 l1_0 = some r) :
    Calls Try.prog 51 #[.agg #[.slice A0_0 l0_0.length c0_0], .agg #[.slice A1_0 l1_0.length c1_0]] w fun e w' => ∃ v0_ : Value, e = .returned (.agg #[v0_]) ∧ Kd.R k56 56 w' w.heap.size (fun _ => True) v0_ r ∧ Below w.heap.size w w' := by
  obtain ⟨s, hs, h⟩ := Option.bind_eq_some_iff.1 h
  obtain ⟨t, ht, h⟩ := Option.bind_eq_some_iff.1 h
  obtain rfl := Option.some.inj h
  clear h
  have HR0 := Aside0.mk hr0_0
  have HC0 := Aside0.mk hc0_0
  have HR1 := Aside0.mk hr1_0
  have HC1 := Aside0.mk hc1_0
  have HS := Aside0.mk hs
  have HT := Aside0.mk ht
  clear hr0_0 hc0_0 hr1_0 hc1_0 hs ht
  have hu1 := Try.underlying42
  have hu2 := Try.underlying56
  go_enter Try.func51, Try.ntmps51
  go_wp2_with fail
  have E0 := Aside0.mk (below_alloc (below_alloc (below_alloc (Below.refl w.heap.size w) (.cells #[.slice A0_0 l0_0.length c0_0] 42)) (.cells #[.slice A1_0 l1_0.length c1_0] 42)) (.cells #[.slice none 0 0] 42))
  have BA := blk_alloc (blk_alloc (heap_alloc_new w (.cells #[.slice A0_0 l0_0.length c0_0] 42)) (.cells #[.slice A1_0 l1_0.length c1_0] 42)) (.cells #[.slice none 0 0] 42)
  have BB : ((((w.alloc (.cells #[.slice A0_0 l0_0.length c0_0] 42)).alloc (.cells #[.slice A1_0 l1_0.length c1_0] 42)).alloc (.cells #[.slice none 0 0] 42)).heap[w.heap.size + 1]?) = some (.cells #[.slice A1_0 l1_0.length c1_0] 42 (0, 0)) :=
    blk_alloc (by have := heap_alloc_new (w.alloc (.cells #[.slice A0_0 l0_0.length c0_0] 42)) (.cells #[.slice A1_0 l1_0.length c1_0] 42); rwa [World.size_alloc] at this) _
  have BK : ((((w.alloc (.cells #[.slice A0_0 l0_0.length c0_0] 42)).alloc (.cells #[.slice A1_0 l1_0.length c1_0] 42)).alloc (.cells #[.slice none 0 0] 42)).heap[w.heap.size + 1 + 1]?) = some (.cells #[.slice none 0 0] 42 (0, 0)) := by
    have := heap_alloc_new ((w.alloc (.cells #[.slice A0_0 l0_0.length c0_0] 42)).alloc (.cells #[.slice A1_0 l1_0.length c1_0] 42)) (.cells #[.slice none 0 0] 42)
    rwa [World.size_alloc, World.size_alloc] at this
  generalize ((w.alloc (.cells #[.slice A0_0 l0_0.length c0_0] 42)).alloc (.cells #[.slice A1_0 l1_0.length c1_0] 42)).alloc (.cells #[.slice none 0 0] 42) = W0 at E0 BA BB BK ⊢
  have ha0 := blk_cell BA 0
  have hb0 := blk_cell BB 0
  have XB := Aside0.mk BB
  have XK := Aside0.mk BK
  clear BA BB BK
  go_cut [5, 6] (fun s5 s6 W => ∃ A2 c2 A3 c3, s5 = .slice A2 s.length c2 ∧ s6 = .slice A3 t.length c3 ∧ Aside0 (Kd.C k56 W A2 s.length s) ∧ Aside0 (Kd.C k56 W A3 t.length t) ∧ Aside0 (Below w.heap.size w W) ∧ Aside0 (W.heap[w.heap.size + 1 + 1]? = some (.cells #[.slice none 0 0] 42 (0, 0))))
  case first =>
    go_region_with (first
      | (go_at_call 91; with_reducible refine (intset_spans.calls k _ A0_0 c0_0 l0_0 s _ (Kd.V_mk HC0.out (Kd.C_F k56_heap (Kd.C_below HR0.out (below_drew E0.out)))) HS.out).mono ?_; rintro e w2 ⟨v0, rfl, hV, hb⟩;
         have E2 := Aside0.mk (below_then (below_drew E0.out) E0.out.size hb); have K2 := Aside0.mk (blk_below (blk_drew XK.out) hb); have hb2 := blk_cell (blk_below (blk_drew XB.out) hb) 0; obtain ⟨A2, c2, rfl⟩ := Kd.V_slice hV; have C2 := Aside0.mk (Kd.V_reads' hV).2.2; clear hV hb)
      | (go_at_call 91; with_reducible refine (intset_spans.calls k _ A1_0 c1_0 l1_0 t _ (Kd.V_mk HC1.out (Kd.C_F k56_heap (Kd.C_below HR1.out E2.out))) HT.out).mono ?_; rintro e w3 ⟨v1, rfl, hV, hb⟩;
         have E3 := Aside0.mk (below_then E2.out E2.out.size hb); have K3 := Aside0.mk (blk_below K2.out hb); have C2' := Aside0.mk (Kd.C_below C2.out hb); obtain ⟨A3, c3, rfl⟩ := Kd.V_slice hV; have C3 := Aside0.mk (Kd.V_reads' hV).2.2; clear hV hb))
    all_goals (go_wp2_with fail; go_meet; exact ⟨_, _, _, _, rfl, rfl, C2', C3, E3, K3⟩)
  case rest =>
    obtain ⟨A2, c2, A3, c3, rfl, rfl, C2, C3, E3, K3⟩ := hcut
    obtain ⟨wo, hwo⟩ : ∃ z, z = wc := ⟨wc, rfl⟩
    subst hwo
    have hm2 : s.length ≤ 9223372036854775807 := C2.out.2.1
    have hm3 : t.length ≤ 9223372036854775807 := C3.out.2.1
    clear ha0 hb0 XB XK E0
    go_wp2
    go_loopg [7, 8, 9, 10] (s.length + t.length) (fun gg s7 s8 s9 _ W => ∃ (i j : Nat) (xs : List S56), i ≤ s.length ∧ j ≤ t.length ∧ (s.length - i) + (t.length - j) ≤ gg ∧ s8 = .int .i64 i ∧ s9 = .int .i64 j ∧ Aside0 (interL xs (s.drop i) (t.drop j) = interL [] s t) ∧ Aside0 (Kd.R k56 56 W wo.heap.size (fun _ => True) s7 xs) ∧ Aside0 (Below wo.heap.size wo W))
    case atStart => exact ⟨0, 0, [], Nat.zero_le _, Nat.zero_le _, by omega, rfl, rfl, ⟨rfl⟩, ⟨Kd.R_nil _ _ _ _ _⟩, ⟨Below.refl _ _⟩⟩
    case round =>
      obtain ⟨i, j, xs, hi, hj, hg, rfl, rfl, HI, HR, BW⟩ := hrel
      obtain ⟨A7, c7, rfl⟩ := Kd.R_slice HR.out
      have K := Aside0.mk (blk_below K3.out BW.out)
      have hc0 := blk_cell K.out 0
      have hz0 := blk_frozen K.out 0
      by_cases hlt : i < s.length
      · have hltz : (i : Int) < (s.length : Int) := by omega
        by_cases hlt2 : j < t.length
        · have hltz2 : (j : Int) < (t.length : Int) := by omega
          by_cases h64 : xs.length < 64
          · have h64z : (xs.length : Int) < 64 := by omega
            have h64d : decide ((xs.length : Int) < 64) = true := decide_eq_true h64z
            obtain ⟨ad, ea, x0, x1⟩ := at_T56 (Kd.C_below C2.out BW.out) (i : Int) (by omega) hltz
            obtain ⟨bd, eb, y0, y1⟩ := at_T56 (Kd.C_below C3.out BW.out) (j : Int) (by omega) hltz2
            cases ea
            cases eb
            simp only [Int.toNat_natCast] at x0 x1 y0 y1
            have hx : rd_T56 s (i : Int) = s[i] := by unfold rd_T56; rw [Int.toNat_natCast, List.getD_eq_getElem?_getD, List.getElem?_eq_getElem hlt, Option.getD_some]
            have hy : rd_T56 t (j : Int) = t[j] := by unfold rd_T56; rw [Int.toNat_natCast, List.getD_eq_getElem?_getD, List.getElem?_eq_getElem hlt2, Option.getD_some]
            rw [hx] at x0 x1
            rw [hy] at y0 y1
            have HI' := HI.out
            rw [List.drop_eq_getElem_cons hlt, List.drop_eq_getElem_cons hlt2, interL_cons, if_pos h64, ← List.drop_eq_getElem_cons hlt, ← List.drop_eq_getElem_cons hlt2] at HI'
            have HI2 := Aside0.mk HI'
            clear HI' HI
            have hx := Aside0.mk hx
            have hy := Aside0.mk hy
            generalize s[i] = x at x0 x1 HI2 hx
            generalize t[j] = y at y0 y1 HI2 hy
            go_wp2_with fail
            have hxm : (cutS x y).f0 = mx x.f0 y.f0 := rfl
            have hxn : (cutS x y).f1 = mn x.f1 y.f1 := rfl
            have HRr := HR
            go_cut [10] (fun s10 W => s10 = .pointer (some ⟨wr.heap.size, 0, none⟩) ∧ Aside0 (W.heap[wr.heap.size]? = some (.cells #[.int .i64 (cutS x y).f0, .int .i64 (cutS x y).f1] 56 (0, 0))) ∧ Aside0 (Below wr.heap.size wr W))
            case first =>
              go_region_held3 (fun W' => W'.cell? (ad.add (i * 2)) = some (.int .i64 x.f0) ∧ W'.cell? ⟨(ad.add (i * 2)).block, (ad.add (i * 2)).off + 1, none⟩ = some (.int .i64 x.f1) ∧ W'.cell? (bd.add (j * 2)) = some (.int .i64 y.f0) ∧ W'.cell? ⟨(bd.add (j * 2)).block, (bd.add (j * 2)).off + 1, none⟩ = some (.int .i64 y.f1)) (first | go_keep) (fail)
              all_goals (go_wp2_with fail)
              all_goals go_meet
              all_goals refine ⟨rfl, ⟨(blk_drew (heap_alloc_new wr _)).trans ?_⟩, ⟨below_drew (below_alloc (Below.refl _ _) _)⟩⟩
              all_goals have h1 := mx_cases x.f0 y.f0
              all_goals have h2 := mn_cases x.f1 y.f1
              all_goals rw [hxm, hxn]
              all_goals first | rw [show mx x.f0 y.f0 = y.f0 by omega] | rw [show mx x.f0 y.f0 = x.f0 by omega]
              all_goals first | rw [show mn x.f1 y.f1 = y.f1 by omega] | rw [show mn x.f1 y.f1 = x.f1 by omega]
            case rest =>
              obtain ⟨rfl, BX, BXb⟩ := hcut
              have hp0 := blk_cell BX.out 0
              have hp1 := blk_cell BX.out 1
              simp only [List.getElem?_toArray, List.getElem?_cons_zero, List.getElem?_cons_succ] at hp0 hp1
              have BW6 := Aside0.mk (below_then BW.out BW.out.size BXb.out)
              have HR6 := Aside0.mk (Kd.R_below HR.out BXb.out)
              clear hxm hxn HRr BXb x0 x1 y0 y1 hc0 hz0
              by_cases hcm : (cutS x y).f0 ≤ (cutS x y).f1
              · have HI3 := HI2.out
                rw [if_pos hcm] at HI3
                go_wp2_with (at_builtin; refine Kd.R_append k56 (w0 := wo) wo.heap.size rfl (.tmp 58) (.tmp 60) 40 56 (.agg #[.int .i64 0, .int .i64 0]) 16 rfl Try.underlying40 info56 rfl (by decide) (by omega) (.slice A7 xs.length c7) xs (cutS x y) [.int .i64 (cutS x y).f0, .int .i64 (cutS x y).f1] (fun _ => True) (fun _ => False) rfl rfl (k56_mkM _ _ _ (cutS x y)) (fun _ hk => hk.elim) (fun _ _ => trivial) HR6.out BW6.out BW6.out.size (by omega) ?_; intro v1 w1 hR hb hg hat)
                have BW7 := Aside0.mk hb
                have HR7 := Aside0.mk hR
                clear hR hb hg hat hp0 hp1
                obtain ⟨ad', ea, x0, x1⟩ := at_T56 (Kd.C_below C2.out BW7.out) (i : Int) (by omega) hltz
                cases ea
                obtain ⟨bd', eb, y0, y1⟩ := at_T56 (Kd.C_below C3.out BW7.out) (j : Int) (by omega) hltz2
                cases eb
                simp only [Int.toNat_natCast] at x0 x1 y0 y1
                rw [hx.out] at x1
                rw [hy.out] at y1
                clear x0 y0
                by_cases hl3 : x.f1 < y.f1
                · have hd3 : decide (x.f1 < y.f1) = true := decide_eq_true hl3
                  have HI4 := HI3
                  rw [if_pos hl3] at HI4
                  have HI5 := Aside0.mk HI4
                  clear HI4
                  go_region_held3 (fun W' => W'.cell? ⟨(ad.add (i * 2)).block, (ad.add (i * 2)).off + 1, none⟩ = some (.int .i64 x.f1) ∧ W'.cell? ⟨(bd.add (j * 2)).block, (bd.add (j * 2)).off + 1, none⟩ = some (.int .i64 y.f1)) (first | go_keep) (fail)
                  go_wp2
                  go_roundg ((s.length - (i + 1)) + (t.length - j))
                  case measure => omega
                  case rel => exact ⟨i + 1, j, xs ++ [cutS x y], by omega, by omega, by omega, by go_num, rfl, HI5, ⟨Kd.R_drew HR7.out⟩, ⟨below_drew BW7.out⟩⟩
                · have hd3 : decide (x.f1 < y.f1) = false := decide_eq_false hl3
                  have HI4 := HI3
                  rw [if_neg hl3] at HI4
                  have HI5 := Aside0.mk HI4
                  clear HI4
                  go_region_held3 (fun W' => W'.cell? ⟨(ad.add (i * 2)).block, (ad.add (i * 2)).off + 1, none⟩ = some (.int .i64 x.f1) ∧ W'.cell? ⟨(bd.add (j * 2)).block, (bd.add (j * 2)).off + 1, none⟩ = some (.int .i64 y.f1)) (first | go_keep) (fail)
                  go_wp2
                  go_roundg ((s.length - i) + (t.length - (j + 1)))
                  case measure => omega
                  case rel => exact ⟨i, j + 1, xs ++ [cutS x y], by omega, by omega, by omega, rfl, by go_num, HI5, ⟨Kd.R_drew HR7.out⟩, ⟨below_drew BW7.out⟩⟩
              · have HI3 := HI2.out
                rw [if_neg hcm] at HI3
                go_wp2_with fail
                clear hp0 hp1
                obtain ⟨ad', ea, x0, x1⟩ := at_T56 (Kd.C_below C2.out BW6.out) (i : Int) (by omega) hltz
                cases ea
                obtain ⟨bd', eb, y0, y1⟩ := at_T56 (Kd.C_below C3.out BW6.out) (j : Int) (by omega) hltz2
                cases eb
                simp only [Int.toNat_natCast] at x0 x1 y0 y1
                rw [hx.out] at x1
                rw [hy.out] at y1
                clear x0 y0
                by_cases hl3 : x.f1 < y.f1
                · have hd3 : decide (x.f1 < y.f1) = true := decide_eq_true hl3
                  have HI4 := HI3
                  rw [if_pos hl3] at HI4
                  have HI5 := Aside0.mk HI4
                  clear HI4
                  go_region_held3 (fun W' => W'.cell? ⟨(ad.add (i * 2)).block, (ad.add (i * 2)).off + 1, none⟩ = some (.int .i64 x.f1) ∧ W'.cell? ⟨(bd.add (j * 2)).block, (bd.add (j * 2)).off + 1, none⟩ = some (.int .i64 y.f1)) (first | go_keep) (fail)
                  go_wp2
                  go_roundg ((s.length - (i + 1)) + (t.length - j))
                  case measure => omega
                  case rel => exact ⟨i + 1, j, xs, by omega, by omega, by omega, by go_num, rfl, HI5, ⟨Kd.R_drew HR6.out⟩, ⟨below_drew BW6.out⟩⟩
                · have hd3 : decide (x.f1 < y.f1) = false := decide_eq_false hl3
                  have HI4 := HI3
                  rw [if_neg hl3] at HI4
                  have HI5 := Aside0.mk HI4
                  clear HI4
                  go_region_held3 (fun W' => W'.cell? ⟨(ad.add (i * 2)).block, (ad.add (i * 2)).off + 1, none⟩ = some (.int .i64 x.f1) ∧ W'.cell? ⟨(bd.add (j * 2)).block, (bd.add (j * 2)).off + 1, none⟩ = some (.int .i64 y.f1)) (first | go_keep) (fail)
                  go_wp2
                  go_roundg ((s.length - i) + (t.length - (j + 1)))
                  case measure => omega
                  case rel => exact ⟨i, j + 1, xs, by omega, by omega, by omega, rfl, by go_num, HI5, ⟨Kd.R_drew HR6.out⟩, ⟨below_drew BW6.out⟩⟩
          · have hfin := HI.out
            have h64d : decide ((xs.length : Int) < 64) = false := decide_eq_false (by omega)
            rw [List.drop_eq_getElem_cons hlt, List.drop_eq_getElem_cons hlt2, interL_cons, if_neg h64] at hfin
            subst hfin
            go_wp2
            refine bodyPost_ret (results_cell_row rfl _ _ (w.heap.size + 1 + 1) 42 #[.slice A7 (interL [] s t).length c7] (0, 0) _ rfl (blk_put K.out 0 _ rfl) Try.underlying42 rfl (by kernel_rfl)) rfl ?_
            exact ⟨_, rfl, Kd.R_set (Kd.R_lower HR.out E3.out.size) K.out (by decide) _ _, below_set (below_then E3.out E3.out.size BW.out) (by omega)⟩
        · have hltz2 : ¬ (j : Int) < (t.length : Int) := by omega
          have hfin := HI.out
          rw [List.drop_of_length_le (show t.length ≤ j by omega), interL_nil'] at hfin
          subst hfin
          go_wp2
          refine bodyPost_ret (results_cell_row rfl _ _ (w.heap.size + 1 + 1) 42 #[.slice A7 (interL [] s t).length c7] (0, 0) _ rfl (blk_put K.out 0 _ rfl) Try.underlying42 rfl (by kernel_rfl)) rfl ?_
          exact ⟨_, rfl, Kd.R_set (Kd.R_lower HR.out E3.out.size) K.out (by decide) _ _, below_set (below_then E3.out E3.out.size BW.out) (by omega)⟩
      · have hltz : ¬ (i : Int) < (s.length : Int) := by omega
        have hfin := HI.out
        rw [List.drop_of_length_le (show s.length ≤ i by omega), interL_nil] at hfin
        subst hfin
        go_wp2
        refine bodyPost_ret (results_cell_row rfl _ _ (w.heap.size + 1 + 1) 42 #[.slice A7 (interL [] s t).length c7] (0, 0) _ rfl (blk_put K.out 0 _ rfl) Try.underlying42 rfl (by kernel_rfl)) rfl ?_
        exact ⟨_, rfl, Kd.R_set (Kd.R_lower HR.out E3.out.size) K.out (by decide) _ _, below_set (below_then E3.out E3.out.size BW.out) (by omega)⟩
end Go.Proofs.Ytbahibaohehojaa.Q
-- YtbahibaohehojaaQe56
namespace Go.Proofs.Ytbahibaohehojaa.Q
open Go.RowKit Go.Proofs.YtbahibaohehojaaW.PrintWords Go.Proofs.YtbahibaohehojaaW.PrintLast Go.Proofs.YtbahibaohehojaaW.PrintMore
attribute [local go_sem] max2_int min2_int max_two min_two max_three min_three max_four min_four
set_option linter.unusedVariables false
set_option linter.unusedSimpArgs false
theorem eqA56 (d : Nat) (w : World) (x0 y0 : Int) (x1 y1 : Int) :
    (Op.equalIn (d + 2) 56 (.agg #[.int .i64 x0, .int .i64 x1]) (.agg #[.int .i64 y0, .int .i64 y1])).run Try.prog w = .ok (x0 == y0 && (x1 == y1)) w := by
  refine eqA_of Try.underlying56 (by kernel_rfl) ?_
  refine eqf_cons (by rfl) (by go_simp; rfl) (by go_simp; rfl) (by go_simp) ?_
  exact eqf_last (by rfl) (by go_simp; rfl) (by go_simp; rfl) (by go_simp)
end Go.Proofs.Ytbahibaohehojaa.Q
