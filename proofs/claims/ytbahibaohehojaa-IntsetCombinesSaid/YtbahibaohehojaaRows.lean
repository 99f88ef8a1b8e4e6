/-
  No cell of these rows narrows 'for every input' (looked for: loops, veiled, ifaces, maps, wideKeys, modest, calm, conditions, laid).
  DERIVED. THE GIVEN ROWS OF THIS SEAT. 15 by the template 'for every input the law returns true; each argument reads behind the call as it read before'; 0 by the template 'total and deterministic' (their statements: YtbahibaohehojaaTotals.lean).
  GIVEN WITH THE SEED: the statements are not yours to turn. If you find one false, say at which input.
  Laid BY PROGRAM, IN A SANDBOX (cutbox-rows.mjs): the forced cells as the released guide's own fill.sh prints them over the translation 7a2fa12459a1d698… (all of the seat's roots in one cut). By AI agents, Wed Nov 11 2026. No macro, syntax, notation, axiom, sorry.
-/
import Derived.Test.YtbahibaohehojaaChecked
import GoSem.Claim
import GoSem.ClaimJoined
import GoSem.ClaimMapViews
import Derived.JoinedTies
import Derived.KernelRfl
namespace Go.Proofs.Ytbahibaohehojaa
/- THE CELL 'sum', in the pinned program and in every row, IS THE sha256 OF THE DUMP (.gsa) THAT YtbahibaohehojaaProg.lean LOADS. Nothing in Lean hashes anything: it is a label: what it is worth is what the hold of that sum in a sandbox is worth. -/
noncomputable def Try.pinned : Pinned := { name := "ytbahibaohehojaa", sum := "7a2fa12459a1d6980b60f58348063bb25f216c5be6ba16a6002b8fa13068fe8a", checked := Try.checked }
namespace Rows
def none {H : Type} : Left H := { results := [], args := [] }

/-- 'soundservicelaw10.OfferBest': WHATEVER THE INPUT: true; the input reads as it did. -/
def offerBestSpec : ChangeSpec := { name := "offerBest", fn := fun _ => fun
  | [d] => { results := [.lit (.bool true)], args := [d] }
  | _ => none }
def offerBestRow : OpenClaim := { program := "ytbahibaohehojaa", sum := "7a2fa12459a1d6980b60f58348063bb25f216c5be6ba16a6002b8fa13068fe8a", func := "soundservice/soundservicelaw10.OfferBest", spec := "offerBest", unfollowed := true, recurses := true, plainKeys := false, apart := false }
def OfferBestSaid : Prop := offerBestRow.holds Try.pinned (OpenSpec.ofChange offerBestSpec)

/-- ITS FALSE NEIGHBOUR: 'it returns false'. Refute it at one input. -/
def offerBestWrong : ChangeSpec := { name := "offerBest", fn := fun _ => fun
  | [d] => { results := [.lit (.bool false)], args := [d] }
  | _ => none }
def OfferBestWrongFalsely : Prop := offerBestRow.holds Try.pinned (OpenSpec.ofChange offerBestWrong)

/-- 'soundservicelaw10.OfferCompares': WHATEVER THE INPUT: true; the input reads as it did. -/
def offerComparesSpec : ChangeSpec := { name := "offerCompares", fn := fun _ => fun
  | [d] => { results := [.lit (.bool true)], args := [d] }
  | _ => none }
def offerComparesRow : OpenClaim := { program := "ytbahibaohehojaa", sum := "7a2fa12459a1d6980b60f58348063bb25f216c5be6ba16a6002b8fa13068fe8a", func := "soundservice/soundservicelaw10.OfferCompares", spec := "offerCompares", unfollowed := true, recurses := true, plainKeys := false, apart := false }
def OfferComparesSaid : Prop := offerComparesRow.holds Try.pinned (OpenSpec.ofChange offerComparesSpec)

/-- ITS FALSE NEIGHBOUR: 'it returns false'. Refute it at one input. -/
def offerComparesWrong : ChangeSpec := { name := "offerCompares", fn := fun _ => fun
  | [d] => { results := [.lit (.bool false)], args := [d] }
  | _ => none }
def OfferComparesWrongFalsely : Prop := offerComparesRow.holds Try.pinned (OpenSpec.ofChange offerComparesWrong)

/-- 'soundservicelaw09.IntsetMakes': WHATEVER THE INPUT: true; the input reads as it did. -/
def intsetMakesSpec : ChangeSpec := { name := "intsetMakes", fn := fun _ => fun
  | [d1, d2, d3] => { results := [.lit (.bool true)], args := [d1, d2, d3] }
  | _ => none }
def intsetMakesRow : OpenClaim := { program := "ytbahibaohehojaa", sum := "7a2fa12459a1d6980b60f58348063bb25f216c5be6ba16a6002b8fa13068fe8a", func := "soundservice/soundservicelaw09.IntsetMakes", spec := "intsetMakes", unfollowed := true, recurses := true, plainKeys := false, apart := false }
def IntsetMakesSaid : Prop := intsetMakesRow.holds Try.pinned (OpenSpec.ofChange intsetMakesSpec)

/-- ITS FALSE NEIGHBOUR: 'it returns false'. Refute it at one input. -/
def intsetMakesWrong : ChangeSpec := { name := "intsetMakes", fn := fun _ => fun
  | [d1, d2, d3] => { results := [.lit (.bool false)], args := [d1, d2, d3] }
  | _ => none }
def IntsetMakesWrongFalsely : Prop := intsetMakesRow.holds Try.pinned (OpenSpec.ofChange intsetMakesWrong)

/-- 'soundservicelaw09.IntsetNearest': WHATEVER THE INPUT: true; the input reads as it did. -/
def intsetNearestSpec : ChangeSpec := { name := "intsetNearest", fn := fun _ => fun
  | [d1, d2, d3] => { results := [.lit (.bool true)], args := [d1, d2, d3] }
  | _ => none }
def intsetNearestRow : OpenClaim := { program := "ytbahibaohehojaa", sum := "7a2fa12459a1d6980b60f58348063bb25f216c5be6ba16a6002b8fa13068fe8a", func := "soundservice/soundservicelaw09.IntsetNearest", spec := "intsetNearest", unfollowed := true, recurses := true, plainKeys := false, apart := false }
def IntsetNearestSaid : Prop := intsetNearestRow.holds Try.pinned (OpenSpec.ofChange intsetNearestSpec)

/-- ITS FALSE NEIGHBOUR: 'it returns false'. Refute it at one input. -/
def intsetNearestWrong : ChangeSpec := { name := "intsetNearest", fn := fun _ => fun
  | [d1, d2, d3] => { results := [.lit (.bool false)], args := [d1, d2, d3] }
  | _ => none }
def IntsetNearestWrongFalsely : Prop := intsetNearestRow.holds Try.pinned (OpenSpec.ofChange intsetNearestWrong)

/-- 'soundservicelaw09.IntsetForms': WHATEVER THE INPUT: true; the input reads as it did. -/
def intsetFormsSpec : ChangeSpec := { name := "intsetForms", fn := fun _ => fun
  | [d1, d2] => { results := [.lit (.bool true)], args := [d1, d2] }
  | _ => none }
def intsetFormsRow : OpenClaim := { program := "ytbahibaohehojaa", sum := "7a2fa12459a1d6980b60f58348063bb25f216c5be6ba16a6002b8fa13068fe8a", func := "soundservice/soundservicelaw09.IntsetForms", spec := "intsetForms", unfollowed := true, recurses := true, plainKeys := false, apart := false }
def IntsetFormsSaid : Prop := intsetFormsRow.holds Try.pinned (OpenSpec.ofChange intsetFormsSpec)

/-- ITS FALSE NEIGHBOUR: 'it returns false'. Refute it at one input. -/
def intsetFormsWrong : ChangeSpec := { name := "intsetForms", fn := fun _ => fun
  | [d1, d2] => { results := [.lit (.bool false)], args := [d1, d2] }
  | _ => none }
def IntsetFormsWrongFalsely : Prop := intsetFormsRow.holds Try.pinned (OpenSpec.ofChange intsetFormsWrong)

/-- 'soundservicelaw37.GlitchSums': WHATEVER THE INPUT: true; the input reads as it did. -/
def glitchSumsSpec : ChangeSpec := { name := "glitchSums", fn := fun _ => fun
  | [d1, d2] => { results := [.lit (.bool true)], args := [d1, d2] }
  | _ => none }
def glitchSumsRow : OpenClaim := { program := "ytbahibaohehojaa", sum := "7a2fa12459a1d6980b60f58348063bb25f216c5be6ba16a6002b8fa13068fe8a", func := "soundservice/soundservicelaw37.GlitchSums", spec := "glitchSums", unfollowed := true, recurses := true, plainKeys := false, apart := false }
def GlitchSumsSaid : Prop := glitchSumsRow.holds Try.pinned (OpenSpec.ofChange glitchSumsSpec)

/-- ITS FALSE NEIGHBOUR: 'it returns false'. Refute it at one input. -/
def glitchSumsWrong : ChangeSpec := { name := "glitchSums", fn := fun _ => fun
  | [d1, d2] => { results := [.lit (.bool false)], args := [d1, d2] }
  | _ => none }
def GlitchSumsWrongFalsely : Prop := glitchSumsRow.holds Try.pinned (OpenSpec.ofChange glitchSumsWrong)

/-- 'soundservicelaw37.GlitchOrders': WHATEVER THE INPUT: true; the input reads as it did. -/
def glitchOrdersSpec : ChangeSpec := { name := "glitchOrders", fn := fun _ => fun
  | [d1, d2] => { results := [.lit (.bool true)], args := [d1, d2] }
  | _ => none }
def glitchOrdersRow : OpenClaim := { program := "ytbahibaohehojaa", sum := "7a2fa12459a1d6980b60f58348063bb25f216c5be6ba16a6002b8fa13068fe8a", func := "soundservice/soundservicelaw37.GlitchOrders", spec := "glitchOrders", unfollowed := true, recurses := true, plainKeys := false, apart := false }
def GlitchOrdersSaid : Prop := glitchOrdersRow.holds Try.pinned (OpenSpec.ofChange glitchOrdersSpec)

/-- ITS FALSE NEIGHBOUR: 'it returns false'. Refute it at one input. -/
def glitchOrdersWrong : ChangeSpec := { name := "glitchOrders", fn := fun _ => fun
  | [d1, d2] => { results := [.lit (.bool false)], args := [d1, d2] }
  | _ => none }
def GlitchOrdersWrongFalsely : Prop := glitchOrdersRow.holds Try.pinned (OpenSpec.ofChange glitchOrdersWrong)

/-- 'soundservicelaw37.GlitchTotal': WHATEVER THE INPUT: true; the input reads as it did. -/
def glitchTotalSpec : ChangeSpec := { name := "glitchTotal", fn := fun _ => fun
  | [d] => { results := [.lit (.bool true)], args := [d] }
  | _ => none }
def glitchTotalRow : OpenClaim := { program := "ytbahibaohehojaa", sum := "7a2fa12459a1d6980b60f58348063bb25f216c5be6ba16a6002b8fa13068fe8a", func := "soundservice/soundservicelaw37.GlitchTotal", spec := "glitchTotal", unfollowed := true, recurses := true, plainKeys := false, apart := false }
def GlitchTotalSaid : Prop := glitchTotalRow.holds Try.pinned (OpenSpec.ofChange glitchTotalSpec)

/-- ITS FALSE NEIGHBOUR: 'it returns false'. Refute it at one input. -/
def glitchTotalWrong : ChangeSpec := { name := "glitchTotal", fn := fun _ => fun
  | [d] => { results := [.lit (.bool false)], args := [d] }
  | _ => none }
def GlitchTotalWrongFalsely : Prop := glitchTotalRow.holds Try.pinned (OpenSpec.ofChange glitchTotalWrong)

/-- 'soundservicelaw09.IntsetAlgebra': WHATEVER THE INPUT: true; the input reads as it did. -/
def intsetAlgebraSpec : ChangeSpec := { name := "intsetAlgebra", fn := fun _ => fun
  | [d1, d2, d3] => { results := [.lit (.bool true)], args := [d1, d2, d3] }
  | _ => none }
def intsetAlgebraRow : OpenClaim := { program := "ytbahibaohehojaa", sum := "7a2fa12459a1d6980b60f58348063bb25f216c5be6ba16a6002b8fa13068fe8a", func := "soundservice/soundservicelaw09.IntsetAlgebra", spec := "intsetAlgebra", unfollowed := true, recurses := true, plainKeys := false, apart := false }
def IntsetAlgebraSaid : Prop := intsetAlgebraRow.holds Try.pinned (OpenSpec.ofChange intsetAlgebraSpec)

/-- ITS FALSE NEIGHBOUR: 'it returns false'. Refute it at one input. -/
def intsetAlgebraWrong : ChangeSpec := { name := "intsetAlgebra", fn := fun _ => fun
  | [d1, d2, d3] => { results := [.lit (.bool false)], args := [d1, d2, d3] }
  | _ => none }
def IntsetAlgebraWrongFalsely : Prop := intsetAlgebraRow.holds Try.pinned (OpenSpec.ofChange intsetAlgebraWrong)

/-- 'soundservicelaw09.IntsetCombines': WHATEVER THE INPUT: true; the input reads as it did. -/
def intsetCombinesSpec : ChangeSpec := { name := "intsetCombines", fn := fun _ => fun
  | [d1, d2, d3, d4, d5] => { results := [.lit (.bool true)], args := [d1, d2, d3, d4, d5] }
  | _ => none }
def intsetCombinesRow : OpenClaim := { program := "ytbahibaohehojaa", sum := "7a2fa12459a1d6980b60f58348063bb25f216c5be6ba16a6002b8fa13068fe8a", func := "soundservice/soundservicelaw09.IntsetCombines", spec := "intsetCombines", unfollowed := true, recurses := true, plainKeys := false, apart := false }
def IntsetCombinesSaid : Prop := intsetCombinesRow.holds Try.pinned (OpenSpec.ofChange intsetCombinesSpec)

/-- ITS FALSE NEIGHBOUR: 'it returns false'. Refute it at one input. -/
def intsetCombinesWrong : ChangeSpec := { name := "intsetCombines", fn := fun _ => fun
  | [d1, d2, d3, d4, d5] => { results := [.lit (.bool false)], args := [d1, d2, d3, d4, d5] }
  | _ => none }
def IntsetCombinesWrongFalsely : Prop := intsetCombinesRow.holds Try.pinned (OpenSpec.ofChange intsetCombinesWrong)

/-- 'soundservicelaw09.IntsetMembers': WHATEVER THE INPUT: true; the input reads as it did. -/
def intsetMembersSpec : ChangeSpec := { name := "intsetMembers", fn := fun _ => fun
  | [d1, d2, d3] => { results := [.lit (.bool true)], args := [d1, d2, d3] }
  | _ => none }
def intsetMembersRow : OpenClaim := { program := "ytbahibaohehojaa", sum := "7a2fa12459a1d6980b60f58348063bb25f216c5be6ba16a6002b8fa13068fe8a", func := "soundservice/soundservicelaw09.IntsetMembers", spec := "intsetMembers", unfollowed := true, recurses := true, plainKeys := false, apart := false }
def IntsetMembersSaid : Prop := intsetMembersRow.holds Try.pinned (OpenSpec.ofChange intsetMembersSpec)

/-- ITS FALSE NEIGHBOUR: 'it returns false'. Refute it at one input. -/
def intsetMembersWrong : ChangeSpec := { name := "intsetMembers", fn := fun _ => fun
  | [d1, d2, d3] => { results := [.lit (.bool false)], args := [d1, d2, d3] }
  | _ => none }
def IntsetMembersWrongFalsely : Prop := intsetMembersRow.holds Try.pinned (OpenSpec.ofChange intsetMembersWrong)

/-- 'soundservicelaw12.NegotiateRefuses': WHATEVER THE INPUT: true; the input reads as it did. -/
def negotiateRefusesSpec : ChangeSpec := { name := "negotiateRefuses", fn := fun _ => fun
  | [d] => { results := [.lit (.bool true)], args := [d] }
  | _ => none }
def negotiateRefusesRow : OpenClaim := { program := "ytbahibaohehojaa", sum := "7a2fa12459a1d6980b60f58348063bb25f216c5be6ba16a6002b8fa13068fe8a", func := "soundservice/soundservicelaw12.NegotiateRefuses", spec := "negotiateRefuses", unfollowed := true, recurses := true, plainKeys := false, apart := false }
def NegotiateRefusesSaid : Prop := negotiateRefusesRow.holds Try.pinned (OpenSpec.ofChange negotiateRefusesSpec)

/-- ITS FALSE NEIGHBOUR: 'it returns false'. Refute it at one input. -/
def negotiateRefusesWrong : ChangeSpec := { name := "negotiateRefuses", fn := fun _ => fun
  | [d] => { results := [.lit (.bool false)], args := [d] }
  | _ => none }
def NegotiateRefusesWrongFalsely : Prop := negotiateRefusesRow.holds Try.pinned (OpenSpec.ofChange negotiateRefusesWrong)

/-- 'soundservicelaw12.NegotiateConverts': WHATEVER THE INPUT: true; the input reads as it did. -/
def negotiateConvertsSpec : ChangeSpec := { name := "negotiateConverts", fn := fun _ => fun
  | [d1, d2, d3] => { results := [.lit (.bool true)], args := [d1, d2, d3] }
  | _ => none }
def negotiateConvertsRow : OpenClaim := { program := "ytbahibaohehojaa", sum := "7a2fa12459a1d6980b60f58348063bb25f216c5be6ba16a6002b8fa13068fe8a", func := "soundservice/soundservicelaw12.NegotiateConverts", spec := "negotiateConverts", unfollowed := true, recurses := true, plainKeys := false, apart := false }
def NegotiateConvertsSaid : Prop := negotiateConvertsRow.holds Try.pinned (OpenSpec.ofChange negotiateConvertsSpec)

/-- ITS FALSE NEIGHBOUR: 'it returns false'. Refute it at one input. -/
def negotiateConvertsWrong : ChangeSpec := { name := "negotiateConverts", fn := fun _ => fun
  | [d1, d2, d3] => { results := [.lit (.bool false)], args := [d1, d2, d3] }
  | _ => none }
def NegotiateConvertsWrongFalsely : Prop := negotiateConvertsRow.holds Try.pinned (OpenSpec.ofChange negotiateConvertsWrong)

/-- 'soundservicelaw12.NegotiateBackwards': WHATEVER THE INPUT: true; the input reads as it did. -/
def negotiateBackwardsSpec : ChangeSpec := { name := "negotiateBackwards", fn := fun _ => fun
  | [d1, d2] => { results := [.lit (.bool true)], args := [d1, d2] }
  | _ => none }
def negotiateBackwardsRow : OpenClaim := { program := "ytbahibaohehojaa", sum := "7a2fa12459a1d6980b60f58348063bb25f216c5be6ba16a6002b8fa13068fe8a", func := "soundservice/soundservicelaw12.NegotiateBackwards", spec := "negotiateBackwards", unfollowed := true, recurses := true, plainKeys := false, apart := false }
def NegotiateBackwardsSaid : Prop := negotiateBackwardsRow.holds Try.pinned (OpenSpec.ofChange negotiateBackwardsSpec)

/-- ITS FALSE NEIGHBOUR: 'it returns false'. Refute it at one input. -/
def negotiateBackwardsWrong : ChangeSpec := { name := "negotiateBackwards", fn := fun _ => fun
  | [d1, d2] => { results := [.lit (.bool false)], args := [d1, d2] }
  | _ => none }
def NegotiateBackwardsWrongFalsely : Prop := negotiateBackwardsRow.holds Try.pinned (OpenSpec.ofChange negotiateBackwardsWrong)

/-- 'soundservicelaw12.NegotiateWider': WHATEVER THE INPUT: true; the input reads as it did. -/
def negotiateWiderSpec : ChangeSpec := { name := "negotiateWider", fn := fun _ => fun
  | [d1, d2] => { results := [.lit (.bool true)], args := [d1, d2] }
  | _ => none }
def negotiateWiderRow : OpenClaim := { program := "ytbahibaohehojaa", sum := "7a2fa12459a1d6980b60f58348063bb25f216c5be6ba16a6002b8fa13068fe8a", func := "soundservice/soundservicelaw12.NegotiateWider", spec := "negotiateWider", unfollowed := true, recurses := true, plainKeys := false, apart := false }
def NegotiateWiderSaid : Prop := negotiateWiderRow.holds Try.pinned (OpenSpec.ofChange negotiateWiderSpec)

/-- ITS FALSE NEIGHBOUR: 'it returns false'. Refute it at one input. -/
def negotiateWiderWrong : ChangeSpec := { name := "negotiateWider", fn := fun _ => fun
  | [d1, d2] => { results := [.lit (.bool false)], args := [d1, d2] }
  | _ => none }
def NegotiateWiderWrongFalsely : Prop := negotiateWiderRow.holds Try.pinned (OpenSpec.ofChange negotiateWiderWrong)

/- THE SECOND FORM. 'bulk': how many values and letters a reading holds, each counted each time it is reached (what is shared counts as often as it is met; a slice's spare places count too). A statement '..UptoSaid' is the law's where the arguments, and the package variables that the reading takes, are together of bulk at most 1048576: NARROWER than '..Said'. Prove '..Said' where nothing that the law and all that it calls make is longer than what came in: it says more and counts as full. Else prove '..UptoSaid'. A law counts once. -/
mutual
def uptoBulk {H : Type} : DataW H → Nat
  | .lit (.string bytes) => bytes.length + 1
  | .lit _ => 1
  | .nil => 1
  | .ptr d => uptoBulk d + 1
  | .slice elems spare => uptoBulkAll elems + uptoBulkAll spare + 1
  | .agg parts => uptoBulkAll parts + 1
  | .iface _ d => uptoBulk d + 1
  | .map entries => uptoBulkEntries entries + 1
  | .held _ => 1
def uptoBulkAll {H : Type} : List (DataW H) → Nat
  | [] => 0
  | d :: r => uptoBulk d + uptoBulkAll r
def uptoBulkEntries {H : Type} : List (Lit × DataW H) → Nat
  | [] => 0
  | x :: r => uptoBulkEntry x + uptoBulkEntries r
def uptoBulkEntry {H : Type} : Lit × DataW H → Nat
  | (.string bytes, d) => bytes.length + uptoBulk d + 1
  | (_, d) => uptoBulk d + 1
 end
def uptoSmall : (H : Type) → List (DataW H) → Bool := fun _ ds => decide (uptoBulkAll ds ≤ 1048576)
def OpenSpec.upto (s : _root_.Go.ChangeSpec) : _root_.Go.OpenSpec := { _root_.Go.OpenSpec.ofChange s with cond := some uptoSmall }

/-- 'soundservicelaw10.OfferBest', WHERE WHAT IT READS IS OF BULK AT MOST 1048576: true; the input reads as it did. -/
def offerBestUptoRow : OpenClaim := { program := "ytbahibaohehojaa", sum := "7a2fa12459a1d6980b60f58348063bb25f216c5be6ba16a6002b8fa13068fe8a", func := "soundservice/soundservicelaw10.OfferBest", spec := "offerBest", unfollowed := true, recurses := true, plainKeys := false, apart := false, narrowed := true }
def OfferBestUptoSaid : Prop := offerBestUptoRow.holds Try.pinned (OpenSpec.upto offerBestSpec)

/-- 'soundservicelaw10.OfferCompares', WHERE WHAT IT READS IS OF BULK AT MOST 1048576: true; the input reads as it did. -/
def offerComparesUptoRow : OpenClaim := { program := "ytbahibaohehojaa", sum := "7a2fa12459a1d6980b60f58348063bb25f216c5be6ba16a6002b8fa13068fe8a", func := "soundservice/soundservicelaw10.OfferCompares", spec := "offerCompares", unfollowed := true, recurses := true, plainKeys := false, apart := false, narrowed := true }
def OfferComparesUptoSaid : Prop := offerComparesUptoRow.holds Try.pinned (OpenSpec.upto offerComparesSpec)

/-- 'soundservicelaw09.IntsetMakes', WHERE WHAT IT READS IS OF BULK AT MOST 1048576: true; the input reads as it did. -/
def intsetMakesUptoRow : OpenClaim := { program := "ytbahibaohehojaa", sum := "7a2fa12459a1d6980b60f58348063bb25f216c5be6ba16a6002b8fa13068fe8a", func := "soundservice/soundservicelaw09.IntsetMakes", spec := "intsetMakes", unfollowed := true, recurses := true, plainKeys := false, apart := false, narrowed := true }
def IntsetMakesUptoSaid : Prop := intsetMakesUptoRow.holds Try.pinned (OpenSpec.upto intsetMakesSpec)

/-- 'soundservicelaw09.IntsetNearest', WHERE WHAT IT READS IS OF BULK AT MOST 1048576: true; the input reads as it did. -/
def intsetNearestUptoRow : OpenClaim := { program := "ytbahibaohehojaa", sum := "7a2fa12459a1d6980b60f58348063bb25f216c5be6ba16a6002b8fa13068fe8a", func := "soundservice/soundservicelaw09.IntsetNearest", spec := "intsetNearest", unfollowed := true, recurses := true, plainKeys := false, apart := false, narrowed := true }
def IntsetNearestUptoSaid : Prop := intsetNearestUptoRow.holds Try.pinned (OpenSpec.upto intsetNearestSpec)

/-- 'soundservicelaw09.IntsetForms', WHERE WHAT IT READS IS OF BULK AT MOST 1048576: true; the input reads as it did. -/
def intsetFormsUptoRow : OpenClaim := { program := "ytbahibaohehojaa", sum := "7a2fa12459a1d6980b60f58348063bb25f216c5be6ba16a6002b8fa13068fe8a", func := "soundservice/soundservicelaw09.IntsetForms", spec := "intsetForms", unfollowed := true, recurses := true, plainKeys := false, apart := false, narrowed := true }
def IntsetFormsUptoSaid : Prop := intsetFormsUptoRow.holds Try.pinned (OpenSpec.upto intsetFormsSpec)

/-- 'soundservicelaw37.GlitchSums', WHERE WHAT IT READS IS OF BULK AT MOST 1048576: true; the input reads as it did. -/
def glitchSumsUptoRow : OpenClaim := { program := "ytbahibaohehojaa", sum := "7a2fa12459a1d6980b60f58348063bb25f216c5be6ba16a6002b8fa13068fe8a", func := "soundservice/soundservicelaw37.GlitchSums", spec := "glitchSums", unfollowed := true, recurses := true, plainKeys := false, apart := false, narrowed := true }
def GlitchSumsUptoSaid : Prop := glitchSumsUptoRow.holds Try.pinned (OpenSpec.upto glitchSumsSpec)

/-- 'soundservicelaw37.GlitchOrders', WHERE WHAT IT READS IS OF BULK AT MOST 1048576: true; the input reads as it did. -/
def glitchOrdersUptoRow : OpenClaim := { program := "ytbahibaohehojaa", sum := "7a2fa12459a1d6980b60f58348063bb25f216c5be6ba16a6002b8fa13068fe8a", func := "soundservice/soundservicelaw37.GlitchOrders", spec := "glitchOrders", unfollowed := true, recurses := true, plainKeys := false, apart := false, narrowed := true }
def GlitchOrdersUptoSaid : Prop := glitchOrdersUptoRow.holds Try.pinned (OpenSpec.upto glitchOrdersSpec)

/-- 'soundservicelaw37.GlitchTotal', WHERE WHAT IT READS IS OF BULK AT MOST 1048576: true; the input reads as it did. -/
def glitchTotalUptoRow : OpenClaim := { program := "ytbahibaohehojaa", sum := "7a2fa12459a1d6980b60f58348063bb25f216c5be6ba16a6002b8fa13068fe8a", func := "soundservice/soundservicelaw37.GlitchTotal", spec := "glitchTotal", unfollowed := true, recurses := true, plainKeys := false, apart := false, narrowed := true }
def GlitchTotalUptoSaid : Prop := glitchTotalUptoRow.holds Try.pinned (OpenSpec.upto glitchTotalSpec)

/-- 'soundservicelaw09.IntsetAlgebra', WHERE WHAT IT READS IS OF BULK AT MOST 1048576: true; the input reads as it did. -/
def intsetAlgebraUptoRow : OpenClaim := { program := "ytbahibaohehojaa", sum := "7a2fa12459a1d6980b60f58348063bb25f216c5be6ba16a6002b8fa13068fe8a", func := "soundservice/soundservicelaw09.IntsetAlgebra", spec := "intsetAlgebra", unfollowed := true, recurses := true, plainKeys := false, apart := false, narrowed := true }
def IntsetAlgebraUptoSaid : Prop := intsetAlgebraUptoRow.holds Try.pinned (OpenSpec.upto intsetAlgebraSpec)

/-- 'soundservicelaw09.IntsetCombines', WHERE WHAT IT READS IS OF BULK AT MOST 1048576: true; the input reads as it did. -/
def intsetCombinesUptoRow : OpenClaim := { program := "ytbahibaohehojaa", sum := "7a2fa12459a1d6980b60f58348063bb25f216c5be6ba16a6002b8fa13068fe8a", func := "soundservice/soundservicelaw09.IntsetCombines", spec := "intsetCombines", unfollowed := true, recurses := true, plainKeys := false, apart := false, narrowed := true }
def IntsetCombinesUptoSaid : Prop := intsetCombinesUptoRow.holds Try.pinned (OpenSpec.upto intsetCombinesSpec)

/-- 'soundservicelaw09.IntsetMembers', WHERE WHAT IT READS IS OF BULK AT MOST 1048576: true; the input reads as it did. -/
def intsetMembersUptoRow : OpenClaim := { program := "ytbahibaohehojaa", sum := "7a2fa12459a1d6980b60f58348063bb25f216c5be6ba16a6002b8fa13068fe8a", func := "soundservice/soundservicelaw09.IntsetMembers", spec := "intsetMembers", unfollowed := true, recurses := true, plainKeys := false, apart := false, narrowed := true }
def IntsetMembersUptoSaid : Prop := intsetMembersUptoRow.holds Try.pinned (OpenSpec.upto intsetMembersSpec)

/-- 'soundservicelaw12.NegotiateRefuses', WHERE WHAT IT READS IS OF BULK AT MOST 1048576: true; the input reads as it did. -/
def negotiateRefusesUptoRow : OpenClaim := { program := "ytbahibaohehojaa", sum := "7a2fa12459a1d6980b60f58348063bb25f216c5be6ba16a6002b8fa13068fe8a", func := "soundservice/soundservicelaw12.NegotiateRefuses", spec := "negotiateRefuses", unfollowed := true, recurses := true, plainKeys := false, apart := false, narrowed := true }
def NegotiateRefusesUptoSaid : Prop := negotiateRefusesUptoRow.holds Try.pinned (OpenSpec.upto negotiateRefusesSpec)

/-- 'soundservicelaw12.NegotiateConverts', WHERE WHAT IT READS IS OF BULK AT MOST 1048576: true; the input reads as it did. -/
def negotiateConvertsUptoRow : OpenClaim := { program := "ytbahibaohehojaa", sum := "7a2fa12459a1d6980b60f58348063bb25f216c5be6ba16a6002b8fa13068fe8a", func := "soundservice/soundservicelaw12.NegotiateConverts", spec := "negotiateConverts", unfollowed := true, recurses := true, plainKeys := false, apart := false, narrowed := true }
def NegotiateConvertsUptoSaid : Prop := negotiateConvertsUptoRow.holds Try.pinned (OpenSpec.upto negotiateConvertsSpec)

/-- 'soundservicelaw12.NegotiateBackwards', WHERE WHAT IT READS IS OF BULK AT MOST 1048576: true; the input reads as it did. -/
def negotiateBackwardsUptoRow : OpenClaim := { program := "ytbahibaohehojaa", sum := "7a2fa12459a1d6980b60f58348063bb25f216c5be6ba16a6002b8fa13068fe8a", func := "soundservice/soundservicelaw12.NegotiateBackwards", spec := "negotiateBackwards", unfollowed := true, recurses := true, plainKeys := false, apart := false, narrowed := true }
def NegotiateBackwardsUptoSaid : Prop := negotiateBackwardsUptoRow.holds Try.pinned (OpenSpec.upto negotiateBackwardsSpec)

/-- 'soundservicelaw12.NegotiateWider', WHERE WHAT IT READS IS OF BULK AT MOST 1048576: true; the input reads as it did. -/
def negotiateWiderUptoRow : OpenClaim := { program := "ytbahibaohehojaa", sum := "7a2fa12459a1d6980b60f58348063bb25f216c5be6ba16a6002b8fa13068fe8a", func := "soundservice/soundservicelaw12.NegotiateWider", spec := "negotiateWider", unfollowed := true, recurses := true, plainKeys := false, apart := false, narrowed := true }
def NegotiateWiderUptoSaid : Prop := negotiateWiderUptoRow.holds Try.pinned (OpenSpec.upto negotiateWiderSpec)

end Rows
end Go.Proofs.Ytbahibaohehojaa
