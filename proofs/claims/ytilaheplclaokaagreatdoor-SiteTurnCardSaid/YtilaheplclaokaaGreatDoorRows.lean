/-
  NARROWER THAN 'FOR EVERY INPUT', by the rows' own cells (each row's printed sentence says how): SiteTurn: laid · SiteArm: laid · SitePlace: laid · PlanUp: laid · CellsParts: laid · CellsComplete: laid.
  DERIVED. THE GIVEN ROWS OF THIS SEAT. 6 by the template 'for every input the law returns true; each argument reads behind the call as it read before'; 0 by the template 'total and deterministic' (their statements: YtilaheplclaokaaGreatDoorTotals.lean).
  GIVEN WITH THE SEED: the statements are not yours to turn. If you find one false, say at which input.
  Laid BY PROGRAM, IN A SANDBOX (cutbox-rows.mjs): the forced cells as the released guide's own fill.sh prints them over the translation 856b4022da066489… (all of the seat's roots in one cut). By AI agents, Wed Nov 11 2026. No macro, syntax, notation, axiom, sorry.
-/
import Derived.Test.YtilaheplclaokaaGreatDoorChecked
import GoSem.PinnedTables
import GoSem.Claim
import GoSem.ClaimJoined
import GoSem.ClaimMapViews
import Derived.JoinedTies
import Derived.KernelRfl
namespace Go.Proofs.YtilaheplclaokaaGreatDoor
/- THE CELL 'sum', in the pinned program and in every row, IS THE sha256 OF THE DUMP (.gsa) THAT YtilaheplclaokaaGreatDoorProg.lean LOADS. Nothing in Lean hashes anything: it is a label: what it is worth is what the hold of that sum in a sandbox is worth. -/
noncomputable def Tryz.pinned : Pinned := { name := "ytilaheplclaokaagreatdoor", sum := "856b4022da066489154b61c5f5a2163c05d39bc1d4b3aadc49710a6dd979c2be", checked := Tryz.checked }
namespace Rows
def none {H : Type} : Left H := { results := [], args := [] }

/- WHAT THE LISTED PACKAGE-LEVEL VARIABLES READ AS WHEN THE CALL BEGINS. Each datum BY PROGRAM (the guide's laid-datum.mjs) off the statement by which the dump's own 'gosem.cut.vars' lays the variable. In a bare row this is a premise. The card (YtilaheplclaokaaGreatDoorCards.lean) ties it to the program's text. -/
def laid_unicode_utf8_acceptRanges {H : Type} : DataW H := .agg [.agg [.lit (.int .u8 128), .lit (.int .u8 191)], .agg [.lit (.int .u8 160), .lit (.int .u8 191)], .agg [.lit (.int .u8 128), .lit (.int .u8 159)], .agg [.lit (.int .u8 144), .lit (.int .u8 191)], .agg [.lit (.int .u8 128), .lit (.int .u8 143)], .agg [.lit (.int .u8 0), .lit (.int .u8 0)], .agg [.lit (.int .u8 0), .lit (.int .u8 0)], .agg [.lit (.int .u8 0), .lit (.int .u8 0)], .agg [.lit (.int .u8 0), .lit (.int .u8 0)], .agg [.lit (.int .u8 0), .lit (.int .u8 0)], .agg [.lit (.int .u8 0), .lit (.int .u8 0)], .agg [.lit (.int .u8 0), .lit (.int .u8 0)], .agg [.lit (.int .u8 0), .lit (.int .u8 0)], .agg [.lit (.int .u8 0), .lit (.int .u8 0)], .agg [.lit (.int .u8 0), .lit (.int .u8 0)], .agg [.lit (.int .u8 0), .lit (.int .u8 0)]]
/-- One of Go's own tables, pinned by name: the form's constant. -/
def laid_unicode_utf8_first : DataW Unit := Go.Pinned.utf8First

/-- 'planispherelaw24.SiteTurn': WHATEVER THE INPUT: true; the input reads as it did. -/
def siteTurnSpec : ChangeSpec := { name := "siteTurn", fn := fun _ => fun
  | [d1, d2] => { results := [.lit (.bool true)], args := [d1, d2] }
  | _ => none }
def siteTurnRow : OpenClaim := { program := "ytilaheplclaokaagreatdoor", sum := "856b4022da066489154b61c5f5a2163c05d39bc1d4b3aadc49710a6dd979c2be", func := "planisphere/planispherelaw24.SiteTurn", spec := "siteTurn", inPlace := ["internal/bytealg.IndexByteString", "internal/bytealg.IndexString", "math/bits.Sub64"], unfollowed := true, recurses := true, named := ["math/bits.overflowError", "unicode/utf8.first", "unicode/utf8.acceptRanges", "math/bits.divideError", "internal/bytealg.MaxLen"], plainKeys := false, apart := false, laid := [("unicode/utf8.acceptRanges", laid_unicode_utf8_acceptRanges), ("unicode/utf8.first", laid_unicode_utf8_first)] }
def SiteTurnSaid : Prop := siteTurnRow.holds Tryz.pinned (OpenSpec.ofChange siteTurnSpec)

/-- ITS FALSE NEIGHBOUR: 'it returns false'. Refute it at one input. -/
def siteTurnWrong : ChangeSpec := { name := "siteTurn", fn := fun _ => fun
  | [d1, d2] => { results := [.lit (.bool false)], args := [d1, d2] }
  | _ => none }
def SiteTurnWrongFalsely : Prop := siteTurnRow.holds Tryz.pinned (OpenSpec.ofChange siteTurnWrong)

/-- 'planispherelaw24.SiteArm': WHATEVER THE INPUT: true; the input reads as it did. -/
def siteArmSpec : ChangeSpec := { name := "siteArm", fn := fun _ => fun
  | [d1, d2] => { results := [.lit (.bool true)], args := [d1, d2] }
  | _ => none }
def siteArmRow : OpenClaim := { program := "ytilaheplclaokaagreatdoor", sum := "856b4022da066489154b61c5f5a2163c05d39bc1d4b3aadc49710a6dd979c2be", func := "planisphere/planispherelaw24.SiteArm", spec := "siteArm", inPlace := ["internal/bytealg.IndexByteString", "internal/bytealg.IndexString", "math/bits.Sub64"], unfollowed := true, recurses := true, named := ["math/bits.overflowError", "unicode/utf8.first", "unicode/utf8.acceptRanges", "math/bits.divideError", "internal/bytealg.MaxLen"], plainKeys := false, apart := false, laid := [("unicode/utf8.acceptRanges", laid_unicode_utf8_acceptRanges), ("unicode/utf8.first", laid_unicode_utf8_first)] }
def SiteArmSaid : Prop := siteArmRow.holds Tryz.pinned (OpenSpec.ofChange siteArmSpec)

/-- ITS FALSE NEIGHBOUR: 'it returns false'. Refute it at one input. -/
def siteArmWrong : ChangeSpec := { name := "siteArm", fn := fun _ => fun
  | [d1, d2] => { results := [.lit (.bool false)], args := [d1, d2] }
  | _ => none }
def SiteArmWrongFalsely : Prop := siteArmRow.holds Tryz.pinned (OpenSpec.ofChange siteArmWrong)

/-- 'planispherelaw24.SitePlace': WHATEVER THE INPUT: true; the input reads as it did. -/
def sitePlaceSpec : ChangeSpec := { name := "sitePlace", fn := fun _ => fun
  | [d1, d2, d3] => { results := [.lit (.bool true)], args := [d1, d2, d3] }
  | _ => none }
def sitePlaceRow : OpenClaim := { program := "ytilaheplclaokaagreatdoor", sum := "856b4022da066489154b61c5f5a2163c05d39bc1d4b3aadc49710a6dd979c2be", func := "planisphere/planispherelaw24.SitePlace", spec := "sitePlace", inPlace := ["internal/bytealg.IndexByteString", "internal/bytealg.IndexString", "math/bits.Sub64"], unfollowed := true, recurses := true, named := ["math/bits.overflowError", "unicode/utf8.first", "unicode/utf8.acceptRanges", "math/bits.divideError", "internal/bytealg.MaxLen"], plainKeys := false, apart := false, laid := [("unicode/utf8.acceptRanges", laid_unicode_utf8_acceptRanges), ("unicode/utf8.first", laid_unicode_utf8_first)] }
def SitePlaceSaid : Prop := sitePlaceRow.holds Tryz.pinned (OpenSpec.ofChange sitePlaceSpec)

/-- ITS FALSE NEIGHBOUR: 'it returns false'. Refute it at one input. -/
def sitePlaceWrong : ChangeSpec := { name := "sitePlace", fn := fun _ => fun
  | [d1, d2, d3] => { results := [.lit (.bool false)], args := [d1, d2, d3] }
  | _ => none }
def SitePlaceWrongFalsely : Prop := sitePlaceRow.holds Tryz.pinned (OpenSpec.ofChange sitePlaceWrong)

/-- 'planispherelaw42.PlanUp': WHATEVER THE INPUT: true; the input reads as it did. -/
def planUpSpec : ChangeSpec := { name := "planUp", fn := fun _ => fun
  | [d1, d2, d3, d4, d5, d6] => { results := [.lit (.bool true)], args := [d1, d2, d3, d4, d5, d6] }
  | _ => none }
def planUpRow : OpenClaim := { program := "ytilaheplclaokaagreatdoor", sum := "856b4022da066489154b61c5f5a2163c05d39bc1d4b3aadc49710a6dd979c2be", func := "planisphere/planispherelaw42.PlanUp", spec := "planUp", inPlace := ["internal/bytealg.IndexByteString", "internal/bytealg.IndexString", "math/bits.Sub64"], unfollowed := true, recurses := true, named := ["math/bits.overflowError", "unicode/utf8.first", "unicode/utf8.acceptRanges", "math/bits.divideError", "internal/bytealg.MaxLen"], plainKeys := false, apart := false, laid := [("unicode/utf8.acceptRanges", laid_unicode_utf8_acceptRanges), ("unicode/utf8.first", laid_unicode_utf8_first)] }
def PlanUpSaid : Prop := planUpRow.holds Tryz.pinned (OpenSpec.ofChange planUpSpec)

/-- ITS FALSE NEIGHBOUR: 'it returns false'. Refute it at one input. -/
def planUpWrong : ChangeSpec := { name := "planUp", fn := fun _ => fun
  | [d1, d2, d3, d4, d5, d6] => { results := [.lit (.bool false)], args := [d1, d2, d3, d4, d5, d6] }
  | _ => none }
def PlanUpWrongFalsely : Prop := planUpRow.holds Tryz.pinned (OpenSpec.ofChange planUpWrong)

/-- 'planispherelaw30.CellsParts': WHATEVER THE INPUT: true; the input reads as it did. -/
def cellsPartsSpec : ChangeSpec := { name := "cellsParts", fn := fun _ => fun
  | [d1, d2, d3, d4, d5, d6] => { results := [.lit (.bool true)], args := [d1, d2, d3, d4, d5, d6] }
  | _ => none }
def cellsPartsRow : OpenClaim := { program := "ytilaheplclaokaagreatdoor", sum := "856b4022da066489154b61c5f5a2163c05d39bc1d4b3aadc49710a6dd979c2be", func := "planisphere/planispherelaw30.CellsParts", spec := "cellsParts", inPlace := ["math/bits.Sub64", "internal/bytealg.IndexByteString", "internal/bytealg.IndexString"], unfollowed := true, recurses := true, named := ["math/bits.divideError", "math/bits.overflowError", "unicode/utf8.first", "unicode/utf8.acceptRanges", "internal/bytealg.MaxLen"], plainKeys := false, apart := false, laid := [("unicode/utf8.acceptRanges", laid_unicode_utf8_acceptRanges), ("unicode/utf8.first", laid_unicode_utf8_first)] }
def CellsPartsSaid : Prop := cellsPartsRow.holds Tryz.pinned (OpenSpec.ofChange cellsPartsSpec)

/-- ITS FALSE NEIGHBOUR: 'it returns false'. Refute it at one input. -/
def cellsPartsWrong : ChangeSpec := { name := "cellsParts", fn := fun _ => fun
  | [d1, d2, d3, d4, d5, d6] => { results := [.lit (.bool false)], args := [d1, d2, d3, d4, d5, d6] }
  | _ => none }
def CellsPartsWrongFalsely : Prop := cellsPartsRow.holds Tryz.pinned (OpenSpec.ofChange cellsPartsWrong)

/-- 'planispherelaw30.CellsComplete': WHATEVER THE INPUT: true; the input reads as it did. -/
def cellsCompleteSpec : ChangeSpec := { name := "cellsComplete", fn := fun _ => fun
  | [d1, d2, d3, d4, d5, d6] => { results := [.lit (.bool true)], args := [d1, d2, d3, d4, d5, d6] }
  | _ => none }
def cellsCompleteRow : OpenClaim := { program := "ytilaheplclaokaagreatdoor", sum := "856b4022da066489154b61c5f5a2163c05d39bc1d4b3aadc49710a6dd979c2be", func := "planisphere/planispherelaw30.CellsComplete", spec := "cellsComplete", inPlace := ["math/bits.Sub64", "internal/bytealg.IndexByteString", "internal/bytealg.IndexString"], unfollowed := true, recurses := true, named := ["math/bits.divideError", "math/bits.overflowError", "unicode/utf8.first", "unicode/utf8.acceptRanges", "internal/bytealg.MaxLen"], plainKeys := false, apart := false, laid := [("unicode/utf8.acceptRanges", laid_unicode_utf8_acceptRanges), ("unicode/utf8.first", laid_unicode_utf8_first)] }
def CellsCompleteSaid : Prop := cellsCompleteRow.holds Tryz.pinned (OpenSpec.ofChange cellsCompleteSpec)

/-- ITS FALSE NEIGHBOUR: 'it returns false'. Refute it at one input. -/
def cellsCompleteWrong : ChangeSpec := { name := "cellsComplete", fn := fun _ => fun
  | [d1, d2, d3, d4, d5, d6] => { results := [.lit (.bool false)], args := [d1, d2, d3, d4, d5, d6] }
  | _ => none }
def CellsCompleteWrongFalsely : Prop := cellsCompleteRow.holds Tryz.pinned (OpenSpec.ofChange cellsCompleteWrong)

/- THE SECOND FORM. 'bulk': how many values and letters a reading holds, each counted each time it is reached (what is shared counts as often as it is met; a slice's spare places count too). A statement '..UptoSaid' is the law's where the arguments, and the package variables that the reading takes, are together of bulk at most 1048576: NARROWER than '..Said'. Prove '..Said' where nothing that the law and all that it calls make is longer than what came in: it says more and counts as full. Else prove '..UptoSaid'. A law counts once. -/
mutual
def uptoBulk {H : Type} : DataW H → Nat
  | .lit (.string bytes) => bytes.length + 1
  | .lit _ => 1
  | .nil => 1
  | .ptr d => uptoBulk d + 1
  | .slice elems spare => uptoBulkAll elems + uptoBulkAll spare + 1
  | .agg parts => uptoBulkAll parts + 1
  | .iface _ d => uptoBulk d + 1
  | .map entries => uptoBulkEntries entries + 1
  | .held _ => 1
def uptoBulkAll {H : Type} : List (DataW H) → Nat
  | [] => 0
  | d :: r => uptoBulk d + uptoBulkAll r
def uptoBulkEntries {H : Type} : List (Lit × DataW H) → Nat
  | [] => 0
  | x :: r => uptoBulkEntry x + uptoBulkEntries r
def uptoBulkEntry {H : Type} : Lit × DataW H → Nat
  | (.string bytes, d) => bytes.length + uptoBulk d + 1
  | (_, d) => uptoBulk d + 1
 end
def uptoSmall : (H : Type) → List (DataW H) → Bool := fun _ ds => decide (uptoBulkAll ds ≤ 1048576)
def OpenSpec.upto (s : _root_.Go.ChangeSpec) : _root_.Go.OpenSpec := { _root_.Go.OpenSpec.ofChange s with cond := some uptoSmall }

/-- 'planispherelaw24.SiteTurn', WHERE WHAT IT READS IS OF BULK AT MOST 1048576: true; the input reads as it did. -/
def siteTurnUptoRow : OpenClaim := { program := "ytilaheplclaokaagreatdoor", sum := "856b4022da066489154b61c5f5a2163c05d39bc1d4b3aadc49710a6dd979c2be", func := "planisphere/planispherelaw24.SiteTurn", spec := "siteTurn", inPlace := ["internal/bytealg.IndexByteString", "internal/bytealg.IndexString", "math/bits.Sub64"], unfollowed := true, recurses := true, named := ["math/bits.overflowError", "unicode/utf8.first", "unicode/utf8.acceptRanges", "math/bits.divideError", "internal/bytealg.MaxLen"], plainKeys := false, apart := false, laid := [("unicode/utf8.acceptRanges", laid_unicode_utf8_acceptRanges), ("unicode/utf8.first", laid_unicode_utf8_first)], narrowed := true }
def SiteTurnUptoSaid : Prop := siteTurnUptoRow.holds Tryz.pinned (OpenSpec.upto siteTurnSpec)

/-- 'planispherelaw24.SiteArm', WHERE WHAT IT READS IS OF BULK AT MOST 1048576: true; the input reads as it did. -/
def siteArmUptoRow : OpenClaim := { program := "ytilaheplclaokaagreatdoor", sum := "856b4022da066489154b61c5f5a2163c05d39bc1d4b3aadc49710a6dd979c2be", func := "planisphere/planispherelaw24.SiteArm", spec := "siteArm", inPlace := ["internal/bytealg.IndexByteString", "internal/bytealg.IndexString", "math/bits.Sub64"], unfollowed := true, recurses := true, named := ["math/bits.overflowError", "unicode/utf8.first", "unicode/utf8.acceptRanges", "math/bits.divideError", "internal/bytealg.MaxLen"], plainKeys := false, apart := false, laid := [("unicode/utf8.acceptRanges", laid_unicode_utf8_acceptRanges), ("unicode/utf8.first", laid_unicode_utf8_first)], narrowed := true }
def SiteArmUptoSaid : Prop := siteArmUptoRow.holds Tryz.pinned (OpenSpec.upto siteArmSpec)

/-- 'planispherelaw24.SitePlace', WHERE WHAT IT READS IS OF BULK AT MOST 1048576: true; the input reads as it did. -/
def sitePlaceUptoRow : OpenClaim := { program := "ytilaheplclaokaagreatdoor", sum := "856b4022da066489154b61c5f5a2163c05d39bc1d4b3aadc49710a6dd979c2be", func := "planisphere/planispherelaw24.SitePlace", spec := "sitePlace", inPlace := ["internal/bytealg.IndexByteString", "internal/bytealg.IndexString", "math/bits.Sub64"], unfollowed := true, recurses := true, named := ["math/bits.overflowError", "unicode/utf8.first", "unicode/utf8.acceptRanges", "math/bits.divideError", "internal/bytealg.MaxLen"], plainKeys := false, apart := false, laid := [("unicode/utf8.acceptRanges", laid_unicode_utf8_acceptRanges), ("unicode/utf8.first", laid_unicode_utf8_first)], narrowed := true }
def SitePlaceUptoSaid : Prop := sitePlaceUptoRow.holds Tryz.pinned (OpenSpec.upto sitePlaceSpec)

/-- 'planispherelaw42.PlanUp', WHERE WHAT IT READS IS OF BULK AT MOST 1048576: true; the input reads as it did. -/
def planUpUptoRow : OpenClaim := { program := "ytilaheplclaokaagreatdoor", sum := "856b4022da066489154b61c5f5a2163c05d39bc1d4b3aadc49710a6dd979c2be", func := "planisphere/planispherelaw42.PlanUp", spec := "planUp", inPlace := ["internal/bytealg.IndexByteString", "internal/bytealg.IndexString", "math/bits.Sub64"], unfollowed := true, recurses := true, named := ["math/bits.overflowError", "unicode/utf8.first", "unicode/utf8.acceptRanges", "math/bits.divideError", "internal/bytealg.MaxLen"], plainKeys := false, apart := false, laid := [("unicode/utf8.acceptRanges", laid_unicode_utf8_acceptRanges), ("unicode/utf8.first", laid_unicode_utf8_first)], narrowed := true }
def PlanUpUptoSaid : Prop := planUpUptoRow.holds Tryz.pinned (OpenSpec.upto planUpSpec)

/-- 'planispherelaw30.CellsParts', WHERE WHAT IT READS IS OF BULK AT MOST 1048576: true; the input reads as it did. -/
def cellsPartsUptoRow : OpenClaim := { program := "ytilaheplclaokaagreatdoor", sum := "856b4022da066489154b61c5f5a2163c05d39bc1d4b3aadc49710a6dd979c2be", func := "planisphere/planispherelaw30.CellsParts", spec := "cellsParts", inPlace := ["math/bits.Sub64", "internal/bytealg.IndexByteString", "internal/bytealg.IndexString"], unfollowed := true, recurses := true, named := ["math/bits.divideError", "math/bits.overflowError", "unicode/utf8.first", "unicode/utf8.acceptRanges", "internal/bytealg.MaxLen"], plainKeys := false, apart := false, laid := [("unicode/utf8.acceptRanges", laid_unicode_utf8_acceptRanges), ("unicode/utf8.first", laid_unicode_utf8_first)], narrowed := true }
def CellsPartsUptoSaid : Prop := cellsPartsUptoRow.holds Tryz.pinned (OpenSpec.upto cellsPartsSpec)

/-- 'planispherelaw30.CellsComplete', WHERE WHAT IT READS IS OF BULK AT MOST 1048576: true; the input reads as it did. -/
def cellsCompleteUptoRow : OpenClaim := { program := "ytilaheplclaokaagreatdoor", sum := "856b4022da066489154b61c5f5a2163c05d39bc1d4b3aadc49710a6dd979c2be", func := "planisphere/planispherelaw30.CellsComplete", spec := "cellsComplete", inPlace := ["math/bits.Sub64", "internal/bytealg.IndexByteString", "internal/bytealg.IndexString"], unfollowed := true, recurses := true, named := ["math/bits.divideError", "math/bits.overflowError", "unicode/utf8.first", "unicode/utf8.acceptRanges", "internal/bytealg.MaxLen"], plainKeys := false, apart := false, laid := [("unicode/utf8.acceptRanges", laid_unicode_utf8_acceptRanges), ("unicode/utf8.first", laid_unicode_utf8_first)], narrowed := true }
def CellsCompleteUptoSaid : Prop := cellsCompleteUptoRow.holds Tryz.pinned (OpenSpec.upto cellsCompleteSpec)

end Rows
end Go.Proofs.YtilaheplclaokaaGreatDoor
