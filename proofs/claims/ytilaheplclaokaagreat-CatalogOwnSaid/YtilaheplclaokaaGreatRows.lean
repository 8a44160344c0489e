/-
  No cell of these rows narrows 'for every input' (looked for: loops, veiled, ifaces, maps, wideKeys, modest, calm, conditions, laid).
  DERIVED. THE GIVEN ROWS OF THIS SEAT. 3 by the template 'for every input the law returns true; each argument reads behind the call as it read before'; 0 by the template 'total and deterministic' (their statements: YtilaheplclaokaaGreatTotals.lean).
  GIVEN WITH THE SEED: the statements are not yours to turn. If you find one false, say at which input.
  Laid BY PROGRAM, IN A SANDBOX (cutbox-rows.mjs): the forced cells as the released guide's own fill.sh prints them over the translation 78575948e38740f6… (all of the seat's roots in one cut). By AI agents, Wed Nov 11 2026. No macro, syntax, notation, axiom, sorry.
-/
import Derived.Test.YtilaheplclaokaaGreatChecked
import GoSem.Claim
import GoSem.ClaimJoined
import GoSem.ClaimMapViews
import Derived.JoinedTies
import Derived.KernelRfl
namespace Go.Proofs.YtilaheplclaokaaGreat
/- THE CELL 'sum', in the pinned program and in every row, IS THE sha256 OF THE DUMP (.gsa) THAT YtilaheplclaokaaGreatProg.lean LOADS. Nothing in Lean hashes anything: it is a label: what it is worth is what the hold of that sum in a sandbox is worth. -/
noncomputable def Tryz.pinned : Pinned := { name := "ytilaheplclaokaagreat", sum := "78575948e38740f6cd6794624b3956d0caf653fda5659f81ce0fa2276f744bc1", checked := Tryz.checked }
namespace Rows
def none {H : Type} : Left H := { results := [], args := [] }

/-- 'planispherelaw19.CatalogNone': WHATEVER THE INPUT: true; the input reads as it did. -/
def catalogNoneSpec : ChangeSpec := { name := "catalogNone", fn := fun _ => fun
  | [d1, d2, d3, d4, d5, d6] => { results := [.lit (.bool true)], args := [d1, d2, d3, d4, d5, d6] }
  | _ => none }
def catalogNoneRow : OpenClaim := { program := "ytilaheplclaokaagreat", sum := "78575948e38740f6cd6794624b3956d0caf653fda5659f81ce0fa2276f744bc1", func := "planisphere/planispherelaw19.CatalogNone", spec := "catalogNone", inPlace := ["math/bits.Sub64"], unfollowed := true, recurses := true, named := ["math/bits.overflowError", "math/bits.divideError"], apart := false }
def CatalogNoneSaid : Prop := catalogNoneRow.holds Tryz.pinned (OpenSpec.ofChange catalogNoneSpec)

/-- ITS FALSE NEIGHBOUR: 'it returns false'. Refute it at one input. -/
def catalogNoneWrong : ChangeSpec := { name := "catalogNone", fn := fun _ => fun
  | [d1, d2, d3, d4, d5, d6] => { results := [.lit (.bool false)], args := [d1, d2, d3, d4, d5, d6] }
  | _ => none }
def CatalogNoneWrongFalsely : Prop := catalogNoneRow.holds Tryz.pinned (OpenSpec.ofChange catalogNoneWrong)

/-- 'planispherelaw30.CellsMotion': WHATEVER THE INPUT: true; the input reads as it did. -/
def cellsMotionSpec : ChangeSpec := { name := "cellsMotion", fn := fun _ => fun
  | [d] => { results := [.lit (.bool true)], args := [d] }
  | _ => none }
def cellsMotionRow : OpenClaim := { program := "ytilaheplclaokaagreat", sum := "78575948e38740f6cd6794624b3956d0caf653fda5659f81ce0fa2276f744bc1", func := "planisphere/planispherelaw30.CellsMotion", spec := "cellsMotion", inPlace := ["math/bits.Sub64"], unfollowed := true, recurses := true, named := ["math/bits.divideError", "math/bits.overflowError"], apart := false }
def CellsMotionSaid : Prop := cellsMotionRow.holds Tryz.pinned (OpenSpec.ofChange cellsMotionSpec)

/-- ITS FALSE NEIGHBOUR: 'it returns false'. Refute it at one input. -/
def cellsMotionWrong : ChangeSpec := { name := "cellsMotion", fn := fun _ => fun
  | [d] => { results := [.lit (.bool false)], args := [d] }
  | _ => none }
def CellsMotionWrongFalsely : Prop := cellsMotionRow.holds Tryz.pinned (OpenSpec.ofChange cellsMotionWrong)

/-- 'planispherelaw19.CatalogOwn': WHATEVER THE INPUT: true; the input reads as it did. -/
def catalogOwnSpec : ChangeSpec := { name := "catalogOwn", fn := fun _ => fun
  | [d1, d2, d3, d4] => { results := [.lit (.bool true)], args := [d1, d2, d3, d4] }
  | _ => none }
def catalogOwnRow : OpenClaim := { program := "ytilaheplclaokaagreat", sum := "78575948e38740f6cd6794624b3956d0caf653fda5659f81ce0fa2276f744bc1", func := "planisphere/planispherelaw19.CatalogOwn", spec := "catalogOwn", inPlace := ["math/bits.Sub64"], unfollowed := true, recurses := true, named := ["math/bits.overflowError", "math/bits.divideError"], apart := false }
def CatalogOwnSaid : Prop := catalogOwnRow.holds Tryz.pinned (OpenSpec.ofChange catalogOwnSpec)

/-- ITS FALSE NEIGHBOUR: 'it returns false'. Refute it at one input. -/
def catalogOwnWrong : ChangeSpec := { name := "catalogOwn", fn := fun _ => fun
  | [d1, d2, d3, d4] => { results := [.lit (.bool false)], args := [d1, d2, d3, d4] }
  | _ => none }
def CatalogOwnWrongFalsely : Prop := catalogOwnRow.holds Tryz.pinned (OpenSpec.ofChange catalogOwnWrong)

/- THE SECOND FORM. 'bulk': how many values and letters a reading holds, each counted each time it is reached (what is shared counts as often as it is met; a slice's spare places count too). A statement '..UptoSaid' is the law's where the arguments, and the package variables that the reading takes, are together of bulk at most 1048576: NARROWER than '..Said'. Prove '..Said' where nothing that the law and all that it calls make is longer than what came in: it says more and counts as full. Else prove '..UptoSaid'. A law counts once. -/
mutual
def uptoBulk {H : Type} : DataW H → Nat
  | .lit (.string bytes) => bytes.length + 1
  | .lit _ => 1
  | .nil => 1
  | .ptr d => uptoBulk d + 1
  | .slice elems spare => uptoBulkAll elems + uptoBulkAll spare + 1
  | .agg parts => uptoBulkAll parts + 1
  | .iface _ d => uptoBulk d + 1
  | .map entries => uptoBulkEntries entries + 1
  | .held _ => 1
def uptoBulkAll {H : Type} : List (DataW H) → Nat
  | [] => 0
  | d :: r => uptoBulk d + uptoBulkAll r
def uptoBulkEntries {H : Type} : List (Lit × DataW H) → Nat
  | [] => 0
  | x :: r => uptoBulkEntry x + uptoBulkEntries r
def uptoBulkEntry {H : Type} : Lit × DataW H → Nat
  | (.string bytes, d) => bytes.length + uptoBulk d + 1
  | (_, d) => uptoBulk d + 1
 end
def uptoSmall : (H : Type) → List (DataW H) → Bool := fun _ ds => decide (uptoBulkAll ds ≤ 1048576)
def OpenSpec.upto (s : _root_.Go.ChangeSpec) : _root_.Go.OpenSpec := { _root_.Go.OpenSpec.ofChange s with cond := some uptoSmall }

/-- 'planispherelaw19.CatalogNone', WHERE WHAT IT READS IS OF BULK AT MOST 1048576: true; the input reads as it did. -/
def catalogNoneUptoRow : OpenClaim := { program := "ytilaheplclaokaagreat", sum := "78575948e38740f6cd6794624b3956d0caf653fda5659f81ce0fa2276f744bc1", func := "planisphere/planispherelaw19.CatalogNone", spec := "catalogNone", inPlace := ["math/bits.Sub64"], unfollowed := true, recurses := true, named := ["math/bits.overflowError", "math/bits.divideError"], apart := false, narrowed := true }
def CatalogNoneUptoSaid : Prop := catalogNoneUptoRow.holds Tryz.pinned (OpenSpec.upto catalogNoneSpec)

/-- 'planispherelaw30.CellsMotion', WHERE WHAT IT READS IS OF BULK AT MOST 1048576: true; the input reads as it did. -/
def cellsMotionUptoRow : OpenClaim := { program := "ytilaheplclaokaagreat", sum := "78575948e38740f6cd6794624b3956d0caf653fda5659f81ce0fa2276f744bc1", func := "planisphere/planispherelaw30.CellsMotion", spec := "cellsMotion", inPlace := ["math/bits.Sub64"], unfollowed := true, recurses := true, named := ["math/bits.divideError", "math/bits.overflowError"], apart := false, narrowed := true }
def CellsMotionUptoSaid : Prop := cellsMotionUptoRow.holds Tryz.pinned (OpenSpec.upto cellsMotionSpec)

/-- 'planispherelaw19.CatalogOwn', WHERE WHAT IT READS IS OF BULK AT MOST 1048576: true; the input reads as it did. -/
def catalogOwnUptoRow : OpenClaim := { program := "ytilaheplclaokaagreat", sum := "78575948e38740f6cd6794624b3956d0caf653fda5659f81ce0fa2276f744bc1", func := "planisphere/planispherelaw19.CatalogOwn", spec := "catalogOwn", inPlace := ["math/bits.Sub64"], unfollowed := true, recurses := true, named := ["math/bits.overflowError", "math/bits.divideError"], apart := false, narrowed := true }
def CatalogOwnUptoSaid : Prop := catalogOwnUptoRow.holds Tryz.pinned (OpenSpec.upto catalogOwnSpec)

end Rows
end Go.Proofs.YtilaheplclaokaaGreat
