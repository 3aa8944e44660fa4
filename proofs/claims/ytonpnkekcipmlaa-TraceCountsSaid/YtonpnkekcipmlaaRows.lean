/-
  No cell of these rows narrows 'for every input' (looked for: loops, veiled, ifaces, maps, wideKeys, modest, calm, conditions, laid).
  DERIVED. THE GIVEN ROWS OF THIS SEAT. 4 by the template 'for every input the law returns true; each argument reads behind the call as it read before'; 0 by the template 'total and deterministic' (their statements: YtonpnkekcipmlaaTotals.lean).
  GIVEN WITH THE SEED: the statements are not yours to turn. If you find one false, say at which input.
  Laid BY PROGRAM, IN A SANDBOX (cutbox-rows.mjs): the forced cells as the released guide's own fill.sh prints them over the translation 757e2ad083d33731… (all of the seat's roots in one cut). By AI agents, Wed Nov 11 2026. No macro, syntax, notation, axiom, sorry.
-/
import Derived.Test.YtonpnkekcipmlaaChecked
import GoSem.Claim
import GoSem.ClaimJoined
import GoSem.ClaimMapViews
import Derived.JoinedTies
import Derived.KernelRfl
namespace Go.Proofs.Ytonpnkekcipmlaa
/- THE CELL 'sum', in the pinned program and in every row, IS THE sha256 OF THE DUMP (.gsa) THAT YtonpnkekcipmlaaProg.lean LOADS. Nothing in Lean hashes anything: it is a label: what it is worth is what the hold of that sum in a sandbox is worth. -/
noncomputable def Try.pinned : Pinned := { name := "ytonpnkekcipmlaa", sum := "757e2ad083d337314c757ce35bb464939502a1aa511e0c5b81da8a06216c2565", checked := Try.checked }
namespace Rows
def none {H : Type} : Left H := { results := [], args := [] }

/-- 'berthagelaw43.TraceCounts': WHATEVER THE INPUT: true; the input reads as it did. -/
def traceCountsSpec : ChangeSpec := { name := "traceCounts", fn := fun _ => fun
  | [d] => { results := [.lit (.bool true)], args := [d] }
  | _ => none }
def traceCountsRow : OpenClaim := { program := "ytonpnkekcipmlaa", sum := "757e2ad083d337314c757ce35bb464939502a1aa511e0c5b81da8a06216c2565", func := "berthage/berthagelaw43.TraceCounts", spec := "traceCounts", unfollowed := true, recurses := true, apart := false }
def TraceCountsSaid : Prop := traceCountsRow.holds Try.pinned (OpenSpec.ofChange traceCountsSpec)

/-- ITS FALSE NEIGHBOUR: 'it returns false'. Refute it at one input. -/
def traceCountsWrong : ChangeSpec := { name := "traceCounts", fn := fun _ => fun
  | [d] => { results := [.lit (.bool false)], args := [d] }
  | _ => none }
def TraceCountsWrongFalsely : Prop := traceCountsRow.holds Try.pinned (OpenSpec.ofChange traceCountsWrong)

/-- 'berthagelaw34.DepAdds': WHATEVER THE INPUT: true; the input reads as it did. -/
def depAddsSpec : ChangeSpec := { name := "depAdds", fn := fun _ => fun
  | [d1, d2] => { results := [.lit (.bool true)], args := [d1, d2] }
  | _ => none }
def depAddsRow : OpenClaim := { program := "ytonpnkekcipmlaa", sum := "757e2ad083d337314c757ce35bb464939502a1aa511e0c5b81da8a06216c2565", func := "berthage/berthagelaw34.DepAdds", spec := "depAdds", unfollowed := true, recurses := true, apart := false }
def DepAddsSaid : Prop := depAddsRow.holds Try.pinned (OpenSpec.ofChange depAddsSpec)

/-- ITS FALSE NEIGHBOUR: 'it returns false'. Refute it at one input. -/
def depAddsWrong : ChangeSpec := { name := "depAdds", fn := fun _ => fun
  | [d1, d2] => { results := [.lit (.bool false)], args := [d1, d2] }
  | _ => none }
def DepAddsWrongFalsely : Prop := depAddsRow.holds Try.pinned (OpenSpec.ofChange depAddsWrong)

/-- 'berthagelaw34.DepLayers': WHATEVER THE INPUT: true; the input reads as it did. -/
def depLayersSpec : ChangeSpec := { name := "depLayers", fn := fun _ => fun
  | [d1, d2] => { results := [.lit (.bool true)], args := [d1, d2] }
  | _ => none }
def depLayersRow : OpenClaim := { program := "ytonpnkekcipmlaa", sum := "757e2ad083d337314c757ce35bb464939502a1aa511e0c5b81da8a06216c2565", func := "berthage/berthagelaw34.DepLayers", spec := "depLayers", unfollowed := true, recurses := true, apart := false }
def DepLayersSaid : Prop := depLayersRow.holds Try.pinned (OpenSpec.ofChange depLayersSpec)

/-- ITS FALSE NEIGHBOUR: 'it returns false'. Refute it at one input. -/
def depLayersWrong : ChangeSpec := { name := "depLayers", fn := fun _ => fun
  | [d1, d2] => { results := [.lit (.bool false)], args := [d1, d2] }
  | _ => none }
def DepLayersWrongFalsely : Prop := depLayersRow.holds Try.pinned (OpenSpec.ofChange depLayersWrong)

/-- 'berthagelaw34.DepNobody': WHATEVER THE INPUT: true; the input reads as it did. -/
def depNobodySpec : ChangeSpec := { name := "depNobody", fn := fun _ => fun
  | [d1, d2] => { results := [.lit (.bool true)], args := [d1, d2] }
  | _ => none }
def depNobodyRow : OpenClaim := { program := "ytonpnkekcipmlaa", sum := "757e2ad083d337314c757ce35bb464939502a1aa511e0c5b81da8a06216c2565", func := "berthage/berthagelaw34.DepNobody", spec := "depNobody", unfollowed := true, recurses := true, apart := false }
def DepNobodySaid : Prop := depNobodyRow.holds Try.pinned (OpenSpec.ofChange depNobodySpec)

/-- ITS FALSE NEIGHBOUR: 'it returns false'. Refute it at one input. -/
def depNobodyWrong : ChangeSpec := { name := "depNobody", fn := fun _ => fun
  | [d1, d2] => { results := [.lit (.bool false)], args := [d1, d2] }
  | _ => none }
def DepNobodyWrongFalsely : Prop := depNobodyRow.holds Try.pinned (OpenSpec.ofChange depNobodyWrong)

/- THE SECOND FORM. 'bulk': how many values and letters a reading holds, each counted each time it is reached (what is shared counts as often as it is met; a slice's spare places count too). A statement '..UptoSaid' is the law's where the arguments, and the package variables that the reading takes, are together of bulk at most 1048576: NARROWER than '..Said'. Prove '..Said' where nothing that the law and all that it calls make is longer than what came in: it says more and counts as full. Else prove '..UptoSaid'. A law counts once. -/
mutual
def uptoBulk {H : Type} : DataW H → Nat
  | .lit (.string bytes) => bytes.length + 1
  | .lit _ => 1
  | .nil => 1
  | .ptr d => uptoBulk d + 1
  | .slice elems spare => uptoBulkAll elems + uptoBulkAll spare + 1
  | .agg parts => uptoBulkAll parts + 1
  | .iface _ d => uptoBulk d + 1
  | .map entries => uptoBulkEntries entries + 1
  | .held _ => 1
def uptoBulkAll {H : Type} : List (DataW H) → Nat
  | [] => 0
  | d :: r => uptoBulk d + uptoBulkAll r
def uptoBulkEntries {H : Type} : List (Lit × DataW H) → Nat
  | [] => 0
  | x :: r => uptoBulkEntry x + uptoBulkEntries r
def uptoBulkEntry {H : Type} : Lit × DataW H → Nat
  | (.string bytes, d) => bytes.length + uptoBulk d + 1
  | (_, d) => uptoBulk d + 1
 end
def uptoSmall : (H : Type) → List (DataW H) → Bool := fun _ ds => decide (uptoBulkAll ds ≤ 1048576)
def OpenSpec.upto (s : _root_.Go.ChangeSpec) : _root_.Go.OpenSpec := { _root_.Go.OpenSpec.ofChange s with cond := some uptoSmall }

/-- 'berthagelaw43.TraceCounts', WHERE WHAT IT READS IS OF BULK AT MOST 1048576: true; the input reads as it did. -/
def traceCountsUptoRow : OpenClaim := { program := "ytonpnkekcipmlaa", sum := "757e2ad083d337314c757ce35bb464939502a1aa511e0c5b81da8a06216c2565", func := "berthage/berthagelaw43.TraceCounts", spec := "traceCounts", unfollowed := true, recurses := true, apart := false, narrowed := true }
def TraceCountsUptoSaid : Prop := traceCountsUptoRow.holds Try.pinned (OpenSpec.upto traceCountsSpec)

/-- 'berthagelaw34.DepAdds', WHERE WHAT IT READS IS OF BULK AT MOST 1048576: true; the input reads as it did. -/
def depAddsUptoRow : OpenClaim := { program := "ytonpnkekcipmlaa", sum := "757e2ad083d337314c757ce35bb464939502a1aa511e0c5b81da8a06216c2565", func := "berthage/berthagelaw34.DepAdds", spec := "depAdds", unfollowed := true, recurses := true, apart := false, narrowed := true }
def DepAddsUptoSaid : Prop := depAddsUptoRow.holds Try.pinned (OpenSpec.upto depAddsSpec)

/-- 'berthagelaw34.DepLayers', WHERE WHAT IT READS IS OF BULK AT MOST 1048576: true; the input reads as it did. -/
def depLayersUptoRow : OpenClaim := { program := "ytonpnkekcipmlaa", sum := "757e2ad083d337314c757ce35bb464939502a1aa511e0c5b81da8a06216c2565", func := "berthage/berthagelaw34.DepLayers", spec := "depLayers", unfollowed := true, recurses := true, apart := false, narrowed := true }
def DepLayersUptoSaid : Prop := depLayersUptoRow.holds Try.pinned (OpenSpec.upto depLayersSpec)

/-- 'berthagelaw34.DepNobody', WHERE WHAT IT READS IS OF BULK AT MOST 1048576: true; the input reads as it did. -/
def depNobodyUptoRow : OpenClaim := { program := "ytonpnkekcipmlaa", sum := "757e2ad083d337314c757ce35bb464939502a1aa511e0c5b81da8a06216c2565", func := "berthage/berthagelaw34.DepNobody", spec := "depNobody", unfollowed := true, recurses := true, apart := false, narrowed := true }
def DepNobodyUptoSaid : Prop := depNobodyUptoRow.holds Try.pinned (OpenSpec.upto depNobodySpec)

end Rows
end Go.Proofs.Ytonpnkekcipmlaa
