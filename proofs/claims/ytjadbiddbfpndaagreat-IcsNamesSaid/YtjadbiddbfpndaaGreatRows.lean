/-
  No cell of these rows narrows 'for every input' (looked for: loops, veiled, ifaces, maps, wideKeys, modest, calm, conditions, laid).
  DERIVED. THE GIVEN ROWS OF THIS SEAT. 4 by the template 'for every input the law returns true; each argument reads behind the call as it read before'; 0 by the template 'total and deterministic' (their statements: YtjadbiddbfpndaaGreatTotals.lean).
  GIVEN WITH THE SEED: the statements are not yours to turn. If you find one false, say at which input.
  Laid BY PROGRAM, IN A SANDBOX (cutbox-rows.mjs): the forced cells as the released guide's own fill.sh prints them over the translation 2d573459988c5840… (all of the seat's roots in one cut). By AI agents, Wed Nov 11 2026. No macro, syntax, notation, axiom, sorry.
-/
import Derived.Test.YtjadbiddbfpndaaGreatChecked
import GoSem.Claim
import GoSem.ClaimJoined
import GoSem.ClaimMapViews
import Derived.JoinedTies
import Derived.KernelRfl
namespace Go.Proofs.YtjadbiddbfpndaaGreat
/- THE CELL 'sum', in the pinned program and in every row, IS THE sha256 OF THE DUMP (.gsa) THAT YtjadbiddbfpndaaGreatProg.lean LOADS. Nothing in Lean hashes anything: it is a label: what it is worth is what the hold of that sum in a sandbox is worth. -/
noncomputable def Tryz.pinned : Pinned := { name := "ytjadbiddbfpndaagreat", sum := "2d573459988c5840d5413ccfa5f535e6bacf6362679faaed2d8e3f11d4af89a8", checked := Tryz.checked }
namespace Rows
def none {H : Type} : Left H := { results := [], args := [] }

/-- 'reedpipelaw22.IcsNames': WHATEVER THE INPUT: true; the input reads as it did. -/
def icsNamesSpec : ChangeSpec := { name := "icsNames", fn := fun _ => fun
  | [] => { results := [.lit (.bool true)], args := [] }
  | _ => none }
def icsNamesRow : OpenClaim := { program := "ytjadbiddbfpndaagreat", sum := "2d573459988c5840d5413ccfa5f535e6bacf6362679faaed2d8e3f11d4af89a8", func := "reedpipe/reedpipelaw22.IcsNames", spec := "icsNames", unfollowed := true, recurses := true, apart := false }
def IcsNamesSaid : Prop := icsNamesRow.holds Tryz.pinned (OpenSpec.ofChange icsNamesSpec)

/-- ITS FALSE NEIGHBOUR: 'it returns false'. Refute it at one input. -/
def icsNamesWrong : ChangeSpec := { name := "icsNames", fn := fun _ => fun
  | [] => { results := [.lit (.bool false)], args := [] }
  | _ => none }
def IcsNamesWrongFalsely : Prop := icsNamesRow.holds Tryz.pinned (OpenSpec.ofChange icsNamesWrong)

/-- 'reedpipelaw23.RawNames': WHATEVER THE INPUT: true; the input reads as it did. -/
def rawNamesSpec : ChangeSpec := { name := "rawNames", fn := fun _ => fun
  | [] => { results := [.lit (.bool true)], args := [] }
  | _ => none }
def rawNamesRow : OpenClaim := { program := "ytjadbiddbfpndaagreat", sum := "2d573459988c5840d5413ccfa5f535e6bacf6362679faaed2d8e3f11d4af89a8", func := "reedpipe/reedpipelaw23.RawNames", spec := "rawNames", unfollowed := true, recurses := true, apart := false }
def RawNamesSaid : Prop := rawNamesRow.holds Tryz.pinned (OpenSpec.ofChange rawNamesSpec)

/-- ITS FALSE NEIGHBOUR: 'it returns false'. Refute it at one input. -/
def rawNamesWrong : ChangeSpec := { name := "rawNames", fn := fun _ => fun
  | [] => { results := [.lit (.bool false)], args := [] }
  | _ => none }
def RawNamesWrongFalsely : Prop := rawNamesRow.holds Tryz.pinned (OpenSpec.ofChange rawNamesWrong)

/-- 'reedpipelaw26.SyncNames': WHATEVER THE INPUT: true; the input reads as it did. -/
def syncNamesSpec : ChangeSpec := { name := "syncNames", fn := fun _ => fun
  | [] => { results := [.lit (.bool true)], args := [] }
  | _ => none }
def syncNamesRow : OpenClaim := { program := "ytjadbiddbfpndaagreat", sum := "2d573459988c5840d5413ccfa5f535e6bacf6362679faaed2d8e3f11d4af89a8", func := "reedpipe/reedpipelaw26.SyncNames", spec := "syncNames", inPlace := ["internal/bytealg.IndexByte"], unfollowed := true, recurses := true, apart := false }
def SyncNamesSaid : Prop := syncNamesRow.holds Tryz.pinned (OpenSpec.ofChange syncNamesSpec)

/-- ITS FALSE NEIGHBOUR: 'it returns false'. Refute it at one input. -/
def syncNamesWrong : ChangeSpec := { name := "syncNames", fn := fun _ => fun
  | [] => { results := [.lit (.bool false)], args := [] }
  | _ => none }
def SyncNamesWrongFalsely : Prop := syncNamesRow.holds Tryz.pinned (OpenSpec.ofChange syncNamesWrong)

/-- 'reedpipelaw25.AdtsNames': WHATEVER THE INPUT: true; the input reads as it did. -/
def adtsNamesSpec : ChangeSpec := { name := "adtsNames", fn := fun _ => fun
  | [] => { results := [.lit (.bool true)], args := [] }
  | _ => none }
def adtsNamesRow : OpenClaim := { program := "ytjadbiddbfpndaagreat", sum := "2d573459988c5840d5413ccfa5f535e6bacf6362679faaed2d8e3f11d4af89a8", func := "reedpipe/reedpipelaw25.AdtsNames", spec := "adtsNames", unfollowed := true, recurses := true, apart := false }
def AdtsNamesSaid : Prop := adtsNamesRow.holds Tryz.pinned (OpenSpec.ofChange adtsNamesSpec)

/-- ITS FALSE NEIGHBOUR: 'it returns false'. Refute it at one input. -/
def adtsNamesWrong : ChangeSpec := { name := "adtsNames", fn := fun _ => fun
  | [] => { results := [.lit (.bool false)], args := [] }
  | _ => none }
def AdtsNamesWrongFalsely : Prop := adtsNamesRow.holds Tryz.pinned (OpenSpec.ofChange adtsNamesWrong)

/- THE SECOND FORM. 'bulk': how many values and letters a reading holds, each counted each time it is reached (what is shared counts as often as it is met; a slice's spare places count too). A statement '..UptoSaid' is the law's where the arguments, and the package variables that the reading takes, are together of bulk at most 1048576: NARROWER than '..Said'. Prove '..Said' where nothing that the law and all that it calls make is longer than what came in: it says more and counts as full. Else prove '..UptoSaid'. A law counts once. -/
mutual
def uptoBulk {H : Type} : DataW H → Nat
  | .lit (.string bytes) => bytes.length + 1
  | .lit _ => 1
  | .nil => 1
  | .ptr d => uptoBulk d + 1
  | .slice elems spare => uptoBulkAll elems + uptoBulkAll spare + 1
  | .agg parts => uptoBulkAll parts + 1
  | .iface _ d => uptoBulk d + 1
  | .map entries => uptoBulkEntries entries + 1
  | .held _ => 1
def uptoBulkAll {H : Type} : List (DataW H) → Nat
  | [] => 0
  | d :: r => uptoBulk d + uptoBulkAll r
def uptoBulkEntries {H : Type} : List (Lit × DataW H) → Nat
  | [] => 0
  | x :: r => uptoBulkEntry x + uptoBulkEntries r
def uptoBulkEntry {H : Type} : Lit × DataW H → Nat
  | (.string bytes, d) => bytes.length + uptoBulk d + 1
  | (_, d) => uptoBulk d + 1
 end
def uptoSmall : (H : Type) → List (DataW H) → Bool := fun _ ds => decide (uptoBulkAll ds ≤ 1048576)
def OpenSpec.upto (s : _root_.Go.ChangeSpec) : _root_.Go.OpenSpec := { _root_.Go.OpenSpec.ofChange s with cond := some uptoSmall }

/-- 'reedpipelaw22.IcsNames', WHERE WHAT IT READS IS OF BULK AT MOST 1048576: true; the input reads as it did. -/
def icsNamesUptoRow : OpenClaim := { program := "ytjadbiddbfpndaagreat", sum := "2d573459988c5840d5413ccfa5f535e6bacf6362679faaed2d8e3f11d4af89a8", func := "reedpipe/reedpipelaw22.IcsNames", spec := "icsNames", unfollowed := true, recurses := true, apart := false, narrowed := true }
def IcsNamesUptoSaid : Prop := icsNamesUptoRow.holds Tryz.pinned (OpenSpec.upto icsNamesSpec)

/-- 'reedpipelaw23.RawNames', WHERE WHAT IT READS IS OF BULK AT MOST 1048576: true; the input reads as it did. -/
def rawNamesUptoRow : OpenClaim := { program := "ytjadbiddbfpndaagreat", sum := "2d573459988c5840d5413ccfa5f535e6bacf6362679faaed2d8e3f11d4af89a8", func := "reedpipe/reedpipelaw23.RawNames", spec := "rawNames", unfollowed := true, recurses := true, apart := false, narrowed := true }
def RawNamesUptoSaid : Prop := rawNamesUptoRow.holds Tryz.pinned (OpenSpec.upto rawNamesSpec)

/-- 'reedpipelaw26.SyncNames', WHERE WHAT IT READS IS OF BULK AT MOST 1048576: true; the input reads as it did. -/
def syncNamesUptoRow : OpenClaim := { program := "ytjadbiddbfpndaagreat", sum := "2d573459988c5840d5413ccfa5f535e6bacf6362679faaed2d8e3f11d4af89a8", func := "reedpipe/reedpipelaw26.SyncNames", spec := "syncNames", inPlace := ["internal/bytealg.IndexByte"], unfollowed := true, recurses := true, apart := false, narrowed := true }
def SyncNamesUptoSaid : Prop := syncNamesUptoRow.holds Tryz.pinned (OpenSpec.upto syncNamesSpec)

/-- 'reedpipelaw25.AdtsNames', WHERE WHAT IT READS IS OF BULK AT MOST 1048576: true; the input reads as it did. -/
def adtsNamesUptoRow : OpenClaim := { program := "ytjadbiddbfpndaagreat", sum := "2d573459988c5840d5413ccfa5f535e6bacf6362679faaed2d8e3f11d4af89a8", func := "reedpipe/reedpipelaw25.AdtsNames", spec := "adtsNames", unfollowed := true, recurses := true, apart := false, narrowed := true }
def AdtsNamesUptoSaid : Prop := adtsNamesUptoRow.holds Tryz.pinned (OpenSpec.upto adtsNamesSpec)

end Rows
end Go.Proofs.YtjadbiddbfpndaaGreat
