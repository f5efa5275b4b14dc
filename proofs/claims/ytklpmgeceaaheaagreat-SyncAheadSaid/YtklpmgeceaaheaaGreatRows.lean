/-
  No cell of these rows narrows 'for every input' (looked for: loops, veiled, ifaces, maps, wideKeys, modest, calm, conditions, laid).
  DERIVED. THE GIVEN ROWS OF THIS SEAT. 3 by the template 'for every input the law returns true; each argument reads behind the call as it read before'; 0 by the template 'total and deterministic' (their statements: YtklpmgeceaaheaaGreatTotals.lean).
  GIVEN WITH THE SEED: the statements are not yours to turn. If you find one false, say at which input.
  Laid BY PROGRAM, IN A SANDBOX (cutbox-rows.mjs): the forced cells as the released guide's own fill.sh prints them over the translation 7c4b3f826183d1ba… (all of the seat's roots in one cut). By AI agents, Wed Nov 11 2026. No macro, syntax, notation, axiom, sorry.
-/
import Derived.Test.YtklpmgeceaaheaaGreatChecked
import GoSem.Claim
import GoSem.ClaimJoined
import GoSem.ClaimMapViews
import Derived.JoinedTies
import Derived.KernelRfl
namespace Go.Proofs.YtklpmgeceaaheaaGreat
/- THE CELL 'sum', in the pinned program and in every row, IS THE sha256 OF THE DUMP (.gsa) THAT YtklpmgeceaaheaaGreatProg.lean LOADS. Nothing in Lean hashes anything: it is a label: what it is worth is what the hold of that sum in a sandbox is worth. -/
noncomputable def Tryz.pinned : Pinned := { name := "ytklpmgeceaaheaagreat", sum := "7c4b3f826183d1bab3f7cf01a1fd6afdb073d08ea8fbd66d8ff3fb610cc0dcda", checked := Tryz.checked }
namespace Rows
def none {H : Type} : Left H := { results := [], args := [] }

/-- 'reedpipelaw26.SyncCovers': WHATEVER THE INPUT: true; the input reads as it did. -/
def syncCoversSpec : ChangeSpec := { name := "syncCovers", fn := fun _ => fun
  | [d1, d2] => { results := [.lit (.bool true)], args := [d1, d2] }
  | _ => none }
def syncCoversRow : OpenClaim := { program := "ytklpmgeceaaheaagreat", sum := "7c4b3f826183d1bab3f7cf01a1fd6afdb073d08ea8fbd66d8ff3fb610cc0dcda", func := "reedpipe/reedpipelaw26.SyncCovers", spec := "syncCovers", inPlace := ["internal/bytealg.IndexByte"], unfollowed := true, recurses := true, apart := false }
def SyncCoversSaid : Prop := syncCoversRow.holds Tryz.pinned (OpenSpec.ofChange syncCoversSpec)

/-- ITS FALSE NEIGHBOUR: 'it returns false'. Refute it at one input. -/
def syncCoversWrong : ChangeSpec := { name := "syncCovers", fn := fun _ => fun
  | [d1, d2] => { results := [.lit (.bool false)], args := [d1, d2] }
  | _ => none }
def SyncCoversWrongFalsely : Prop := syncCoversRow.holds Tryz.pinned (OpenSpec.ofChange syncCoversWrong)

/-- 'reedpipelaw26.SyncOn': WHATEVER THE INPUT: true; the input reads as it did. -/
def syncOnSpec : ChangeSpec := { name := "syncOn", fn := fun _ => fun
  | [d1, d2, d3] => { results := [.lit (.bool true)], args := [d1, d2, d3] }
  | _ => none }
def syncOnRow : OpenClaim := { program := "ytklpmgeceaaheaagreat", sum := "7c4b3f826183d1bab3f7cf01a1fd6afdb073d08ea8fbd66d8ff3fb610cc0dcda", func := "reedpipe/reedpipelaw26.SyncOn", spec := "syncOn", inPlace := ["internal/bytealg.IndexByte"], unfollowed := true, recurses := true, apart := false }
def SyncOnSaid : Prop := syncOnRow.holds Tryz.pinned (OpenSpec.ofChange syncOnSpec)

/-- ITS FALSE NEIGHBOUR: 'it returns false'. Refute it at one input. -/
def syncOnWrong : ChangeSpec := { name := "syncOn", fn := fun _ => fun
  | [d1, d2, d3] => { results := [.lit (.bool false)], args := [d1, d2, d3] }
  | _ => none }
def SyncOnWrongFalsely : Prop := syncOnRow.holds Tryz.pinned (OpenSpec.ofChange syncOnWrong)

/-- 'reedpipelaw26.SyncAhead': WHATEVER THE INPUT: true; the input reads as it did. -/
def syncAheadSpec : ChangeSpec := { name := "syncAhead", fn := fun _ => fun
  | [d1, d2, d3] => { results := [.lit (.bool true)], args := [d1, d2, d3] }
  | _ => none }
def syncAheadRow : OpenClaim := { program := "ytklpmgeceaaheaagreat", sum := "7c4b3f826183d1bab3f7cf01a1fd6afdb073d08ea8fbd66d8ff3fb610cc0dcda", func := "reedpipe/reedpipelaw26.SyncAhead", spec := "syncAhead", inPlace := ["internal/bytealg.IndexByte"], unfollowed := true, recurses := true, apart := false }
def SyncAheadSaid : Prop := syncAheadRow.holds Tryz.pinned (OpenSpec.ofChange syncAheadSpec)

/-- ITS FALSE NEIGHBOUR: 'it returns false'. Refute it at one input. -/
def syncAheadWrong : ChangeSpec := { name := "syncAhead", fn := fun _ => fun
  | [d1, d2, d3] => { results := [.lit (.bool false)], args := [d1, d2, d3] }
  | _ => none }
def SyncAheadWrongFalsely : Prop := syncAheadRow.holds Tryz.pinned (OpenSpec.ofChange syncAheadWrong)

/- THE SECOND FORM. 'bulk': how many values and letters a reading holds, each counted each time it is reached (what is shared counts as often as it is met; a slice's spare places count too). A statement '..UptoSaid' is the law's where the arguments, and the package variables that the reading takes, are together of bulk at most 1048576: NARROWER than '..Said'. Prove '..Said' where nothing that the law and all that it calls make is longer than what came in: it says more and counts as full. Else prove '..UptoSaid'. A law counts once. -/
mutual
def uptoBulk {H : Type} : DataW H → Nat
  | .lit (.string bytes) => bytes.length + 1
  | .lit _ => 1
  | .nil => 1
  | .ptr d => uptoBulk d + 1
  | .slice elems spare => uptoBulkAll elems + uptoBulkAll spare + 1
  | .agg parts => uptoBulkAll parts + 1
  | .iface _ d => uptoBulk d + 1
  | .map entries => uptoBulkEntries entries + 1
  | .held _ => 1
def uptoBulkAll {H : Type} : List (DataW H) → Nat
  | [] => 0
  | d :: r => uptoBulk d + uptoBulkAll r
def uptoBulkEntries {H : Type} : List (Lit × DataW H) → Nat
  | [] => 0
  | x :: r => uptoBulkEntry x + uptoBulkEntries r
def uptoBulkEntry {H : Type} : Lit × DataW H → Nat
  | (.string bytes, d) => bytes.length + uptoBulk d + 1
  | (_, d) => uptoBulk d + 1
 end
def uptoSmall : (H : Type) → List (DataW H) → Bool := fun _ ds => decide (uptoBulkAll ds ≤ 1048576)
def OpenSpec.upto (s : _root_.Go.ChangeSpec) : _root_.Go.OpenSpec := { _root_.Go.OpenSpec.ofChange s with cond := some uptoSmall }

/-- 'reedpipelaw26.SyncCovers', WHERE WHAT IT READS IS OF BULK AT MOST 1048576: true; the input reads as it did. -/
def syncCoversUptoRow : OpenClaim := { program := "ytklpmgeceaaheaagreat", sum := "7c4b3f826183d1bab3f7cf01a1fd6afdb073d08ea8fbd66d8ff3fb610cc0dcda", func := "reedpipe/reedpipelaw26.SyncCovers", spec := "syncCovers", inPlace := ["internal/bytealg.IndexByte"], unfollowed := true, recurses := true, apart := false, narrowed := true }
def SyncCoversUptoSaid : Prop := syncCoversUptoRow.holds Tryz.pinned (OpenSpec.upto syncCoversSpec)

/-- 'reedpipelaw26.SyncOn', WHERE WHAT IT READS IS OF BULK AT MOST 1048576: true; the input reads as it did. -/
def syncOnUptoRow : OpenClaim := { program := "ytklpmgeceaaheaagreat", sum := "7c4b3f826183d1bab3f7cf01a1fd6afdb073d08ea8fbd66d8ff3fb610cc0dcda", func := "reedpipe/reedpipelaw26.SyncOn", spec := "syncOn", inPlace := ["internal/bytealg.IndexByte"], unfollowed := true, recurses := true, apart := false, narrowed := true }
def SyncOnUptoSaid : Prop := syncOnUptoRow.holds Tryz.pinned (OpenSpec.upto syncOnSpec)

/-- 'reedpipelaw26.SyncAhead', WHERE WHAT IT READS IS OF BULK AT MOST 1048576: true; the input reads as it did. -/
def syncAheadUptoRow : OpenClaim := { program := "ytklpmgeceaaheaagreat", sum := "7c4b3f826183d1bab3f7cf01a1fd6afdb073d08ea8fbd66d8ff3fb610cc0dcda", func := "reedpipe/reedpipelaw26.SyncAhead", spec := "syncAhead", inPlace := ["internal/bytealg.IndexByte"], unfollowed := true, recurses := true, apart := false, narrowed := true }
def SyncAheadUptoSaid : Prop := syncAheadUptoRow.holds Tryz.pinned (OpenSpec.upto syncAheadSpec)

end Rows
end Go.Proofs.YtklpmgeceaaheaaGreat
