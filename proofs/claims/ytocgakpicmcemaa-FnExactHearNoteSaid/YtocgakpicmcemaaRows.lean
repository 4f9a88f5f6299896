/-
  No cell of these rows narrows 'for every input' (looked for: loops, veiled, ifaces, maps, wideKeys, modest, calm, conditions, laid).
  DERIVED. THE GIVEN ROWS OF THIS SEAT. 11 by the template 'for every input the law returns true; each argument reads behind the call as it read before'; 0 by the template 'total and deterministic' (their statements: YtocgakpicmcemaaTotals.lean).
  GIVEN WITH THE SEED: the statements are not yours to turn. If you find one false, say at which input.
  Laid BY PROGRAM, IN A SANDBOX (cutbox-rows.mjs): the forced cells as the released guide's own fill.sh prints them over the translation e8b85c4f2b68f522… (all of the seat's roots in one cut). By AI agents, Wed Nov 11 2026. No macro, syntax, notation, axiom, sorry.
-/
import Derived.Test.YtocgakpicmcemaaChecked
import GoSem.Claim
import GoSem.ClaimJoined
import GoSem.ClaimMapViews
import Derived.JoinedTies
import Derived.KernelRfl
namespace Go.Proofs.Ytocgakpicmcemaa
/- THE CELL 'sum', in the pinned program and in every row, IS THE sha256 OF THE DUMP (.gsa) THAT YtocgakpicmcemaaProg.lean LOADS. Nothing in Lean hashes anything: it is a label: what it is worth is what the hold of that sum in a sandbox is worth. -/
noncomputable def Try.pinned : Pinned := { name := "ytocgakpicmcemaa", sum := "e8b85c4f2b68f5220ec062fb286603859accd81877d22f8747feab45d477eeae", checked := Try.checked }
namespace Rows
def none {H : Type} : Left H := { results := [], args := [] }

/-- 'laws.FnExactSeenKey': WHATEVER THE INPUT: true; the input reads as it did. -/
def fnExactSeenKeySpec : ChangeSpec := { name := "fnExactSeenKey", fn := fun _ => fun
  | [d1, d2] => { results := [.lit (.bool true)], args := [d1, d2] }
  | _ => none }
def fnExactSeenKeyRow : OpenClaim := { program := "ytocgakpicmcemaa", sum := "e8b85c4f2b68f5220ec062fb286603859accd81877d22f8747feab45d477eeae", func := "loop.example/g00180/laws.FnExactSeenKey", spec := "fnExactSeenKey", apart := false }
def FnExactSeenKeySaid : Prop := fnExactSeenKeyRow.holds Try.pinned (OpenSpec.ofChange fnExactSeenKeySpec)

/-- ITS FALSE NEIGHBOUR: 'it returns false'. Refute it at one input. -/
def fnExactSeenKeyWrong : ChangeSpec := { name := "fnExactSeenKey", fn := fun _ => fun
  | [d1, d2] => { results := [.lit (.bool false)], args := [d1, d2] }
  | _ => none }
def FnExactSeenKeyWrongFalsely : Prop := fnExactSeenKeyRow.holds Try.pinned (OpenSpec.ofChange fnExactSeenKeyWrong)

/-- 'laws.FnExactMarkKey': WHATEVER THE INPUT: true; the input reads as it did. -/
def fnExactMarkKeySpec : ChangeSpec := { name := "fnExactMarkKey", fn := fun _ => fun
  | [d1, d2] => { results := [.lit (.bool true)], args := [d1, d2] }
  | _ => none }
def fnExactMarkKeyRow : OpenClaim := { program := "ytocgakpicmcemaa", sum := "e8b85c4f2b68f5220ec062fb286603859accd81877d22f8747feab45d477eeae", func := "loop.example/g00180/laws.FnExactMarkKey", spec := "fnExactMarkKey", apart := false }
def FnExactMarkKeySaid : Prop := fnExactMarkKeyRow.holds Try.pinned (OpenSpec.ofChange fnExactMarkKeySpec)

/-- ITS FALSE NEIGHBOUR: 'it returns false'. Refute it at one input. -/
def fnExactMarkKeyWrong : ChangeSpec := { name := "fnExactMarkKey", fn := fun _ => fun
  | [d1, d2] => { results := [.lit (.bool false)], args := [d1, d2] }
  | _ => none }
def FnExactMarkKeyWrongFalsely : Prop := fnExactMarkKeyRow.holds Try.pinned (OpenSpec.ofChange fnExactMarkKeyWrong)

/-- 'laws.FnDoors': WHATEVER THE INPUT: true; the input reads as it did. -/
def fnDoorsSpec : ChangeSpec := { name := "fnDoors", fn := fun _ => fun
  | [d] => { results := [.lit (.bool true)], args := [d] }
  | _ => none }
def fnDoorsRow : OpenClaim := { program := "ytocgakpicmcemaa", sum := "e8b85c4f2b68f5220ec062fb286603859accd81877d22f8747feab45d477eeae", func := "loop.example/g00180/laws.FnDoors", spec := "fnDoors", apart := false }
def FnDoorsSaid : Prop := fnDoorsRow.holds Try.pinned (OpenSpec.ofChange fnDoorsSpec)

/-- ITS FALSE NEIGHBOUR: 'it returns false'. Refute it at one input. -/
def fnDoorsWrong : ChangeSpec := { name := "fnDoors", fn := fun _ => fun
  | [d] => { results := [.lit (.bool false)], args := [d] }
  | _ => none }
def FnDoorsWrongFalsely : Prop := fnDoorsRow.holds Try.pinned (OpenSpec.ofChange fnDoorsWrong)

/-- 'laws.FnExactHasKey': WHATEVER THE INPUT: true; the input reads as it did. -/
def fnExactHasKeySpec : ChangeSpec := { name := "fnExactHasKey", fn := fun _ => fun
  | [d1, d2] => { results := [.lit (.bool true)], args := [d1, d2] }
  | _ => none }
def fnExactHasKeyRow : OpenClaim := { program := "ytocgakpicmcemaa", sum := "e8b85c4f2b68f5220ec062fb286603859accd81877d22f8747feab45d477eeae", func := "loop.example/g00180/laws.FnExactHasKey", spec := "fnExactHasKey", apart := false }
def FnExactHasKeySaid : Prop := fnExactHasKeyRow.holds Try.pinned (OpenSpec.ofChange fnExactHasKeySpec)

/-- ITS FALSE NEIGHBOUR: 'it returns false'. Refute it at one input. -/
def fnExactHasKeyWrong : ChangeSpec := { name := "fnExactHasKey", fn := fun _ => fun
  | [d1, d2] => { results := [.lit (.bool false)], args := [d1, d2] }
  | _ => none }
def FnExactHasKeyWrongFalsely : Prop := fnExactHasKeyRow.holds Try.pinned (OpenSpec.ofChange fnExactHasKeyWrong)

/-- 'laws.FnExactSpread': WHATEVER THE INPUT: true; the input reads as it did. -/
def fnExactSpreadSpec : ChangeSpec := { name := "fnExactSpread", fn := fun _ => fun
  | [d1, d2] => { results := [.lit (.bool true)], args := [d1, d2] }
  | _ => none }
def fnExactSpreadRow : OpenClaim := { program := "ytocgakpicmcemaa", sum := "e8b85c4f2b68f5220ec062fb286603859accd81877d22f8747feab45d477eeae", func := "loop.example/g00180/laws.FnExactSpread", spec := "fnExactSpread", apart := false }
def FnExactSpreadSaid : Prop := fnExactSpreadRow.holds Try.pinned (OpenSpec.ofChange fnExactSpreadSpec)

/-- ITS FALSE NEIGHBOUR: 'it returns false'. Refute it at one input. -/
def fnExactSpreadWrong : ChangeSpec := { name := "fnExactSpread", fn := fun _ => fun
  | [d1, d2] => { results := [.lit (.bool false)], args := [d1, d2] }
  | _ => none }
def FnExactSpreadWrongFalsely : Prop := fnExactSpreadRow.holds Try.pinned (OpenSpec.ofChange fnExactSpreadWrong)

/-- 'laws.FnSpreads': WHATEVER THE INPUT: true; the input reads as it did. -/
def fnSpreadsSpec : ChangeSpec := { name := "fnSpreads", fn := fun _ => fun
  | [d] => { results := [.lit (.bool true)], args := [d] }
  | _ => none }
def fnSpreadsRow : OpenClaim := { program := "ytocgakpicmcemaa", sum := "e8b85c4f2b68f5220ec062fb286603859accd81877d22f8747feab45d477eeae", func := "loop.example/g00180/laws.FnSpreads", spec := "fnSpreads", apart := false }
def FnSpreadsSaid : Prop := fnSpreadsRow.holds Try.pinned (OpenSpec.ofChange fnSpreadsSpec)

/-- ITS FALSE NEIGHBOUR: 'it returns false'. Refute it at one input. -/
def fnSpreadsWrong : ChangeSpec := { name := "fnSpreads", fn := fun _ => fun
  | [d] => { results := [.lit (.bool false)], args := [d] }
  | _ => none }
def FnSpreadsWrongFalsely : Prop := fnSpreadsRow.holds Try.pinned (OpenSpec.ofChange fnSpreadsWrong)

/-- 'laws.FnJumps': WHATEVER THE INPUT: true; the input reads as it did. -/
def fnJumpsSpec : ChangeSpec := { name := "fnJumps", fn := fun _ => fun
  | [d] => { results := [.lit (.bool true)], args := [d] }
  | _ => none }
def fnJumpsRow : OpenClaim := { program := "ytocgakpicmcemaa", sum := "e8b85c4f2b68f5220ec062fb286603859accd81877d22f8747feab45d477eeae", func := "loop.example/g00180/laws.FnJumps", spec := "fnJumps", apart := false }
def FnJumpsSaid : Prop := fnJumpsRow.holds Try.pinned (OpenSpec.ofChange fnJumpsSpec)

/-- ITS FALSE NEIGHBOUR: 'it returns false'. Refute it at one input. -/
def fnJumpsWrong : ChangeSpec := { name := "fnJumps", fn := fun _ => fun
  | [d] => { results := [.lit (.bool false)], args := [d] }
  | _ => none }
def FnJumpsWrongFalsely : Prop := fnJumpsRow.holds Try.pinned (OpenSpec.ofChange fnJumpsWrong)

/-- 'laws.FnExactPickValue': WHATEVER THE INPUT: true; the input reads as it did. -/
def fnExactPickValueSpec : ChangeSpec := { name := "fnExactPickValue", fn := fun _ => fun
  | [d1, d2] => { results := [.lit (.bool true)], args := [d1, d2] }
  | _ => none }
def fnExactPickValueRow : OpenClaim := { program := "ytocgakpicmcemaa", sum := "e8b85c4f2b68f5220ec062fb286603859accd81877d22f8747feab45d477eeae", func := "loop.example/g00180/laws.FnExactPickValue", spec := "fnExactPickValue", apart := false }
def FnExactPickValueSaid : Prop := fnExactPickValueRow.holds Try.pinned (OpenSpec.ofChange fnExactPickValueSpec)

/-- ITS FALSE NEIGHBOUR: 'it returns false'. Refute it at one input. -/
def fnExactPickValueWrong : ChangeSpec := { name := "fnExactPickValue", fn := fun _ => fun
  | [d1, d2] => { results := [.lit (.bool false)], args := [d1, d2] }
  | _ => none }
def FnExactPickValueWrongFalsely : Prop := fnExactPickValueRow.holds Try.pinned (OpenSpec.ofChange fnExactPickValueWrong)

/-- 'laws.FnPicks': WHATEVER THE INPUT: true; the input reads as it did. -/
def fnPicksSpec : ChangeSpec := { name := "fnPicks", fn := fun _ => fun
  | [d] => { results := [.lit (.bool true)], args := [d] }
  | _ => none }
def fnPicksRow : OpenClaim := { program := "ytocgakpicmcemaa", sum := "e8b85c4f2b68f5220ec062fb286603859accd81877d22f8747feab45d477eeae", func := "loop.example/g00180/laws.FnPicks", spec := "fnPicks", apart := false }
def FnPicksSaid : Prop := fnPicksRow.holds Try.pinned (OpenSpec.ofChange fnPicksSpec)

/-- ITS FALSE NEIGHBOUR: 'it returns false'. Refute it at one input. -/
def fnPicksWrong : ChangeSpec := { name := "fnPicks", fn := fun _ => fun
  | [d] => { results := [.lit (.bool false)], args := [d] }
  | _ => none }
def FnPicksWrongFalsely : Prop := fnPicksRow.holds Try.pinned (OpenSpec.ofChange fnPicksWrong)

/-- 'laws.FnExactHearNote': WHATEVER THE INPUT: true; the input reads as it did. -/
def fnExactHearNoteSpec : ChangeSpec := { name := "fnExactHearNote", fn := fun _ => fun
  | [d1, d2] => { results := [.lit (.bool true)], args := [d1, d2] }
  | _ => none }
def fnExactHearNoteRow : OpenClaim := { program := "ytocgakpicmcemaa", sum := "e8b85c4f2b68f5220ec062fb286603859accd81877d22f8747feab45d477eeae", func := "loop.example/g00180/laws.FnExactHearNote", spec := "fnExactHearNote", apart := false }
def FnExactHearNoteSaid : Prop := fnExactHearNoteRow.holds Try.pinned (OpenSpec.ofChange fnExactHearNoteSpec)

/-- ITS FALSE NEIGHBOUR: 'it returns false'. Refute it at one input. -/
def fnExactHearNoteWrong : ChangeSpec := { name := "fnExactHearNote", fn := fun _ => fun
  | [d1, d2] => { results := [.lit (.bool false)], args := [d1, d2] }
  | _ => none }
def FnExactHearNoteWrongFalsely : Prop := fnExactHearNoteRow.holds Try.pinned (OpenSpec.ofChange fnExactHearNoteWrong)

/-- 'laws.FnExactQueueOk': WHATEVER THE INPUT: true; the input reads as it did. -/
def fnExactQueueOkSpec : ChangeSpec := { name := "fnExactQueueOk", fn := fun _ => fun
  | [d] => { results := [.lit (.bool true)], args := [d] }
  | _ => none }
def fnExactQueueOkRow : OpenClaim := { program := "ytocgakpicmcemaa", sum := "e8b85c4f2b68f5220ec062fb286603859accd81877d22f8747feab45d477eeae", func := "loop.example/g00180/laws.FnExactQueueOk", spec := "fnExactQueueOk", apart := false }
def FnExactQueueOkSaid : Prop := fnExactQueueOkRow.holds Try.pinned (OpenSpec.ofChange fnExactQueueOkSpec)

/-- ITS FALSE NEIGHBOUR: 'it returns false'. Refute it at one input. -/
def fnExactQueueOkWrong : ChangeSpec := { name := "fnExactQueueOk", fn := fun _ => fun
  | [d] => { results := [.lit (.bool false)], args := [d] }
  | _ => none }
def FnExactQueueOkWrongFalsely : Prop := fnExactQueueOkRow.holds Try.pinned (OpenSpec.ofChange fnExactQueueOkWrong)

/- THE SECOND FORM. 'bulk': how many values and letters a reading holds, each counted each time it is reached (what is shared counts as often as it is met; a slice's spare places count too). A statement '..UptoSaid' is the law's where the arguments, and the package variables that the reading takes, are together of bulk at most 1048576: NARROWER than '..Said'. Prove '..Said' where nothing that the law and all that it calls make is longer than what came in: it says more and counts as full. Else prove '..UptoSaid'. A law counts once. -/
mutual
def uptoBulk {H : Type} : DataW H → Nat
  | .lit (.string bytes) => bytes.length + 1
  | .lit _ => 1
  | .nil => 1
  | .ptr d => uptoBulk d + 1
  | .slice elems spare => uptoBulkAll elems + uptoBulkAll spare + 1
  | .agg parts => uptoBulkAll parts + 1
  | .iface _ d => uptoBulk d + 1
  | .map entries => uptoBulkEntries entries + 1
  | .held _ => 1
def uptoBulkAll {H : Type} : List (DataW H) → Nat
  | [] => 0
  | d :: r => uptoBulk d + uptoBulkAll r
def uptoBulkEntries {H : Type} : List (Lit × DataW H) → Nat
  | [] => 0
  | x :: r => uptoBulkEntry x + uptoBulkEntries r
def uptoBulkEntry {H : Type} : Lit × DataW H → Nat
  | (.string bytes, d) => bytes.length + uptoBulk d + 1
  | (_, d) => uptoBulk d + 1
 end
def uptoSmall : (H : Type) → List (DataW H) → Bool := fun _ ds => decide (uptoBulkAll ds ≤ 1048576)
def OpenSpec.upto (s : _root_.Go.ChangeSpec) : _root_.Go.OpenSpec := { _root_.Go.OpenSpec.ofChange s with cond := some uptoSmall }

/-- 'laws.FnExactSeenKey', WHERE WHAT IT READS IS OF BULK AT MOST 1048576: true; the input reads as it did. -/
def fnExactSeenKeyUptoRow : OpenClaim := { program := "ytocgakpicmcemaa", sum := "e8b85c4f2b68f5220ec062fb286603859accd81877d22f8747feab45d477eeae", func := "loop.example/g00180/laws.FnExactSeenKey", spec := "fnExactSeenKey", apart := false, narrowed := true }
def FnExactSeenKeyUptoSaid : Prop := fnExactSeenKeyUptoRow.holds Try.pinned (OpenSpec.upto fnExactSeenKeySpec)

/-- 'laws.FnExactMarkKey', WHERE WHAT IT READS IS OF BULK AT MOST 1048576: true; the input reads as it did. -/
def fnExactMarkKeyUptoRow : OpenClaim := { program := "ytocgakpicmcemaa", sum := "e8b85c4f2b68f5220ec062fb286603859accd81877d22f8747feab45d477eeae", func := "loop.example/g00180/laws.FnExactMarkKey", spec := "fnExactMarkKey", apart := false, narrowed := true }
def FnExactMarkKeyUptoSaid : Prop := fnExactMarkKeyUptoRow.holds Try.pinned (OpenSpec.upto fnExactMarkKeySpec)

/-- 'laws.FnDoors', WHERE WHAT IT READS IS OF BULK AT MOST 1048576: true; the input reads as it did. -/
def fnDoorsUptoRow : OpenClaim := { program := "ytocgakpicmcemaa", sum := "e8b85c4f2b68f5220ec062fb286603859accd81877d22f8747feab45d477eeae", func := "loop.example/g00180/laws.FnDoors", spec := "fnDoors", apart := false, narrowed := true }
def FnDoorsUptoSaid : Prop := fnDoorsUptoRow.holds Try.pinned (OpenSpec.upto fnDoorsSpec)

/-- 'laws.FnExactHasKey', WHERE WHAT IT READS IS OF BULK AT MOST 1048576: true; the input reads as it did. -/
def fnExactHasKeyUptoRow : OpenClaim := { program := "ytocgakpicmcemaa", sum := "e8b85c4f2b68f5220ec062fb286603859accd81877d22f8747feab45d477eeae", func := "loop.example/g00180/laws.FnExactHasKey", spec := "fnExactHasKey", apart := false, narrowed := true }
def FnExactHasKeyUptoSaid : Prop := fnExactHasKeyUptoRow.holds Try.pinned (OpenSpec.upto fnExactHasKeySpec)

/-- 'laws.FnExactSpread', WHERE WHAT IT READS IS OF BULK AT MOST 1048576: true; the input reads as it did. -/
def fnExactSpreadUptoRow : OpenClaim := { program := "ytocgakpicmcemaa", sum := "e8b85c4f2b68f5220ec062fb286603859accd81877d22f8747feab45d477eeae", func := "loop.example/g00180/laws.FnExactSpread", spec := "fnExactSpread", apart := false, narrowed := true }
def FnExactSpreadUptoSaid : Prop := fnExactSpreadUptoRow.holds Try.pinned (OpenSpec.upto fnExactSpreadSpec)

/-- 'laws.FnSpreads', WHERE WHAT IT READS IS OF BULK AT MOST 1048576: true; the input reads as it did. -/
def fnSpreadsUptoRow : OpenClaim := { program := "ytocgakpicmcemaa", sum := "e8b85c4f2b68f5220ec062fb286603859accd81877d22f8747feab45d477eeae", func := "loop.example/g00180/laws.FnSpreads", spec := "fnSpreads", apart := false, narrowed := true }
def FnSpreadsUptoSaid : Prop := fnSpreadsUptoRow.holds Try.pinned (OpenSpec.upto fnSpreadsSpec)

/-- 'laws.FnJumps', WHERE WHAT IT READS IS OF BULK AT MOST 1048576: true; the input reads as it did. -/
def fnJumpsUptoRow : OpenClaim := { program := "ytocgakpicmcemaa", sum := "e8b85c4f2b68f5220ec062fb286603859accd81877d22f8747feab45d477eeae", func := "loop.example/g00180/laws.FnJumps", spec := "fnJumps", apart := false, narrowed := true }
def FnJumpsUptoSaid : Prop := fnJumpsUptoRow.holds Try.pinned (OpenSpec.upto fnJumpsSpec)

/-- 'laws.FnExactPickValue', WHERE WHAT IT READS IS OF BULK AT MOST 1048576: true; the input reads as it did. -/
def fnExactPickValueUptoRow : OpenClaim := { program := "ytocgakpicmcemaa", sum := "e8b85c4f2b68f5220ec062fb286603859accd81877d22f8747feab45d477eeae", func := "loop.example/g00180/laws.FnExactPickValue", spec := "fnExactPickValue", apart := false, narrowed := true }
def FnExactPickValueUptoSaid : Prop := fnExactPickValueUptoRow.holds Try.pinned (OpenSpec.upto fnExactPickValueSpec)

/-- 'laws.FnPicks', WHERE WHAT IT READS IS OF BULK AT MOST 1048576: true; the input reads as it did. -/
def fnPicksUptoRow : OpenClaim := { program := "ytocgakpicmcemaa", sum := "e8b85c4f2b68f5220ec062fb286603859accd81877d22f8747feab45d477eeae", func := "loop.example/g00180/laws.FnPicks", spec := "fnPicks", apart := false, narrowed := true }
def FnPicksUptoSaid : Prop := fnPicksUptoRow.holds Try.pinned (OpenSpec.upto fnPicksSpec)

/-- 'laws.FnExactHearNote', WHERE WHAT IT READS IS OF BULK AT MOST 1048576: true; the input reads as it did. -/
def fnExactHearNoteUptoRow : OpenClaim := { program := "ytocgakpicmcemaa", sum := "e8b85c4f2b68f5220ec062fb286603859accd81877d22f8747feab45d477eeae", func := "loop.example/g00180/laws.FnExactHearNote", spec := "fnExactHearNote", apart := false, narrowed := true }
def FnExactHearNoteUptoSaid : Prop := fnExactHearNoteUptoRow.holds Try.pinned (OpenSpec.upto fnExactHearNoteSpec)

/-- 'laws.FnExactQueueOk', WHERE WHAT IT READS IS OF BULK AT MOST 1048576: true; the input reads as it did. -/
def fnExactQueueOkUptoRow : OpenClaim := { program := "ytocgakpicmcemaa", sum := "e8b85c4f2b68f5220ec062fb286603859accd81877d22f8747feab45d477eeae", func := "loop.example/g00180/laws.FnExactQueueOk", spec := "fnExactQueueOk", apart := false, narrowed := true }
def FnExactQueueOkUptoSaid : Prop := fnExactQueueOkUptoRow.holds Try.pinned (OpenSpec.upto fnExactQueueOkSpec)

end Rows
end Go.Proofs.Ytocgakpicmcemaa
