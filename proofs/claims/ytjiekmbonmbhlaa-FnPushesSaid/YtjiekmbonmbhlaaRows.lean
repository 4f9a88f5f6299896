/-
  No cell of these rows narrows 'for every input' (looked for: loops, veiled, ifaces, maps, wideKeys, modest, calm, conditions, laid).
  DERIVED. THE GIVEN ROWS OF THIS SEAT. 10 by the template 'for every input the law returns true; each argument reads behind the call as it read before'; 0 by the template 'total and deterministic' (their statements: YtjiekmbonmbhlaaTotals.lean).
  GIVEN WITH THE SEED: the statements are not yours to turn. If you find one false, say at which input.
  Laid BY PROGRAM, IN A SANDBOX (cutbox-rows.mjs): the forced cells as the released guide's own fill.sh prints them over the translation aaff107b73ef38c2… (all of the seat's roots in one cut). By AI agents, Wed Nov 11 2026. No macro, syntax, notation, axiom, sorry.
-/
import Derived.Test.YtjiekmbonmbhlaaChecked
import GoSem.Claim
import GoSem.ClaimJoined
import GoSem.ClaimMapViews
import Derived.JoinedTies
import Derived.KernelRfl
namespace Go.Proofs.Ytjiekmbonmbhlaa
/- THE CELL 'sum', in the pinned program and in every row, IS THE sha256 OF THE DUMP (.gsa) THAT YtjiekmbonmbhlaaProg.lean LOADS. Nothing in Lean hashes anything: it is a label: what it is worth is what the hold of that sum in a sandbox is worth. -/
noncomputable def Try.pinned : Pinned := { name := "ytjiekmbonmbhlaa", sum := "aaff107b73ef38c271a6013114bdd580f464fedb4a12e03327b69bf2f59b942a", checked := Try.checked }
namespace Rows
def none {H : Type} : Left H := { results := [], args := [] }

/-- 'laws.FnExactDrop': WHATEVER THE INPUT: true; the input reads as it did. -/
def fnExactDropSpec : ChangeSpec := { name := "fnExactDrop", fn := fun _ => fun
  | [d1, d2] => { results := [.lit (.bool true)], args := [d1, d2] }
  | _ => none }
def fnExactDropRow : OpenClaim := { program := "ytjiekmbonmbhlaa", sum := "aaff107b73ef38c271a6013114bdd580f464fedb4a12e03327b69bf2f59b942a", func := "loop.example/g00180/laws.FnExactDrop", spec := "fnExactDrop", apart := false }
def FnExactDropSaid : Prop := fnExactDropRow.holds Try.pinned (OpenSpec.ofChange fnExactDropSpec)

/-- ITS FALSE NEIGHBOUR: 'it returns false'. Refute it at one input. -/
def fnExactDropWrong : ChangeSpec := { name := "fnExactDrop", fn := fun _ => fun
  | [d1, d2] => { results := [.lit (.bool false)], args := [d1, d2] }
  | _ => none }
def FnExactDropWrongFalsely : Prop := fnExactDropRow.holds Try.pinned (OpenSpec.ofChange fnExactDropWrong)

/-- 'laws.FnExactTouch': WHATEVER THE INPUT: true; the input reads as it did. -/
def fnExactTouchSpec : ChangeSpec := { name := "fnExactTouch", fn := fun _ => fun
  | [d1, d2] => { results := [.lit (.bool true)], args := [d1, d2] }
  | _ => none }
def fnExactTouchRow : OpenClaim := { program := "ytjiekmbonmbhlaa", sum := "aaff107b73ef38c271a6013114bdd580f464fedb4a12e03327b69bf2f59b942a", func := "loop.example/g00180/laws.FnExactTouch", spec := "fnExactTouch", inPlace := ["slices.overlaps[string]"], apart := false }
def FnExactTouchSaid : Prop := fnExactTouchRow.holds Try.pinned (OpenSpec.ofChange fnExactTouchSpec)

/-- ITS FALSE NEIGHBOUR: 'it returns false'. Refute it at one input. -/
def fnExactTouchWrong : ChangeSpec := { name := "fnExactTouch", fn := fun _ => fun
  | [d1, d2] => { results := [.lit (.bool false)], args := [d1, d2] }
  | _ => none }
def FnExactTouchWrongFalsely : Prop := fnExactTouchRow.holds Try.pinned (OpenSpec.ofChange fnExactTouchWrong)

/-- 'laws.FnExactPush': WHATEVER THE INPUT: true; the input reads as it did. -/
def fnExactPushSpec : ChangeSpec := { name := "fnExactPush", fn := fun _ => fun
  | [d1, d2] => { results := [.lit (.bool true)], args := [d1, d2] }
  | _ => none }
def fnExactPushRow : OpenClaim := { program := "ytjiekmbonmbhlaa", sum := "aaff107b73ef38c271a6013114bdd580f464fedb4a12e03327b69bf2f59b942a", func := "loop.example/g00180/laws.FnExactPush", spec := "fnExactPush", inPlace := ["slices.overlaps[string]"], apart := false }
def FnExactPushSaid : Prop := fnExactPushRow.holds Try.pinned (OpenSpec.ofChange fnExactPushSpec)

/-- ITS FALSE NEIGHBOUR: 'it returns false'. Refute it at one input. -/
def fnExactPushWrong : ChangeSpec := { name := "fnExactPush", fn := fun _ => fun
  | [d1, d2] => { results := [.lit (.bool false)], args := [d1, d2] }
  | _ => none }
def FnExactPushWrongFalsely : Prop := fnExactPushRow.holds Try.pinned (OpenSpec.ofChange fnExactPushWrong)

/-- 'laws.FnPushes': WHATEVER THE INPUT: true; the input reads as it did. -/
def fnPushesSpec : ChangeSpec := { name := "fnPushes", fn := fun _ => fun
  | [d] => { results := [.lit (.bool true)], args := [d] }
  | _ => none }
def fnPushesRow : OpenClaim := { program := "ytjiekmbonmbhlaa", sum := "aaff107b73ef38c271a6013114bdd580f464fedb4a12e03327b69bf2f59b942a", func := "loop.example/g00180/laws.FnPushes", spec := "fnPushes", inPlace := ["slices.overlaps[string]"], apart := false }
def FnPushesSaid : Prop := fnPushesRow.holds Try.pinned (OpenSpec.ofChange fnPushesSpec)

/-- ITS FALSE NEIGHBOUR: 'it returns false'. Refute it at one input. -/
def fnPushesWrong : ChangeSpec := { name := "fnPushes", fn := fun _ => fun
  | [d] => { results := [.lit (.bool false)], args := [d] }
  | _ => none }
def FnPushesWrongFalsely : Prop := fnPushesRow.holds Try.pinned (OpenSpec.ofChange fnPushesWrong)

/-- 'laws.FnExactCountKey': WHATEVER THE INPUT: true; the input reads as it did. -/
def fnExactCountKeySpec : ChangeSpec := { name := "fnExactCountKey", fn := fun _ => fun
  | [d1, d2] => { results := [.lit (.bool true)], args := [d1, d2] }
  | _ => none }
def fnExactCountKeyRow : OpenClaim := { program := "ytjiekmbonmbhlaa", sum := "aaff107b73ef38c271a6013114bdd580f464fedb4a12e03327b69bf2f59b942a", func := "loop.example/g00180/laws.FnExactCountKey", spec := "fnExactCountKey", apart := false }
def FnExactCountKeySaid : Prop := fnExactCountKeyRow.holds Try.pinned (OpenSpec.ofChange fnExactCountKeySpec)

/-- ITS FALSE NEIGHBOUR: 'it returns false'. Refute it at one input. -/
def fnExactCountKeyWrong : ChangeSpec := { name := "fnExactCountKey", fn := fun _ => fun
  | [d1, d2] => { results := [.lit (.bool false)], args := [d1, d2] }
  | _ => none }
def FnExactCountKeyWrongFalsely : Prop := fnExactCountKeyRow.holds Try.pinned (OpenSpec.ofChange fnExactCountKeyWrong)

/-- 'laws.FnGuesses': WHATEVER THE INPUT: true; the input reads as it did. -/
def fnGuessesSpec : ChangeSpec := { name := "fnGuesses", fn := fun _ => fun
  | [d] => { results := [.lit (.bool true)], args := [d] }
  | _ => none }
def fnGuessesRow : OpenClaim := { program := "ytjiekmbonmbhlaa", sum := "aaff107b73ef38c271a6013114bdd580f464fedb4a12e03327b69bf2f59b942a", func := "loop.example/g00180/laws.FnGuesses", spec := "fnGuesses", apart := false }
def FnGuessesSaid : Prop := fnGuessesRow.holds Try.pinned (OpenSpec.ofChange fnGuessesSpec)

/-- ITS FALSE NEIGHBOUR: 'it returns false'. Refute it at one input. -/
def fnGuessesWrong : ChangeSpec := { name := "fnGuesses", fn := fun _ => fun
  | [d] => { results := [.lit (.bool false)], args := [d] }
  | _ => none }
def FnGuessesWrongFalsely : Prop := fnGuessesRow.holds Try.pinned (OpenSpec.ofChange fnGuessesWrong)

/-- 'laws.FnCounts': WHATEVER THE INPUT: true; the input reads as it did. -/
def fnCountsSpec : ChangeSpec := { name := "fnCounts", fn := fun _ => fun
  | [d] => { results := [.lit (.bool true)], args := [d] }
  | _ => none }
def fnCountsRow : OpenClaim := { program := "ytjiekmbonmbhlaa", sum := "aaff107b73ef38c271a6013114bdd580f464fedb4a12e03327b69bf2f59b942a", func := "loop.example/g00180/laws.FnCounts", spec := "fnCounts", apart := false }
def FnCountsSaid : Prop := fnCountsRow.holds Try.pinned (OpenSpec.ofChange fnCountsSpec)

/-- ITS FALSE NEIGHBOUR: 'it returns false'. Refute it at one input. -/
def fnCountsWrong : ChangeSpec := { name := "fnCounts", fn := fun _ => fun
  | [d] => { results := [.lit (.bool false)], args := [d] }
  | _ => none }
def FnCountsWrongFalsely : Prop := fnCountsRow.holds Try.pinned (OpenSpec.ofChange fnCountsWrong)

/-- 'laws.FnExactLay': WHATEVER THE INPUT: true; the input reads as it did. -/
def fnExactLaySpec : ChangeSpec := { name := "fnExactLay", fn := fun _ => fun
  | [d1, d2, d3] => { results := [.lit (.bool true)], args := [d1, d2, d3] }
  | _ => none }
def fnExactLayRow : OpenClaim := { program := "ytjiekmbonmbhlaa", sum := "aaff107b73ef38c271a6013114bdd580f464fedb4a12e03327b69bf2f59b942a", func := "loop.example/g00180/laws.FnExactLay", spec := "fnExactLay", apart := false }
def FnExactLaySaid : Prop := fnExactLayRow.holds Try.pinned (OpenSpec.ofChange fnExactLaySpec)

/-- ITS FALSE NEIGHBOUR: 'it returns false'. Refute it at one input. -/
def fnExactLayWrong : ChangeSpec := { name := "fnExactLay", fn := fun _ => fun
  | [d1, d2, d3] => { results := [.lit (.bool false)], args := [d1, d2, d3] }
  | _ => none }
def FnExactLayWrongFalsely : Prop := fnExactLayRow.holds Try.pinned (OpenSpec.ofChange fnExactLayWrong)

/-- 'laws.FnLays': WHATEVER THE INPUT: true; the input reads as it did. -/
def fnLaysSpec : ChangeSpec := { name := "fnLays", fn := fun _ => fun
  | [d] => { results := [.lit (.bool true)], args := [d] }
  | _ => none }
def fnLaysRow : OpenClaim := { program := "ytjiekmbonmbhlaa", sum := "aaff107b73ef38c271a6013114bdd580f464fedb4a12e03327b69bf2f59b942a", func := "loop.example/g00180/laws.FnLays", spec := "fnLays", apart := false }
def FnLaysSaid : Prop := fnLaysRow.holds Try.pinned (OpenSpec.ofChange fnLaysSpec)

/-- ITS FALSE NEIGHBOUR: 'it returns false'. Refute it at one input. -/
def fnLaysWrong : ChangeSpec := { name := "fnLays", fn := fun _ => fun
  | [d] => { results := [.lit (.bool false)], args := [d] }
  | _ => none }
def FnLaysWrongFalsely : Prop := fnLaysRow.holds Try.pinned (OpenSpec.ofChange fnLaysWrong)

/-- 'laws.FnLifts': WHATEVER THE INPUT: true; the input reads as it did. -/
def fnLiftsSpec : ChangeSpec := { name := "fnLifts", fn := fun _ => fun
  | [d] => { results := [.lit (.bool true)], args := [d] }
  | _ => none }
def fnLiftsRow : OpenClaim := { program := "ytjiekmbonmbhlaa", sum := "aaff107b73ef38c271a6013114bdd580f464fedb4a12e03327b69bf2f59b942a", func := "loop.example/g00180/laws.FnLifts", spec := "fnLifts", apart := false }
def FnLiftsSaid : Prop := fnLiftsRow.holds Try.pinned (OpenSpec.ofChange fnLiftsSpec)

/-- ITS FALSE NEIGHBOUR: 'it returns false'. Refute it at one input. -/
def fnLiftsWrong : ChangeSpec := { name := "fnLifts", fn := fun _ => fun
  | [d] => { results := [.lit (.bool false)], args := [d] }
  | _ => none }
def FnLiftsWrongFalsely : Prop := fnLiftsRow.holds Try.pinned (OpenSpec.ofChange fnLiftsWrong)

/- THE SECOND FORM. 'bulk': how many values and letters a reading holds, each counted each time it is reached (what is shared counts as often as it is met; a slice's spare places count too). A statement '..UptoSaid' is the law's where the arguments, and the package variables that the reading takes, are together of bulk at most 1048576: NARROWER than '..Said'. Prove '..Said' where nothing that the law and all that it calls make is longer than what came in: it says more and counts as full. Else prove '..UptoSaid'. A law counts once. -/
mutual
def uptoBulk {H : Type} : DataW H → Nat
  | .lit (.string bytes) => bytes.length + 1
  | .lit _ => 1
  | .nil => 1
  | .ptr d => uptoBulk d + 1
  | .slice elems spare => uptoBulkAll elems + uptoBulkAll spare + 1
  | .agg parts => uptoBulkAll parts + 1
  | .iface _ d => uptoBulk d + 1
  | .map entries => uptoBulkEntries entries + 1
  | .held _ => 1
def uptoBulkAll {H : Type} : List (DataW H) → Nat
  | [] => 0
  | d :: r => uptoBulk d + uptoBulkAll r
def uptoBulkEntries {H : Type} : List (Lit × DataW H) → Nat
  | [] => 0
  | x :: r => uptoBulkEntry x + uptoBulkEntries r
def uptoBulkEntry {H : Type} : Lit × DataW H → Nat
  | (.string bytes, d) => bytes.length + uptoBulk d + 1
  | (_, d) => uptoBulk d + 1
 end
def uptoSmall : (H : Type) → List (DataW H) → Bool := fun _ ds => decide (uptoBulkAll ds ≤ 1048576)
def OpenSpec.upto (s : _root_.Go.ChangeSpec) : _root_.Go.OpenSpec := { _root_.Go.OpenSpec.ofChange s with cond := some uptoSmall }

/-- 'laws.FnExactDrop', WHERE WHAT IT READS IS OF BULK AT MOST 1048576: true; the input reads as it did. -/
def fnExactDropUptoRow : OpenClaim := { program := "ytjiekmbonmbhlaa", sum := "aaff107b73ef38c271a6013114bdd580f464fedb4a12e03327b69bf2f59b942a", func := "loop.example/g00180/laws.FnExactDrop", spec := "fnExactDrop", apart := false, narrowed := true }
def FnExactDropUptoSaid : Prop := fnExactDropUptoRow.holds Try.pinned (OpenSpec.upto fnExactDropSpec)

/-- 'laws.FnExactTouch', WHERE WHAT IT READS IS OF BULK AT MOST 1048576: true; the input reads as it did. -/
def fnExactTouchUptoRow : OpenClaim := { program := "ytjiekmbonmbhlaa", sum := "aaff107b73ef38c271a6013114bdd580f464fedb4a12e03327b69bf2f59b942a", func := "loop.example/g00180/laws.FnExactTouch", spec := "fnExactTouch", inPlace := ["slices.overlaps[string]"], apart := false, narrowed := true }
def FnExactTouchUptoSaid : Prop := fnExactTouchUptoRow.holds Try.pinned (OpenSpec.upto fnExactTouchSpec)

/-- 'laws.FnExactPush', WHERE WHAT IT READS IS OF BULK AT MOST 1048576: true; the input reads as it did. -/
def fnExactPushUptoRow : OpenClaim := { program := "ytjiekmbonmbhlaa", sum := "aaff107b73ef38c271a6013114bdd580f464fedb4a12e03327b69bf2f59b942a", func := "loop.example/g00180/laws.FnExactPush", spec := "fnExactPush", inPlace := ["slices.overlaps[string]"], apart := false, narrowed := true }
def FnExactPushUptoSaid : Prop := fnExactPushUptoRow.holds Try.pinned (OpenSpec.upto fnExactPushSpec)

/-- 'laws.FnPushes', WHERE WHAT IT READS IS OF BULK AT MOST 1048576: true; the input reads as it did. -/
def fnPushesUptoRow : OpenClaim := { program := "ytjiekmbonmbhlaa", sum := "aaff107b73ef38c271a6013114bdd580f464fedb4a12e03327b69bf2f59b942a", func := "loop.example/g00180/laws.FnPushes", spec := "fnPushes", inPlace := ["slices.overlaps[string]"], apart := false, narrowed := true }
def FnPushesUptoSaid : Prop := fnPushesUptoRow.holds Try.pinned (OpenSpec.upto fnPushesSpec)

/-- 'laws.FnExactCountKey', WHERE WHAT IT READS IS OF BULK AT MOST 1048576: true; the input reads as it did. -/
def fnExactCountKeyUptoRow : OpenClaim := { program := "ytjiekmbonmbhlaa", sum := "aaff107b73ef38c271a6013114bdd580f464fedb4a12e03327b69bf2f59b942a", func := "loop.example/g00180/laws.FnExactCountKey", spec := "fnExactCountKey", apart := false, narrowed := true }
def FnExactCountKeyUptoSaid : Prop := fnExactCountKeyUptoRow.holds Try.pinned (OpenSpec.upto fnExactCountKeySpec)

/-- 'laws.FnGuesses', WHERE WHAT IT READS IS OF BULK AT MOST 1048576: true; the input reads as it did. -/
def fnGuessesUptoRow : OpenClaim := { program := "ytjiekmbonmbhlaa", sum := "aaff107b73ef38c271a6013114bdd580f464fedb4a12e03327b69bf2f59b942a", func := "loop.example/g00180/laws.FnGuesses", spec := "fnGuesses", apart := false, narrowed := true }
def FnGuessesUptoSaid : Prop := fnGuessesUptoRow.holds Try.pinned (OpenSpec.upto fnGuessesSpec)

/-- 'laws.FnCounts', WHERE WHAT IT READS IS OF BULK AT MOST 1048576: true; the input reads as it did. -/
def fnCountsUptoRow : OpenClaim := { program := "ytjiekmbonmbhlaa", sum := "aaff107b73ef38c271a6013114bdd580f464fedb4a12e03327b69bf2f59b942a", func := "loop.example/g00180/laws.FnCounts", spec := "fnCounts", apart := false, narrowed := true }
def FnCountsUptoSaid : Prop := fnCountsUptoRow.holds Try.pinned (OpenSpec.upto fnCountsSpec)

/-- 'laws.FnExactLay', WHERE WHAT IT READS IS OF BULK AT MOST 1048576: true; the input reads as it did. -/
def fnExactLayUptoRow : OpenClaim := { program := "ytjiekmbonmbhlaa", sum := "aaff107b73ef38c271a6013114bdd580f464fedb4a12e03327b69bf2f59b942a", func := "loop.example/g00180/laws.FnExactLay", spec := "fnExactLay", apart := false, narrowed := true }
def FnExactLayUptoSaid : Prop := fnExactLayUptoRow.holds Try.pinned (OpenSpec.upto fnExactLaySpec)

/-- 'laws.FnLays', WHERE WHAT IT READS IS OF BULK AT MOST 1048576: true; the input reads as it did. -/
def fnLaysUptoRow : OpenClaim := { program := "ytjiekmbonmbhlaa", sum := "aaff107b73ef38c271a6013114bdd580f464fedb4a12e03327b69bf2f59b942a", func := "loop.example/g00180/laws.FnLays", spec := "fnLays", apart := false, narrowed := true }
def FnLaysUptoSaid : Prop := fnLaysUptoRow.holds Try.pinned (OpenSpec.upto fnLaysSpec)

/-- 'laws.FnLifts', WHERE WHAT IT READS IS OF BULK AT MOST 1048576: true; the input reads as it did. -/
def fnLiftsUptoRow : OpenClaim := { program := "ytjiekmbonmbhlaa", sum := "aaff107b73ef38c271a6013114bdd580f464fedb4a12e03327b69bf2f59b942a", func := "loop.example/g00180/laws.FnLifts", spec := "fnLifts", apart := false, narrowed := true }
def FnLiftsUptoSaid : Prop := fnLiftsUptoRow.holds Try.pinned (OpenSpec.upto fnLiftsSpec)

end Rows
end Go.Proofs.Ytjiekmbonmbhlaa
