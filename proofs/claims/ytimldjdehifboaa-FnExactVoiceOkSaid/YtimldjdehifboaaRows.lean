/-
  No cell of these rows narrows 'for every input' (looked for: loops, veiled, ifaces, maps, wideKeys, modest, calm, conditions, laid).
  DERIVED. THE GIVEN ROWS OF THIS SEAT. 4 by the template 'for every input the law returns true; each argument reads behind the call as it read before'; 0 by the template 'total and deterministic' (their statements: YtimldjdehifboaaTotals.lean).
  GIVEN WITH THE SEED: the statements are not yours to turn. If you find one false, say at which input.
  Laid BY PROGRAM, IN A SANDBOX (cutbox-rows.mjs): the forced cells as the released guide's own fill.sh prints them over the translation 1c5e49d3228602c7… (all of the seat's roots in one cut). By AI agents, Wed Nov 11 2026. No macro, syntax, notation, axiom, sorry.
-/
import Derived.Test.YtimldjdehifboaaChecked
import GoSem.Claim
import GoSem.ClaimJoined
import GoSem.ClaimMapViews
import Derived.JoinedTies
import Derived.KernelRfl
namespace Go.Proofs.Ytimldjdehifboaa
/- THE CELL 'sum', in the pinned program and in every row, IS THE sha256 OF THE DUMP (.gsa) THAT YtimldjdehifboaaProg.lean LOADS. Nothing in Lean hashes anything: it is a label: what it is worth is what the hold of that sum in a sandbox is worth. -/
noncomputable def Try.pinned : Pinned := { name := "ytimldjdehifboaa", sum := "1c5e49d3228602c7a5c1cd08d29694b44187fcc00f150da7d4d717e2347d7c31", checked := Try.checked }
namespace Rows
def none {H : Type} : Left H := { results := [], args := [] }

/-- 'laws.FnExactMostOf': WHATEVER THE INPUT: true; the input reads as it did. -/
def fnExactMostOfSpec : ChangeSpec := { name := "fnExactMostOf", fn := fun _ => fun
  | [d] => { results := [.lit (.bool true)], args := [d] }
  | _ => none }
def fnExactMostOfRow : OpenClaim := { program := "ytimldjdehifboaa", sum := "1c5e49d3228602c7a5c1cd08d29694b44187fcc00f150da7d4d717e2347d7c31", func := "loop.example/g00180/laws.FnExactMostOf", spec := "fnExactMostOf", apart := false }
def FnExactMostOfSaid : Prop := fnExactMostOfRow.holds Try.pinned (OpenSpec.ofChange fnExactMostOfSpec)

/-- ITS FALSE NEIGHBOUR: 'it returns false'. Refute it at one input. -/
def fnExactMostOfWrong : ChangeSpec := { name := "fnExactMostOf", fn := fun _ => fun
  | [d] => { results := [.lit (.bool false)], args := [d] }
  | _ => none }
def FnExactMostOfWrongFalsely : Prop := fnExactMostOfRow.holds Try.pinned (OpenSpec.ofChange fnExactMostOfWrong)

/-- 'laws.FnExactVoiceOk': WHATEVER THE INPUT: true; the input reads as it did. -/
def fnExactVoiceOkSpec : ChangeSpec := { name := "fnExactVoiceOk", fn := fun _ => fun
  | [d] => { results := [.lit (.bool true)], args := [d] }
  | _ => none }
def fnExactVoiceOkRow : OpenClaim := { program := "ytimldjdehifboaa", sum := "1c5e49d3228602c7a5c1cd08d29694b44187fcc00f150da7d4d717e2347d7c31", func := "loop.example/g00180/laws.FnExactVoiceOk", spec := "fnExactVoiceOk", apart := false }
def FnExactVoiceOkSaid : Prop := fnExactVoiceOkRow.holds Try.pinned (OpenSpec.ofChange fnExactVoiceOkSpec)

/-- ITS FALSE NEIGHBOUR: 'it returns false'. Refute it at one input. -/
def fnExactVoiceOkWrong : ChangeSpec := { name := "fnExactVoiceOk", fn := fun _ => fun
  | [d] => { results := [.lit (.bool false)], args := [d] }
  | _ => none }
def FnExactVoiceOkWrongFalsely : Prop := fnExactVoiceOkRow.holds Try.pinned (OpenSpec.ofChange fnExactVoiceOkWrong)

/-- 'laws.FnExactJump': WHATEVER THE INPUT: true; the input reads as it did. -/
def fnExactJumpSpec : ChangeSpec := { name := "fnExactJump", fn := fun _ => fun
  | [d1, d2] => { results := [.lit (.bool true)], args := [d1, d2] }
  | _ => none }
def fnExactJumpRow : OpenClaim := { program := "ytimldjdehifboaa", sum := "1c5e49d3228602c7a5c1cd08d29694b44187fcc00f150da7d4d717e2347d7c31", func := "loop.example/g00180/laws.FnExactJump", spec := "fnExactJump", apart := false }
def FnExactJumpSaid : Prop := fnExactJumpRow.holds Try.pinned (OpenSpec.ofChange fnExactJumpSpec)

/-- ITS FALSE NEIGHBOUR: 'it returns false'. Refute it at one input. -/
def fnExactJumpWrong : ChangeSpec := { name := "fnExactJump", fn := fun _ => fun
  | [d1, d2] => { results := [.lit (.bool false)], args := [d1, d2] }
  | _ => none }
def FnExactJumpWrongFalsely : Prop := fnExactJumpRow.holds Try.pinned (OpenSpec.ofChange fnExactJumpWrong)

/-- 'laws.FnMost': WHATEVER THE INPUT: true; the input reads as it did. -/
def fnMostSpec : ChangeSpec := { name := "fnMost", fn := fun _ => fun
  | [d] => { results := [.lit (.bool true)], args := [d] }
  | _ => none }
def fnMostRow : OpenClaim := { program := "ytimldjdehifboaa", sum := "1c5e49d3228602c7a5c1cd08d29694b44187fcc00f150da7d4d717e2347d7c31", func := "loop.example/g00180/laws.FnMost", spec := "fnMost", apart := false }
def FnMostSaid : Prop := fnMostRow.holds Try.pinned (OpenSpec.ofChange fnMostSpec)

/-- ITS FALSE NEIGHBOUR: 'it returns false'. Refute it at one input. -/
def fnMostWrong : ChangeSpec := { name := "fnMost", fn := fun _ => fun
  | [d] => { results := [.lit (.bool false)], args := [d] }
  | _ => none }
def FnMostWrongFalsely : Prop := fnMostRow.holds Try.pinned (OpenSpec.ofChange fnMostWrong)

/- THE SECOND FORM. 'bulk': how many values and letters a reading holds, each counted each time it is reached (what is shared counts as often as it is met; a slice's spare places count too). A statement '..UptoSaid' is the law's where the arguments, and the package variables that the reading takes, are together of bulk at most 1048576: NARROWER than '..Said'. Prove '..Said' where nothing that the law and all that it calls make is longer than what came in: it says more and counts as full. Else prove '..UptoSaid'. A law counts once. -/
mutual
def uptoBulk {H : Type} : DataW H → Nat
  | .lit (.string bytes) => bytes.length + 1
  | .lit _ => 1
  | .nil => 1
  | .ptr d => uptoBulk d + 1
  | .slice elems spare => uptoBulkAll elems + uptoBulkAll spare + 1
  | .agg parts => uptoBulkAll parts + 1
  | .iface _ d => uptoBulk d + 1
  | .map entries => uptoBulkEntries entries + 1
  | .held _ => 1
def uptoBulkAll {H : Type} : List (DataW H) → Nat
  | [] => 0
  | d :: r => uptoBulk d + uptoBulkAll r
def uptoBulkEntries {H : Type} : List (Lit × DataW H) → Nat
  | [] => 0
  | x :: r => uptoBulkEntry x + uptoBulkEntries r
def uptoBulkEntry {H : Type} : Lit × DataW H → Nat
  | (.string bytes, d) => bytes.length + uptoBulk d + 1
  | (_, d) => uptoBulk d + 1
 end
def uptoSmall : (H : Type) → List (DataW H) → Bool := fun _ ds => decide (uptoBulkAll ds ≤ 1048576)
def OpenSpec.upto (s : _root_.Go.ChangeSpec) : _root_.Go.OpenSpec := { _root_.Go.OpenSpec.ofChange s with cond := some uptoSmall }

/-- 'laws.FnExactMostOf', WHERE WHAT IT READS IS OF BULK AT MOST 1048576: true; the input reads as it did. -/
def fnExactMostOfUptoRow : OpenClaim := { program := "ytimldjdehifboaa", sum := "1c5e49d3228602c7a5c1cd08d29694b44187fcc00f150da7d4d717e2347d7c31", func := "loop.example/g00180/laws.FnExactMostOf", spec := "fnExactMostOf", apart := false, narrowed := true }
def FnExactMostOfUptoSaid : Prop := fnExactMostOfUptoRow.holds Try.pinned (OpenSpec.upto fnExactMostOfSpec)

/-- 'laws.FnExactVoiceOk', WHERE WHAT IT READS IS OF BULK AT MOST 1048576: true; the input reads as it did. -/
def fnExactVoiceOkUptoRow : OpenClaim := { program := "ytimldjdehifboaa", sum := "1c5e49d3228602c7a5c1cd08d29694b44187fcc00f150da7d4d717e2347d7c31", func := "loop.example/g00180/laws.FnExactVoiceOk", spec := "fnExactVoiceOk", apart := false, narrowed := true }
def FnExactVoiceOkUptoSaid : Prop := fnExactVoiceOkUptoRow.holds Try.pinned (OpenSpec.upto fnExactVoiceOkSpec)

/-- 'laws.FnExactJump', WHERE WHAT IT READS IS OF BULK AT MOST 1048576: true; the input reads as it did. -/
def fnExactJumpUptoRow : OpenClaim := { program := "ytimldjdehifboaa", sum := "1c5e49d3228602c7a5c1cd08d29694b44187fcc00f150da7d4d717e2347d7c31", func := "loop.example/g00180/laws.FnExactJump", spec := "fnExactJump", apart := false, narrowed := true }
def FnExactJumpUptoSaid : Prop := fnExactJumpUptoRow.holds Try.pinned (OpenSpec.upto fnExactJumpSpec)

/-- 'laws.FnMost', WHERE WHAT IT READS IS OF BULK AT MOST 1048576: true; the input reads as it did. -/
def fnMostUptoRow : OpenClaim := { program := "ytimldjdehifboaa", sum := "1c5e49d3228602c7a5c1cd08d29694b44187fcc00f150da7d4d717e2347d7c31", func := "loop.example/g00180/laws.FnMost", spec := "fnMost", apart := false, narrowed := true }
def FnMostUptoSaid : Prop := fnMostUptoRow.holds Try.pinned (OpenSpec.upto fnMostSpec)

end Rows
end Go.Proofs.Ytimldjdehifboaa
