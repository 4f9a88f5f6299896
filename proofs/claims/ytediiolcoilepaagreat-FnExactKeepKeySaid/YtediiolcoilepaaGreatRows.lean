/-
  No cell of these rows narrows 'for every input' (looked for: loops, veiled, ifaces, maps, wideKeys, modest, calm, conditions, laid).
  DERIVED. THE GIVEN ROWS OF THIS SEAT. 9 by the template 'for every input the law returns true; each argument reads behind the call as it read before'; 0 by the template 'total and deterministic' (their statements: YtediiolcoilepaaGreatTotals.lean).
  GIVEN WITH THE SEED: the statements are not yours to turn. If you find one false, say at which input.
  Laid BY PROGRAM, IN A SANDBOX (cutbox-rows.mjs): the forced cells as the released guide's own fill.sh prints them over the translation edd02da795a6159d… (all of the seat's roots in one cut). By AI agents, Wed Nov 11 2026. No macro, syntax, notation, axiom, sorry.
-/
import Derived.Test.YtediiolcoilepaaGreatChecked
import GoSem.Claim
import GoSem.ClaimJoined
import GoSem.ClaimMapViews
import Derived.JoinedTies
import Derived.KernelRfl
namespace Go.Proofs.YtediiolcoilepaaGreat
/- THE CELL 'sum', in the pinned program and in every row, IS THE sha256 OF THE DUMP (.gsa) THAT YtediiolcoilepaaGreatProg.lean LOADS. Nothing in Lean hashes anything: it is a label: what it is worth is what the hold of that sum in a sandbox is worth. -/
noncomputable def Tryz.pinned : Pinned := { name := "ytediiolcoilepaagreat", sum := "edd02da795a6159d44f898862006013ab4188fabf89854436dd6571db792d0c8", checked := Tryz.checked }
namespace Rows
def none {H : Type} : Left H := { results := [], args := [] }

/-- 'laws.FnExactNearOk': WHATEVER THE INPUT: true; the input reads as it did. -/
def fnExactNearOkSpec : ChangeSpec := { name := "fnExactNearOk", fn := fun _ => fun
  | [d] => { results := [.lit (.bool true)], args := [d] }
  | _ => none }
def fnExactNearOkRow : OpenClaim := { program := "ytediiolcoilepaagreat", sum := "edd02da795a6159d44f898862006013ab4188fabf89854436dd6571db792d0c8", func := "loop.example/g00180/laws.FnExactNearOk", spec := "fnExactNearOk", recurses := true, apart := false }
def FnExactNearOkSaid : Prop := fnExactNearOkRow.holds Tryz.pinned (OpenSpec.ofChange fnExactNearOkSpec)

/-- ITS FALSE NEIGHBOUR: 'it returns false'. Refute it at one input. -/
def fnExactNearOkWrong : ChangeSpec := { name := "fnExactNearOk", fn := fun _ => fun
  | [d] => { results := [.lit (.bool false)], args := [d] }
  | _ => none }
def FnExactNearOkWrongFalsely : Prop := fnExactNearOkRow.holds Tryz.pinned (OpenSpec.ofChange fnExactNearOkWrong)

/-- 'laws.FnExactSizeOf': WHATEVER THE INPUT: true; the input reads as it did. -/
def fnExactSizeOfSpec : ChangeSpec := { name := "fnExactSizeOf", fn := fun _ => fun
  | [d] => { results := [.lit (.bool true)], args := [d] }
  | _ => none }
def fnExactSizeOfRow : OpenClaim := { program := "ytediiolcoilepaagreat", sum := "edd02da795a6159d44f898862006013ab4188fabf89854436dd6571db792d0c8", func := "loop.example/g00180/laws.FnExactSizeOf", spec := "fnExactSizeOf", recurses := true, apart := false }
def FnExactSizeOfSaid : Prop := fnExactSizeOfRow.holds Tryz.pinned (OpenSpec.ofChange fnExactSizeOfSpec)

/-- ITS FALSE NEIGHBOUR: 'it returns false'. Refute it at one input. -/
def fnExactSizeOfWrong : ChangeSpec := { name := "fnExactSizeOf", fn := fun _ => fun
  | [d] => { results := [.lit (.bool false)], args := [d] }
  | _ => none }
def FnExactSizeOfWrongFalsely : Prop := fnExactSizeOfRow.holds Tryz.pinned (OpenSpec.ofChange fnExactSizeOfWrong)

/-- 'laws.FnForgets': WHATEVER THE INPUT: true; the input reads as it did. -/
def fnForgetsSpec : ChangeSpec := { name := "fnForgets", fn := fun _ => fun
  | [d] => { results := [.lit (.bool true)], args := [d] }
  | _ => none }
def fnForgetsRow : OpenClaim := { program := "ytediiolcoilepaagreat", sum := "edd02da795a6159d44f898862006013ab4188fabf89854436dd6571db792d0c8", func := "loop.example/g00180/laws.FnForgets", spec := "fnForgets", recurses := true, apart := false }
def FnForgetsSaid : Prop := fnForgetsRow.holds Tryz.pinned (OpenSpec.ofChange fnForgetsSpec)

/-- ITS FALSE NEIGHBOUR: 'it returns false'. Refute it at one input. -/
def fnForgetsWrong : ChangeSpec := { name := "fnForgets", fn := fun _ => fun
  | [d] => { results := [.lit (.bool false)], args := [d] }
  | _ => none }
def FnForgetsWrongFalsely : Prop := fnForgetsRow.holds Tryz.pinned (OpenSpec.ofChange fnForgetsWrong)

/-- 'laws.FnExactForgetKey': WHATEVER THE INPUT: true; the input reads as it did. -/
def fnExactForgetKeySpec : ChangeSpec := { name := "fnExactForgetKey", fn := fun _ => fun
  | [d1, d2] => { results := [.lit (.bool true)], args := [d1, d2] }
  | _ => none }
def fnExactForgetKeyRow : OpenClaim := { program := "ytediiolcoilepaagreat", sum := "edd02da795a6159d44f898862006013ab4188fabf89854436dd6571db792d0c8", func := "loop.example/g00180/laws.FnExactForgetKey", spec := "fnExactForgetKey", recurses := true, apart := false }
def FnExactForgetKeySaid : Prop := fnExactForgetKeyRow.holds Tryz.pinned (OpenSpec.ofChange fnExactForgetKeySpec)

/-- ITS FALSE NEIGHBOUR: 'it returns false'. Refute it at one input. -/
def fnExactForgetKeyWrong : ChangeSpec := { name := "fnExactForgetKey", fn := fun _ => fun
  | [d1, d2] => { results := [.lit (.bool false)], args := [d1, d2] }
  | _ => none }
def FnExactForgetKeyWrongFalsely : Prop := fnExactForgetKeyRow.holds Tryz.pinned (OpenSpec.ofChange fnExactForgetKeyWrong)

/-- 'laws.FnWants': WHATEVER THE INPUT: true; the input reads as it did. -/
def fnWantsSpec : ChangeSpec := { name := "fnWants", fn := fun _ => fun
  | [d] => { results := [.lit (.bool true)], args := [d] }
  | _ => none }
def fnWantsRow : OpenClaim := { program := "ytediiolcoilepaagreat", sum := "edd02da795a6159d44f898862006013ab4188fabf89854436dd6571db792d0c8", func := "loop.example/g00180/laws.FnWants", spec := "fnWants", inPlace := ["slices.overlaps[string]"], recurses := true, apart := false }
def FnWantsSaid : Prop := fnWantsRow.holds Tryz.pinned (OpenSpec.ofChange fnWantsSpec)

/-- ITS FALSE NEIGHBOUR: 'it returns false'. Refute it at one input. -/
def fnWantsWrong : ChangeSpec := { name := "fnWants", fn := fun _ => fun
  | [d] => { results := [.lit (.bool false)], args := [d] }
  | _ => none }
def FnWantsWrongFalsely : Prop := fnWantsRow.holds Tryz.pinned (OpenSpec.ofChange fnWantsWrong)

/-- 'laws.FnLives8': WHATEVER THE INPUT: true; the input reads as it did. -/
def fnLives8Spec : ChangeSpec := { name := "fnLives8", fn := fun _ => fun
  | [d] => { results := [.lit (.bool true)], args := [d] }
  | _ => none }
def fnLives8Row : OpenClaim := { program := "ytediiolcoilepaagreat", sum := "edd02da795a6159d44f898862006013ab4188fabf89854436dd6571db792d0c8", func := "loop.example/g00180/laws.FnLives8", spec := "fnLives8", inPlace := ["slices.overlaps[string]"], recurses := true, apart := false }
def FnLives8Said : Prop := fnLives8Row.holds Tryz.pinned (OpenSpec.ofChange fnLives8Spec)

/-- ITS FALSE NEIGHBOUR: 'it returns false'. Refute it at one input. -/
def fnLives8Wrong : ChangeSpec := { name := "fnLives8", fn := fun _ => fun
  | [d] => { results := [.lit (.bool false)], args := [d] }
  | _ => none }
def FnLives8WrongFalsely : Prop := fnLives8Row.holds Tryz.pinned (OpenSpec.ofChange fnLives8Wrong)

/-- 'laws.FnExactWantKey': WHATEVER THE INPUT: true; the input reads as it did. -/
def fnExactWantKeySpec : ChangeSpec := { name := "fnExactWantKey", fn := fun _ => fun
  | [d1, d2] => { results := [.lit (.bool true)], args := [d1, d2] }
  | _ => none }
def fnExactWantKeyRow : OpenClaim := { program := "ytediiolcoilepaagreat", sum := "edd02da795a6159d44f898862006013ab4188fabf89854436dd6571db792d0c8", func := "loop.example/g00180/laws.FnExactWantKey", spec := "fnExactWantKey", inPlace := ["slices.overlaps[string]"], recurses := true, apart := false }
def FnExactWantKeySaid : Prop := fnExactWantKeyRow.holds Tryz.pinned (OpenSpec.ofChange fnExactWantKeySpec)

/-- ITS FALSE NEIGHBOUR: 'it returns false'. Refute it at one input. -/
def fnExactWantKeyWrong : ChangeSpec := { name := "fnExactWantKey", fn := fun _ => fun
  | [d1, d2] => { results := [.lit (.bool false)], args := [d1, d2] }
  | _ => none }
def FnExactWantKeyWrongFalsely : Prop := fnExactWantKeyRow.holds Tryz.pinned (OpenSpec.ofChange fnExactWantKeyWrong)

/-- 'laws.FnExactKeepKey': WHATEVER THE INPUT: true; the input reads as it did. -/
def fnExactKeepKeySpec : ChangeSpec := { name := "fnExactKeepKey", fn := fun _ => fun
  | [d1, d2, d3] => { results := [.lit (.bool true)], args := [d1, d2, d3] }
  | _ => none }
def fnExactKeepKeyRow : OpenClaim := { program := "ytediiolcoilepaagreat", sum := "edd02da795a6159d44f898862006013ab4188fabf89854436dd6571db792d0c8", func := "loop.example/g00180/laws.FnExactKeepKey", spec := "fnExactKeepKey", inPlace := ["slices.overlaps[string]"], recurses := true, apart := false }
def FnExactKeepKeySaid : Prop := fnExactKeepKeyRow.holds Tryz.pinned (OpenSpec.ofChange fnExactKeepKeySpec)

/-- ITS FALSE NEIGHBOUR: 'it returns false'. Refute it at one input. -/
def fnExactKeepKeyWrong : ChangeSpec := { name := "fnExactKeepKey", fn := fun _ => fun
  | [d1, d2, d3] => { results := [.lit (.bool false)], args := [d1, d2, d3] }
  | _ => none }
def FnExactKeepKeyWrongFalsely : Prop := fnExactKeepKeyRow.holds Tryz.pinned (OpenSpec.ofChange fnExactKeepKeyWrong)

/-- 'laws.FnKeeps': WHATEVER THE INPUT: true; the input reads as it did. -/
def fnKeepsSpec : ChangeSpec := { name := "fnKeeps", fn := fun _ => fun
  | [d] => { results := [.lit (.bool true)], args := [d] }
  | _ => none }
def fnKeepsRow : OpenClaim := { program := "ytediiolcoilepaagreat", sum := "edd02da795a6159d44f898862006013ab4188fabf89854436dd6571db792d0c8", func := "loop.example/g00180/laws.FnKeeps", spec := "fnKeeps", inPlace := ["slices.overlaps[string]"], recurses := true, apart := false }
def FnKeepsSaid : Prop := fnKeepsRow.holds Tryz.pinned (OpenSpec.ofChange fnKeepsSpec)

/-- ITS FALSE NEIGHBOUR: 'it returns false'. Refute it at one input. -/
def fnKeepsWrong : ChangeSpec := { name := "fnKeeps", fn := fun _ => fun
  | [d] => { results := [.lit (.bool false)], args := [d] }
  | _ => none }
def FnKeepsWrongFalsely : Prop := fnKeepsRow.holds Tryz.pinned (OpenSpec.ofChange fnKeepsWrong)

/- THE SECOND FORM. 'bulk': how many values and letters a reading holds, each counted each time it is reached (what is shared counts as often as it is met; a slice's spare places count too). A statement '..UptoSaid' is the law's where the arguments, and the package variables that the reading takes, are together of bulk at most 1048576: NARROWER than '..Said'. Prove '..Said' where nothing that the law and all that it calls make is longer than what came in: it says more and counts as full. Else prove '..UptoSaid'. A law counts once. -/
mutual
def uptoBulk {H : Type} : DataW H → Nat
  | .lit (.string bytes) => bytes.length + 1
  | .lit _ => 1
  | .nil => 1
  | .ptr d => uptoBulk d + 1
  | .slice elems spare => uptoBulkAll elems + uptoBulkAll spare + 1
  | .agg parts => uptoBulkAll parts + 1
  | .iface _ d => uptoBulk d + 1
  | .map entries => uptoBulkEntries entries + 1
  | .held _ => 1
def uptoBulkAll {H : Type} : List (DataW H) → Nat
  | [] => 0
  | d :: r => uptoBulk d + uptoBulkAll r
def uptoBulkEntries {H : Type} : List (Lit × DataW H) → Nat
  | [] => 0
  | x :: r => uptoBulkEntry x + uptoBulkEntries r
def uptoBulkEntry {H : Type} : Lit × DataW H → Nat
  | (.string bytes, d) => bytes.length + uptoBulk d + 1
  | (_, d) => uptoBulk d + 1
 end
def uptoSmall : (H : Type) → List (DataW H) → Bool := fun _ ds => decide (uptoBulkAll ds ≤ 1048576)
def OpenSpec.upto (s : _root_.Go.ChangeSpec) : _root_.Go.OpenSpec := { _root_.Go.OpenSpec.ofChange s with cond := some uptoSmall }

/-- 'laws.FnExactNearOk', WHERE WHAT IT READS IS OF BULK AT MOST 1048576: true; the input reads as it did. -/
def fnExactNearOkUptoRow : OpenClaim := { program := "ytediiolcoilepaagreat", sum := "edd02da795a6159d44f898862006013ab4188fabf89854436dd6571db792d0c8", func := "loop.example/g00180/laws.FnExactNearOk", spec := "fnExactNearOk", recurses := true, apart := false, narrowed := true }
def FnExactNearOkUptoSaid : Prop := fnExactNearOkUptoRow.holds Tryz.pinned (OpenSpec.upto fnExactNearOkSpec)

/-- 'laws.FnExactSizeOf', WHERE WHAT IT READS IS OF BULK AT MOST 1048576: true; the input reads as it did. -/
def fnExactSizeOfUptoRow : OpenClaim := { program := "ytediiolcoilepaagreat", sum := "edd02da795a6159d44f898862006013ab4188fabf89854436dd6571db792d0c8", func := "loop.example/g00180/laws.FnExactSizeOf", spec := "fnExactSizeOf", recurses := true, apart := false, narrowed := true }
def FnExactSizeOfUptoSaid : Prop := fnExactSizeOfUptoRow.holds Tryz.pinned (OpenSpec.upto fnExactSizeOfSpec)

/-- 'laws.FnForgets', WHERE WHAT IT READS IS OF BULK AT MOST 1048576: true; the input reads as it did. -/
def fnForgetsUptoRow : OpenClaim := { program := "ytediiolcoilepaagreat", sum := "edd02da795a6159d44f898862006013ab4188fabf89854436dd6571db792d0c8", func := "loop.example/g00180/laws.FnForgets", spec := "fnForgets", recurses := true, apart := false, narrowed := true }
def FnForgetsUptoSaid : Prop := fnForgetsUptoRow.holds Tryz.pinned (OpenSpec.upto fnForgetsSpec)

/-- 'laws.FnExactForgetKey', WHERE WHAT IT READS IS OF BULK AT MOST 1048576: true; the input reads as it did. -/
def fnExactForgetKeyUptoRow : OpenClaim := { program := "ytediiolcoilepaagreat", sum := "edd02da795a6159d44f898862006013ab4188fabf89854436dd6571db792d0c8", func := "loop.example/g00180/laws.FnExactForgetKey", spec := "fnExactForgetKey", recurses := true, apart := false, narrowed := true }
def FnExactForgetKeyUptoSaid : Prop := fnExactForgetKeyUptoRow.holds Tryz.pinned (OpenSpec.upto fnExactForgetKeySpec)

/-- 'laws.FnWants', WHERE WHAT IT READS IS OF BULK AT MOST 1048576: true; the input reads as it did. -/
def fnWantsUptoRow : OpenClaim := { program := "ytediiolcoilepaagreat", sum := "edd02da795a6159d44f898862006013ab4188fabf89854436dd6571db792d0c8", func := "loop.example/g00180/laws.FnWants", spec := "fnWants", inPlace := ["slices.overlaps[string]"], recurses := true, apart := false, narrowed := true }
def FnWantsUptoSaid : Prop := fnWantsUptoRow.holds Tryz.pinned (OpenSpec.upto fnWantsSpec)

/-- 'laws.FnLives8', WHERE WHAT IT READS IS OF BULK AT MOST 1048576: true; the input reads as it did. -/
def fnLives8UptoRow : OpenClaim := { program := "ytediiolcoilepaagreat", sum := "edd02da795a6159d44f898862006013ab4188fabf89854436dd6571db792d0c8", func := "loop.example/g00180/laws.FnLives8", spec := "fnLives8", inPlace := ["slices.overlaps[string]"], recurses := true, apart := false, narrowed := true }
def FnLives8UptoSaid : Prop := fnLives8UptoRow.holds Tryz.pinned (OpenSpec.upto fnLives8Spec)

/-- 'laws.FnExactWantKey', WHERE WHAT IT READS IS OF BULK AT MOST 1048576: true; the input reads as it did. -/
def fnExactWantKeyUptoRow : OpenClaim := { program := "ytediiolcoilepaagreat", sum := "edd02da795a6159d44f898862006013ab4188fabf89854436dd6571db792d0c8", func := "loop.example/g00180/laws.FnExactWantKey", spec := "fnExactWantKey", inPlace := ["slices.overlaps[string]"], recurses := true, apart := false, narrowed := true }
def FnExactWantKeyUptoSaid : Prop := fnExactWantKeyUptoRow.holds Tryz.pinned (OpenSpec.upto fnExactWantKeySpec)

/-- 'laws.FnExactKeepKey', WHERE WHAT IT READS IS OF BULK AT MOST 1048576: true; the input reads as it did. -/
def fnExactKeepKeyUptoRow : OpenClaim := { program := "ytediiolcoilepaagreat", sum := "edd02da795a6159d44f898862006013ab4188fabf89854436dd6571db792d0c8", func := "loop.example/g00180/laws.FnExactKeepKey", spec := "fnExactKeepKey", inPlace := ["slices.overlaps[string]"], recurses := true, apart := false, narrowed := true }
def FnExactKeepKeyUptoSaid : Prop := fnExactKeepKeyUptoRow.holds Tryz.pinned (OpenSpec.upto fnExactKeepKeySpec)

/-- 'laws.FnKeeps', WHERE WHAT IT READS IS OF BULK AT MOST 1048576: true; the input reads as it did. -/
def fnKeepsUptoRow : OpenClaim := { program := "ytediiolcoilepaagreat", sum := "edd02da795a6159d44f898862006013ab4188fabf89854436dd6571db792d0c8", func := "loop.example/g00180/laws.FnKeeps", spec := "fnKeeps", inPlace := ["slices.overlaps[string]"], recurses := true, apart := false, narrowed := true }
def FnKeepsUptoSaid : Prop := fnKeepsUptoRow.holds Tryz.pinned (OpenSpec.upto fnKeepsSpec)

end Rows
end Go.Proofs.YtediiolcoilepaaGreat
