/-
  No cell of these rows narrows 'for every input' (looked for: loops, veiled, ifaces, maps, wideKeys, modest, calm, conditions, laid).
  DERIVED. THE GIVEN ROWS OF THIS SEAT. 6 by the template 'for every input the law returns true; each argument reads behind the call as it read before'; 0 by the template 'total and deterministic' (their statements: YtdgnhmghniloiaaTotals.lean).
  GIVEN WITH THE SEED: the statements are not yours to turn. If you find one false, say at which input.
  Laid BY PROGRAM, IN A SANDBOX (cutbox-rows.mjs): the forced cells as the released guide's own fill.sh prints them over the translation de951476bee96d4d… (all of the seat's roots in one cut). By AI agents, Wed Nov 11 2026. No macro, syntax, notation, axiom, sorry.
-/
import Derived.Test.YtdgnhmghniloiaaChecked
import GoSem.Claim
import GoSem.ClaimJoined
import GoSem.ClaimMapViews
import Derived.JoinedTies
import Derived.KernelRfl
namespace Go.Proofs.Ytdgnhmghniloiaa
/- THE CELL 'sum', in the pinned program and in every row, IS THE sha256 OF THE DUMP (.gsa) THAT YtdgnhmghniloiaaProg.lean LOADS. Nothing in Lean hashes anything: it is a label: what it is worth is what the hold of that sum in a sandbox is worth. -/
noncomputable def Try.pinned : Pinned := { name := "ytdgnhmghniloiaa", sum := "de951476bee96d4df0af59b501b3051e566aa636e229b59f32f2c605499a99c8", checked := Try.checked }
namespace Rows
def none {H : Type} : Left H := { results := [], args := [] }

/-- 'sawtoothlaw01.SafeTells': WHATEVER THE INPUT: true; the input reads as it did. -/
def safeTellsSpec : ChangeSpec := { name := "safeTells", fn := fun _ => fun
  | [d1, d2, d3] => { results := [.lit (.bool true)], args := [d1, d2, d3] }
  | _ => none }
def safeTellsRow : OpenClaim := { program := "ytdgnhmghniloiaa", sum := "de951476bee96d4df0af59b501b3051e566aa636e229b59f32f2c605499a99c8", func := "sawtooth/sawtoothlaw01.SafeTells", spec := "safeTells", unfollowed := true, recurses := true, apart := false }
def SafeTellsSaid : Prop := safeTellsRow.holds Try.pinned (OpenSpec.ofChange safeTellsSpec)

/-- ITS FALSE NEIGHBOUR: 'it returns false'. Refute it at one input. -/
def safeTellsWrong : ChangeSpec := { name := "safeTells", fn := fun _ => fun
  | [d1, d2, d3] => { results := [.lit (.bool false)], args := [d1, d2, d3] }
  | _ => none }
def SafeTellsWrongFalsely : Prop := safeTellsRow.holds Try.pinned (OpenSpec.ofChange safeTellsWrong)

/-- 'sawtoothlaw01.SafeBack': WHATEVER THE INPUT: true; the input reads as it did. -/
def safeBackSpec : ChangeSpec := { name := "safeBack", fn := fun _ => fun
  | [d1, d2] => { results := [.lit (.bool true)], args := [d1, d2] }
  | _ => none }
def safeBackRow : OpenClaim := { program := "ytdgnhmghniloiaa", sum := "de951476bee96d4df0af59b501b3051e566aa636e229b59f32f2c605499a99c8", func := "sawtooth/sawtoothlaw01.SafeBack", spec := "safeBack", unfollowed := true, recurses := true, apart := false }
def SafeBackSaid : Prop := safeBackRow.holds Try.pinned (OpenSpec.ofChange safeBackSpec)

/-- ITS FALSE NEIGHBOUR: 'it returns false'. Refute it at one input. -/
def safeBackWrong : ChangeSpec := { name := "safeBack", fn := fun _ => fun
  | [d1, d2] => { results := [.lit (.bool false)], args := [d1, d2] }
  | _ => none }
def SafeBackWrongFalsely : Prop := safeBackRow.holds Try.pinned (OpenSpec.ofChange safeBackWrong)

/-- 'sawtoothlaw01.SafeOrder': WHATEVER THE INPUT: true; the input reads as it did. -/
def safeOrderSpec : ChangeSpec := { name := "safeOrder", fn := fun _ => fun
  | [d1, d2, d3] => { results := [.lit (.bool true)], args := [d1, d2, d3] }
  | _ => none }
def safeOrderRow : OpenClaim := { program := "ytdgnhmghniloiaa", sum := "de951476bee96d4df0af59b501b3051e566aa636e229b59f32f2c605499a99c8", func := "sawtooth/sawtoothlaw01.SafeOrder", spec := "safeOrder", unfollowed := true, recurses := true, apart := false }
def SafeOrderSaid : Prop := safeOrderRow.holds Try.pinned (OpenSpec.ofChange safeOrderSpec)

/-- ITS FALSE NEIGHBOUR: 'it returns false'. Refute it at one input. -/
def safeOrderWrong : ChangeSpec := { name := "safeOrder", fn := fun _ => fun
  | [d1, d2, d3] => { results := [.lit (.bool false)], args := [d1, d2, d3] }
  | _ => none }
def SafeOrderWrongFalsely : Prop := safeOrderRow.holds Try.pinned (OpenSpec.ofChange safeOrderWrong)

/-- 'sawtoothlaw01.SafeSigns': WHATEVER THE INPUT: true; the input reads as it did. -/
def safeSignsSpec : ChangeSpec := { name := "safeSigns", fn := fun _ => fun
  | [d1, d2] => { results := [.lit (.bool true)], args := [d1, d2] }
  | _ => none }
def safeSignsRow : OpenClaim := { program := "ytdgnhmghniloiaa", sum := "de951476bee96d4df0af59b501b3051e566aa636e229b59f32f2c605499a99c8", func := "sawtooth/sawtoothlaw01.SafeSigns", spec := "safeSigns", unfollowed := true, recurses := true, apart := false }
def SafeSignsSaid : Prop := safeSignsRow.holds Try.pinned (OpenSpec.ofChange safeSignsSpec)

/-- ITS FALSE NEIGHBOUR: 'it returns false'. Refute it at one input. -/
def safeSignsWrong : ChangeSpec := { name := "safeSigns", fn := fun _ => fun
  | [d1, d2] => { results := [.lit (.bool false)], args := [d1, d2] }
  | _ => none }
def SafeSignsWrongFalsely : Prop := safeSignsRow.holds Try.pinned (OpenSpec.ofChange safeSignsWrong)

/-- 'sawtoothlaw01.SafeClamps': WHATEVER THE INPUT: true; the input reads as it did. -/
def safeClampsSpec : ChangeSpec := { name := "safeClamps", fn := fun _ => fun
  | [d1, d2, d3] => { results := [.lit (.bool true)], args := [d1, d2, d3] }
  | _ => none }
def safeClampsRow : OpenClaim := { program := "ytdgnhmghniloiaa", sum := "de951476bee96d4df0af59b501b3051e566aa636e229b59f32f2c605499a99c8", func := "sawtooth/sawtoothlaw01.SafeClamps", spec := "safeClamps", unfollowed := true, recurses := true, apart := false }
def SafeClampsSaid : Prop := safeClampsRow.holds Try.pinned (OpenSpec.ofChange safeClampsSpec)

/-- ITS FALSE NEIGHBOUR: 'it returns false'. Refute it at one input. -/
def safeClampsWrong : ChangeSpec := { name := "safeClamps", fn := fun _ => fun
  | [d1, d2, d3] => { results := [.lit (.bool false)], args := [d1, d2, d3] }
  | _ => none }
def SafeClampsWrongFalsely : Prop := safeClampsRow.holds Try.pinned (OpenSpec.ofChange safeClampsWrong)

/-- 'sawtoothlaw01.SafeParts': WHATEVER THE INPUT: true; the input reads as it did. -/
def safePartsSpec : ChangeSpec := { name := "safeParts", fn := fun _ => fun
  | [d1, d2, d3, d4, d5, d6] => { results := [.lit (.bool true)], args := [d1, d2, d3, d4, d5, d6] }
  | _ => none }
def safePartsRow : OpenClaim := { program := "ytdgnhmghniloiaa", sum := "de951476bee96d4df0af59b501b3051e566aa636e229b59f32f2c605499a99c8", func := "sawtooth/sawtoothlaw01.SafeParts", spec := "safeParts", unfollowed := true, recurses := true, apart := false }
def SafePartsSaid : Prop := safePartsRow.holds Try.pinned (OpenSpec.ofChange safePartsSpec)

/-- ITS FALSE NEIGHBOUR: 'it returns false'. Refute it at one input. -/
def safePartsWrong : ChangeSpec := { name := "safeParts", fn := fun _ => fun
  | [d1, d2, d3, d4, d5, d6] => { results := [.lit (.bool false)], args := [d1, d2, d3, d4, d5, d6] }
  | _ => none }
def SafePartsWrongFalsely : Prop := safePartsRow.holds Try.pinned (OpenSpec.ofChange safePartsWrong)

/- THE SECOND FORM. 'bulk': how many values and letters a reading holds, each counted each time it is reached (what is shared counts as often as it is met; a slice's spare places count too). A statement '..UptoSaid' is the law's where the arguments, and the package variables that the reading takes, are together of bulk at most 1048576: NARROWER than '..Said'. Prove '..Said' where nothing that the law and all that it calls make is longer than what came in: it says more and counts as full. Else prove '..UptoSaid'. A law counts once. -/
mutual
def uptoBulk {H : Type} : DataW H → Nat
  | .lit (.string bytes) => bytes.length + 1
  | .lit _ => 1
  | .nil => 1
  | .ptr d => uptoBulk d + 1
  | .slice elems spare => uptoBulkAll elems + uptoBulkAll spare + 1
  | .agg parts => uptoBulkAll parts + 1
  | .iface _ d => uptoBulk d + 1
  | .map entries => uptoBulkEntries entries + 1
  | .held _ => 1
def uptoBulkAll {H : Type} : List (DataW H) → Nat
  | [] => 0
  | d :: r => uptoBulk d + uptoBulkAll r
def uptoBulkEntries {H : Type} : List (Lit × DataW H) → Nat
  | [] => 0
  | x :: r => uptoBulkEntry x + uptoBulkEntries r
def uptoBulkEntry {H : Type} : Lit × DataW H → Nat
  | (.string bytes, d) => bytes.length + uptoBulk d + 1
  | (_, d) => uptoBulk d + 1
 end
def uptoSmall : (H : Type) → List (DataW H) → Bool := fun _ ds => decide (uptoBulkAll ds ≤ 1048576)
def OpenSpec.upto (s : _root_.Go.ChangeSpec) : _root_.Go.OpenSpec := { _root_.Go.OpenSpec.ofChange s with cond := some uptoSmall }

/-- 'sawtoothlaw01.SafeTells', WHERE WHAT IT READS IS OF BULK AT MOST 1048576: true; the input reads as it did. -/
def safeTellsUptoRow : OpenClaim := { program := "ytdgnhmghniloiaa", sum := "de951476bee96d4df0af59b501b3051e566aa636e229b59f32f2c605499a99c8", func := "sawtooth/sawtoothlaw01.SafeTells", spec := "safeTells", unfollowed := true, recurses := true, apart := false, narrowed := true }
def SafeTellsUptoSaid : Prop := safeTellsUptoRow.holds Try.pinned (OpenSpec.upto safeTellsSpec)

/-- 'sawtoothlaw01.SafeBack', WHERE WHAT IT READS IS OF BULK AT MOST 1048576: true; the input reads as it did. -/
def safeBackUptoRow : OpenClaim := { program := "ytdgnhmghniloiaa", sum := "de951476bee96d4df0af59b501b3051e566aa636e229b59f32f2c605499a99c8", func := "sawtooth/sawtoothlaw01.SafeBack", spec := "safeBack", unfollowed := true, recurses := true, apart := false, narrowed := true }
def SafeBackUptoSaid : Prop := safeBackUptoRow.holds Try.pinned (OpenSpec.upto safeBackSpec)

/-- 'sawtoothlaw01.SafeOrder', WHERE WHAT IT READS IS OF BULK AT MOST 1048576: true; the input reads as it did. -/
def safeOrderUptoRow : OpenClaim := { program := "ytdgnhmghniloiaa", sum := "de951476bee96d4df0af59b501b3051e566aa636e229b59f32f2c605499a99c8", func := "sawtooth/sawtoothlaw01.SafeOrder", spec := "safeOrder", unfollowed := true, recurses := true, apart := false, narrowed := true }
def SafeOrderUptoSaid : Prop := safeOrderUptoRow.holds Try.pinned (OpenSpec.upto safeOrderSpec)

/-- 'sawtoothlaw01.SafeSigns', WHERE WHAT IT READS IS OF BULK AT MOST 1048576: true; the input reads as it did. -/
def safeSignsUptoRow : OpenClaim := { program := "ytdgnhmghniloiaa", sum := "de951476bee96d4df0af59b501b3051e566aa636e229b59f32f2c605499a99c8", func := "sawtooth/sawtoothlaw01.SafeSigns", spec := "safeSigns", unfollowed := true, recurses := true, apart := false, narrowed := true }
def SafeSignsUptoSaid : Prop := safeSignsUptoRow.holds Try.pinned (OpenSpec.upto safeSignsSpec)

/-- 'sawtoothlaw01.SafeClamps', WHERE WHAT IT READS IS OF BULK AT MOST 1048576: true; the input reads as it did. -/
def safeClampsUptoRow : OpenClaim := { program := "ytdgnhmghniloiaa", sum := "de951476bee96d4df0af59b501b3051e566aa636e229b59f32f2c605499a99c8", func := "sawtooth/sawtoothlaw01.SafeClamps", spec := "safeClamps", unfollowed := true, recurses := true, apart := false, narrowed := true }
def SafeClampsUptoSaid : Prop := safeClampsUptoRow.holds Try.pinned (OpenSpec.upto safeClampsSpec)

/-- 'sawtoothlaw01.SafeParts', WHERE WHAT IT READS IS OF BULK AT MOST 1048576: true; the input reads as it did. -/
def safePartsUptoRow : OpenClaim := { program := "ytdgnhmghniloiaa", sum := "de951476bee96d4df0af59b501b3051e566aa636e229b59f32f2c605499a99c8", func := "sawtooth/sawtoothlaw01.SafeParts", spec := "safeParts", unfollowed := true, recurses := true, apart := false, narrowed := true }
def SafePartsUptoSaid : Prop := safePartsUptoRow.holds Try.pinned (OpenSpec.upto safePartsSpec)

end Rows
end Go.Proofs.Ytdgnhmghniloiaa
