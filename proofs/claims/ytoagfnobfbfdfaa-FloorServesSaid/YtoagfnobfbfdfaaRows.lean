/-
  No cell of these rows narrows 'for every input' (looked for: loops, veiled, ifaces, maps, wideKeys, modest, calm, conditions, laid).
  DERIVED. THE GIVEN ROWS OF THIS SEAT. 4 by the template 'for every input the law returns true; each argument reads behind the call as it read before'; 0 by the template 'total and deterministic' (their statements: YtoagfnobfbfdfaaTotals.lean).
  GIVEN WITH THE SEED: the statements are not yours to turn. If you find one false, say at which input.
  Laid BY PROGRAM, IN A SANDBOX (cutbox-rows.mjs): the forced cells as the released guide's own fill.sh prints them over the translation df9fc44dc40d2b48… (all of the seat's roots in one cut). By AI agents, Wed Nov 11 2026. No macro, syntax, notation, axiom, sorry.
-/
import Derived.Test.YtoagfnobfbfdfaaChecked
import GoSem.Claim
import GoSem.ClaimJoined
import GoSem.ClaimMapViews
import Derived.JoinedTies
import Derived.KernelRfl
namespace Go.Proofs.Ytoagfnobfbfdfaa
/- THE CELL 'sum', in the pinned program and in every row, IS THE sha256 OF THE DUMP (.gsa) THAT YtoagfnobfbfdfaaProg.lean LOADS. Nothing in Lean hashes anything: it is a label: what it is worth is what the hold of that sum in a sandbox is worth. -/
noncomputable def Try.pinned : Pinned := { name := "ytoagfnobfbfdfaa", sum := "df9fc44dc40d2b48c5398b98ce90748fac450e53c469f4327e881260c6690885", checked := Try.checked }
namespace Rows
def none {H : Type} : Left H := { results := [], args := [] }

/-- 'hindcastlaw18.FloorAsks': WHATEVER THE INPUT: true; the input reads as it did. -/
def floorAsksSpec : ChangeSpec := { name := "floorAsks", fn := fun _ => fun
  | [d1, d2] => { results := [.lit (.bool true)], args := [d1, d2] }
  | _ => none }
def floorAsksRow : OpenClaim := { program := "ytoagfnobfbfdfaa", sum := "df9fc44dc40d2b48c5398b98ce90748fac450e53c469f4327e881260c6690885", func := "hindcast/hindcastlaw18.FloorAsks", spec := "floorAsks", unfollowed := true, recurses := true, apart := false }
def FloorAsksSaid : Prop := floorAsksRow.holds Try.pinned (OpenSpec.ofChange floorAsksSpec)

/-- ITS FALSE NEIGHBOUR: 'it returns false'. Refute it at one input. -/
def floorAsksWrong : ChangeSpec := { name := "floorAsks", fn := fun _ => fun
  | [d1, d2] => { results := [.lit (.bool false)], args := [d1, d2] }
  | _ => none }
def FloorAsksWrongFalsely : Prop := floorAsksRow.holds Try.pinned (OpenSpec.ofChange floorAsksWrong)

/-- 'hindcastlaw18.FloorOne': WHATEVER THE INPUT: true; the input reads as it did. -/
def floorOneSpec : ChangeSpec := { name := "floorOne", fn := fun _ => fun
  | [d] => { results := [.lit (.bool true)], args := [d] }
  | _ => none }
def floorOneRow : OpenClaim := { program := "ytoagfnobfbfdfaa", sum := "df9fc44dc40d2b48c5398b98ce90748fac450e53c469f4327e881260c6690885", func := "hindcast/hindcastlaw18.FloorOne", spec := "floorOne", unfollowed := true, recurses := true, apart := false }
def FloorOneSaid : Prop := floorOneRow.holds Try.pinned (OpenSpec.ofChange floorOneSpec)

/-- ITS FALSE NEIGHBOUR: 'it returns false'. Refute it at one input. -/
def floorOneWrong : ChangeSpec := { name := "floorOne", fn := fun _ => fun
  | [d] => { results := [.lit (.bool false)], args := [d] }
  | _ => none }
def FloorOneWrongFalsely : Prop := floorOneRow.holds Try.pinned (OpenSpec.ofChange floorOneWrong)

/-- 'hindcastlaw18.FloorOrder': WHATEVER THE INPUT: true; the input reads as it did. -/
def floorOrderSpec : ChangeSpec := { name := "floorOrder", fn := fun _ => fun
  | [d] => { results := [.lit (.bool true)], args := [d] }
  | _ => none }
def floorOrderRow : OpenClaim := { program := "ytoagfnobfbfdfaa", sum := "df9fc44dc40d2b48c5398b98ce90748fac450e53c469f4327e881260c6690885", func := "hindcast/hindcastlaw18.FloorOrder", spec := "floorOrder", unfollowed := true, recurses := true, apart := false }
def FloorOrderSaid : Prop := floorOrderRow.holds Try.pinned (OpenSpec.ofChange floorOrderSpec)

/-- ITS FALSE NEIGHBOUR: 'it returns false'. Refute it at one input. -/
def floorOrderWrong : ChangeSpec := { name := "floorOrder", fn := fun _ => fun
  | [d] => { results := [.lit (.bool false)], args := [d] }
  | _ => none }
def FloorOrderWrongFalsely : Prop := floorOrderRow.holds Try.pinned (OpenSpec.ofChange floorOrderWrong)

/-- 'hindcastlaw18.FloorServes': WHATEVER THE INPUT: true; the input reads as it did. -/
def floorServesSpec : ChangeSpec := { name := "floorServes", fn := fun _ => fun
  | [d] => { results := [.lit (.bool true)], args := [d] }
  | _ => none }
def floorServesRow : OpenClaim := { program := "ytoagfnobfbfdfaa", sum := "df9fc44dc40d2b48c5398b98ce90748fac450e53c469f4327e881260c6690885", func := "hindcast/hindcastlaw18.FloorServes", spec := "floorServes", unfollowed := true, recurses := true, apart := false }
def FloorServesSaid : Prop := floorServesRow.holds Try.pinned (OpenSpec.ofChange floorServesSpec)

/-- ITS FALSE NEIGHBOUR: 'it returns false'. Refute it at one input. -/
def floorServesWrong : ChangeSpec := { name := "floorServes", fn := fun _ => fun
  | [d] => { results := [.lit (.bool false)], args := [d] }
  | _ => none }
def FloorServesWrongFalsely : Prop := floorServesRow.holds Try.pinned (OpenSpec.ofChange floorServesWrong)

/- THE SECOND FORM. 'bulk': how many values and letters a reading holds, each counted each time it is reached (what is shared counts as often as it is met; a slice's spare places count too). A statement '..UptoSaid' is the law's where the arguments, and the package variables that the reading takes, are together of bulk at most 1048576: NARROWER than '..Said'. Prove '..Said' where nothing that the law and all that it calls make is longer than what came in: it says more and counts as full. Else prove '..UptoSaid'. A law counts once. -/
mutual
def uptoBulk {H : Type} : DataW H → Nat
  | .lit (.string bytes) => bytes.length + 1
  | .lit _ => 1
  | .nil => 1
  | .ptr d => uptoBulk d + 1
  | .slice elems spare => uptoBulkAll elems + uptoBulkAll spare + 1
  | .agg parts => uptoBulkAll parts + 1
  | .iface _ d => uptoBulk d + 1
  | .map entries => uptoBulkEntries entries + 1
  | .held _ => 1
def uptoBulkAll {H : Type} : List (DataW H) → Nat
  | [] => 0
  | d :: r => uptoBulk d + uptoBulkAll r
def uptoBulkEntries {H : Type} : List (Lit × DataW H) → Nat
  | [] => 0
  | x :: r => uptoBulkEntry x + uptoBulkEntries r
def uptoBulkEntry {H : Type} : Lit × DataW H → Nat
  | (.string bytes, d) => bytes.length + uptoBulk d + 1
  | (_, d) => uptoBulk d + 1
 end
def uptoSmall : (H : Type) → List (DataW H) → Bool := fun _ ds => decide (uptoBulkAll ds ≤ 1048576)
def OpenSpec.upto (s : _root_.Go.ChangeSpec) : _root_.Go.OpenSpec := { _root_.Go.OpenSpec.ofChange s with cond := some uptoSmall }

/-- 'hindcastlaw18.FloorAsks', WHERE WHAT IT READS IS OF BULK AT MOST 1048576: true; the input reads as it did. -/
def floorAsksUptoRow : OpenClaim := { program := "ytoagfnobfbfdfaa", sum := "df9fc44dc40d2b48c5398b98ce90748fac450e53c469f4327e881260c6690885", func := "hindcast/hindcastlaw18.FloorAsks", spec := "floorAsks", unfollowed := true, recurses := true, apart := false, narrowed := true }
def FloorAsksUptoSaid : Prop := floorAsksUptoRow.holds Try.pinned (OpenSpec.upto floorAsksSpec)

/-- 'hindcastlaw18.FloorOne', WHERE WHAT IT READS IS OF BULK AT MOST 1048576: true; the input reads as it did. -/
def floorOneUptoRow : OpenClaim := { program := "ytoagfnobfbfdfaa", sum := "df9fc44dc40d2b48c5398b98ce90748fac450e53c469f4327e881260c6690885", func := "hindcast/hindcastlaw18.FloorOne", spec := "floorOne", unfollowed := true, recurses := true, apart := false, narrowed := true }
def FloorOneUptoSaid : Prop := floorOneUptoRow.holds Try.pinned (OpenSpec.upto floorOneSpec)

/-- 'hindcastlaw18.FloorOrder', WHERE WHAT IT READS IS OF BULK AT MOST 1048576: true; the input reads as it did. -/
def floorOrderUptoRow : OpenClaim := { program := "ytoagfnobfbfdfaa", sum := "df9fc44dc40d2b48c5398b98ce90748fac450e53c469f4327e881260c6690885", func := "hindcast/hindcastlaw18.FloorOrder", spec := "floorOrder", unfollowed := true, recurses := true, apart := false, narrowed := true }
def FloorOrderUptoSaid : Prop := floorOrderUptoRow.holds Try.pinned (OpenSpec.upto floorOrderSpec)

/-- 'hindcastlaw18.FloorServes', WHERE WHAT IT READS IS OF BULK AT MOST 1048576: true; the input reads as it did. -/
def floorServesUptoRow : OpenClaim := { program := "ytoagfnobfbfdfaa", sum := "df9fc44dc40d2b48c5398b98ce90748fac450e53c469f4327e881260c6690885", func := "hindcast/hindcastlaw18.FloorServes", spec := "floorServes", unfollowed := true, recurses := true, apart := false, narrowed := true }
def FloorServesUptoSaid : Prop := floorServesUptoRow.holds Try.pinned (OpenSpec.upto floorServesSpec)

end Rows
end Go.Proofs.Ytoagfnobfbfdfaa
