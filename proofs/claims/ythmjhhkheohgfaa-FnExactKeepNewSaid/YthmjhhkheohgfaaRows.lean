/-
  No cell of these rows narrows 'for every input' (looked for: loops, veiled, ifaces, maps, wideKeys, modest, calm, conditions, laid).
  DERIVED. THE GIVEN ROWS OF THIS SEAT. 6 by the template 'for every input the law returns true; each argument reads behind the call as it read before'; 0 by the template 'total and deterministic' (their statements: YthmjhhkheohgfaaTotals.lean).
  GIVEN WITH THE SEED: the statements are not yours to turn. If you find one false, say at which input.
  Laid BY PROGRAM, IN A SANDBOX (cutbox-rows.mjs): the forced cells as the released guide's own fill.sh prints them over the translation 2d8636a8bcd2e09b… (all of the seat's roots in one cut). By AI agents, Wed Nov 11 2026. No macro, syntax, notation, axiom, sorry.
-/
import Derived.Test.YthmjhhkheohgfaaChecked
import GoSem.Claim
import GoSem.ClaimJoined
import GoSem.ClaimMapViews
import Derived.JoinedTies
import Derived.KernelRfl
namespace Go.Proofs.Ythmjhhkheohgfaa
/- THE CELL 'sum', in the pinned program and in every row, IS THE sha256 OF THE DUMP (.gsa) THAT YthmjhhkheohgfaaProg.lean LOADS. Nothing in Lean hashes anything: it is a label: what it is worth is what the hold of that sum in a sandbox is worth. -/
noncomputable def Try.pinned : Pinned := { name := "ythmjhhkheohgfaa", sum := "2d8636a8bcd2e09b06d8bf55b9d3785d9849760cf242396f1e3e9eda6ab0a6fe", checked := Try.checked }
namespace Rows
def none {H : Type} : Left H := { results := [], args := [] }

/-- 'laws.FnTrimmed': WHATEVER THE INPUT: true; the input reads as it did. -/
def fnTrimmedSpec : ChangeSpec := { name := "fnTrimmed", fn := fun _ => fun
  | [d] => { results := [.lit (.bool true)], args := [d] }
  | _ => none }
def fnTrimmedRow : OpenClaim := { program := "ythmjhhkheohgfaa", sum := "2d8636a8bcd2e09b06d8bf55b9d3785d9849760cf242396f1e3e9eda6ab0a6fe", func := "loop.example/g00393/laws.FnTrimmed", spec := "fnTrimmed", unfollowed := true, recurses := true, apart := false }
def FnTrimmedSaid : Prop := fnTrimmedRow.holds Try.pinned (OpenSpec.ofChange fnTrimmedSpec)

/-- ITS FALSE NEIGHBOUR: 'it returns false'. Refute it at one input. -/
def fnTrimmedWrong : ChangeSpec := { name := "fnTrimmed", fn := fun _ => fun
  | [d] => { results := [.lit (.bool false)], args := [d] }
  | _ => none }
def FnTrimmedWrongFalsely : Prop := fnTrimmedRow.holds Try.pinned (OpenSpec.ofChange fnTrimmedWrong)

/-- 'laws.FnExactMakerOf': WHATEVER THE INPUT: true; the input reads as it did. -/
def fnExactMakerOfSpec : ChangeSpec := { name := "fnExactMakerOf", fn := fun _ => fun
  | [d1, d2, d3] => { results := [.lit (.bool true)], args := [d1, d2, d3] }
  | _ => none }
def fnExactMakerOfRow : OpenClaim := { program := "ythmjhhkheohgfaa", sum := "2d8636a8bcd2e09b06d8bf55b9d3785d9849760cf242396f1e3e9eda6ab0a6fe", func := "loop.example/g00393/laws.FnExactMakerOf", spec := "fnExactMakerOf", apart := false }
def FnExactMakerOfSaid : Prop := fnExactMakerOfRow.holds Try.pinned (OpenSpec.ofChange fnExactMakerOfSpec)

/-- ITS FALSE NEIGHBOUR: 'it returns false'. Refute it at one input. -/
def fnExactMakerOfWrong : ChangeSpec := { name := "fnExactMakerOf", fn := fun _ => fun
  | [d1, d2, d3] => { results := [.lit (.bool false)], args := [d1, d2, d3] }
  | _ => none }
def FnExactMakerOfWrongFalsely : Prop := fnExactMakerOfRow.holds Try.pinned (OpenSpec.ofChange fnExactMakerOfWrong)

/-- 'laws.FnExactMakerSet': WHATEVER THE INPUT: true; the input reads as it did. -/
def fnExactMakerSetSpec : ChangeSpec := { name := "fnExactMakerSet", fn := fun _ => fun
  | [d1, d2] => { results := [.lit (.bool true)], args := [d1, d2] }
  | _ => none }
def fnExactMakerSetRow : OpenClaim := { program := "ythmjhhkheohgfaa", sum := "2d8636a8bcd2e09b06d8bf55b9d3785d9849760cf242396f1e3e9eda6ab0a6fe", func := "loop.example/g00393/laws.FnExactMakerSet", spec := "fnExactMakerSet", apart := false }
def FnExactMakerSetSaid : Prop := fnExactMakerSetRow.holds Try.pinned (OpenSpec.ofChange fnExactMakerSetSpec)

/-- ITS FALSE NEIGHBOUR: 'it returns false'. Refute it at one input. -/
def fnExactMakerSetWrong : ChangeSpec := { name := "fnExactMakerSet", fn := fun _ => fun
  | [d1, d2] => { results := [.lit (.bool false)], args := [d1, d2] }
  | _ => none }
def FnExactMakerSetWrongFalsely : Prop := fnExactMakerSetRow.holds Try.pinned (OpenSpec.ofChange fnExactMakerSetWrong)

/-- 'laws.FnExactRowTrim': WHATEVER THE INPUT: true; the input reads as it did. -/
def fnExactRowTrimSpec : ChangeSpec := { name := "fnExactRowTrim", fn := fun _ => fun
  | [d1, d2, d3] => { results := [.lit (.bool true)], args := [d1, d2, d3] }
  | _ => none }
def fnExactRowTrimRow : OpenClaim := { program := "ythmjhhkheohgfaa", sum := "2d8636a8bcd2e09b06d8bf55b9d3785d9849760cf242396f1e3e9eda6ab0a6fe", func := "loop.example/g00393/laws.FnExactRowTrim", spec := "fnExactRowTrim", unfollowed := true, recurses := true, apart := false }
def FnExactRowTrimSaid : Prop := fnExactRowTrimRow.holds Try.pinned (OpenSpec.ofChange fnExactRowTrimSpec)

/-- ITS FALSE NEIGHBOUR: 'it returns false'. Refute it at one input. -/
def fnExactRowTrimWrong : ChangeSpec := { name := "fnExactRowTrim", fn := fun _ => fun
  | [d1, d2, d3] => { results := [.lit (.bool false)], args := [d1, d2, d3] }
  | _ => none }
def FnExactRowTrimWrongFalsely : Prop := fnExactRowTrimRow.holds Try.pinned (OpenSpec.ofChange fnExactRowTrimWrong)

/-- 'laws.FnMakers': WHATEVER THE INPUT: true; the input reads as it did. -/
def fnMakersSpec : ChangeSpec := { name := "fnMakers", fn := fun _ => fun
  | [d] => { results := [.lit (.bool true)], args := [d] }
  | _ => none }
def fnMakersRow : OpenClaim := { program := "ythmjhhkheohgfaa", sum := "2d8636a8bcd2e09b06d8bf55b9d3785d9849760cf242396f1e3e9eda6ab0a6fe", func := "loop.example/g00393/laws.FnMakers", spec := "fnMakers", apart := false }
def FnMakersSaid : Prop := fnMakersRow.holds Try.pinned (OpenSpec.ofChange fnMakersSpec)

/-- ITS FALSE NEIGHBOUR: 'it returns false'. Refute it at one input. -/
def fnMakersWrong : ChangeSpec := { name := "fnMakers", fn := fun _ => fun
  | [d] => { results := [.lit (.bool false)], args := [d] }
  | _ => none }
def FnMakersWrongFalsely : Prop := fnMakersRow.holds Try.pinned (OpenSpec.ofChange fnMakersWrong)

/-- 'laws.FnExactKeepNew': WHATEVER THE INPUT: true; the input reads as it did. -/
def fnExactKeepNewSpec : ChangeSpec := { name := "fnExactKeepNew", fn := fun _ => fun
  | [d] => { results := [.lit (.bool true)], args := [d] }
  | _ => none }
def fnExactKeepNewRow : OpenClaim := { program := "ythmjhhkheohgfaa", sum := "2d8636a8bcd2e09b06d8bf55b9d3785d9849760cf242396f1e3e9eda6ab0a6fe", func := "loop.example/g00393/laws.FnExactKeepNew", spec := "fnExactKeepNew", apart := false }
def FnExactKeepNewSaid : Prop := fnExactKeepNewRow.holds Try.pinned (OpenSpec.ofChange fnExactKeepNewSpec)

/-- ITS FALSE NEIGHBOUR: 'it returns false'. Refute it at one input. -/
def fnExactKeepNewWrong : ChangeSpec := { name := "fnExactKeepNew", fn := fun _ => fun
  | [d] => { results := [.lit (.bool false)], args := [d] }
  | _ => none }
def FnExactKeepNewWrongFalsely : Prop := fnExactKeepNewRow.holds Try.pinned (OpenSpec.ofChange fnExactKeepNewWrong)

/- THE SECOND FORM. 'bulk': how many values and letters a reading holds, each counted each time it is reached (what is shared counts as often as it is met; a slice's spare places count too). A statement '..UptoSaid' is the law's where the arguments, and the package variables that the reading takes, are together of bulk at most 1048576: NARROWER than '..Said'. Prove '..Said' where nothing that the law and all that it calls make is longer than what came in: it says more and counts as full. Else prove '..UptoSaid'. A law counts once. -/
mutual
def uptoBulk {H : Type} : DataW H → Nat
  | .lit (.string bytes) => bytes.length + 1
  | .lit _ => 1
  | .nil => 1
  | .ptr d => uptoBulk d + 1
  | .slice elems spare => uptoBulkAll elems + uptoBulkAll spare + 1
  | .agg parts => uptoBulkAll parts + 1
  | .iface _ d => uptoBulk d + 1
  | .map entries => uptoBulkEntries entries + 1
  | .held _ => 1
def uptoBulkAll {H : Type} : List (DataW H) → Nat
  | [] => 0
  | d :: r => uptoBulk d + uptoBulkAll r
def uptoBulkEntries {H : Type} : List (Lit × DataW H) → Nat
  | [] => 0
  | x :: r => uptoBulkEntry x + uptoBulkEntries r
def uptoBulkEntry {H : Type} : Lit × DataW H → Nat
  | (.string bytes, d) => bytes.length + uptoBulk d + 1
  | (_, d) => uptoBulk d + 1
 end
def uptoSmall : (H : Type) → List (DataW H) → Bool := fun _ ds => decide (uptoBulkAll ds ≤ 1048576)
def OpenSpec.upto (s : _root_.Go.ChangeSpec) : _root_.Go.OpenSpec := { _root_.Go.OpenSpec.ofChange s with cond := some uptoSmall }

/-- 'laws.FnTrimmed', WHERE WHAT IT READS IS OF BULK AT MOST 1048576: true; the input reads as it did. -/
def fnTrimmedUptoRow : OpenClaim := { program := "ythmjhhkheohgfaa", sum := "2d8636a8bcd2e09b06d8bf55b9d3785d9849760cf242396f1e3e9eda6ab0a6fe", func := "loop.example/g00393/laws.FnTrimmed", spec := "fnTrimmed", unfollowed := true, recurses := true, apart := false, narrowed := true }
def FnTrimmedUptoSaid : Prop := fnTrimmedUptoRow.holds Try.pinned (OpenSpec.upto fnTrimmedSpec)

/-- 'laws.FnExactMakerOf', WHERE WHAT IT READS IS OF BULK AT MOST 1048576: true; the input reads as it did. -/
def fnExactMakerOfUptoRow : OpenClaim := { program := "ythmjhhkheohgfaa", sum := "2d8636a8bcd2e09b06d8bf55b9d3785d9849760cf242396f1e3e9eda6ab0a6fe", func := "loop.example/g00393/laws.FnExactMakerOf", spec := "fnExactMakerOf", apart := false, narrowed := true }
def FnExactMakerOfUptoSaid : Prop := fnExactMakerOfUptoRow.holds Try.pinned (OpenSpec.upto fnExactMakerOfSpec)

/-- 'laws.FnExactMakerSet', WHERE WHAT IT READS IS OF BULK AT MOST 1048576: true; the input reads as it did. -/
def fnExactMakerSetUptoRow : OpenClaim := { program := "ythmjhhkheohgfaa", sum := "2d8636a8bcd2e09b06d8bf55b9d3785d9849760cf242396f1e3e9eda6ab0a6fe", func := "loop.example/g00393/laws.FnExactMakerSet", spec := "fnExactMakerSet", apart := false, narrowed := true }
def FnExactMakerSetUptoSaid : Prop := fnExactMakerSetUptoRow.holds Try.pinned (OpenSpec.upto fnExactMakerSetSpec)

/-- 'laws.FnExactRowTrim', WHERE WHAT IT READS IS OF BULK AT MOST 1048576: true; the input reads as it did. -/
def fnExactRowTrimUptoRow : OpenClaim := { program := "ythmjhhkheohgfaa", sum := "2d8636a8bcd2e09b06d8bf55b9d3785d9849760cf242396f1e3e9eda6ab0a6fe", func := "loop.example/g00393/laws.FnExactRowTrim", spec := "fnExactRowTrim", unfollowed := true, recurses := true, apart := false, narrowed := true }
def FnExactRowTrimUptoSaid : Prop := fnExactRowTrimUptoRow.holds Try.pinned (OpenSpec.upto fnExactRowTrimSpec)

/-- 'laws.FnMakers', WHERE WHAT IT READS IS OF BULK AT MOST 1048576: true; the input reads as it did. -/
def fnMakersUptoRow : OpenClaim := { program := "ythmjhhkheohgfaa", sum := "2d8636a8bcd2e09b06d8bf55b9d3785d9849760cf242396f1e3e9eda6ab0a6fe", func := "loop.example/g00393/laws.FnMakers", spec := "fnMakers", apart := false, narrowed := true }
def FnMakersUptoSaid : Prop := fnMakersUptoRow.holds Try.pinned (OpenSpec.upto fnMakersSpec)

/-- 'laws.FnExactKeepNew', WHERE WHAT IT READS IS OF BULK AT MOST 1048576: true; the input reads as it did. -/
def fnExactKeepNewUptoRow : OpenClaim := { program := "ythmjhhkheohgfaa", sum := "2d8636a8bcd2e09b06d8bf55b9d3785d9849760cf242396f1e3e9eda6ab0a6fe", func := "loop.example/g00393/laws.FnExactKeepNew", spec := "fnExactKeepNew", apart := false, narrowed := true }
def FnExactKeepNewUptoSaid : Prop := fnExactKeepNewUptoRow.holds Try.pinned (OpenSpec.upto fnExactKeepNewSpec)

end Rows
end Go.Proofs.Ythmjhhkheohgfaa
