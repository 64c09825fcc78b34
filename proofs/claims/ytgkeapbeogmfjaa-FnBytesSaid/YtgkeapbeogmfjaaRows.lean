/-
  No cell of these rows narrows 'for every input' (looked for: loops, veiled, ifaces, maps, wideKeys, modest, calm, conditions, laid).
  DERIVED. THE GIVEN ROWS OF THIS SEAT. 12 by the template 'for every input the law returns true; each argument reads behind the call as it read before'; 0 by the template 'total and deterministic' (their statements: YtgkeapbeogmfjaaTotals.lean).
  GIVEN WITH THE SEED: the statements are not yours to turn. If you find one false, say at which input.
  Laid BY PROGRAM, IN A SANDBOX (cutbox-rows.mjs): the forced cells as the released guide's own fill.sh prints them over the translation 0122fb844ca07f19… (all of the seat's roots in one cut). By AI agents, Wed Nov 11 2026. No macro, syntax, notation, axiom, sorry.
-/
import Derived.Test.YtgkeapbeogmfjaaChecked
import GoSem.Claim
import GoSem.ClaimJoined
import GoSem.ClaimMapViews
import Derived.JoinedTies
import Derived.KernelRfl
namespace Go.Proofs.Ytgkeapbeogmfjaa
/- THE CELL 'sum', in the pinned program and in every row, IS THE sha256 OF THE DUMP (.gsa) THAT YtgkeapbeogmfjaaProg.lean LOADS. Nothing in Lean hashes anything: it is a label: what it is worth is what the hold of that sum in a sandbox is worth. -/
noncomputable def Try.pinned : Pinned := { name := "ytgkeapbeogmfjaa", sum := "0122fb844ca07f196130581dfe132d6c0e5203f35c3ef4cd4333afe09b6c4fae", checked := Try.checked }
namespace Rows
def none {H : Type} : Left H := { results := [], args := [] }

/-- 'laws.FnExactGroupOk': WHATEVER THE INPUT: true; the input reads as it did. -/
def fnExactGroupOkSpec : ChangeSpec := { name := "fnExactGroupOk", fn := fun _ => fun
  | [d1, d2] => { results := [.lit (.bool true)], args := [d1, d2] }
  | _ => none }
def fnExactGroupOkRow : OpenClaim := { program := "ytgkeapbeogmfjaa", sum := "0122fb844ca07f196130581dfe132d6c0e5203f35c3ef4cd4333afe09b6c4fae", func := "loop.example/g00393/laws.FnExactGroupOk", spec := "fnExactGroupOk", unfollowed := true, recurses := true, apart := false }
def FnExactGroupOkSaid : Prop := fnExactGroupOkRow.holds Try.pinned (OpenSpec.ofChange fnExactGroupOkSpec)

/-- ITS FALSE NEIGHBOUR: 'it returns false'. Refute it at one input. -/
def fnExactGroupOkWrong : ChangeSpec := { name := "fnExactGroupOk", fn := fun _ => fun
  | [d1, d2] => { results := [.lit (.bool false)], args := [d1, d2] }
  | _ => none }
def FnExactGroupOkWrongFalsely : Prop := fnExactGroupOkRow.holds Try.pinned (OpenSpec.ofChange fnExactGroupOkWrong)

/-- 'laws.FnExactLatest': WHATEVER THE INPUT: true; the input reads as it did. -/
def fnExactLatestSpec : ChangeSpec := { name := "fnExactLatest", fn := fun _ => fun
  | [d1, d2] => { results := [.lit (.bool true)], args := [d1, d2] }
  | _ => none }
def fnExactLatestRow : OpenClaim := { program := "ytgkeapbeogmfjaa", sum := "0122fb844ca07f196130581dfe132d6c0e5203f35c3ef4cd4333afe09b6c4fae", func := "loop.example/g00393/laws.FnExactLatest", spec := "fnExactLatest", apart := false }
def FnExactLatestSaid : Prop := fnExactLatestRow.holds Try.pinned (OpenSpec.ofChange fnExactLatestSpec)

/-- ITS FALSE NEIGHBOUR: 'it returns false'. Refute it at one input. -/
def fnExactLatestWrong : ChangeSpec := { name := "fnExactLatest", fn := fun _ => fun
  | [d1, d2] => { results := [.lit (.bool false)], args := [d1, d2] }
  | _ => none }
def FnExactLatestWrongFalsely : Prop := fnExactLatestRow.holds Try.pinned (OpenSpec.ofChange fnExactLatestWrong)

/-- 'laws.FnExactMakerAsk': WHATEVER THE INPUT: true; the input reads as it did. -/
def fnExactMakerAskSpec : ChangeSpec := { name := "fnExactMakerAsk", fn := fun _ => fun
  | [d1, d2, d3] => { results := [.lit (.bool true)], args := [d1, d2, d3] }
  | _ => none }
def fnExactMakerAskRow : OpenClaim := { program := "ytgkeapbeogmfjaa", sum := "0122fb844ca07f196130581dfe132d6c0e5203f35c3ef4cd4333afe09b6c4fae", func := "loop.example/g00393/laws.FnExactMakerAsk", spec := "fnExactMakerAsk", apart := false }
def FnExactMakerAskSaid : Prop := fnExactMakerAskRow.holds Try.pinned (OpenSpec.ofChange fnExactMakerAskSpec)

/-- ITS FALSE NEIGHBOUR: 'it returns false'. Refute it at one input. -/
def fnExactMakerAskWrong : ChangeSpec := { name := "fnExactMakerAsk", fn := fun _ => fun
  | [d1, d2, d3] => { results := [.lit (.bool false)], args := [d1, d2, d3] }
  | _ => none }
def FnExactMakerAskWrongFalsely : Prop := fnExactMakerAskRow.holds Try.pinned (OpenSpec.ofChange fnExactMakerAskWrong)

/-- 'laws.FnExactRowGet': WHATEVER THE INPUT: true; the input reads as it did. -/
def fnExactRowGetSpec : ChangeSpec := { name := "fnExactRowGet", fn := fun _ => fun
  | [d1, d2] => { results := [.lit (.bool true)], args := [d1, d2] }
  | _ => none }
def fnExactRowGetRow : OpenClaim := { program := "ytgkeapbeogmfjaa", sum := "0122fb844ca07f196130581dfe132d6c0e5203f35c3ef4cd4333afe09b6c4fae", func := "loop.example/g00393/laws.FnExactRowGet", spec := "fnExactRowGet", apart := false }
def FnExactRowGetSaid : Prop := fnExactRowGetRow.holds Try.pinned (OpenSpec.ofChange fnExactRowGetSpec)

/-- ITS FALSE NEIGHBOUR: 'it returns false'. Refute it at one input. -/
def fnExactRowGetWrong : ChangeSpec := { name := "fnExactRowGet", fn := fun _ => fun
  | [d1, d2] => { results := [.lit (.bool false)], args := [d1, d2] }
  | _ => none }
def FnExactRowGetWrongFalsely : Prop := fnExactRowGetRow.holds Try.pinned (OpenSpec.ofChange fnExactRowGetWrong)

/-- 'laws.FnBytes': WHATEVER THE INPUT: true; the input reads as it did. -/
def fnBytesSpec : ChangeSpec := { name := "fnBytes", fn := fun _ => fun
  | [d] => { results := [.lit (.bool true)], args := [d] }
  | _ => none }
def fnBytesRow : OpenClaim := { program := "ytgkeapbeogmfjaa", sum := "0122fb844ca07f196130581dfe132d6c0e5203f35c3ef4cd4333afe09b6c4fae", func := "loop.example/g00393/laws.FnBytes", spec := "fnBytes", apart := false }
def FnBytesSaid : Prop := fnBytesRow.holds Try.pinned (OpenSpec.ofChange fnBytesSpec)

/-- ITS FALSE NEIGHBOUR: 'it returns false'. Refute it at one input. -/
def fnBytesWrong : ChangeSpec := { name := "fnBytes", fn := fun _ => fun
  | [d] => { results := [.lit (.bool false)], args := [d] }
  | _ => none }
def FnBytesWrongFalsely : Prop := fnBytesRow.holds Try.pinned (OpenSpec.ofChange fnBytesWrong)

/-- 'laws.FnExactRowOk': WHATEVER THE INPUT: true; the input reads as it did. -/
def fnExactRowOkSpec : ChangeSpec := { name := "fnExactRowOk", fn := fun _ => fun
  | [d] => { results := [.lit (.bool true)], args := [d] }
  | _ => none }
def fnExactRowOkRow : OpenClaim := { program := "ytgkeapbeogmfjaa", sum := "0122fb844ca07f196130581dfe132d6c0e5203f35c3ef4cd4333afe09b6c4fae", func := "loop.example/g00393/laws.FnExactRowOk", spec := "fnExactRowOk", apart := false }
def FnExactRowOkSaid : Prop := fnExactRowOkRow.holds Try.pinned (OpenSpec.ofChange fnExactRowOkSpec)

/-- ITS FALSE NEIGHBOUR: 'it returns false'. Refute it at one input. -/
def fnExactRowOkWrong : ChangeSpec := { name := "fnExactRowOk", fn := fun _ => fun
  | [d] => { results := [.lit (.bool false)], args := [d] }
  | _ => none }
def FnExactRowOkWrongFalsely : Prop := fnExactRowOkRow.holds Try.pinned (OpenSpec.ofChange fnExactRowOkWrong)

/-- 'laws.FnExactGroupMark': WHATEVER THE INPUT: true; the input reads as it did. -/
def fnExactGroupMarkSpec : ChangeSpec := { name := "fnExactGroupMark", fn := fun _ => fun
  | [d1, d2, d3, d4, d5] => { results := [.lit (.bool true)], args := [d1, d2, d3, d4, d5] }
  | _ => none }
def fnExactGroupMarkRow : OpenClaim := { program := "ytgkeapbeogmfjaa", sum := "0122fb844ca07f196130581dfe132d6c0e5203f35c3ef4cd4333afe09b6c4fae", func := "loop.example/g00393/laws.FnExactGroupMark", spec := "fnExactGroupMark", apart := false }
def FnExactGroupMarkSaid : Prop := fnExactGroupMarkRow.holds Try.pinned (OpenSpec.ofChange fnExactGroupMarkSpec)

/-- ITS FALSE NEIGHBOUR: 'it returns false'. Refute it at one input. -/
def fnExactGroupMarkWrong : ChangeSpec := { name := "fnExactGroupMark", fn := fun _ => fun
  | [d1, d2, d3, d4, d5] => { results := [.lit (.bool false)], args := [d1, d2, d3, d4, d5] }
  | _ => none }
def FnExactGroupMarkWrongFalsely : Prop := fnExactGroupMarkRow.holds Try.pinned (OpenSpec.ofChange fnExactGroupMarkWrong)

/-- 'laws.FnExactCmdBytes': WHATEVER THE INPUT: true; the input reads as it did. -/
def fnExactCmdBytesSpec : ChangeSpec := { name := "fnExactCmdBytes", fn := fun _ => fun
  | [d] => { results := [.lit (.bool true)], args := [d] }
  | _ => none }
def fnExactCmdBytesRow : OpenClaim := { program := "ytgkeapbeogmfjaa", sum := "0122fb844ca07f196130581dfe132d6c0e5203f35c3ef4cd4333afe09b6c4fae", func := "loop.example/g00393/laws.FnExactCmdBytes", spec := "fnExactCmdBytes", apart := false }
def FnExactCmdBytesSaid : Prop := fnExactCmdBytesRow.holds Try.pinned (OpenSpec.ofChange fnExactCmdBytesSpec)

/-- ITS FALSE NEIGHBOUR: 'it returns false'. Refute it at one input. -/
def fnExactCmdBytesWrong : ChangeSpec := { name := "fnExactCmdBytes", fn := fun _ => fun
  | [d] => { results := [.lit (.bool false)], args := [d] }
  | _ => none }
def FnExactCmdBytesWrongFalsely : Prop := fnExactCmdBytesRow.holds Try.pinned (OpenSpec.ofChange fnExactCmdBytesWrong)

/-- 'laws.FnFenced': WHATEVER THE INPUT: true; the input reads as it did. -/
def fnFencedSpec : ChangeSpec := { name := "fnFenced", fn := fun _ => fun
  | [d] => { results := [.lit (.bool true)], args := [d] }
  | _ => none }
def fnFencedRow : OpenClaim := { program := "ytgkeapbeogmfjaa", sum := "0122fb844ca07f196130581dfe132d6c0e5203f35c3ef4cd4333afe09b6c4fae", func := "loop.example/g00393/laws.FnFenced", spec := "fnFenced", apart := false }
def FnFencedSaid : Prop := fnFencedRow.holds Try.pinned (OpenSpec.ofChange fnFencedSpec)

/-- ITS FALSE NEIGHBOUR: 'it returns false'. Refute it at one input. -/
def fnFencedWrong : ChangeSpec := { name := "fnFenced", fn := fun _ => fun
  | [d] => { results := [.lit (.bool false)], args := [d] }
  | _ => none }
def FnFencedWrongFalsely : Prop := fnFencedRow.holds Try.pinned (OpenSpec.ofChange fnFencedWrong)

/-- 'laws.FnExactMakerOf': WHATEVER THE INPUT: true; the input reads as it did. -/
def fnExactMakerOfSpec : ChangeSpec := { name := "fnExactMakerOf", fn := fun _ => fun
  | [d1, d2, d3] => { results := [.lit (.bool true)], args := [d1, d2, d3] }
  | _ => none }
def fnExactMakerOfRow : OpenClaim := { program := "ytgkeapbeogmfjaa", sum := "0122fb844ca07f196130581dfe132d6c0e5203f35c3ef4cd4333afe09b6c4fae", func := "loop.example/g00393/laws.FnExactMakerOf", spec := "fnExactMakerOf", apart := false }
def FnExactMakerOfSaid : Prop := fnExactMakerOfRow.holds Try.pinned (OpenSpec.ofChange fnExactMakerOfSpec)

/-- ITS FALSE NEIGHBOUR: 'it returns false'. Refute it at one input. -/
def fnExactMakerOfWrong : ChangeSpec := { name := "fnExactMakerOf", fn := fun _ => fun
  | [d1, d2, d3] => { results := [.lit (.bool false)], args := [d1, d2, d3] }
  | _ => none }
def FnExactMakerOfWrongFalsely : Prop := fnExactMakerOfRow.holds Try.pinned (OpenSpec.ofChange fnExactMakerOfWrong)

/-- 'laws.FnExactMakerPut': WHATEVER THE INPUT: true; the input reads as it did. -/
def fnExactMakerPutSpec : ChangeSpec := { name := "fnExactMakerPut", fn := fun _ => fun
  | [d1, d2, d3, d4, d5] => { results := [.lit (.bool true)], args := [d1, d2, d3, d4, d5] }
  | _ => none }
def fnExactMakerPutRow : OpenClaim := { program := "ytgkeapbeogmfjaa", sum := "0122fb844ca07f196130581dfe132d6c0e5203f35c3ef4cd4333afe09b6c4fae", func := "loop.example/g00393/laws.FnExactMakerPut", spec := "fnExactMakerPut", apart := false }
def FnExactMakerPutSaid : Prop := fnExactMakerPutRow.holds Try.pinned (OpenSpec.ofChange fnExactMakerPutSpec)

/-- ITS FALSE NEIGHBOUR: 'it returns false'. Refute it at one input. -/
def fnExactMakerPutWrong : ChangeSpec := { name := "fnExactMakerPut", fn := fun _ => fun
  | [d1, d2, d3, d4, d5] => { results := [.lit (.bool false)], args := [d1, d2, d3, d4, d5] }
  | _ => none }
def FnExactMakerPutWrongFalsely : Prop := fnExactMakerPutRow.holds Try.pinned (OpenSpec.ofChange fnExactMakerPutWrong)

/-- 'laws.FnExactCmdOf': WHATEVER THE INPUT: true; the input reads as it did. -/
def fnExactCmdOfSpec : ChangeSpec := { name := "fnExactCmdOf", fn := fun _ => fun
  | [d1, d2] => { results := [.lit (.bool true)], args := [d1, d2] }
  | _ => none }
def fnExactCmdOfRow : OpenClaim := { program := "ytgkeapbeogmfjaa", sum := "0122fb844ca07f196130581dfe132d6c0e5203f35c3ef4cd4333afe09b6c4fae", func := "loop.example/g00393/laws.FnExactCmdOf", spec := "fnExactCmdOf", apart := false }
def FnExactCmdOfSaid : Prop := fnExactCmdOfRow.holds Try.pinned (OpenSpec.ofChange fnExactCmdOfSpec)

/-- ITS FALSE NEIGHBOUR: 'it returns false'. Refute it at one input. -/
def fnExactCmdOfWrong : ChangeSpec := { name := "fnExactCmdOf", fn := fun _ => fun
  | [d1, d2] => { results := [.lit (.bool false)], args := [d1, d2] }
  | _ => none }
def FnExactCmdOfWrongFalsely : Prop := fnExactCmdOfRow.holds Try.pinned (OpenSpec.ofChange fnExactCmdOfWrong)

/- THE SECOND FORM. 'bulk': how many values and letters a reading holds, each counted each time it is reached (what is shared counts as often as it is met; a slice's spare places count too). A statement '..UptoSaid' is the law's where the arguments, and the package variables that the reading takes, are together of bulk at most 1048576: NARROWER than '..Said'. Prove '..Said' where nothing that the law and all that it calls make is longer than what came in: it says more and counts as full. Else prove '..UptoSaid'. A law counts once. -/
mutual
def uptoBulk {H : Type} : DataW H → Nat
  | .lit (.string bytes) => bytes.length + 1
  | .lit _ => 1
  | .nil => 1
  | .ptr d => uptoBulk d + 1
  | .slice elems spare => uptoBulkAll elems + uptoBulkAll spare + 1
  | .agg parts => uptoBulkAll parts + 1
  | .iface _ d => uptoBulk d + 1
  | .map entries => uptoBulkEntries entries + 1
  | .held _ => 1
def uptoBulkAll {H : Type} : List (DataW H) → Nat
  | [] => 0
  | d :: r => uptoBulk d + uptoBulkAll r
def uptoBulkEntries {H : Type} : List (Lit × DataW H) → Nat
  | [] => 0
  | x :: r => uptoBulkEntry x + uptoBulkEntries r
def uptoBulkEntry {H : Type} : Lit × DataW H → Nat
  | (.string bytes, d) => bytes.length + uptoBulk d + 1
  | (_, d) => uptoBulk d + 1
 end
def uptoSmall : (H : Type) → List (DataW H) → Bool := fun _ ds => decide (uptoBulkAll ds ≤ 1048576)
def OpenSpec.upto (s : _root_.Go.ChangeSpec) : _root_.Go.OpenSpec := { _root_.Go.OpenSpec.ofChange s with cond := some uptoSmall }

/-- 'laws.FnExactGroupOk', WHERE WHAT IT READS IS OF BULK AT MOST 1048576: true; the input reads as it did. -/
def fnExactGroupOkUptoRow : OpenClaim := { program := "ytgkeapbeogmfjaa", sum := "0122fb844ca07f196130581dfe132d6c0e5203f35c3ef4cd4333afe09b6c4fae", func := "loop.example/g00393/laws.FnExactGroupOk", spec := "fnExactGroupOk", unfollowed := true, recurses := true, apart := false, narrowed := true }
def FnExactGroupOkUptoSaid : Prop := fnExactGroupOkUptoRow.holds Try.pinned (OpenSpec.upto fnExactGroupOkSpec)

/-- 'laws.FnExactLatest', WHERE WHAT IT READS IS OF BULK AT MOST 1048576: true; the input reads as it did. -/
def fnExactLatestUptoRow : OpenClaim := { program := "ytgkeapbeogmfjaa", sum := "0122fb844ca07f196130581dfe132d6c0e5203f35c3ef4cd4333afe09b6c4fae", func := "loop.example/g00393/laws.FnExactLatest", spec := "fnExactLatest", apart := false, narrowed := true }
def FnExactLatestUptoSaid : Prop := fnExactLatestUptoRow.holds Try.pinned (OpenSpec.upto fnExactLatestSpec)

/-- 'laws.FnExactMakerAsk', WHERE WHAT IT READS IS OF BULK AT MOST 1048576: true; the input reads as it did. -/
def fnExactMakerAskUptoRow : OpenClaim := { program := "ytgkeapbeogmfjaa", sum := "0122fb844ca07f196130581dfe132d6c0e5203f35c3ef4cd4333afe09b6c4fae", func := "loop.example/g00393/laws.FnExactMakerAsk", spec := "fnExactMakerAsk", apart := false, narrowed := true }
def FnExactMakerAskUptoSaid : Prop := fnExactMakerAskUptoRow.holds Try.pinned (OpenSpec.upto fnExactMakerAskSpec)

/-- 'laws.FnExactRowGet', WHERE WHAT IT READS IS OF BULK AT MOST 1048576: true; the input reads as it did. -/
def fnExactRowGetUptoRow : OpenClaim := { program := "ytgkeapbeogmfjaa", sum := "0122fb844ca07f196130581dfe132d6c0e5203f35c3ef4cd4333afe09b6c4fae", func := "loop.example/g00393/laws.FnExactRowGet", spec := "fnExactRowGet", apart := false, narrowed := true }
def FnExactRowGetUptoSaid : Prop := fnExactRowGetUptoRow.holds Try.pinned (OpenSpec.upto fnExactRowGetSpec)

/-- 'laws.FnBytes', WHERE WHAT IT READS IS OF BULK AT MOST 1048576: true; the input reads as it did. -/
def fnBytesUptoRow : OpenClaim := { program := "ytgkeapbeogmfjaa", sum := "0122fb844ca07f196130581dfe132d6c0e5203f35c3ef4cd4333afe09b6c4fae", func := "loop.example/g00393/laws.FnBytes", spec := "fnBytes", apart := false, narrowed := true }
def FnBytesUptoSaid : Prop := fnBytesUptoRow.holds Try.pinned (OpenSpec.upto fnBytesSpec)

/-- 'laws.FnExactRowOk', WHERE WHAT IT READS IS OF BULK AT MOST 1048576: true; the input reads as it did. -/
def fnExactRowOkUptoRow : OpenClaim := { program := "ytgkeapbeogmfjaa", sum := "0122fb844ca07f196130581dfe132d6c0e5203f35c3ef4cd4333afe09b6c4fae", func := "loop.example/g00393/laws.FnExactRowOk", spec := "fnExactRowOk", apart := false, narrowed := true }
def FnExactRowOkUptoSaid : Prop := fnExactRowOkUptoRow.holds Try.pinned (OpenSpec.upto fnExactRowOkSpec)

/-- 'laws.FnExactGroupMark', WHERE WHAT IT READS IS OF BULK AT MOST 1048576: true; the input reads as it did. -/
def fnExactGroupMarkUptoRow : OpenClaim := { program := "ytgkeapbeogmfjaa", sum := "0122fb844ca07f196130581dfe132d6c0e5203f35c3ef4cd4333afe09b6c4fae", func := "loop.example/g00393/laws.FnExactGroupMark", spec := "fnExactGroupMark", apart := false, narrowed := true }
def FnExactGroupMarkUptoSaid : Prop := fnExactGroupMarkUptoRow.holds Try.pinned (OpenSpec.upto fnExactGroupMarkSpec)

/-- 'laws.FnExactCmdBytes', WHERE WHAT IT READS IS OF BULK AT MOST 1048576: true; the input reads as it did. -/
def fnExactCmdBytesUptoRow : OpenClaim := { program := "ytgkeapbeogmfjaa", sum := "0122fb844ca07f196130581dfe132d6c0e5203f35c3ef4cd4333afe09b6c4fae", func := "loop.example/g00393/laws.FnExactCmdBytes", spec := "fnExactCmdBytes", apart := false, narrowed := true }
def FnExactCmdBytesUptoSaid : Prop := fnExactCmdBytesUptoRow.holds Try.pinned (OpenSpec.upto fnExactCmdBytesSpec)

/-- 'laws.FnFenced', WHERE WHAT IT READS IS OF BULK AT MOST 1048576: true; the input reads as it did. -/
def fnFencedUptoRow : OpenClaim := { program := "ytgkeapbeogmfjaa", sum := "0122fb844ca07f196130581dfe132d6c0e5203f35c3ef4cd4333afe09b6c4fae", func := "loop.example/g00393/laws.FnFenced", spec := "fnFenced", apart := false, narrowed := true }
def FnFencedUptoSaid : Prop := fnFencedUptoRow.holds Try.pinned (OpenSpec.upto fnFencedSpec)

/-- 'laws.FnExactMakerOf', WHERE WHAT IT READS IS OF BULK AT MOST 1048576: true; the input reads as it did. -/
def fnExactMakerOfUptoRow : OpenClaim := { program := "ytgkeapbeogmfjaa", sum := "0122fb844ca07f196130581dfe132d6c0e5203f35c3ef4cd4333afe09b6c4fae", func := "loop.example/g00393/laws.FnExactMakerOf", spec := "fnExactMakerOf", apart := false, narrowed := true }
def FnExactMakerOfUptoSaid : Prop := fnExactMakerOfUptoRow.holds Try.pinned (OpenSpec.upto fnExactMakerOfSpec)

/-- 'laws.FnExactMakerPut', WHERE WHAT IT READS IS OF BULK AT MOST 1048576: true; the input reads as it did. -/
def fnExactMakerPutUptoRow : OpenClaim := { program := "ytgkeapbeogmfjaa", sum := "0122fb844ca07f196130581dfe132d6c0e5203f35c3ef4cd4333afe09b6c4fae", func := "loop.example/g00393/laws.FnExactMakerPut", spec := "fnExactMakerPut", apart := false, narrowed := true }
def FnExactMakerPutUptoSaid : Prop := fnExactMakerPutUptoRow.holds Try.pinned (OpenSpec.upto fnExactMakerPutSpec)

/-- 'laws.FnExactCmdOf', WHERE WHAT IT READS IS OF BULK AT MOST 1048576: true; the input reads as it did. -/
def fnExactCmdOfUptoRow : OpenClaim := { program := "ytgkeapbeogmfjaa", sum := "0122fb844ca07f196130581dfe132d6c0e5203f35c3ef4cd4333afe09b6c4fae", func := "loop.example/g00393/laws.FnExactCmdOf", spec := "fnExactCmdOf", apart := false, narrowed := true }
def FnExactCmdOfUptoSaid : Prop := fnExactCmdOfUptoRow.holds Try.pinned (OpenSpec.upto fnExactCmdOfSpec)

end Rows
end Go.Proofs.Ytgkeapbeogmfjaa
