/-
  No cell of these rows narrows 'for every input' (looked for: loops, veiled, ifaces, maps, wideKeys, modest, calm, conditions, laid).
  DERIVED. THE GIVEN ROWS OF THIS SEAT. 11 by the template 'for every input the law returns true; each argument reads behind the call as it read before'; 0 by the template 'total and deterministic' (their statements: YtakcojednmlheaaTotals.lean).
  GIVEN WITH THE SEED: the statements are not yours to turn. If you find one false, say at which input.
  Laid BY PROGRAM, IN A SANDBOX (cutbox-rows.mjs): the forced cells as the released guide's own fill.sh prints them over the translation ac27aea3ceca7a47… (all of the seat's roots in one cut). By AI agents, Wed Nov 11 2026. No macro, syntax, notation, axiom, sorry.
-/
import Derived.Test.YtakcojednmlheaaChecked
import GoSem.Claim
import GoSem.ClaimJoined
import GoSem.ClaimMapViews
import Derived.JoinedTies
import Derived.KernelRfl
namespace Go.Proofs.Ytakcojednmlheaa
/- THE CELL 'sum', in the pinned program and in every row, IS THE sha256 OF THE DUMP (.gsa) THAT YtakcojednmlheaaProg.lean LOADS. Nothing in Lean hashes anything: it is a label: what it is worth is what the hold of that sum in a sandbox is worth. -/
noncomputable def Try.pinned : Pinned := { name := "ytakcojednmlheaa", sum := "ac27aea3ceca7a47f91b274a245b0a393952f95ebbe1e740d6580d877a810e15", checked := Try.checked }
namespace Rows
def none {H : Type} : Left H := { results := [], args := [] }

/-- 'laws.FnExactTextWith': WHATEVER THE INPUT: true; the input reads as it did. -/
def fnExactTextWithSpec : ChangeSpec := { name := "fnExactTextWith", fn := fun _ => fun
  | [d1, d2, d3] => { results := [.lit (.bool true)], args := [d1, d2, d3] }
  | _ => none }
def fnExactTextWithRow : OpenClaim := { program := "ytakcojednmlheaa", sum := "ac27aea3ceca7a47f91b274a245b0a393952f95ebbe1e740d6580d877a810e15", func := "loop.example/g00969/laws.FnExactTextWith", spec := "fnExactTextWith", inPlace := ["internal/abi.NoEscape", "internal/bytealg.MakeNoZero"], apart := false }
def FnExactTextWithSaid : Prop := fnExactTextWithRow.holds Try.pinned (OpenSpec.ofChange fnExactTextWithSpec)

/-- ITS FALSE NEIGHBOUR: 'it returns false'. Refute it at one input. -/
def fnExactTextWithWrong : ChangeSpec := { name := "fnExactTextWith", fn := fun _ => fun
  | [d1, d2, d3] => { results := [.lit (.bool false)], args := [d1, d2, d3] }
  | _ => none }
def FnExactTextWithWrongFalsely : Prop := fnExactTextWithRow.holds Try.pinned (OpenSpec.ofChange fnExactTextWithWrong)

/-- 'laws.FnExactPageOf': WHATEVER THE INPUT: true; the input reads as it did. -/
def fnExactPageOfSpec : ChangeSpec := { name := "fnExactPageOf", fn := fun _ => fun
  | [d1, d2] => { results := [.lit (.bool true)], args := [d1, d2] }
  | _ => none }
def fnExactPageOfRow : OpenClaim := { program := "ytakcojednmlheaa", sum := "ac27aea3ceca7a47f91b274a245b0a393952f95ebbe1e740d6580d877a810e15", func := "loop.example/g00969/laws.FnExactPageOf", spec := "fnExactPageOf", inPlace := ["internal/abi.NoEscape", "internal/bytealg.MakeNoZero"], apart := false }
def FnExactPageOfSaid : Prop := fnExactPageOfRow.holds Try.pinned (OpenSpec.ofChange fnExactPageOfSpec)

/-- ITS FALSE NEIGHBOUR: 'it returns false'. Refute it at one input. -/
def fnExactPageOfWrong : ChangeSpec := { name := "fnExactPageOf", fn := fun _ => fun
  | [d1, d2] => { results := [.lit (.bool false)], args := [d1, d2] }
  | _ => none }
def FnExactPageOfWrongFalsely : Prop := fnExactPageOfRow.holds Try.pinned (OpenSpec.ofChange fnExactPageOfWrong)

/-- 'laws.FnExactSerialWord': WHATEVER THE INPUT: true; the input reads as it did. -/
def fnExactSerialWordSpec : ChangeSpec := { name := "fnExactSerialWord", fn := fun _ => fun
  | [d] => { results := [.lit (.bool true)], args := [d] }
  | _ => none }
def fnExactSerialWordRow : OpenClaim := { program := "ytakcojednmlheaa", sum := "ac27aea3ceca7a47f91b274a245b0a393952f95ebbe1e740d6580d877a810e15", func := "loop.example/g00969/laws.FnExactSerialWord", spec := "fnExactSerialWord", inPlace := ["internal/abi.NoEscape", "internal/bytealg.MakeNoZero"], apart := false }
def FnExactSerialWordSaid : Prop := fnExactSerialWordRow.holds Try.pinned (OpenSpec.ofChange fnExactSerialWordSpec)

/-- ITS FALSE NEIGHBOUR: 'it returns false'. Refute it at one input. -/
def fnExactSerialWordWrong : ChangeSpec := { name := "fnExactSerialWord", fn := fun _ => fun
  | [d] => { results := [.lit (.bool false)], args := [d] }
  | _ => none }
def FnExactSerialWordWrongFalsely : Prop := fnExactSerialWordRow.holds Try.pinned (OpenSpec.ofChange fnExactSerialWordWrong)

/-- 'laws.FnExactStatesWords': WHATEVER THE INPUT: true; the input reads as it did. -/
def fnExactStatesWordsSpec : ChangeSpec := { name := "fnExactStatesWords", fn := fun _ => fun
  | [d] => { results := [.lit (.bool true)], args := [d] }
  | _ => none }
def fnExactStatesWordsRow : OpenClaim := { program := "ytakcojednmlheaa", sum := "ac27aea3ceca7a47f91b274a245b0a393952f95ebbe1e740d6580d877a810e15", func := "loop.example/g00969/laws.FnExactStatesWords", spec := "fnExactStatesWords", inPlace := ["internal/abi.NoEscape", "internal/bytealg.MakeNoZero"], unfollowed := true, recurses := true, apart := false }
def FnExactStatesWordsSaid : Prop := fnExactStatesWordsRow.holds Try.pinned (OpenSpec.ofChange fnExactStatesWordsSpec)

/-- ITS FALSE NEIGHBOUR: 'it returns false'. Refute it at one input. -/
def fnExactStatesWordsWrong : ChangeSpec := { name := "fnExactStatesWords", fn := fun _ => fun
  | [d] => { results := [.lit (.bool false)], args := [d] }
  | _ => none }
def FnExactStatesWordsWrongFalsely : Prop := fnExactStatesWordsRow.holds Try.pinned (OpenSpec.ofChange fnExactStatesWordsWrong)

/-- 'laws.FnExactFreeInode': WHATEVER THE INPUT: true; the input reads as it did. -/
def fnExactFreeInodeSpec : ChangeSpec := { name := "fnExactFreeInode", fn := fun _ => fun
  | [d] => { results := [.lit (.bool true)], args := [d] }
  | _ => none }
def fnExactFreeInodeRow : OpenClaim := { program := "ytakcojednmlheaa", sum := "ac27aea3ceca7a47f91b274a245b0a393952f95ebbe1e740d6580d877a810e15", func := "loop.example/g00969/laws.FnExactFreeInode", spec := "fnExactFreeInode", apart := false }
def FnExactFreeInodeSaid : Prop := fnExactFreeInodeRow.holds Try.pinned (OpenSpec.ofChange fnExactFreeInodeSpec)

/-- ITS FALSE NEIGHBOUR: 'it returns false'. Refute it at one input. -/
def fnExactFreeInodeWrong : ChangeSpec := { name := "fnExactFreeInode", fn := fun _ => fun
  | [d] => { results := [.lit (.bool false)], args := [d] }
  | _ => none }
def FnExactFreeInodeWrongFalsely : Prop := fnExactFreeInodeRow.holds Try.pinned (OpenSpec.ofChange fnExactFreeInodeWrong)

/-- 'laws.FnExactLinksTo': WHATEVER THE INPUT: true; the input reads as it did. -/
def fnExactLinksToSpec : ChangeSpec := { name := "fnExactLinksTo", fn := fun _ => fun
  | [d1, d2] => { results := [.lit (.bool true)], args := [d1, d2] }
  | _ => none }
def fnExactLinksToRow : OpenClaim := { program := "ytakcojednmlheaa", sum := "ac27aea3ceca7a47f91b274a245b0a393952f95ebbe1e740d6580d877a810e15", func := "loop.example/g00969/laws.FnExactLinksTo", spec := "fnExactLinksTo", apart := false }
def FnExactLinksToSaid : Prop := fnExactLinksToRow.holds Try.pinned (OpenSpec.ofChange fnExactLinksToSpec)

/-- ITS FALSE NEIGHBOUR: 'it returns false'. Refute it at one input. -/
def fnExactLinksToWrong : ChangeSpec := { name := "fnExactLinksTo", fn := fun _ => fun
  | [d1, d2] => { results := [.lit (.bool false)], args := [d1, d2] }
  | _ => none }
def FnExactLinksToWrongFalsely : Prop := fnExactLinksToRow.holds Try.pinned (OpenSpec.ofChange fnExactLinksToWrong)

/-- 'laws.FnExactUsersOf': WHATEVER THE INPUT: true; the input reads as it did. -/
def fnExactUsersOfSpec : ChangeSpec := { name := "fnExactUsersOf", fn := fun _ => fun
  | [d1, d2] => { results := [.lit (.bool true)], args := [d1, d2] }
  | _ => none }
def fnExactUsersOfRow : OpenClaim := { program := "ytakcojednmlheaa", sum := "ac27aea3ceca7a47f91b274a245b0a393952f95ebbe1e740d6580d877a810e15", func := "loop.example/g00969/laws.FnExactUsersOf", spec := "fnExactUsersOf", apart := false }
def FnExactUsersOfSaid : Prop := fnExactUsersOfRow.holds Try.pinned (OpenSpec.ofChange fnExactUsersOfSpec)

/-- ITS FALSE NEIGHBOUR: 'it returns false'. Refute it at one input. -/
def fnExactUsersOfWrong : ChangeSpec := { name := "fnExactUsersOf", fn := fun _ => fun
  | [d1, d2] => { results := [.lit (.bool false)], args := [d1, d2] }
  | _ => none }
def FnExactUsersOfWrongFalsely : Prop := fnExactUsersOfRow.holds Try.pinned (OpenSpec.ofChange fnExactUsersOfWrong)

/-- 'laws.FnExactPartNew': WHATEVER THE INPUT: true; the input reads as it did. -/
def fnExactPartNewSpec : ChangeSpec := { name := "fnExactPartNew", fn := fun _ => fun
  | [d] => { results := [.lit (.bool true)], args := [d] }
  | _ => none }
def fnExactPartNewRow : OpenClaim := { program := "ytakcojednmlheaa", sum := "ac27aea3ceca7a47f91b274a245b0a393952f95ebbe1e740d6580d877a810e15", func := "loop.example/g00969/laws.FnExactPartNew", spec := "fnExactPartNew", apart := false }
def FnExactPartNewSaid : Prop := fnExactPartNewRow.holds Try.pinned (OpenSpec.ofChange fnExactPartNewSpec)

/-- ITS FALSE NEIGHBOUR: 'it returns false'. Refute it at one input. -/
def fnExactPartNewWrong : ChangeSpec := { name := "fnExactPartNew", fn := fun _ => fun
  | [d] => { results := [.lit (.bool false)], args := [d] }
  | _ => none }
def FnExactPartNewWrongFalsely : Prop := fnExactPartNewRow.holds Try.pinned (OpenSpec.ofChange fnExactPartNewWrong)

/-- 'laws.FnExactWithoutEntry': WHATEVER THE INPUT: true; the input reads as it did. -/
def fnExactWithoutEntrySpec : ChangeSpec := { name := "fnExactWithoutEntry", fn := fun _ => fun
  | [d1, d2] => { results := [.lit (.bool true)], args := [d1, d2] }
  | _ => none }
def fnExactWithoutEntryRow : OpenClaim := { program := "ytakcojednmlheaa", sum := "ac27aea3ceca7a47f91b274a245b0a393952f95ebbe1e740d6580d877a810e15", func := "loop.example/g00969/laws.FnExactWithoutEntry", spec := "fnExactWithoutEntry", unfollowed := true, recurses := true, apart := false }
def FnExactWithoutEntrySaid : Prop := fnExactWithoutEntryRow.holds Try.pinned (OpenSpec.ofChange fnExactWithoutEntrySpec)

/-- ITS FALSE NEIGHBOUR: 'it returns false'. Refute it at one input. -/
def fnExactWithoutEntryWrong : ChangeSpec := { name := "fnExactWithoutEntry", fn := fun _ => fun
  | [d1, d2] => { results := [.lit (.bool false)], args := [d1, d2] }
  | _ => none }
def FnExactWithoutEntryWrongFalsely : Prop := fnExactWithoutEntryRow.holds Try.pinned (OpenSpec.ofChange fnExactWithoutEntryWrong)

/-- 'laws.FnExactPutItem': WHATEVER THE INPUT: true; the input reads as it did. -/
def fnExactPutItemSpec : ChangeSpec := { name := "fnExactPutItem", fn := fun _ => fun
  | [d1, d2] => { results := [.lit (.bool true)], args := [d1, d2] }
  | _ => none }
def fnExactPutItemRow : OpenClaim := { program := "ytakcojednmlheaa", sum := "ac27aea3ceca7a47f91b274a245b0a393952f95ebbe1e740d6580d877a810e15", func := "loop.example/g00969/laws.FnExactPutItem", spec := "fnExactPutItem", inPlace := ["slices.overlaps[loop.example/g00969/impl.Item]"], unfollowed := true, recurses := true, apart := false }
def FnExactPutItemSaid : Prop := fnExactPutItemRow.holds Try.pinned (OpenSpec.ofChange fnExactPutItemSpec)

/-- ITS FALSE NEIGHBOUR: 'it returns false'. Refute it at one input. -/
def fnExactPutItemWrong : ChangeSpec := { name := "fnExactPutItem", fn := fun _ => fun
  | [d1, d2] => { results := [.lit (.bool false)], args := [d1, d2] }
  | _ => none }
def FnExactPutItemWrongFalsely : Prop := fnExactPutItemRow.holds Try.pinned (OpenSpec.ofChange fnExactPutItemWrong)

/-- 'laws.FnExactDepthOf': WHATEVER THE INPUT: true; the input reads as it did. -/
def fnExactDepthOfSpec : ChangeSpec := { name := "fnExactDepthOf", fn := fun _ => fun
  | [d1, d2] => { results := [.lit (.bool true)], args := [d1, d2] }
  | _ => none }
def fnExactDepthOfRow : OpenClaim := { program := "ytakcojednmlheaa", sum := "ac27aea3ceca7a47f91b274a245b0a393952f95ebbe1e740d6580d877a810e15", func := "loop.example/g00969/laws.FnExactDepthOf", spec := "fnExactDepthOf", apart := false }
def FnExactDepthOfSaid : Prop := fnExactDepthOfRow.holds Try.pinned (OpenSpec.ofChange fnExactDepthOfSpec)

/-- ITS FALSE NEIGHBOUR: 'it returns false'. Refute it at one input. -/
def fnExactDepthOfWrong : ChangeSpec := { name := "fnExactDepthOf", fn := fun _ => fun
  | [d1, d2] => { results := [.lit (.bool false)], args := [d1, d2] }
  | _ => none }
def FnExactDepthOfWrongFalsely : Prop := fnExactDepthOfRow.holds Try.pinned (OpenSpec.ofChange fnExactDepthOfWrong)

/- THE SECOND FORM. 'bulk': how many values and letters a reading holds, each counted each time it is reached (what is shared counts as often as it is met; a slice's spare places count too). A statement '..UptoSaid' is the law's where the arguments, and the package variables that the reading takes, are together of bulk at most 1048576: NARROWER than '..Said'. Prove '..Said' where nothing that the law and all that it calls make is longer than what came in: it says more and counts as full. Else prove '..UptoSaid'. A law counts once. -/
mutual
def uptoBulk {H : Type} : DataW H → Nat
  | .lit (.string bytes) => bytes.length + 1
  | .lit _ => 1
  | .nil => 1
  | .ptr d => uptoBulk d + 1
  | .slice elems spare => uptoBulkAll elems + uptoBulkAll spare + 1
  | .agg parts => uptoBulkAll parts + 1
  | .iface _ d => uptoBulk d + 1
  | .map entries => uptoBulkEntries entries + 1
  | .held _ => 1
def uptoBulkAll {H : Type} : List (DataW H) → Nat
  | [] => 0
  | d :: r => uptoBulk d + uptoBulkAll r
def uptoBulkEntries {H : Type} : List (Lit × DataW H) → Nat
  | [] => 0
  | x :: r => uptoBulkEntry x + uptoBulkEntries r
def uptoBulkEntry {H : Type} : Lit × DataW H → Nat
  | (.string bytes, d) => bytes.length + uptoBulk d + 1
  | (_, d) => uptoBulk d + 1
 end
def uptoSmall : (H : Type) → List (DataW H) → Bool := fun _ ds => decide (uptoBulkAll ds ≤ 1048576)
def OpenSpec.upto (s : _root_.Go.ChangeSpec) : _root_.Go.OpenSpec := { _root_.Go.OpenSpec.ofChange s with cond := some uptoSmall }

/-- 'laws.FnExactTextWith', WHERE WHAT IT READS IS OF BULK AT MOST 1048576: true; the input reads as it did. -/
def fnExactTextWithUptoRow : OpenClaim := { program := "ytakcojednmlheaa", sum := "ac27aea3ceca7a47f91b274a245b0a393952f95ebbe1e740d6580d877a810e15", func := "loop.example/g00969/laws.FnExactTextWith", spec := "fnExactTextWith", inPlace := ["internal/abi.NoEscape", "internal/bytealg.MakeNoZero"], apart := false, narrowed := true }
def FnExactTextWithUptoSaid : Prop := fnExactTextWithUptoRow.holds Try.pinned (OpenSpec.upto fnExactTextWithSpec)

/-- 'laws.FnExactPageOf', WHERE WHAT IT READS IS OF BULK AT MOST 1048576: true; the input reads as it did. -/
def fnExactPageOfUptoRow : OpenClaim := { program := "ytakcojednmlheaa", sum := "ac27aea3ceca7a47f91b274a245b0a393952f95ebbe1e740d6580d877a810e15", func := "loop.example/g00969/laws.FnExactPageOf", spec := "fnExactPageOf", inPlace := ["internal/abi.NoEscape", "internal/bytealg.MakeNoZero"], apart := false, narrowed := true }
def FnExactPageOfUptoSaid : Prop := fnExactPageOfUptoRow.holds Try.pinned (OpenSpec.upto fnExactPageOfSpec)

/-- 'laws.FnExactSerialWord', WHERE WHAT IT READS IS OF BULK AT MOST 1048576: true; the input reads as it did. -/
def fnExactSerialWordUptoRow : OpenClaim := { program := "ytakcojednmlheaa", sum := "ac27aea3ceca7a47f91b274a245b0a393952f95ebbe1e740d6580d877a810e15", func := "loop.example/g00969/laws.FnExactSerialWord", spec := "fnExactSerialWord", inPlace := ["internal/abi.NoEscape", "internal/bytealg.MakeNoZero"], apart := false, narrowed := true }
def FnExactSerialWordUptoSaid : Prop := fnExactSerialWordUptoRow.holds Try.pinned (OpenSpec.upto fnExactSerialWordSpec)

/-- 'laws.FnExactStatesWords', WHERE WHAT IT READS IS OF BULK AT MOST 1048576: true; the input reads as it did. -/
def fnExactStatesWordsUptoRow : OpenClaim := { program := "ytakcojednmlheaa", sum := "ac27aea3ceca7a47f91b274a245b0a393952f95ebbe1e740d6580d877a810e15", func := "loop.example/g00969/laws.FnExactStatesWords", spec := "fnExactStatesWords", inPlace := ["internal/abi.NoEscape", "internal/bytealg.MakeNoZero"], unfollowed := true, recurses := true, apart := false, narrowed := true }
def FnExactStatesWordsUptoSaid : Prop := fnExactStatesWordsUptoRow.holds Try.pinned (OpenSpec.upto fnExactStatesWordsSpec)

/-- 'laws.FnExactFreeInode', WHERE WHAT IT READS IS OF BULK AT MOST 1048576: true; the input reads as it did. -/
def fnExactFreeInodeUptoRow : OpenClaim := { program := "ytakcojednmlheaa", sum := "ac27aea3ceca7a47f91b274a245b0a393952f95ebbe1e740d6580d877a810e15", func := "loop.example/g00969/laws.FnExactFreeInode", spec := "fnExactFreeInode", apart := false, narrowed := true }
def FnExactFreeInodeUptoSaid : Prop := fnExactFreeInodeUptoRow.holds Try.pinned (OpenSpec.upto fnExactFreeInodeSpec)

/-- 'laws.FnExactLinksTo', WHERE WHAT IT READS IS OF BULK AT MOST 1048576: true; the input reads as it did. -/
def fnExactLinksToUptoRow : OpenClaim := { program := "ytakcojednmlheaa", sum := "ac27aea3ceca7a47f91b274a245b0a393952f95ebbe1e740d6580d877a810e15", func := "loop.example/g00969/laws.FnExactLinksTo", spec := "fnExactLinksTo", apart := false, narrowed := true }
def FnExactLinksToUptoSaid : Prop := fnExactLinksToUptoRow.holds Try.pinned (OpenSpec.upto fnExactLinksToSpec)

/-- 'laws.FnExactUsersOf', WHERE WHAT IT READS IS OF BULK AT MOST 1048576: true; the input reads as it did. -/
def fnExactUsersOfUptoRow : OpenClaim := { program := "ytakcojednmlheaa", sum := "ac27aea3ceca7a47f91b274a245b0a393952f95ebbe1e740d6580d877a810e15", func := "loop.example/g00969/laws.FnExactUsersOf", spec := "fnExactUsersOf", apart := false, narrowed := true }
def FnExactUsersOfUptoSaid : Prop := fnExactUsersOfUptoRow.holds Try.pinned (OpenSpec.upto fnExactUsersOfSpec)

/-- 'laws.FnExactPartNew', WHERE WHAT IT READS IS OF BULK AT MOST 1048576: true; the input reads as it did. -/
def fnExactPartNewUptoRow : OpenClaim := { program := "ytakcojednmlheaa", sum := "ac27aea3ceca7a47f91b274a245b0a393952f95ebbe1e740d6580d877a810e15", func := "loop.example/g00969/laws.FnExactPartNew", spec := "fnExactPartNew", apart := false, narrowed := true }
def FnExactPartNewUptoSaid : Prop := fnExactPartNewUptoRow.holds Try.pinned (OpenSpec.upto fnExactPartNewSpec)

/-- 'laws.FnExactWithoutEntry', WHERE WHAT IT READS IS OF BULK AT MOST 1048576: true; the input reads as it did. -/
def fnExactWithoutEntryUptoRow : OpenClaim := { program := "ytakcojednmlheaa", sum := "ac27aea3ceca7a47f91b274a245b0a393952f95ebbe1e740d6580d877a810e15", func := "loop.example/g00969/laws.FnExactWithoutEntry", spec := "fnExactWithoutEntry", unfollowed := true, recurses := true, apart := false, narrowed := true }
def FnExactWithoutEntryUptoSaid : Prop := fnExactWithoutEntryUptoRow.holds Try.pinned (OpenSpec.upto fnExactWithoutEntrySpec)

/-- 'laws.FnExactPutItem', WHERE WHAT IT READS IS OF BULK AT MOST 1048576: true; the input reads as it did. -/
def fnExactPutItemUptoRow : OpenClaim := { program := "ytakcojednmlheaa", sum := "ac27aea3ceca7a47f91b274a245b0a393952f95ebbe1e740d6580d877a810e15", func := "loop.example/g00969/laws.FnExactPutItem", spec := "fnExactPutItem", inPlace := ["slices.overlaps[loop.example/g00969/impl.Item]"], unfollowed := true, recurses := true, apart := false, narrowed := true }
def FnExactPutItemUptoSaid : Prop := fnExactPutItemUptoRow.holds Try.pinned (OpenSpec.upto fnExactPutItemSpec)

/-- 'laws.FnExactDepthOf', WHERE WHAT IT READS IS OF BULK AT MOST 1048576: true; the input reads as it did. -/
def fnExactDepthOfUptoRow : OpenClaim := { program := "ytakcojednmlheaa", sum := "ac27aea3ceca7a47f91b274a245b0a393952f95ebbe1e740d6580d877a810e15", func := "loop.example/g00969/laws.FnExactDepthOf", spec := "fnExactDepthOf", apart := false, narrowed := true }
def FnExactDepthOfUptoSaid : Prop := fnExactDepthOfUptoRow.holds Try.pinned (OpenSpec.upto fnExactDepthOfSpec)

end Rows
end Go.Proofs.Ytakcojednmlheaa
