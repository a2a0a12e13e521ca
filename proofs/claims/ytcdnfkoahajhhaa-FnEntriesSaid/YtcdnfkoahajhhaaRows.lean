/-
  No cell of these rows narrows 'for every input' (looked for: loops, veiled, ifaces, maps, wideKeys, modest, calm, conditions, laid).
  DERIVED. THE GIVEN ROWS OF THIS SEAT. 12 by the template 'for every input the law returns true; each argument reads behind the call as it read before'; 0 by the template 'total and deterministic' (their statements: YtcdnfkoahajhhaaTotals.lean).
  GIVEN WITH THE SEED: the statements are not yours to turn. If you find one false, say at which input.
  Laid BY PROGRAM, IN A SANDBOX (cutbox-rows.mjs): the forced cells as the released guide's own fill.sh prints them over the translation 0131cb563083f5ee… (all of the seat's roots in one cut). By AI agents, Wed Nov 11 2026. No macro, syntax, notation, axiom, sorry.
-/
import Derived.Test.YtcdnfkoahajhhaaChecked
import GoSem.Claim
import GoSem.ClaimJoined
import GoSem.ClaimMapViews
import Derived.JoinedTies
import Derived.KernelRfl
namespace Go.Proofs.Ytcdnfkoahajhhaa
/- THE CELL 'sum', in the pinned program and in every row, IS THE sha256 OF THE DUMP (.gsa) THAT YtcdnfkoahajhhaaProg.lean LOADS. Nothing in Lean hashes anything: it is a label: what it is worth is what the hold of that sum in a sandbox is worth. -/
noncomputable def Try.pinned : Pinned := { name := "ytcdnfkoahajhhaa", sum := "0131cb563083f5ee8d3f8e8e57ea24e02c224e462a0bd50e88198eb72534e64c", checked := Try.checked }
namespace Rows
def none {H : Type} : Left H := { results := [], args := [] }

/-- 'laws.FnExactDropItem': WHATEVER THE INPUT: true; the input reads as it did. -/
def fnExactDropItemSpec : ChangeSpec := { name := "fnExactDropItem", fn := fun _ => fun
  | [d1, d2] => { results := [.lit (.bool true)], args := [d1, d2] }
  | _ => none }
def fnExactDropItemRow : OpenClaim := { program := "ytcdnfkoahajhhaa", sum := "0131cb563083f5ee8d3f8e8e57ea24e02c224e462a0bd50e88198eb72534e64c", func := "loop.example/g00969/laws.FnExactDropItem", spec := "fnExactDropItem", unfollowed := true, recurses := true, apart := false }
def FnExactDropItemSaid : Prop := fnExactDropItemRow.holds Try.pinned (OpenSpec.ofChange fnExactDropItemSpec)

/-- ITS FALSE NEIGHBOUR: 'it returns false'. Refute it at one input. -/
def fnExactDropItemWrong : ChangeSpec := { name := "fnExactDropItem", fn := fun _ => fun
  | [d1, d2] => { results := [.lit (.bool false)], args := [d1, d2] }
  | _ => none }
def FnExactDropItemWrongFalsely : Prop := fnExactDropItemRow.holds Try.pinned (OpenSpec.ofChange fnExactDropItemWrong)

/-- 'laws.FnExactPutItem': WHATEVER THE INPUT: true; the input reads as it did. -/
def fnExactPutItemSpec : ChangeSpec := { name := "fnExactPutItem", fn := fun _ => fun
  | [d1, d2] => { results := [.lit (.bool true)], args := [d1, d2] }
  | _ => none }
def fnExactPutItemRow : OpenClaim := { program := "ytcdnfkoahajhhaa", sum := "0131cb563083f5ee8d3f8e8e57ea24e02c224e462a0bd50e88198eb72534e64c", func := "loop.example/g00969/laws.FnExactPutItem", spec := "fnExactPutItem", inPlace := ["slices.overlaps[loop.example/g00969/impl.Item]"], unfollowed := true, recurses := true, apart := false }
def FnExactPutItemSaid : Prop := fnExactPutItemRow.holds Try.pinned (OpenSpec.ofChange fnExactPutItemSpec)

/-- ITS FALSE NEIGHBOUR: 'it returns false'. Refute it at one input. -/
def fnExactPutItemWrong : ChangeSpec := { name := "fnExactPutItem", fn := fun _ => fun
  | [d1, d2] => { results := [.lit (.bool false)], args := [d1, d2] }
  | _ => none }
def FnExactPutItemWrongFalsely : Prop := fnExactPutItemRow.holds Try.pinned (OpenSpec.ofChange fnExactPutItemWrong)

/-- 'laws.FnExactWithoutEntry': WHATEVER THE INPUT: true; the input reads as it did. -/
def fnExactWithoutEntrySpec : ChangeSpec := { name := "fnExactWithoutEntry", fn := fun _ => fun
  | [d1, d2] => { results := [.lit (.bool true)], args := [d1, d2] }
  | _ => none }
def fnExactWithoutEntryRow : OpenClaim := { program := "ytcdnfkoahajhhaa", sum := "0131cb563083f5ee8d3f8e8e57ea24e02c224e462a0bd50e88198eb72534e64c", func := "loop.example/g00969/laws.FnExactWithoutEntry", spec := "fnExactWithoutEntry", unfollowed := true, recurses := true, apart := false }
def FnExactWithoutEntrySaid : Prop := fnExactWithoutEntryRow.holds Try.pinned (OpenSpec.ofChange fnExactWithoutEntrySpec)

/-- ITS FALSE NEIGHBOUR: 'it returns false'. Refute it at one input. -/
def fnExactWithoutEntryWrong : ChangeSpec := { name := "fnExactWithoutEntry", fn := fun _ => fun
  | [d1, d2] => { results := [.lit (.bool false)], args := [d1, d2] }
  | _ => none }
def FnExactWithoutEntryWrongFalsely : Prop := fnExactWithoutEntryRow.holds Try.pinned (OpenSpec.ofChange fnExactWithoutEntryWrong)

/-- 'laws.FnExactWithEntry': WHATEVER THE INPUT: true; the input reads as it did. -/
def fnExactWithEntrySpec : ChangeSpec := { name := "fnExactWithEntry", fn := fun _ => fun
  | [d1, d2] => { results := [.lit (.bool true)], args := [d1, d2] }
  | _ => none }
def fnExactWithEntryRow : OpenClaim := { program := "ytcdnfkoahajhhaa", sum := "0131cb563083f5ee8d3f8e8e57ea24e02c224e462a0bd50e88198eb72534e64c", func := "loop.example/g00969/laws.FnExactWithEntry", spec := "fnExactWithEntry", inPlace := ["slices.overlaps[loop.example/g00969/impl.Entry]"], unfollowed := true, recurses := true, apart := false }
def FnExactWithEntrySaid : Prop := fnExactWithEntryRow.holds Try.pinned (OpenSpec.ofChange fnExactWithEntrySpec)

/-- ITS FALSE NEIGHBOUR: 'it returns false'. Refute it at one input. -/
def fnExactWithEntryWrong : ChangeSpec := { name := "fnExactWithEntry", fn := fun _ => fun
  | [d1, d2] => { results := [.lit (.bool false)], args := [d1, d2] }
  | _ => none }
def FnExactWithEntryWrongFalsely : Prop := fnExactWithEntryRow.holds Try.pinned (OpenSpec.ofChange fnExactWithEntryWrong)

/-- 'laws.FnEntries': WHATEVER THE INPUT: true; the input reads as it did. -/
def fnEntriesSpec : ChangeSpec := { name := "fnEntries", fn := fun _ => fun
  | [d] => { results := [.lit (.bool true)], args := [d] }
  | _ => none }
def fnEntriesRow : OpenClaim := { program := "ytcdnfkoahajhhaa", sum := "0131cb563083f5ee8d3f8e8e57ea24e02c224e462a0bd50e88198eb72534e64c", func := "loop.example/g00969/laws.FnEntries", spec := "fnEntries", inPlace := ["slices.overlaps[loop.example/g00969/impl.Entry]"], unfollowed := true, recurses := true, apart := false }
def FnEntriesSaid : Prop := fnEntriesRow.holds Try.pinned (OpenSpec.ofChange fnEntriesSpec)

/-- ITS FALSE NEIGHBOUR: 'it returns false'. Refute it at one input. -/
def fnEntriesWrong : ChangeSpec := { name := "fnEntries", fn := fun _ => fun
  | [d] => { results := [.lit (.bool false)], args := [d] }
  | _ => none }
def FnEntriesWrongFalsely : Prop := fnEntriesRow.holds Try.pinned (OpenSpec.ofChange fnEntriesWrong)

/-- 'laws.FnViews': WHATEVER THE INPUT: true; the input reads as it did. -/
def fnViewsSpec : ChangeSpec := { name := "fnViews", fn := fun _ => fun
  | [d] => { results := [.lit (.bool true)], args := [d] }
  | _ => none }
def fnViewsRow : OpenClaim := { program := "ytcdnfkoahajhhaa", sum := "0131cb563083f5ee8d3f8e8e57ea24e02c224e462a0bd50e88198eb72534e64c", func := "loop.example/g00969/laws.FnViews", spec := "fnViews", inPlace := ["slices.overlaps[loop.example/g00969/impl.Item]"], unfollowed := true, recurses := true, apart := false }
def FnViewsSaid : Prop := fnViewsRow.holds Try.pinned (OpenSpec.ofChange fnViewsSpec)

/-- ITS FALSE NEIGHBOUR: 'it returns false'. Refute it at one input. -/
def fnViewsWrong : ChangeSpec := { name := "fnViews", fn := fun _ => fun
  | [d] => { results := [.lit (.bool false)], args := [d] }
  | _ => none }
def FnViewsWrongFalsely : Prop := fnViewsRow.holds Try.pinned (OpenSpec.ofChange fnViewsWrong)

/-- 'laws.FnExactPartNew': WHATEVER THE INPUT: true; the input reads as it did. -/
def fnExactPartNewSpec : ChangeSpec := { name := "fnExactPartNew", fn := fun _ => fun
  | [d] => { results := [.lit (.bool true)], args := [d] }
  | _ => none }
def fnExactPartNewRow : OpenClaim := { program := "ytcdnfkoahajhhaa", sum := "0131cb563083f5ee8d3f8e8e57ea24e02c224e462a0bd50e88198eb72534e64c", func := "loop.example/g00969/laws.FnExactPartNew", spec := "fnExactPartNew", apart := false }
def FnExactPartNewSaid : Prop := fnExactPartNewRow.holds Try.pinned (OpenSpec.ofChange fnExactPartNewSpec)

/-- ITS FALSE NEIGHBOUR: 'it returns false'. Refute it at one input. -/
def fnExactPartNewWrong : ChangeSpec := { name := "fnExactPartNew", fn := fun _ => fun
  | [d] => { results := [.lit (.bool false)], args := [d] }
  | _ => none }
def FnExactPartNewWrongFalsely : Prop := fnExactPartNewRow.holds Try.pinned (OpenSpec.ofChange fnExactPartNewWrong)

/-- 'laws.FnExactFits': WHATEVER THE INPUT: true; the input reads as it did. -/
def fnExactFitsSpec : ChangeSpec := { name := "fnExactFits", fn := fun _ => fun
  | [d1, d2] => { results := [.lit (.bool true)], args := [d1, d2] }
  | _ => none }
def fnExactFitsRow : OpenClaim := { program := "ytcdnfkoahajhhaa", sum := "0131cb563083f5ee8d3f8e8e57ea24e02c224e462a0bd50e88198eb72534e64c", func := "loop.example/g00969/laws.FnExactFits", spec := "fnExactFits", inPlace := ["internal/abi.NoEscape", "internal/bytealg.MakeNoZero"], unfollowed := true, recurses := true, apart := false }
def FnExactFitsSaid : Prop := fnExactFitsRow.holds Try.pinned (OpenSpec.ofChange fnExactFitsSpec)

/-- ITS FALSE NEIGHBOUR: 'it returns false'. Refute it at one input. -/
def fnExactFitsWrong : ChangeSpec := { name := "fnExactFits", fn := fun _ => fun
  | [d1, d2] => { results := [.lit (.bool false)], args := [d1, d2] }
  | _ => none }
def FnExactFitsWrongFalsely : Prop := fnExactFitsRow.holds Try.pinned (OpenSpec.ofChange fnExactFitsWrong)

/-- 'laws.FnStates': WHATEVER THE INPUT: true; the input reads as it did. -/
def fnStatesSpec : ChangeSpec := { name := "fnStates", fn := fun _ => fun
  | [d] => { results := [.lit (.bool true)], args := [d] }
  | _ => none }
def fnStatesRow : OpenClaim := { program := "ytcdnfkoahajhhaa", sum := "0131cb563083f5ee8d3f8e8e57ea24e02c224e462a0bd50e88198eb72534e64c", func := "loop.example/g00969/laws.FnStates", spec := "fnStates", inPlace := ["internal/abi.NoEscape", "internal/bytealg.MakeNoZero"], unfollowed := true, recurses := true, apart := false }
def FnStatesSaid : Prop := fnStatesRow.holds Try.pinned (OpenSpec.ofChange fnStatesSpec)

/-- ITS FALSE NEIGHBOUR: 'it returns false'. Refute it at one input. -/
def fnStatesWrong : ChangeSpec := { name := "fnStates", fn := fun _ => fun
  | [d] => { results := [.lit (.bool false)], args := [d] }
  | _ => none }
def FnStatesWrongFalsely : Prop := fnStatesRow.holds Try.pinned (OpenSpec.ofChange fnStatesWrong)

/-- 'laws.FnExactInodeWords': WHATEVER THE INPUT: true; the input reads as it did. -/
def fnExactInodeWordsSpec : ChangeSpec := { name := "fnExactInodeWords", fn := fun _ => fun
  | [d] => { results := [.lit (.bool true)], args := [d] }
  | _ => none }
def fnExactInodeWordsRow : OpenClaim := { program := "ytcdnfkoahajhhaa", sum := "0131cb563083f5ee8d3f8e8e57ea24e02c224e462a0bd50e88198eb72534e64c", func := "loop.example/g00969/laws.FnExactInodeWords", spec := "fnExactInodeWords", inPlace := ["internal/abi.NoEscape", "internal/bytealg.MakeNoZero"], unfollowed := true, recurses := true, apart := false }
def FnExactInodeWordsSaid : Prop := fnExactInodeWordsRow.holds Try.pinned (OpenSpec.ofChange fnExactInodeWordsSpec)

/-- ITS FALSE NEIGHBOUR: 'it returns false'. Refute it at one input. -/
def fnExactInodeWordsWrong : ChangeSpec := { name := "fnExactInodeWords", fn := fun _ => fun
  | [d] => { results := [.lit (.bool false)], args := [d] }
  | _ => none }
def FnExactInodeWordsWrongFalsely : Prop := fnExactInodeWordsRow.holds Try.pinned (OpenSpec.ofChange fnExactInodeWordsWrong)

/-- 'laws.FnExactCleanOk': WHATEVER THE INPUT: true; the input reads as it did. -/
def fnExactCleanOkSpec : ChangeSpec := { name := "fnExactCleanOk", fn := fun _ => fun
  | [d1, d2, d3, d4] => { results := [.lit (.bool true)], args := [d1, d2, d3, d4] }
  | _ => none }
def fnExactCleanOkRow : OpenClaim := { program := "ytcdnfkoahajhhaa", sum := "0131cb563083f5ee8d3f8e8e57ea24e02c224e462a0bd50e88198eb72534e64c", func := "loop.example/g00969/laws.FnExactCleanOk", spec := "fnExactCleanOk", inPlace := ["internal/abi.NoEscape", "internal/bytealg.MakeNoZero"], unfollowed := true, recurses := true, apart := false }
def FnExactCleanOkSaid : Prop := fnExactCleanOkRow.holds Try.pinned (OpenSpec.ofChange fnExactCleanOkSpec)

/-- ITS FALSE NEIGHBOUR: 'it returns false'. Refute it at one input. -/
def fnExactCleanOkWrong : ChangeSpec := { name := "fnExactCleanOk", fn := fun _ => fun
  | [d1, d2, d3, d4] => { results := [.lit (.bool false)], args := [d1, d2, d3, d4] }
  | _ => none }
def FnExactCleanOkWrongFalsely : Prop := fnExactCleanOkRow.holds Try.pinned (OpenSpec.ofChange fnExactCleanOkWrong)

/-- 'laws.FnExactPartOk': WHATEVER THE INPUT: true; the input reads as it did. -/
def fnExactPartOkSpec : ChangeSpec := { name := "fnExactPartOk", fn := fun _ => fun
  | [d1, d2] => { results := [.lit (.bool true)], args := [d1, d2] }
  | _ => none }
def fnExactPartOkRow : OpenClaim := { program := "ytcdnfkoahajhhaa", sum := "0131cb563083f5ee8d3f8e8e57ea24e02c224e462a0bd50e88198eb72534e64c", func := "loop.example/g00969/laws.FnExactPartOk", spec := "fnExactPartOk", inPlace := ["internal/abi.NoEscape", "internal/bytealg.MakeNoZero"], unfollowed := true, recurses := true, apart := false }
def FnExactPartOkSaid : Prop := fnExactPartOkRow.holds Try.pinned (OpenSpec.ofChange fnExactPartOkSpec)

/-- ITS FALSE NEIGHBOUR: 'it returns false'. Refute it at one input. -/
def fnExactPartOkWrong : ChangeSpec := { name := "fnExactPartOk", fn := fun _ => fun
  | [d1, d2] => { results := [.lit (.bool false)], args := [d1, d2] }
  | _ => none }
def FnExactPartOkWrongFalsely : Prop := fnExactPartOkRow.holds Try.pinned (OpenSpec.ofChange fnExactPartOkWrong)

/- THE SECOND FORM. 'bulk': how many values and letters a reading holds, each counted each time it is reached (what is shared counts as often as it is met; a slice's spare places count too). A statement '..UptoSaid' is the law's where the arguments, and the package variables that the reading takes, are together of bulk at most 1048576: NARROWER than '..Said'. Prove '..Said' where nothing that the law and all that it calls make is longer than what came in: it says more and counts as full. Else prove '..UptoSaid'. A law counts once. -/
mutual
def uptoBulk {H : Type} : DataW H → Nat
  | .lit (.string bytes) => bytes.length + 1
  | .lit _ => 1
  | .nil => 1
  | .ptr d => uptoBulk d + 1
  | .slice elems spare => uptoBulkAll elems + uptoBulkAll spare + 1
  | .agg parts => uptoBulkAll parts + 1
  | .iface _ d => uptoBulk d + 1
  | .map entries => uptoBulkEntries entries + 1
  | .held _ => 1
def uptoBulkAll {H : Type} : List (DataW H) → Nat
  | [] => 0
  | d :: r => uptoBulk d + uptoBulkAll r
def uptoBulkEntries {H : Type} : List (Lit × DataW H) → Nat
  | [] => 0
  | x :: r => uptoBulkEntry x + uptoBulkEntries r
def uptoBulkEntry {H : Type} : Lit × DataW H → Nat
  | (.string bytes, d) => bytes.length + uptoBulk d + 1
  | (_, d) => uptoBulk d + 1
 end
def uptoSmall : (H : Type) → List (DataW H) → Bool := fun _ ds => decide (uptoBulkAll ds ≤ 1048576)
def OpenSpec.upto (s : _root_.Go.ChangeSpec) : _root_.Go.OpenSpec := { _root_.Go.OpenSpec.ofChange s with cond := some uptoSmall }

/-- 'laws.FnExactDropItem', WHERE WHAT IT READS IS OF BULK AT MOST 1048576: true; the input reads as it did. -/
def fnExactDropItemUptoRow : OpenClaim := { program := "ytcdnfkoahajhhaa", sum := "0131cb563083f5ee8d3f8e8e57ea24e02c224e462a0bd50e88198eb72534e64c", func := "loop.example/g00969/laws.FnExactDropItem", spec := "fnExactDropItem", unfollowed := true, recurses := true, apart := false, narrowed := true }
def FnExactDropItemUptoSaid : Prop := fnExactDropItemUptoRow.holds Try.pinned (OpenSpec.upto fnExactDropItemSpec)

/-- 'laws.FnExactPutItem', WHERE WHAT IT READS IS OF BULK AT MOST 1048576: true; the input reads as it did. -/
def fnExactPutItemUptoRow : OpenClaim := { program := "ytcdnfkoahajhhaa", sum := "0131cb563083f5ee8d3f8e8e57ea24e02c224e462a0bd50e88198eb72534e64c", func := "loop.example/g00969/laws.FnExactPutItem", spec := "fnExactPutItem", inPlace := ["slices.overlaps[loop.example/g00969/impl.Item]"], unfollowed := true, recurses := true, apart := false, narrowed := true }
def FnExactPutItemUptoSaid : Prop := fnExactPutItemUptoRow.holds Try.pinned (OpenSpec.upto fnExactPutItemSpec)

/-- 'laws.FnExactWithoutEntry', WHERE WHAT IT READS IS OF BULK AT MOST 1048576: true; the input reads as it did. -/
def fnExactWithoutEntryUptoRow : OpenClaim := { program := "ytcdnfkoahajhhaa", sum := "0131cb563083f5ee8d3f8e8e57ea24e02c224e462a0bd50e88198eb72534e64c", func := "loop.example/g00969/laws.FnExactWithoutEntry", spec := "fnExactWithoutEntry", unfollowed := true, recurses := true, apart := false, narrowed := true }
def FnExactWithoutEntryUptoSaid : Prop := fnExactWithoutEntryUptoRow.holds Try.pinned (OpenSpec.upto fnExactWithoutEntrySpec)

/-- 'laws.FnExactWithEntry', WHERE WHAT IT READS IS OF BULK AT MOST 1048576: true; the input reads as it did. -/
def fnExactWithEntryUptoRow : OpenClaim := { program := "ytcdnfkoahajhhaa", sum := "0131cb563083f5ee8d3f8e8e57ea24e02c224e462a0bd50e88198eb72534e64c", func := "loop.example/g00969/laws.FnExactWithEntry", spec := "fnExactWithEntry", inPlace := ["slices.overlaps[loop.example/g00969/impl.Entry]"], unfollowed := true, recurses := true, apart := false, narrowed := true }
def FnExactWithEntryUptoSaid : Prop := fnExactWithEntryUptoRow.holds Try.pinned (OpenSpec.upto fnExactWithEntrySpec)

/-- 'laws.FnEntries', WHERE WHAT IT READS IS OF BULK AT MOST 1048576: true; the input reads as it did. -/
def fnEntriesUptoRow : OpenClaim := { program := "ytcdnfkoahajhhaa", sum := "0131cb563083f5ee8d3f8e8e57ea24e02c224e462a0bd50e88198eb72534e64c", func := "loop.example/g00969/laws.FnEntries", spec := "fnEntries", inPlace := ["slices.overlaps[loop.example/g00969/impl.Entry]"], unfollowed := true, recurses := true, apart := false, narrowed := true }
def FnEntriesUptoSaid : Prop := fnEntriesUptoRow.holds Try.pinned (OpenSpec.upto fnEntriesSpec)

/-- 'laws.FnViews', WHERE WHAT IT READS IS OF BULK AT MOST 1048576: true; the input reads as it did. -/
def fnViewsUptoRow : OpenClaim := { program := "ytcdnfkoahajhhaa", sum := "0131cb563083f5ee8d3f8e8e57ea24e02c224e462a0bd50e88198eb72534e64c", func := "loop.example/g00969/laws.FnViews", spec := "fnViews", inPlace := ["slices.overlaps[loop.example/g00969/impl.Item]"], unfollowed := true, recurses := true, apart := false, narrowed := true }
def FnViewsUptoSaid : Prop := fnViewsUptoRow.holds Try.pinned (OpenSpec.upto fnViewsSpec)

/-- 'laws.FnExactPartNew', WHERE WHAT IT READS IS OF BULK AT MOST 1048576: true; the input reads as it did. -/
def fnExactPartNewUptoRow : OpenClaim := { program := "ytcdnfkoahajhhaa", sum := "0131cb563083f5ee8d3f8e8e57ea24e02c224e462a0bd50e88198eb72534e64c", func := "loop.example/g00969/laws.FnExactPartNew", spec := "fnExactPartNew", apart := false, narrowed := true }
def FnExactPartNewUptoSaid : Prop := fnExactPartNewUptoRow.holds Try.pinned (OpenSpec.upto fnExactPartNewSpec)

/-- 'laws.FnExactFits', WHERE WHAT IT READS IS OF BULK AT MOST 1048576: true; the input reads as it did. -/
def fnExactFitsUptoRow : OpenClaim := { program := "ytcdnfkoahajhhaa", sum := "0131cb563083f5ee8d3f8e8e57ea24e02c224e462a0bd50e88198eb72534e64c", func := "loop.example/g00969/laws.FnExactFits", spec := "fnExactFits", inPlace := ["internal/abi.NoEscape", "internal/bytealg.MakeNoZero"], unfollowed := true, recurses := true, apart := false, narrowed := true }
def FnExactFitsUptoSaid : Prop := fnExactFitsUptoRow.holds Try.pinned (OpenSpec.upto fnExactFitsSpec)

/-- 'laws.FnStates', WHERE WHAT IT READS IS OF BULK AT MOST 1048576: true; the input reads as it did. -/
def fnStatesUptoRow : OpenClaim := { program := "ytcdnfkoahajhhaa", sum := "0131cb563083f5ee8d3f8e8e57ea24e02c224e462a0bd50e88198eb72534e64c", func := "loop.example/g00969/laws.FnStates", spec := "fnStates", inPlace := ["internal/abi.NoEscape", "internal/bytealg.MakeNoZero"], unfollowed := true, recurses := true, apart := false, narrowed := true }
def FnStatesUptoSaid : Prop := fnStatesUptoRow.holds Try.pinned (OpenSpec.upto fnStatesSpec)

/-- 'laws.FnExactInodeWords', WHERE WHAT IT READS IS OF BULK AT MOST 1048576: true; the input reads as it did. -/
def fnExactInodeWordsUptoRow : OpenClaim := { program := "ytcdnfkoahajhhaa", sum := "0131cb563083f5ee8d3f8e8e57ea24e02c224e462a0bd50e88198eb72534e64c", func := "loop.example/g00969/laws.FnExactInodeWords", spec := "fnExactInodeWords", inPlace := ["internal/abi.NoEscape", "internal/bytealg.MakeNoZero"], unfollowed := true, recurses := true, apart := false, narrowed := true }
def FnExactInodeWordsUptoSaid : Prop := fnExactInodeWordsUptoRow.holds Try.pinned (OpenSpec.upto fnExactInodeWordsSpec)

/-- 'laws.FnExactCleanOk', WHERE WHAT IT READS IS OF BULK AT MOST 1048576: true; the input reads as it did. -/
def fnExactCleanOkUptoRow : OpenClaim := { program := "ytcdnfkoahajhhaa", sum := "0131cb563083f5ee8d3f8e8e57ea24e02c224e462a0bd50e88198eb72534e64c", func := "loop.example/g00969/laws.FnExactCleanOk", spec := "fnExactCleanOk", inPlace := ["internal/abi.NoEscape", "internal/bytealg.MakeNoZero"], unfollowed := true, recurses := true, apart := false, narrowed := true }
def FnExactCleanOkUptoSaid : Prop := fnExactCleanOkUptoRow.holds Try.pinned (OpenSpec.upto fnExactCleanOkSpec)

/-- 'laws.FnExactPartOk', WHERE WHAT IT READS IS OF BULK AT MOST 1048576: true; the input reads as it did. -/
def fnExactPartOkUptoRow : OpenClaim := { program := "ytcdnfkoahajhhaa", sum := "0131cb563083f5ee8d3f8e8e57ea24e02c224e462a0bd50e88198eb72534e64c", func := "loop.example/g00969/laws.FnExactPartOk", spec := "fnExactPartOk", inPlace := ["internal/abi.NoEscape", "internal/bytealg.MakeNoZero"], unfollowed := true, recurses := true, apart := false, narrowed := true }
def FnExactPartOkUptoSaid : Prop := fnExactPartOkUptoRow.holds Try.pinned (OpenSpec.upto fnExactPartOkSpec)

end Rows
end Go.Proofs.Ytcdnfkoahajhhaa
