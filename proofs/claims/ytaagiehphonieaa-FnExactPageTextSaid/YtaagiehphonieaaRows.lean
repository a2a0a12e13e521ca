/-
  No cell of these rows narrows 'for every input' (looked for: loops, veiled, ifaces, maps, wideKeys, modest, calm, conditions, laid).
  DERIVED. THE GIVEN ROWS OF THIS SEAT. 7 by the template 'for every input the law returns true; each argument reads behind the call as it read before'; 0 by the template 'total and deterministic' (their statements: YtaagiehphonieaaTotals.lean).
  GIVEN WITH THE SEED: the statements are not yours to turn. If you find one false, say at which input.
  Laid BY PROGRAM, IN A SANDBOX (cutbox-rows.mjs): the forced cells as the released guide's own fill.sh prints them over the translation 71da46ce6b8ac0ce… (all of the seat's roots in one cut). By AI agents, Wed Nov 11 2026. No macro, syntax, notation, axiom, sorry.
-/
import Derived.Test.YtaagiehphonieaaChecked
import GoSem.Claim
import GoSem.ClaimJoined
import GoSem.ClaimMapViews
import Derived.JoinedTies
import Derived.KernelRfl
namespace Go.Proofs.Ytaagiehphonieaa
/- THE CELL 'sum', in the pinned program and in every row, IS THE sha256 OF THE DUMP (.gsa) THAT YtaagiehphonieaaProg.lean LOADS. Nothing in Lean hashes anything: it is a label: what it is worth is what the hold of that sum in a sandbox is worth. -/
noncomputable def Try.pinned : Pinned := { name := "ytaagiehphonieaa", sum := "71da46ce6b8ac0ced95997a93753d20dab58ce8c9bad175abafdeffc51f161ee", checked := Try.checked }
namespace Rows
def none {H : Type} : Left H := { results := [], args := [] }

/-- 'laws.FnExactReadStates': WHATEVER THE INPUT: true; the input reads as it did. -/
def fnExactReadStatesSpec : ChangeSpec := { name := "fnExactReadStates", fn := fun _ => fun
  | [d1, d2] => { results := [.lit (.bool true)], args := [d1, d2] }
  | _ => none }
def fnExactReadStatesRow : OpenClaim := { program := "ytaagiehphonieaa", sum := "71da46ce6b8ac0ced95997a93753d20dab58ce8c9bad175abafdeffc51f161ee", func := "loop.example/g00969/laws.FnExactReadStates", spec := "fnExactReadStates", inPlace := ["internal/abi.NoEscape", "internal/bytealg.MakeNoZero"], unfollowed := true, recurses := true, apart := false }
def FnExactReadStatesSaid : Prop := fnExactReadStatesRow.holds Try.pinned (OpenSpec.ofChange fnExactReadStatesSpec)

/-- ITS FALSE NEIGHBOUR: 'it returns false'. Refute it at one input. -/
def fnExactReadStatesWrong : ChangeSpec := { name := "fnExactReadStates", fn := fun _ => fun
  | [d1, d2] => { results := [.lit (.bool false)], args := [d1, d2] }
  | _ => none }
def FnExactReadStatesWrongFalsely : Prop := fnExactReadStatesRow.holds Try.pinned (OpenSpec.ofChange fnExactReadStatesWrong)

/-- 'laws.FnExactPageText': WHATEVER THE INPUT: true; the input reads as it did. -/
def fnExactPageTextSpec : ChangeSpec := { name := "fnExactPageText", fn := fun _ => fun
  | [d1, d2, d3, d4] => { results := [.lit (.bool true)], args := [d1, d2, d3, d4] }
  | _ => none }
def fnExactPageTextRow : OpenClaim := { program := "ytaagiehphonieaa", sum := "71da46ce6b8ac0ced95997a93753d20dab58ce8c9bad175abafdeffc51f161ee", func := "loop.example/g00969/laws.FnExactPageText", spec := "fnExactPageText", inPlace := ["internal/abi.NoEscape", "internal/bytealg.MakeNoZero"], unfollowed := true, recurses := true, apart := false }
def FnExactPageTextSaid : Prop := fnExactPageTextRow.holds Try.pinned (OpenSpec.ofChange fnExactPageTextSpec)

/-- ITS FALSE NEIGHBOUR: 'it returns false'. Refute it at one input. -/
def fnExactPageTextWrong : ChangeSpec := { name := "fnExactPageText", fn := fun _ => fun
  | [d1, d2, d3, d4] => { results := [.lit (.bool false)], args := [d1, d2, d3, d4] }
  | _ => none }
def FnExactPageTextWrongFalsely : Prop := fnExactPageTextRow.holds Try.pinned (OpenSpec.ofChange fnExactPageTextWrong)

/-- 'laws.FnExactPathTo': WHATEVER THE INPUT: true; the input reads as it did. -/
def fnExactPathToSpec : ChangeSpec := { name := "fnExactPathTo", fn := fun _ => fun
  | [d1, d2] => { results := [.lit (.bool true)], args := [d1, d2] }
  | _ => none }
def fnExactPathToRow : OpenClaim := { program := "ytaagiehphonieaa", sum := "71da46ce6b8ac0ced95997a93753d20dab58ce8c9bad175abafdeffc51f161ee", func := "loop.example/g00969/laws.FnExactPathTo", spec := "fnExactPathTo", inPlace := ["internal/abi.NoEscape", "internal/bytealg.MakeNoZero"], apart := false }
def FnExactPathToSaid : Prop := fnExactPathToRow.holds Try.pinned (OpenSpec.ofChange fnExactPathToSpec)

/-- ITS FALSE NEIGHBOUR: 'it returns false'. Refute it at one input. -/
def fnExactPathToWrong : ChangeSpec := { name := "fnExactPathTo", fn := fun _ => fun
  | [d1, d2] => { results := [.lit (.bool false)], args := [d1, d2] }
  | _ => none }
def FnExactPathToWrongFalsely : Prop := fnExactPathToRow.holds Try.pinned (OpenSpec.ofChange fnExactPathToWrong)

/-- 'laws.FnExactWithEntry': WHATEVER THE INPUT: true; the input reads as it did. -/
def fnExactWithEntrySpec : ChangeSpec := { name := "fnExactWithEntry", fn := fun _ => fun
  | [d1, d2] => { results := [.lit (.bool true)], args := [d1, d2] }
  | _ => none }
def fnExactWithEntryRow : OpenClaim := { program := "ytaagiehphonieaa", sum := "71da46ce6b8ac0ced95997a93753d20dab58ce8c9bad175abafdeffc51f161ee", func := "loop.example/g00969/laws.FnExactWithEntry", spec := "fnExactWithEntry", inPlace := ["slices.overlaps[loop.example/g00969/impl.Entry]"], unfollowed := true, recurses := true, apart := false }
def FnExactWithEntrySaid : Prop := fnExactWithEntryRow.holds Try.pinned (OpenSpec.ofChange fnExactWithEntrySpec)

/-- ITS FALSE NEIGHBOUR: 'it returns false'. Refute it at one input. -/
def fnExactWithEntryWrong : ChangeSpec := { name := "fnExactWithEntry", fn := fun _ => fun
  | [d1, d2] => { results := [.lit (.bool false)], args := [d1, d2] }
  | _ => none }
def FnExactWithEntryWrongFalsely : Prop := fnExactWithEntryRow.holds Try.pinned (OpenSpec.ofChange fnExactWithEntryWrong)

/-- 'laws.FnExactZeroPage': WHATEVER THE INPUT: true; the input reads as it did. -/
def fnExactZeroPageSpec : ChangeSpec := { name := "fnExactZeroPage", fn := fun _ => fun
  | [d1, d2, d3, d4] => { results := [.lit (.bool true)], args := [d1, d2, d3, d4] }
  | _ => none }
def fnExactZeroPageRow : OpenClaim := { program := "ytaagiehphonieaa", sum := "71da46ce6b8ac0ced95997a93753d20dab58ce8c9bad175abafdeffc51f161ee", func := "loop.example/g00969/laws.FnExactZeroPage", spec := "fnExactZeroPage", inPlace := ["internal/abi.NoEscape", "internal/bytealg.MakeNoZero"], unfollowed := true, recurses := true, apart := false }
def FnExactZeroPageSaid : Prop := fnExactZeroPageRow.holds Try.pinned (OpenSpec.ofChange fnExactZeroPageSpec)

/-- ITS FALSE NEIGHBOUR: 'it returns false'. Refute it at one input. -/
def fnExactZeroPageWrong : ChangeSpec := { name := "fnExactZeroPage", fn := fun _ => fun
  | [d1, d2, d3, d4] => { results := [.lit (.bool false)], args := [d1, d2, d3, d4] }
  | _ => none }
def FnExactZeroPageWrongFalsely : Prop := fnExactZeroPageRow.holds Try.pinned (OpenSpec.ofChange fnExactZeroPageWrong)

/-- 'laws.FnExactFits': WHATEVER THE INPUT: true; the input reads as it did. -/
def fnExactFitsSpec : ChangeSpec := { name := "fnExactFits", fn := fun _ => fun
  | [d1, d2] => { results := [.lit (.bool true)], args := [d1, d2] }
  | _ => none }
def fnExactFitsRow : OpenClaim := { program := "ytaagiehphonieaa", sum := "71da46ce6b8ac0ced95997a93753d20dab58ce8c9bad175abafdeffc51f161ee", func := "loop.example/g00969/laws.FnExactFits", spec := "fnExactFits", inPlace := ["internal/abi.NoEscape", "internal/bytealg.MakeNoZero"], unfollowed := true, recurses := true, apart := false }
def FnExactFitsSaid : Prop := fnExactFitsRow.holds Try.pinned (OpenSpec.ofChange fnExactFitsSpec)

/-- ITS FALSE NEIGHBOUR: 'it returns false'. Refute it at one input. -/
def fnExactFitsWrong : ChangeSpec := { name := "fnExactFits", fn := fun _ => fun
  | [d1, d2] => { results := [.lit (.bool false)], args := [d1, d2] }
  | _ => none }
def FnExactFitsWrongFalsely : Prop := fnExactFitsRow.holds Try.pinned (OpenSpec.ofChange fnExactFitsWrong)

/-- 'laws.FnExactInodeWords': WHATEVER THE INPUT: true; the input reads as it did. -/
def fnExactInodeWordsSpec : ChangeSpec := { name := "fnExactInodeWords", fn := fun _ => fun
  | [d] => { results := [.lit (.bool true)], args := [d] }
  | _ => none }
def fnExactInodeWordsRow : OpenClaim := { program := "ytaagiehphonieaa", sum := "71da46ce6b8ac0ced95997a93753d20dab58ce8c9bad175abafdeffc51f161ee", func := "loop.example/g00969/laws.FnExactInodeWords", spec := "fnExactInodeWords", inPlace := ["internal/abi.NoEscape", "internal/bytealg.MakeNoZero"], unfollowed := true, recurses := true, apart := false }
def FnExactInodeWordsSaid : Prop := fnExactInodeWordsRow.holds Try.pinned (OpenSpec.ofChange fnExactInodeWordsSpec)

/-- ITS FALSE NEIGHBOUR: 'it returns false'. Refute it at one input. -/
def fnExactInodeWordsWrong : ChangeSpec := { name := "fnExactInodeWords", fn := fun _ => fun
  | [d] => { results := [.lit (.bool false)], args := [d] }
  | _ => none }
def FnExactInodeWordsWrongFalsely : Prop := fnExactInodeWordsRow.holds Try.pinned (OpenSpec.ofChange fnExactInodeWordsWrong)

/- THE SECOND FORM. 'bulk': how many values and letters a reading holds, each counted each time it is reached (what is shared counts as often as it is met; a slice's spare places count too). A statement '..UptoSaid' is the law's where the arguments, and the package variables that the reading takes, are together of bulk at most 1048576: NARROWER than '..Said'. Prove '..Said' where nothing that the law and all that it calls make is longer than what came in: it says more and counts as full. Else prove '..UptoSaid'. A law counts once. -/
mutual
def uptoBulk {H : Type} : DataW H → Nat
  | .lit (.string bytes) => bytes.length + 1
  | .lit _ => 1
  | .nil => 1
  | .ptr d => uptoBulk d + 1
  | .slice elems spare => uptoBulkAll elems + uptoBulkAll spare + 1
  | .agg parts => uptoBulkAll parts + 1
  | .iface _ d => uptoBulk d + 1
  | .map entries => uptoBulkEntries entries + 1
  | .held _ => 1
def uptoBulkAll {H : Type} : List (DataW H) → Nat
  | [] => 0
  | d :: r => uptoBulk d + uptoBulkAll r
def uptoBulkEntries {H : Type} : List (Lit × DataW H) → Nat
  | [] => 0
  | x :: r => uptoBulkEntry x + uptoBulkEntries r
def uptoBulkEntry {H : Type} : Lit × DataW H → Nat
  | (.string bytes, d) => bytes.length + uptoBulk d + 1
  | (_, d) => uptoBulk d + 1
 end
def uptoSmall : (H : Type) → List (DataW H) → Bool := fun _ ds => decide (uptoBulkAll ds ≤ 1048576)
def OpenSpec.upto (s : _root_.Go.ChangeSpec) : _root_.Go.OpenSpec := { _root_.Go.OpenSpec.ofChange s with cond := some uptoSmall }

/-- 'laws.FnExactReadStates', WHERE WHAT IT READS IS OF BULK AT MOST 1048576: true; the input reads as it did. -/
def fnExactReadStatesUptoRow : OpenClaim := { program := "ytaagiehphonieaa", sum := "71da46ce6b8ac0ced95997a93753d20dab58ce8c9bad175abafdeffc51f161ee", func := "loop.example/g00969/laws.FnExactReadStates", spec := "fnExactReadStates", inPlace := ["internal/abi.NoEscape", "internal/bytealg.MakeNoZero"], unfollowed := true, recurses := true, apart := false, narrowed := true }
def FnExactReadStatesUptoSaid : Prop := fnExactReadStatesUptoRow.holds Try.pinned (OpenSpec.upto fnExactReadStatesSpec)

/-- 'laws.FnExactPageText', WHERE WHAT IT READS IS OF BULK AT MOST 1048576: true; the input reads as it did. -/
def fnExactPageTextUptoRow : OpenClaim := { program := "ytaagiehphonieaa", sum := "71da46ce6b8ac0ced95997a93753d20dab58ce8c9bad175abafdeffc51f161ee", func := "loop.example/g00969/laws.FnExactPageText", spec := "fnExactPageText", inPlace := ["internal/abi.NoEscape", "internal/bytealg.MakeNoZero"], unfollowed := true, recurses := true, apart := false, narrowed := true }
def FnExactPageTextUptoSaid : Prop := fnExactPageTextUptoRow.holds Try.pinned (OpenSpec.upto fnExactPageTextSpec)

/-- 'laws.FnExactPathTo', WHERE WHAT IT READS IS OF BULK AT MOST 1048576: true; the input reads as it did. -/
def fnExactPathToUptoRow : OpenClaim := { program := "ytaagiehphonieaa", sum := "71da46ce6b8ac0ced95997a93753d20dab58ce8c9bad175abafdeffc51f161ee", func := "loop.example/g00969/laws.FnExactPathTo", spec := "fnExactPathTo", inPlace := ["internal/abi.NoEscape", "internal/bytealg.MakeNoZero"], apart := false, narrowed := true }
def FnExactPathToUptoSaid : Prop := fnExactPathToUptoRow.holds Try.pinned (OpenSpec.upto fnExactPathToSpec)

/-- 'laws.FnExactWithEntry', WHERE WHAT IT READS IS OF BULK AT MOST 1048576: true; the input reads as it did. -/
def fnExactWithEntryUptoRow : OpenClaim := { program := "ytaagiehphonieaa", sum := "71da46ce6b8ac0ced95997a93753d20dab58ce8c9bad175abafdeffc51f161ee", func := "loop.example/g00969/laws.FnExactWithEntry", spec := "fnExactWithEntry", inPlace := ["slices.overlaps[loop.example/g00969/impl.Entry]"], unfollowed := true, recurses := true, apart := false, narrowed := true }
def FnExactWithEntryUptoSaid : Prop := fnExactWithEntryUptoRow.holds Try.pinned (OpenSpec.upto fnExactWithEntrySpec)

/-- 'laws.FnExactZeroPage', WHERE WHAT IT READS IS OF BULK AT MOST 1048576: true; the input reads as it did. -/
def fnExactZeroPageUptoRow : OpenClaim := { program := "ytaagiehphonieaa", sum := "71da46ce6b8ac0ced95997a93753d20dab58ce8c9bad175abafdeffc51f161ee", func := "loop.example/g00969/laws.FnExactZeroPage", spec := "fnExactZeroPage", inPlace := ["internal/abi.NoEscape", "internal/bytealg.MakeNoZero"], unfollowed := true, recurses := true, apart := false, narrowed := true }
def FnExactZeroPageUptoSaid : Prop := fnExactZeroPageUptoRow.holds Try.pinned (OpenSpec.upto fnExactZeroPageSpec)

/-- 'laws.FnExactFits', WHERE WHAT IT READS IS OF BULK AT MOST 1048576: true; the input reads as it did. -/
def fnExactFitsUptoRow : OpenClaim := { program := "ytaagiehphonieaa", sum := "71da46ce6b8ac0ced95997a93753d20dab58ce8c9bad175abafdeffc51f161ee", func := "loop.example/g00969/laws.FnExactFits", spec := "fnExactFits", inPlace := ["internal/abi.NoEscape", "internal/bytealg.MakeNoZero"], unfollowed := true, recurses := true, apart := false, narrowed := true }
def FnExactFitsUptoSaid : Prop := fnExactFitsUptoRow.holds Try.pinned (OpenSpec.upto fnExactFitsSpec)

/-- 'laws.FnExactInodeWords', WHERE WHAT IT READS IS OF BULK AT MOST 1048576: true; the input reads as it did. -/
def fnExactInodeWordsUptoRow : OpenClaim := { program := "ytaagiehphonieaa", sum := "71da46ce6b8ac0ced95997a93753d20dab58ce8c9bad175abafdeffc51f161ee", func := "loop.example/g00969/laws.FnExactInodeWords", spec := "fnExactInodeWords", inPlace := ["internal/abi.NoEscape", "internal/bytealg.MakeNoZero"], unfollowed := true, recurses := true, apart := false, narrowed := true }
def FnExactInodeWordsUptoSaid : Prop := fnExactInodeWordsUptoRow.holds Try.pinned (OpenSpec.upto fnExactInodeWordsSpec)

end Rows
end Go.Proofs.Ytaagiehphonieaa
