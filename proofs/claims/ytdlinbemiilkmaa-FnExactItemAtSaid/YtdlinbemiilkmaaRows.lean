/-
  No cell of these rows narrows 'for every input' (looked for: loops, veiled, ifaces, maps, wideKeys, modest, calm, conditions, laid).
  DERIVED. THE GIVEN ROWS OF THIS SEAT. 12 by the template 'for every input the law returns true; each argument reads behind the call as it read before'; 0 by the template 'total and deterministic' (their statements: YtdlinbemiilkmaaTotals.lean).
  GIVEN WITH THE SEED: the statements are not yours to turn. If you find one false, say at which input.
  Laid BY PROGRAM, IN A SANDBOX (cutbox-rows.mjs): the forced cells as the released guide's own fill.sh prints them over the translation 5a7fda7aeefaed4a… (all of the seat's roots in one cut). By AI agents, Wed Nov 11 2026. No macro, syntax, notation, axiom, sorry.
-/
import Derived.Test.YtdlinbemiilkmaaChecked
import GoSem.Claim
import GoSem.ClaimJoined
import GoSem.ClaimMapViews
import Derived.JoinedTies
import Derived.KernelRfl
namespace Go.Proofs.Ytdlinbemiilkmaa
/- THE CELL 'sum', in the pinned program and in every row, IS THE sha256 OF THE DUMP (.gsa) THAT YtdlinbemiilkmaaProg.lean LOADS. Nothing in Lean hashes anything: it is a label: what it is worth is what the hold of that sum in a sandbox is worth. -/
noncomputable def Try.pinned : Pinned := { name := "ytdlinbemiilkmaa", sum := "5a7fda7aeefaed4a9875bd00d72de29bf44412e2d6f4edf9d0d41339cfd77e43", checked := Try.checked }
namespace Rows
def none {H : Type} : Left H := { results := [], args := [] }

/-- 'laws.FnExactAskOk': WHATEVER THE INPUT: true; the input reads as it did. -/
def fnExactAskOkSpec : ChangeSpec := { name := "fnExactAskOk", fn := fun _ => fun
  | [d] => { results := [.lit (.bool true)], args := [d] }
  | _ => none }
def fnExactAskOkRow : OpenClaim := { program := "ytdlinbemiilkmaa", sum := "5a7fda7aeefaed4a9875bd00d72de29bf44412e2d6f4edf9d0d41339cfd77e43", func := "loop.example/g00969/laws.FnExactAskOk", spec := "fnExactAskOk", apart := false }
def FnExactAskOkSaid : Prop := fnExactAskOkRow.holds Try.pinned (OpenSpec.ofChange fnExactAskOkSpec)

/-- ITS FALSE NEIGHBOUR: 'it returns false'. Refute it at one input. -/
def fnExactAskOkWrong : ChangeSpec := { name := "fnExactAskOk", fn := fun _ => fun
  | [d] => { results := [.lit (.bool false)], args := [d] }
  | _ => none }
def FnExactAskOkWrongFalsely : Prop := fnExactAskOkRow.holds Try.pinned (OpenSpec.ofChange fnExactAskOkWrong)

/-- 'laws.FnExactStatesOk': WHATEVER THE INPUT: true; the input reads as it did. -/
def fnExactStatesOkSpec : ChangeSpec := { name := "fnExactStatesOk", fn := fun _ => fun
  | [d1, d2] => { results := [.lit (.bool true)], args := [d1, d2] }
  | _ => none }
def fnExactStatesOkRow : OpenClaim := { program := "ytdlinbemiilkmaa", sum := "5a7fda7aeefaed4a9875bd00d72de29bf44412e2d6f4edf9d0d41339cfd77e43", func := "loop.example/g00969/laws.FnExactStatesOk", spec := "fnExactStatesOk", unfollowed := true, recurses := true, apart := false }
def FnExactStatesOkSaid : Prop := fnExactStatesOkRow.holds Try.pinned (OpenSpec.ofChange fnExactStatesOkSpec)

/-- ITS FALSE NEIGHBOUR: 'it returns false'. Refute it at one input. -/
def fnExactStatesOkWrong : ChangeSpec := { name := "fnExactStatesOk", fn := fun _ => fun
  | [d1, d2] => { results := [.lit (.bool false)], args := [d1, d2] }
  | _ => none }
def FnExactStatesOkWrongFalsely : Prop := fnExactStatesOkRow.holds Try.pinned (OpenSpec.ofChange fnExactStatesOkWrong)

/-- 'laws.FnExactPagesWith': WHATEVER THE INPUT: true; the input reads as it did. -/
def fnExactPagesWithSpec : ChangeSpec := { name := "fnExactPagesWith", fn := fun _ => fun
  | [d1, d2] => { results := [.lit (.bool true)], args := [d1, d2] }
  | _ => none }
def fnExactPagesWithRow : OpenClaim := { program := "ytdlinbemiilkmaa", sum := "5a7fda7aeefaed4a9875bd00d72de29bf44412e2d6f4edf9d0d41339cfd77e43", func := "loop.example/g00969/laws.FnExactPagesWith", spec := "fnExactPagesWith", apart := false }
def FnExactPagesWithSaid : Prop := fnExactPagesWithRow.holds Try.pinned (OpenSpec.ofChange fnExactPagesWithSpec)

/-- ITS FALSE NEIGHBOUR: 'it returns false'. Refute it at one input. -/
def fnExactPagesWithWrong : ChangeSpec := { name := "fnExactPagesWith", fn := fun _ => fun
  | [d1, d2] => { results := [.lit (.bool false)], args := [d1, d2] }
  | _ => none }
def FnExactPagesWithWrongFalsely : Prop := fnExactPagesWithRow.holds Try.pinned (OpenSpec.ofChange fnExactPagesWithWrong)

/-- 'laws.FnExactWithState': WHATEVER THE INPUT: true; the input reads as it did. -/
def fnExactWithStateSpec : ChangeSpec := { name := "fnExactWithState", fn := fun _ => fun
  | [d1, d2, d3] => { results := [.lit (.bool true)], args := [d1, d2, d3] }
  | _ => none }
def fnExactWithStateRow : OpenClaim := { program := "ytdlinbemiilkmaa", sum := "5a7fda7aeefaed4a9875bd00d72de29bf44412e2d6f4edf9d0d41339cfd77e43", func := "loop.example/g00969/laws.FnExactWithState", spec := "fnExactWithState", apart := false }
def FnExactWithStateSaid : Prop := fnExactWithStateRow.holds Try.pinned (OpenSpec.ofChange fnExactWithStateSpec)

/-- ITS FALSE NEIGHBOUR: 'it returns false'. Refute it at one input. -/
def fnExactWithStateWrong : ChangeSpec := { name := "fnExactWithState", fn := fun _ => fun
  | [d1, d2, d3] => { results := [.lit (.bool false)], args := [d1, d2, d3] }
  | _ => none }
def FnExactWithStateWrongFalsely : Prop := fnExactWithStateRow.holds Try.pinned (OpenSpec.ofChange fnExactWithStateWrong)

/-- 'laws.FnExactFirstClean': WHATEVER THE INPUT: true; the input reads as it did. -/
def fnExactFirstCleanSpec : ChangeSpec := { name := "fnExactFirstClean", fn := fun _ => fun
  | [d1, d2] => { results := [.lit (.bool true)], args := [d1, d2] }
  | _ => none }
def fnExactFirstCleanRow : OpenClaim := { program := "ytdlinbemiilkmaa", sum := "5a7fda7aeefaed4a9875bd00d72de29bf44412e2d6f4edf9d0d41339cfd77e43", func := "loop.example/g00969/laws.FnExactFirstClean", spec := "fnExactFirstClean", apart := false }
def FnExactFirstCleanSaid : Prop := fnExactFirstCleanRow.holds Try.pinned (OpenSpec.ofChange fnExactFirstCleanSpec)

/-- ITS FALSE NEIGHBOUR: 'it returns false'. Refute it at one input. -/
def fnExactFirstCleanWrong : ChangeSpec := { name := "fnExactFirstClean", fn := fun _ => fun
  | [d1, d2] => { results := [.lit (.bool false)], args := [d1, d2] }
  | _ => none }
def FnExactFirstCleanWrongFalsely : Prop := fnExactFirstCleanRow.holds Try.pinned (OpenSpec.ofChange fnExactFirstCleanWrong)

/-- 'laws.FnExactItemAt': WHATEVER THE INPUT: true; the input reads as it did. -/
def fnExactItemAtSpec : ChangeSpec := { name := "fnExactItemAt", fn := fun _ => fun
  | [d1, d2] => { results := [.lit (.bool true)], args := [d1, d2] }
  | _ => none }
def fnExactItemAtRow : OpenClaim := { program := "ytdlinbemiilkmaa", sum := "5a7fda7aeefaed4a9875bd00d72de29bf44412e2d6f4edf9d0d41339cfd77e43", func := "loop.example/g00969/laws.FnExactItemAt", spec := "fnExactItemAt", unfollowed := true, recurses := true, apart := false }
def FnExactItemAtSaid : Prop := fnExactItemAtRow.holds Try.pinned (OpenSpec.ofChange fnExactItemAtSpec)

/-- ITS FALSE NEIGHBOUR: 'it returns false'. Refute it at one input. -/
def fnExactItemAtWrong : ChangeSpec := { name := "fnExactItemAt", fn := fun _ => fun
  | [d1, d2] => { results := [.lit (.bool false)], args := [d1, d2] }
  | _ => none }
def FnExactItemAtWrongFalsely : Prop := fnExactItemAtRow.holds Try.pinned (OpenSpec.ofChange fnExactItemAtWrong)

/-- 'laws.FnExactSameView': WHATEVER THE INPUT: true; the input reads as it did. -/
def fnExactSameViewSpec : ChangeSpec := { name := "fnExactSameView", fn := fun _ => fun
  | [d1, d2] => { results := [.lit (.bool true)], args := [d1, d2] }
  | _ => none }
def fnExactSameViewRow : OpenClaim := { program := "ytdlinbemiilkmaa", sum := "5a7fda7aeefaed4a9875bd00d72de29bf44412e2d6f4edf9d0d41339cfd77e43", func := "loop.example/g00969/laws.FnExactSameView", spec := "fnExactSameView", apart := false }
def FnExactSameViewSaid : Prop := fnExactSameViewRow.holds Try.pinned (OpenSpec.ofChange fnExactSameViewSpec)

/-- ITS FALSE NEIGHBOUR: 'it returns false'. Refute it at one input. -/
def fnExactSameViewWrong : ChangeSpec := { name := "fnExactSameView", fn := fun _ => fun
  | [d1, d2] => { results := [.lit (.bool false)], args := [d1, d2] }
  | _ => none }
def FnExactSameViewWrongFalsely : Prop := fnExactSameViewRow.holds Try.pinned (OpenSpec.ofChange fnExactSameViewWrong)

/-- 'laws.FnExactPagesIn': WHATEVER THE INPUT: true; the input reads as it did. -/
def fnExactPagesInSpec : ChangeSpec := { name := "fnExactPagesIn", fn := fun _ => fun
  | [d] => { results := [.lit (.bool true)], args := [d] }
  | _ => none }
def fnExactPagesInRow : OpenClaim := { program := "ytdlinbemiilkmaa", sum := "5a7fda7aeefaed4a9875bd00d72de29bf44412e2d6f4edf9d0d41339cfd77e43", func := "loop.example/g00969/laws.FnExactPagesIn", spec := "fnExactPagesIn", apart := false }
def FnExactPagesInSaid : Prop := fnExactPagesInRow.holds Try.pinned (OpenSpec.ofChange fnExactPagesInSpec)

/-- ITS FALSE NEIGHBOUR: 'it returns false'. Refute it at one input. -/
def fnExactPagesInWrong : ChangeSpec := { name := "fnExactPagesIn", fn := fun _ => fun
  | [d] => { results := [.lit (.bool false)], args := [d] }
  | _ => none }
def FnExactPagesInWrongFalsely : Prop := fnExactPagesInRow.holds Try.pinned (OpenSpec.ofChange fnExactPagesInWrong)

/-- 'laws.FnExactJoinPath': WHATEVER THE INPUT: true; the input reads as it did. -/
def fnExactJoinPathSpec : ChangeSpec := { name := "fnExactJoinPath", fn := fun _ => fun
  | [d] => { results := [.lit (.bool true)], args := [d] }
  | _ => none }
def fnExactJoinPathRow : OpenClaim := { program := "ytdlinbemiilkmaa", sum := "5a7fda7aeefaed4a9875bd00d72de29bf44412e2d6f4edf9d0d41339cfd77e43", func := "loop.example/g00969/laws.FnExactJoinPath", spec := "fnExactJoinPath", inPlace := ["internal/abi.NoEscape", "internal/bytealg.MakeNoZero"], apart := false }
def FnExactJoinPathSaid : Prop := fnExactJoinPathRow.holds Try.pinned (OpenSpec.ofChange fnExactJoinPathSpec)

/-- ITS FALSE NEIGHBOUR: 'it returns false'. Refute it at one input. -/
def fnExactJoinPathWrong : ChangeSpec := { name := "fnExactJoinPath", fn := fun _ => fun
  | [d] => { results := [.lit (.bool false)], args := [d] }
  | _ => none }
def FnExactJoinPathWrongFalsely : Prop := fnExactJoinPathRow.holds Try.pinned (OpenSpec.ofChange fnExactJoinPathWrong)

/-- 'laws.FnExactTouchedBy': WHATEVER THE INPUT: true; the input reads as it did. -/
def fnExactTouchedBySpec : ChangeSpec := { name := "fnExactTouchedBy", fn := fun _ => fun
  | [d1, d2] => { results := [.lit (.bool true)], args := [d1, d2] }
  | _ => none }
def fnExactTouchedByRow : OpenClaim := { program := "ytdlinbemiilkmaa", sum := "5a7fda7aeefaed4a9875bd00d72de29bf44412e2d6f4edf9d0d41339cfd77e43", func := "loop.example/g00969/laws.FnExactTouchedBy", spec := "fnExactTouchedBy", apart := false }
def FnExactTouchedBySaid : Prop := fnExactTouchedByRow.holds Try.pinned (OpenSpec.ofChange fnExactTouchedBySpec)

/-- ITS FALSE NEIGHBOUR: 'it returns false'. Refute it at one input. -/
def fnExactTouchedByWrong : ChangeSpec := { name := "fnExactTouchedBy", fn := fun _ => fun
  | [d1, d2] => { results := [.lit (.bool false)], args := [d1, d2] }
  | _ => none }
def FnExactTouchedByWrongFalsely : Prop := fnExactTouchedByRow.holds Try.pinned (OpenSpec.ofChange fnExactTouchedByWrong)

/-- 'laws.FnExactDropItem': WHATEVER THE INPUT: true; the input reads as it did. -/
def fnExactDropItemSpec : ChangeSpec := { name := "fnExactDropItem", fn := fun _ => fun
  | [d1, d2] => { results := [.lit (.bool true)], args := [d1, d2] }
  | _ => none }
def fnExactDropItemRow : OpenClaim := { program := "ytdlinbemiilkmaa", sum := "5a7fda7aeefaed4a9875bd00d72de29bf44412e2d6f4edf9d0d41339cfd77e43", func := "loop.example/g00969/laws.FnExactDropItem", spec := "fnExactDropItem", unfollowed := true, recurses := true, apart := false }
def FnExactDropItemSaid : Prop := fnExactDropItemRow.holds Try.pinned (OpenSpec.ofChange fnExactDropItemSpec)

/-- ITS FALSE NEIGHBOUR: 'it returns false'. Refute it at one input. -/
def fnExactDropItemWrong : ChangeSpec := { name := "fnExactDropItem", fn := fun _ => fun
  | [d1, d2] => { results := [.lit (.bool false)], args := [d1, d2] }
  | _ => none }
def FnExactDropItemWrongFalsely : Prop := fnExactDropItemRow.holds Try.pinned (OpenSpec.ofChange fnExactDropItemWrong)

/-- 'laws.FnExactTextCut': WHATEVER THE INPUT: true; the input reads as it did. -/
def fnExactTextCutSpec : ChangeSpec := { name := "fnExactTextCut", fn := fun _ => fun
  | [d1, d2] => { results := [.lit (.bool true)], args := [d1, d2] }
  | _ => none }
def fnExactTextCutRow : OpenClaim := { program := "ytdlinbemiilkmaa", sum := "5a7fda7aeefaed4a9875bd00d72de29bf44412e2d6f4edf9d0d41339cfd77e43", func := "loop.example/g00969/laws.FnExactTextCut", spec := "fnExactTextCut", inPlace := ["internal/abi.NoEscape", "internal/bytealg.MakeNoZero"], apart := false }
def FnExactTextCutSaid : Prop := fnExactTextCutRow.holds Try.pinned (OpenSpec.ofChange fnExactTextCutSpec)

/-- ITS FALSE NEIGHBOUR: 'it returns false'. Refute it at one input. -/
def fnExactTextCutWrong : ChangeSpec := { name := "fnExactTextCut", fn := fun _ => fun
  | [d1, d2] => { results := [.lit (.bool false)], args := [d1, d2] }
  | _ => none }
def FnExactTextCutWrongFalsely : Prop := fnExactTextCutRow.holds Try.pinned (OpenSpec.ofChange fnExactTextCutWrong)

/- THE SECOND FORM. 'bulk': how many values and letters a reading holds, each counted each time it is reached (what is shared counts as often as it is met; a slice's spare places count too). A statement '..UptoSaid' is the law's where the arguments, and the package variables that the reading takes, are together of bulk at most 1048576: NARROWER than '..Said'. Prove '..Said' where nothing that the law and all that it calls make is longer than what came in: it says more and counts as full. Else prove '..UptoSaid'. A law counts once. -/
mutual
def uptoBulk {H : Type} : DataW H → Nat
  | .lit (.string bytes) => bytes.length + 1
  | .lit _ => 1
  | .nil => 1
  | .ptr d => uptoBulk d + 1
  | .slice elems spare => uptoBulkAll elems + uptoBulkAll spare + 1
  | .agg parts => uptoBulkAll parts + 1
  | .iface _ d => uptoBulk d + 1
  | .map entries => uptoBulkEntries entries + 1
  | .held _ => 1
def uptoBulkAll {H : Type} : List (DataW H) → Nat
  | [] => 0
  | d :: r => uptoBulk d + uptoBulkAll r
def uptoBulkEntries {H : Type} : List (Lit × DataW H) → Nat
  | [] => 0
  | x :: r => uptoBulkEntry x + uptoBulkEntries r
def uptoBulkEntry {H : Type} : Lit × DataW H → Nat
  | (.string bytes, d) => bytes.length + uptoBulk d + 1
  | (_, d) => uptoBulk d + 1
 end
def uptoSmall : (H : Type) → List (DataW H) → Bool := fun _ ds => decide (uptoBulkAll ds ≤ 1048576)
def OpenSpec.upto (s : _root_.Go.ChangeSpec) : _root_.Go.OpenSpec := { _root_.Go.OpenSpec.ofChange s with cond := some uptoSmall }

/-- 'laws.FnExactAskOk', WHERE WHAT IT READS IS OF BULK AT MOST 1048576: true; the input reads as it did. -/
def fnExactAskOkUptoRow : OpenClaim := { program := "ytdlinbemiilkmaa", sum := "5a7fda7aeefaed4a9875bd00d72de29bf44412e2d6f4edf9d0d41339cfd77e43", func := "loop.example/g00969/laws.FnExactAskOk", spec := "fnExactAskOk", apart := false, narrowed := true }
def FnExactAskOkUptoSaid : Prop := fnExactAskOkUptoRow.holds Try.pinned (OpenSpec.upto fnExactAskOkSpec)

/-- 'laws.FnExactStatesOk', WHERE WHAT IT READS IS OF BULK AT MOST 1048576: true; the input reads as it did. -/
def fnExactStatesOkUptoRow : OpenClaim := { program := "ytdlinbemiilkmaa", sum := "5a7fda7aeefaed4a9875bd00d72de29bf44412e2d6f4edf9d0d41339cfd77e43", func := "loop.example/g00969/laws.FnExactStatesOk", spec := "fnExactStatesOk", unfollowed := true, recurses := true, apart := false, narrowed := true }
def FnExactStatesOkUptoSaid : Prop := fnExactStatesOkUptoRow.holds Try.pinned (OpenSpec.upto fnExactStatesOkSpec)

/-- 'laws.FnExactPagesWith', WHERE WHAT IT READS IS OF BULK AT MOST 1048576: true; the input reads as it did. -/
def fnExactPagesWithUptoRow : OpenClaim := { program := "ytdlinbemiilkmaa", sum := "5a7fda7aeefaed4a9875bd00d72de29bf44412e2d6f4edf9d0d41339cfd77e43", func := "loop.example/g00969/laws.FnExactPagesWith", spec := "fnExactPagesWith", apart := false, narrowed := true }
def FnExactPagesWithUptoSaid : Prop := fnExactPagesWithUptoRow.holds Try.pinned (OpenSpec.upto fnExactPagesWithSpec)

/-- 'laws.FnExactWithState', WHERE WHAT IT READS IS OF BULK AT MOST 1048576: true; the input reads as it did. -/
def fnExactWithStateUptoRow : OpenClaim := { program := "ytdlinbemiilkmaa", sum := "5a7fda7aeefaed4a9875bd00d72de29bf44412e2d6f4edf9d0d41339cfd77e43", func := "loop.example/g00969/laws.FnExactWithState", spec := "fnExactWithState", apart := false, narrowed := true }
def FnExactWithStateUptoSaid : Prop := fnExactWithStateUptoRow.holds Try.pinned (OpenSpec.upto fnExactWithStateSpec)

/-- 'laws.FnExactFirstClean', WHERE WHAT IT READS IS OF BULK AT MOST 1048576: true; the input reads as it did. -/
def fnExactFirstCleanUptoRow : OpenClaim := { program := "ytdlinbemiilkmaa", sum := "5a7fda7aeefaed4a9875bd00d72de29bf44412e2d6f4edf9d0d41339cfd77e43", func := "loop.example/g00969/laws.FnExactFirstClean", spec := "fnExactFirstClean", apart := false, narrowed := true }
def FnExactFirstCleanUptoSaid : Prop := fnExactFirstCleanUptoRow.holds Try.pinned (OpenSpec.upto fnExactFirstCleanSpec)

/-- 'laws.FnExactItemAt', WHERE WHAT IT READS IS OF BULK AT MOST 1048576: true; the input reads as it did. -/
def fnExactItemAtUptoRow : OpenClaim := { program := "ytdlinbemiilkmaa", sum := "5a7fda7aeefaed4a9875bd00d72de29bf44412e2d6f4edf9d0d41339cfd77e43", func := "loop.example/g00969/laws.FnExactItemAt", spec := "fnExactItemAt", unfollowed := true, recurses := true, apart := false, narrowed := true }
def FnExactItemAtUptoSaid : Prop := fnExactItemAtUptoRow.holds Try.pinned (OpenSpec.upto fnExactItemAtSpec)

/-- 'laws.FnExactSameView', WHERE WHAT IT READS IS OF BULK AT MOST 1048576: true; the input reads as it did. -/
def fnExactSameViewUptoRow : OpenClaim := { program := "ytdlinbemiilkmaa", sum := "5a7fda7aeefaed4a9875bd00d72de29bf44412e2d6f4edf9d0d41339cfd77e43", func := "loop.example/g00969/laws.FnExactSameView", spec := "fnExactSameView", apart := false, narrowed := true }
def FnExactSameViewUptoSaid : Prop := fnExactSameViewUptoRow.holds Try.pinned (OpenSpec.upto fnExactSameViewSpec)

/-- 'laws.FnExactPagesIn', WHERE WHAT IT READS IS OF BULK AT MOST 1048576: true; the input reads as it did. -/
def fnExactPagesInUptoRow : OpenClaim := { program := "ytdlinbemiilkmaa", sum := "5a7fda7aeefaed4a9875bd00d72de29bf44412e2d6f4edf9d0d41339cfd77e43", func := "loop.example/g00969/laws.FnExactPagesIn", spec := "fnExactPagesIn", apart := false, narrowed := true }
def FnExactPagesInUptoSaid : Prop := fnExactPagesInUptoRow.holds Try.pinned (OpenSpec.upto fnExactPagesInSpec)

/-- 'laws.FnExactJoinPath', WHERE WHAT IT READS IS OF BULK AT MOST 1048576: true; the input reads as it did. -/
def fnExactJoinPathUptoRow : OpenClaim := { program := "ytdlinbemiilkmaa", sum := "5a7fda7aeefaed4a9875bd00d72de29bf44412e2d6f4edf9d0d41339cfd77e43", func := "loop.example/g00969/laws.FnExactJoinPath", spec := "fnExactJoinPath", inPlace := ["internal/abi.NoEscape", "internal/bytealg.MakeNoZero"], apart := false, narrowed := true }
def FnExactJoinPathUptoSaid : Prop := fnExactJoinPathUptoRow.holds Try.pinned (OpenSpec.upto fnExactJoinPathSpec)

/-- 'laws.FnExactTouchedBy', WHERE WHAT IT READS IS OF BULK AT MOST 1048576: true; the input reads as it did. -/
def fnExactTouchedByUptoRow : OpenClaim := { program := "ytdlinbemiilkmaa", sum := "5a7fda7aeefaed4a9875bd00d72de29bf44412e2d6f4edf9d0d41339cfd77e43", func := "loop.example/g00969/laws.FnExactTouchedBy", spec := "fnExactTouchedBy", apart := false, narrowed := true }
def FnExactTouchedByUptoSaid : Prop := fnExactTouchedByUptoRow.holds Try.pinned (OpenSpec.upto fnExactTouchedBySpec)

/-- 'laws.FnExactDropItem', WHERE WHAT IT READS IS OF BULK AT MOST 1048576: true; the input reads as it did. -/
def fnExactDropItemUptoRow : OpenClaim := { program := "ytdlinbemiilkmaa", sum := "5a7fda7aeefaed4a9875bd00d72de29bf44412e2d6f4edf9d0d41339cfd77e43", func := "loop.example/g00969/laws.FnExactDropItem", spec := "fnExactDropItem", unfollowed := true, recurses := true, apart := false, narrowed := true }
def FnExactDropItemUptoSaid : Prop := fnExactDropItemUptoRow.holds Try.pinned (OpenSpec.upto fnExactDropItemSpec)

/-- 'laws.FnExactTextCut', WHERE WHAT IT READS IS OF BULK AT MOST 1048576: true; the input reads as it did. -/
def fnExactTextCutUptoRow : OpenClaim := { program := "ytdlinbemiilkmaa", sum := "5a7fda7aeefaed4a9875bd00d72de29bf44412e2d6f4edf9d0d41339cfd77e43", func := "loop.example/g00969/laws.FnExactTextCut", spec := "fnExactTextCut", inPlace := ["internal/abi.NoEscape", "internal/bytealg.MakeNoZero"], apart := false, narrowed := true }
def FnExactTextCutUptoSaid : Prop := fnExactTextCutUptoRow.holds Try.pinned (OpenSpec.upto fnExactTextCutSpec)

end Rows
end Go.Proofs.Ytdlinbemiilkmaa
