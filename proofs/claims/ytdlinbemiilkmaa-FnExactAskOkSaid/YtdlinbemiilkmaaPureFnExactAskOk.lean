/- The pure statement of FnExactAskOk is proved: for all arguments within the row's own bounds the Lean function that the law's walk comes to answers true. Conditions: none beyond these bounds. -/
import Derived.Test.YtdlinbemiilkmaaStFnExactAskOk
import Derived.Test.YtdlinbemiilkmaaBase
namespace Go.Proofs.Ytdlinbemiilkmaa.Pure
open Go.RowKit Go.Proofs.Ytdlinbemiilkmaa.PFnExactAskOk Go.Proofs.YtdlinbemiilkmaaW.PrintWords Go.Proofs.YtdlinbemiilkmaaW.PrintLast Go.Proofs.Ytdlinbemiilkmaa.Base
set_option linter.unusedVariables false
set_option linter.unusedSimpArgs false
/-! ### ask -/
theorem szAsk_eq (a0 : Int) (a1 a2 : ByteArray) (a3 a4 : Int) (a5 : ByteArray) (a : Int) (h0 : 0 ≤ a) (h1 : a ≤ 1048576) (b1 : a1.size ≤ 140737488351232) (b2 : a2.size ≤ 140737488351232) (b5 : a5.size ≤ 140737488351232) :
    laws_szAsk.f a0 a1 a2 a3 a4 a5 a = some (left a (a1.size + a2.size + a5.size)) := by
  simp only [laws_szAsk.f]
  rw [w64 (x := a - (a1.size : Int)) (by omega) (by omega), w64 (x := a - (a1.size : Int) - (a2.size : Int)) (by omega) (by omega), w64 (x := a - (a1.size : Int) - (a2.size : Int) - (a5.size : Int)) (by omega) (by omega)]
  unfold left
  by_cases h : a - (a1.size : Int) < 0
  · rw [if_pos h, if_neg (by omega)]
  · rw [if_neg h]
    by_cases h : a - (a1.size : Int) - (a2.size : Int) < 0
    · rw [if_pos h, if_neg (by omega)]
    · rw [if_neg h]
      by_cases h : a - (a1.size : Int) - (a2.size : Int) - (a5.size : Int) < 0
      · rw [if_pos h, if_neg (by omega)]
      · rw [if_neg h, if_pos (by omega)]; congr 1; omega

/-! ### FnExactAskOk -/
theorem FnExactAskOk : laws_FnExactAskOk.Law := by
  intro a0 a1 a2 a3 a4 a5 _ b1 b2 _ _ b5
  unfold laws_FnExactAskOk.f
  rw [szAsk_eq a0 a1 a2 a3 a4 a5 1048576 (by omega) (by omega) b1 b2 b5, Option.bind_some]
  split
  · rfl
  · simp [laws_toAsk.f, spec_AskOk.f, impl_AskOk.f, spec_l01In.f, impl_within.f]
    split <;> simp
    split <;> simp

end Go.Proofs.Ytdlinbemiilkmaa.Pure
