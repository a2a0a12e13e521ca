/- Contracts of Go functions, written by a program of ours over the print of the kit: each says that the call returns what the Lean function beside it computes. Conditions: as each theorem states them. -/
import Derived.Test.YtcdnfkoahajhhaaPkFnExactCleanOk
import Derived.Test.YtcdnfkoahajhhaaPFnExactCleanOkx0
import Derived.Test.YtcdnfkoahajhhaaPFnExactCleanOkx5
import Derived.Test.YtcdnfkoahajhhaaPFnExactCleanOkx6
import Derived.Test.YtcdnfkoahajhhaaPFnExactCleanOkx8
namespace Go.Proofs.Ytcdnfkoahajhhaa.PFnExactCleanOk
open Go.RowKit Go.Proofs.YtcdnfkoahajhhaaW.PrintWords Go.Proofs.YtcdnfkoahajhhaaW.PrintLast Go.Proofs.YtcdnfkoahajhhaaW.PrintMore
attribute [local go_sem] max2_int min2_int max_two min_two max_three min_three max_four min_four   -- for this text's walks alone
set_option linter.unusedVariables false
set_option linter.unusedSimpArgs false

/-! ### spec_l10Line: function 256 -/
def spec_l10Line.f (k : Nat) (a0_0 : ByteArray) (l0_1 : List (S206)) (a1 : Int) : Option (ByteArray) := (spec_l10Cell.f k a0_0 l0_1 a1).bind fun t254 => (if t254 ≥ 0 then (if 0 ≤ t254 then (if t254 < (l0_1.length : Int) then (some ((rd_T206 l0_1 t254).f1)) else (none)) else (none)) else ((spec_l10Size.f).bind fun t256 => ((spec_l10Size.f).bind fun t257 => (if 0 ≤ (wrap64 (a1 * t256)) then (if (wrap64 (a1 * t256)) ≤ (wrap64 ((wrap64 (a1 + 1)) * t257)) then (if (wrap64 ((wrap64 (a1 + 1)) * t257)) ≤ (a0_0.size : Int) then ((some (a0_0.extract ((wrap64 (a1 * t256)) : Int).toNat ((wrap64 ((wrap64 (a1 + 1)) * t257)) : Int).toNat : ByteArray)).bind fun y258 => (some y258)) else (none)) else (none)) else (none)))))
theorem spec_l10Line.mono : ∀ a0 a1 a2 k, LeO (spec_l10Line.f k a0 a1 a2) (spec_l10Line.f (k + 1) a0 a1 a2) := by
 intro a0 a1 a2 k
 unfold spec_l10Line.f
 repeat' first
   | (with_reducible exact spec_l10Cell.mono ..)
   | (with_reducible exact LeO.refl _)
   | (with_reducible exact LeO.none _)
   | (with_reducible refine LeO.ite ?_ ?_)
   | (with_reducible refine LeO.bind ?_ (fun _ => ?_))
   | exact spec_l10Cell.mono ..
   | exact LeO.none _
   | refine LeO.ite ?_ ?_
   | refine LeO.bind ?_ (fun _ => ?_)
set_option maxHeartbeats 8000000 in
set_option maxRecDepth 100000 in
theorem spec_l10Line.calls (k : Nat) (a0_0 : ByteArray) (A0_1 : Option Addr) (c0_1 : Nat) (l0_1 : List (S206)) (a1 : Int) (r : ByteArray) (w : World) (hr0_1 : Kd.C k206 w A0_1 l0_1.length l0_1) (hc0_1 : l0_1.length ≤ c0_1) (h : spec_l10Line.f k a0_0 l0_1 a1 = some r) :
  Calls Try.prog 256 #[.agg #[.string a0_0, .slice A0_1 l0_1.length c0_1], .int .i64 a1] w fun e w' => e = .returned (.string r) ∧ Below w.heap.size w w' := by
 have hu113 := Try.underlying113
 have HR0_1 := Aside0.mk hr0_1
 have HC0_1 := Aside0.mk hc0_1
 clear hr0_1 hc0_1
 have HB := Aside0.mk (Below.refl w.heap.size w)
 have H : ((spec_l10Cell.f k a0_0 l0_1 a1).bind fun t254 => (if t254 ≥ 0 then (if 0 ≤ t254 then (if t254 < (l0_1.length : Int) then (some ((rd_T206 l0_1 t254).f1)) else (none)) else (none)) else ((spec_l10Size.f).bind fun t256 => ((spec_l10Size.f).bind fun t257 => (if 0 ≤ (wrap64 (a1 * t256)) then (if (wrap64 (a1 * t256)) ≤ (wrap64 ((wrap64 (a1 + 1)) * t257)) then (if (wrap64 ((wrap64 (a1 + 1)) * t257)) ≤ (a0_0.size : Int) then ((some (a0_0.extract ((wrap64 (a1 * t256)) : Int).toNat ((wrap64 ((wrap64 (a1 + 1)) * t257)) : Int).toNat : ByteArray)).bind fun y258 => (some y258)) else (none)) else (none)) else (none)))))) = some r := h
 clear h
 replace H := Option.bind_eq_some_iff.mp H
 obtain ⟨t254, A30, H⟩ := H
 replace H : (if t254 ≥ 0 then (if 0 ≤ t254 then (if t254 < (l0_1.length : Int) then (some ((rd_T206 l0_1 t254).f1)) else (none)) else (none)) else ((spec_l10Size.f).bind fun t256 => ((spec_l10Size.f).bind fun t257 => (if 0 ≤ (wrap64 (a1 * t256)) then (if (wrap64 (a1 * t256)) ≤ (wrap64 ((wrap64 (a1 + 1)) * t257)) then (if (wrap64 ((wrap64 (a1 + 1)) * t257)) ≤ (a0_0.size : Int) then ((some (a0_0.extract ((wrap64 (a1 * t256)) : Int).toNat ((wrap64 ((wrap64 (a1 + 1)) * t257)) : Int).toNat : ByteArray)).bind fun y258 => (some y258)) else (none)) else (none)) else (none))))) = some r := H
 have A3 := Aside0.mk A30
 clear A30
 by_cases c4 : t254 ≥ 0
 ·rw [if_pos c4] at H
  have c4b0 : decide (0 ≤ t254) = true := decide_eq_true c4
  clear c4
  by_cases c5 : 0 ≤ t254
  ·rw [if_pos c5] at H
   have c5b0 : decide (0 ≤ t254) = true := decide_eq_true c5
   clear c5
   by_cases c6 : t254 < (l0_1.length : Int)
   ·rw [if_pos c6] at H
    have c6b0 : decide (t254 < (l0_1.length : Int)) = true := decide_eq_true c6
    clear c6
    obtain rfl := Option.some.inj H
    go_enter Try.func256, Try.ntmps256
    go_wp2_with (first | ((with_reducible refine gate_dst (N := 2) rfl ?_); refine box_event ?hg (N := 2) ?hd (cs := #[.string a0_0, .slice A0_1 l0_1.length c0_1]) (t := 113) ?hr ?_; (case hd => rfl); (case hg => rfl); (case hr => first | (go_simp; done) | (go_simp; rfl)); intro gb253 hg w7 hbox hb; have z_ := p_ (below_step tq_0 hb) <| p_ (hbox) <| p_ (gb_ hg tq_0) <| a_ (gb_ hg tq_0); clear HB; obtain ⟨HB, BK253, GW253, GE253⟩ := z_; clear hb hbox hg; have hcz8_0 := bc_ BK253.out 0; have hcz8_1 := bc_ BK253.out 1; have hfz8_0 := blk_frozen BK253.out 0; have hfz8_1 := blk_frozen BK253.out 1) | (go_at_call 275; (with_reducible refine (spec_l10Cell.calls k a0_0 _ _ l0_1 a1 t254 _ ?side1 ?side2 A3.out).mono ?_); (case side1 => exact tq_4); (case side2 => exact HC0_1.out); rintro e w9 ⟨rfl, hb⟩; have z_ := p_ (blk_below tq_88 hb) <| a_ (below_step tq_54 hb); clear BK253 HB; obtain ⟨BK253, HB⟩ := z_; (try clear hb); (try clear hb2); (try clear hk); (try clear hi); have hcz10_0 := bc_ BK253.out 0; have hcz10_1 := bc_ BK253.out 1; have hfz10_0 := blk_frozen BK253.out 0; have hfz10_1 := blk_frozen BK253.out 1; have p255 : 0 ≤ (t254 : Int) := of_decide_eq_true tq_3; have q255 : t254 < (l0_1.length : Int) := of_decide_eq_true tq_3; obtain ⟨ad255, e255, hx255_0, hx255_1, hx255_2⟩ := at_T206 HR0_1.out t254 p255 q255; cases e255; replace hx255_0 := hx_ HB.out hx255_0; replace hx255_1 := hx_ HB.out hx255_1; replace hx255_2 := hx_ HB.out hx255_2; replace p255 := eq_true p255; replace q255 := eq_true q255))
    repeat (go_quiet (first | ((with_reducible refine gate_dst (N := 2) rfl ?_); refine box_event ?hg (N := 2) ?hd (cs := #[.string a0_0, .slice A0_1 l0_1.length c0_1]) (t := 113) ?hr ?_; (case hd => rfl); (case hg => rfl); (case hr => first | (go_simp; done) | (go_simp; rfl)); intro gb253 hg w7 hbox hb; have z_ := p_ (below_step tq_0 hb) <| p_ (hbox) <| p_ (gb_ hg tq_0) <| a_ (gb_ hg tq_0); clear HB; obtain ⟨HB, BK253, GW253, GE253⟩ := z_; clear hb hbox hg; have hcz8_0 := bc_ BK253.out 0; have hcz8_1 := bc_ BK253.out 1; have hfz8_0 := blk_frozen BK253.out 0; have hfz8_1 := blk_frozen BK253.out 1) | (go_at_call 275; (with_reducible refine (spec_l10Cell.calls k a0_0 _ _ l0_1 a1 t254 _ ?side1 ?side2 A3.out).mono ?_); (case side1 => exact tq_4); (case side2 => exact HC0_1.out); rintro e w9 ⟨rfl, hb⟩; have z_ := p_ (blk_below tq_88 hb) <| a_ (below_step tq_54 hb); clear BK253 HB; obtain ⟨BK253, HB⟩ := z_; (try clear hb); (try clear hb2); (try clear hk); (try clear hi); have hcz10_0 := bc_ BK253.out 0; have hcz10_1 := bc_ BK253.out 1; have hfz10_0 := blk_frozen BK253.out 0; have hfz10_1 := blk_frozen BK253.out 1; have p255 : 0 ≤ (t254 : Int) := of_decide_eq_true tq_3; have q255 : t254 < (l0_1.length : Int) := of_decide_eq_true tq_3; obtain ⟨ad255, e255, hx255_0, hx255_1, hx255_2⟩ := at_T206 HR0_1.out t254 p255 q255; cases e255; replace hx255_0 := hx_ HB.out hx255_0; replace hx255_1 := hx_ HB.out hx255_1; replace hx255_2 := hx_ HB.out hx255_2; replace p255 := eq_true p255; replace q255 := eq_true q255)); try go_wp2_with (first | ((with_reducible refine gate_dst (N := 2) rfl ?_); refine box_event ?hg (N := 2) ?hd (cs := #[.string a0_0, .slice A0_1 l0_1.length c0_1]) (t := 113) ?hr ?_; (case hd => rfl); (case hg => rfl); (case hr => first | (go_simp; done) | (go_simp; rfl)); intro gb253 hg w7 hbox hb; have z_ := p_ (below_step tq_0 hb) <| p_ (hbox) <| p_ (gb_ hg tq_0) <| a_ (gb_ hg tq_0); clear HB; obtain ⟨HB, BK253, GW253, GE253⟩ := z_; clear hb hbox hg; have hcz8_0 := bc_ BK253.out 0; have hcz8_1 := bc_ BK253.out 1; have hfz8_0 := blk_frozen BK253.out 0; have hfz8_1 := blk_frozen BK253.out 1) | (go_at_call 275; (with_reducible refine (spec_l10Cell.calls k a0_0 _ _ l0_1 a1 t254 _ ?side1 ?side2 A3.out).mono ?_); (case side1 => exact tq_4); (case side2 => exact HC0_1.out); rintro e w9 ⟨rfl, hb⟩; have z_ := p_ (blk_below tq_88 hb) <| a_ (below_step tq_54 hb); clear BK253 HB; obtain ⟨BK253, HB⟩ := z_; (try clear hb); (try clear hb2); (try clear hk); (try clear hi); have hcz10_0 := bc_ BK253.out 0; have hcz10_1 := bc_ BK253.out 1; have hfz10_0 := blk_frozen BK253.out 0; have hfz10_1 := blk_frozen BK253.out 1; have p255 : 0 ≤ (t254 : Int) := of_decide_eq_true tq_3; have q255 : t254 < (l0_1.length : Int) := of_decide_eq_true tq_3; obtain ⟨ad255, e255, hx255_0, hx255_1, hx255_2⟩ := at_T206 HR0_1.out t254 p255 q255; cases e255; replace hx255_0 := hx_ HB.out hx255_0; replace hx255_1 := hx_ HB.out hx255_1; replace hx255_2 := hx_ HB.out hx255_2; replace p255 := eq_true p255; replace q255 := eq_true q255)))
    go_ret
    exact ⟨tq_2, tq_54⟩
   ·rw [if_neg c6] at H
    exact absurd H (by simp)
  ·rw [if_neg c5] at H
   exact absurd H (by simp)
 ·rw [if_neg c4] at H
  have c4b0 : decide (0 ≤ t254) = false := decide_eq_false c4
  clear c4
  replace H := Option.bind_eq_some_iff.mp H
  obtain ⟨t256, A110, H⟩ := H
  replace H : ((spec_l10Size.f).bind fun t257 => (if 0 ≤ (wrap64 (a1 * t256)) then (if (wrap64 (a1 * t256)) ≤ (wrap64 ((wrap64 (a1 + 1)) * t257)) then (if (wrap64 ((wrap64 (a1 + 1)) * t257)) ≤ (a0_0.size : Int) then ((some (a0_0.extract ((wrap64 (a1 * t256)) : Int).toNat ((wrap64 ((wrap64 (a1 + 1)) * t257)) : Int).toNat : ByteArray)).bind fun y258 => (some y258)) else (none)) else (none)) else (none))) = some r := H
  have A11 := Aside0.mk A110
  clear A110
  replace H := Option.bind_eq_some_iff.mp H
  obtain ⟨t257, A120, H⟩ := H
  replace H : (if 0 ≤ (wrap64 (a1 * t256)) then (if (wrap64 (a1 * t256)) ≤ (wrap64 ((wrap64 (a1 + 1)) * t257)) then (if (wrap64 ((wrap64 (a1 + 1)) * t257)) ≤ (a0_0.size : Int) then ((some (a0_0.extract ((wrap64 (a1 * t256)) : Int).toNat ((wrap64 ((wrap64 (a1 + 1)) * t257)) : Int).toNat : ByteArray)).bind fun y258 => (some y258)) else (none)) else (none)) else (none)) = some r := H
  have A12 := Aside0.mk A120
  clear A120
  have e_ : t256 = t257 := Option.some.inj (A11.out.symm.trans A12.out)
  subst e_
  obtain ⟨ji13, hji13⟩ : ∃ j_ : Int, (wrap64 (a1 * t256)) = j_ := ⟨_, rfl⟩
  replace H : (if 0 ≤ (ji13) then (if (ji13) ≤ (wrap64 ((wrap64 (a1 + 1)) * t256)) then (if (wrap64 ((wrap64 (a1 + 1)) * t256)) ≤ (a0_0.size : Int) then ((some (a0_0.extract ((ji13) : Int).toNat ((wrap64 ((wrap64 (a1 + 1)) * t256)) : Int).toNat : ByteArray)).bind fun y258 => (some y258)) else (none)) else (none)) else (none)) = some r := by first | (rw [hji13] at H; exact H) | (simp only [hji13] at H ⊢; exact H)
  (try rw [hji13] at A3)
  (try rw [hji13] at A11)
  (try rw [hji13] at A12)
  have hji13w : (IntKind.i64.wrap (a1 * t256)) = ji13 := (i64_w _).trans hji13
  by_cases c14 : 0 ≤ (ji13)
  ·rw [if_pos c14] at H
   have c14b0 := eq_true c14
   have c14b1 : decide (0 ≤ (ji13)) = true := decide_eq_true c14
   clear c14
   by_cases c15 : (ji13) ≤ (wrap64 ((wrap64 (a1 + 1)) * t256))
   ·rw [if_pos c15] at H
    have c15b0 := eq_true c15
    have c15b1 : decide ((ji13) ≤ (wrap64 ((wrap64 (a1 + 1)) * t256))) = true := decide_eq_true c15
    clear c15
    by_cases c16 : (wrap64 ((wrap64 (a1 + 1)) * t256)) ≤ (a0_0.size : Int)
    ·rw [if_pos c16] at H
     have c16b0 := eq_true c16
     have c16b1 : decide ((wrap64 ((wrap64 (a1 + 1)) * t256)) ≤ (a0_0.size : Int)) = true := decide_eq_true c16
     clear c16
     obtain ⟨y258, hy258⟩ : ∃ y_ : ByteArray, (a0_0.extract ((ji13) : Int).toNat ((wrap64 ((wrap64 (a1 + 1)) * t256)) : Int).toNat) = y_ := ⟨_, rfl⟩
     replace H : (some y258) = some r := by rw [← hy258]; exact (Option.bind_some _ _).symm.trans H
     obtain rfl := Option.some.inj H
     go_enter Try.func256, Try.ntmps256
     go_wp2_with (first | ((with_reducible refine gate_dst (N := 2) rfl ?_); refine box_event ?hg (N := 2) ?hd (cs := #[.string a0_0, .slice A0_1 l0_1.length c0_1]) (t := 113) ?hr ?_; (case hd => rfl); (case hg => rfl); (case hr => first | (go_simp; done) | (go_simp; rfl)); intro gb253 hg w17 hbox hb; have z_ := p_ (below_step tq_0 hb) <| p_ (hbox) <| p_ (gb_ hg tq_0) <| a_ (gb_ hg tq_0); clear HB; obtain ⟨HB, BK253, GW253, GE253⟩ := z_; clear hb hbox hg; have hcz18_0 := bc_ BK253.out 0; have hcz18_1 := bc_ BK253.out 1; have hfz18_0 := blk_frozen BK253.out 0; have hfz18_1 := blk_frozen BK253.out 1) | (go_at_call 275; (with_reducible refine (spec_l10Cell.calls k a0_0 _ _ l0_1 a1 t254 _ ?side1 ?side2 A3.out).mono ?_); (case side1 => exact tq_4); (case side2 => exact HC0_1.out); rintro e w19 ⟨rfl, hb⟩; have z_ := p_ (blk_below tq_88 hb) <| a_ (below_step tq_54 hb); clear BK253 HB; obtain ⟨BK253, HB⟩ := z_; (try clear hb); (try clear hb2); (try clear hk); (try clear hi); have hcz20_0 := bc_ BK253.out 0; have hcz20_1 := bc_ BK253.out 1; have hfz20_0 := blk_frozen BK253.out 0; have hfz20_1 := blk_frozen BK253.out 1) | (go_at_call 274; (with_reducible refine (spec_l10Size.calls  t256 _ A11.out).mono ?_); rintro e w' ⟨rfl, ⟨nd, rfl⟩⟩; (try first | exact ⟨rfl, _, World.drewN_drewN _ _ _⟩ | exact ⟨rfl, _, Eq.trans (World.drewN_drewN _ _ _) (congrArg (World.drewN _) (Nat.add_assoc _ _ _))⟩)) | (go_at_call 274; (with_reducible refine (spec_l10Size.calls  t256 _ A12.out).mono ?_); rintro e w' ⟨rfl, ⟨nd, rfl⟩⟩; (try first | exact ⟨rfl, _, World.drewN_drewN _ _ _⟩ | exact ⟨rfl, _, Eq.trans (World.drewN_drewN _ _ _) (congrArg (World.drewN _) (Nat.add_assoc _ _ _))⟩)))
     repeat (go_quiet (first | ((with_reducible refine gate_dst (N := 2) rfl ?_); refine box_event ?hg (N := 2) ?hd (cs := #[.string a0_0, .slice A0_1 l0_1.length c0_1]) (t := 113) ?hr ?_; (case hd => rfl); (case hg => rfl); (case hr => first | (go_simp; done) | (go_simp; rfl)); intro gb253 hg w17 hbox hb; have z_ := p_ (below_step tq_0 hb) <| p_ (hbox) <| p_ (gb_ hg tq_0) <| a_ (gb_ hg tq_0); clear HB; obtain ⟨HB, BK253, GW253, GE253⟩ := z_; clear hb hbox hg; have hcz18_0 := bc_ BK253.out 0; have hcz18_1 := bc_ BK253.out 1; have hfz18_0 := blk_frozen BK253.out 0; have hfz18_1 := blk_frozen BK253.out 1) | (go_at_call 275; (with_reducible refine (spec_l10Cell.calls k a0_0 _ _ l0_1 a1 t254 _ ?side1 ?side2 A3.out).mono ?_); (case side1 => exact tq_4); (case side2 => exact HC0_1.out); rintro e w19 ⟨rfl, hb⟩; have z_ := p_ (blk_below tq_88 hb) <| a_ (below_step tq_54 hb); clear BK253 HB; obtain ⟨BK253, HB⟩ := z_; (try clear hb); (try clear hb2); (try clear hk); (try clear hi); have hcz20_0 := bc_ BK253.out 0; have hcz20_1 := bc_ BK253.out 1; have hfz20_0 := blk_frozen BK253.out 0; have hfz20_1 := blk_frozen BK253.out 1) | (go_at_call 274; (with_reducible refine (spec_l10Size.calls  t256 _ A11.out).mono ?_); rintro e w' ⟨rfl, ⟨nd, rfl⟩⟩; (try first | exact ⟨rfl, _, World.drewN_drewN _ _ _⟩ | exact ⟨rfl, _, Eq.trans (World.drewN_drewN _ _ _) (congrArg (World.drewN _) (Nat.add_assoc _ _ _))⟩)) | (go_at_call 274; (with_reducible refine (spec_l10Size.calls  t256 _ A12.out).mono ?_); rintro e w' ⟨rfl, ⟨nd, rfl⟩⟩; (try first | exact ⟨rfl, _, World.drewN_drewN _ _ _⟩ | exact ⟨rfl, _, Eq.trans (World.drewN_drewN _ _ _) (congrArg (World.drewN _) (Nat.add_assoc _ _ _))⟩))); try go_wp2_with (first | ((with_reducible refine gate_dst (N := 2) rfl ?_); refine box_event ?hg (N := 2) ?hd (cs := #[.string a0_0, .slice A0_1 l0_1.length c0_1]) (t := 113) ?hr ?_; (case hd => rfl); (case hg => rfl); (case hr => first | (go_simp; done) | (go_simp; rfl)); intro gb253 hg w17 hbox hb; have z_ := p_ (below_step tq_0 hb) <| p_ (hbox) <| p_ (gb_ hg tq_0) <| a_ (gb_ hg tq_0); clear HB; obtain ⟨HB, BK253, GW253, GE253⟩ := z_; clear hb hbox hg; have hcz18_0 := bc_ BK253.out 0; have hcz18_1 := bc_ BK253.out 1; have hfz18_0 := blk_frozen BK253.out 0; have hfz18_1 := blk_frozen BK253.out 1) | (go_at_call 275; (with_reducible refine (spec_l10Cell.calls k a0_0 _ _ l0_1 a1 t254 _ ?side1 ?side2 A3.out).mono ?_); (case side1 => exact tq_4); (case side2 => exact HC0_1.out); rintro e w19 ⟨rfl, hb⟩; have z_ := p_ (blk_below tq_88 hb) <| a_ (below_step tq_54 hb); clear BK253 HB; obtain ⟨BK253, HB⟩ := z_; (try clear hb); (try clear hb2); (try clear hk); (try clear hi); have hcz20_0 := bc_ BK253.out 0; have hcz20_1 := bc_ BK253.out 1; have hfz20_0 := blk_frozen BK253.out 0; have hfz20_1 := blk_frozen BK253.out 1) | (go_at_call 274; (with_reducible refine (spec_l10Size.calls  t256 _ A11.out).mono ?_); rintro e w' ⟨rfl, ⟨nd, rfl⟩⟩; (try first | exact ⟨rfl, _, World.drewN_drewN _ _ _⟩ | exact ⟨rfl, _, Eq.trans (World.drewN_drewN _ _ _) (congrArg (World.drewN _) (Nat.add_assoc _ _ _))⟩)) | (go_at_call 274; (with_reducible refine (spec_l10Size.calls  t256 _ A12.out).mono ?_); rintro e w' ⟨rfl, ⟨nd, rfl⟩⟩; (try first | exact ⟨rfl, _, World.drewN_drewN _ _ _⟩ | exact ⟨rfl, _, Eq.trans (World.drewN_drewN _ _ _) (congrArg (World.drewN _) (Nat.add_assoc _ _ _))⟩))))
     go_ret
     exact ⟨(by first | rfl | (simp [errW_none, errW_some] <;> rfl) | (simp only [← hji13]; first | rfl | (simp [errW_none, errW_some] <;> rfl)) | (simp [*, errW_none, errW_some] <;> rfl)), tq_54⟩
    ·rw [if_neg c16] at H
     exact absurd H (by simp)
   ·rw [if_neg c15] at H
    exact absurd H (by simp)
  ·rw [if_neg c14] at H
   exact absurd H (by simp)

/-! ### spec_l10Word: function 231 -/
def spec_l10Word.f (k : Nat) (a0_0 : ByteArray) (l0_1 : List (S206)) (a1 : Int) : Option (ByteArray) := (spec_l10Line.f k a0_0 l0_1 (wrap64 (Int.tdiv a1 2))).bind fun t260 => (if 0 ≤ (wrap64 ((Int.tmod a1 2) * 8)) then (if (wrap64 ((Int.tmod a1 2) * 8)) ≤ (wrap64 ((wrap64 ((Int.tmod a1 2) * 8)) + 8)) then (if (wrap64 ((wrap64 ((Int.tmod a1 2) * 8)) + 8)) ≤ (t260.size : Int) then ((some (t260.extract ((wrap64 ((Int.tmod a1 2) * 8)) : Int).toNat ((wrap64 ((wrap64 ((Int.tmod a1 2) * 8)) + 8)) : Int).toNat : ByteArray)).bind fun y261 => (some y261)) else (none)) else (none)) else (none))
theorem spec_l10Word.mono : ∀ a0 a1 a2 k, LeO (spec_l10Word.f k a0 a1 a2) (spec_l10Word.f (k + 1) a0 a1 a2) := by
 intro a0 a1 a2 k
 unfold spec_l10Word.f
 repeat' first
   | (with_reducible exact spec_l10Line.mono ..)
   | (with_reducible exact LeO.refl _)
   | (with_reducible exact LeO.none _)
   | (with_reducible refine LeO.ite ?_ ?_)
   | (with_reducible refine LeO.bind ?_ (fun _ => ?_))
   | exact spec_l10Line.mono ..
   | exact LeO.none _
   | refine LeO.ite ?_ ?_
   | refine LeO.bind ?_ (fun _ => ?_)
set_option maxHeartbeats 8000000 in
set_option maxRecDepth 100000 in
theorem spec_l10Word.calls (k : Nat) (a0_0 : ByteArray) (A0_1 : Option Addr) (c0_1 : Nat) (l0_1 : List (S206)) (a1 : Int) (r : ByteArray) (w : World) (hr0_1 : Kd.C k206 w A0_1 l0_1.length l0_1) (hc0_1 : l0_1.length ≤ c0_1) (h : spec_l10Word.f k a0_0 l0_1 a1 = some r) :
  Calls Try.prog 231 #[.agg #[.string a0_0, .slice A0_1 l0_1.length c0_1], .int .i64 a1] w fun e w' => e = .returned (.string r) ∧ Below w.heap.size w w' := by
 have hu113 := Try.underlying113
 have HR0_1 := Aside0.mk hr0_1
 have HC0_1 := Aside0.mk hc0_1
 clear hr0_1 hc0_1
 have HB := Aside0.mk (Below.refl w.heap.size w)
 have H : ((spec_l10Line.f k a0_0 l0_1 (wrap64 (Int.tdiv a1 2))).bind fun t260 => (if 0 ≤ (wrap64 ((Int.tmod a1 2) * 8)) then (if (wrap64 ((Int.tmod a1 2) * 8)) ≤ (wrap64 ((wrap64 ((Int.tmod a1 2) * 8)) + 8)) then (if (wrap64 ((wrap64 ((Int.tmod a1 2) * 8)) + 8)) ≤ (t260.size : Int) then ((some (t260.extract ((wrap64 ((Int.tmod a1 2) * 8)) : Int).toNat ((wrap64 ((wrap64 ((Int.tmod a1 2) * 8)) + 8)) : Int).toNat : ByteArray)).bind fun y261 => (some y261)) else (none)) else (none)) else (none))) = some r := h
 clear h
 replace H := Option.bind_eq_some_iff.mp H
 obtain ⟨t260, A30, H⟩ := H
 replace H : (if 0 ≤ (wrap64 ((Int.tmod a1 2) * 8)) then (if (wrap64 ((Int.tmod a1 2) * 8)) ≤ (wrap64 ((wrap64 ((Int.tmod a1 2) * 8)) + 8)) then (if (wrap64 ((wrap64 ((Int.tmod a1 2) * 8)) + 8)) ≤ (t260.size : Int) then ((some (t260.extract ((wrap64 ((Int.tmod a1 2) * 8)) : Int).toNat ((wrap64 ((wrap64 ((Int.tmod a1 2) * 8)) + 8)) : Int).toNat : ByteArray)).bind fun y261 => (some y261)) else (none)) else (none)) else (none)) = some r := H
 have A3 := Aside0.mk A30
 clear A30
 obtain ⟨ji4, hji4⟩ : ∃ j_ : Int, (wrap64 ((Int.tmod a1 2) * 8)) = j_ := ⟨_, rfl⟩
 replace H : (if 0 ≤ (ji4) then (if (ji4) ≤ (wrap64 ((ji4) + 8)) then (if (wrap64 ((ji4) + 8)) ≤ (t260.size : Int) then ((some (t260.extract ((ji4) : Int).toNat ((wrap64 ((ji4) + 8)) : Int).toNat : ByteArray)).bind fun y261 => (some y261)) else (none)) else (none)) else (none)) = some r := by first | (rw [hji4] at H; exact H) | (simp only [hji4] at H ⊢; exact H)
 (try rw [hji4] at A3)
 have hji4w : (IntKind.i64.wrap ((Int.tmod a1 2) * 8)) = ji4 := (i64_w _).trans hji4
 by_cases c5 : 0 ≤ (ji4)
 ·rw [if_pos c5] at H
  have c5b0 := eq_true c5
  have c5b1 : decide (0 ≤ (ji4)) = true := decide_eq_true c5
  clear c5
  by_cases c6 : (ji4) ≤ (wrap64 ((ji4) + 8))
  ·rw [if_pos c6] at H
   have c6b0 := eq_true c6
   have c6b1 : decide ((ji4) ≤ (wrap64 ((ji4) + 8))) = true := decide_eq_true c6
   clear c6
   by_cases c7 : (wrap64 ((ji4) + 8)) ≤ (t260.size : Int)
   ·rw [if_pos c7] at H
    have c7b0 := eq_true c7
    have c7b1 : decide ((wrap64 ((ji4) + 8)) ≤ (t260.size : Int)) = true := decide_eq_true c7
    clear c7
    obtain ⟨y261, hy261⟩ : ∃ y_ : ByteArray, (t260.extract ((ji4) : Int).toNat ((wrap64 ((ji4) + 8)) : Int).toNat) = y_ := ⟨_, rfl⟩
    replace H : (some y261) = some r := by rw [← hy261]; exact (Option.bind_some _ _).symm.trans H
    obtain rfl := Option.some.inj H
    go_enter Try.func231, Try.ntmps231
    go_wp2_with (first | ((with_reducible refine gate_dst (N := 2) rfl ?_); refine box_event ?hg (N := 2) ?hd (cs := #[.string a0_0, .slice A0_1 l0_1.length c0_1]) (t := 113) ?hr ?_; (case hd => rfl); (case hg => rfl); (case hr => first | (go_simp; done) | (go_simp; rfl)); intro gb259 hg w8 hbox hb; have z_ := p_ (below_step tq_0 hb) <| p_ (hbox) <| p_ (gb_ hg tq_0) <| a_ (gb_ hg tq_0); clear HB; obtain ⟨HB, BK259, GW259, GE259⟩ := z_; clear hb hbox hg; have hcz9_0 := bc_ BK259.out 0; have hcz9_1 := bc_ BK259.out 1; have hfz9_0 := blk_frozen BK259.out 0; have hfz9_1 := blk_frozen BK259.out 1) | ((with_reducible refine gate_callee (f := 256) rfl ?_); refine goesL_ (some 10) rfl rfl Try.func256 (by kernel_rfl) rfl #[.agg #[.string a0_0, .slice A0_1 l0_1.length c0_1], .int .i64 (wrap64 (Int.tdiv a1 2))] rfl tq_1 ?_; (with_reducible refine (spec_l10Line.calls k a0_0 _ _ l0_1 (wrap64 (Int.tdiv a1 2)) t260 _ ?side1 ?side2 A3.out).mono ?_); (case side1 => exact tq_4); (case side2 => exact HC0_1.out); rintro e w10 ⟨rfl, hb⟩; refine ⟨_, rfl, ?_⟩; have z_ := p_ (blk_below (by (with_reducible repeat (first | refine blk_drewN ?_ _ | refine blk_drew ?_ | refine blk_alloc ?_ _)); exact BK259.out) hb) <| a_ (below_step tq_170 hb); clear BK259 HB; obtain ⟨BK259, HB⟩ := z_; (try clear hb); (try clear hb2); (try clear hk); (try clear hi)))
    go_ret
    exact ⟨tq_165, tq_170⟩
   ·rw [if_neg c7] at H
    exact absurd H (by simp)
  ·rw [if_neg c6] at H
   exact absurd H (by simp)
 ·rw [if_neg c5] at H
  exact absurd H (by simp)

/-! ### spec_PageText: function 203 -/
mutual
def spec_PageText.j0 : Nat → Int → Bool → ByteArray → List (S206) → Option (ByteArray)
 | 0, _, _, _, _ => none
 | k + 1, x9, x23, x263000, x263001 => if x23 = true then (some (⟨#[]⟩ : ByteArray)) else (spec_PageText.l0 k x9 (⟨#[]⟩ : ByteArray) 0 x263000 x263001)
def spec_PageText.l0 : Nat → Int → ByteArray → Int → ByteArray → List (S206) → Option (ByteArray)
 | 0, _, _, _, _, _ => none
 | k + 1, x9, x10, x11, x263000, x263001 => if x11 < 4 then ((spec_l10Word.f k x263000 x263001 (wrap64 (x9 + x11))).bind fun t266 => (if x10.size + t266.size ≤ 9223372036854775807 then ((some (x10 ++ t266 : ByteArray)).bind fun y267 => (spec_PageText.l0 k x9 y267 (wrap64 (x11 + 1)) x263000 x263001)) else (none))) else (some x10)
end
def spec_PageText.f (k : Nat) (a0_0 : ByteArray) (l0_1 : List (S206)) (a1_0 : Int) (a1_1 : Int) (a1_2 : Int) (a1_3 : Int) (a2 : Int) (a3 : Int) : Option (ByteArray) := (spec_PageAt.f a1_0 a1_1 a1_2 a1_3 a2 a3).bind fun t264 => (if t264 < 0 then (spec_PageText.j0 k t264 true a0_0 l0_1) else ((spec_l19Has.f k a0_0 l0_1 a1_0 a1_1 a1_2 a1_3).bind fun t265 => (spec_PageText.j0 k t264 (!t265) a0_0 l0_1)))
theorem spec_PageText.mono_l : ∀ k, (∀ y0 y1 y2 y3, LeO (spec_PageText.j0 k y0 y1 y2 y3) (spec_PageText.j0 (k + 1) y0 y1 y2 y3)) ∧ (∀ y0 y1 y2 y3 y4, LeO (spec_PageText.l0 k y0 y1 y2 y3 y4) (spec_PageText.l0 (k + 1) y0 y1 y2 y3 y4))
 | 0 => ⟨fun _ _ _ _ r h => by simp [spec_PageText.j0] at h, fun _ _ _ _ _ r h => by simp [spec_PageText.l0] at h⟩
 | k + 1 => by
  obtain ⟨ih0, ih1⟩ := spec_PageText.mono_l k
  refine ⟨?_, ?_⟩
  ·intro y0 y1 y2 y3
   unfold spec_PageText.j0
   repeat' first
   | (with_reducible exact ih0 ..)
   | (with_reducible exact ih1 ..)
   | (with_reducible exact spec_l10Word.mono ..)
   | (with_reducible exact spec_l19Has.mono ..)
   | (with_reducible exact LeO.refl _)
   | (with_reducible exact LeO.none _)
   | (with_reducible refine LeO.ite ?_ ?_)
   | (with_reducible refine LeO.bind ?_ (fun _ => ?_))
   | exact ih0 ..
   | exact ih1 ..
   | exact spec_l10Word.mono ..
   | exact spec_l19Has.mono ..
   | exact LeO.none _
   | refine LeO.ite ?_ ?_
   | refine LeO.bind ?_ (fun _ => ?_)
  ·intro y0 y1 y2 y3 y4
   unfold spec_PageText.l0
   repeat' first
   | (with_reducible exact ih0 ..)
   | (with_reducible exact ih1 ..)
   | (with_reducible exact spec_l10Word.mono ..)
   | (with_reducible exact spec_l19Has.mono ..)
   | (with_reducible exact LeO.refl _)
   | (with_reducible exact LeO.none _)
   | (with_reducible refine LeO.ite ?_ ?_)
   | (with_reducible refine LeO.bind ?_ (fun _ => ?_))
   | exact ih0 ..
   | exact ih1 ..
   | exact spec_l10Word.mono ..
   | exact spec_l19Has.mono ..
   | exact LeO.none _
   | refine LeO.ite ?_ ?_
   | refine LeO.bind ?_ (fun _ => ?_)
theorem spec_PageText.mono : ∀ a0 a1 a2 a3 a4 a5 a6 a7 k, LeO (spec_PageText.f k a0 a1 a2 a3 a4 a5 a6 a7) (spec_PageText.f (k + 1) a0 a1 a2 a3 a4 a5 a6 a7) := by
 intro a0 a1 a2 a3 a4 a5 a6 a7 k
 obtain ⟨ih0, ih1⟩ := spec_PageText.mono_l k
 unfold spec_PageText.f
 repeat' first
   | (with_reducible exact ih0 ..)
   | (with_reducible exact ih1 ..)
   | (with_reducible exact spec_l10Word.mono ..)
   | (with_reducible exact spec_l19Has.mono ..)
   | (with_reducible exact LeO.refl _)
   | (with_reducible exact LeO.none _)
   | (with_reducible refine LeO.ite ?_ ?_)
   | (with_reducible refine LeO.bind ?_ (fun _ => ?_))
   | exact ih0 ..
   | exact ih1 ..
   | exact spec_l10Word.mono ..
   | exact spec_l19Has.mono ..
   | exact LeO.none _
   | refine LeO.ite ?_ ?_
   | refine LeO.bind ?_ (fun _ => ?_)
set_option maxHeartbeats 8000000 in
set_option maxRecDepth 100000 in
theorem spec_PageText.calls (k : Nat) (a0_0 : ByteArray) (A0_1 : Option Addr) (c0_1 : Nat) (l0_1 : List (S206)) (a1_0 : Int) (a1_1 : Int) (a1_2 : Int) (a1_3 : Int) (a2 : Int) (a3 : Int) (r : ByteArray) (w : World) (hr0_1 : Kd.C k206 w A0_1 l0_1.length l0_1) (hc0_1 : l0_1.length ≤ c0_1) (h : spec_PageText.f k a0_0 l0_1 a1_0 a1_1 a1_2 a1_3 a2 a3 = some r) :
  Calls Try.prog 203 #[.agg #[.string a0_0, .slice A0_1 l0_1.length c0_1], .agg #[.int .i64 a1_0, .int .i64 a1_1, .int .i64 a1_2, .int .i64 a1_3], .int .i64 a2, .int .i64 a3] w fun e w' => e = .returned (.string r) ∧ Below w.heap.size w w' := by
 have hu113 := Try.underlying113
 have hu72 := Try.underlying72
 have HR0_1 := Aside0.mk hr0_1
 have HC0_1 := Aside0.mk hc0_1
 clear hr0_1 hc0_1
 have HB := Aside0.mk (Below.refl w.heap.size w)
 have H : ((spec_PageAt.f a1_0 a1_1 a1_2 a1_3 a2 a3).bind fun t264 => (if t264 < 0 then (spec_PageText.j0 k t264 true a0_0 l0_1) else ((spec_l19Has.f k a0_0 l0_1 a1_0 a1_1 a1_2 a1_3).bind fun t265 => (spec_PageText.j0 k t264 (!t265) a0_0 l0_1)))) = some r := h
 clear h
 replace H := Option.bind_eq_some_iff.mp H
 obtain ⟨t264, A50, H⟩ := H
 replace H : (if t264 < 0 then (spec_PageText.j0 k t264 true a0_0 l0_1) else ((spec_l19Has.f k a0_0 l0_1 a1_0 a1_1 a1_2 a1_3).bind fun t265 => (spec_PageText.j0 k t264 (!t265) a0_0 l0_1))) = some r := H
 have A5 := Aside0.mk A50
 clear A50
 have HC6 := Aside0.mk H
 clear H
 go_enter Try.func203, Try.ntmps203
 go_upto_region 2 with (first | ((with_reducible refine gate_dst (N := 4) rfl ?_); refine box_event ?hg (N := 4) ?hd (cs := #[.string a0_0, .slice A0_1 l0_1.length c0_1]) (t := 113) ?hr ?_; (case hd => rfl); (case hg => rfl); (case hr => first | (go_simp; done) | (go_simp; rfl)); intro gb262 hg w7 hbox hb; have z_ := p_ (below_step tq_0 hb) <| p_ (hbox) <| p_ (gb_ hg tq_0) <| a_ (gb_ hg tq_0); clear HB; obtain ⟨HB, BK262, GW262, GE262⟩ := z_; clear hb hbox hg) | ((with_reducible refine gate_dst (N := 5) rfl ?_); refine box_event ?hg (N := 5) ?hd (cs := #[.int .i64 a1_0, .int .i64 a1_1, .int .i64 a1_2, .int .i64 a1_3]) (t := 72) ?hr ?_; (case hd => rfl); (case hg => rfl); (case hr => first | (go_simp; done) | (go_simp; rfl)); intro gb263 hg w8 hbox hb; have z_ := p_ (blk_below tq_56 hb) <| p_ (below_step tq_137 hb) <| p_ (hbox) <| p_ (gb_ hg tq_137) <| p_ (gb_ hg tq_137) <| p_ (ltne_ hg (blk_lt tq_56)) <| a_ (gtne_ hg (blk_lt tq_56)); clear BK262 HB; obtain ⟨BK262, HB, BK263, GW263, GE263, NB262_263, NB263_262⟩ := z_; clear hb hbox hg; have hnb9 := NB263_262.out; have hnc9 := NB262_263.out; have hcz10_0 := bc_ BK263.out 0; have hcz10_1 := bc_ BK263.out 1; have hcz10_2 := bc_ BK263.out 2; have hcz10_3 := bc_ BK263.out 3; have hfz10_0 := blk_frozen BK263.out 0; have hfz10_1 := blk_frozen BK263.out 1; have hfz10_2 := blk_frozen BK263.out 2; have hfz10_3 := blk_frozen BK263.out 3) | ((with_reducible refine gate_callee (f := 229) rfl ?_); refine goesL_ (some 15) rfl rfl Try.func229 (by kernel_rfl) rfl #[.agg #[.int .i64 a1_0, .int .i64 a1_1, .int .i64 a1_2, .int .i64 a1_3], .int .i64 a2, .int .i64 a3] rfl tq_1 ?_; (with_reducible refine (spec_PageAt.calls a1_0 a1_1 a1_2 a1_3 a2 a3 t264 _ A5.out).mono ?_); rintro e w11 ⟨rfl, hb⟩; refine ⟨_, rfl, ?_⟩; have z_ := p_ (blk_below tq_56 hb) <| p_ (blk_below tq_73 hb) <| a_ (below_step tq_36 hb); clear BK262 BK263 HB; obtain ⟨BK262, BK263, HB⟩ := z_; (try clear hb); (try clear hb2); (try clear hk); (try clear hi)))
 (try simp only [Act.put, List.setIfInBounds_toArray, List.set_cons_zero, List.set_cons_succ])
 go_cut [23] (fun v23 wc => ∃ (kq : Nat) (x23_5 : Bool), v23 = .bool x23_5 ∧ Aside0 (spec_PageText.j0 kq t264 x23_5 a0_0 l0_1 = some r) ∧ Aside0 (kq ≤ k) ∧ Aside0 (wc.heap[gb262]? = some (.cells #[.string a0_0, (.slice A0_1 l0_1.length c0_1)] 113 (0, 0))) ∧ Aside0 (wc.heap[gb263]? = some (.cells #[.int .i64 a1_0, .int .i64 a1_1, .int .i64 a1_2, .int .i64 a1_3] 72 (0, 0))) ∧ Aside0 (Below w.heap.size w wc))
 case first =>
  have H := HC6.out
  clear HC6
  by_cases c12 : t264 < 0
  ·rw [if_pos c12] at H
   have c12b0 : decide (t264 < 0) = true := decide_eq_true c12
   clear c12
   (first | rw [c12b0] | (simp only [i64_w, i32_w]; rw [c12b0]) | skip)
   have H' := Aside0.mk H
   clear H
   go_wp2
   go_meet
   case rel => exact ⟨_, (true), tq_7, H', ⟨tq_189⟩, ⟨tq_56⟩, ⟨tq_73⟩, ⟨tq_36⟩⟩
  ·rw [if_neg c12] at H
   have c12b0 : decide (t264 < 0) = false := decide_eq_false c12
   clear c12
   (first | rw [c12b0] | (simp only [i64_w, i32_w]; rw [c12b0]) | skip)
   replace H := Option.bind_eq_some_iff.mp H
   obtain ⟨t265, A130, H⟩ := H
   replace H : (spec_PageText.j0 k t264 (!t265) a0_0 l0_1) = some r := H
   have A13 := Aside0.mk A130
   clear A130
   have H' := Aside0.mk H
   clear H
   have hnb14 := NB262_263.out
   have hnc14 := NB263_262.out
   have hcz15_0 := bc_ BK262.out 0
   have hcz15_1 := bc_ BK262.out 1
   have hfz15_0 := blk_frozen BK262.out 0
   have hfz15_1 := blk_frozen BK262.out 1
   have hcz16_0 := bc_ BK263.out 0
   have hcz16_1 := bc_ BK263.out 1
   have hcz16_2 := bc_ BK263.out 2
   have hcz16_3 := bc_ BK263.out 3
   have hfz16_0 := blk_frozen BK263.out 0
   have hfz16_1 := blk_frozen BK263.out 1
   have hfz16_2 := blk_frozen BK263.out 2
   have hfz16_3 := blk_frozen BK263.out 3
   go_wp2_with (first | (go_at_call 230; (with_reducible refine (spec_l19Has.calls k a0_0 _ _ l0_1 a1_0 a1_1 a1_2 a1_3 t265 _ ?side1 ?side2 A13.out).mono ?_); (case side1 => exact tq_4); (case side2 => exact HC0_1.out); rintro e w17 ⟨rfl, hb⟩; have z_ := p_ (blk_below tq_56 hb) <| p_ (blk_below tq_73 hb) <| a_ (below_step tq_36 hb); clear BK262 BK263 HB; obtain ⟨BK262, BK263, HB⟩ := z_; (try clear hb); (try clear hb2); (try clear hk); (try clear hi)))
   go_meet
   case rel => exact ⟨_, (!t265), tq_7, H', ⟨tq_189⟩, ⟨tq_56⟩, ⟨tq_73⟩, ⟨tq_36⟩⟩
 case rest =>
  clear HC6
  try clear c1
  try clear c2
  try clear p2
  try clear c9
  try clear c12
  try clear c12b0
  try clear c14
  try clear hcz10_0 hcz10_1 hcz10_2 hcz10_3
  try clear hcz15_0 hcz15_1
  try clear hcz16_0 hcz16_1 hcz16_2 hcz16_3
  try clear hfz10_0 hfz10_1 hfz10_2 hfz10_3
  try clear hfz15_0 hfz15_1
  try clear hfz16_0 hfz16_1 hfz16_2 hfz16_3
  obtain ⟨kq, x23_5, rfl, HA, HJ5, BK262, BK263, HB⟩ := hcut
  cases kq with
  | zero => exact absurd HA.out (by simp [spec_PageText.j0])
  | succ kj5 =>
   have H := HA.out
   clear HA
   simp only [spec_PageText.j0] at H
   by_cases c18 : x23_5 = true
   ·subst c18
    have H1 : (some (⟨#[]⟩ : ByteArray)) = some r := by rw [if_pos rfl] at H; exact H
    clear H
    have H := H1
    clear H1
    obtain rfl := Option.some.inj H
    go_wp2
    go_ret
    exact ⟨tq_2, tq_36⟩
   ·replace c18 := Bool.eq_false_iff.mpr c18
    subst c18
    have H1 : (spec_PageText.l0 kj5 t264 (⟨#[]⟩ : ByteArray) 0 a0_0 l0_1) = some r := by rw [if_neg (show ¬ (false = true) by decide)] at H; exact H
    clear H
    have H := H1
    clear H1
    have H' := Aside0.mk H
    clear H
    go_wp2
    go_loopg [10, 11] kj5 (fun kq v10 v11 w' => ∃ (x10_2 : ByteArray) (x11_2 : Int), v10 = .string x10_2 ∧ v11 = .int .i64 x11_2 ∧ Aside0 (spec_PageText.l0 kq t264 x10_2 x11_2 a0_0 l0_1 = some r) ∧ Aside0 (kq ≤ kj5) ∧ Aside0 (w'.heap[gb262]? = some (.cells #[.string a0_0, (.slice A0_1 l0_1.length c0_1)] 113 (0, 0))) ∧ Aside0 (w'.heap[gb263]? = some (.cells #[.int .i64 a1_0, .int .i64 a1_1, .int .i64 a1_2, .int .i64 a1_3] 72 (0, 0))) ∧ Aside0 (Below w.heap.size w w'))
    case atStart => exact ⟨((⟨#[]⟩ : ByteArray)), (0), tq_7, tq_7, H', ⟨Nat.le_refl _⟩, ⟨tq_56⟩, ⟨tq_73⟩, ⟨tq_36⟩⟩
    case round =>
     clear H'
     try clear c1
     try clear c2
     try clear p2
     try clear c9
     try clear c12
     try clear c12b0
     try clear c14
     try clear c18
     try clear hcz10_0 hcz10_1 hcz10_2 hcz10_3
     try clear hcz15_0 hcz15_1
     try clear hcz16_0 hcz16_1 hcz16_2 hcz16_3
     try clear hfz10_0 hfz10_1 hfz10_2 hfz10_3
     try clear hfz15_0 hfz15_1
     try clear hfz16_0 hfz16_1 hfz16_2 hfz16_3
     try clear p2
     obtain ⟨x10_2, x11_2, rfl, rfl, HA, HK2, BK262, BK263, HB⟩ := hrel
     cases gk with
     | zero => exact absurd HA.out (by simp [spec_PageText.l0])
     | succ k2 =>
      have H := HA.out
      clear HA
      simp only [spec_PageText.l0] at H
      by_cases c19 : x11_2 < 4
      ·rw [if_pos c19] at H
       have c19b0 : decide (x11_2 < 4) = true := decide_eq_true c19
       clear c19
       replace H := Option.bind_eq_some_iff.mp H
       obtain ⟨t266, A200, H⟩ := H
       replace H : (if x10_2.size + t266.size ≤ 9223372036854775807 then ((some (x10_2 ++ t266 : ByteArray)).bind fun y267 => (spec_PageText.l0 k2 t264 y267 (wrap64 (x11_2 + 1)) a0_0 l0_1)) else (none)) = some r := H
       have A20 := Aside0.mk A200
       clear A200
       by_cases c21 : x10_2.size + t266.size ≤ 9223372036854775807
       ·rw [if_pos c21] at H
        have c21b0 := eq_true c21
        have c21b1 : decide (x10_2.size + t266.size ≤ 9223372036854775807) = true := decide_eq_true c21
        try have c21b2 : (9223372036854775807 < x10_2.size + t266.size) = False := eq_false (Nat.not_lt.2 c21)
        clear c21
        obtain ⟨y267, hy267⟩ : ∃ y_ : ByteArray, (x10_2 ++ t266) = y_ := ⟨_, rfl⟩
        replace H : (spec_PageText.l0 k2 t264 y267 (wrap64 (x11_2 + 1)) a0_0 l0_1) = some r := by rw [← hy267]; exact (Option.bind_some _ _).symm.trans H
        have H' := Aside0.mk H
        clear H
        have hnb22 := NB262_263.out
        have hnc22 := NB263_262.out
        have hcz23_0 := bc_ BK262.out 0
        have hcz23_1 := bc_ BK262.out 1
        have hfz23_0 := blk_frozen BK262.out 0
        have hfz23_1 := blk_frozen BK262.out 1
        go_wp2_with (first | ((with_reducible refine gate_callee (f := 231) rfl ?_); refine goesL_ (some 33) rfl rfl Try.func231 (by kernel_rfl) rfl #[.agg #[.string a0_0, .slice A0_1 l0_1.length c0_1], .int .i64 (wrap64 (t264 + x11_2))] rfl tq_1 ?_; (with_reducible refine (spec_l10Word.calls k2 a0_0 _ _ l0_1 (wrap64 (t264 + x11_2)) t266 _ ?side1 ?side2 A20.out).mono ?_); (case side1 => exact tq_4); (case side2 => exact HC0_1.out); rintro e w24 ⟨rfl, hb⟩; refine ⟨_, rfl, ?_⟩; have z_ := p_ (blk_below tq_56 hb) <| p_ (blk_below tq_73 hb) <| a_ (below_step tq_36 hb); clear BK262 BK263 HB; obtain ⟨BK262, BK263, HB⟩ := z_; (try clear hb); (try clear hb2); (try clear hk); (try clear hi)))
        go_roundg k2
        case measure => have := HJ5.out; have := HK2.out; omega
        case rel => exact ⟨(y267), (wrap64 (x11_2 + 1)), tq_7, tq_7, H', ⟨(by have := HJ5.out; have := HK2.out; omega)⟩, ⟨tq_56⟩, ⟨tq_73⟩, ⟨tq_36⟩⟩
       ·rw [if_neg c21] at H
        exact absurd H (by simp)
      ·rw [if_neg c19] at H
       have c19b0 : decide (x11_2 < 4) = false := decide_eq_false c19
       clear c19
       obtain rfl := Option.some.inj H
       go_wp2
       go_ret
       exact ⟨tq_2, tq_36⟩

/-! ### spec_ZeroPage: function 157 -/
def spec_ZeroPage.f (k : Nat) (a0_0 : ByteArray) (l0_1 : List (S206)) (a1_0 : Int) (a1_1 : Int) (a1_2 : Int) (a1_3 : Int) (a2 : Int) (a3 : Int) : Option (Bool) := (spec_PageText.f k a0_0 l0_1 a1_0 a1_1 a1_2 a1_3 a2 a3).bind fun t270 => ((spec_ZeroText.f k 32).bind fun t271 => (some (t270.toList == t271.toList)))
theorem spec_ZeroPage.mono : ∀ a0 a1 a2 a3 a4 a5 a6 a7 k, LeO (spec_ZeroPage.f k a0 a1 a2 a3 a4 a5 a6 a7) (spec_ZeroPage.f (k + 1) a0 a1 a2 a3 a4 a5 a6 a7) := by
 intro a0 a1 a2 a3 a4 a5 a6 a7 k
 unfold spec_ZeroPage.f
 repeat' first
   | (with_reducible exact spec_PageText.mono ..)
   | (with_reducible exact spec_ZeroText.mono ..)
   | (with_reducible exact LeO.refl _)
   | (with_reducible exact LeO.none _)
   | (with_reducible refine LeO.ite ?_ ?_)
   | (with_reducible refine LeO.bind ?_ (fun _ => ?_))
   | exact spec_PageText.mono ..
   | exact spec_ZeroText.mono ..
   | exact LeO.none _
   | refine LeO.ite ?_ ?_
   | refine LeO.bind ?_ (fun _ => ?_)
set_option maxHeartbeats 8000000 in
set_option maxRecDepth 100000 in
theorem spec_ZeroPage.calls (k : Nat) (a0_0 : ByteArray) (A0_1 : Option Addr) (c0_1 : Nat) (l0_1 : List (S206)) (a1_0 : Int) (a1_1 : Int) (a1_2 : Int) (a1_3 : Int) (a2 : Int) (a3 : Int) (r : Bool) (w : World) (hr0_1 : Kd.C k206 w A0_1 l0_1.length l0_1) (hc0_1 : l0_1.length ≤ c0_1) (h : spec_ZeroPage.f k a0_0 l0_1 a1_0 a1_1 a1_2 a1_3 a2 a3 = some r) :
  Calls Try.prog 157 #[.agg #[.string a0_0, .slice A0_1 l0_1.length c0_1], .agg #[.int .i64 a1_0, .int .i64 a1_1, .int .i64 a1_2, .int .i64 a1_3], .int .i64 a2, .int .i64 a3] w fun e w' => e = .returned (.bool r) ∧ Below w.heap.size w w' := by
 have hu113 := Try.underlying113
 have hu72 := Try.underlying72
 have HR0_1 := Aside0.mk hr0_1
 have HC0_1 := Aside0.mk hc0_1
 clear hr0_1 hc0_1
 have HB := Aside0.mk (Below.refl w.heap.size w)
 have H : ((spec_PageText.f k a0_0 l0_1 a1_0 a1_1 a1_2 a1_3 a2 a3).bind fun t270 => ((spec_ZeroText.f k 32).bind fun t271 => (some (t270.toList == t271.toList)))) = some r := h
 clear h
 replace H := Option.bind_eq_some_iff.mp H
 obtain ⟨t270, A50, H⟩ := H
 replace H : ((spec_ZeroText.f k 32).bind fun t271 => (some (t270.toList == t271.toList))) = some r := H
 have A5 := Aside0.mk A50
 clear A50
 replace H := Option.bind_eq_some_iff.mp H
 obtain ⟨t271, A60, H⟩ := H
 replace H : (some (t270.toList == t271.toList)) = some r := H
 have A6 := Aside0.mk A60
 clear A60
 obtain rfl := Option.some.inj H
 go_enter Try.func157, Try.ntmps157
 go_wp2_with (first | ((with_reducible refine gate_dst (N := 4) rfl ?_); refine box_event ?hg (N := 4) ?hd (cs := #[.string a0_0, .slice A0_1 l0_1.length c0_1]) (t := 113) ?hr ?_; (case hd => rfl); (case hg => rfl); (case hr => first | (go_simp; done) | (go_simp; rfl)); intro gb268 hg w7 hbox hb; have z_ := p_ (below_step tq_0 hb) <| p_ (hbox) <| p_ (gb_ hg tq_0) <| a_ (gb_ hg tq_0); clear HB; obtain ⟨HB, BK268, GW268, GE268⟩ := z_; clear hb hbox hg) | ((with_reducible refine gate_dst (N := 5) rfl ?_); refine box_event ?hg (N := 5) ?hd (cs := #[.int .i64 a1_0, .int .i64 a1_1, .int .i64 a1_2, .int .i64 a1_3]) (t := 72) ?hr ?_; (case hd => rfl); (case hg => rfl); (case hr => first | (go_simp; done) | (go_simp; rfl)); intro gb269 hg w8 hbox hb; have z_ := p_ (blk_below tq_108 hb) <| p_ (below_step tq_136 hb) <| p_ (hbox) <| p_ (gb_ hg tq_136) <| p_ (gb_ hg tq_136) <| p_ (ltne_ hg (blk_lt tq_108)) <| a_ (gtne_ hg (blk_lt tq_108)); clear BK268 HB; obtain ⟨BK268, HB, BK269, GW269, GE269, NB268_269, NB269_268⟩ := z_; clear hb hbox hg; have hnb9 := NB268_269.out; have hnc9 := NB269_268.out; have hcz10_0 := bc_ BK268.out 0; have hcz10_1 := bc_ BK268.out 1; have hfz10_0 := blk_frozen BK268.out 0; have hfz10_1 := blk_frozen BK268.out 1; have hcz11_0 := bc_ BK269.out 0; have hcz11_1 := bc_ BK269.out 1; have hcz11_2 := bc_ BK269.out 2; have hcz11_3 := bc_ BK269.out 3; have hfz11_0 := blk_frozen BK269.out 0; have hfz11_1 := blk_frozen BK269.out 1; have hfz11_2 := blk_frozen BK269.out 2; have hfz11_3 := blk_frozen BK269.out 3) | ((with_reducible refine gate_callee (f := 203) rfl ?_); refine goesL_ (some 13) rfl rfl Try.func203 (by kernel_rfl) rfl #[.agg #[.string a0_0, .slice A0_1 l0_1.length c0_1], .agg #[.int .i64 a1_0, .int .i64 a1_1, .int .i64 a1_2, .int .i64 a1_3], .int .i64 a2, .int .i64 a3] rfl tq_1 ?_; (with_reducible refine (spec_PageText.calls k a0_0 _ _ l0_1 a1_0 a1_1 a1_2 a1_3 a2 a3 t270 _ ?side1 ?side2 A5.out).mono ?_); (case side1 => exact tq_4); (case side2 => exact HC0_1.out); rintro e w12 ⟨rfl, hb⟩; refine ⟨_, rfl, ?_⟩; have z_ := p_ (blk_below tq_108 hb) <| p_ (blk_below (by (with_reducible repeat (first | refine blk_drewN ?_ _ | refine blk_drew ?_ | refine blk_alloc ?_ _)); exact BK269.out) hb) <| a_ (below_step tq_118 hb); clear BK268 BK269 HB; obtain ⟨BK268, BK269, HB⟩ := z_; (try clear hb); (try clear hb2); (try clear hk); (try clear hi)) | ((with_reducible refine gate_callee (f := 152) rfl ?_); refine goesL_ (some 14) rfl rfl Try.func152 (by kernel_rfl) rfl #[.int .i64 32] rfl tq_1 ?_; (with_reducible refine (spec_ZeroText.calls k 32 t271 _ A6.out).mono ?_); rintro e w13 ⟨rfl, hb⟩; refine ⟨_, rfl, ?_⟩; have z_ := p_ (blk_below tq_108 hb) <| p_ (blk_below (by (with_reducible repeat (first | refine blk_drewN ?_ _ | refine blk_drew ?_ | refine blk_alloc ?_ _)); exact BK269.out) hb) <| a_ (below_step tq_118 hb); clear BK268 BK269 HB; obtain ⟨BK268, BK269, HB⟩ := z_; (try clear hb); (try clear hb2); (try clear hk); (try clear hi)))
 go_ret
 exact ⟨tq_2, tq_118⟩

/-! ### spec_CleanOk: function 74 -/
def spec_CleanOk.l0 : Nat → Int → List Int → Int → ByteArray → List (S206) → Int → Int → Int → Int → Option (Bool)
 | 0, _, _, _, _, _, _, _, _, _ => none
 | k + 1, x2, x9, x10, x273000, x273001, x274000, x274001, x274002, x274003 => if x10 < (x9.length : Int) then (if 0 ≤ x10 then ((spec_ZeroPage.f k x273000 x273001 x274000 x274001 x274002 x274003 x2 (rd x9 x10)).bind fun t279 => (if t279 = true then (spec_CleanOk.l0 k x2 x9 (wrap64 (x10 + 1)) x273000 x273001 x274000 x274001 x274002 x274003) else (some false))) else (none)) else (some true)
def spec_CleanOk.f (k : Nat) (a0_0 : ByteArray) (l0_1 : List (S206)) (a1_0 : Int) (a1_1 : Int) (a1_2 : Int) (a1_3 : Int) (a2 : Int) (a3_0 : Int) (l3_1 : List Int) (l3_2 : List (S49)) : Option (Bool) := (spec_PagesWith.f k l3_1 0).bind fun t275 => (spec_CleanOk.l0 k a2 t275 0 a0_0 l0_1 a1_0 a1_1 a1_2 a1_3)
theorem spec_CleanOk.mono_l : ∀ k, (∀ y0 y1 y2 y3 y4 y5 y6 y7 y8, LeO (spec_CleanOk.l0 k y0 y1 y2 y3 y4 y5 y6 y7 y8) (spec_CleanOk.l0 (k + 1) y0 y1 y2 y3 y4 y5 y6 y7 y8))
 | 0 => fun _ _ _ _ _ _ _ _ _ r h => by simp [spec_CleanOk.l0] at h
 | k + 1 => by
  have ih0 := spec_CleanOk.mono_l k
  ·intro y0 y1 y2 y3 y4 y5 y6 y7 y8
   unfold spec_CleanOk.l0
   repeat' first
   | (with_reducible exact ih0 ..)
   | (with_reducible exact spec_PagesWith.mono ..)
   | (with_reducible exact spec_ZeroPage.mono ..)
   | (with_reducible exact LeO.refl _)
   | (with_reducible exact LeO.none _)
   | (with_reducible refine LeO.ite ?_ ?_)
   | (with_reducible refine LeO.bind ?_ (fun _ => ?_))
   | exact ih0 ..
   | exact spec_PagesWith.mono ..
   | exact spec_ZeroPage.mono ..
   | exact LeO.none _
   | refine LeO.ite ?_ ?_
   | refine LeO.bind ?_ (fun _ => ?_)
theorem spec_CleanOk.mono : ∀ a0 a1 a2 a3 a4 a5 a6 a7 a8 a9 k, LeO (spec_CleanOk.f k a0 a1 a2 a3 a4 a5 a6 a7 a8 a9) (spec_CleanOk.f (k + 1) a0 a1 a2 a3 a4 a5 a6 a7 a8 a9) := by
 intro a0 a1 a2 a3 a4 a5 a6 a7 a8 a9 k
 have ih0 := spec_CleanOk.mono_l k
 unfold spec_CleanOk.f
 repeat' first
   | (with_reducible exact ih0 ..)
   | (with_reducible exact spec_PagesWith.mono ..)
   | (with_reducible exact spec_ZeroPage.mono ..)
   | (with_reducible exact LeO.refl _)
   | (with_reducible exact LeO.none _)
   | (with_reducible refine LeO.ite ?_ ?_)
   | (with_reducible refine LeO.bind ?_ (fun _ => ?_))
   | exact ih0 ..
   | exact spec_PagesWith.mono ..
   | exact spec_ZeroPage.mono ..
   | exact LeO.none _
   | refine LeO.ite ?_ ?_
   | refine LeO.bind ?_ (fun _ => ?_)
def spec_CleanOk.T5 : Bool × List (List Nat × List Nat) := (true, [([], []), ([], []), ([], []), ([], []), ([], []), ([3, 4], [3, 4]), ([5], [5]), ([0, 1, 2, 6], [0, 1, 2, 6]), ([7], [7])])
def spec_CleanOk.B5 : List Nat := [0, 0, 0, 0, 0, 24, 56, 127, 255]
theorem spec_CleanOk.tab5 : rtab .any (opsOf Try.f74 5) = spec_CleanOk.T5 := by kernel_rfl
theorem spec_CleanOk.bits5 : waitsOk spec_CleanOk.T5.2 spec_CleanOk.B5 = true := by kernel_rfl
set_option maxHeartbeats 8000000 in
set_option maxRecDepth 100000 in
theorem spec_CleanOk.calls (k : Nat) (a0_0 : ByteArray) (A0_1 : Option Addr) (c0_1 : Nat) (l0_1 : List (S206)) (a1_0 : Int) (a1_1 : Int) (a1_2 : Int) (a1_3 : Int) (a2 : Int) (a3_0 : Int) (A3_1 : Option Addr) (c3_1 : Nat) (l3_1 : List Int) (A3_2 : Option Addr) (c3_2 : Nat) (l3_2 : List (S49)) (r : Bool) (w : World) (hr0_1 : Kd.C k206 w A0_1 l0_1.length l0_1) (hc0_1 : l0_1.length ≤ c0_1) (hr3_1 : Kd.C (Kd.int .i64) w A3_1 l3_1.length l3_1) (hc3_1 : l3_1.length ≤ c3_1) (hr3_2 : Kd.C k49 w A3_2 l3_2.length l3_2) (hc3_2 : l3_2.length ≤ c3_2) (h : spec_CleanOk.f k a0_0 l0_1 a1_0 a1_1 a1_2 a1_3 a2 a3_0 l3_1 l3_2 = some r) :
  Calls Try.prog 74 #[.agg #[.string a0_0, .slice A0_1 l0_1.length c0_1], .agg #[.int .i64 a1_0, .int .i64 a1_1, .int .i64 a1_2, .int .i64 a1_3], .int .i64 a2, .agg #[.int .i64 a3_0, .slice A3_1 l3_1.length c3_1, .slice A3_2 l3_2.length c3_2]] w fun e w' => e = .returned (.bool r) ∧ Below w.heap.size w w' := by
 have hu113 := Try.underlying113
 have hu72 := Try.underlying72
 have hu69 := Try.underlying69
 have HR0_1 := Aside0.mk hr0_1
 have HC0_1 := Aside0.mk hc0_1
 clear hr0_1 hc0_1
 have HR3_1 := Aside0.mk hr3_1
 have HC3_1 := Aside0.mk hc3_1
 clear hr3_1 hc3_1
 have HR3_2 := Aside0.mk hr3_2
 have HC3_2 := Aside0.mk hc3_2
 clear hr3_2 hc3_2
 have HB := Aside0.mk (Below.refl w.heap.size w)
 have H : ((spec_PagesWith.f k l3_1 0).bind fun t275 => (spec_CleanOk.l0 k a2 t275 0 a0_0 l0_1 a1_0 a1_1 a1_2 a1_3)) = some r := h
 clear h
 replace H := Option.bind_eq_some_iff.mp H
 obtain ⟨t275, A50, H⟩ := H
 replace H : (spec_CleanOk.l0 k a2 t275 0 a0_0 l0_1 a1_0 a1_1 a1_2 a1_3) = some r := H
 have A5 := Aside0.mk A50
 clear A50
 have H' := Aside0.mk H
 clear H
 go_enter Try.func74, Try.ntmps74
 go_wp2_with (first | ((with_reducible refine gate_dst (N := 4) rfl ?_); refine box_event ?hg (N := 4) ?hd (cs := #[.string a0_0, .slice A0_1 l0_1.length c0_1]) (t := 113) ?hr ?_; (case hd => rfl); (case hg => rfl); (case hr => first | (go_simp; done) | (go_simp; rfl)); intro gb272 hg w6 hbox hb; have z_ := p_ (below_step tq_0 hb) <| p_ (hbox) <| p_ (gb_ hg tq_0) <| a_ (gb_ hg tq_0); clear HB; obtain ⟨HB, BK272, GW272, GE272⟩ := z_; clear hb hbox hg) | ((with_reducible refine gate_dst (N := 5) rfl ?_); refine box_event ?hg (N := 5) ?hd (cs := #[.int .i64 a1_0, .int .i64 a1_1, .int .i64 a1_2, .int .i64 a1_3]) (t := 72) ?hr ?_; (case hd => rfl); (case hg => rfl); (case hr => first | (go_simp; done) | (go_simp; rfl)); intro gb273 hg w7 hbox hb; have z_ := p_ (blk_below tq_52 hb) <| p_ (below_step tq_135 hb) <| p_ (hbox) <| p_ (gb_ hg tq_135) <| p_ (gb_ hg tq_135) <| p_ (ltne_ hg (blk_lt tq_52)) <| a_ (gtne_ hg (blk_lt tq_52)); clear BK272 HB; obtain ⟨BK272, HB, BK273, GW273, GE273, NB272_273, NB273_272⟩ := z_; clear hb hbox hg) | ((with_reducible refine gate_dst (N := 7) rfl ?_); refine box_event ?hg (N := 7) ?hd (cs := #[.int .i64 a3_0, .slice A3_1 l3_1.length c3_1, .slice A3_2 l3_2.length c3_2]) (t := 69) ?hr ?_; (case hd => rfl); (case hg => rfl); (case hr => first | (go_simp; done) | (go_simp; rfl)); intro gb274 hg w8 hbox hb; have z_ := p_ (blk_below tq_52 hb) <| p_ (blk_below tq_69 hb) <| p_ (below_step tq_117 hb) <| p_ (hbox) <| p_ (gb_ hg tq_117) <| p_ (gb_ hg tq_117) <| p_ (ltne_ hg (blk_lt tq_52)) <| p_ (gtne_ hg (blk_lt tq_52)) <| p_ (ltne_ hg (blk_lt tq_69)) <| a_ (gtne_ hg (blk_lt tq_69)); clear BK272 BK273 HB; obtain ⟨BK272, BK273, HB, BK274, GW274, GE274, NB272_274, NB274_272, NB273_274, NB274_273⟩ := z_; clear hb hbox hg; have hnb9 := NB274_272.out; have hnc9 := NB272_274.out; have hnb10 := NB274_273.out; have hnc10 := NB273_274.out; have hcz11_0 := bc_ BK274.out 0; have hcz11_1 := bc_ BK274.out 1; have hcz11_2 := bc_ BK274.out 2; have hfz11_0 := blk_frozen BK274.out 0; have hfz11_1 := blk_frozen BK274.out 1; have hfz11_2 := blk_frozen BK274.out 2) | ((with_reducible refine gate_callee (f := 66) rfl ?_); refine goesL_ (some 13) rfl rfl Try.func66 (by kernel_rfl) rfl #[.slice A3_1 l3_1.length c3_1, .int .i64 0] rfl tq_1 ?_; (with_reducible refine (spec_PagesWith.calls k _ _ l3_1 0 t275 _ ?side1 ?side2 A5.out).mono ?_); (case side1 => exact tq_66); (case side2 => exact HC3_1.out); rintro e w12 ⟨v276, rfl, ho0, hb⟩; refine ⟨_, rfl, ?_⟩; have z_ := p_ (Kd.R_lower ho0 (below_size tq_33)) <| p_ (blk_below tq_52 hb) <| p_ (blk_below tq_69 hb) <| p_ (blk_below tq_107 hb) <| a_ (below_step tq_33 hb); clear BK272 BK273 BK274 HB; obtain ⟨HO277, BK272, BK273, BK274, HB⟩ := z_; (try clear hb); (try clear hb2); (try clear hk); (try clear hi); (try clear ho0)))
 go_loopg [10] k (fun kq v10 w' => ∃ (x10_1 : Int), v10 = .int .i64 x10_1 ∧ Aside0 (spec_CleanOk.l0 kq a2 t275 x10_1 a0_0 l0_1 a1_0 a1_1 a1_2 a1_3 = some r) ∧ Aside0 (kq ≤ k) ∧ Aside0 (Kd.R (Kd.int .i64) 3 w' w.heap.size (fun _ => True) v276 t275) ∧ Aside0 (w'.heap[gb272]? = some (.cells #[.string a0_0, (.slice A0_1 l0_1.length c0_1)] 113 (0, 0))) ∧ Aside0 (w'.heap[gb273]? = some (.cells #[.int .i64 a1_0, .int .i64 a1_1, .int .i64 a1_2, .int .i64 a1_3] 72 (0, 0))) ∧ Aside0 (w'.heap[gb274]? = some (.cells #[.int .i64 a3_0, (.slice A3_1 l3_1.length c3_1), (.slice A3_2 l3_2.length c3_2)] 69 (0, 0))) ∧ Aside0 (Below w.heap.size w w'))
 case atStart => exact ⟨(0), tq_7, H', ⟨Nat.le_refl _⟩, ⟨(by (with_reducible repeat (first | apply Kd.R_alloc | apply Kd.R_drewN | apply Kd.R_drew)); exact HO277.out)⟩, ⟨tq_52⟩, ⟨tq_69⟩, ⟨tq_107⟩, ⟨tq_33⟩⟩
 case round =>
  clear H'
  try clear c1
  try clear p2
  try clear c3
  try clear c6
  try clear c7
  try clear c9
  try clear c10
  try clear hcz11_0 hcz11_1 hcz11_2 hfz11_0 hfz11_1 hfz11_2
  obtain ⟨x10_1, rfl, HA, HK1, HO_9, BK272, BK273, BK274, HB⟩ := hrel
  cases gk with
  | zero => exact absurd HA.out (by simp [spec_CleanOk.l0])
  | succ k1 =>
   have H := HA.out
   clear HA
   simp only [spec_CleanOk.l0] at H
   by_cases c13 : x10_1 < (t275.length : Int)
   ·rw [if_pos c13] at H
    have c13b0 : decide (x10_1 < (t275.length : Int)) = true := decide_eq_true c13
    clear c13
    by_cases c14 : 0 ≤ x10_1
    ·rw [if_pos c14] at H
     have c14b0 : decide (0 ≤ x10_1) = true := decide_eq_true c14
     clear c14
     replace H := Option.bind_eq_some_iff.mp H
     obtain ⟨t279, A150, H⟩ := H
     replace H : (if t279 = true then (spec_CleanOk.l0 k1 a2 t275 (wrap64 (x10_1 + 1)) a0_0 l0_1 a1_0 a1_1 a1_2 a1_3) else (some false)) = some r := H
     have A15 := Aside0.mk A150
     clear A150
     by_cases c16 : t279 = true
     ·subst c16
      have H1 : (spec_CleanOk.l0 k1 a2 t275 (wrap64 (x10_1 + 1)) a0_0 l0_1 a1_0 a1_1 a1_2 a1_3) = some r := by rw [if_pos rfl] at H; exact H
      clear H
      have H := H1
      clear H1
      have H' := Aside0.mk H
      clear H
      obtain ⟨Ao17, co17, eo17⟩ := Kd.R_slice HO_9.out
      subst eo17
      try go_wp2
      have z_ := p_ (Kd.R_drew HO_9.out) <| p_ (blk_drew BK272.out) <| p_ (blk_drew BK273.out) <| p_ (blk_drew BK274.out) <| a_ (below_drew1 HB.out)
      clear HO_9 BK272 BK273 BK274 HB
      obtain ⟨HO_9, BK272, BK273, BK274, HB⟩ := z_
      have p278 : 0 ≤ (x10_1 : Int) := of_decide_eq_true tq_3
      have q278 : x10_1 < (t275.length : Int) := of_decide_eq_true tq_3
      obtain ⟨ad278, e278, hx278_0⟩ := Kd.at_int (Kd.R_reads' HO_9.out).2.2 x10_1 p278 q278
      cases e278
      replace p278 := eq_true p278
      replace q278 := eq_true q278
      refine start_ (n := 9) (S := fun w' => w'.cell? ⟨gb272, 0, none⟩ = some (.string a0_0) ∧ w'.cell? ⟨gb272, 1, none⟩ = some (.slice A0_1 l0_1.length c0_1) ∧ w'.cell? ⟨gb273, 0, none⟩ = some (.int .i64 a1_0) ∧ w'.cell? ⟨gb273, 1, none⟩ = some (.int .i64 a1_1) ∧ w'.cell? ⟨gb273, 2, none⟩ = some (.int .i64 a1_2) ∧ w'.cell? ⟨gb273, 3, none⟩ = some (.int .i64 a1_3) ∧ w'.cell? (ad278.add (x10_1).toNat) = some (.int .i64 (rd t275 x10_1))) (ds := []) bq_96 (by kernel_rfl) rfl rfl (bc2_ BK272.out (bc4_ BK273.out (hx278_0))) (fun hHeld => ?_); refine with_tabW spec_CleanOk.tab5 spec_CleanOk.bits5 (fun HT_ HW_ => ?_)
      generalize wr.drew = w18 at HO_9 BK272 BK273 BK274 HB hx278_0 hHeld ⊢
      refine yq_ (i := 2) (N := some 22) bq_146 (any_of HT_.out (by kernel_rfl)) ?_
      refine yq_ (i := 3) (N := some 23) bq_147 (any_of HT_.out (by kernel_rfl)) ?_
      refine yq_ (i := 4) (N := some 24) bq_148 (any_of HT_.out (by kernel_rfl)) ?_
      refine yq_ (i := 5) (N := some 25) bq_149 (any_of HT_.out (by kernel_rfl)) ?_
      refine tk_ (i := 0) (N := some 20) bq_150 (take_ofW HT_.out HW_.out (by kernel_rfl)) hHeld ?_
      refine tk_ (i := 1) (N := some 21) bq_97 (take_ofW HT_.out HW_.out (by kernel_rfl)) hHeld ?_
      refine tk_ (i := 6) (N := some 26) bq_98 (take_ofW HT_.out HW_.out (by kernel_rfl)) hHeld ?_
      refine one_ (i := 7) (N := some 27) bq_99 rfl rfl (one_of HT_.out (by kernel_rfl)) (by decide) (fun K hK => ?_)
      refine goes_ Try.func157 (by kernel_rfl) rfl #[.agg #[.string a0_0, .slice A0_1 l0_1.length c0_1], .agg #[.int .i64 a1_0, .int .i64 a1_1, .int .i64 a1_2, .int .i64 a1_3], .int .i64 a2, .int .i64 (rd t275 x10_1)] (by rfl) rfl rfl tq_1 ?_
      with_reducible refine (spec_ZeroPage.calls k1 a0_0 _ _ l0_1 a1_0 a1_1 a1_2 a1_3 a2 (rd t275 x10_1) true _ ?side1 ?side2 A15.out).mono ?_
      (case side1 => exact tq_4)
      (case side2 => exact HC0_1.out)
      rintro e w19 ⟨rfl, hb⟩
      have HS6_ := (hb.cell (World.block_lt_of_cell? _ _ (hHeld.2.2.2.2.2.2))).trans (hHeld.2.2.2.2.2.2)
      refine ⟨_, rfl, ?_⟩
      have z_ := p_ (Kd.R_below tq_161 hb) <| p_ (blk_below tq_52 hb) <| p_ (blk_below tq_69 hb) <| p_ (blk_below tq_107 hb) <| a_ (below_step tq_33 hb)
      clear HO_9 BK272 BK273 BK274 HB
      obtain ⟨HO_9, BK272, BK273, BK274, HB⟩ := z_
      (try clear hb)
      (try clear hb2)
      (try clear hk)
      (try clear hi)
      refine hK.out _ _ (bc2_ BK272.out (bc4_ BK273.out (HS6_))) (fun hHeld => ?_)
      clear hK K
      refine nm_ (some 27) ?_
      refine yq_ (i := 8) (N := some 28) bq_100 (any_of HT_.out (by kernel_rfl)) ?_
      refine done_ (done_of HT_.out (by kernel_rfl)) ?_
      try go_wp2
      go_roundg k1
      case measure => have := HK1.out; omega
      case rel => exact ⟨(wrap64 (x10_1 + 1)), tq_7, H', ⟨tq_96⟩, ⟨tq_161⟩, ⟨tq_52⟩, ⟨tq_69⟩, ⟨tq_107⟩, ⟨tq_33⟩⟩
     ·replace c16 := Bool.eq_false_iff.mpr c16
      subst c16
      have H1 : (some false) = some r := by rw [if_neg (show ¬ (false = true) by decide)] at H; exact H
      clear H
      have H := H1
      clear H1
      obtain rfl := Option.some.inj H
      obtain ⟨Ao20, co20, eo20⟩ := Kd.R_slice HO_9.out
      subst eo20
      try go_wp2
      have z_ := p_ (Kd.R_drew HO_9.out) <| p_ (blk_drew BK272.out) <| p_ (blk_drew BK273.out) <| p_ (blk_drew BK274.out) <| a_ (below_drew1 HB.out)
      clear HO_9 BK272 BK273 BK274 HB
      obtain ⟨HO_9, BK272, BK273, BK274, HB⟩ := z_
      have p278 : 0 ≤ (x10_1 : Int) := of_decide_eq_true tq_3
      have q278 : x10_1 < (t275.length : Int) := of_decide_eq_true tq_3
      obtain ⟨ad278, e278, hx278_0⟩ := Kd.at_int (Kd.R_reads' HO_9.out).2.2 x10_1 p278 q278
      cases e278
      replace p278 := eq_true p278
      replace q278 := eq_true q278
      refine start_ (n := 9) (S := fun w' => w'.cell? ⟨gb272, 0, none⟩ = some (.string a0_0) ∧ w'.cell? ⟨gb272, 1, none⟩ = some (.slice A0_1 l0_1.length c0_1) ∧ w'.cell? ⟨gb273, 0, none⟩ = some (.int .i64 a1_0) ∧ w'.cell? ⟨gb273, 1, none⟩ = some (.int .i64 a1_1) ∧ w'.cell? ⟨gb273, 2, none⟩ = some (.int .i64 a1_2) ∧ w'.cell? ⟨gb273, 3, none⟩ = some (.int .i64 a1_3) ∧ w'.cell? (ad278.add (x10_1).toNat) = some (.int .i64 (rd t275 x10_1))) (ds := []) bq_96 (by kernel_rfl) rfl rfl (bc2_ BK272.out (bc4_ BK273.out (hx278_0))) (fun hHeld => ?_); refine with_tabW spec_CleanOk.tab5 spec_CleanOk.bits5 (fun HT_ HW_ => ?_)
      generalize wr.drew = w21 at HO_9 BK272 BK273 BK274 HB hx278_0 hHeld ⊢
      refine yq_ (i := 2) (N := some 22) bq_146 (any_of HT_.out (by kernel_rfl)) ?_
      refine yq_ (i := 3) (N := some 23) bq_147 (any_of HT_.out (by kernel_rfl)) ?_
      refine yq_ (i := 4) (N := some 24) bq_148 (any_of HT_.out (by kernel_rfl)) ?_
      refine yq_ (i := 5) (N := some 25) bq_149 (any_of HT_.out (by kernel_rfl)) ?_
      refine tk_ (i := 0) (N := some 20) bq_150 (take_ofW HT_.out HW_.out (by kernel_rfl)) hHeld ?_
      refine tk_ (i := 1) (N := some 21) bq_97 (take_ofW HT_.out HW_.out (by kernel_rfl)) hHeld ?_
      refine tk_ (i := 6) (N := some 26) bq_98 (take_ofW HT_.out HW_.out (by kernel_rfl)) hHeld ?_
      refine one_ (i := 7) (N := some 27) bq_99 rfl rfl (one_of HT_.out (by kernel_rfl)) (by decide) (fun K hK => ?_)
      refine goes_ Try.func157 (by kernel_rfl) rfl #[.agg #[.string a0_0, .slice A0_1 l0_1.length c0_1], .agg #[.int .i64 a1_0, .int .i64 a1_1, .int .i64 a1_2, .int .i64 a1_3], .int .i64 a2, .int .i64 (rd t275 x10_1)] (by rfl) rfl rfl tq_1 ?_
      with_reducible refine (spec_ZeroPage.calls k1 a0_0 _ _ l0_1 a1_0 a1_1 a1_2 a1_3 a2 (rd t275 x10_1) false _ ?side1 ?side2 A15.out).mono ?_
      (case side1 => exact tq_4)
      (case side2 => exact HC0_1.out)
      rintro e w22 ⟨rfl, hb⟩
      have HS6_ := (hb.cell (World.block_lt_of_cell? _ _ (hHeld.2.2.2.2.2.2))).trans (hHeld.2.2.2.2.2.2)
      refine ⟨_, rfl, ?_⟩
      have z_ := p_ (Kd.R_below tq_161 hb) <| p_ (blk_below tq_52 hb) <| p_ (blk_below tq_69 hb) <| p_ (blk_below tq_107 hb) <| a_ (below_step tq_33 hb)
      clear HO_9 BK272 BK273 BK274 HB
      obtain ⟨HO_9, BK272, BK273, BK274, HB⟩ := z_
      (try clear hb)
      (try clear hb2)
      (try clear hk)
      (try clear hi)
      refine hK.out _ _ (bc2_ BK272.out (bc4_ BK273.out (HS6_))) (fun hHeld => ?_)
      clear hK K
      refine nm_ (some 27) ?_
      refine yq_ (i := 8) (N := some 28) bq_100 (any_of HT_.out (by kernel_rfl)) ?_
      refine done_ (done_of HT_.out (by kernel_rfl)) ?_
      try go_wp2
      go_ret
      exact ⟨tq_2, tq_33⟩
    ·rw [if_neg c14] at H
     exact absurd H (by simp)
   ·rw [if_neg c13] at H
    have c13b0 : decide (x10_1 < (t275.length : Int)) = false := decide_eq_false c13
    clear c13
    obtain rfl := Option.some.inj H
    obtain ⟨Ao23, co23, eo23⟩ := Kd.R_slice HO_9.out
    subst eo23
    go_wp2
    go_ret
    exact ⟨tq_2, tq_33⟩

/-! ### laws_toCell: function 204 -/
def laws_toCell.f (a0_0 : Int) (a0_1 : ByteArray) (a0_2 : Bool) : Option (Int × ByteArray × Bool) := some (a0_0, a0_1, a0_2)
set_option maxHeartbeats 8000000 in
set_option maxRecDepth 100000 in
theorem laws_toCell.calls (a0_0 : Int) (a0_1 : ByteArray) (a0_2 : Bool) (r1 : Int) (r2 : ByteArray) (r3 : Bool) (w : World) (h : laws_toCell.f a0_0 a0_1 a0_2 = some (r1, r2, r3)) :
  Calls Try.prog 204 #[.agg #[.int .i64 a0_0, .string a0_1, .bool a0_2]] w fun e w' => e = .returned (.agg #[.int .i64 r1, .string r2, .bool r3]) ∧ Below w.heap.size w w' := by
 have hu204 := Try.underlying204
 have hu206 := Try.underlying206
 have HB := Aside0.mk (Below.refl w.heap.size w)
 have H : (some (a0_0, a0_1, a0_2)) = some (r1, r2, r3) := h
 clear h
 simp only [Option.some.injEq, Prod.mk.injEq] at H
 obtain ⟨rfl, rfl, rfl⟩ := H
 go_enter Try.func204, Try.ntmps204
 go_wp2_with (first | ((with_reducible refine gate_dst (N := 1) rfl ?_); refine box_event ?hg (N := 1) ?hd (cs := #[.int .i64 a0_0, .string a0_1, .bool a0_2]) (t := 204) ?hr ?_; (case hd => rfl); (case hg => rfl); (case hr => first | (go_simp; done) | (go_simp; rfl)); intro gb280 hg w2 hbox hb; have z_ := p_ (below_step tq_0 hb) <| p_ (hbox) <| p_ (gb_ hg tq_0) <| a_ (gb_ hg tq_0); clear HB; obtain ⟨HB, BK280, GW280, GE280⟩ := z_; clear hb hbox hg) | ((with_reducible refine gate_dst (N := 2) rfl ?_); refine box_event ?hg (N := 2) ?hd (cs := #[.int .i64 0, .string (⟨#[]⟩ : ByteArray), .bool false]) (t := 206) ?hr ?_; (case hd => rfl); (case hg => rfl); (case hr => first | (go_simp; done) | (go_simp; rfl)); intro gb281 hg w3 hbox hb; have z_ := p_ (blk_below tq_87 hb) <| p_ (below_step tq_134 hb) <| p_ (hbox) <| p_ (gb_ hg tq_134) <| p_ (gb_ hg tq_134) <| p_ (ltne_ hg (blk_lt tq_87)) <| a_ (gtne_ hg (blk_lt tq_87)); clear BK280 HB; obtain ⟨BK280, HB, BK281, GW281, GE281, NB280_281, NB281_280⟩ := z_; clear hb hbox hg) | ((with_reducible refine gate_dst (N := 3) rfl ?_); refine box_event ?hg (N := 3) ?hd (cs := #[.int .i64 0, .string (⟨#[]⟩ : ByteArray), .bool false]) (t := 206) ?hr ?_; (case hd => rfl); (case hg => rfl); (case hr => first | (go_simp; done) | (go_simp; rfl)); intro gb282 hg w4 hbox hb; have z_ := p_ (blk_below tq_87 hb) <| p_ (blk_below tq_152 hb) <| p_ (below_step tq_116 hb) <| p_ (hbox) <| p_ (gb_ hg tq_116) <| p_ (gb_ hg tq_116) <| p_ (ltne_ hg (blk_lt tq_87)) <| p_ (gtne_ hg (blk_lt tq_87)) <| p_ (ltne_ hg (blk_lt tq_152)) <| a_ (gtne_ hg (blk_lt tq_152)); clear BK280 BK281 HB; obtain ⟨BK280, BK281, HB, BK282, GW282, GE282, NB280_282, NB282_280, NB281_282, NB282_281⟩ := z_; clear hb hbox hg; have hnb5 := NB280_281.out; have hnc5 := NB281_280.out; have hnb6 := NB280_282.out; have hnc6 := NB282_280.out; have hcz7_0 := bc_ BK280.out 0; have hcz7_1 := bc_ BK280.out 1; have hcz7_2 := bc_ BK280.out 2; have hfz7_0 := blk_frozen BK280.out 0; have hfz7_1 := blk_frozen BK280.out 1; have hfz7_2 := blk_frozen BK280.out 2; have hnb8 := NB282_281.out; have hnc8 := NB281_282.out; have hcz9_0 := bc_ BK282.out 0; have hcz9_1 := bc_ BK282.out 1; have hcz9_2 := bc_ BK282.out 2; have hfz9_0 := blk_frozen BK282.out 0; have hfz9_1 := blk_frozen BK282.out 1; have hfz9_2 := blk_frozen BK282.out 2; have hcz10_0 := bc_ BK281.out 0; have hcz10_1 := bc_ BK281.out 1; have hcz10_2 := bc_ BK281.out 2; have hfz10_0 := blk_frozen BK281.out 0; have hfz10_1 := blk_frozen BK281.out 1; have hfz10_2 := blk_frozen BK281.out 2))
 refine bodyPost_ret (results_cell_row rfl _ _ gb281 206 #[.int .i64 a0_0, .string a0_1, .bool a0_2] (0, 0) _ rfl (by (with_reducible repeat (first | refine blk_drewN ?_ _ | refine blk_drew ?_ | refine blk_alloc ?_ _)); refine blk_put (cs := #[.int .i64 a0_0, .string a0_1, .bool false]) ?_ 2 _ rfl; (with_reducible repeat (first | refine blk_drewN ?_ _ | refine blk_drew ?_ | refine blk_alloc ?_ _)); refine blk_put (cs := #[.int .i64 a0_0, .string (⟨#[]⟩ : ByteArray), .bool false]) ?_ 1 _ rfl; (with_reducible repeat (first | refine blk_drewN ?_ _ | refine blk_drew ?_ | refine blk_alloc ?_ _)); refine blk_put (cs := #[.int .i64 0, .string (⟨#[]⟩ : ByteArray), .bool false]) ?_ 0 _ rfl; (with_reducible repeat (first | refine blk_drewN ?_ _ | refine blk_drew ?_ | refine blk_alloc ?_ _)); refine blk_far ?_ NB281_282.out _; (with_reducible repeat (first | refine blk_drewN ?_ _ | refine blk_drew ?_ | refine blk_alloc ?_ _)); refine blk_far ?_ NB281_282.out _; (with_reducible repeat (first | refine blk_drewN ?_ _ | refine blk_drew ?_ | refine blk_alloc ?_ _)); refine blk_far ?_ NB281_282.out _; (with_reducible repeat (first | refine blk_drewN ?_ _ | refine blk_drew ?_ | refine blk_alloc ?_ _)); exact BK281.out) Try.underlying206 rfl (by kernel_rfl)) rfl ?_
 exact ⟨tq_2, (by repeat (first | (with_reducible first | exact HB.out | apply below_alloc | apply pw_below_drewN | apply below_drew1 | refine below_set ?_ GE280.out | refine below_set ?_ GE281.out | refine below_set ?_ GE282.out) | exact HB.out))⟩

end Go.Proofs.Ytcdnfkoahajhhaa.PFnExactCleanOk
