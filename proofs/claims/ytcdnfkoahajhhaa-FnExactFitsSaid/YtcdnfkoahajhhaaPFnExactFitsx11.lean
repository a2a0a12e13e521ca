/- Contracts of Go functions, written by a program of ours over the print of the kit: each says that the call returns what the Lean function beside it computes. Conditions: as each theorem states them. -/
import Derived.Test.YtcdnfkoahajhhaaPkFnExactFits
import Derived.Test.YtcdnfkoahajhhaaPFnExactFitsx0
import Derived.Test.YtcdnfkoahajhhaaPFnExactFitsx9
import Derived.Test.YtcdnfkoahajhhaaPFnExactFitsx10
namespace Go.Proofs.Ytcdnfkoahajhhaa.PFnExactFits
open Go.RowKit Go.Proofs.YtcdnfkoahajhhaaW.PrintWords Go.Proofs.YtcdnfkoahajhhaaW.PrintLast Go.Proofs.YtcdnfkoahajhhaaW.PrintMore
attribute [local go_sem] max2_int min2_int max_two min_two max_three min_three max_four min_four   -- for this text's walks alone
set_option linter.unusedVariables false
set_option linter.unusedSimpArgs false

/-! ### impl_PathTo: function 136 -/
def impl_PathTo.f (k : Nat) (a0_0 : Int) (l0_1 : List Int) (l0_2 : List (S49)) (a1 : Int) : Option (ByteArray) := (impl_upwards.f k a0_0 l0_1 l0_2 a1).bind fun bt289 => (if bt289.2 = true then ((impl_within.f a1 0 (wrap64 ((l0_2.length : Int) - 1))).bind fun t293 => (if t293 = true then ((impl_JoinPath.f bt289.1).bind fun t294 => (some t294)) else (some (⟨#[]⟩ : ByteArray)))) else (some (⟨#[]⟩ : ByteArray)))
theorem impl_PathTo.mono : ∀ a0 a1 a2 a3 k, LeO (impl_PathTo.f k a0 a1 a2 a3) (impl_PathTo.f (k + 1) a0 a1 a2 a3) := by
 intro a0 a1 a2 a3 k
 unfold impl_PathTo.f
 repeat' first
   | (with_reducible exact impl_upwards.mono _ _ _ _ _)
   | (with_reducible exact LeO.refl _)
   | (with_reducible exact LeO.none _)
   | (with_reducible refine LeO.ite ?_ ?_)
   | (with_reducible refine LeO.bind ?_ (fun _ => ?_))
   | exact impl_upwards.mono _ _ _ _ _
   | exact LeO.none _
   | refine LeO.ite ?_ ?_
   | refine LeO.bind ?_ (fun _ => ?_)
set_option maxHeartbeats 8000000 in
set_option maxRecDepth 100000 in
theorem impl_PathTo.calls (k : Nat) (a0_0 : Int) (A0_1 : Option Addr) (c0_1 : Nat) (l0_1 : List Int) (A0_2 : Option Addr) (c0_2 : Nat) (l0_2 : List (S49)) (a1 : Int) (r : ByteArray) (w : World) (hr0_1 : Kd.C (Kd.int .i64) w A0_1 l0_1.length l0_1) (hc0_1 : l0_1.length ≤ c0_1) (hr0_2 : Kd.C k49 w A0_2 l0_2.length l0_2) (hc0_2 : l0_2.length ≤ c0_2) (h : impl_PathTo.f k a0_0 l0_1 l0_2 a1 = some r) :
  Calls Try.prog 136 #[.agg #[.int .i64 a0_0, .slice A0_1 l0_1.length c0_1, .slice A0_2 l0_2.length c0_2], .int .i64 a1] w fun e w' => e = .returned (.string r) ∧ Below w.heap.size w w' := by
 have hu69 := Try.underlying69
 have HR0_1 := Aside0.mk hr0_1
 have HC0_1 := Aside0.mk hc0_1
 clear hr0_1 hc0_1
 have HR0_2 := Aside0.mk hr0_2
 have HC0_2 := Aside0.mk hc0_2
 clear hr0_2 hc0_2
 have HB := Aside0.mk (Below.refl w.heap.size w)
 have H : ((impl_upwards.f k a0_0 l0_1 l0_2 a1).bind fun bt289 => (if bt289.2 = true then ((impl_within.f a1 0 (wrap64 ((l0_2.length : Int) - 1))).bind fun t293 => (if t293 = true then ((impl_JoinPath.f bt289.1).bind fun t294 => (some t294)) else (some (⟨#[]⟩ : ByteArray)))) else (some (⟨#[]⟩ : ByteArray)))) = some r := h
 clear h
 replace H := Option.bind_eq_some_iff.mp H
 obtain ⟨⟨t289, t292⟩, A30, H⟩ := H
 replace H : (if t292 = true then ((impl_within.f a1 0 (wrap64 ((l0_2.length : Int) - 1))).bind fun t293 => (if t293 = true then ((impl_JoinPath.f t289).bind fun t294 => (some t294)) else (some (⟨#[]⟩ : ByteArray)))) else (some (⟨#[]⟩ : ByteArray))) = some r := H
 have A3 := Aside0.mk A30
 clear A30
 by_cases c4 : t292 = true
 ·subst c4
  have H1 : ((impl_within.f a1 0 (wrap64 ((l0_2.length : Int) - 1))).bind fun t293 => (if t293 = true then ((impl_JoinPath.f t289).bind fun t294 => (some t294)) else (some (⟨#[]⟩ : ByteArray)))) = some r := by rw [if_pos rfl] at H; exact H
  clear H
  have H := H1
  clear H1
  replace H := Option.bind_eq_some_iff.mp H
  obtain ⟨t293, A50, H⟩ := H
  replace H : (if t293 = true then ((impl_JoinPath.f t289).bind fun t294 => (some t294)) else (some (⟨#[]⟩ : ByteArray))) = some r := H
  have A5 := Aside0.mk A50
  clear A50
  by_cases c6 : t293 = true
  ·subst c6
   have H1 : ((impl_JoinPath.f t289).bind fun t294 => (some t294)) = some r := by rw [if_pos rfl] at H; exact H
   clear H
   have H := H1
   clear H1
   replace H := Option.bind_eq_some_iff.mp H
   obtain ⟨t294, A70, H⟩ := H
   replace H : (some t294) = some r := H
   have A7 := Aside0.mk A70
   clear A70
   obtain rfl := Option.some.inj H
   go_enter Try.func136, Try.ntmps136
   go_wp2_with (first | ((with_reducible refine gate_dst (N := 2) rfl ?_); (try (refine gate_guard (by rfl) ?_; dsimp only)); refine box_event ?hg (N := 2) ?hd (cs := #[.int .i64 a0_0, .slice A0_1 l0_1.length c0_1, .slice A0_2 l0_2.length c0_2]) (t := 69) ?hr ?_; (case hd => rfl); (case hg => rfl); (case hr => first | (go_simp; done) | (go_simp; rfl)); intro gb288 hg w8 hbox hb; have n0_ := Aside0.mk (below_step tq_0 hb); have n1_ := Aside0.mk (hbox); have n2_ := Aside0.mk (gb_ hg tq_0); have n3_ := Aside0.mk (gb_ hg tq_0); clear HB; have HB := n0_; have BK288 := n1_; have GW288 := n2_; have GE288 := n3_; clear n0_ n1_ n2_ n3_; clear hb hbox hg; have hcz9_0 := bc_ BK288.out 0; have hcz9_1 := bc_ BK288.out 1; have hcz9_2 := bc_ BK288.out 2; have hfz9_0 := blk_frozen BK288.out 0; have hfz9_1 := blk_frozen BK288.out 1; have hfz9_2 := blk_frozen BK288.out 2) | ((with_reducible refine gate_callee (f := 189) rfl ?_); refine goesL_ (some 10) rfl rfl Try.func189 (by kernel_rfl) rfl #[.agg #[.int .i64 a0_0, .slice A0_1 l0_1.length c0_1, .slice A0_2 l0_2.length c0_2], .int .i64 a1] rfl tq_1 ?_; (with_reducible refine (impl_upwards.calls k a0_0 _ _ l0_1 _ _ l0_2 a1 t289 true _ ?side1 ?side2 ?side3 ?side4 A3.out).mono ?_); (case side1 => exact tq_6); (case side2 => exact HC0_1.out); (case side3 => exact tq_7); (case side4 => exact HC0_2.out); rintro e w10 ⟨v290, rfl, ho0, hb⟩; refine ⟨_, rfl, ?_⟩; have n0_ := Aside0.mk (Kd.R_lower ho0 (below_size tq_48)); have n1_ := Aside0.mk (blk_below tq_92 hb); have n2_ := Aside0.mk (below_step tq_48 hb); clear BK288 HB; have HO291 := n0_; have BK288 := n1_; have HB := n2_; clear n0_ n1_ n2_; (try clear hb); (try clear hb2); (try clear hk); (try clear hi); (try clear ho0); have hcz11_0 := bc_ BK288.out 0; have hcz11_1 := bc_ BK288.out 1; have hcz11_2 := bc_ BK288.out 2; have hfz11_0 := blk_frozen BK288.out 0; have hfz11_1 := blk_frozen BK288.out 1; have hfz11_2 := blk_frozen BK288.out 2) | (go_at_call 140; (with_reducible refine (impl_within.calls a1 0 (wrap64 ((l0_2.length : Int) - 1)) true _ A5.out).mono ?_); rintro e w' ⟨rfl, ⟨nd, rfl⟩⟩; obtain ⟨Ao12, co12, eo12⟩ := Kd.R_slice HO291.out; subst eo12) | ((with_reducible refine gate_callee (f := 190) rfl ?_); refine goesL_ (some 25) rfl rfl Try.func190 (by kernel_rfl) rfl #[.slice Ao12 t289.length co12] rfl tq_1 ?_; (with_reducible refine (impl_JoinPath.calls _ _ t289 t294 _ ?side1 ?side2 A7.out).mono ?_); (case side1 => repeat (first | exact (Kd.R_reads' HO291.out).2.2 | (with_reducible refine Kd.C_alloc ?_ _) | (with_reducible refine Kd.C_drewN ?_ _) | (with_reducible refine Kd.C_drew ?_))); (case side2 => exact (Kd.R_reads' HO291.out).2.1); rintro e w13 ⟨rfl, hb⟩; refine ⟨_, rfl, ?_⟩; have n0_ := Aside0.mk (Kd.R_below (by (with_reducible repeat (first | apply Kd.R_alloc | apply Kd.R_drewN | apply Kd.R_drew)); exact HO291.out) hb); have n1_ := Aside0.mk (blk_below tq_92 hb); have n2_ := Aside0.mk (below_step tq_48 hb); clear HO291 BK288 HB; have HO291 := n0_; have BK288 := n1_; have HB := n2_; clear n0_ n1_ n2_; (try clear hb); (try clear hb2); (try clear hk); (try clear hi)))
   go_ret
   exact ⟨by first | rfl | (simp [errW_none, errW_some] <;> rfl) | (simp [*, errW_none, errW_some] <;> rfl), by repeat (first | (with_reducible first | exact HB.out | apply below_alloc | apply pw_below_drewN | apply below_drew1 | refine below_set ?_ GE288.out) | exact HB.out)⟩
  ·replace c6 := Bool.eq_false_iff.mpr c6
   subst c6
   have H1 : (some (⟨#[]⟩ : ByteArray)) = some r := by rw [if_neg (show ¬ (false = true) by decide)] at H; exact H
   clear H
   have H := H1
   clear H1
   obtain rfl := Option.some.inj H
   go_enter Try.func136, Try.ntmps136
   go_wp2_with (first | ((with_reducible refine gate_dst (N := 2) rfl ?_); (try (refine gate_guard (by rfl) ?_; dsimp only)); refine box_event ?hg (N := 2) ?hd (cs := #[.int .i64 a0_0, .slice A0_1 l0_1.length c0_1, .slice A0_2 l0_2.length c0_2]) (t := 69) ?hr ?_; (case hd => rfl); (case hg => rfl); (case hr => first | (go_simp; done) | (go_simp; rfl)); intro gb288 hg w14 hbox hb; have n0_ := Aside0.mk (below_step tq_0 hb); have n1_ := Aside0.mk (hbox); have n2_ := Aside0.mk (gb_ hg tq_0); have n3_ := Aside0.mk (gb_ hg tq_0); clear HB; have HB := n0_; have BK288 := n1_; have GW288 := n2_; have GE288 := n3_; clear n0_ n1_ n2_ n3_; clear hb hbox hg; have hcz15_0 := bc_ BK288.out 0; have hcz15_1 := bc_ BK288.out 1; have hcz15_2 := bc_ BK288.out 2; have hfz15_0 := blk_frozen BK288.out 0; have hfz15_1 := blk_frozen BK288.out 1; have hfz15_2 := blk_frozen BK288.out 2) | ((with_reducible refine gate_callee (f := 189) rfl ?_); refine goesL_ (some 10) rfl rfl Try.func189 (by kernel_rfl) rfl #[.agg #[.int .i64 a0_0, .slice A0_1 l0_1.length c0_1, .slice A0_2 l0_2.length c0_2], .int .i64 a1] rfl tq_1 ?_; (with_reducible refine (impl_upwards.calls k a0_0 _ _ l0_1 _ _ l0_2 a1 t289 true _ ?side1 ?side2 ?side3 ?side4 A3.out).mono ?_); (case side1 => exact tq_6); (case side2 => exact HC0_1.out); (case side3 => exact tq_7); (case side4 => exact HC0_2.out); rintro e w16 ⟨v290, rfl, ho0, hb⟩; refine ⟨_, rfl, ?_⟩; have n0_ := Aside0.mk (Kd.R_lower ho0 (below_size tq_48)); have n1_ := Aside0.mk (blk_below tq_92 hb); have n2_ := Aside0.mk (below_step tq_48 hb); clear BK288 HB; have HO291 := n0_; have BK288 := n1_; have HB := n2_; clear n0_ n1_ n2_; (try clear hb); (try clear hb2); (try clear hk); (try clear hi); (try clear ho0); have hcz17_0 := bc_ BK288.out 0; have hcz17_1 := bc_ BK288.out 1; have hcz17_2 := bc_ BK288.out 2; have hfz17_0 := blk_frozen BK288.out 0; have hfz17_1 := blk_frozen BK288.out 1; have hfz17_2 := blk_frozen BK288.out 2) | (go_at_call 140; (with_reducible refine (impl_within.calls a1 0 (wrap64 ((l0_2.length : Int) - 1)) false _ A5.out).mono ?_); rintro e w' ⟨rfl, ⟨nd, rfl⟩⟩))
   go_ret
   exact ⟨by first | rfl | (simp [errW_none, errW_some] <;> rfl) | (simp [*, errW_none, errW_some] <;> rfl), by repeat (first | (with_reducible first | exact HB.out | apply below_alloc | apply pw_below_drewN | apply below_drew1 | refine below_set ?_ GE288.out) | exact HB.out)⟩
 ·replace c4 := Bool.eq_false_iff.mpr c4
  subst c4
  have H1 : (some (⟨#[]⟩ : ByteArray)) = some r := by rw [if_neg (show ¬ (false = true) by decide)] at H; exact H
  clear H
  have H := H1
  clear H1
  obtain rfl := Option.some.inj H
  go_enter Try.func136, Try.ntmps136
  go_wp2_with (first | ((with_reducible refine gate_dst (N := 2) rfl ?_); (try (refine gate_guard (by rfl) ?_; dsimp only)); refine box_event ?hg (N := 2) ?hd (cs := #[.int .i64 a0_0, .slice A0_1 l0_1.length c0_1, .slice A0_2 l0_2.length c0_2]) (t := 69) ?hr ?_; (case hd => rfl); (case hg => rfl); (case hr => first | (go_simp; done) | (go_simp; rfl)); intro gb288 hg w18 hbox hb; have n0_ := Aside0.mk (below_step tq_0 hb); have n1_ := Aside0.mk (hbox); have n2_ := Aside0.mk (gb_ hg tq_0); have n3_ := Aside0.mk (gb_ hg tq_0); clear HB; have HB := n0_; have BK288 := n1_; have GW288 := n2_; have GE288 := n3_; clear n0_ n1_ n2_ n3_; clear hb hbox hg; have hcz19_0 := bc_ BK288.out 0; have hcz19_1 := bc_ BK288.out 1; have hcz19_2 := bc_ BK288.out 2; have hfz19_0 := blk_frozen BK288.out 0; have hfz19_1 := blk_frozen BK288.out 1; have hfz19_2 := blk_frozen BK288.out 2) | ((with_reducible refine gate_callee (f := 189) rfl ?_); refine goesL_ (some 10) rfl rfl Try.func189 (by kernel_rfl) rfl #[.agg #[.int .i64 a0_0, .slice A0_1 l0_1.length c0_1, .slice A0_2 l0_2.length c0_2], .int .i64 a1] rfl tq_1 ?_; (with_reducible refine (impl_upwards.calls k a0_0 _ _ l0_1 _ _ l0_2 a1 t289 false _ ?side1 ?side2 ?side3 ?side4 A3.out).mono ?_); (case side1 => exact tq_6); (case side2 => exact HC0_1.out); (case side3 => exact tq_7); (case side4 => exact HC0_2.out); rintro e w20 ⟨v290, rfl, ho0, hb⟩; refine ⟨_, rfl, ?_⟩; have n0_ := Aside0.mk (Kd.R_lower ho0 (below_size tq_48)); have n1_ := Aside0.mk (blk_below tq_92 hb); have n2_ := Aside0.mk (below_step tq_48 hb); clear BK288 HB; have HO291 := n0_; have BK288 := n1_; have HB := n2_; clear n0_ n1_ n2_; (try clear hb); (try clear hb2); (try clear hk); (try clear hi); (try clear ho0)))
  go_ret
  exact ⟨by first | rfl | (simp [errW_none, errW_some] <;> rfl) | (simp [*, errW_none, errW_some] <;> rfl), by repeat (first | (with_reducible first | exact HB.out | apply below_alloc | apply pw_below_drewN | apply below_drew1 | refine below_set ?_ GE288.out) | exact HB.out)⟩

end Go.Proofs.Ytcdnfkoahajhhaa.PFnExactFits
