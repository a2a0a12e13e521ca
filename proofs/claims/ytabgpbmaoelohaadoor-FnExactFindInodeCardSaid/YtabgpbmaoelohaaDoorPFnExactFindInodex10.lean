/- Contracts of Go functions, written by a program of ours over the print of the kit: each says that the call returns what the Lean function beside it computes. Conditions: as each theorem states them. -/
import Derived.Test.YtabgpbmaoelohaaDoorPkFnExactFindInode
import Derived.Test.YtabgpbmaoelohaaDoorPFnExactFindInodex0
import Derived.Test.YtabgpbmaoelohaaDoorPFnExactFindInodex1
import Derived.Test.YtabgpbmaoelohaaDoorPFnExactFindInodex3
import Derived.Test.YtabgpbmaoelohaaDoorPFnExactFindInodex4
import Derived.Test.YtabgpbmaoelohaaDoorPFnExactFindInodex6
import Derived.Test.YtabgpbmaoelohaaDoorPFnExactFindInodex9
namespace Go.Proofs.YtabgpbmaoelohaaDoor.PFnExactFindInode
open Go.RowKit Go.Proofs.YtabgpbmaoelohaaDoorW.PrintWords Go.Proofs.YtabgpbmaoelohaaDoorW.PrintLast Go.Proofs.YtabgpbmaoelohaaDoorW.PrintMore
attribute [local go_sem] max2_int min2_int max_two min_two max_three min_three max_four min_four   -- for this text's walks alone
set_option linter.unusedVariables false
set_option linter.unusedSimpArgs false

/-! ### laws_FnExactFindInode: function 9 -/
def laws_FnExactFindInode.f (k : Nat) (a0_0 : Int) (l0_1 : List Int) (l0_2 : List (S112)) (a1 : ByteArray) : Option (Bool) := if (a1.size : Int) > 1048576 then (some true) else ((laws_szPart.f k a0_0 l0_1 l0_2 1048576).bind fun t254 => (if t254 < 0 then (some true) else ((laws_toPart.f k a0_0 l0_1 l0_2).bind fun bt255 => ((spec_FindInode.f k bt255.1 bt255.2.1 bt255.2.2 a1).bind fun t262 => ((laws_toPart.f k a0_0 l0_1 l0_2).bind fun bt263 => ((impl_FindInode.f k bt263.1 bt263.2.1 bt263.2.2 a1).bind fun t271 => (if t271 = t262 then ((laws_toPart.f k a0_0 l0_1 l0_2).bind fun bt272 => ((laws_eqPart.f k bt263.1 bt263.2.1 bt263.2.2 bt272.1 bt272.2.1 bt272.2.2).bind fun t279 => (if t279 = true then (some true) else (some false)))) else (some false))))))))
theorem laws_FnExactFindInode.mono : ∀ a0 a1 a2 a3 k, LeO (laws_FnExactFindInode.f k a0 a1 a2 a3) (laws_FnExactFindInode.f (k + 1) a0 a1 a2 a3) := by
 intro a0 a1 a2 a3 k
 unfold laws_FnExactFindInode.f
 repeat' first
   | (with_reducible exact impl_FindInode.mono _ _ _ _ _)
   | (with_reducible exact laws_eqPart.mono _ _ _ _ _ _ _)
   | (with_reducible exact laws_szPart.mono _ _ _ _ _)
   | (with_reducible exact laws_toPart.mono _ _ _ _)
   | (with_reducible exact spec_FindInode.mono _ _ _ _ _)
   | (with_reducible exact LeO.refl _)
   | (with_reducible exact LeO.none _)
   | (with_reducible refine LeO.ite ?_ ?_)
   | (with_reducible refine LeO.bind ?_ (fun _ => ?_))
   | exact impl_FindInode.mono _ _ _ _ _
   | exact laws_eqPart.mono _ _ _ _ _ _ _
   | exact laws_szPart.mono _ _ _ _ _
   | exact laws_toPart.mono _ _ _ _
   | exact spec_FindInode.mono _ _ _ _ _
   | exact LeO.none _
   | refine LeO.ite ?_ ?_
   | refine LeO.bind ?_ (fun _ => ?_)
set_option maxHeartbeats 8000000 in
set_option maxRecDepth 100000 in
theorem laws_FnExactFindInode.calls (k : Nat) (a0_0 : Int) (A0_1 : Option Addr) (c0_1 : Nat) (l0_1 : List Int) (A0_2 : Option Addr) (c0_2 : Nat) (l0_2 : List (S112)) (a1 : ByteArray) (r : Bool) (w : World) (hD_ : DoorOk w) (hr0_1 : Kd.C (Kd.int .i64) w A0_1 l0_1.length l0_1) (hc0_1 : l0_1.length ≤ c0_1) (hr0_2 : Kd.C k112 w A0_2 l0_2.length l0_2) (hc0_2 : l0_2.length ≤ c0_2) (h : laws_FnExactFindInode.f k a0_0 l0_1 l0_2 a1 = some r) :
  Calls Tryd.prog 9 #[.agg #[.int .i64 a0_0, .slice A0_1 l0_1.length c0_1, .slice A0_2 l0_2.length c0_2], .string a1] w fun e w' => e = .returned (.bool r) ∧ Below w.heap.size w w' := by
 have hu46 := Tryd.underlying46
 have hu51 := Tryd.underlying51
 have HR0_1 := Aside0.mk hr0_1
 have HC0_1 := Aside0.mk hc0_1
 clear hr0_1 hc0_1
 have HR0_2 := Aside0.mk hr0_2
 have HC0_2 := Aside0.mk hc0_2
 clear hr0_2 hc0_2
 have HD := Aside0.mk hD_
 clear hD_
 have HB := Aside0.mk (Below.refl w.heap.size w)
 have H : (if (a1.size : Int) > 1048576 then (some true) else ((laws_szPart.f k a0_0 l0_1 l0_2 1048576).bind fun t254 => (if t254 < 0 then (some true) else ((laws_toPart.f k a0_0 l0_1 l0_2).bind fun bt255 => ((spec_FindInode.f k bt255.1 bt255.2.1 bt255.2.2 a1).bind fun t262 => ((laws_toPart.f k a0_0 l0_1 l0_2).bind fun bt263 => ((impl_FindInode.f k bt263.1 bt263.2.1 bt263.2.2 a1).bind fun t271 => (if t271 = t262 then ((laws_toPart.f k a0_0 l0_1 l0_2).bind fun bt272 => ((laws_eqPart.f k bt263.1 bt263.2.1 bt263.2.2 bt272.1 bt272.2.1 bt272.2.2).bind fun t279 => (if t279 = true then (some true) else (some false)))) else (some false))))))))) = some r := h
 clear h
 by_cases c3 : (a1.size : Int) > 1048576
 ·rw [if_pos c3] at H
  have c3b0 : decide (1048576 < (a1.size : Int)) = true := decide_eq_true c3
  have c3b1 : decide (1048576 < a1.size) = true := decide_eq_true (by omega)
  clear c3
  obtain rfl := Option.some.inj H
  go_enter Tryd.func9, Tryd.ntmps9
  go_wp2_with (first | ((with_reducible refine gate_dst (N := 2) rfl ?_); refine box_event ?hg (N := 2) ?hd (cs := #[.int .i64 a0_0, .slice A0_1 l0_1.length c0_1, .slice A0_2 l0_2.length c0_2]) (t := 46) ?hr ?_; (case hd => rfl); (case hg => rfl); (case hr => first | (go_simp; done) | (go_simp; rfl)); intro gb253 hg w4 hbox hb; have n0_ := Aside0.mk (below_step tq_0 hb); have n1_ := Aside0.mk (hbox); have n2_ := Aside0.mk (gb_ hg tq_0); have n3_ := Aside0.mk (gb_ hg tq_0); clear HB; have HB := n0_; have BK253 := n1_; have GW253 := n2_; have GE253 := n3_; clear n0_ n1_ n2_ n3_; clear hb hbox hg))
  go_ret
  exact ⟨by first | rfl | (simp [errW_none, errW_some] <;> rfl) | (simp [*, errW_none, errW_some] <;> rfl), by repeat (first | (with_reducible first | exact HB.out | apply below_alloc | apply pw_below_drewN | apply below_drew1 | refine below_set ?_ GE253.out) | exact HB.out)⟩
 ·rw [if_neg c3] at H
  have c3b0 : decide (1048576 < (a1.size : Int)) = false := decide_eq_false c3
  have c3b1 : decide (1048576 < a1.size) = false := decide_eq_false (by omega)
  clear c3
  replace H := Option.bind_eq_some_iff.mp H
  obtain ⟨t254, A50, H⟩ := H
  replace H : (if t254 < 0 then (some true) else ((laws_toPart.f k a0_0 l0_1 l0_2).bind fun bt255 => ((spec_FindInode.f k bt255.1 bt255.2.1 bt255.2.2 a1).bind fun t262 => ((laws_toPart.f k a0_0 l0_1 l0_2).bind fun bt263 => ((impl_FindInode.f k bt263.1 bt263.2.1 bt263.2.2 a1).bind fun t271 => (if t271 = t262 then ((laws_toPart.f k a0_0 l0_1 l0_2).bind fun bt272 => ((laws_eqPart.f k bt263.1 bt263.2.1 bt263.2.2 bt272.1 bt272.2.1 bt272.2.2).bind fun t279 => (if t279 = true then (some true) else (some false)))) else (some false))))))) = some r := H
  have A5 := Aside0.mk A50
  clear A50
  by_cases c6 : t254 < 0
  ·rw [if_pos c6] at H
   have c6b0 : decide (t254 < 0) = true := decide_eq_true c6
   clear c6
   obtain rfl := Option.some.inj H
   go_enter Tryd.func9, Tryd.ntmps9
   go_wp2_with (first | ((with_reducible refine gate_dst (N := 2) rfl ?_); refine box_event ?hg (N := 2) ?hd (cs := #[.int .i64 a0_0, .slice A0_1 l0_1.length c0_1, .slice A0_2 l0_2.length c0_2]) (t := 46) ?hr ?_; (case hd => rfl); (case hg => rfl); (case hr => first | (go_simp; done) | (go_simp; rfl)); intro gb253 hg w7 hbox hb; have n0_ := Aside0.mk (below_step tq_0 hb); have n1_ := Aside0.mk (hbox); have n2_ := Aside0.mk (gb_ hg tq_0); have n3_ := Aside0.mk (gb_ hg tq_0); clear HB; have HB := n0_; have BK253 := n1_; have GW253 := n2_; have GE253 := n3_; clear n0_ n1_ n2_ n3_; clear hb hbox hg; have hcz8_0 := bc_ BK253.out 0; have hcz8_1 := bc_ BK253.out 1; have hcz8_2 := bc_ BK253.out 2; have hfz8_0 := blk_frozen BK253.out 0; have hfz8_1 := blk_frozen BK253.out 1; have hfz8_2 := blk_frozen BK253.out 2) | ((with_reducible refine gate_callee (f := 32) rfl ?_); refine goesL_ (some 14) rfl rfl Tryd.func32 (by kernel_rfl) rfl #[.agg #[.int .i64 a0_0, .slice A0_1 l0_1.length c0_1, .slice A0_2 l0_2.length c0_2], .int .i64 1048576] rfl tq_1 ?_; (with_reducible refine (laws_szPart.calls k a0_0 _ _ l0_1 _ _ l0_2 1048576 t254 _ ?side1 ?side2 ?side3 ?side4 A5.out).mono ?_); (case side1 => exact tq_13); (case side2 => exact HC0_1.out); (case side3 => exact tq_19); (case side4 => exact HC0_2.out); rintro e w9 ⟨rfl, hb⟩; refine ⟨_, rfl, ?_⟩; have n0_ := Aside0.mk (blk_below tq_8 hb); have n1_ := Aside0.mk (below_step tq_4 hb); clear BK253 HB; have BK253 := n0_; have HB := n1_; clear n0_ n1_; (try clear hb); (try clear hb2); (try clear hk); (try clear hi)))
   go_ret
   exact ⟨by first | rfl | (simp [errW_none, errW_some] <;> rfl) | (simp [*, errW_none, errW_some] <;> rfl), by repeat (first | (with_reducible first | exact HB.out | apply below_alloc | apply pw_below_drewN | apply below_drew1 | refine below_set ?_ GE253.out) | exact HB.out)⟩
  ·rw [if_neg c6] at H
   have c6b0 : decide (t254 < 0) = false := decide_eq_false c6
   clear c6
   replace H := Option.bind_eq_some_iff.mp H
   obtain ⟨⟨t255, t256, t259⟩, A100, H⟩ := H
   replace H : ((spec_FindInode.f k t255 t256 t259 a1).bind fun t262 => ((laws_toPart.f k a0_0 l0_1 l0_2).bind fun bt263 => ((impl_FindInode.f k bt263.1 bt263.2.1 bt263.2.2 a1).bind fun t271 => (if t271 = t262 then ((laws_toPart.f k a0_0 l0_1 l0_2).bind fun bt272 => ((laws_eqPart.f k bt263.1 bt263.2.1 bt263.2.2 bt272.1 bt272.2.1 bt272.2.2).bind fun t279 => (if t279 = true then (some true) else (some false)))) else (some false))))) = some r := H
   have A10 := Aside0.mk A100
   clear A100
   replace H := Option.bind_eq_some_iff.mp H
   obtain ⟨t262, A110, H⟩ := H
   replace H : ((laws_toPart.f k a0_0 l0_1 l0_2).bind fun bt263 => ((impl_FindInode.f k bt263.1 bt263.2.1 bt263.2.2 a1).bind fun t271 => (if t271 = t262 then ((laws_toPart.f k a0_0 l0_1 l0_2).bind fun bt272 => ((laws_eqPart.f k bt263.1 bt263.2.1 bt263.2.2 bt272.1 bt272.2.1 bt272.2.2).bind fun t279 => (if t279 = true then (some true) else (some false)))) else (some false)))) = some r := H
   have A11 := Aside0.mk A110
   clear A110
   replace H := Option.bind_eq_some_iff.mp H
   obtain ⟨⟨t263, t264, t267⟩, A120, H⟩ := H
   replace H : ((impl_FindInode.f k t263 t264 t267 a1).bind fun t271 => (if t271 = t262 then ((laws_toPart.f k a0_0 l0_1 l0_2).bind fun bt272 => ((laws_eqPart.f k t263 t264 t267 bt272.1 bt272.2.1 bt272.2.2).bind fun t279 => (if t279 = true then (some true) else (some false)))) else (some false))) = some r := H
   have A12 := Aside0.mk A120
   clear A120
   replace H := Option.bind_eq_some_iff.mp H
   obtain ⟨t271, A130, H⟩ := H
   replace H : (if t271 = t262 then ((laws_toPart.f k a0_0 l0_1 l0_2).bind fun bt272 => ((laws_eqPart.f k t263 t264 t267 bt272.1 bt272.2.1 bt272.2.2).bind fun t279 => (if t279 = true then (some true) else (some false)))) else (some false)) = some r := H
   have A13 := Aside0.mk A130
   clear A130
   by_cases c14 : t271 = t262
   ·rw [if_pos c14] at H
    have c14b0 : (t271 == t262) = true := beq_iff_eq.mpr c14
    have c14b1 : (t271 != t262) = false := bne_eq_false_iff_eq.mpr c14
    clear c14
    replace H := Option.bind_eq_some_iff.mp H
    obtain ⟨⟨t272, t273, t276⟩, A150, H⟩ := H
    replace H : ((laws_eqPart.f k t263 t264 t267 t272 t273 t276).bind fun t279 => (if t279 = true then (some true) else (some false))) = some r := H
    have A15 := Aside0.mk A150
    clear A150
    replace H := Option.bind_eq_some_iff.mp H
    obtain ⟨t279, A160, H⟩ := H
    replace H : (if t279 = true then (some true) else (some false)) = some r := H
    have A16 := Aside0.mk A160
    clear A160
    by_cases c17 : t279 = true
    ·subst c17
     have H1 : (some true) = some r := by rw [if_pos rfl] at H; exact H
     clear H
     have H := H1
     clear H1
     obtain rfl := Option.some.inj H
     go_enter Tryd.func9, Tryd.ntmps9
     try go_wp2_with (first | ((with_reducible refine gate_dst (N := 2) rfl ?_); refine box_event ?hg (N := 2) ?hd (cs := #[.int .i64 a0_0, .slice A0_1 l0_1.length c0_1, .slice A0_2 l0_2.length c0_2]) (t := 46) ?hr ?_; (case hd => rfl); (case hg => rfl); (case hr => first | (go_simp; done) | (go_simp; rfl)); intro gb253 hg w18 hbox hb; have n0_ := Aside0.mk (below_step tq_0 hb); have n1_ := Aside0.mk (hbox); have n2_ := Aside0.mk (gb_ hg tq_0); have n3_ := Aside0.mk (gb_ hg tq_0); clear HB; have HB := n0_; have BK253 := n1_; have GW253 := n2_; have GE253 := n3_; clear n0_ n1_ n2_ n3_; clear hb hbox hg; have hcz19_0 := bc_ BK253.out 0; have hcz19_1 := bc_ BK253.out 1; have hcz19_2 := bc_ BK253.out 2; have hfz19_0 := blk_frozen BK253.out 0; have hfz19_1 := blk_frozen BK253.out 1; have hfz19_2 := blk_frozen BK253.out 2) | ((with_reducible refine gate_callee (f := 32) rfl ?_); refine goesL_ (some 14) rfl rfl Tryd.func32 (by kernel_rfl) rfl #[.agg #[.int .i64 a0_0, .slice A0_1 l0_1.length c0_1, .slice A0_2 l0_2.length c0_2], .int .i64 1048576] rfl tq_1 ?_; (with_reducible refine (laws_szPart.calls k a0_0 _ _ l0_1 _ _ l0_2 1048576 t254 _ ?side1 ?side2 ?side3 ?side4 A5.out).mono ?_); (case side1 => exact tq_13); (case side2 => exact HC0_1.out); (case side3 => exact tq_19); (case side4 => exact HC0_2.out); rintro e w20 ⟨rfl, hb⟩; refine ⟨_, rfl, ?_⟩; have n0_ := Aside0.mk (blk_below tq_8 hb); have n1_ := Aside0.mk (below_step tq_4 hb); clear BK253 HB; have BK253 := n0_; have HB := n1_; clear n0_ n1_; (try clear hb); (try clear hb2); (try clear hk); (try clear hi); have hcz21_0 := bc_ BK253.out 0; have hcz21_1 := bc_ BK253.out 1; have hcz21_2 := bc_ BK253.out 2; have hfz21_0 := blk_frozen BK253.out 0; have hfz21_1 := blk_frozen BK253.out 1; have hfz21_2 := blk_frozen BK253.out 2) | ((with_reducible refine gate_callee (f := 34) rfl ?_); refine goesL_ (some 18) rfl rfl Tryd.func34 (by kernel_rfl) rfl #[.agg #[.int .i64 a0_0, .slice A0_1 l0_1.length c0_1, .slice A0_2 l0_2.length c0_2]] rfl tq_1 ?_; (with_reducible refine (laws_toPart.calls k a0_0 _ _ l0_1 _ _ l0_2 t255 t256 t259 _ ?side1 ?side2 ?side3 ?side4 A10.out).mono ?_); (case side1 => exact tq_13); (case side2 => exact HC0_1.out); (case side3 => exact tq_19); (case side4 => exact HC0_2.out); rintro e w22 ⟨v257, v260, rfl, ho0, ho1, hb⟩; refine ⟨_, rfl, ?_⟩; have n0_ := Aside0.mk (Kd.R_lower ho0 (below_size tq_4)); have n1_ := Aside0.mk (Kd.S_lower ho1 (below_size tq_4)); have n2_ := Aside0.mk (blk_below tq_8 hb); have n3_ := Aside0.mk (below_step tq_4 hb); clear BK253 HB; have HO258 := n0_; have HO261 := n1_; have BK253 := n2_; have HB := n3_; clear n0_ n1_ n2_ n3_; (try clear hb); (try clear hb2); (try clear hk); (try clear hi); (try clear ho0); (try clear ho1); obtain ⟨Ao23, co23, eo23⟩ := Kd.R_slice HO258.out; subst eo23; obtain ⟨Ao24, co24, eo24⟩ := Kd.S_slice HO261.out; subst eo24) | ((with_reducible refine gate_callee (f := 33) rfl ?_); refine goesL_ (some 20) rfl rfl Tryd.func33 (by kernel_rfl) rfl #[.agg #[.int .i64 t255, .slice Ao23 t256.length co23, .slice Ao24 t259.length co24], .string a1] rfl tq_1 ?_; (with_reducible refine (spec_FindInode.calls k t255 _ _ t256 _ _ t259 a1 t262 _ ?side1 ?side2 ?side3 ?side4 A11.out).mono ?_); (case side1 => exact tq_67); (case side2 => exact (Kd.R_reads' HO258.out).2.1); (case side3 => exact tq_66); (case side4 => exact (Kd.S_reads' HO261.out).2.1); rintro e w25 ⟨rfl, hb⟩; refine ⟨_, rfl, ?_⟩; have n0_ := Aside0.mk (Kd.R_below tq_23 hb); have n1_ := Aside0.mk (Kd.S_below tq_22 hb); have n2_ := Aside0.mk (blk_below tq_8 hb); have n3_ := Aside0.mk (below_step tq_4 hb); clear HO258 HO261 BK253 HB; have HO258 := n0_; have HO261 := n1_; have BK253 := n2_; have HB := n3_; clear n0_ n1_ n2_ n3_; (try clear hb); (try clear hb2); (try clear hk); (try clear hi); have hcz26_0 := bc_ BK253.out 0; have hcz26_1 := bc_ BK253.out 1; have hcz26_2 := bc_ BK253.out 2; have hfz26_0 := blk_frozen BK253.out 0; have hfz26_1 := blk_frozen BK253.out 1; have hfz26_2 := blk_frozen BK253.out 2) | ((with_reducible refine gate_callee (f := 34) rfl ?_); refine goesL_ (some 22) rfl rfl Tryd.func34 (by kernel_rfl) rfl #[.agg #[.int .i64 a0_0, .slice A0_1 l0_1.length c0_1, .slice A0_2 l0_2.length c0_2]] rfl tq_1 ?_; (with_reducible refine (laws_toPart.calls k a0_0 _ _ l0_1 _ _ l0_2 t263 t264 t267 _ ?side1 ?side2 ?side3 ?side4 A12.out).mono ?_); (case side1 => exact tq_13); (case side2 => exact HC0_1.out); (case side3 => exact tq_19); (case side4 => exact HC0_2.out); rintro e w27 ⟨v265, v268, rfl, ho0, ho1, hb⟩; refine ⟨_, rfl, ?_⟩; have n0_ := Aside0.mk (Kd.R_elder' tq_23 (Kd.R_base ho0) hb); have n1_ := Aside0.mk (Kd.S_elder' tq_22 (Kd.S_base ho1) hb); have n2_ := Aside0.mk (Kd.R_lower (Kd.R_new' ho0 (Kd.R_lt tq_23)) (below_size tq_4)); have n3_ := Aside0.mk (Kd.S_lower (Kd.S_new' ho1 (Kd.S_lt tq_22)) (below_size tq_4)); have n4_ := Aside0.mk (blk_below tq_8 hb); have n5_ := Aside0.mk (below_step tq_4 hb); clear HO258 HO261 BK253 HB; have HO258 := n0_; have HO261 := n1_; have HO266 := n2_; have HO269 := n3_; have BK253 := n4_; have HB := n5_; clear n0_ n1_ n2_ n3_ n4_ n5_; (try clear hb); (try clear hb2); (try clear hk); (try clear hi); (try clear ho0); (try clear ho1)) | ((with_reducible refine gate_dst (N := 7) rfl ?_); refine box_event ?hg (N := 7) ?hd (cs := #[.int .i64 0, .slice none 0 0, .slice none 0 0]) (t := 51) ?hr ?_; (case hd => rfl); (case hg => rfl); (case hr => first | (go_simp; done) | (go_simp; rfl)); intro gb270 hg w28 hbox hb; have n0_ := Aside0.mk (Kd.R_below tq_23 hb); have n1_ := Aside0.mk (Kd.S_below tq_22 hb); have n2_ := Aside0.mk (Kd.R_below tq_36 hb); have n3_ := Aside0.mk (Kd.S_below tq_35 hb); have n4_ := Aside0.mk (blk_below tq_8 hb); have n5_ := Aside0.mk (below_step tq_4 hb); have n6_ := Aside0.mk (hbox); have n7_ := Aside0.mk (gb_ hg tq_4); have n8_ := Aside0.mk (gb_ hg tq_4); have n9_ := Aside0.mk (ltne_ hg (blk_lt tq_8)); have n10_ := Aside0.mk (gtne_ hg (blk_lt tq_8)); clear HO258 HO261 HO266 HO269 BK253 HB; have HO258 := n0_; have HO261 := n1_; have HO266 := n2_; have HO269 := n3_; have BK253 := n4_; have HB := n5_; have BK270 := n6_; have GW270 := n7_; have GE270 := n8_; have NB253_270 := n9_; have NB270_253 := n10_; clear n0_ n1_ n2_ n3_ n4_ n5_ n6_ n7_ n8_ n9_ n10_; clear hb hbox hg; have hnb29 := NB270_253.out; have hnc29 := NB253_270.out; have hcz30_0 := bc_ BK270.out 0; have hcz30_1 := bc_ BK270.out 1; have hcz30_2 := bc_ BK270.out 2; have hfz30_0 := blk_frozen BK270.out 0; have hfz30_1 := blk_frozen BK270.out 1; have hfz30_2 := blk_frozen BK270.out 2; obtain ⟨Ao31, co31, eo31⟩ := Kd.R_slice HO266.out; subst eo31; obtain ⟨Ao32, co32, eo32⟩ := Kd.S_slice HO269.out; subst eo32) | ((with_reducible refine gate_callee (f := 35) rfl ?_); refine goesL_ (some 25) rfl rfl Tryd.func35 (by kernel_rfl) rfl #[.agg #[.int .i64 t263, .slice Ao31 t264.length co31, .slice Ao32 t267.length co32], .string a1] rfl tq_1 ?_; (with_reducible refine (impl_FindInode.calls k t263 _ _ t264 _ _ t267 a1 t271 _ ?side1 ?side2 ?side3 ?side4 ?side5 A13.out).mono ?_); (case side1 => exact DoorOk.below HD.out tq_15); (case side2 => refine (Kd.R_reads' (e := 3) (base := w.heap.size) (ok := fun k_ => (True ∧ some k_ ≠ (.slice Ao23 t256.length co23 : Value).ownBlock)) (n := t264.length) (c := co31) ?_).2.2; exact tq_54); (case side3 => exact (Kd.R_reads' HO266.out).2.1); (case side4 => refine (Kd.S_reads' (e := 83) (base := w.heap.size) (ok := fun k_ => (True ∧ some k_ ≠ (.slice Ao24 t259.length co24 : Value).ownBlock)) (n := t267.length) (c := co32) ?_).2.2; exact tq_51); (case side5 => exact (Kd.S_reads' HO269.out).2.1); rintro e w33 ⟨rfl, hb⟩; refine ⟨_, rfl, ?_⟩; have n0_ := Aside0.mk (Kd.R_below (by (with_reducible repeat (first | apply Kd.R_alloc | apply Kd.R_drewN | apply Kd.R_drew)); exact (Kd.R_mono (Kd.R_far (p := ⟨gb270, 2, none⟩) (Kd.R_far (p := ⟨gb270, 1, none⟩) (Kd.R_far (p := ⟨gb270, 0, none⟩) (Kd.R_types HO258.out BK270.out (by decide)) (fun _ hk => hk.2) (.int .i64 t263)) (fun _ hk => hk.2) (.slice Ao31 t264.length co31)) (fun _ hk => hk.2) (.slice Ao32 t267.length co32)) (fun _ h_ => h_.1))) hb); have n1_ := Aside0.mk (Kd.S_below (by (with_reducible repeat (first | apply Kd.S_alloc | apply Kd.S_drewN | apply Kd.S_drew)); exact (Kd.S_mono (Kd.S_far (p := ⟨gb270, 2, none⟩) (Kd.S_far (p := ⟨gb270, 1, none⟩) (Kd.S_far (p := ⟨gb270, 0, none⟩) (Kd.S_types HO261.out BK270.out (by decide)) (fun _ hk => hk.2) (.int .i64 t263)) (fun _ hk => hk.2) (.slice Ao31 t264.length co31)) (fun _ hk => hk.2) (.slice Ao32 t267.length co32)) (fun _ h_ => h_.1))) hb); have n2_ := Aside0.mk (Kd.R_below tq_54 hb); have n3_ := Aside0.mk (Kd.S_below tq_51 hb); have n4_ := Aside0.mk (blk_below (g := gb253) (o := .cells #[.int .i64 a0_0, .slice A0_1 l0_1.length c0_1, .slice A0_2 l0_2.length c0_2] 46 (0, 0)) tq_31 hb); have n5_ := Aside0.mk (blk_below (g := gb270) (o := .cells #[.int .i64 t263, .slice Ao31 t264.length co31, .slice Ao32 t267.length co32] 51 (0, 0)) (by (with_reducible repeat (first | refine blk_drewN ?_ _ | refine blk_drew ?_ | refine blk_alloc ?_ _)); refine blk_put (cs := #[.int .i64 t263, .slice Ao31 t264.length co31, .slice none 0 0]) ?_ 2 _ rfl; (with_reducible repeat (first | refine blk_drewN ?_ _ | refine blk_drew ?_ | refine blk_alloc ?_ _)); refine blk_put (cs := #[.int .i64 t263, .slice none 0 0, .slice none 0 0]) ?_ 1 _ rfl; (with_reducible repeat (first | refine blk_drewN ?_ _ | refine blk_drew ?_ | refine blk_alloc ?_ _)); refine blk_put (cs := #[.int .i64 0, .slice none 0 0, .slice none 0 0]) ?_ 0 _ rfl; (with_reducible repeat (first | refine blk_drewN ?_ _ | refine blk_drew ?_ | refine blk_alloc ?_ _)); exact BK270.out) hb); have n6_ := Aside0.mk (below_step tq_15 hb); clear HO258 HO261 HO266 HO269 BK253 BK270 HB; have HO258 := n0_; have HO261 := n1_; have HO266 := n2_; have HO269 := n3_; have BK253 := n4_; have BK270 := n5_; have HB := n6_; clear n0_ n1_ n2_ n3_ n4_ n5_ n6_; (try clear hb); (try clear hb2); (try clear hk); (try clear hi)))
     have n0_ := Aside0.mk (Kd.R_drew HO258.out)
     have n1_ := Aside0.mk (Kd.S_drew HO261.out)
     have n2_ := Aside0.mk (Kd.R_drew HO266.out)
     have n3_ := Aside0.mk (Kd.S_drew HO269.out)
     have n4_ := Aside0.mk (blk_drew BK253.out)
     have n5_ := Aside0.mk (blk_drew BK270.out)
     have n6_ := Aside0.mk (below_drew1 HB.out)
     clear HO258 HO261 HO266 HO269 BK253 BK270 HB
     have HO258 := n0_
     have HO261 := n1_
     have HO266 := n2_
     have HO269 := n3_
     have BK253 := n4_
     have BK270 := n5_
     have HB := n6_
     clear n0_ n1_ n2_ n3_ n4_ n5_ n6_
     refine start_ (n := 5) (S := fun w' => w'.cell? ⟨gb270, 0, none⟩ = some (.int .i64 t263) ∧ w'.cell? ⟨gb270, 1, none⟩ = some (.slice Ao31 t264.length co31) ∧ w'.cell? ⟨gb270, 2, none⟩ = some (.slice Ao32 t267.length co32) ∧ w'.cell? ⟨gb253, 0, none⟩ = some (.int .i64 a0_0) ∧ w'.cell? ⟨gb253, 1, none⟩ = some (.slice A0_1 l0_1.length c0_1) ∧ w'.cell? ⟨gb253, 2, none⟩ = some (.slice A0_2 l0_2.length c0_2)) (ds := []) #[false, false, false, false, false] (by kernel_rfl) rfl rfl ⟨(blk_cell BK270.out 0).trans rfl, (blk_cell BK270.out 1).trans rfl, (blk_cell BK270.out 2).trans rfl, (blk_cell BK253.out 0).trans rfl, (blk_cell BK253.out 1).trans rfl, (blk_cell BK253.out 2).trans rfl⟩ (fun hHeld => ?_)
     generalize w33.drew = w34 at HO258 HO261 HO266 HO269 BK253 BK270 HB hHeld ⊢
     refine take_ (i := 0) (N := some 29) (v := ?_) (a' := ?_) #[true, false, false, false, false] rfl rfl (by kernel_rfl) (fun _ _ _ h => h) (Or.inl ⟨by rfl, ?_⟩) hHeld ?_ ?_
     rotate_left
     ·rintro w' ⟨s0, s1, s2, s3, s4, s5⟩
      go_simp
      with_reducible rfl
     rotate_left
     ·simp only [Act.put, List.setIfInBounds_toArray, List.set_cons_zero, List.set_cons_succ, i64_w, i32_w]
      rfl
     refine take_ (i := 1) (N := some 30) (v := ?_) (a' := ?_) #[true, true, false, false, false] rfl rfl (by kernel_rfl) (fun _ _ _ h => h) (Or.inl ⟨by rfl, ?_⟩) hHeld ?_ ?_
     rotate_left
     ·rintro w' ⟨s0, s1, s2, s3, s4, s5⟩
      go_simp
      with_reducible rfl
     rotate_left
     ·simp only [Act.put, List.setIfInBounds_toArray, List.set_cons_zero, List.set_cons_succ, i64_w, i32_w]
      rfl
     refine one_ (i := 2) (N := some 31) #[true, true, true, false, false] rfl rfl (by kernel_rfl) (by decide) (fun K hK => ?_)
     refine goes_ Tryd.func34 (by kernel_rfl) rfl #[.agg #[.int .i64 a0_0, .slice A0_1 l0_1.length c0_1, .slice A0_2 l0_2.length c0_2]] (by rfl) rfl rfl tq_1 ?_
     with_reducible refine (laws_toPart.calls k a0_0 _ _ l0_1 _ _ l0_2 t272 t273 t276 _ ?side1 ?side2 ?side3 ?side4 A15.out).mono ?_
     (case side1 => exact tq_13)
     (case side2 => exact HC0_1.out)
     (case side3 => exact tq_19)
     (case side4 => exact HC0_2.out)
     rintro e w35 ⟨v274, v277, rfl, ho0, ho1, hb⟩
     refine ⟨_, rfl, ?_⟩
     have n0_ := Aside0.mk (Kd.R_elder' tq_23 (Kd.R_base ho0) hb)
     have n1_ := Aside0.mk (Kd.S_elder' tq_22 (Kd.S_base ho1) hb)
     have n2_ := Aside0.mk (Kd.R_elder' tq_36 (Kd.R_base ho0) hb)
     have n3_ := Aside0.mk (Kd.S_elder' tq_35 (Kd.S_base ho1) hb)
     have n4_ := Aside0.mk (Kd.R_lower (Kd.R_new' (Kd.R_new' ho0 (Kd.R_lt tq_23)) (Kd.R_lt tq_36)) (below_size tq_15))
     have n5_ := Aside0.mk (Kd.S_lower (Kd.S_new' (Kd.S_new' ho1 (Kd.S_lt tq_22)) (Kd.S_lt tq_35)) (below_size tq_15))
     have n6_ := Aside0.mk (blk_below tq_8 hb)
     have n7_ := Aside0.mk (blk_below tq_59 hb)
     have n8_ := Aside0.mk (below_step tq_15 hb)
     clear HO258 HO261 HO266 HO269 BK253 BK270 HB
     have HO258 := n0_
     have HO261 := n1_
     have HO266 := n2_
     have HO269 := n3_
     have HO275 := n4_
     have HO278 := n5_
     have BK253 := n6_
     have BK270 := n7_
     have HB := n8_
     clear n0_ n1_ n2_ n3_ n4_ n5_ n6_ n7_ n8_
     (try clear hb)
     (try clear hb2)
     (try clear hk)
     (try clear hi)
     (try clear ho0)
     (try clear ho1)
     obtain ⟨Ao36, co36, eo36⟩ := Kd.R_slice HO275.out
     (first | subst eo36 | (injection eo36 with f1_ f2_ f3_; have f4_ := f1_.symm; have f5_ := f3_.symm; clear f1_ f2_ f3_; subst f4_; subst f5_))
     obtain ⟨Ao37, co37, eo37⟩ := Kd.S_slice HO278.out
     (first | subst eo37 | (injection eo37 with f1_ f2_ f3_; have f4_ := f1_.symm; have f5_ := f3_.symm; clear f1_ f2_ f3_; subst f4_; subst f5_))
     refine hK.out _ _ ⟨(blk_cell BK270.out 0).trans rfl, (blk_cell BK270.out 1).trans rfl, (blk_cell BK270.out 2).trans rfl, (blk_cell BK253.out 0).trans rfl, (blk_cell BK253.out 1).trans rfl, (blk_cell BK253.out 2).trans rfl⟩ (fun hHeld => ?_)
     clear hK K
     refine norm_ (a' := ?_) ?_ ?_
     rotate_left
     ·show Act.put _ (some 31) _ = _
      simp only [Act.put, List.setIfInBounds_toArray, List.set_cons_zero, List.set_cons_succ, i64_w, i32_w]
      rfl
     refine one_ (i := 3) (N := some 32) #[true, true, true, true, false] rfl rfl (by kernel_rfl) (by decide) (fun K hK => ?_)
     refine goes_ Tryd.func36 (by kernel_rfl) rfl #[.agg #[.int .i64 t263, .slice Ao31 t264.length co31, .slice Ao32 t267.length co32], .agg #[.int .i64 t272, .slice Ao36 t273.length co36, .slice Ao37 t276.length co37]] (by rfl) rfl rfl tq_1 ?_
     with_reducible refine (laws_eqPart.calls k t263 _ _ t264 _ _ t267 t272 _ _ t273 _ _ t276 true _ ?side1 ?side2 ?side3 ?side4 ?side5 ?side6 ?side7 ?side8 A16.out).mono ?_
     (case side1 => exact tq_92)
     (case side2 => exact (Kd.R_reads' HO266.out).2.1)
     (case side3 => exact tq_90)
     (case side4 => exact (Kd.S_reads' HO269.out).2.1)
     (case side5 => exact tq_91)
     (case side6 => exact (Kd.R_reads' HO275.out).2.1)
     (case side7 => exact tq_89)
     (case side8 => exact (Kd.S_reads' HO278.out).2.1)
     rintro e w38 ⟨rfl, hb⟩
     refine ⟨_, rfl, ?_⟩
     have n0_ := Aside0.mk (Kd.R_below tq_23 hb)
     have n1_ := Aside0.mk (Kd.S_below tq_22 hb)
     have n2_ := Aside0.mk (Kd.R_below tq_36 hb)
     have n3_ := Aside0.mk (Kd.S_below tq_35 hb)
     have n4_ := Aside0.mk (Kd.R_below (by (with_reducible repeat (first | apply Kd.R_alloc | apply Kd.R_drewN | apply Kd.R_drew)); exact HO275.out) hb)
     have n5_ := Aside0.mk (Kd.S_below (by (with_reducible repeat (first | apply Kd.S_alloc | apply Kd.S_drewN | apply Kd.S_drew)); exact HO278.out) hb)
     have n6_ := Aside0.mk (blk_below tq_8 hb)
     have n7_ := Aside0.mk (blk_below tq_59 hb)
     have n8_ := Aside0.mk (below_step tq_15 hb)
     clear HO258 HO261 HO266 HO269 HO275 HO278 BK253 BK270 HB
     have HO258 := n0_
     have HO261 := n1_
     have HO266 := n2_
     have HO269 := n3_
     have HO275 := n4_
     have HO278 := n5_
     have BK253 := n6_
     have BK270 := n7_
     have HB := n8_
     clear n0_ n1_ n2_ n3_ n4_ n5_ n6_ n7_ n8_
     (try clear hb)
     (try clear hb2)
     (try clear hk)
     (try clear hi)
     refine hK.out _ _ ⟨(blk_cell BK270.out 0).trans rfl, (blk_cell BK270.out 1).trans rfl, (blk_cell BK270.out 2).trans rfl, (blk_cell BK253.out 0).trans rfl, (blk_cell BK253.out 1).trans rfl, (blk_cell BK253.out 2).trans rfl⟩ (fun hHeld => ?_)
     clear hK K
     refine norm_ (a' := ?_) ?_ ?_
     rotate_left
     ·show Act.put _ (some 32) _ = _
      simp only [Act.put, List.setIfInBounds_toArray, List.set_cons_zero, List.set_cons_succ, i64_w, i32_w]
      rfl
     refine yq_ (i := 4) (N := some 33) #[true, true, true, true, true] (by kernel_rfl) ?_
     refine done_ (by kernel_rfl) ?_
     try go_wp2
     go_ret
     exact ⟨by first | rfl | (simp [errW_none, errW_some] <;> rfl) | (simp [*, errW_none, errW_some] <;> rfl), by repeat (first | (with_reducible first | exact HB.out | apply below_alloc | apply pw_below_drewN | apply below_drew1 | refine below_set ?_ GE253.out | refine below_set ?_ GE270.out) | exact HB.out)⟩
    ·replace c17 := Bool.eq_false_iff.mpr c17
     subst c17
     have H1 : (some false) = some r := by rw [if_neg (show ¬ (false = true) by decide)] at H; exact H
     clear H
     have H := H1
     clear H1
     obtain rfl := Option.some.inj H
     go_enter Tryd.func9, Tryd.ntmps9
     try go_wp2_with (first | ((with_reducible refine gate_dst (N := 2) rfl ?_); refine box_event ?hg (N := 2) ?hd (cs := #[.int .i64 a0_0, .slice A0_1 l0_1.length c0_1, .slice A0_2 l0_2.length c0_2]) (t := 46) ?hr ?_; (case hd => rfl); (case hg => rfl); (case hr => first | (go_simp; done) | (go_simp; rfl)); intro gb253 hg w39 hbox hb; have n0_ := Aside0.mk (below_step tq_0 hb); have n1_ := Aside0.mk (hbox); have n2_ := Aside0.mk (gb_ hg tq_0); have n3_ := Aside0.mk (gb_ hg tq_0); clear HB; have HB := n0_; have BK253 := n1_; have GW253 := n2_; have GE253 := n3_; clear n0_ n1_ n2_ n3_; clear hb hbox hg; have hcz40_0 := bc_ BK253.out 0; have hcz40_1 := bc_ BK253.out 1; have hcz40_2 := bc_ BK253.out 2; have hfz40_0 := blk_frozen BK253.out 0; have hfz40_1 := blk_frozen BK253.out 1; have hfz40_2 := blk_frozen BK253.out 2) | ((with_reducible refine gate_callee (f := 32) rfl ?_); refine goesL_ (some 14) rfl rfl Tryd.func32 (by kernel_rfl) rfl #[.agg #[.int .i64 a0_0, .slice A0_1 l0_1.length c0_1, .slice A0_2 l0_2.length c0_2], .int .i64 1048576] rfl tq_1 ?_; (with_reducible refine (laws_szPart.calls k a0_0 _ _ l0_1 _ _ l0_2 1048576 t254 _ ?side1 ?side2 ?side3 ?side4 A5.out).mono ?_); (case side1 => exact tq_13); (case side2 => exact HC0_1.out); (case side3 => exact tq_19); (case side4 => exact HC0_2.out); rintro e w41 ⟨rfl, hb⟩; refine ⟨_, rfl, ?_⟩; have n0_ := Aside0.mk (blk_below tq_8 hb); have n1_ := Aside0.mk (below_step tq_4 hb); clear BK253 HB; have BK253 := n0_; have HB := n1_; clear n0_ n1_; (try clear hb); (try clear hb2); (try clear hk); (try clear hi); have hcz42_0 := bc_ BK253.out 0; have hcz42_1 := bc_ BK253.out 1; have hcz42_2 := bc_ BK253.out 2; have hfz42_0 := blk_frozen BK253.out 0; have hfz42_1 := blk_frozen BK253.out 1; have hfz42_2 := blk_frozen BK253.out 2) | ((with_reducible refine gate_callee (f := 34) rfl ?_); refine goesL_ (some 18) rfl rfl Tryd.func34 (by kernel_rfl) rfl #[.agg #[.int .i64 a0_0, .slice A0_1 l0_1.length c0_1, .slice A0_2 l0_2.length c0_2]] rfl tq_1 ?_; (with_reducible refine (laws_toPart.calls k a0_0 _ _ l0_1 _ _ l0_2 t255 t256 t259 _ ?side1 ?side2 ?side3 ?side4 A10.out).mono ?_); (case side1 => exact tq_13); (case side2 => exact HC0_1.out); (case side3 => exact tq_19); (case side4 => exact HC0_2.out); rintro e w43 ⟨v257, v260, rfl, ho0, ho1, hb⟩; refine ⟨_, rfl, ?_⟩; have n0_ := Aside0.mk (Kd.R_lower ho0 (below_size tq_4)); have n1_ := Aside0.mk (Kd.S_lower ho1 (below_size tq_4)); have n2_ := Aside0.mk (blk_below tq_8 hb); have n3_ := Aside0.mk (below_step tq_4 hb); clear BK253 HB; have HO258 := n0_; have HO261 := n1_; have BK253 := n2_; have HB := n3_; clear n0_ n1_ n2_ n3_; (try clear hb); (try clear hb2); (try clear hk); (try clear hi); (try clear ho0); (try clear ho1); obtain ⟨Ao44, co44, eo44⟩ := Kd.R_slice HO258.out; subst eo44; obtain ⟨Ao45, co45, eo45⟩ := Kd.S_slice HO261.out; subst eo45) | ((with_reducible refine gate_callee (f := 33) rfl ?_); refine goesL_ (some 20) rfl rfl Tryd.func33 (by kernel_rfl) rfl #[.agg #[.int .i64 t255, .slice Ao44 t256.length co44, .slice Ao45 t259.length co45], .string a1] rfl tq_1 ?_; (with_reducible refine (spec_FindInode.calls k t255 _ _ t256 _ _ t259 a1 t262 _ ?side1 ?side2 ?side3 ?side4 A11.out).mono ?_); (case side1 => exact tq_67); (case side2 => exact (Kd.R_reads' HO258.out).2.1); (case side3 => exact tq_66); (case side4 => exact (Kd.S_reads' HO261.out).2.1); rintro e w46 ⟨rfl, hb⟩; refine ⟨_, rfl, ?_⟩; have n0_ := Aside0.mk (Kd.R_below tq_23 hb); have n1_ := Aside0.mk (Kd.S_below tq_22 hb); have n2_ := Aside0.mk (blk_below tq_8 hb); have n3_ := Aside0.mk (below_step tq_4 hb); clear HO258 HO261 BK253 HB; have HO258 := n0_; have HO261 := n1_; have BK253 := n2_; have HB := n3_; clear n0_ n1_ n2_ n3_; (try clear hb); (try clear hb2); (try clear hk); (try clear hi); have hcz47_0 := bc_ BK253.out 0; have hcz47_1 := bc_ BK253.out 1; have hcz47_2 := bc_ BK253.out 2; have hfz47_0 := blk_frozen BK253.out 0; have hfz47_1 := blk_frozen BK253.out 1; have hfz47_2 := blk_frozen BK253.out 2) | ((with_reducible refine gate_callee (f := 34) rfl ?_); refine goesL_ (some 22) rfl rfl Tryd.func34 (by kernel_rfl) rfl #[.agg #[.int .i64 a0_0, .slice A0_1 l0_1.length c0_1, .slice A0_2 l0_2.length c0_2]] rfl tq_1 ?_; (with_reducible refine (laws_toPart.calls k a0_0 _ _ l0_1 _ _ l0_2 t263 t264 t267 _ ?side1 ?side2 ?side3 ?side4 A12.out).mono ?_); (case side1 => exact tq_13); (case side2 => exact HC0_1.out); (case side3 => exact tq_19); (case side4 => exact HC0_2.out); rintro e w48 ⟨v265, v268, rfl, ho0, ho1, hb⟩; refine ⟨_, rfl, ?_⟩; have n0_ := Aside0.mk (Kd.R_elder' tq_23 (Kd.R_base ho0) hb); have n1_ := Aside0.mk (Kd.S_elder' tq_22 (Kd.S_base ho1) hb); have n2_ := Aside0.mk (Kd.R_lower (Kd.R_new' ho0 (Kd.R_lt tq_23)) (below_size tq_4)); have n3_ := Aside0.mk (Kd.S_lower (Kd.S_new' ho1 (Kd.S_lt tq_22)) (below_size tq_4)); have n4_ := Aside0.mk (blk_below tq_8 hb); have n5_ := Aside0.mk (below_step tq_4 hb); clear HO258 HO261 BK253 HB; have HO258 := n0_; have HO261 := n1_; have HO266 := n2_; have HO269 := n3_; have BK253 := n4_; have HB := n5_; clear n0_ n1_ n2_ n3_ n4_ n5_; (try clear hb); (try clear hb2); (try clear hk); (try clear hi); (try clear ho0); (try clear ho1)) | ((with_reducible refine gate_dst (N := 7) rfl ?_); refine box_event ?hg (N := 7) ?hd (cs := #[.int .i64 0, .slice none 0 0, .slice none 0 0]) (t := 51) ?hr ?_; (case hd => rfl); (case hg => rfl); (case hr => first | (go_simp; done) | (go_simp; rfl)); intro gb270 hg w49 hbox hb; have n0_ := Aside0.mk (Kd.R_below tq_23 hb); have n1_ := Aside0.mk (Kd.S_below tq_22 hb); have n2_ := Aside0.mk (Kd.R_below tq_36 hb); have n3_ := Aside0.mk (Kd.S_below tq_35 hb); have n4_ := Aside0.mk (blk_below tq_8 hb); have n5_ := Aside0.mk (below_step tq_4 hb); have n6_ := Aside0.mk (hbox); have n7_ := Aside0.mk (gb_ hg tq_4); have n8_ := Aside0.mk (gb_ hg tq_4); have n9_ := Aside0.mk (ltne_ hg (blk_lt tq_8)); have n10_ := Aside0.mk (gtne_ hg (blk_lt tq_8)); clear HO258 HO261 HO266 HO269 BK253 HB; have HO258 := n0_; have HO261 := n1_; have HO266 := n2_; have HO269 := n3_; have BK253 := n4_; have HB := n5_; have BK270 := n6_; have GW270 := n7_; have GE270 := n8_; have NB253_270 := n9_; have NB270_253 := n10_; clear n0_ n1_ n2_ n3_ n4_ n5_ n6_ n7_ n8_ n9_ n10_; clear hb hbox hg; have hnb50 := NB270_253.out; have hnc50 := NB253_270.out; have hcz51_0 := bc_ BK270.out 0; have hcz51_1 := bc_ BK270.out 1; have hcz51_2 := bc_ BK270.out 2; have hfz51_0 := blk_frozen BK270.out 0; have hfz51_1 := blk_frozen BK270.out 1; have hfz51_2 := blk_frozen BK270.out 2; obtain ⟨Ao52, co52, eo52⟩ := Kd.R_slice HO266.out; subst eo52; obtain ⟨Ao53, co53, eo53⟩ := Kd.S_slice HO269.out; subst eo53) | ((with_reducible refine gate_callee (f := 35) rfl ?_); refine goesL_ (some 25) rfl rfl Tryd.func35 (by kernel_rfl) rfl #[.agg #[.int .i64 t263, .slice Ao52 t264.length co52, .slice Ao53 t267.length co53], .string a1] rfl tq_1 ?_; (with_reducible refine (impl_FindInode.calls k t263 _ _ t264 _ _ t267 a1 t271 _ ?side1 ?side2 ?side3 ?side4 ?side5 A13.out).mono ?_); (case side1 => exact DoorOk.below HD.out tq_15); (case side2 => refine (Kd.R_reads' (e := 3) (base := w.heap.size) (ok := fun k_ => (True ∧ some k_ ≠ (.slice Ao44 t256.length co44 : Value).ownBlock)) (n := t264.length) (c := co52) ?_).2.2; exact tq_53); (case side3 => exact (Kd.R_reads' HO266.out).2.1); (case side4 => refine (Kd.S_reads' (e := 83) (base := w.heap.size) (ok := fun k_ => (True ∧ some k_ ≠ (.slice Ao45 t259.length co45 : Value).ownBlock)) (n := t267.length) (c := co53) ?_).2.2; exact tq_50); (case side5 => exact (Kd.S_reads' HO269.out).2.1); rintro e w54 ⟨rfl, hb⟩; refine ⟨_, rfl, ?_⟩; have n0_ := Aside0.mk (Kd.R_below (by (with_reducible repeat (first | apply Kd.R_alloc | apply Kd.R_drewN | apply Kd.R_drew)); exact (Kd.R_mono (Kd.R_far (p := ⟨gb270, 2, none⟩) (Kd.R_far (p := ⟨gb270, 1, none⟩) (Kd.R_far (p := ⟨gb270, 0, none⟩) (Kd.R_types HO258.out BK270.out (by decide)) (fun _ hk => hk.2) (.int .i64 t263)) (fun _ hk => hk.2) (.slice Ao52 t264.length co52)) (fun _ hk => hk.2) (.slice Ao53 t267.length co53)) (fun _ h_ => h_.1))) hb); have n1_ := Aside0.mk (Kd.S_below (by (with_reducible repeat (first | apply Kd.S_alloc | apply Kd.S_drewN | apply Kd.S_drew)); exact (Kd.S_mono (Kd.S_far (p := ⟨gb270, 2, none⟩) (Kd.S_far (p := ⟨gb270, 1, none⟩) (Kd.S_far (p := ⟨gb270, 0, none⟩) (Kd.S_types HO261.out BK270.out (by decide)) (fun _ hk => hk.2) (.int .i64 t263)) (fun _ hk => hk.2) (.slice Ao52 t264.length co52)) (fun _ hk => hk.2) (.slice Ao53 t267.length co53)) (fun _ h_ => h_.1))) hb); have n2_ := Aside0.mk (Kd.R_below tq_53 hb); have n3_ := Aside0.mk (Kd.S_below tq_50 hb); have n4_ := Aside0.mk (blk_below (g := gb253) (o := .cells #[.int .i64 a0_0, .slice A0_1 l0_1.length c0_1, .slice A0_2 l0_2.length c0_2] 46 (0, 0)) tq_31 hb); have n5_ := Aside0.mk (blk_below (g := gb270) (o := .cells #[.int .i64 t263, .slice Ao52 t264.length co52, .slice Ao53 t267.length co53] 51 (0, 0)) (by (with_reducible repeat (first | refine blk_drewN ?_ _ | refine blk_drew ?_ | refine blk_alloc ?_ _)); refine blk_put (cs := #[.int .i64 t263, .slice Ao52 t264.length co52, .slice none 0 0]) ?_ 2 _ rfl; (with_reducible repeat (first | refine blk_drewN ?_ _ | refine blk_drew ?_ | refine blk_alloc ?_ _)); refine blk_put (cs := #[.int .i64 t263, .slice none 0 0, .slice none 0 0]) ?_ 1 _ rfl; (with_reducible repeat (first | refine blk_drewN ?_ _ | refine blk_drew ?_ | refine blk_alloc ?_ _)); refine blk_put (cs := #[.int .i64 0, .slice none 0 0, .slice none 0 0]) ?_ 0 _ rfl; (with_reducible repeat (first | refine blk_drewN ?_ _ | refine blk_drew ?_ | refine blk_alloc ?_ _)); exact BK270.out) hb); have n6_ := Aside0.mk (below_step tq_15 hb); clear HO258 HO261 HO266 HO269 BK253 BK270 HB; have HO258 := n0_; have HO261 := n1_; have HO266 := n2_; have HO269 := n3_; have BK253 := n4_; have BK270 := n5_; have HB := n6_; clear n0_ n1_ n2_ n3_ n4_ n5_ n6_; (try clear hb); (try clear hb2); (try clear hk); (try clear hi)))
     have n0_ := Aside0.mk (Kd.R_drew HO258.out)
     have n1_ := Aside0.mk (Kd.S_drew HO261.out)
     have n2_ := Aside0.mk (Kd.R_drew HO266.out)
     have n3_ := Aside0.mk (Kd.S_drew HO269.out)
     have n4_ := Aside0.mk (blk_drew BK253.out)
     have n5_ := Aside0.mk (blk_drew BK270.out)
     have n6_ := Aside0.mk (below_drew1 HB.out)
     clear HO258 HO261 HO266 HO269 BK253 BK270 HB
     have HO258 := n0_
     have HO261 := n1_
     have HO266 := n2_
     have HO269 := n3_
     have BK253 := n4_
     have BK270 := n5_
     have HB := n6_
     clear n0_ n1_ n2_ n3_ n4_ n5_ n6_
     refine start_ (n := 5) (S := fun w' => w'.cell? ⟨gb270, 0, none⟩ = some (.int .i64 t263) ∧ w'.cell? ⟨gb270, 1, none⟩ = some (.slice Ao52 t264.length co52) ∧ w'.cell? ⟨gb270, 2, none⟩ = some (.slice Ao53 t267.length co53) ∧ w'.cell? ⟨gb253, 0, none⟩ = some (.int .i64 a0_0) ∧ w'.cell? ⟨gb253, 1, none⟩ = some (.slice A0_1 l0_1.length c0_1) ∧ w'.cell? ⟨gb253, 2, none⟩ = some (.slice A0_2 l0_2.length c0_2)) (ds := []) #[false, false, false, false, false] (by kernel_rfl) rfl rfl ⟨(blk_cell BK270.out 0).trans rfl, (blk_cell BK270.out 1).trans rfl, (blk_cell BK270.out 2).trans rfl, (blk_cell BK253.out 0).trans rfl, (blk_cell BK253.out 1).trans rfl, (blk_cell BK253.out 2).trans rfl⟩ (fun hHeld => ?_)
     generalize w54.drew = w55 at HO258 HO261 HO266 HO269 BK253 BK270 HB hHeld ⊢
     refine take_ (i := 0) (N := some 29) (v := ?_) (a' := ?_) #[true, false, false, false, false] rfl rfl (by kernel_rfl) (fun _ _ _ h => h) (Or.inl ⟨by rfl, ?_⟩) hHeld ?_ ?_
     rotate_left
     ·rintro w' ⟨s0, s1, s2, s3, s4, s5⟩
      go_simp
      with_reducible rfl
     rotate_left
     ·simp only [Act.put, List.setIfInBounds_toArray, List.set_cons_zero, List.set_cons_succ, i64_w, i32_w]
      rfl
     refine take_ (i := 1) (N := some 30) (v := ?_) (a' := ?_) #[true, true, false, false, false] rfl rfl (by kernel_rfl) (fun _ _ _ h => h) (Or.inl ⟨by rfl, ?_⟩) hHeld ?_ ?_
     rotate_left
     ·rintro w' ⟨s0, s1, s2, s3, s4, s5⟩
      go_simp
      with_reducible rfl
     rotate_left
     ·simp only [Act.put, List.setIfInBounds_toArray, List.set_cons_zero, List.set_cons_succ, i64_w, i32_w]
      rfl
     refine one_ (i := 2) (N := some 31) #[true, true, true, false, false] rfl rfl (by kernel_rfl) (by decide) (fun K hK => ?_)
     refine goes_ Tryd.func34 (by kernel_rfl) rfl #[.agg #[.int .i64 a0_0, .slice A0_1 l0_1.length c0_1, .slice A0_2 l0_2.length c0_2]] (by rfl) rfl rfl tq_1 ?_
     with_reducible refine (laws_toPart.calls k a0_0 _ _ l0_1 _ _ l0_2 t272 t273 t276 _ ?side1 ?side2 ?side3 ?side4 A15.out).mono ?_
     (case side1 => exact tq_13)
     (case side2 => exact HC0_1.out)
     (case side3 => exact tq_19)
     (case side4 => exact HC0_2.out)
     rintro e w56 ⟨v274, v277, rfl, ho0, ho1, hb⟩
     refine ⟨_, rfl, ?_⟩
     have n0_ := Aside0.mk (Kd.R_elder' tq_23 (Kd.R_base ho0) hb)
     have n1_ := Aside0.mk (Kd.S_elder' tq_22 (Kd.S_base ho1) hb)
     have n2_ := Aside0.mk (Kd.R_elder' tq_36 (Kd.R_base ho0) hb)
     have n3_ := Aside0.mk (Kd.S_elder' tq_35 (Kd.S_base ho1) hb)
     have n4_ := Aside0.mk (Kd.R_lower (Kd.R_new' (Kd.R_new' ho0 (Kd.R_lt tq_23)) (Kd.R_lt tq_36)) (below_size tq_15))
     have n5_ := Aside0.mk (Kd.S_lower (Kd.S_new' (Kd.S_new' ho1 (Kd.S_lt tq_22)) (Kd.S_lt tq_35)) (below_size tq_15))
     have n6_ := Aside0.mk (blk_below tq_8 hb)
     have n7_ := Aside0.mk (blk_below tq_59 hb)
     have n8_ := Aside0.mk (below_step tq_15 hb)
     clear HO258 HO261 HO266 HO269 BK253 BK270 HB
     have HO258 := n0_
     have HO261 := n1_
     have HO266 := n2_
     have HO269 := n3_
     have HO275 := n4_
     have HO278 := n5_
     have BK253 := n6_
     have BK270 := n7_
     have HB := n8_
     clear n0_ n1_ n2_ n3_ n4_ n5_ n6_ n7_ n8_
     (try clear hb)
     (try clear hb2)
     (try clear hk)
     (try clear hi)
     (try clear ho0)
     (try clear ho1)
     obtain ⟨Ao57, co57, eo57⟩ := Kd.R_slice HO275.out
     (first | subst eo57 | (injection eo57 with f1_ f2_ f3_; have f4_ := f1_.symm; have f5_ := f3_.symm; clear f1_ f2_ f3_; subst f4_; subst f5_))
     obtain ⟨Ao58, co58, eo58⟩ := Kd.S_slice HO278.out
     (first | subst eo58 | (injection eo58 with f1_ f2_ f3_; have f4_ := f1_.symm; have f5_ := f3_.symm; clear f1_ f2_ f3_; subst f4_; subst f5_))
     refine hK.out _ _ ⟨(blk_cell BK270.out 0).trans rfl, (blk_cell BK270.out 1).trans rfl, (blk_cell BK270.out 2).trans rfl, (blk_cell BK253.out 0).trans rfl, (blk_cell BK253.out 1).trans rfl, (blk_cell BK253.out 2).trans rfl⟩ (fun hHeld => ?_)
     clear hK K
     refine norm_ (a' := ?_) ?_ ?_
     rotate_left
     ·show Act.put _ (some 31) _ = _
      simp only [Act.put, List.setIfInBounds_toArray, List.set_cons_zero, List.set_cons_succ, i64_w, i32_w]
      rfl
     refine one_ (i := 3) (N := some 32) #[true, true, true, true, false] rfl rfl (by kernel_rfl) (by decide) (fun K hK => ?_)
     refine goes_ Tryd.func36 (by kernel_rfl) rfl #[.agg #[.int .i64 t263, .slice Ao52 t264.length co52, .slice Ao53 t267.length co53], .agg #[.int .i64 t272, .slice Ao57 t273.length co57, .slice Ao58 t276.length co58]] (by rfl) rfl rfl tq_1 ?_
     with_reducible refine (laws_eqPart.calls k t263 _ _ t264 _ _ t267 t272 _ _ t273 _ _ t276 false _ ?side1 ?side2 ?side3 ?side4 ?side5 ?side6 ?side7 ?side8 A16.out).mono ?_
     (case side1 => exact tq_92)
     (case side2 => exact (Kd.R_reads' HO266.out).2.1)
     (case side3 => exact tq_90)
     (case side4 => exact (Kd.S_reads' HO269.out).2.1)
     (case side5 => exact tq_91)
     (case side6 => exact (Kd.R_reads' HO275.out).2.1)
     (case side7 => exact tq_89)
     (case side8 => exact (Kd.S_reads' HO278.out).2.1)
     rintro e w59 ⟨rfl, hb⟩
     refine ⟨_, rfl, ?_⟩
     have n0_ := Aside0.mk (Kd.R_below tq_23 hb)
     have n1_ := Aside0.mk (Kd.S_below tq_22 hb)
     have n2_ := Aside0.mk (Kd.R_below tq_36 hb)
     have n3_ := Aside0.mk (Kd.S_below tq_35 hb)
     have n4_ := Aside0.mk (Kd.R_below (by (with_reducible repeat (first | apply Kd.R_alloc | apply Kd.R_drewN | apply Kd.R_drew)); exact HO275.out) hb)
     have n5_ := Aside0.mk (Kd.S_below (by (with_reducible repeat (first | apply Kd.S_alloc | apply Kd.S_drewN | apply Kd.S_drew)); exact HO278.out) hb)
     have n6_ := Aside0.mk (blk_below tq_8 hb)
     have n7_ := Aside0.mk (blk_below tq_59 hb)
     have n8_ := Aside0.mk (below_step tq_15 hb)
     clear HO258 HO261 HO266 HO269 HO275 HO278 BK253 BK270 HB
     have HO258 := n0_
     have HO261 := n1_
     have HO266 := n2_
     have HO269 := n3_
     have HO275 := n4_
     have HO278 := n5_
     have BK253 := n6_
     have BK270 := n7_
     have HB := n8_
     clear n0_ n1_ n2_ n3_ n4_ n5_ n6_ n7_ n8_
     (try clear hb)
     (try clear hb2)
     (try clear hk)
     (try clear hi)
     refine hK.out _ _ ⟨(blk_cell BK270.out 0).trans rfl, (blk_cell BK270.out 1).trans rfl, (blk_cell BK270.out 2).trans rfl, (blk_cell BK253.out 0).trans rfl, (blk_cell BK253.out 1).trans rfl, (blk_cell BK253.out 2).trans rfl⟩ (fun hHeld => ?_)
     clear hK K
     refine norm_ (a' := ?_) ?_ ?_
     rotate_left
     ·show Act.put _ (some 32) _ = _
      simp only [Act.put, List.setIfInBounds_toArray, List.set_cons_zero, List.set_cons_succ, i64_w, i32_w]
      rfl
     refine yq_ (i := 4) (N := some 33) #[true, true, true, true, true] (by kernel_rfl) ?_
     refine done_ (by kernel_rfl) ?_
     try go_wp2
     go_ret
     exact ⟨by first | rfl | (simp [errW_none, errW_some] <;> rfl) | (simp [*, errW_none, errW_some] <;> rfl), by repeat (first | (with_reducible first | exact HB.out | apply below_alloc | apply pw_below_drewN | apply below_drew1 | refine below_set ?_ GE253.out | refine below_set ?_ GE270.out) | exact HB.out)⟩
   ·rw [if_neg c14] at H
    have c14b0 : (t271 == t262) = false := beq_eq_false_iff_ne.mpr c14
    have c14b1 : (t271 != t262) = true := bne_iff_ne.mpr c14
    obtain rfl := Option.some.inj H
    go_enter Tryd.func9, Tryd.ntmps9
    go_wp2_with (first | ((with_reducible refine gate_dst (N := 2) rfl ?_); refine box_event ?hg (N := 2) ?hd (cs := #[.int .i64 a0_0, .slice A0_1 l0_1.length c0_1, .slice A0_2 l0_2.length c0_2]) (t := 46) ?hr ?_; (case hd => rfl); (case hg => rfl); (case hr => first | (go_simp; done) | (go_simp; rfl)); intro gb253 hg w60 hbox hb; have n0_ := Aside0.mk (below_step tq_0 hb); have n1_ := Aside0.mk (hbox); have n2_ := Aside0.mk (gb_ hg tq_0); have n3_ := Aside0.mk (gb_ hg tq_0); clear HB; have HB := n0_; have BK253 := n1_; have GW253 := n2_; have GE253 := n3_; clear n0_ n1_ n2_ n3_; clear hb hbox hg; have hcz61_0 := bc_ BK253.out 0; have hcz61_1 := bc_ BK253.out 1; have hcz61_2 := bc_ BK253.out 2; have hfz61_0 := blk_frozen BK253.out 0; have hfz61_1 := blk_frozen BK253.out 1; have hfz61_2 := blk_frozen BK253.out 2) | ((with_reducible refine gate_callee (f := 32) rfl ?_); refine goesL_ (some 14) rfl rfl Tryd.func32 (by kernel_rfl) rfl #[.agg #[.int .i64 a0_0, .slice A0_1 l0_1.length c0_1, .slice A0_2 l0_2.length c0_2], .int .i64 1048576] rfl tq_1 ?_; (with_reducible refine (laws_szPart.calls k a0_0 _ _ l0_1 _ _ l0_2 1048576 t254 _ ?side1 ?side2 ?side3 ?side4 A5.out).mono ?_); (case side1 => exact tq_13); (case side2 => exact HC0_1.out); (case side3 => exact tq_19); (case side4 => exact HC0_2.out); rintro e w62 ⟨rfl, hb⟩; refine ⟨_, rfl, ?_⟩; have n0_ := Aside0.mk (blk_below tq_8 hb); have n1_ := Aside0.mk (below_step tq_4 hb); clear BK253 HB; have BK253 := n0_; have HB := n1_; clear n0_ n1_; (try clear hb); (try clear hb2); (try clear hk); (try clear hi); have hcz63_0 := bc_ BK253.out 0; have hcz63_1 := bc_ BK253.out 1; have hcz63_2 := bc_ BK253.out 2; have hfz63_0 := blk_frozen BK253.out 0; have hfz63_1 := blk_frozen BK253.out 1; have hfz63_2 := blk_frozen BK253.out 2) | ((with_reducible refine gate_callee (f := 34) rfl ?_); refine goesL_ (some 18) rfl rfl Tryd.func34 (by kernel_rfl) rfl #[.agg #[.int .i64 a0_0, .slice A0_1 l0_1.length c0_1, .slice A0_2 l0_2.length c0_2]] rfl tq_1 ?_; (with_reducible refine (laws_toPart.calls k a0_0 _ _ l0_1 _ _ l0_2 t255 t256 t259 _ ?side1 ?side2 ?side3 ?side4 A10.out).mono ?_); (case side1 => exact tq_13); (case side2 => exact HC0_1.out); (case side3 => exact tq_19); (case side4 => exact HC0_2.out); rintro e w64 ⟨v257, v260, rfl, ho0, ho1, hb⟩; refine ⟨_, rfl, ?_⟩; have n0_ := Aside0.mk (Kd.R_lower ho0 (below_size tq_4)); have n1_ := Aside0.mk (Kd.S_lower ho1 (below_size tq_4)); have n2_ := Aside0.mk (blk_below tq_8 hb); have n3_ := Aside0.mk (below_step tq_4 hb); clear BK253 HB; have HO258 := n0_; have HO261 := n1_; have BK253 := n2_; have HB := n3_; clear n0_ n1_ n2_ n3_; (try clear hb); (try clear hb2); (try clear hk); (try clear hi); (try clear ho0); (try clear ho1); obtain ⟨Ao65, co65, eo65⟩ := Kd.R_slice HO258.out; subst eo65; obtain ⟨Ao66, co66, eo66⟩ := Kd.S_slice HO261.out; subst eo66) | ((with_reducible refine gate_callee (f := 33) rfl ?_); refine goesL_ (some 20) rfl rfl Tryd.func33 (by kernel_rfl) rfl #[.agg #[.int .i64 t255, .slice Ao65 t256.length co65, .slice Ao66 t259.length co66], .string a1] rfl tq_1 ?_; (with_reducible refine (spec_FindInode.calls k t255 _ _ t256 _ _ t259 a1 t262 _ ?side1 ?side2 ?side3 ?side4 A11.out).mono ?_); (case side1 => exact tq_67); (case side2 => exact (Kd.R_reads' HO258.out).2.1); (case side3 => exact tq_66); (case side4 => exact (Kd.S_reads' HO261.out).2.1); rintro e w67 ⟨rfl, hb⟩; refine ⟨_, rfl, ?_⟩; have n0_ := Aside0.mk (Kd.R_below tq_23 hb); have n1_ := Aside0.mk (Kd.S_below tq_22 hb); have n2_ := Aside0.mk (blk_below tq_8 hb); have n3_ := Aside0.mk (below_step tq_4 hb); clear HO258 HO261 BK253 HB; have HO258 := n0_; have HO261 := n1_; have BK253 := n2_; have HB := n3_; clear n0_ n1_ n2_ n3_; (try clear hb); (try clear hb2); (try clear hk); (try clear hi); have hcz68_0 := bc_ BK253.out 0; have hcz68_1 := bc_ BK253.out 1; have hcz68_2 := bc_ BK253.out 2; have hfz68_0 := blk_frozen BK253.out 0; have hfz68_1 := blk_frozen BK253.out 1; have hfz68_2 := blk_frozen BK253.out 2) | ((with_reducible refine gate_callee (f := 34) rfl ?_); refine goesL_ (some 22) rfl rfl Tryd.func34 (by kernel_rfl) rfl #[.agg #[.int .i64 a0_0, .slice A0_1 l0_1.length c0_1, .slice A0_2 l0_2.length c0_2]] rfl tq_1 ?_; (with_reducible refine (laws_toPart.calls k a0_0 _ _ l0_1 _ _ l0_2 t263 t264 t267 _ ?side1 ?side2 ?side3 ?side4 A12.out).mono ?_); (case side1 => exact tq_13); (case side2 => exact HC0_1.out); (case side3 => exact tq_19); (case side4 => exact HC0_2.out); rintro e w69 ⟨v265, v268, rfl, ho0, ho1, hb⟩; refine ⟨_, rfl, ?_⟩; have n0_ := Aside0.mk (Kd.R_elder' tq_23 (Kd.R_base ho0) hb); have n1_ := Aside0.mk (Kd.S_elder' tq_22 (Kd.S_base ho1) hb); have n2_ := Aside0.mk (Kd.R_lower (Kd.R_new' ho0 (Kd.R_lt tq_23)) (below_size tq_4)); have n3_ := Aside0.mk (Kd.S_lower (Kd.S_new' ho1 (Kd.S_lt tq_22)) (below_size tq_4)); have n4_ := Aside0.mk (blk_below tq_8 hb); have n5_ := Aside0.mk (below_step tq_4 hb); clear HO258 HO261 BK253 HB; have HO258 := n0_; have HO261 := n1_; have HO266 := n2_; have HO269 := n3_; have BK253 := n4_; have HB := n5_; clear n0_ n1_ n2_ n3_ n4_ n5_; (try clear hb); (try clear hb2); (try clear hk); (try clear hi); (try clear ho0); (try clear ho1)) | ((with_reducible refine gate_dst (N := 7) rfl ?_); refine box_event ?hg (N := 7) ?hd (cs := #[.int .i64 0, .slice none 0 0, .slice none 0 0]) (t := 51) ?hr ?_; (case hd => rfl); (case hg => rfl); (case hr => first | (go_simp; done) | (go_simp; rfl)); intro gb270 hg w70 hbox hb; have n0_ := Aside0.mk (Kd.R_below tq_23 hb); have n1_ := Aside0.mk (Kd.S_below tq_22 hb); have n2_ := Aside0.mk (Kd.R_below tq_36 hb); have n3_ := Aside0.mk (Kd.S_below tq_35 hb); have n4_ := Aside0.mk (blk_below tq_8 hb); have n5_ := Aside0.mk (below_step tq_4 hb); have n6_ := Aside0.mk (hbox); have n7_ := Aside0.mk (gb_ hg tq_4); have n8_ := Aside0.mk (gb_ hg tq_4); have n9_ := Aside0.mk (ltne_ hg (blk_lt tq_8)); have n10_ := Aside0.mk (gtne_ hg (blk_lt tq_8)); clear HO258 HO261 HO266 HO269 BK253 HB; have HO258 := n0_; have HO261 := n1_; have HO266 := n2_; have HO269 := n3_; have BK253 := n4_; have HB := n5_; have BK270 := n6_; have GW270 := n7_; have GE270 := n8_; have NB253_270 := n9_; have NB270_253 := n10_; clear n0_ n1_ n2_ n3_ n4_ n5_ n6_ n7_ n8_ n9_ n10_; clear hb hbox hg; have hnb71 := NB270_253.out; have hnc71 := NB253_270.out; have hcz72_0 := bc_ BK270.out 0; have hcz72_1 := bc_ BK270.out 1; have hcz72_2 := bc_ BK270.out 2; have hfz72_0 := blk_frozen BK270.out 0; have hfz72_1 := blk_frozen BK270.out 1; have hfz72_2 := blk_frozen BK270.out 2; obtain ⟨Ao73, co73, eo73⟩ := Kd.R_slice HO266.out; subst eo73; obtain ⟨Ao74, co74, eo74⟩ := Kd.S_slice HO269.out; subst eo74) | ((with_reducible refine gate_callee (f := 35) rfl ?_); refine goesL_ (some 25) rfl rfl Tryd.func35 (by kernel_rfl) rfl #[.agg #[.int .i64 t263, .slice Ao73 t264.length co73, .slice Ao74 t267.length co74], .string a1] rfl tq_1 ?_; (with_reducible refine (impl_FindInode.calls k t263 _ _ t264 _ _ t267 a1 t271 _ ?side1 ?side2 ?side3 ?side4 ?side5 A13.out).mono ?_); (case side1 => exact DoorOk.below HD.out tq_15); (case side2 => refine (Kd.R_reads' (e := 3) (base := w.heap.size) (ok := fun k_ => (True ∧ some k_ ≠ (.slice Ao65 t256.length co65 : Value).ownBlock)) (n := t264.length) (c := co73) ?_).2.2; exact tq_52); (case side3 => exact (Kd.R_reads' HO266.out).2.1); (case side4 => refine (Kd.S_reads' (e := 83) (base := w.heap.size) (ok := fun k_ => (True ∧ some k_ ≠ (.slice Ao66 t259.length co66 : Value).ownBlock)) (n := t267.length) (c := co74) ?_).2.2; exact tq_49); (case side5 => exact (Kd.S_reads' HO269.out).2.1); rintro e w75 ⟨rfl, hb⟩; refine ⟨_, rfl, ?_⟩; have n0_ := Aside0.mk (Kd.R_below (by (with_reducible repeat (first | apply Kd.R_alloc | apply Kd.R_drewN | apply Kd.R_drew)); exact (Kd.R_mono (Kd.R_far (p := ⟨gb270, 2, none⟩) (Kd.R_far (p := ⟨gb270, 1, none⟩) (Kd.R_far (p := ⟨gb270, 0, none⟩) (Kd.R_types HO258.out BK270.out (by decide)) (fun _ hk => hk.2) (.int .i64 t263)) (fun _ hk => hk.2) (.slice Ao73 t264.length co73)) (fun _ hk => hk.2) (.slice Ao74 t267.length co74)) (fun _ h_ => h_.1))) hb); have n1_ := Aside0.mk (Kd.S_below (by (with_reducible repeat (first | apply Kd.S_alloc | apply Kd.S_drewN | apply Kd.S_drew)); exact (Kd.S_mono (Kd.S_far (p := ⟨gb270, 2, none⟩) (Kd.S_far (p := ⟨gb270, 1, none⟩) (Kd.S_far (p := ⟨gb270, 0, none⟩) (Kd.S_types HO261.out BK270.out (by decide)) (fun _ hk => hk.2) (.int .i64 t263)) (fun _ hk => hk.2) (.slice Ao73 t264.length co73)) (fun _ hk => hk.2) (.slice Ao74 t267.length co74)) (fun _ h_ => h_.1))) hb); have n2_ := Aside0.mk (Kd.R_below tq_52 hb); have n3_ := Aside0.mk (Kd.S_below tq_49 hb); have n4_ := Aside0.mk (blk_below (g := gb253) (o := .cells #[.int .i64 a0_0, .slice A0_1 l0_1.length c0_1, .slice A0_2 l0_2.length c0_2] 46 (0, 0)) tq_31 hb); have n5_ := Aside0.mk (blk_below (g := gb270) (o := .cells #[.int .i64 t263, .slice Ao73 t264.length co73, .slice Ao74 t267.length co74] 51 (0, 0)) (by (with_reducible repeat (first | refine blk_drewN ?_ _ | refine blk_drew ?_ | refine blk_alloc ?_ _)); refine blk_put (cs := #[.int .i64 t263, .slice Ao73 t264.length co73, .slice none 0 0]) ?_ 2 _ rfl; (with_reducible repeat (first | refine blk_drewN ?_ _ | refine blk_drew ?_ | refine blk_alloc ?_ _)); refine blk_put (cs := #[.int .i64 t263, .slice none 0 0, .slice none 0 0]) ?_ 1 _ rfl; (with_reducible repeat (first | refine blk_drewN ?_ _ | refine blk_drew ?_ | refine blk_alloc ?_ _)); refine blk_put (cs := #[.int .i64 0, .slice none 0 0, .slice none 0 0]) ?_ 0 _ rfl; (with_reducible repeat (first | refine blk_drewN ?_ _ | refine blk_drew ?_ | refine blk_alloc ?_ _)); exact BK270.out) hb); have n6_ := Aside0.mk (below_step tq_15 hb); clear HO258 HO261 HO266 HO269 BK253 BK270 HB; have HO258 := n0_; have HO261 := n1_; have HO266 := n2_; have HO269 := n3_; have BK253 := n4_; have BK270 := n5_; have HB := n6_; clear n0_ n1_ n2_ n3_ n4_ n5_ n6_; (try clear hb); (try clear hb2); (try clear hk); (try clear hi)))
    go_ret
    exact ⟨by first | rfl | (simp [errW_none, errW_some] <;> rfl) | (simp [*, errW_none, errW_some] <;> rfl), by repeat (first | (with_reducible first | exact HB.out | apply below_alloc | apply pw_below_drewN | apply below_drew1 | refine below_set ?_ GE253.out | refine below_set ?_ GE270.out) | exact HB.out)⟩

end Go.Proofs.YtabgpbmaoelohaaDoor.PFnExactFindInode
