/- Contracts of Go functions, written by a program of ours over the print of the kit: each says that the call returns what the Lean function beside it computes. Conditions: as each theorem states them. -/
import Derived.Test.YtleoknilacjakaaGreatPkFnExactPartWrites
import Derived.Test.YtleoknilacjakaaGreatPFnExactPartWritesx0
import Derived.Test.YtleoknilacjakaaGreatPFnExactPartWritesx1
import Derived.Test.YtleoknilacjakaaGreatPFnExactPartWritesx10
import Derived.Test.YtleoknilacjakaaGreatPFnExactPartWritesx11
import Derived.Test.YtleoknilacjakaaGreatPFnExactPartWritesx21
import Derived.Test.YtleoknilacjakaaGreatPFnExactPartWritesx23
import Derived.Test.YtleoknilacjakaaGreatPFnExactPartWritesx24
import Derived.Test.YtleoknilacjakaaGreatPFnExactPartWritesx25
namespace Go.Proofs.YtleoknilacjakaaGreat.PFnExactPartWrites
open Go.RowKit Go.Proofs.YtleoknilacjakaaGreatW.PrintWords Go.Proofs.YtleoknilacjakaaGreatW.PrintLast Go.Proofs.YtleoknilacjakaaGreatW.PrintMore
attribute [local go_sem] max2_int min2_int max_two min_two max_three min_three max_four min_four   -- for this text's walks alone
set_option linter.unusedVariables false
set_option linter.unusedSimpArgs false

/-! ### laws_FnExactPartWrites: function 3 -/
def laws_FnExactPartWrites.j0 : Nat → Int → List (S53) → List (S53) → Bool → Int → Int → Int → Int → Int → List Int → List (S62) → Option (Bool)
 | 0, _, _, _, _, _, _, _, _, _, _, _ => none
 | k + 1, x1, x8, x10, x52, x613000, x613001, x613002, x613003, x614000, x614001, x614002 => if x52 = true then (some false) else ((laws_markWriteS.f k x10 1).bind fun bt657 => ((laws_heldWriteS.f k bt657.2 1).bind fun t659 => (if t659 < 0 then (some false) else (if t659 = bt657.1 then ((laws_toGeo.f x613000 x613001 x613002 x613003).bind fun bt660 => ((laws_toPart.f k x614000 x614001 x614002).bind fun bt664 => ((impl_PartWrites.f k bt660.1 bt660.2.1 bt660.2.2.1 bt660.2.2.2 x1 bt664.1 bt664.2.1 bt664.2.2).bind fun t671 => ((laws_eqWriteS.f k t671 x8).bind fun t674 => (if t674 = true then ((laws_heldWriteS.f k bt657.2 1).bind fun t675 => (if t675 < 0 then (some false) else (if t675 = bt657.1 then (some true) else (some false)))) else (some false)))))) else (some false)))))
def laws_FnExactPartWrites.f (k : Nat) (a0_0 : Int) (a0_1 : Int) (a0_2 : Int) (a0_3 : Int) (a1 : Int) (a2_0 : Int) (l2_1 : List Int) (l2_2 : List (S62)) : Option (Bool) := (laws_szPart.f k a2_0 l2_1 l2_2 1048576).bind fun t614 => (if t614 < 0 then (some true) else ((laws_toGeo.f a0_0 a0_1 a0_2 a0_3).bind fun bt615 => ((laws_toPart.f k a2_0 l2_1 l2_2).bind fun bt619 => ((spec_PartWrites.f k bt615.1 bt615.2.1 bt615.2.2.1 bt615.2.2.2 a1 bt619.1 bt619.2.1 bt619.2.2).bind fun t626 => ((laws_toPart.f k a2_0 l2_1 l2_2).bind fun bt629 => ((laws_toGeo.f a0_0 a0_1 a0_2 a0_3).bind fun bt637 => ((impl_PartWrites.f k bt637.1 bt637.2.1 bt637.2.2.1 bt637.2.2.2 a1 bt629.1 bt629.2.1 bt629.2.2).bind fun t641 => ((laws_eqWriteS.f k t641 t626).bind fun t644 => (if t644 = true then ((laws_toPart.f k a2_0 l2_1 l2_2).bind fun bt645 => ((laws_eqPart.f k bt629.1 bt629.2.1 bt629.2.2 bt645.1 bt645.2.1 bt645.2.2).bind fun t652 => (if t652 = true then ((laws_markPart.f k bt629.1 bt629.2.1 bt629.2.2 1).bind fun bt653 => (if bt653.1 < 0 then (laws_FnExactPartWrites.j0 k a1 t626 t641 true a0_0 a0_1 a0_2 a0_3 a2_0 l2_1 l2_2) else ((laws_eqWriteS.f k t641 t626).bind fun t656 => (laws_FnExactPartWrites.j0 k a1 t626 t641 (!t656) a0_0 a0_1 a0_2 a0_3 a2_0 l2_1 l2_2)))) else (some false)))) else (some false))))))))))
set_option maxHeartbeats 8000000 in
set_option maxRecDepth 100000 in
theorem laws_FnExactPartWrites.calls (k : Nat) (ap : Int) (aq : Int) (ar : Int) (au : Int) (a1 : Int) (an : Int) (av : Option Addr) (aw : Nat) (ah : List Int) (ax : Option Addr) (ay : Nat) (ai : List (S62)) (r : Bool) (w : World) (br : Kd.C (Kd.int .i64) w av ah.length ah) (bs : ah.length ≤ aw) (bu : Kd.C k62 w ax ai.length ai) (bv : ai.length ≤ ay) (h : laws_FnExactPartWrites.f k ap aq ar au a1 an ah ai = some r) :
  Calls Tryz.prog 3 #[.agg #[.int .i64 ap, .int .i64 aq, .int .i64 ar, .int .i64 au], .int .i64 a1, .agg #[.int .i64 an, .slice av ah.length aw, .slice ax ai.length ay]] w fun e w' => e = .returned (.bool r) ∧ Below w.heap.size w w' := by
 have hu23 := Tryz.underlying23
 have hu27 := Tryz.underlying27
 have hu35 := Tryz.underlying35
 have HR2_1 := Aside0.mk br
 have bf := Aside0.mk bs
 clear br bs
 have HR2_2 := Aside0.mk bu
 have bg := Aside0.mk bv
 clear bu bv
 have HB := Aside0.mk (Below.refl w.heap.size w)
 unfold laws_FnExactPartWrites.f at h
 have H := h
 clear h
 obtain ⟨d5, A4, H⟩ := bd_ H
 have e8 := Aside0.mk H
 clear H
 go_enter Tryz.func3, Tryz.ntmps3
 go_upto_if 19 with (first | ((with_reducible refine gate_dst (N := 3) rfl ?_); refine be_ 3 (cs := #[.int .i64 ap, .int .i64 aq, .int .i64 ar, .int .i64 au]) 23 ?_; intro ak hg w6 hbox hb; have z_ := bx0_ th_ hb hbox hg; clear HB; obtain ⟨HB, a5, e9, GE612⟩ := z_; clear hb hbox hg) | ((with_reducible refine gate_dst (N := 5) rfl ?_); refine be_ 5 (cs := #[.int .i64 an, .slice av ah.length aw, .slice ax ai.length ay]) 27 ?_; intro ao hg w7 hbox hb; have z_ := bx1_ (kb_ a5) th_ hb hbox hg; clear a5 HB; obtain ⟨a5, HB, a6, ea, GE613, b7, b8⟩ := z_; clear hb hbox hg; obtain ⟨b0, b1⟩ := an2_ b8 b7; have ec := bb3_ a6.out) | ((with_reducible refine gate_callee (f := 5) rfl ?_); refine goesL_ (some 17) rfl rfl Tryz.func5 (by kernel_rfl) rfl #[.agg #[.int .i64 an, .slice av ah.length aw, .slice ax ai.length ay], .int .i64 1048576] rfl tq_0 ?_; (with_reducible refine (laws_szPart.calls k an _ _ ah _ _ ai 1048576 d5 _ ?side1 ?side2 ?side3 ?side4 A4.out).mono ?_); (case side1 => exact tq_8); (case side2 => exact bf.out); (case side3 => exact tq_9); (case side4 => exact bg.out); rintro e ed ⟨rfl, hb⟩; refine ⟨_, rfl, ?_⟩; have z_ := bw2_ (kb_ a5) (kb_ a6) th_ hb; clear a5 a6 HB; obtain ⟨a5, a6, HB⟩ := z_; (try clear hb)))
 (try simp only [Act.put, List.setIfInBounds_toArray, List.set_cons_zero, List.set_cons_succ])
 (try clear b1 b0)
 (try clear ec)
 have H := e8.out
 clear e8
 by_cases bw : d5 < 0
 ·rw [if_pos bw] at H
  have bh := decide_eq_true bw
  clear bw
  (first | rw [bh] | (simp only [i64_w, i32_w]; rw [bh]) | skip)
  obtain rfl := Option.some.inj H
  go_wp2
  go_ret
  exact ⟨tq_1, th_⟩
 rw [if_neg bw] at H
 have bh := decide_eq_false bw
 clear bw
 (first | rw [bh] | (simp only [i64_w, i32_w]; rw [bh]) | skip)
 obtain ⟨⟨bx, bz, ca, cb⟩, ee, H⟩ := bd_ H
 try dsimp -simprocs only at H
 obtain ⟨⟨cc, bl, bm⟩, ef, H⟩ := bd_ H
 try dsimp -simprocs only at H
 obtain ⟨az, eh, H⟩ := bd_ H
 obtain ⟨⟨al, af, ag⟩, ei, H⟩ := bd_ H
 try dsimp -simprocs only at H
 obtain ⟨⟨cd, ce, cf, cg⟩, ej, H⟩ := bd_ H
 try dsimp -simprocs only at H
 obtain ⟨t641, ek, H⟩ := bd_ H
 obtain ⟨d6, el, H⟩ := bd_ H
 have d7 := Aside0.mk H
 clear H
 try go_wp2
 have z_ := dw2_ a5 a6 HB
 clear a5 a6 HB
 obtain ⟨a5, a6, HB⟩ := z_
 refine start_ (n := 7) (S := fun w' => w'.cell? ⟨ak, 0, none⟩ = some (.int .i64 ap) ∧ w'.cell? ⟨ak, 1, none⟩ = some (.int .i64 aq) ∧ w'.cell? ⟨ak, 2, none⟩ = some (.int .i64 ar) ∧ w'.cell? ⟨ak, 3, none⟩ = some (.int .i64 au) ∧ w'.cell? ⟨ao, 0, none⟩ = some (.int .i64 an) ∧ w'.cell? ⟨ao, 1, none⟩ = some (.slice av ah.length aw) ∧ w'.cell? ⟨ao, 2, none⟩ = some (.slice ax ai.length ay)) (ds := []) bq_61 (by kernel_rfl) rfl rfl (bc4_ a5.out (bk3_ a6.out)) (fun hHeld => ?_)
 generalize ed.drew = f7 at a5 a6 HB hHeld ⊢
 refine yq_ (i := 2) (N := some 22) #[false, false, true, false, false, false, false] (by kernel_rfl) ?_
 refine take_ (i := 0) (N := some 20) (v := ?_) (a' := ?_) #[true, false, true, false, false, false, false] rfl rfl (by kernel_rfl) (fun _ _ _ h => h) (Or.inl ⟨(by rfl), ?_⟩) hHeld ?_ ?_
 rotate_left
 ·rintro w' ⟨s0, s1, s2, s3, s4, s5, s6⟩
  go_simp
  with_reducible rfl
 rotate_left
 ·simp only [Act.put, List.setIfInBounds_toArray, List.set_cons_zero, List.set_cons_succ, i64_w, i32_w]
  rfl
 refine take_ (i := 3) (N := some 23) (v := ?_) (a' := ?_) #[true, false, true, true, false, false, false] rfl rfl (by kernel_rfl) (fun _ _ _ h => h) (Or.inl ⟨(by rfl), ?_⟩) hHeld ?_ ?_
 rotate_left
 ·rintro w' ⟨s0, s1, s2, s3, s4, s5, s6⟩
  go_simp
  with_reducible rfl
 rotate_left
 ·simp only [Act.put, List.setIfInBounds_toArray, List.set_cons_zero, List.set_cons_succ, i64_w, i32_w]
  rfl
 refine one_ (i := 1) (N := some 21) bq_62 rfl rfl (by kernel_rfl) (by decide) (fun K hK => ?_)
 refine goes_ Tryz.func7 (by kernel_rfl) rfl #[.agg #[.int .i64 ap, .int .i64 aq, .int .i64 ar, .int .i64 au]] (by rfl) rfl rfl tq_0 ?_
 with_reducible refine (laws_toGeo.calls ap aq ar au bx bz ca cb _ ee.out).mono ?_
 rintro e f8 ⟨rfl, hb⟩
 refine ⟨_, rfl, ?_⟩
 have z_ := bw2_ (kb_ a5) (kb_ a6) th_ hb
 clear a5 a6 HB
 obtain ⟨a5, a6, HB⟩ := z_
 (try clear hb)
 refine hK.out _ _ (bc4_ a5.out (bk3_ a6.out)) (fun hHeld => ?_)
 clear hK K
 refine nm_ (some 21) ?_
 refine one_ (i := 4) (N := some 24) bq_63 rfl rfl (by kernel_rfl) (by decide) (fun K hK => ?_)
 refine goes_ Tryz.func8 (by kernel_rfl) rfl #[.agg #[.int .i64 an, .slice av ah.length aw, .slice ax ai.length ay]] (by rfl) rfl rfl tq_0 ?_
 with_reducible refine (laws_toPart.calls k an _ _ ah _ _ ai cc bl bm _ ?side1 ?side2 ?side3 ?side4 ef.out).mono ?_
 (case side1 => exact tq_8)
 (case side2 => exact bf.out)
 (case side3 => exact tq_9)
 (case side4 => exact bg.out)
 rintro e f9 ⟨v621, v624, rfl, ho0, ho1, hb⟩
 refine ⟨_, rfl, ?_⟩
 have z_ := p_ (Kd.R_lower ho0 (below_size th_)) <| p_ (Kd.S_lower ho1 (below_size th_)) <| bw2_ (kb_ a5) (kb_ a6) th_ hb
 clear a5 a6 HB
 obtain ⟨HO622, HO625, a5, a6, HB⟩ := z_
 (try clear hb)
 (try clear ho0)
 (try clear ho1)
 obtain ⟨Ao23, ch, d8⟩ := Kd.R_slice HO622.out
 (first | subst d8 | (injection d8 with f1_ f2_ f3_; have f4_ := f1_.symm; have f5_ := f3_.symm; clear f1_ f2_ f3_; subst f4_; subst f5_))
 obtain ⟨Ao24, ci, d9⟩ := Kd.S_slice HO625.out
 (first | subst d9 | (injection d9 with f1_ f2_ f3_; have f4_ := f1_.symm; have f5_ := f3_.symm; clear f1_ f2_ f3_; subst f4_; subst f5_))
 refine hK.out _ _ (bc4_ a5.out (bk3_ a6.out)) (fun hHeld => ?_)
 clear hK K
 refine nm_ (some 24) ?_
 refine one_ (i := 5) (N := some 25) bq_64 rfl rfl (by kernel_rfl) (by decide) (fun K hK => ?_)
 refine goes_ Tryz.func6 (by kernel_rfl) rfl #[.agg #[.int .i64 bx, .int .i64 bz, .int .i64 ca, .int .i64 cb], .int .i64 a1, .agg #[.int .i64 cc, .slice Ao23 bl.length ch, .slice Ao24 bm.length ci]] (by rfl) rfl rfl tq_0 ?_
 with_reducible refine (spec_PartWrites.calls k bx bz ca cb a1 cc _ _ bl _ _ bm az _ ?side1 ?side2 ?side3 ?side4 eh.out).mono ?_
 (case side1 => repeat (first | exact (Kd.R_reads' HO622.out).2.2 | (with_reducible refine Kd.C_alloc ?_ _) | (with_reducible refine Kd.C_drewN ?_ _) | (with_reducible refine Kd.C_drew ?_)))
 (case side2 => exact (Kd.R_reads' HO622.out).2.1)
 (case side3 => repeat (first | exact (Kd.S_reads' HO625.out).2.2 | (with_reducible refine Kd.C_alloc ?_ _) | (with_reducible refine Kd.C_drewN ?_ _) | (with_reducible refine Kd.C_drew ?_)))
 (case side4 => exact (Kd.S_reads' HO625.out).2.1)
 rintro e fa ⟨v627, rfl, ho0, hb⟩
 refine ⟨_, rfl, ?_⟩
 have z_ := p_ (Kd.R_below (raR_ HO622) hb) <| p_ (Kd.S_below (raS_ HO625) hb) <| p_ (Kd.R_lower ho0 (below_size th_)) <| bw2_ (kb_ a5) (kb_ a6) th_ hb
 clear HO622 HO625 a5 a6 HB
 obtain ⟨HO622, HO625, HO628, a5, a6, HB⟩ := z_
 (try clear hb)
 (try clear ho0)
 refine hK.out _ _ (bc4_ a5.out (bk3_ a6.out)) (fun hHeld => ?_)
 clear hK K
 refine nm_ (some 25) ?_
 refine yq_ (i := 6) (N := some 8) bq_65 (by kernel_rfl) ?_
 refine done_ (by kernel_rfl) ?_
 obtain ⟨b0, b1⟩ := an2_ b8 b7
 have bp := bb3_ a6.out
 try go_wp2_with (first | ((with_reducible refine gate_callee (f := 8) rfl ?_); refine goesL_ (some 27) rfl rfl Tryz.func8 (by kernel_rfl) rfl #[.agg #[.int .i64 an, .slice av ah.length aw, .slice ax ai.length ay]] rfl tq_0 ?_; (with_reducible refine (laws_toPart.calls k an _ _ ah _ _ ai al af ag _ ?side1 ?side2 ?side3 ?side4 ei.out).mono ?_); (case side1 => exact tq_8); (case side2 => exact bf.out); (case side3 => exact tq_9); (case side4 => exact bg.out); rintro e fb ⟨v631, v634, rfl, ho0, ho1, hb⟩; refine ⟨_, rfl, ?_⟩; have z_ := p_ (Kd.R_elder' (raR_ HO622) (Kd.R_base ho0) hb) <| p_ (Kd.S_elder' (raS_ HO625) (Kd.S_base ho1) hb) <| p_ (Kd.R_below (raR_ HO628) hb) <| p_ (Kd.R_lower (Kd.R_new' ho0 (Kd.R_lt (raR_ HO622))) (below_size th_)) <| p_ (Kd.S_lower (Kd.S_new' ho1 (Kd.S_lt (raS_ HO625))) (below_size th_)) <| bw2_ (kb_ a5) (kb_ a6) th_ hb; clear HO622 HO625 HO628 a5 a6 HB; obtain ⟨HO622, HO625, HO628, HO632, HO635, a5, a6, HB⟩ := z_; (try clear hb); (try clear ho0); (try clear ho1)) | ((with_reducible refine gate_dst (N := 9) rfl ?_); refine be_ 9 (cs := #[.int .i64 0, .slice none 0 0, .slice none 0 0]) 35 ?_; intro aa hg bo hbox hb; have z_ := p_ (Kd.R_below (raR_ HO622) hb) <| p_ (Kd.S_below (raS_ HO625) hb) <| p_ (Kd.R_below (raR_ HO628) hb) <| p_ (Kd.R_below (raR_ HO632) hb) <| p_ (Kd.S_below (raS_ HO635) hb) <| bx2_ (kb_ a5) (kb_ a6) th_ hb hbox hg; clear HO622 HO625 HO628 HO632 HO635 a5 a6 HB; obtain ⟨HO622, HO625, HO628, HO632, HO635, a5, a6, HB, a7, eb, GE636, b9, ba, bb, bc⟩ := z_; clear hb hbox hg; obtain ⟨b2, b3, b4, b5⟩ := an4_ ba b9 bc bb; have bq := bb3_ a7.out; obtain ⟨Ao33, aj, dy⟩ := Kd.R_slice HO632.out; subst dy; obtain ⟨Ao34, am, dz⟩ := Kd.S_slice HO635.out; subst dz))
 have n0_ : Aside0 (Kd.R (Kd.int .i64) 3 (((bo.setCell ⟨aa, 0, none⟩ (.int .i64 al)).setCell ⟨aa, 1, none⟩ (.slice Ao33 af.length aj)).setCell ⟨aa, 2, none⟩ (.slice Ao34 ag.length am)) w.heap.size (fun k_ => some k_ ≠ (.slice Ao33 af.length aj : Value).ownBlock) (.slice Ao23 bl.length ch) bl) := ⟨(by (with_reducible repeat (first | apply Kd.R_alloc | apply Kd.R_drewN | apply Kd.R_drew)); exact Kd.R_mono (rR_ (rR_ (rR_ (Kd.R_types HO622.out a7.out (by decide))))) (fun _ hk => hk.1.2))⟩
 have n1_ : Aside0 (Kd.S k69 69 (((bo.setCell ⟨aa, 0, none⟩ (.int .i64 al)).setCell ⟨aa, 1, none⟩ (.slice Ao33 af.length aj)).setCell ⟨aa, 2, none⟩ (.slice Ao34 ag.length am)) w.heap.size (fun k_ => some k_ ≠ (.slice Ao34 ag.length am : Value).ownBlock) (.slice Ao24 bm.length ci) bm) := ⟨(by (with_reducible repeat (first | apply Kd.S_alloc | apply Kd.S_drewN | apply Kd.S_drew)); exact Kd.S_mono (rS_ (rS_ (rS_ (Kd.S_types HO625.out a7.out (by decide))))) (fun _ hk => hk.1.2))⟩
 have n2_ : Aside0 (Kd.R k53 53 (((bo.setCell ⟨aa, 0, none⟩ (.int .i64 al)).setCell ⟨aa, 1, none⟩ (.slice Ao33 af.length aj)).setCell ⟨aa, 2, none⟩ (.slice Ao34 ag.length am)) w.heap.size (fun _ => True) v627 az) := ⟨(by (with_reducible repeat (first | apply Kd.R_alloc | apply Kd.R_drewN | apply Kd.R_drew)); exact Kd.R_mono (rR_ (rR_ (rR_ (Kd.R_types HO628.out a7.out (by decide))))) (fun _ hk => trivial))⟩
 have n3_ : Aside0 (Kd.R (Kd.int .i64) 3 (((bo.setCell ⟨aa, 0, none⟩ (.int .i64 al)).setCell ⟨aa, 1, none⟩ (.slice Ao33 af.length aj)).setCell ⟨aa, 2, none⟩ (.slice Ao34 ag.length am)) w.heap.size (fun k_ => some k_ ≠ (.slice Ao23 bl.length ch : Value).ownBlock) (.slice Ao33 af.length aj) af) := ⟨(by (with_reducible repeat (first | apply Kd.R_alloc | apply Kd.R_drewN | apply Kd.R_drew)); exact Kd.R_mono (rR_ (rR_ (rR_ (Kd.R_types HO632.out a7.out (by decide))))) (fun _ hk => hk.1.2))⟩
 have n4_ : Aside0 (Kd.S k69 69 (((bo.setCell ⟨aa, 0, none⟩ (.int .i64 al)).setCell ⟨aa, 1, none⟩ (.slice Ao33 af.length aj)).setCell ⟨aa, 2, none⟩ (.slice Ao34 ag.length am)) w.heap.size (fun k_ => some k_ ≠ (.slice Ao24 bm.length ci : Value).ownBlock) (.slice Ao34 ag.length am) ag) := ⟨(by (with_reducible repeat (first | apply Kd.S_alloc | apply Kd.S_drewN | apply Kd.S_drew)); exact Kd.S_mono (rS_ (rS_ (rS_ (Kd.S_types HO635.out a7.out (by decide))))) (fun _ hk => hk.1.2))⟩
 have n5_ : Aside0 ((((bo.setCell ⟨aa, 0, none⟩ (.int .i64 al)).setCell ⟨aa, 1, none⟩ (.slice Ao33 af.length aj)).setCell ⟨aa, 2, none⟩ (.slice Ao34 ag.length am)).heap[ak]? = some (.cells #[.int .i64 ap, .int .i64 aq, .int .i64 ar, .int .i64 au] 23 (0, 0))) := ⟨tb_⟩
 have n6_ : Aside0 ((((bo.setCell ⟨aa, 0, none⟩ (.int .i64 al)).setCell ⟨aa, 1, none⟩ (.slice Ao33 af.length aj)).setCell ⟨aa, 2, none⟩ (.slice Ao34 ag.length am)).heap[ao]? = some (.cells #[.int .i64 an, .slice av ah.length aw, .slice ax ai.length ay] 27 (0, 0))) := ⟨tb_⟩
 have n7_ : Aside0 ((((bo.setCell ⟨aa, 0, none⟩ (.int .i64 al)).setCell ⟨aa, 1, none⟩ (.slice Ao33 af.length aj)).setCell ⟨aa, 2, none⟩ (.slice Ao34 ag.length am)).heap[aa]? = some (.cells #[.int .i64 al, .slice Ao33 af.length aj, .slice Ao34 ag.length am] 35 (0, 0))) := ⟨tb_⟩
 have n8_ : Aside0 (Below w.heap.size w (((bo.setCell ⟨aa, 0, none⟩ (.int .i64 al)).setCell ⟨aa, 1, none⟩ (.slice Ao33 af.length aj)).setCell ⟨aa, 2, none⟩ (.slice Ao34 ag.length am))) := ⟨th_⟩
 (try clear HO622)
 (try clear HO625)
 (try clear HO628)
 (try clear HO632)
 (try clear HO635)
 (try clear a5)
 (try clear a6)
 (try clear a7)
 (try clear HB)
 generalize (((bo.setCell ⟨aa, 0, none⟩ (.int .i64 al)).setCell ⟨aa, 1, none⟩ (.slice Ao33 af.length aj)).setCell ⟨aa, 2, none⟩ (.slice Ao34 ag.length am)) = em at n0_ n1_ n2_ n3_ n4_ n5_ n6_ n7_ n8_ ⊢
 have HO622 := n0_
 have HO625 := n1_
 have HO628 := n2_
 have HO632 := n3_
 have HO635 := n4_
 have a5 := n5_
 have a6 := n6_
 have a7 := n7_
 have HB := n8_
 clear n0_ n1_ n2_ n3_ n4_ n5_ n6_ n7_ n8_
 have z_ := p_ (Kd.R_drew HO622.out) <| p_ (Kd.S_drew HO625.out) <| p_ (Kd.R_drew HO628.out) <| p_ (Kd.R_drew HO632.out) <| p_ (Kd.S_drew HO635.out) <| dw3_ a5 a6 a7 HB
 clear HO622 HO625 HO628 HO632 HO635 a5 a6 a7 HB
 obtain ⟨HO622, HO625, HO628, HO632, HO635, a5, a6, a7, HB⟩ := z_
 refine start_ (n := 6) (S := fun w' => w'.cell? ⟨ak, 0, none⟩ = some (.int .i64 ap) ∧ w'.cell? ⟨ak, 1, none⟩ = some (.int .i64 aq) ∧ w'.cell? ⟨ak, 2, none⟩ = some (.int .i64 ar) ∧ w'.cell? ⟨ak, 3, none⟩ = some (.int .i64 au) ∧ w'.cell? ⟨aa, 0, none⟩ = some (.int .i64 al) ∧ w'.cell? ⟨aa, 1, none⟩ = some (.slice Ao33 af.length aj) ∧ w'.cell? ⟨aa, 2, none⟩ = some (.slice Ao34 ag.length am)) (ds := []) #[false, false, false, false, false, false] (by kernel_rfl) rfl rfl (bc4_ a5.out (bk3_ a7.out)) (fun hHeld => ?_)
 generalize em.drew = fc at HO622 HO625 HO628 HO632 HO635 a5 a6 a7 HB hHeld ⊢
 refine yq_ (i := 2) (N := some 30) #[false, false, true, false, false, false] (by kernel_rfl) ?_
 refine take_ (i := 0) (N := some 28) (v := ?_) (a' := ?_) #[true, false, true, false, false, false] rfl rfl (by kernel_rfl) (fun _ _ _ h => h) (Or.inl ⟨(by rfl), ?_⟩) hHeld ?_ ?_
 rotate_left
 ·rintro w' ⟨s0, s1, s2, s3, s4, s5, s6⟩
  go_simp
  with_reducible rfl
 rotate_left
 ·simp only [Act.put, List.setIfInBounds_toArray, List.set_cons_zero, List.set_cons_succ, i64_w, i32_w]
  rfl
 refine take_ (i := 3) (N := some 31) (v := ?_) (a' := ?_) #[true, false, true, true, false, false] rfl rfl (by kernel_rfl) (fun _ _ _ h => h) (Or.inl ⟨(by rfl), ?_⟩) hHeld ?_ ?_
 rotate_left
 ·rintro w' ⟨s0, s1, s2, s3, s4, s5, s6⟩
  go_simp
  with_reducible rfl
 rotate_left
 ·simp only [Act.put, List.setIfInBounds_toArray, List.set_cons_zero, List.set_cons_succ, i64_w, i32_w]
  rfl
 refine one_ (i := 1) (N := some 29) #[true, true, true, true, false, false] rfl rfl (by kernel_rfl) (by decide) (fun K hK => ?_)
 refine goes_ Tryz.func7 (by kernel_rfl) rfl #[.agg #[.int .i64 ap, .int .i64 aq, .int .i64 ar, .int .i64 au]] (by rfl) rfl rfl tq_0 ?_
 with_reducible refine (laws_toGeo.calls ap aq ar au cd ce cf cg _ ej.out).mono ?_
 rintro e fd ⟨rfl, hb⟩
 refine ⟨_, rfl, ?_⟩
 have z_ := p_ (Kd.R_below (raR_ HO622) hb) <| p_ (Kd.S_below (raS_ HO625) hb) <| p_ (Kd.R_below (raR_ HO628) hb) <| p_ (Kd.R_below (raR_ HO632) hb) <| p_ (Kd.S_below (raS_ HO635) hb) <| bw3_ (kb_ a5) (kb_ a6) (kb_ a7) th_ hb
 clear HO622 HO625 HO628 HO632 HO635 a5 a6 a7 HB
 obtain ⟨HO622, HO625, HO628, HO632, HO635, a5, a6, a7, HB⟩ := z_
 (try clear hb)
 refine hK.out _ _ (bc4_ a5.out (bk3_ a7.out)) (fun hHeld => ?_)
 clear hK K
 refine nm_ (some 29) ?_
 refine one_ (i := 4) (N := some 32) #[true, true, true, true, true, false] rfl rfl (by kernel_rfl) (by decide) (fun K hK => ?_)
 refine goes_ Tryz.func9 (by kernel_rfl) rfl #[.agg #[.int .i64 cd, .int .i64 ce, .int .i64 cf, .int .i64 cg], .int .i64 a1, .agg #[.int .i64 al, .slice Ao33 af.length aj, .slice Ao34 ag.length am]] (by rfl) rfl rfl tq_0 ?_
 with_reducible refine (impl_PartWrites.calls k cd ce cf cg a1 al _ _ af _ _ ag t641 _ ?side1 ?side2 ?side3 ?side4 ek.out).mono ?_
 (case side1 => exact tq_41)
 (case side2 => exact (Kd.R_reads' HO632.out).2.1)
 (case side3 => exact tq_38)
 (case side4 => exact (Kd.S_reads' HO635.out).2.1)
 rintro e fe ⟨v642, rfl, ho0, hb⟩
 refine ⟨_, rfl, ?_⟩
 have z_ := p_ (Kd.R_below (raR_ HO622) hb) <| p_ (Kd.S_below (raS_ HO625) hb) <| p_ (Kd.R_elder' (raR_ HO628) (Kd.R_base ho0) hb) <| p_ (Kd.R_below (raR_ HO632) hb) <| p_ (Kd.S_below (raS_ HO635) hb) <| p_ (Kd.R_lower (Kd.R_new' ho0 (Kd.R_lt (raR_ HO628))) (below_size th_)) <| bw3_ (kb_ a5) (kb_ a6) (kb_ a7) th_ hb
 clear HO622 HO625 HO628 HO632 HO635 a5 a6 a7 HB
 obtain ⟨HO622, HO625, HO628, HO632, HO635, HO643, a5, a6, a7, HB⟩ := z_
 (try clear hb)
 (try clear ho0)
 refine hK.out _ _ (bc4_ a5.out (bk3_ a7.out)) (fun hHeld => ?_)
 clear hK K
 refine nm_ (some 32) ?_
 refine yq_ (i := 5) (N := some 10) #[true, true, true, true, true, true] (by kernel_rfl) ?_
 refine done_ (by kernel_rfl) ?_
 obtain ⟨Ao39, b6, e0⟩ := Kd.R_slice HO643.out
 subst e0
 obtain ⟨Ao40, bn, e1⟩ := Kd.R_slice HO628.out
 subst e1
 go_upto_if 36 with (first | ((with_reducible refine gate_callee (f := 10) rfl ?_); refine goesL_ (some 35) rfl rfl Tryz.func10 (by kernel_rfl) rfl #[.slice Ao39 t641.length b6, .slice Ao40 az.length bn] rfl tq_0 ?_; (with_reducible refine (laws_eqWriteS.calls k _ _ t641 _ _ az d6 _ ?side1 ?side2 ?side3 ?side4 el.out).mono ?_); (case side1 => exact tq_40); (case side2 => exact (Kd.R_reads' HO643.out).2.1); (case side3 => exact tq_42); (case side4 => exact (Kd.R_reads' HO628.out).2.1); rintro e en ⟨rfl, hb⟩; refine ⟨_, rfl, ?_⟩; have z_ := p_ (Kd.R_below (raR_ HO622) hb) <| p_ (Kd.S_below (raS_ HO625) hb) <| p_ (Kd.R_below (raR_ HO628) hb) <| p_ (Kd.R_below (raR_ HO632) hb) <| p_ (Kd.S_below (raS_ HO635) hb) <| p_ (Kd.R_below (raR_ HO643) hb) <| bw3_ (kb_ a5) (kb_ a6) (kb_ a7) th_ hb; clear HO622 HO625 HO628 HO632 HO635 HO643 a5 a6 a7 HB; obtain ⟨HO622, HO625, HO628, HO632, HO635, HO643, a5, a6, a7, HB⟩ := z_; (try clear hb)))
 (try simp only [Act.put, List.setIfInBounds_toArray, List.set_cons_zero, List.set_cons_succ])
 (try clear b1 b3 b0 b5 b2 b4)
 (try clear bp)
 (try clear bq)
 (try clear bp)
 (try clear bq)
 have H := d7.out
 clear d7 HO622 HO625
 have n_ := Aside0.mk (Kd.R_mono (ok' := (fun _ => True)) HO632.out (fun k_ hk => trivial))
 clear HO632
 have HO632 := n_
 clear n_
 have n_ := Aside0.mk (Kd.S_mono (ok' := (fun _ => True)) HO635.out (fun k_ hk => trivial))
 clear HO635
 have HO635 := n_
 clear n_
 by_cases da : d6 = true
 rotate_left
 ·replace da := Bool.eq_false_iff.mpr da
  subst da
  rw [if_neg nf_] at H
  obtain rfl := Option.some.inj H
  go_wp2
  go_ret
  exact ⟨tq_1, th_⟩
 subst da
 rw [if_pos rfl] at H
 obtain ⟨⟨cj, ck, cl⟩, eo, H⟩ := bd_ H
 try dsimp -simprocs only at H
 obtain ⟨db, ep, H⟩ := bd_ H
 have dc := Aside0.mk H
 clear H
 try go_wp2
 have z_ := p_ (Kd.R_drew HO628.out) <| p_ (Kd.R_drew HO632.out) <| p_ (Kd.S_drew HO635.out) <| p_ (Kd.R_drew HO643.out) <| dw3_ a5 a6 a7 HB
 clear HO628 HO632 HO635 HO643 a5 a6 a7 HB
 obtain ⟨HO628, HO632, HO635, HO643, a5, a6, a7, HB⟩ := z_
 refine start_ (n := 5) (S := fun w' => w'.cell? ⟨aa, 0, none⟩ = some (.int .i64 al) ∧ w'.cell? ⟨aa, 1, none⟩ = some (.slice Ao33 af.length aj) ∧ w'.cell? ⟨aa, 2, none⟩ = some (.slice Ao34 ag.length am) ∧ w'.cell? ⟨ao, 0, none⟩ = some (.int .i64 an) ∧ w'.cell? ⟨ao, 1, none⟩ = some (.slice av ah.length aw) ∧ w'.cell? ⟨ao, 2, none⟩ = some (.slice ax ai.length ay)) (ds := []) #[false, false, false, false, false] (by kernel_rfl) rfl rfl (bc3_ a7.out (bk3_ a6.out)) (fun hHeld => ?_)
 generalize en.drew = ff at HO628 HO632 HO635 HO643 a5 a6 a7 HB hHeld ⊢
 refine take_ (i := 0) (N := some 37) (v := ?_) (a' := ?_) #[true, false, false, false, false] rfl rfl (by kernel_rfl) (fun _ _ _ h => h) (Or.inl ⟨(by rfl), ?_⟩) hHeld ?_ ?_
 rotate_left
 ·rintro w' ⟨s0, s1, s2, s3, s4, s5⟩
  go_simp
  with_reducible rfl
 rotate_left
 ·simp only [Act.put, List.setIfInBounds_toArray, List.set_cons_zero, List.set_cons_succ, i64_w, i32_w]
  rfl
 refine take_ (i := 1) (N := some 38) (v := ?_) (a' := ?_) #[true, true, false, false, false] rfl rfl (by kernel_rfl) (fun _ _ _ h => h) (Or.inl ⟨(by rfl), ?_⟩) hHeld ?_ ?_
 rotate_left
 ·rintro w' ⟨s0, s1, s2, s3, s4, s5⟩
  go_simp
  with_reducible rfl
 rotate_left
 ·simp only [Act.put, List.setIfInBounds_toArray, List.set_cons_zero, List.set_cons_succ, i64_w, i32_w]
  rfl
 refine one_ (i := 2) (N := some 39) #[true, true, true, false, false] rfl rfl (by kernel_rfl) (by decide) (fun K hK => ?_)
 refine goes_ Tryz.func8 (by kernel_rfl) rfl #[.agg #[.int .i64 an, .slice av ah.length aw, .slice ax ai.length ay]] (by rfl) rfl rfl tq_0 ?_
 with_reducible refine (laws_toPart.calls k an _ _ ah _ _ ai cj ck cl _ ?side1 ?side2 ?side3 ?side4 eo.out).mono ?_
 (case side1 => exact tq_8)
 (case side2 => exact bf.out)
 (case side3 => exact tq_9)
 (case side4 => exact bg.out)
 rintro e fg ⟨v647, v650, rfl, ho0, ho1, hb⟩
 refine ⟨_, rfl, ?_⟩
 have z_ := p_ (Kd.R_below (raR_ HO628) hb) <| p_ (Kd.R_elder' (raR_ HO632) (Kd.R_base ho0) hb) <| p_ (Kd.S_elder' (raS_ HO635) (Kd.S_base ho1) hb) <| p_ (Kd.R_below (raR_ HO643) hb) <| p_ (Kd.R_lower (Kd.R_new' ho0 (Kd.R_lt (raR_ HO632))) (below_size th_)) <| p_ (Kd.S_lower (Kd.S_new' ho1 (Kd.S_lt (raS_ HO635))) (below_size th_)) <| bw3_ (kb_ a5) (kb_ a6) (kb_ a7) th_ hb
 clear HO628 HO632 HO635 HO643 a5 a6 a7 HB
 obtain ⟨HO628, HO632, HO635, HO643, HO648, HO651, a5, a6, a7, HB⟩ := z_
 (try clear hb)
 (try clear ho0)
 (try clear ho1)
 obtain ⟨Ao48, e2, dd⟩ := Kd.R_slice HO648.out
 (first | subst dd | (injection dd with f1_ f2_ f3_; have f4_ := f1_.symm; have f5_ := f3_.symm; clear f1_ f2_ f3_; subst f4_; subst f5_))
 obtain ⟨Ao49, e3, de⟩ := Kd.S_slice HO651.out
 (first | subst de | (injection de with f1_ f2_ f3_; have f4_ := f1_.symm; have f5_ := f3_.symm; clear f1_ f2_ f3_; subst f4_; subst f5_))
 refine hK.out _ _ (bc3_ a7.out (bk3_ a6.out)) (fun hHeld => ?_)
 clear hK K
 refine nm_ (some 39) ?_
 refine one_ (i := 3) (N := some 40) #[true, true, true, true, false] rfl rfl (by kernel_rfl) (by decide) (fun K hK => ?_)
 refine goes_ Tryz.func11 (by kernel_rfl) rfl #[.agg #[.int .i64 al, .slice Ao33 af.length aj, .slice Ao34 ag.length am], .agg #[.int .i64 cj, .slice Ao48 ck.length e2, .slice Ao49 cl.length e3]] (by rfl) rfl rfl tq_0 ?_
 with_reducible refine (laws_eqPart.calls k al _ _ af _ _ ag cj _ _ ck _ _ cl db _ ?side1 ?side2 ?side3 ?side4 ?side5 ?side6 ?side7 ?side8 ep.out).mono ?_
 (case side1 => exact tq_41)
 (case side2 => exact (Kd.R_reads' HO632.out).2.1)
 (case side3 => exact tq_38)
 (case side4 => exact (Kd.S_reads' HO635.out).2.1)
 (case side5 => repeat (first | exact (Kd.R_reads' HO648.out).2.2 | (with_reducible refine Kd.C_alloc ?_ _) | (with_reducible refine Kd.C_drewN ?_ _) | (with_reducible refine Kd.C_drew ?_)))
 (case side6 => exact (Kd.R_reads' HO648.out).2.1)
 (case side7 => repeat (first | exact (Kd.S_reads' HO651.out).2.2 | (with_reducible refine Kd.C_alloc ?_ _) | (with_reducible refine Kd.C_drewN ?_ _) | (with_reducible refine Kd.C_drew ?_)))
 (case side8 => exact (Kd.S_reads' HO651.out).2.1)
 rintro e fh ⟨rfl, hb⟩
 refine ⟨_, rfl, ?_⟩
 have z_ := p_ (Kd.R_below (raR_ HO628) hb) <| p_ (Kd.R_below (raR_ HO632) hb) <| p_ (Kd.S_below (raS_ HO635) hb) <| p_ (Kd.R_below (raR_ HO643) hb) <| p_ (Kd.R_below (raR_ HO648) hb) <| p_ (Kd.S_below (raS_ HO651) hb) <| bw3_ (kb_ a5) (kb_ a6) (kb_ a7) th_ hb
 clear HO628 HO632 HO635 HO643 HO648 HO651 a5 a6 a7 HB
 obtain ⟨HO628, HO632, HO635, HO643, HO648, HO651, a5, a6, a7, HB⟩ := z_
 (try clear hb)
 refine hK.out _ _ (bc3_ a7.out (bk3_ a6.out)) (fun hHeld => ?_)
 clear hK K
 refine nm_ (some 40) ?_
 refine yq_ (i := 4) (N := some 41) #[true, true, true, true, true] (by kernel_rfl) ?_
 refine done_ (by kernel_rfl) ?_
 go_upto_if 41 with (fail)
 have H := dc.out
 clear dc
 have n_ := Aside0.mk (Kd.R_mono (ok' := (fun _ => True)) HO632.out (fun k_ hk => trivial))
 clear HO632
 have HO632 := n_
 clear n_
 have n_ := Aside0.mk (Kd.S_mono (ok' := (fun _ => True)) HO635.out (fun k_ hk => trivial))
 clear HO635
 have HO635 := n_
 clear n_ HO648 HO651
 by_cases df : db = true
 rotate_left
 ·replace df := Bool.eq_false_iff.mpr df
  subst df
  rw [if_neg nf_] at H
  obtain rfl := Option.some.inj H
  go_wp2
  go_ret
  exact ⟨tq_1, th_⟩
 subst df
 rw [if_pos rfl] at H
 obtain ⟨⟨dg, dh, di⟩, eq, H⟩ := bd_ H
 try dsimp -simprocs only at H
 have cm := Aside0.mk H
 clear H
 obtain ⟨b2, b3, b4, b5⟩ := an4_ ba b9 bc bb
 have cn := bb3_ a7.out
 go_upto_region 14 with (first | ((with_reducible refine gate_callee (f := 12) rfl ?_); refine goesL_ (some 44) rfl rfl Tryz.func12 (by kernel_rfl) rfl #[.agg #[.int .i64 al, .slice Ao33 af.length aj, .slice Ao34 ag.length am], .int .i64 1] rfl tq_0 ?_; (with_reducible refine (laws_markPart.calls k al (fun k_ => some k_ = (.slice Ao33 af.length aj : Value).ownBlock) (.slice Ao33 af.length aj) af ?pp_ (.slice Ao34 ag.length am) ag 1 dg dh di w _ ?side1 ?side2 ?side3 eq.out).mono ?_); (case side1 => exact tq_33); (case side2 => exact Kd.R_tight rfl HO632.out); (case side3 => exact Kd.S_bound HO635.out); rintro e fi ⟨rfl, hy0, hy1, hb, hkp⟩; refine ⟨_, rfl, ?_⟩; have z_ := p_ (blk_kept (kb_ a5) hkp (fun hs_ => Or.elim hs_ (fun e_ => (fun e_ => (Kd.R_ne HO632.out a5.out (by decide)) e_) e_) (fun h_ => ty_no a5.out (by decide) h_.2.2.2))) <| p_ (blk_kept (kb_ a6) hkp (fun hs_ => Or.elim hs_ (fun e_ => (fun e_ => (Kd.R_ne HO632.out a6.out (by decide)) e_) e_) (fun h_ => ty_no a6.out (by decide) h_.2.2.2))) <| p_ (Kd.R_mono (ok' := fun k_ => some k_ ≠ (.slice Ao39 t641.length b6 : Value).ownBlock) (R_keptT rfl (Kd.R_apart' HO628.out (Kd.R_typed HO632.out) (by decide)) hkp (fun k_ e_ hs_ => hs_.elim (fun h_ => ((Kd.R_apart' HO628.out (Kd.R_typed HO632.out) (by decide)).1 k_ e_.symm).2 h_) (fun h_ => by obtain ⟨c_, hc_⟩ := Kd.R_typed HO628.out k_ e_.symm; exact ty_no hc_ (by decide) h_.2.2.2))) (fun k_ hk_ => (by first | exact hk_.1.2 | exact hk_.1 | exact hk_.2 | exact hk_))) <| p_ (Kd.R_reok rfl hy0 (fun k_ e_ => HO632.out.1 k_ e_)) <| p_ (Kd.S_mono hy1 (fun _ _ => trivial)) <| p_ (blk_kept (kb_ a7) hkp (fun hs_ => Or.elim hs_ (fun e_ => (fun e_ => (Kd.R_ne HO632.out a7.out (by decide)) e_) e_) (fun h_ => ty_no a7.out (by decide) h_.2.2.2))) <| p_ (Kd.R_mono (ok' := fun k_ => some k_ ≠ (.slice Ao40 az.length bn : Value).ownBlock) (R_keptT rfl (Kd.R_apart' HO643.out (Kd.R_typed HO632.out) (by decide)) hkp (fun k_ e_ hs_ => hs_.elim (fun h_ => ((Kd.R_apart' HO643.out (Kd.R_typed HO632.out) (by decide)).1 k_ e_.symm).2 h_) (fun h_ => by obtain ⟨c_, hc_⟩ := Kd.R_typed HO643.out k_ e_.symm; exact ty_no hc_ (by decide) h_.2.2.2))) (fun k_ hk_ => (by first | exact hk_.1.2 | exact hk_.1 | exact hk_.2 | exact hk_))) <| a_ (hb); clear a5 a6 HO628 HO632 HO635 a7 HO643 HB; obtain ⟨a5, a6, HO628, HO632, HO635, a7, HO643, HB⟩ := z_; (try clear hb); (try clear hkp); (try clear hy0); (try clear hy1)))
 (try simp only [Act.put, List.setIfInBounds_toArray, List.set_cons_zero, List.set_cons_succ])
 go_cut [52] (fun v52 wc => ∃ (kq : Nat) (be : Bool), v52 = .bool be ∧ Aside0 (laws_FnExactPartWrites.j0 kq a1 az t641 be ap aq ar au an ah ai = some r) ∧ Aside0 (kq ≤ k) ∧ Aside0 (Kd.R k53 53 wc w.heap.size (fun k_ => some k_ ≠ ((.slice Ao39 t641.length b6) : Value).ownBlock) (.slice Ao40 az.length bn) az) ∧ Aside0 (Kd.R k53 53 wc w.heap.size (fun k_ => some k_ ≠ ((.slice Ao40 az.length bn) : Value).ownBlock) (.slice Ao39 t641.length b6) t641) ∧ Aside0 (Kd.R (Kd.int .i64) 3 wc w.heap.size (fun _ => True) (.slice Ao33 af.length aj) dh) ∧ Aside0 (Kd.S k69 69 wc w.heap.size (fun _ => True) (.slice Ao34 ag.length am) di) ∧ Aside0 (wc.heap[ak]? = some (.cells #[.int .i64 ap, .int .i64 aq, .int .i64 ar, .int .i64 au] 23 (0, 0))) ∧ Aside0 (wc.heap[ao]? = some (.cells #[.int .i64 an, (.slice av ah.length aw), (.slice ax ai.length ay)] 27 (0, 0))) ∧ Aside0 (wc.heap[aa]? = some (.cells #[.int .i64 al, (.slice Ao33 af.length aj), (.slice Ao34 ag.length am)] 35 (0, 0))) ∧ Aside0 (Below w.heap.size w wc))
 case first =>
  have H := cm.out
  clear cm
  by_cases co : dg < 0
  ·rw [if_pos co] at H
   have bd := decide_eq_true co
   clear co
   (first | rw [bd] | (simp only [i64_w, i32_w]; rw [bd]) | skip)
   have H' := Aside0.mk H
   clear H
   go_wp2
   go_meet
   case rel => exact ⟨_, (true), tq_3, H', ⟨tq_12⟩, ⟨(raR_ HO628)⟩, ⟨(raR_ HO643)⟩, ⟨(raR_ HO632)⟩, ⟨(raS_ HO635)⟩, ⟨(kb_ a5)⟩, ⟨(kb_ a6)⟩, ⟨(kb_ a7)⟩, ⟨th_⟩⟩
  rw [if_neg co] at H
  have bd := decide_eq_false co
  clear co
  (first | rw [bd] | (simp only [i64_w, i32_w]; rw [bd]) | skip)
  obtain ⟨dj, er, H⟩ := bd_ H
  have H' := Aside0.mk H
  clear H
  go_wp2_with (first | (go_at_call 10; (with_reducible refine (laws_eqWriteS.calls k _ _ t641 _ _ az dj _ ?side1 ?side2 ?side3 ?side4 er.out).mono ?_); (case side1 => exact tq_40); (case side2 => exact (Kd.R_reads' HO643.out).2.1); (case side3 => exact tq_42); (case side4 => exact (Kd.R_reads' HO628.out).2.1); rintro e fj ⟨rfl, hb⟩; have z_ := p_ (Kd.R_below (raR_ HO628) hb) <| p_ (Kd.R_below (raR_ HO632) hb) <| p_ (Kd.S_below (raS_ HO635) hb) <| p_ (Kd.R_below (raR_ HO643) hb) <| bw3_ (kb_ a5) (kb_ a6) (kb_ a7) th_ hb; clear HO628 HO632 HO635 HO643 a5 a6 a7 HB; obtain ⟨HO628, HO632, HO635, HO643, a5, a6, a7, HB⟩ := z_; (try clear hb)))
  go_meet
  case rel => exact ⟨_, (!dj), tq_3, H', ⟨tq_12⟩, ⟨(raR_ HO628)⟩, ⟨(raR_ HO643)⟩, ⟨(raR_ HO632)⟩, ⟨(raS_ HO635)⟩, ⟨(kb_ a5)⟩, ⟨(kb_ a6)⟩, ⟨(kb_ a7)⟩, ⟨th_⟩⟩
 case rest =>
 clear cm
 try clear c1; try clear c2; try clear p2; try clear c3; try clear c4; try clear c5; try clear c6; try clear c7; try clear c8; try clear c9; try clear fk; try clear bw; try clear fl; try clear fm; try clear fn; try clear fo; try clear da; try clear df; try clear fp; try clear fq; try clear co; try clear bd; try clear bp; try clear bq; try clear cn; try clear bp; try clear bq; try clear cn
 obtain ⟨kq, be, rfl, HA, HJ52, ae, HO_10, a8, a9, a5, a6, a7, HB⟩ := hcut
 have ab := (Kd.R_reads' a8.out).1
 rw [ab] at a8
 (try simp only [ab])
 (try simp only [ab] at a5)
 (try simp only [ab] at a6)
 (try simp only [ab] at a7)
 (try simp only [ab] at ae)
 (try simp only [ab] at HO_10)
 (try simp only [ab] at a9)
 have ac := (Kd.S_reads' a9.out).1
 rw [ac] at a9
 (try simp only [ac])
 (try simp only [ac] at a5)
 (try simp only [ac] at a6)
 (try simp only [ac] at a7)
 (try simp only [ac] at ae)
 (try simp only [ac] at HO_10)
 (try simp only [ac] at a8)
 cases kq with
 | zero => exact absurd HA.out (by simp [laws_FnExactPartWrites.j0])
 | succ kj52 =>
 have H := HA.out
 clear HA
 simp only [laws_FnExactPartWrites.j0] at H
 by_cases dw : be = true
 ·subst dw
  rw [if_pos rfl] at H
  obtain rfl := Option.some.inj H
  go_wp2
  go_ret
  exact ⟨tq_1, th_⟩
 replace dw := Bool.eq_false_iff.mpr dw
 subst dw
 rw [if_neg nf_] at H
 obtain ⟨⟨cp, t658⟩, es, H⟩ := bd_ H
 try dsimp -simprocs only at H
 obtain ⟨cq, et, H⟩ := bd_ H
 have dk := Aside0.mk H
 clear H
 go_upto_if 60 with (first | ((with_reducible refine gate_callee (f := 13) rfl ?_); refine goesL_ (some 55) rfl rfl Tryz.func13 (by kernel_rfl) rfl #[.slice Ao39 t641.length b6, .int .i64 1] rfl tq_0 ?_; (with_reducible refine (laws_markWriteS.calls kj52 (fun k_ => some k_ = (.slice Ao39 t641.length b6 : Value).ownBlock) (.slice Ao39 t641.length b6) t641 1 cp t658 w _ ?side1 ?side2 es.out).mono ?_); (case side1 => exact tq_33); (case side2 => exact Kd.R_tight rfl HO_10.out); rintro e fr ⟨rfl, hy0, hb, hkp⟩; refine ⟨_, rfl, ?_⟩; have z_ := p_ (Kd.R_mono (ok' := fun k_ => some k_ ≠ (.slice Ao39 t641.length b6 : Value).ownBlock) (Kd.R_keptB (ae.out) hkp (fun k_ hk_ hs_ => (hk_) hs_)) (fun k_ hk_ => hk_.1)) <| p_ (Kd.R_reok rfl hy0 (fun k_ e_ => HO_10.out.1 k_ e_)) <| p_ (Kd.R_mono (ok' := fun k_ => True) (Kd.R_keptB ((Kd.R_apart' a8.out (Kd.R_typed HO_10.out) (by decide))) hkp (fun k_ hk_ hs_ => (hk_.2) hs_)) (fun k_ hk_ => trivial)) <| p_ (Kd.S_mono (ok' := fun k_ => True) (Kd.S_keptB ((Kd.S_apart' a9.out (Kd.R_typed HO_10.out) (by decide))) hkp (fun k_ hk_ hs_ => (hk_.2) hs_)) (fun k_ hk_ => trivial)) <| p_ (blk_kept (kb_ a5) hkp (fun hs_ => (fun e_ => (Kd.R_ne HO_10.out a5.out (by decide)) e_) hs_)) <| p_ (blk_kept (kb_ a6) hkp (fun hs_ => (fun e_ => (Kd.R_ne HO_10.out a6.out (by decide)) e_) hs_)) <| p_ (blk_kept (kb_ a7) hkp (fun hs_ => (fun e_ => (Kd.R_ne HO_10.out a7.out (by decide)) e_) hs_)) <| a_ (hb); clear ae HO_10 a8 a9 a5 a6 a7 HB; obtain ⟨ae, HO_10, a8, a9, a5, a6, a7, HB⟩ := z_; (try clear hb); (try clear hkp); (try clear hy0)) | ((with_reducible refine gate_callee (f := 14) rfl ?_); refine goesL_ (some 58) rfl rfl Tryz.func14 (by kernel_rfl) rfl #[.slice Ao39 t658.length b6, .int .i64 1] rfl tq_32 ?_; (with_reducible refine (laws_heldWriteS.calls kj52 _ _ t658 1 cq _ ?side1 ?side2 et.out).mono ?_); (case side1 => exact tq_39); (case side2 => rw [show t658.length = t641.length from (Kd.R_reads' HO_10.out).1.symm]; exact (Kd.R_reads' HO_10.out).2.1); rintro e eu ⟨rfl, hb⟩; refine ⟨_, rfl, ?_⟩; have z_ := p_ (Kd.R_below (raR_ ae) hb) <| p_ (Kd.R_below (raR_ HO_10) hb) <| p_ (Kd.R_below (raR_ a8) hb) <| p_ (Kd.S_below (raS_ a9) hb) <| bw3_ (kb_ a5) (kb_ a6) (kb_ a7) th_ hb; clear ae HO_10 a8 a9 a5 a6 a7 HB; obtain ⟨ae, HO_10, a8, a9, a5, a6, a7, HB⟩ := z_; (try clear hb)))
 (try simp only [Act.put, List.setIfInBounds_toArray, List.set_cons_zero, List.set_cons_succ])
 (try clear b3 b5 b2 b4)
 (try clear cn)
 have H := dk.out
 clear dk
 by_cases d3 : cq < 0
 ·rw [if_pos d3] at H
  have bi := decide_eq_true d3
  clear d3
  (first | rw [bi] | (simp only [i64_w, i32_w]; rw [bi]) | skip)
  obtain rfl := Option.some.inj H
  go_wp2
  go_ret
  exact ⟨tq_1, th_⟩
 rw [if_neg d3] at H
 have bi := decide_eq_false d3
 clear d3
 (first | rw [bi] | (simp only [i64_w, i32_w]; rw [bi]) | skip)
 by_cases cr : cq = cp
 rotate_left
 ·rw [if_neg cr] at H
  have dl := beq_eq_false_iff_ne.mpr cr
  have dm := bne_iff_ne.mpr cr
  obtain rfl := Option.some.inj H
  go_wp2
  go_ret
  exact ⟨tq_1, th_⟩
 rw [if_pos cr] at H
 have dl := beq_iff_eq.mpr cr
 have dm := bne_eq_false_iff_eq.mpr cr
 clear cr
 obtain ⟨⟨ct, cu, cv, cw⟩, ev, H⟩ := bd_ H
 try dsimp -simprocs only at H
 obtain ⟨⟨cx, cy, cz⟩, ew, H⟩ := bd_ H
 try dsimp -simprocs only at H
 obtain ⟨d0, ex, H⟩ := bd_ H
 obtain ⟨dn, ey, H⟩ := bd_ H
 have dp := Aside0.mk H
 clear H
 try go_wp2
 have z_ := p_ (Kd.R_drew ae.out) <| p_ (Kd.R_drew HO_10.out) <| p_ (Kd.R_drew a8.out) <| p_ (Kd.S_drew a9.out) <| dw3_ a5 a6 a7 HB
 clear ae HO_10 a8 a9 a5 a6 a7 HB
 obtain ⟨ae, HO_10, a8, a9, a5, a6, a7, HB⟩ := z_
 refine start_ (n := 7) (S := fun w' => w'.cell? ⟨ak, 0, none⟩ = some (.int .i64 ap) ∧ w'.cell? ⟨ak, 1, none⟩ = some (.int .i64 aq) ∧ w'.cell? ⟨ak, 2, none⟩ = some (.int .i64 ar) ∧ w'.cell? ⟨ak, 3, none⟩ = some (.int .i64 au) ∧ w'.cell? ⟨ao, 0, none⟩ = some (.int .i64 an) ∧ w'.cell? ⟨ao, 1, none⟩ = some (.slice av ah.length aw) ∧ w'.cell? ⟨ao, 2, none⟩ = some (.slice ax ai.length ay)) (ds := []) bq_61 (by kernel_rfl) rfl rfl (bc4_ a5.out (bk3_ a6.out)) (fun hHeld => ?_)
 generalize eu.drew = fs at ae HO_10 a8 a9 a5 a6 a7 HB hHeld ⊢
 refine yq_ (i := 2) (N := some 66) #[false, false, true, false, false, false, false] (by kernel_rfl) ?_
 refine take_ (i := 0) (N := some 64) (v := ?_) (a' := ?_) #[true, false, true, false, false, false, false] rfl rfl (by kernel_rfl) (fun _ _ _ h => h) (Or.inl ⟨(by rfl), ?_⟩) hHeld ?_ ?_
 rotate_left
 ·rintro w' ⟨s0, s1, s2, s3, s4, s5, s6⟩
  go_simp
  with_reducible rfl
 rotate_left
 ·simp only [Act.put, List.setIfInBounds_toArray, List.set_cons_zero, List.set_cons_succ, i64_w, i32_w]
  rfl
 refine take_ (i := 3) (N := some 67) (v := ?_) (a' := ?_) #[true, false, true, true, false, false, false] rfl rfl (by kernel_rfl) (fun _ _ _ h => h) (Or.inl ⟨(by rfl), ?_⟩) hHeld ?_ ?_
 rotate_left
 ·rintro w' ⟨s0, s1, s2, s3, s4, s5, s6⟩
  go_simp
  with_reducible rfl
 rotate_left
 ·simp only [Act.put, List.setIfInBounds_toArray, List.set_cons_zero, List.set_cons_succ, i64_w, i32_w]
  rfl
 refine one_ (i := 1) (N := some 65) bq_62 rfl rfl (by kernel_rfl) (by decide) (fun K hK => ?_)
 refine goes_ Tryz.func7 (by kernel_rfl) rfl #[.agg #[.int .i64 ap, .int .i64 aq, .int .i64 ar, .int .i64 au]] (by rfl) rfl rfl tq_0 ?_
 with_reducible refine (laws_toGeo.calls ap aq ar au ct cu cv cw _ ev.out).mono ?_
 rintro e ft ⟨rfl, hb⟩
 refine ⟨_, rfl, ?_⟩
 have z_ := p_ (Kd.R_below (raR_ ae) hb) <| p_ (Kd.R_below (raR_ HO_10) hb) <| p_ (Kd.R_below (raR_ a8) hb) <| p_ (Kd.S_below (raS_ a9) hb) <| bw3_ (kb_ a5) (kb_ a6) (kb_ a7) th_ hb
 clear ae HO_10 a8 a9 a5 a6 a7 HB
 obtain ⟨ae, HO_10, a8, a9, a5, a6, a7, HB⟩ := z_
 (try clear hb)
 refine hK.out _ _ (bc4_ a5.out (bk3_ a6.out)) (fun hHeld => ?_)
 clear hK K
 refine nm_ (some 65) ?_
 refine one_ (i := 4) (N := some 68) bq_63 rfl rfl (by kernel_rfl) (by decide) (fun K hK => ?_)
 refine goes_ Tryz.func8 (by kernel_rfl) rfl #[.agg #[.int .i64 an, .slice av ah.length aw, .slice ax ai.length ay]] (by rfl) rfl rfl tq_0 ?_
 with_reducible refine (laws_toPart.calls kj52 an _ _ ah _ _ ai cx cy cz _ ?side1 ?side2 ?side3 ?side4 ew.out).mono ?_
 (case side1 => exact tq_8)
 (case side2 => exact bf.out)
 (case side3 => exact tq_9)
 (case side4 => exact bg.out)
 rintro e fu ⟨v666, v669, rfl, ho0, ho1, hb⟩
 refine ⟨_, rfl, ?_⟩
 have z_ := p_ (Kd.R_below (raR_ ae) hb) <| p_ (Kd.R_below (raR_ HO_10) hb) <| p_ (Kd.R_elder' (raR_ a8) (Kd.R_base ho0) hb) <| p_ (Kd.S_elder' (raS_ a9) (Kd.S_base ho1) hb) <| p_ (Kd.R_lower (Kd.R_new' ho0 (Kd.R_lt (raR_ a8))) (below_size th_)) <| p_ (Kd.S_lower (Kd.S_new' ho1 (Kd.S_lt (raS_ a9))) (below_size th_)) <| bw3_ (kb_ a5) (kb_ a6) (kb_ a7) th_ hb
 clear ae HO_10 a8 a9 a5 a6 a7 HB
 obtain ⟨ae, HO_10, a8, a9, HO667, HO670, a5, a6, a7, HB⟩ := z_
 (try clear hb)
 (try clear ho0)
 (try clear ho1)
 obtain ⟨Ao77, e4, dq⟩ := Kd.R_slice HO667.out
 (first | subst dq | (injection dq with f1_ f2_ f3_; have f4_ := f1_.symm; have f5_ := f3_.symm; clear f1_ f2_ f3_; subst f4_; subst f5_))
 obtain ⟨Ao78, e5, dr⟩ := Kd.S_slice HO670.out
 (first | subst dr | (injection dr with f1_ f2_ f3_; have f4_ := f1_.symm; have f5_ := f3_.symm; clear f1_ f2_ f3_; subst f4_; subst f5_))
 refine hK.out _ _ (bc4_ a5.out (bk3_ a6.out)) (fun hHeld => ?_)
 clear hK K
 refine nm_ (some 68) ?_
 refine one_ (i := 5) (N := some 69) bq_64 rfl rfl (by kernel_rfl) (by decide) (fun K hK => ?_)
 refine goes_ Tryz.func9 (by kernel_rfl) rfl #[.agg #[.int .i64 ct, .int .i64 cu, .int .i64 cv, .int .i64 cw], .int .i64 a1, .agg #[.int .i64 cx, .slice Ao77 cy.length e4, .slice Ao78 cz.length e5]] (by rfl) rfl rfl tq_0 ?_
 with_reducible refine (impl_PartWrites.calls kj52 ct cu cv cw a1 cx _ _ cy _ _ cz d0 _ ?side1 ?side2 ?side3 ?side4 ex.out).mono ?_
 (case side1 => repeat (first | exact (Kd.R_reads' HO667.out).2.2 | (with_reducible refine Kd.C_alloc ?_ _) | (with_reducible refine Kd.C_drewN ?_ _) | (with_reducible refine Kd.C_drew ?_)))
 (case side2 => exact (Kd.R_reads' HO667.out).2.1)
 (case side3 => repeat (first | exact (Kd.S_reads' HO670.out).2.2 | (with_reducible refine Kd.C_alloc ?_ _) | (with_reducible refine Kd.C_drewN ?_ _) | (with_reducible refine Kd.C_drew ?_)))
 (case side4 => exact (Kd.S_reads' HO670.out).2.1)
 rintro e fw ⟨v672, rfl, ho0, hb⟩
 refine ⟨_, rfl, ?_⟩
 have z_ := p_ (Kd.R_elder' (raR_ ae) (Kd.R_base ho0) hb) <| p_ (Kd.R_elder' (raR_ HO_10) (Kd.R_base ho0) hb) <| p_ (Kd.R_below (raR_ a8) hb) <| p_ (Kd.S_below (raS_ a9) hb) <| p_ (Kd.R_below (raR_ HO667) hb) <| p_ (Kd.S_below (raS_ HO670) hb) <| p_ (Kd.R_lower (Kd.R_new' (Kd.R_new' ho0 (Kd.R_lt (raR_ ae))) (Kd.R_lt (raR_ HO_10))) (below_size th_)) <| bw3_ (kb_ a5) (kb_ a6) (kb_ a7) th_ hb
 clear ae HO_10 a8 a9 HO667 HO670 a5 a6 a7 HB
 obtain ⟨ae, HO_10, a8, a9, HO667, HO670, HO673, a5, a6, a7, HB⟩ := z_
 (try clear hb)
 (try clear ho0)
 refine hK.out _ _ (bc4_ a5.out (bk3_ a6.out)) (fun hHeld => ?_)
 clear hK K
 refine nm_ (some 69) ?_
 refine yq_ (i := 6) (N := some 14) bq_65 (by kernel_rfl) ?_
 refine done_ (by kernel_rfl) ?_
 obtain ⟨Ao80, e6, e7⟩ := Kd.R_slice HO673.out
 subst e7
 go_upto_if 73 with (first | ((with_reducible refine gate_callee (f := 10) rfl ?_); refine goesL_ (some 72) rfl rfl Tryz.func10 (by kernel_rfl) rfl #[.slice Ao80 d0.length e6, .slice Ao40 az.length bn] rfl tq_0 ?_; (with_reducible refine (laws_eqWriteS.calls kj52 _ _ d0 _ _ az dn _ ?side1 ?side2 ?side3 ?side4 ey.out).mono ?_); (case side1 => repeat (first | exact (Kd.R_reads' HO673.out).2.2 | (with_reducible refine Kd.C_alloc ?_ _) | (with_reducible refine Kd.C_drewN ?_ _) | (with_reducible refine Kd.C_drew ?_))); (case side2 => exact (Kd.R_reads' HO673.out).2.1); (case side3 => repeat (first | exact (Kd.R_reads' ae.out).2.2 | (with_reducible refine Kd.C_alloc ?_ _) | (with_reducible refine Kd.C_drewN ?_ _) | (with_reducible refine Kd.C_drew ?_))); (case side4 => exact (Kd.R_reads' ae.out).2.1); rintro e fx ⟨rfl, hb⟩; refine ⟨_, rfl, ?_⟩; have z_ := p_ (Kd.R_below (raR_ ae) hb) <| p_ (Kd.R_below (raR_ HO_10) hb) <| p_ (Kd.R_below (raR_ a8) hb) <| p_ (Kd.S_below (raS_ a9) hb) <| p_ (Kd.R_below (raR_ HO667) hb) <| p_ (Kd.S_below (raS_ HO670) hb) <| p_ (Kd.R_below (raR_ HO673) hb) <| bw3_ (kb_ a5) (kb_ a6) (kb_ a7) th_ hb; clear ae HO_10 a8 a9 HO667 HO670 HO673 a5 a6 a7 HB; obtain ⟨ae, HO_10, a8, a9, HO667, HO670, HO673, a5, a6, a7, HB⟩ := z_; (try clear hb)))
 (try simp only [Act.put, List.setIfInBounds_toArray, List.set_cons_zero, List.set_cons_succ])
 have H := dp.out
 clear dp ae
 have n_ := Aside0.mk (Kd.R_mono (ok' := (fun _ => True)) HO_10.out (fun k_ hk => trivial))
 clear HO_10
 have HO_10 := n_
 clear n_
 have n_ := Aside0.mk (Kd.R_mono (ok' := (fun _ => True)) a8.out (fun k_ hk => trivial))
 clear a8
 have a8 := n_
 clear n_
 have n_ := Aside0.mk (Kd.S_mono (ok' := (fun _ => True)) a9.out (fun k_ hk => trivial))
 clear a9
 have a9 := n_
 clear n_ HO667 HO670 HO673
 by_cases dx : dn = true
 rotate_left
 ·replace dx := Bool.eq_false_iff.mpr dx
  subst dx
  rw [if_neg nf_] at H
  obtain rfl := Option.some.inj H
  go_wp2
  go_ret
  exact ⟨tq_1, th_⟩
 subst dx
 rw [if_pos rfl] at H
 obtain ⟨d1, ez, H⟩ := bd_ H
 have dt := Aside0.mk H
 clear H
 go_upto_if 78 with (first | ((with_reducible refine gate_callee (f := 14) rfl ?_); refine goesL_ (some 76) rfl rfl Tryz.func14 (by kernel_rfl) rfl #[.slice Ao39 t658.length b6, .int .i64 1] rfl tq_32 ?_; (with_reducible refine (laws_heldWriteS.calls kj52 _ _ t658 1 d1 _ ?side1 ?side2 ez.out).mono ?_); (case side1 => exact tq_39); (case side2 => rw [show t658.length = t641.length from (Kd.R_reads' HO_10.out).1.symm]; exact (Kd.R_reads' HO_10.out).2.1); rintro e fy ⟨rfl, hb⟩; refine ⟨_, rfl, ?_⟩; have z_ := p_ (Kd.R_below (raR_ HO_10) hb) <| p_ (Kd.R_below (raR_ a8) hb) <| p_ (Kd.S_below (raS_ a9) hb) <| bw3_ (kb_ a5) (kb_ a6) (kb_ a7) th_ hb; clear HO_10 a8 a9 a5 a6 a7 HB; obtain ⟨HO_10, a8, a9, a5, a6, a7, HB⟩ := z_; (try clear hb); (try clear hk)))
 (try simp only [Act.put, List.setIfInBounds_toArray, List.set_cons_zero, List.set_cons_succ])
 have H := dt.out
 clear dt HO_10
 by_cases d4 : d1 < 0
 ·rw [if_pos d4] at H
  have bj := decide_eq_true d4
  clear d4
  (first | rw [bj] | (simp only [i64_w, i32_w]; rw [bj]) | skip)
  obtain rfl := Option.some.inj H
  go_wp2
  go_ret
  exact ⟨tq_1, th_⟩
 rw [if_neg d4] at H
 have bj := decide_eq_false d4
 clear d4
 (first | rw [bj] | (simp only [i64_w, i32_w]; rw [bj]) | skip)
 by_cases d2 : d1 = cp
 rotate_left
 ·rw [if_neg d2] at H
  have du := beq_eq_false_iff_ne.mpr d2
  have dv := bne_iff_ne.mpr d2
  obtain rfl := Option.some.inj H
  go_wp2
  go_ret
  exact ⟨tq_1, th_⟩
 rw [if_pos d2] at H
 have du := beq_iff_eq.mpr d2
 have dv := bne_eq_false_iff_eq.mpr d2
 clear d2
 obtain rfl := Option.some.inj H
 go_wp2
 go_ret
 exact ⟨tq_1, th_⟩

end Go.Proofs.YtleoknilacjakaaGreat.PFnExactPartWrites
