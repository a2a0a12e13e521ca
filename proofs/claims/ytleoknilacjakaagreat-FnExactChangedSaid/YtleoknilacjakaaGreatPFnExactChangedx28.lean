/- Contracts of Go functions: each call returns what the Lean function beside it computes. Conditions: as each theorem states them. -/
import Derived.Test.YtleoknilacjakaaGreatPkFnExactChanged
import Derived.Test.YtleoknilacjakaaGreatPFnExactChangedx1
import Derived.Test.YtleoknilacjakaaGreatPFnExactChangedx2
import Derived.Test.YtleoknilacjakaaGreatPFnExactChangedx3
import Derived.Test.YtleoknilacjakaaGreatPFnExactChangedx5
import Derived.Test.YtleoknilacjakaaGreatPFnExactChangedx6
import Derived.Test.YtleoknilacjakaaGreatPFnExactChangedx8
import Derived.Test.YtleoknilacjakaaGreatPFnExactChangedx17
import Derived.Test.YtleoknilacjakaaGreatPFnExactChangedx27
namespace Go.Proofs.YtleoknilacjakaaGreat.PFnExactChanged
open Go.RowKit Go.Proofs.YtleoknilacjakaaGreatW.PrintWords Go.Proofs.YtleoknilacjakaaGreatW.PrintLast Go.Proofs.YtleoknilacjakaaGreatW.PrintMore
attribute [local go_sem] max2_int min2_int max_two min_two max_three min_three max_four min_four   -- for this text's walks alone
set_option linter.unusedVariables false
set_option linter.unusedSimpArgs false

/-! ### laws_FnExactChanged: function 4 -/
def laws_FnExactChanged.j0 : Nat → Int → List (S53) → List (S53) → Bool → Int → Int → Int → Int → Int → List Int → List (S62) → Int → List Int → List (S62) → Option (Bool)
 | 0, _, _, _, _, _, _, _, _, _, _, _, _, _, _ => none
 | k + 1, x1, ao, ap, aq, a9, aa, ab, ac, ae, af, ag, ah, ai, aj => if aq = true then (some false) else ((laws_markWriteS.f k ap 1).bind fun a5 => ((laws_heldWriteS.f k a5.2 1).bind fun ak => (if ak < 0 then (some false) else (if ak = a5.1 then ((laws_toGeo.f a9 aa ab ac).bind fun a6 => ((laws_toPart.f k ae af ag).bind fun a7 => ((laws_toPart.f k ah ai aj).bind fun a8 => ((impl_Changed.f k a6.1 a6.2.1 a6.2.2.1 a6.2.2.2 x1 a7.1 a7.2.1 a7.2.2 a8.1 a8.2.1 a8.2.2).bind fun am => ((laws_eqWriteS.f k am ao).bind fun an => (if an = true then ((laws_heldWriteS.f k a5.2 1).bind fun al => (if al < 0 then (some false) else (if al = a5.1 then (some true) else (some false)))) else (some false))))))) else (some false)))))
def laws_FnExactChanged.f (k : Nat) (ak : Int) (al : Int) (am : Int) (an : Int) (a1 : Int) (a9 : Int) (aa : List Int) (ab : List (S62)) (ac : Int) (ae : List Int) (af : List (S62)) : Option (Bool) := (laws_szPart.f k a9 aa ab 1048576).bind fun aq => (if aq < 0 then (some true) else ((laws_szPart.f k ac ae af aq).bind fun av => (if av < 0 then (some true) else ((laws_toGeo.f ak al am an).bind fun a7 => ((laws_toPart.f k a9 aa ab).bind fun ag => ((laws_toPart.f k ac ae af).bind fun ah => ((spec_Changed.f k a7.1 a7.2.1 a7.2.2.1 a7.2.2.2 a1 ag.1 ag.2.1 ag.2.2 ah.1 ah.2.1 ah.2.2).bind fun ao => ((laws_toPart.f k a9 aa ab).bind fun a5 => ((laws_toPart.f k ac ae af).bind fun a6 => ((laws_toGeo.f ak al am an).bind fun a8 => ((impl_Changed.f k a8.1 a8.2.1 a8.2.2.1 a8.2.2.2 a1 a5.1 a5.2.1 a5.2.2 a6.1 a6.2.1 a6.2.2).bind fun ap => ((laws_eqWriteS.f k ap ao).bind fun aw => (if aw = true then ((laws_toPart.f k a9 aa ab).bind fun ai => ((laws_eqPart.f k a5.1 a5.2.1 a5.2.2 ai.1 ai.2.1 ai.2.2).bind fun ax => (if ax = true then ((laws_toPart.f k ac ae af).bind fun aj => ((laws_eqPart.f k a6.1 a6.2.1 a6.2.2 aj.1 aj.2.1 aj.2.2).bind fun ay => (if ay = true then ((laws_markPart.f k a5.1 a5.2.1 a5.2.2 1).bind fun ar => ((laws_markPart.f k a6.1 a6.2.1 a6.2.2 ar.1).bind fun au => (if au.1 < 0 then (laws_FnExactChanged.j0 k a1 ao ap true ak al am an a9 aa ab ac ae af) else ((laws_eqWriteS.f k ap ao).bind fun az => (laws_FnExactChanged.j0 k a1 ao ap (!az) ak al am an a9 aa ab ac ae af))))) else (some false)))) else (some false)))) else (some false))))))))))))))
def laws_FnExactChanged.T8 : Bool × List (List Nat × List Nat) := (true, [([], []), ([0], [0]), ([], []), ([], []), ([3, 1], [3]), ([], []), ([5, 4], [5]), ([1, 2, 4, 6, 6], [1, 2, 4, 6]), ([7, 7, 0, 1, 2, 3, 4, 5, 6, 7], [7])])
def laws_FnExactChanged.B8 : List Nat := [0, 1, 0, 0, 11, 0, 59, 127, 255]
theorem laws_FnExactChanged.tab8 : rtab .any (opsOf Tryz.f4 8) = laws_FnExactChanged.T8 := by kernel_rfl
theorem laws_FnExactChanged.bits8 : waitsOk laws_FnExactChanged.T8.2 laws_FnExactChanged.B8 = true := by kernel_rfl
def laws_FnExactChanged.T31 : Bool × List (List Nat × List Nat) := (true, [([], []), ([0], [0]), ([], []), ([], []), ([3, 1], [3]), ([], []), ([5, 4], [5]), ([1, 2, 4, 6, 6], [1, 2, 4, 6]), ([7, 7, 0, 1, 2, 3, 4, 5, 6, 7], [7])])
def laws_FnExactChanged.B31 : List Nat := [0, 1, 0, 0, 11, 0, 59, 127, 255]
theorem laws_FnExactChanged.tab31 : rtab .any (opsOf Tryz.f4 31) = laws_FnExactChanged.T31 := by kernel_rfl
theorem laws_FnExactChanged.bits31 : waitsOk laws_FnExactChanged.T31.2 laws_FnExactChanged.B31 = true := by kernel_rfl
set_option maxHeartbeats 8000000 in
set_option maxRecDepth 100000 in
theorem laws_FnExactChanged.calls (k : Nat) (b9 : Int) (ba : Int) (bb : Int) (bc : Int) (a1 : Int) (az : Int) (be : Option Addr) (bf : Nat) (ar : List Int) (bg : Option Addr) (bh : Nat) (au : List (S62)) (b0 : Int) (bi : Option Addr) (bj : Nat) (av : List Int) (bl : Option Addr) (bm : Nat) (aw : List (S62)) (r : Bool) (w : World) (e1 : Kd.C (Kd.int .i64) w be ar.length ar) (e2 : ar.length ≤ bf) (e3 : Kd.C k62 w bg au.length au) (e4 : au.length ≤ bh) (e5 : Kd.C (Kd.int .i64) w bi av.length av) (e6 : av.length ≤ bj) (e7 : Kd.C k62 w bl aw.length aw) (e8 : aw.length ≤ bm) (h : laws_FnExactChanged.f k b9 ba bb bc a1 az ar au b0 av aw = some r) :
  Calls Tryz.prog 4 #[.agg #[.int .i64 b9, .int .i64 ba, .int .i64 bb, .int .i64 bc], .int .i64 a1, .agg #[.int .i64 az, .slice be ar.length bf, .slice bg au.length bh], .agg #[.int .i64 b0, .slice bi av.length bj, .slice bl aw.length bm]] w fun e w' => e = .returned (.bool r) ∧ Below w.heap.size w w' := by
 have hu23 := Tryz.underlying23
 have hu27 := Tryz.underlying27
 have hu35 := Tryz.underlying35
 have HR2_1 := Aside0.mk e1
 have d5 := Aside0.mk e2
 clear e1 e2
 have HR2_2 := Aside0.mk e3
 have d6 := Aside0.mk e4
 clear e3 e4
 have HR3_1 := Aside0.mk e5
 have d7 := Aside0.mk e6
 clear e5 e6
 have HR3_2 := Aside0.mk e7
 have d8 := Aside0.mk e8
 clear e7 e8
 have HB := Aside0.mk (Below.refl w.heap.size w)
 unfold laws_FnExactChanged.f at h
 have H := h
 clear h
 obtain ⟨dt, A5, H⟩ := bd_ H
 have ib := Aside0.mk H
 clear H
 go_enter Tryz.func4, Tryz.ntmps4
 go_upto_if 22 with (first | ((with_reducible refine gate_dst (N := 4) rfl ?_); refine be_ 4 (cs := #[.int .i64 b9, .int .i64 ba, .int .i64 bb, .int .i64 bc]) 23 ?_; intro ax hg w7 hbox hb; have z_ := bx0_ th_ hb hbox hg; clear HB; obtain ⟨HB, a5, ic, GE650⟩ := z_; clear hb hbox hg) | ((with_reducible refine gate_dst (N := 6) rfl ?_); refine be_ 6 (cs := #[.int .i64 az, .slice be ar.length bf, .slice bg au.length bh]) 27 ?_; intro b4 hg w8 hbox hb; have z_ := bx1_ (kb_ a5) th_ hb hbox hg; clear a5 HB; obtain ⟨a5, HB, a6, id, GE651, co, cp⟩ := z_; clear hb hbox hg) | ((with_reducible refine gate_dst (N := 7) rfl ?_); refine be_ 7 (cs := #[.int .i64 b0, .slice bi av.length bj, .slice bl aw.length bm]) 27 ?_; intro b5 hg w9 hbox hb; have z_ := bx2_ (kb_ a5) (kb_ a6) th_ hb hbox hg; clear a5 a6 HB; obtain ⟨a5, a6, HB, a7, ie, GE652, cq, cr, bn, bo⟩ := z_; clear hb hbox hg; obtain ⟨br, bs, b7, b8⟩ := an4_ cp co bn bo; have gv := bb3_ a6.out) | ((with_reducible refine gate_callee (f := 5) rfl ?_); refine goesL_ (some 20) rfl rfl Tryz.func5 (by kernel_rfl) rfl #[.agg #[.int .i64 az, .slice be ar.length bf, .slice bg au.length bh], .int .i64 1048576] rfl tq_0 ?_; (with_reducible refine (laws_szPart.calls k az _ _ ar _ _ au 1048576 dt _ ?side1 ?side2 ?side3 ?side4 A5.out).mono ?_); (case side1 => exact tq_6); (case side2 => exact d5.out); (case side3 => exact tq_7); (case side4 => exact d6.out); rintro e jm ⟨rfl, hb⟩; refine ⟨_, rfl, ?_⟩; have z_ := bw3_ (kb_ a5) (kb_ a6) (kb_ a7) th_ hb; clear a5 a6 a7 HB; obtain ⟨a5, a6, a7, HB⟩ := z_; (try clear hb)))
 (try simp only [Act.put, List.setIfInBounds_toArray, List.set_cons_zero, List.set_cons_succ])
 (try clear bs br b7 b8)
 (try clear gv)
 have H := ib.out
 clear ib
 by_cases fo : dt < 0
 ·rw [if_pos fo] at H
  have d9 := decide_eq_true fo
  clear fo
  (first | rw [d9] | (simp only [i64_w, i32_w]; rw [d9]) | skip)
  obtain rfl := Option.some.inj H
  go_wp2
  go_ret
  exact ⟨tq_1, th_⟩
 rw [if_neg fo] at H
 have d9 := decide_eq_false fo
 clear fo
 (first | rw [d9] | (simp only [i64_w, i32_w]; rw [d9]) | skip)
 obtain ⟨fq, ij, H⟩ := bd_ H
 have fr := Aside0.mk H
 clear H
 obtain ⟨bu, bv, b8, b7⟩ := an4_ cr cq bo bn
 have gw := bb3_ a7.out
 go_upto_if 27 with (first | ((with_reducible refine gate_callee (f := 5) rfl ?_); refine goesL_ (some 25) rfl rfl Tryz.func5 (by kernel_rfl) rfl #[.agg #[.int .i64 b0, .slice bi av.length bj, .slice bl aw.length bm], .int .i64 dt] rfl tq_0 ?_; (with_reducible refine (laws_szPart.calls k b0 _ _ av _ _ aw dt fq _ ?side1 ?side2 ?side3 ?side4 ij.out).mono ?_); (case side1 => exact tq_11); (case side2 => exact d7.out); (case side3 => exact tq_10); (case side4 => exact d8.out); rintro e ik ⟨rfl, hb⟩; refine ⟨_, rfl, ?_⟩; have z_ := bw3_ (kb_ a5) (kb_ a6) (kb_ a7) th_ hb; clear a5 a6 a7 HB; obtain ⟨a5, a6, a7, HB⟩ := z_; (try clear hb)))
 (try simp only [Act.put, List.setIfInBounds_toArray, List.set_cons_zero, List.set_cons_succ])
 (try clear bv b7 bu b8)
 (try clear gw)
 have H := fr.out
 clear fr
 by_cases fp : fq < 0
 ·rw [if_pos fp] at H
  have da := decide_eq_true fp
  clear fp
  (first | rw [da] | (simp only [i64_w, i32_w]; rw [da]) | skip)
  obtain rfl := Option.some.inj H
  go_wp2
  go_ret
  exact ⟨tq_1, th_⟩
 rw [if_neg fp] at H
 have da := decide_eq_false fp
 clear fp
 (first | rw [da] | (simp only [i64_w, i32_w]; rw [da]) | skip)
 obtain ⟨⟨eh, ei, ej, ek⟩, il, H⟩ := bd_ H
 try dsimp -simprocs only at H
 obtain ⟨⟨el, db, dc⟩, im, H⟩ := bd_ H
 try dsimp -simprocs only at H
 obtain ⟨⟨em, dd, de⟩, io, H⟩ := bd_ H
 try dsimp -simprocs only at H
 obtain ⟨bp, ip, H⟩ := bd_ H
 obtain ⟨⟨bd, ao, ap⟩, iq, H⟩ := bd_ H
 try dsimp -simprocs only at H
 obtain ⟨⟨an, aj, ak⟩, ir, H⟩ := bd_ H
 try dsimp -simprocs only at H
 obtain ⟨⟨en, eo, ep, eq⟩, iu, H⟩ := bd_ H
 try dsimp -simprocs only at H
 obtain ⟨t696, iv, H⟩ := bd_ H
 obtain ⟨fs, iw, H⟩ := bd_ H
 have ft := Aside0.mk H
 clear H
 try go_wp2
 have z_ := dw3_ a5 a6 a7 HB
 clear a5 a6 a7 HB
 obtain ⟨a5, a6, a7, HB⟩ := z_
 refine start_ (n := 9) (S := fun w' => w'.cell? ⟨ax, 0, none⟩ = some (.int .i64 b9) ∧ w'.cell? ⟨ax, 1, none⟩ = some (.int .i64 ba) ∧ w'.cell? ⟨ax, 2, none⟩ = some (.int .i64 bb) ∧ w'.cell? ⟨ax, 3, none⟩ = some (.int .i64 bc) ∧ w'.cell? ⟨b4, 0, none⟩ = some (.int .i64 az) ∧ w'.cell? ⟨b4, 1, none⟩ = some (.slice be ar.length bf) ∧ w'.cell? ⟨b4, 2, none⟩ = some (.slice bg au.length bh) ∧ w'.cell? ⟨b5, 0, none⟩ = some (.int .i64 b0) ∧ w'.cell? ⟨b5, 1, none⟩ = some (.slice bi av.length bj) ∧ w'.cell? ⟨b5, 2, none⟩ = some (.slice bl aw.length bm)) (ds := []) bq_61 (by kernel_rfl) rfl rfl (bc4_ a5.out (bc3_ a6.out (bk3_ a7.out))) (fun hHeld => ?_); refine with_tabW laws_FnExactChanged.tab8 laws_FnExactChanged.bits8 (fun HT_ HW_ => ?_)
 generalize ik.drew = jn at a5 a6 a7 HB hHeld ⊢
 refine yr_ 2 30 bq_134 HT_ ?_
 refine tr_ 0 28 bq_62 HT_ HW_ hHeld ?_
 refine tr_ 3 31 bq_135 HT_ HW_ hHeld ?_
 refine tr_ 5 33 bq_136 HT_ HW_ hHeld ?_
 refine one_ (i := 1) (N := some 29) bq_137 rfl rfl (one_of HT_.out (by kernel_rfl)) (by decide) (fun K hK => ?_)
 refine goes_ Tryz.func7 (by kernel_rfl) rfl #[.agg #[.int .i64 b9, .int .i64 ba, .int .i64 bb, .int .i64 bc]] (by rfl) rfl rfl tq_0 ?_
 with_reducible refine (laws_toGeo.calls b9 ba bb bc eh ei ej ek _ il.out).mono ?_
 rintro e jo ⟨rfl, hb⟩
 refine ⟨_, rfl, ?_⟩
 have z_ := bw3_ (kb_ a5) (kb_ a6) (kb_ a7) th_ hb
 clear a5 a6 a7 HB
 obtain ⟨a5, a6, a7, HB⟩ := z_
 (try clear hb)
 refine hK.out _ _ (bc4_ a5.out (bc3_ a6.out (bk3_ a7.out))) (fun hHeld => ?_)
 clear hK K
 refine nm_ (some 29) ?_
 refine one_ (i := 4) (N := some 32) bq_138 rfl rfl (one_of HT_.out (by kernel_rfl)) (by decide) (fun K hK => ?_)
 refine goes_ Tryz.func8 (by kernel_rfl) rfl #[.agg #[.int .i64 az, .slice be ar.length bf, .slice bg au.length bh]] (by rfl) rfl rfl tq_0 ?_
 with_reducible refine (laws_toPart.calls k az _ _ ar _ _ au el db dc _ ?side1 ?side2 ?side3 ?side4 im.out).mono ?_
 (case side1 => exact tq_6)
 (case side2 => exact d5.out)
 (case side3 => exact tq_7)
 (case side4 => exact d6.out)
 rintro e jp ⟨v661, v664, rfl, ho0, ho1, hb⟩
 refine ⟨_, rfl, ?_⟩
 have z_ := p_ (Kd.R_lower ho0 (below_size th_)) <| p_ (Kd.S_lower ho1 (below_size th_)) <| bw3_ (kb_ a5) (kb_ a6) (kb_ a7) th_ hb
 clear a5 a6 a7 HB
 obtain ⟨HO662, HO665, a5, a6, a7, HB⟩ := z_
 (try clear hb)
 (try clear ho0)
 (try clear ho1)
 refine hK.out _ _ (bc4_ a5.out (bc3_ a6.out (bk3_ a7.out))) (fun hHeld => ?_)
 clear hK K
 refine nm_ (some 32) ?_
 refine one_ (i := 6) (N := some 34) bq_63 rfl rfl (one_of HT_.out (by kernel_rfl)) (by decide) (fun K hK => ?_)
 refine goes_ Tryz.func8 (by kernel_rfl) rfl #[.agg #[.int .i64 b0, .slice bi av.length bj, .slice bl aw.length bm]] (by rfl) rfl rfl tq_0 ?_
 with_reducible refine (laws_toPart.calls k b0 _ _ av _ _ aw em dd de _ ?side1 ?side2 ?side3 ?side4 io.out).mono ?_
 (case side1 => exact tq_11)
 (case side2 => exact d7.out)
 (case side3 => exact tq_10)
 (case side4 => exact d8.out)
 rintro e jq ⟨v668, v671, rfl, ho0, ho1, hb⟩
 refine ⟨_, rfl, ?_⟩
 have z_ := p_ (Kd.R_elder' (raR_ HO662) (Kd.R_base ho0) hb) <| p_ (Kd.S_elder' (raS_ HO665) (Kd.S_base ho1) hb) <| p_ (Kd.R_lower (Kd.R_new' ho0 (Kd.R_lt (raR_ HO662))) (below_size th_)) <| p_ (Kd.S_lower (Kd.S_new' ho1 (Kd.S_lt (raS_ HO665))) (below_size th_)) <| bw3_ (kb_ a5) (kb_ a6) (kb_ a7) th_ hb
 clear HO662 HO665 a5 a6 a7 HB
 obtain ⟨HO662, HO665, HO669, HO672, a5, a6, a7, HB⟩ := z_
 (try clear hb)
 (try clear ho0)
 (try clear ho1)
 obtain ⟨Ao36, dn, fu⟩ := Kd.R_slice HO662.out
 (first | subst fu | (injection fu with f1_ f2_ f3_; have f4_ := f1_.symm; have f5_ := f3_.symm; clear f1_ f2_ f3_; subst f4_; subst f5_))
 obtain ⟨Ao37, dp, fw⟩ := Kd.S_slice HO665.out
 (first | subst fw | (injection fw with f1_ f2_ f3_; have f4_ := f1_.symm; have f5_ := f3_.symm; clear f1_ f2_ f3_; subst f4_; subst f5_))
 obtain ⟨Ao38, dq, fx⟩ := Kd.R_slice HO669.out
 (first | subst fx | (injection fx with f1_ f2_ f3_; have f4_ := f1_.symm; have f5_ := f3_.symm; clear f1_ f2_ f3_; subst f4_; subst f5_))
 obtain ⟨Ao39, dr, fy⟩ := Kd.S_slice HO672.out
 (first | subst fy | (injection fy with f1_ f2_ f3_; have f4_ := f1_.symm; have f5_ := f3_.symm; clear f1_ f2_ f3_; subst f4_; subst f5_))
 refine hK.out _ _ (bc4_ a5.out (bc3_ a6.out (bk3_ a7.out))) (fun hHeld => ?_)
 clear hK K
 refine nm_ (some 34) ?_
 refine one_ (i := 7) (N := some 35) bq_64 rfl rfl (one_of HT_.out (by kernel_rfl)) (by decide) (fun K hK => ?_)
 refine goes_ Tryz.func15 (by kernel_rfl) rfl #[.agg #[.int .i64 eh, .int .i64 ei, .int .i64 ej, .int .i64 ek], .int .i64 a1, .agg #[.int .i64 el, .slice Ao36 db.length dn, .slice Ao37 dc.length dp], .agg #[.int .i64 em, .slice Ao38 dd.length dq, .slice Ao39 de.length dr]] (by rfl) rfl rfl tq_0 ?_
 with_reducible refine (spec_Changed.calls k eh ei ej ek a1 el _ _ db _ _ dc em _ _ dd _ _ de bp _ ?side1 ?side2 ?side3 ?side4 ?side5 ?side6 ?side7 ?side8 ip.out).mono ?_
 (case side1 => repeat (first | exact (Kd.R_reads' HO662.out).2.2 | (with_reducible refine Kd.C_alloc ?_ _) | (with_reducible refine Kd.C_drewN ?_ _) | (with_reducible refine Kd.C_drew ?_)))
 (case side2 => exact (Kd.R_reads' HO662.out).2.1)
 (case side3 => repeat (first | exact (Kd.S_reads' HO665.out).2.2 | (with_reducible refine Kd.C_alloc ?_ _) | (with_reducible refine Kd.C_drewN ?_ _) | (with_reducible refine Kd.C_drew ?_)))
 (case side4 => exact (Kd.S_reads' HO665.out).2.1)
 (case side5 => repeat (first | exact (Kd.R_reads' HO669.out).2.2 | (with_reducible refine Kd.C_alloc ?_ _) | (with_reducible refine Kd.C_drewN ?_ _) | (with_reducible refine Kd.C_drew ?_)))
 (case side6 => exact (Kd.R_reads' HO669.out).2.1)
 (case side7 => repeat (first | exact (Kd.S_reads' HO672.out).2.2 | (with_reducible refine Kd.C_alloc ?_ _) | (with_reducible refine Kd.C_drewN ?_ _) | (with_reducible refine Kd.C_drew ?_)))
 (case side8 => exact (Kd.S_reads' HO672.out).2.1)
 rintro e jr ⟨v674, rfl, ho0, hb⟩
 refine ⟨_, rfl, ?_⟩
 have z_ := p_ (Kd.R_below (raR_ HO662) hb) <| p_ (Kd.S_below (raS_ HO665) hb) <| p_ (Kd.R_below (raR_ HO669) hb) <| p_ (Kd.S_below (raS_ HO672) hb) <| p_ (Kd.R_lower ho0 (below_size th_)) <| bw3_ (kb_ a5) (kb_ a6) (kb_ a7) th_ hb
 clear HO662 HO665 HO669 HO672 a5 a6 a7 HB
 obtain ⟨HO662, HO665, HO669, HO672, HO675, a5, a6, a7, HB⟩ := z_
 (try clear hb)
 (try clear ho0)
 refine hK.out _ _ (bc4_ a5.out (bc3_ a6.out (bk3_ a7.out))) (fun hHeld => ?_)
 clear hK K
 refine nm_ (some 35) ?_
 refine yr_ 8 10 bq_65 HT_ ?_
 refine done_ (done_of HT_.out (by kernel_rfl)) ?_
 obtain ⟨br, bs, b7, b8⟩ := an4_ cp co bn bo
 have fz := bb3_ a6.out
 try go_wp2_with (first | ((with_reducible refine gate_callee (f := 8) rfl ?_); refine goesL_ (some 37) rfl rfl Tryz.func8 (by kernel_rfl) rfl #[.agg #[.int .i64 az, .slice be ar.length bf, .slice bg au.length bh]] rfl tq_0 ?_; (with_reducible refine (laws_toPart.calls k az _ _ ar _ _ au bd ao ap _ ?side1 ?side2 ?side3 ?side4 iq.out).mono ?_); (case side1 => exact tq_6); (case side2 => exact d5.out); (case side3 => exact tq_7); (case side4 => exact d6.out); rintro e js ⟨v678, v681, rfl, ho0, ho1, hb⟩; refine ⟨_, rfl, ?_⟩; have z_ := p_ (Kd.R_elder' (raR_ HO662) (Kd.R_base ho0) hb) <| p_ (Kd.S_elder' (raS_ HO665) (Kd.S_base ho1) hb) <| p_ (Kd.R_elder' (raR_ HO669) (Kd.R_base ho0) hb) <| p_ (Kd.S_elder' (raS_ HO672) (Kd.S_base ho1) hb) <| p_ (Kd.R_below (raR_ HO675) hb) <| p_ (Kd.R_lower (Kd.R_new' (Kd.R_new' ho0 (Kd.R_lt (raR_ HO662))) (Kd.R_lt (raR_ HO669))) (below_size th_)) <| p_ (Kd.S_lower (Kd.S_new' (Kd.S_new' ho1 (Kd.S_lt (raS_ HO665))) (Kd.S_lt (raS_ HO672))) (below_size th_)) <| bw3_ (kb_ a5) (kb_ a6) (kb_ a7) th_ hb; clear HO662 HO665 HO669 HO672 HO675 a5 a6 a7 HB; obtain ⟨HO662, HO665, HO669, HO672, HO675, HO679, HO682, a5, a6, a7, HB⟩ := z_; (try clear hb); (try clear ho0); (try clear ho1)) | ((with_reducible refine gate_dst (N := 11) rfl ?_); refine be_ 11 (cs := #[.int .i64 0, .slice none 0 0, .slice none 0 0]) 35 ?_; intro b6 hg jt hbox hb; have z_ := p_ (Kd.R_below (raR_ HO662) hb) <| p_ (Kd.S_below (raS_ HO665) hb) <| p_ (Kd.R_below (raR_ HO669) hb) <| p_ (Kd.S_below (raS_ HO672) hb) <| p_ (Kd.R_below (raR_ HO675) hb) <| p_ (Kd.R_below (raR_ HO679) hb) <| p_ (Kd.S_below (raS_ HO682) hb) <| bx3_ (kb_ a5) (kb_ a6) (kb_ a7) th_ hb hbox hg; clear HO662 HO665 HO669 HO672 HO675 HO679 HO682 a5 a6 a7 HB; obtain ⟨HO662, HO665, HO669, HO672, HO675, HO679, HO682, a5, a6, a7, HB, BK683, ig, GE683, b1, ct, b2, cu, b3, cv⟩ := z_; clear hb hbox hg; obtain ⟨bw, bx, bz, ca, cb, cc⟩ := an6_ ct b1 cu b2 cv b3; have g6 := bb3_ BK683.out; obtain ⟨Ao50, aq, gx⟩ := Kd.R_slice HO679.out; subst gx; obtain ⟨Ao51, ay, gy⟩ := Kd.S_slice HO682.out; subst gy; obtain ⟨bu, bv⟩ := an2_ cr cq; have g7 := bb3_ a7.out) | ((with_reducible refine gate_callee (f := 8) rfl ?_); refine goesL_ (some 39) rfl rfl Tryz.func8 (by kernel_rfl) rfl #[.agg #[.int .i64 b0, .slice bi av.length bj, .slice bl aw.length bm]] rfl tq_0 ?_; (with_reducible refine (laws_toPart.calls k b0 _ _ av _ _ aw an aj ak _ ?side1 ?side2 ?side3 ?side4 ir.out).mono ?_); (case side1 => exact Kd.C_below HR3_1.out th_); (case side2 => exact d7.out); (case side3 => exact Kd.C_below HR3_2.out th_); (case side4 => exact d8.out); rintro e ju ⟨v686, v689, rfl, ho0, ho1, hb⟩; refine ⟨_, rfl, ?_⟩; have HA_ := Aside0.mk (Kd.S_below (Kd.S_mono (Kd.S_bound (by (with_reducible repeat (first | apply Kd.S_alloc | apply Kd.S_drewN | apply Kd.S_drew)); exact (Kd.S_mono (Kd.S_far  (p := ⟨b6, 2, none⟩) (Kd.S_far  (p := ⟨b6, 1, none⟩) (Kd.S_far  (p := ⟨b6, 0, none⟩) (Kd.S_types HO682.out BK683.out (by decide)) (fun _ hk => hk.2) (.int .i64 bd)) (fun _ hk => hk.2) (.slice Ao50 ao.length aq)) (fun _ hk => hk.2) (.slice Ao51 ap.length ay)) (fun _ h_ => h_.1)))) (fun k_ hk_ => hk_.2.2.1)) hb); have HG_ := Aside0.mk ho1; have HGL_ := Aside0.mk (keep_base ho1 (below_size th_)); have z_ := p_ (Kd.R_elder' tq_55 (Kd.R_base ho0) hb) <| p_ (Kd.S_elder' tq_52 (Kd.S_base ho1) hb) <| p_ (Kd.R_elder' tq_54 (Kd.R_base ho0) hb) <| p_ (Kd.S_elder' tq_51 (Kd.S_base ho1) hb) <| p_ (Kd.R_below (by (with_reducible repeat (first | apply Kd.R_alloc | apply Kd.R_drewN | apply Kd.R_drew)); exact (Kd.R_mono (rR_ (rR_ (rR_ (Kd.R_types HO675.out BK683.out (by decide))))) (fun _ h_ => h_.1))) hb) <| p_ (Kd.R_elder' tq_53 (Kd.R_base ho0) hb) <| p_ (Kd.S_elder' tq_50 (Kd.S_base ho1) hb) <| p_ (Kd.R_lower (Kd.R_new' (Kd.R_new' (Kd.R_new' ho0 (Kd.R_lt tq_55)) (Kd.R_lt tq_54)) (Kd.R_lt tq_53)) (below_size th_)) <| p_ (Kd.S_lower (Kd.S_new' (Kd.S_new' (Kd.S_new' ho1 (Kd.S_lt tq_52)) (Kd.S_lt tq_51)) (Kd.S_lt tq_50)) (below_size th_)) <| p_ (blk_below (g := ax) (o := .cells #[.int .i64 b9, .int .i64 ba, .int .i64 bb, .int .i64 bc] 23 (0, 0)) (by (with_reducible repeat (first | refine blk_drewN ?_ _ | refine blk_drew ?_ | refine blk_alloc ?_ _)); refine blk_far ?_ b1.out _; (with_reducible repeat (first | refine blk_drewN ?_ _ | refine blk_drew ?_ | refine blk_alloc ?_ _)); refine blk_far ?_ b1.out _; (with_reducible repeat (first | refine blk_drewN ?_ _ | refine blk_drew ?_ | refine blk_alloc ?_ _)); refine blk_far ?_ b1.out _; (with_reducible repeat (first | refine blk_drewN ?_ _ | refine blk_drew ?_ | refine blk_alloc ?_ _)); exact a5.out) hb) <| p_ (blk_below (g := b4) (o := .cells #[.int .i64 az, .slice be ar.length bf, .slice bg au.length bh] 27 (0, 0)) (by (with_reducible repeat (first | refine blk_drewN ?_ _ | refine blk_drew ?_ | refine blk_alloc ?_ _)); refine blk_far ?_ b2.out _; (with_reducible repeat (first | refine blk_drewN ?_ _ | refine blk_drew ?_ | refine blk_alloc ?_ _)); refine blk_far ?_ b2.out _; (with_reducible repeat (first | refine blk_drewN ?_ _ | refine blk_drew ?_ | refine blk_alloc ?_ _)); refine blk_far ?_ b2.out _; (with_reducible repeat (first | refine blk_drewN ?_ _ | refine blk_drew ?_ | refine blk_alloc ?_ _)); exact a6.out) hb) <| p_ (blk_below (g := b5) (o := .cells #[.int .i64 b0, .slice bi av.length bj, .slice bl aw.length bm] 27 (0, 0)) (by (with_reducible repeat (first | refine blk_drewN ?_ _ | refine blk_drew ?_ | refine blk_alloc ?_ _)); refine blk_far ?_ b3.out _; (with_reducible repeat (first | refine blk_drewN ?_ _ | refine blk_drew ?_ | refine blk_alloc ?_ _)); refine blk_far ?_ b3.out _; (with_reducible repeat (first | refine blk_drewN ?_ _ | refine blk_drew ?_ | refine blk_alloc ?_ _)); refine blk_far ?_ b3.out _; (with_reducible repeat (first | refine blk_drewN ?_ _ | refine blk_drew ?_ | refine blk_alloc ?_ _)); exact a7.out) hb) <| p_ (blk_below (g := b6) (o := .cells #[.int .i64 bd, .slice Ao50 ao.length aq, .slice Ao51 ap.length ay] 35 (0, 0)) (by (with_reducible repeat (first | refine blk_drewN ?_ _ | refine blk_drew ?_ | refine blk_alloc ?_ _)); refine blk_put (cs := #[.int .i64 bd, .slice Ao50 ao.length aq, .slice none 0 0]) ?_ 2 _ rfl; (with_reducible repeat (first | refine blk_drewN ?_ _ | refine blk_drew ?_ | refine blk_alloc ?_ _)); refine blk_put (cs := #[.int .i64 bd, .slice none 0 0, .slice none 0 0]) ?_ 1 _ rfl; (with_reducible repeat (first | refine blk_drewN ?_ _ | refine blk_drew ?_ | refine blk_alloc ?_ _)); refine blk_put (cs := #[.int .i64 0, .slice none 0 0, .slice none 0 0]) ?_ 0 _ rfl; (with_reducible repeat (first | refine blk_drewN ?_ _ | refine blk_drew ?_ | refine blk_alloc ?_ _)); exact BK683.out) hb) <| a_ (below_step th_ hb); clear HO662 HO665 HO669 HO672 HO675 HO679 HO682 a5 a6 a7 BK683 HB; obtain ⟨HO662, HO665, HO669, HO672, HO675, HO679, HO682, HO687, HO690, a5, a6, a7, BK683, HB⟩ := z_; (try clear hb)) | ((with_reducible refine gate_dst (N := 12) rfl ?_); refine be_ 12 (cs := #[.int .i64 0, .slice none 0 0, .slice none 0 0]) 35 ?_; intro ae hg df hbox hb; have HA2_ := Aside0.mk (Kd.S_below (raS_ HA_) hb); have HG2_ := Aside0.mk (Kd.S_below (raS_ HG_) hb); clear HA_ HG_; have HA_ := HA2_; have HG_ := HG2_; clear HA2_ HG2_; have z_ := p_ (Kd.R_below (raR_ HO662) hb) <| p_ (Kd.S_below (raS_ HO665) hb) <| p_ (Kd.R_below (raR_ HO669) hb) <| p_ (Kd.S_below (raS_ HO672) hb) <| p_ (Kd.R_below (raR_ HO675) hb) <| p_ (Kd.R_below (raR_ HO679) hb) <| p_ (Kd.S_below (raS_ HO682) hb) <| p_ (Kd.R_below (raR_ HO687) hb) <| p_ (Kd.S_below (raS_ HO690) hb) <| bx4_ (kb_ a5) (kb_ a6) (kb_ a7) (kb_ BK683) th_ hb hbox hg; clear HO662 HO665 HO669 HO672 HO675 HO679 HO682 HO687 HO690 a5 a6 a7 BK683 HB; obtain ⟨HO662, HO665, HO669, HO672, HO675, HO679, HO682, HO687, HO690, a5, a6, a7, BK683, HB, a8, ii, GE691, cw, cx, cy, cz, d0, d1, d2, d3⟩ := z_; clear hb hbox hg; obtain ⟨cd, ce, cf, cg, ch, ci, cj, ck⟩ := an8_ cx cw cz cy d1 d0 d3 d2; have g8 := bb3_ a8.out; obtain ⟨Ao61, al, gz⟩ := Kd.R_slice HO687.out; subst gz; obtain ⟨Ao62, am, h8⟩ := Kd.S_slice HO690.out; subst h8))
 have HA2_ := Aside0.mk (Kd.S_mono (Kd.S_far  (p := ⟨ae, 2, none⟩) (Kd.S_far  (p := ⟨ae, 1, none⟩) (Kd.S_far  (p := ⟨ae, 0, none⟩) (Kd.S_types HA_.out a8.out (by decide)) (fun _ hk => hk.2) (.int .i64 an)) (fun _ hk => hk.2) (.slice Ao61 aj.length al)) (fun _ hk => hk.2) (.slice Ao62 ak.length am)) (fun _ h_ => h_.1))
 have HG2_ := Aside0.mk (Kd.S_mono (Kd.S_far  (p := ⟨ae, 2, none⟩) (Kd.S_far  (p := ⟨ae, 1, none⟩) (Kd.S_far  (p := ⟨ae, 0, none⟩) (Kd.S_types HG_.out a8.out (by decide)) (fun _ hk => hk.2) (.int .i64 an)) (fun _ hk => hk.2) (.slice Ao61 aj.length al)) (fun _ hk => hk.2) (.slice Ao62 ak.length am)) (fun _ h_ => h_.1))
 clear HA_ HG_
 have HA_ := HA2_
 have HG_ := HG2_
 clear HA2_ HG2_
 have n0_ : Aside0 (Kd.R (Kd.int .i64) 3 (((df.setCell ⟨ae, 0, none⟩ (.int .i64 an)).setCell ⟨ae, 1, none⟩ (.slice Ao61 aj.length al)).setCell ⟨ae, 2, none⟩ (.slice Ao62 ak.length am)) w.heap.size (fun k_ => some k_ ≠ (.slice Ao38 dd.length dq : Value).ownBlock ∧ some k_ ≠ (.slice Ao50 ao.length aq : Value).ownBlock ∧ some k_ ≠ (.slice Ao61 aj.length al : Value).ownBlock) (.slice Ao36 db.length dn) db) := ⟨(by (with_reducible repeat (first | apply Kd.R_alloc | apply Kd.R_drewN | apply Kd.R_drew)); exact Kd.R_mono (rR_ (rR_ (rR_ (Kd.R_types HO662.out a8.out (by decide))))) (fun _ hk => ⟨hk.1.1.1.2, ⟨hk.1.1.2, hk.1.2⟩⟩))⟩
 have n1_ : Aside0 (Kd.S k69 69 (((df.setCell ⟨ae, 0, none⟩ (.int .i64 an)).setCell ⟨ae, 1, none⟩ (.slice Ao61 aj.length al)).setCell ⟨ae, 2, none⟩ (.slice Ao62 ak.length am)) w.heap.size (fun k_ => some k_ ≠ (.slice Ao39 de.length dr : Value).ownBlock ∧ some k_ ≠ (.slice Ao51 ap.length ay : Value).ownBlock ∧ some k_ ≠ (.slice Ao62 ak.length am : Value).ownBlock) (.slice Ao37 dc.length dp) dc) := ⟨(by (with_reducible repeat (first | apply Kd.S_alloc | apply Kd.S_drewN | apply Kd.S_drew)); exact Kd.S_mono (rS_ (rS_ (rS_ (Kd.S_types HO665.out a8.out (by decide))))) (fun _ hk => ⟨hk.1.1.1.2, ⟨hk.1.1.2, hk.1.2⟩⟩))⟩
 have n2_ : Aside0 (Kd.R (Kd.int .i64) 3 (((df.setCell ⟨ae, 0, none⟩ (.int .i64 an)).setCell ⟨ae, 1, none⟩ (.slice Ao61 aj.length al)).setCell ⟨ae, 2, none⟩ (.slice Ao62 ak.length am)) w.heap.size (fun k_ => some k_ ≠ (.slice Ao36 db.length dn : Value).ownBlock ∧ some k_ ≠ (.slice Ao50 ao.length aq : Value).ownBlock ∧ some k_ ≠ (.slice Ao61 aj.length al : Value).ownBlock) (.slice Ao38 dd.length dq) dd) := ⟨(by (with_reducible repeat (first | apply Kd.R_alloc | apply Kd.R_drewN | apply Kd.R_drew)); exact Kd.R_mono (rR_ (rR_ (rR_ (Kd.R_types HO669.out a8.out (by decide))))) (fun _ hk => ⟨hk.1.1.1.2, ⟨hk.1.1.2, hk.1.2⟩⟩))⟩
 have n3_ : Aside0 (Kd.S k69 69 (((df.setCell ⟨ae, 0, none⟩ (.int .i64 an)).setCell ⟨ae, 1, none⟩ (.slice Ao61 aj.length al)).setCell ⟨ae, 2, none⟩ (.slice Ao62 ak.length am)) w.heap.size (fun k_ => some k_ ≠ (.slice Ao37 dc.length dp : Value).ownBlock ∧ some k_ ≠ (.slice Ao51 ap.length ay : Value).ownBlock ∧ some k_ ≠ (.slice Ao62 ak.length am : Value).ownBlock) (.slice Ao39 de.length dr) de) := ⟨(by (with_reducible repeat (first | apply Kd.S_alloc | apply Kd.S_drewN | apply Kd.S_drew)); exact Kd.S_mono (rS_ (rS_ (rS_ (Kd.S_types HO672.out a8.out (by decide))))) (fun _ hk => ⟨hk.1.1.1.2, ⟨hk.1.1.2, hk.1.2⟩⟩))⟩
 have n4_ : Aside0 (Kd.R k53 53 (((df.setCell ⟨ae, 0, none⟩ (.int .i64 an)).setCell ⟨ae, 1, none⟩ (.slice Ao61 aj.length al)).setCell ⟨ae, 2, none⟩ (.slice Ao62 ak.length am)) w.heap.size (fun _ => True) v674 bp) := ⟨(by (with_reducible repeat (first | apply Kd.R_alloc | apply Kd.R_drewN | apply Kd.R_drew)); exact Kd.R_mono (rR_ (rR_ (rR_ (Kd.R_types HO675.out a8.out (by decide))))) (fun _ hk => trivial))⟩
 have n5_ : Aside0 (Kd.R (Kd.int .i64) 3 (((df.setCell ⟨ae, 0, none⟩ (.int .i64 an)).setCell ⟨ae, 1, none⟩ (.slice Ao61 aj.length al)).setCell ⟨ae, 2, none⟩ (.slice Ao62 ak.length am)) w.heap.size (fun k_ => some k_ ≠ (.slice Ao36 db.length dn : Value).ownBlock ∧ some k_ ≠ (.slice Ao38 dd.length dq : Value).ownBlock ∧ some k_ ≠ (.slice Ao61 aj.length al : Value).ownBlock) (.slice Ao50 ao.length aq) ao) := ⟨(by (with_reducible repeat (first | apply Kd.R_alloc | apply Kd.R_drewN | apply Kd.R_drew)); exact Kd.R_mono (rR_ (rR_ (rR_ (Kd.R_types HO679.out a8.out (by decide))))) (fun _ hk => ⟨hk.1.1.1.2, ⟨hk.1.1.2, hk.1.2⟩⟩))⟩
 have n6_ : Aside0 (Kd.S k69 69 (((df.setCell ⟨ae, 0, none⟩ (.int .i64 an)).setCell ⟨ae, 1, none⟩ (.slice Ao61 aj.length al)).setCell ⟨ae, 2, none⟩ (.slice Ao62 ak.length am)) w.heap.size (fun k_ => some k_ ≠ (.slice Ao37 dc.length dp : Value).ownBlock ∧ some k_ ≠ (.slice Ao39 de.length dr : Value).ownBlock ∧ some k_ ≠ (.slice Ao62 ak.length am : Value).ownBlock) (.slice Ao51 ap.length ay) ap) := ⟨(by (with_reducible repeat (first | apply Kd.S_alloc | apply Kd.S_drewN | apply Kd.S_drew)); exact Kd.S_mono (rS_ (rS_ (rS_ (Kd.S_types HO682.out a8.out (by decide))))) (fun _ hk => ⟨hk.1.1.1.2, ⟨hk.1.1.2, hk.1.2⟩⟩))⟩
 have n7_ : Aside0 (Kd.R (Kd.int .i64) 3 (((df.setCell ⟨ae, 0, none⟩ (.int .i64 an)).setCell ⟨ae, 1, none⟩ (.slice Ao61 aj.length al)).setCell ⟨ae, 2, none⟩ (.slice Ao62 ak.length am)) w.heap.size (fun k_ => some k_ ≠ (.slice Ao36 db.length dn : Value).ownBlock ∧ some k_ ≠ (.slice Ao38 dd.length dq : Value).ownBlock ∧ some k_ ≠ (.slice Ao50 ao.length aq : Value).ownBlock) (.slice Ao61 aj.length al) aj) := ⟨(by (with_reducible repeat (first | apply Kd.R_alloc | apply Kd.R_drewN | apply Kd.R_drew)); exact Kd.R_mono (rR_ (rR_ (rR_ (Kd.R_types HO687.out a8.out (by decide))))) (fun _ hk => ⟨hk.1.1.1.2, ⟨hk.1.1.2, hk.1.2⟩⟩))⟩
 have n8_ : Aside0 (Kd.S k69 69 (((df.setCell ⟨ae, 0, none⟩ (.int .i64 an)).setCell ⟨ae, 1, none⟩ (.slice Ao61 aj.length al)).setCell ⟨ae, 2, none⟩ (.slice Ao62 ak.length am)) w.heap.size (fun k_ => some k_ ≠ (.slice Ao37 dc.length dp : Value).ownBlock ∧ some k_ ≠ (.slice Ao39 de.length dr : Value).ownBlock ∧ some k_ ≠ (.slice Ao51 ap.length ay : Value).ownBlock) (.slice Ao62 ak.length am) ak) := ⟨(by (with_reducible repeat (first | apply Kd.S_alloc | apply Kd.S_drewN | apply Kd.S_drew)); exact Kd.S_mono (rS_ (rS_ (rS_ (Kd.S_types HO690.out a8.out (by decide))))) (fun _ hk => ⟨hk.1.1.1.2, ⟨hk.1.1.2, hk.1.2⟩⟩))⟩
 have n9_ : Aside0 ((((df.setCell ⟨ae, 0, none⟩ (.int .i64 an)).setCell ⟨ae, 1, none⟩ (.slice Ao61 aj.length al)).setCell ⟨ae, 2, none⟩ (.slice Ao62 ak.length am)).heap[ax]? = some (.cells #[.int .i64 b9, .int .i64 ba, .int .i64 bb, .int .i64 bc] 23 (0, 0))) := ⟨tb_⟩
 have n10_ : Aside0 ((((df.setCell ⟨ae, 0, none⟩ (.int .i64 an)).setCell ⟨ae, 1, none⟩ (.slice Ao61 aj.length al)).setCell ⟨ae, 2, none⟩ (.slice Ao62 ak.length am)).heap[b4]? = some (.cells #[.int .i64 az, .slice be ar.length bf, .slice bg au.length bh] 27 (0, 0))) := ⟨tb_⟩
 have n11_ : Aside0 ((((df.setCell ⟨ae, 0, none⟩ (.int .i64 an)).setCell ⟨ae, 1, none⟩ (.slice Ao61 aj.length al)).setCell ⟨ae, 2, none⟩ (.slice Ao62 ak.length am)).heap[b5]? = some (.cells #[.int .i64 b0, .slice bi av.length bj, .slice bl aw.length bm] 27 (0, 0))) := ⟨tb_⟩
 have n12_ : Aside0 ((((df.setCell ⟨ae, 0, none⟩ (.int .i64 an)).setCell ⟨ae, 1, none⟩ (.slice Ao61 aj.length al)).setCell ⟨ae, 2, none⟩ (.slice Ao62 ak.length am)).heap[b6]? = some (.cells #[.int .i64 bd, .slice Ao50 ao.length aq, .slice Ao51 ap.length ay] 35 (0, 0))) := ⟨tb_⟩
 have n13_ : Aside0 ((((df.setCell ⟨ae, 0, none⟩ (.int .i64 an)).setCell ⟨ae, 1, none⟩ (.slice Ao61 aj.length al)).setCell ⟨ae, 2, none⟩ (.slice Ao62 ak.length am)).heap[ae]? = some (.cells #[.int .i64 an, .slice Ao61 aj.length al, .slice Ao62 ak.length am] 35 (0, 0))) := ⟨tb_⟩
 have n14_ : Aside0 (Below w.heap.size w (((df.setCell ⟨ae, 0, none⟩ (.int .i64 an)).setCell ⟨ae, 1, none⟩ (.slice Ao61 aj.length al)).setCell ⟨ae, 2, none⟩ (.slice Ao62 ak.length am))) := ⟨th_⟩
 (try clear HO672)
 (try clear HO675)
 (try clear HO679)
 (try clear HO682)
 (try clear HO687)
 (try clear HO690)
 (try clear a5)
 (try clear a6)
 (try clear a7)
 (try clear BK683)
 (try clear a8)
 (try clear HB)
 generalize (((df.setCell ⟨ae, 0, none⟩ (.int .i64 an)).setCell ⟨ae, 1, none⟩ (.slice Ao61 aj.length al)).setCell ⟨ae, 2, none⟩ (.slice Ao62 ak.length am)) = ix at HA_ HG_ n0_ n1_ n2_ n3_ n4_ n5_ n6_ n7_ n8_ n9_ n10_ n11_ n12_ n13_ n14_ ⊢
 have HO662 := n0_
 have HO665 := n1_
 have HO669 := n2_
 have HO672 := n3_
 have HO675 := n4_
 have HO679 := n5_
 have HO682 := n6_
 have HO687 := n7_
 have HO690 := n8_
 have a5 := n9_
 have a6 := n10_
 have a7 := n11_
 have BK683 := n12_
 have a8 := n13_
 have HB := n14_
 clear n0_ n1_ n2_ n3_ n4_ n5_ n6_ n7_ n8_ n9_ n10_ n11_ n12_ n13_ n14_
 have HA2_ := Aside0.mk (Kd.S_drew HA_.out)
 have HG2_ := Aside0.mk (Kd.S_drew HG_.out)
 clear HA_ HG_
 have HA_ := HA2_
 have HG_ := HG2_
 clear HA2_ HG2_
 have z_ := p_ (Kd.R_drew HO662.out) <| p_ (Kd.S_drew HO665.out) <| p_ (Kd.R_drew HO669.out) <| p_ (Kd.S_drew HO672.out) <| p_ (Kd.R_drew HO675.out) <| p_ (Kd.R_drew HO679.out) <| p_ (Kd.S_drew HO682.out) <| p_ (Kd.R_drew HO687.out) <| p_ (Kd.S_drew HO690.out) <| dw5_ a5 a6 a7 BK683 a8 HB
 clear HO662 HO665 HO669 HO672 HO675 HO679 HO682 HO687 HO690 a5 a6 a7 BK683 a8 HB
 obtain ⟨HO662, HO665, HO669, HO672, HO675, HO679, HO682, HO687, HO690, a5, a6, a7, BK683, a8, HB⟩ := z_
 refine start_ (n := 7) (S := fun w' => w'.cell? ⟨ax, 0, none⟩ = some (.int .i64 b9) ∧ w'.cell? ⟨ax, 1, none⟩ = some (.int .i64 ba) ∧ w'.cell? ⟨ax, 2, none⟩ = some (.int .i64 bb) ∧ w'.cell? ⟨ax, 3, none⟩ = some (.int .i64 bc) ∧ w'.cell? ⟨b6, 0, none⟩ = some (.int .i64 bd) ∧ w'.cell? ⟨b6, 1, none⟩ = some (.slice Ao50 ao.length aq) ∧ w'.cell? ⟨b6, 2, none⟩ = some (.slice Ao51 ap.length ay) ∧ w'.cell? ⟨ae, 0, none⟩ = some (.int .i64 an) ∧ w'.cell? ⟨ae, 1, none⟩ = some (.slice Ao61 aj.length al) ∧ w'.cell? ⟨ae, 2, none⟩ = some (.slice Ao62 ak.length am)) (ds := []) #[false, false, false, false, false, false, false] (by kernel_rfl) rfl rfl (bc4_ a5.out (bc3_ BK683.out (bk3_ a8.out))) (fun hHeld => ?_)
 generalize ix.drew = jv at HA_ HG_ HO662 HO665 HO669 HO672 HO675 HO679 HO682 HO687 HO690 a5 a6 a7 BK683 a8 HB hHeld ⊢
 refine yq_ (i := 2) (N := some 42) #[false, false, true, false, false, false, false] (by kernel_rfl) ?_
 refine take_ (i := 0) (N := some 40) (v := ?_) (a' := ?_) #[true, false, true, false, false, false, false] rfl rfl (by kernel_rfl) (fun _ _ _ h => h) (Or.inl ⟨(by rfl), ?_⟩) hHeld ?_ ?_
 rotate_left
 ·rintro w' ⟨s0, s1, s2, s3, s4, s5, s6, s7, s8, s9⟩
  go_simp
  with_reducible rfl
 rotate_left
 ·simp only [Act.put, List.setIfInBounds_toArray, List.set_cons_zero, List.set_cons_succ, i64_w, i32_w]
  rfl
 refine take_ (i := 3) (N := some 43) (v := ?_) (a' := ?_) #[true, false, true, true, false, false, false] rfl rfl (by kernel_rfl) (fun _ _ _ h => h) (Or.inl ⟨(by rfl), ?_⟩) hHeld ?_ ?_
 rotate_left
 ·rintro w' ⟨s0, s1, s2, s3, s4, s5, s6, s7, s8, s9⟩
  go_simp
  with_reducible rfl
 rotate_left
 ·simp only [Act.put, List.setIfInBounds_toArray, List.set_cons_zero, List.set_cons_succ, i64_w, i32_w]
  rfl
 refine take_ (i := 4) (N := some 44) (v := ?_) (a' := ?_) #[true, false, true, true, true, false, false] rfl rfl (by kernel_rfl) (fun _ _ _ h => h) (Or.inl ⟨(by rfl), ?_⟩) hHeld ?_ ?_
 rotate_left
 ·rintro w' ⟨s0, s1, s2, s3, s4, s5, s6, s7, s8, s9⟩
  go_simp
  with_reducible rfl
 rotate_left
 ·simp only [Act.put, List.setIfInBounds_toArray, List.set_cons_zero, List.set_cons_succ, i64_w, i32_w]
  rfl
 refine one_ (i := 1) (N := some 41) #[true, true, true, true, true, false, false] rfl rfl (by kernel_rfl) (by decide) (fun K hK => ?_)
 refine goes_ Tryz.func7 (by kernel_rfl) rfl #[.agg #[.int .i64 b9, .int .i64 ba, .int .i64 bb, .int .i64 bc]] (by rfl) rfl rfl tq_0 ?_
 with_reducible refine (laws_toGeo.calls b9 ba bb bc en eo ep eq _ iu.out).mono ?_
 rintro e jw ⟨rfl, hb⟩
 refine ⟨_, rfl, ?_⟩
 have HA2_ := Aside0.mk (Kd.S_below (raS_ HA_) hb)
 have HG2_ := Aside0.mk (Kd.S_below (raS_ HG_) hb)
 clear HA_ HG_
 have HA_ := HA2_
 have HG_ := HG2_
 clear HA2_ HG2_
 have z_ := p_ (Kd.R_below (raR_ HO662) hb) <| p_ (Kd.S_below (raS_ HO665) hb) <| p_ (Kd.R_below (raR_ HO669) hb) <| p_ (Kd.S_below (raS_ HO672) hb) <| p_ (Kd.R_below (raR_ HO675) hb) <| p_ (Kd.R_below (raR_ HO679) hb) <| p_ (Kd.S_below (raS_ HO682) hb) <| p_ (Kd.R_below (raR_ HO687) hb) <| p_ (Kd.S_below (raS_ HO690) hb) <| bw5_ (kb_ a5) (kb_ a6) (kb_ a7) (kb_ BK683) (kb_ a8) th_ hb
 clear HO662 HO665 HO669 HO672 HO675 HO679 HO682 HO687 HO690 a5 a6 a7 BK683 a8 HB
 obtain ⟨HO662, HO665, HO669, HO672, HO675, HO679, HO682, HO687, HO690, a5, a6, a7, BK683, a8, HB⟩ := z_
 (try clear hb)
 refine hK.out _ _ (bc4_ a5.out (bc3_ BK683.out (bk3_ a8.out))) (fun hHeld => ?_)
 clear hK K
 refine nm_ (some 41) ?_
 refine one_ (i := 5) (N := some 45) #[true, true, true, true, true, true, false] rfl rfl (by kernel_rfl) (by decide) (fun K hK => ?_)
 refine goes_ Tryz.func16 (by kernel_rfl) rfl #[.agg #[.int .i64 en, .int .i64 eo, .int .i64 ep, .int .i64 eq], .int .i64 a1, .agg #[.int .i64 bd, .slice Ao50 ao.length aq, .slice Ao51 ap.length ay], .agg #[.int .i64 an, .slice Ao61 aj.length al, .slice Ao62 ak.length am]] (by rfl) rfl rfl tq_0 ?_
 with_reducible refine (impl_Changed.calls k en eo ep eq a1 bd _ _ ao _ _ ap an _ _ aj _ _ ak t696 _ ?side1 ?side2 ?side3 ?side4 ?side5 ?side6 ?side7 ?side8 iv.out).mono ?_
 (case side1 => exact tq_64)
 (case side2 => exact (Kd.R_reads' HO679.out).2.1)
 (case side3 => exact tq_60)
 (case side4 => exact (Kd.S_reads' HO682.out).2.1)
 (case side5 => exact tq_63)
 (case side6 => exact (Kd.R_reads' HO687.out).2.1)
 (case side7 => exact tq_59)
 (case side8 => exact (Kd.S_reads' HO690.out).2.1)
 rintro e jx ⟨v697, rfl, ho0, hb⟩
 refine ⟨_, rfl, ?_⟩
 have HA2_ := Aside0.mk (Kd.S_below (raS_ HA_) hb)
 have HG2_ := Aside0.mk (Kd.S_below (raS_ HG_) hb)
 clear HA_ HG_
 have HA_ := HA2_
 have HG_ := HG2_
 clear HA2_ HG2_
 have z_ := p_ (Kd.R_below (raR_ HO662) hb) <| p_ (Kd.S_below (raS_ HO665) hb) <| p_ (Kd.R_below (raR_ HO669) hb) <| p_ (Kd.S_below (raS_ HO672) hb) <| p_ (Kd.R_elder' (raR_ HO675) (Kd.R_base ho0) hb) <| p_ (Kd.R_below (raR_ HO679) hb) <| p_ (Kd.S_below (raS_ HO682) hb) <| p_ (Kd.R_below (raR_ HO687) hb) <| p_ (Kd.S_below (raS_ HO690) hb) <| p_ (Kd.R_lower (Kd.R_new' ho0 (Kd.R_lt (raR_ HO675))) (below_size th_)) <| bw5_ (kb_ a5) (kb_ a6) (kb_ a7) (kb_ BK683) (kb_ a8) th_ hb
 clear HO662 HO665 HO669 HO672 HO675 HO679 HO682 HO687 HO690 a5 a6 a7 BK683 a8 HB
 obtain ⟨HO662, HO665, HO669, HO672, HO675, HO679, HO682, HO687, HO690, HO698, a5, a6, a7, BK683, a8, HB⟩ := z_
 (try clear hb)
 (try clear ho0)
 refine hK.out _ _ (bc4_ a5.out (bc3_ BK683.out (bk3_ a8.out))) (fun hHeld => ?_)
 clear hK K
 refine nm_ (some 45) ?_
 refine yq_ (i := 6) (N := some 13) #[true, true, true, true, true, true, true] (by kernel_rfl) ?_
 refine done_ (by kernel_rfl) ?_
 obtain ⟨Ao67, cl, h9⟩ := Kd.R_slice HO698.out
 subst h9
 obtain ⟨Ao68, dk, hf⟩ := Kd.R_slice HO675.out
 subst hf
 go_upto_if 49 with (first | ((with_reducible refine gate_callee (f := 10) rfl ?_); refine goesL_ (some 48) rfl rfl Tryz.func10 (by kernel_rfl) rfl #[.slice Ao67 t696.length cl, .slice Ao68 bp.length dk] rfl tq_0 ?_; (with_reducible refine (laws_eqWriteS.calls k _ _ t696 _ _ bp fs _ ?side1 ?side2 ?side3 ?side4 iw.out).mono ?_); (case side1 => exact tq_62); (case side2 => exact (Kd.R_reads' HO698.out).2.1); (case side3 => exact tq_65); (case side4 => exact (Kd.R_reads' HO675.out).2.1); rintro e iy ⟨rfl, hb⟩; refine ⟨_, rfl, ?_⟩; have HA2_ := Aside0.mk (Kd.S_below (raS_ HA_) hb); have HG2_ := Aside0.mk (Kd.S_below (raS_ HG_) hb); clear HA_ HG_; have HA_ := HA2_; have HG_ := HG2_; clear HA2_ HG2_; have z_ := p_ (Kd.R_below (raR_ HO662) hb) <| p_ (Kd.S_below (raS_ HO665) hb) <| p_ (Kd.R_below (raR_ HO669) hb) <| p_ (Kd.S_below (raS_ HO672) hb) <| p_ (Kd.R_below (raR_ HO675) hb) <| p_ (Kd.R_below (raR_ HO679) hb) <| p_ (Kd.S_below (raS_ HO682) hb) <| p_ (Kd.R_below (raR_ HO687) hb) <| p_ (Kd.S_below (raS_ HO690) hb) <| p_ (Kd.R_below (raR_ HO698) hb) <| bw5_ (kb_ a5) (kb_ a6) (kb_ a7) (kb_ BK683) (kb_ a8) th_ hb; clear HO662 HO665 HO669 HO672 HO675 HO679 HO682 HO687 HO690 HO698 a5 a6 a7 BK683 a8 HB; obtain ⟨HO662, HO665, HO669, HO672, HO675, HO679, HO682, HO687, HO690, HO698, a5, a6, a7, BK683, a8, HB⟩ := z_; (try clear hb)))
 (try simp only [Act.put, List.setIfInBounds_toArray, List.set_cons_zero, List.set_cons_succ])
 (try clear bs bv bx ce br b7 ca cg bu b8 cc ci bw bz cb ck cd cf ch cj)
 (try clear fz)
 (try clear g6)
 (try clear g7)
 (try clear g8)
 (try clear fz)
 (try clear g6)
 (try clear g7)
 (try clear g8)
 have H := ft.out
 clear ft HO662 HO665 HO669 HO672
 have n_ := Aside0.mk (Kd.R_mono (ok' := (fun k_ => some k_ ≠ (.slice Ao61 aj.length al : Value).ownBlock)) HO679.out (fun k_ hk => hk.2.2))
 clear HO679
 have HO679 := n_
 clear n_
 have n_ := Aside0.mk (Kd.S_mono (ok' := (fun k_ => some k_ ≠ (.slice Ao62 ak.length am : Value).ownBlock)) HO682.out (fun k_ hk => hk.2.2))
 clear HO682
 have HO682 := n_
 clear n_
 have n_ := Aside0.mk (Kd.R_mono (ok' := (fun k_ => some k_ ≠ (.slice Ao50 ao.length aq : Value).ownBlock)) HO687.out (fun k_ hk => hk.2.2))
 clear HO687
 have HO687 := n_
 clear n_
 have n_ := Aside0.mk (Kd.S_mono (ok' := (fun k_ => some k_ ≠ (.slice Ao51 ap.length ay : Value).ownBlock)) HO690.out (fun k_ hk => hk.2.2))
 clear HO690
 have HO690 := n_
 clear n_
 by_cases g9 : fs = true
 rotate_left
 ·replace g9 := Bool.eq_false_iff.mpr g9
  subst g9
  rw [if_neg nf_] at H
  obtain rfl := Option.some.inj H
  go_wp2
  go_ret
  exact ⟨tq_1, th_⟩
 subst g9
 rw [if_pos rfl] at H
 obtain ⟨⟨er, es, et⟩, iz, H⟩ := bd_ H
 try dsimp -simprocs only at H
 obtain ⟨ga, j5, H⟩ := bd_ H
 have gb := Aside0.mk H
 clear H
 try go_wp2
 have HA2_ := Aside0.mk (Kd.S_drew HA_.out)
 have HG2_ := Aside0.mk (Kd.S_drew HG_.out)
 clear HA_ HG_
 have HA_ := HA2_
 have HG_ := HG2_
 clear HA2_ HG2_
 have z_ := p_ (Kd.R_drew HO675.out) <| p_ (Kd.R_drew HO679.out) <| p_ (Kd.S_drew HO682.out) <| p_ (Kd.R_drew HO687.out) <| p_ (Kd.S_drew HO690.out) <| p_ (Kd.R_drew HO698.out) <| dw5_ a5 a6 a7 BK683 a8 HB
 clear HO675 HO679 HO682 HO687 HO690 HO698 a5 a6 a7 BK683 a8 HB
 obtain ⟨HO675, HO679, HO682, HO687, HO690, HO698, a5, a6, a7, BK683, a8, HB⟩ := z_
 refine start_ (n := 5) (S := fun w' => w'.cell? ⟨b6, 0, none⟩ = some (.int .i64 bd) ∧ w'.cell? ⟨b6, 1, none⟩ = some (.slice Ao50 ao.length aq) ∧ w'.cell? ⟨b6, 2, none⟩ = some (.slice Ao51 ap.length ay) ∧ w'.cell? ⟨b4, 0, none⟩ = some (.int .i64 az) ∧ w'.cell? ⟨b4, 1, none⟩ = some (.slice be ar.length bf) ∧ w'.cell? ⟨b4, 2, none⟩ = some (.slice bg au.length bh)) (ds := []) #[false, false, false, false, false] (by kernel_rfl) rfl rfl (bc3_ BK683.out (bk3_ a6.out)) (fun hHeld => ?_)
 generalize iy.drew = jy at HA_ HG_ HO675 HO679 HO682 HO687 HO690 HO698 a5 a6 a7 BK683 a8 HB hHeld ⊢
 refine take_ (i := 0) (N := some 50) (v := ?_) (a' := ?_) #[true, false, false, false, false] rfl rfl (by kernel_rfl) (fun _ _ _ h => h) (Or.inl ⟨(by rfl), ?_⟩) hHeld ?_ ?_
 rotate_left
 ·rintro w' ⟨s0, s1, s2, s3, s4, s5⟩
  go_simp
  with_reducible rfl
 rotate_left
 ·simp only [Act.put, List.setIfInBounds_toArray, List.set_cons_zero, List.set_cons_succ, i64_w, i32_w]
  rfl
 refine take_ (i := 1) (N := some 51) (v := ?_) (a' := ?_) #[true, true, false, false, false] rfl rfl (by kernel_rfl) (fun _ _ _ h => h) (Or.inl ⟨(by rfl), ?_⟩) hHeld ?_ ?_
 rotate_left
 ·rintro w' ⟨s0, s1, s2, s3, s4, s5⟩
  go_simp
  with_reducible rfl
 rotate_left
 ·simp only [Act.put, List.setIfInBounds_toArray, List.set_cons_zero, List.set_cons_succ, i64_w, i32_w]
  rfl
 refine one_ (i := 2) (N := some 52) #[true, true, true, false, false] rfl rfl (by kernel_rfl) (by decide) (fun K hK => ?_)
 refine goes_ Tryz.func8 (by kernel_rfl) rfl #[.agg #[.int .i64 az, .slice be ar.length bf, .slice bg au.length bh]] (by rfl) rfl rfl tq_0 ?_
 with_reducible refine (laws_toPart.calls k az _ _ ar _ _ au er es et _ ?side1 ?side2 ?side3 ?side4 iz.out).mono ?_
 (case side1 => exact tq_6)
 (case side2 => exact d5.out)
 (case side3 => exact tq_7)
 (case side4 => exact d6.out)
 rintro e jz ⟨v702, v705, rfl, ho0, ho1, hb⟩
 refine ⟨_, rfl, ?_⟩
 have HA2_ := Aside0.mk (Kd.S_below (raS_ HA_) hb)
 have HG2_ := Aside0.mk (Kd.S_below (raS_ HG_) hb)
 clear HA_ HG_
 have HA_ := HA2_
 have HG_ := HG2_
 clear HA2_ HG2_
 have z_ := p_ (Kd.R_below (raR_ HO675) hb) <| p_ (Kd.R_elder' (raR_ HO679) (Kd.R_base ho0) hb) <| p_ (Kd.S_elder' (raS_ HO682) (Kd.S_base ho1) hb) <| p_ (Kd.R_elder' (raR_ HO687) (Kd.R_base ho0) hb) <| p_ (Kd.S_elder' (raS_ HO690) (Kd.S_base ho1) hb) <| p_ (Kd.R_below (raR_ HO698) hb) <| p_ (Kd.R_lower (Kd.R_new' (Kd.R_new' ho0 (Kd.R_lt (raR_ HO679))) (Kd.R_lt (raR_ HO687))) (below_size th_)) <| p_ (Kd.S_lower (Kd.S_new' (Kd.S_new' ho1 (Kd.S_lt (raS_ HO682))) (Kd.S_lt (raS_ HO690))) (below_size th_)) <| bw5_ (kb_ a5) (kb_ a6) (kb_ a7) (kb_ BK683) (kb_ a8) th_ hb
 clear HO675 HO679 HO682 HO687 HO690 HO698 a5 a6 a7 BK683 a8 HB
 obtain ⟨HO675, HO679, HO682, HO687, HO690, HO698, HO703, HO706, a5, a6, a7, BK683, a8, HB⟩ := z_
 (try clear hb)
 (try clear ho0)
 (try clear ho1)
 obtain ⟨Ao76, hh, gc⟩ := Kd.R_slice HO703.out
 (first | subst gc | (injection gc with f1_ f2_ f3_; have f4_ := f1_.symm; have f5_ := f3_.symm; clear f1_ f2_ f3_; subst f4_; subst f5_))
 obtain ⟨Ao77, hm, gd⟩ := Kd.S_slice HO706.out
 (first | subst gd | (injection gd with f1_ f2_ f3_; have f4_ := f1_.symm; have f5_ := f3_.symm; clear f1_ f2_ f3_; subst f4_; subst f5_))
 refine hK.out _ _ (bc3_ BK683.out (bk3_ a6.out)) (fun hHeld => ?_)
 clear hK K
 refine nm_ (some 52) ?_
 refine one_ (i := 3) (N := some 53) #[true, true, true, true, false] rfl rfl (by kernel_rfl) (by decide) (fun K hK => ?_)
 refine goes_ Tryz.func11 (by kernel_rfl) rfl #[.agg #[.int .i64 bd, .slice Ao50 ao.length aq, .slice Ao51 ap.length ay], .agg #[.int .i64 er, .slice Ao76 es.length hh, .slice Ao77 et.length hm]] (by rfl) rfl rfl tq_0 ?_
 with_reducible refine (laws_eqPart.calls k bd _ _ ao _ _ ap er _ _ es _ _ et ga _ ?side1 ?side2 ?side3 ?side4 ?side5 ?side6 ?side7 ?side8 j5.out).mono ?_
 (case side1 => exact tq_64)
 (case side2 => exact (Kd.R_reads' HO679.out).2.1)
 (case side3 => exact tq_60)
 (case side4 => exact (Kd.S_reads' HO682.out).2.1)
 (case side5 => repeat (first | exact (Kd.R_reads' HO703.out).2.2 | (with_reducible refine Kd.C_alloc ?_ _) | (with_reducible refine Kd.C_drewN ?_ _) | (with_reducible refine Kd.C_drew ?_)))
 (case side6 => exact (Kd.R_reads' HO703.out).2.1)
 (case side7 => repeat (first | exact (Kd.S_reads' HO706.out).2.2 | (with_reducible refine Kd.C_alloc ?_ _) | (with_reducible refine Kd.C_drewN ?_ _) | (with_reducible refine Kd.C_drew ?_)))
 (case side8 => exact (Kd.S_reads' HO706.out).2.1)
 rintro e j6 ⟨rfl, hb⟩
 refine ⟨_, rfl, ?_⟩
 have HA2_ := Aside0.mk (Kd.S_below (raS_ HA_) hb)
 have HG2_ := Aside0.mk (Kd.S_below (raS_ HG_) hb)
 clear HA_ HG_
 have HA_ := HA2_
 have HG_ := HG2_
 clear HA2_ HG2_
 have z_ := p_ (Kd.R_below (raR_ HO675) hb) <| p_ (Kd.R_below (raR_ HO679) hb) <| p_ (Kd.S_below (raS_ HO682) hb) <| p_ (Kd.R_below (raR_ HO687) hb) <| p_ (Kd.S_below (raS_ HO690) hb) <| p_ (Kd.R_below (raR_ HO698) hb) <| p_ (Kd.R_below (raR_ HO703) hb) <| p_ (Kd.S_below (raS_ HO706) hb) <| bw5_ (kb_ a5) (kb_ a6) (kb_ a7) (kb_ BK683) (kb_ a8) th_ hb
 clear HO675 HO679 HO682 HO687 HO690 HO698 HO703 HO706 a5 a6 a7 BK683 a8 HB
 obtain ⟨HO675, HO679, HO682, HO687, HO690, HO698, HO703, HO706, a5, a6, a7, BK683, a8, HB⟩ := z_
 (try clear hb)
 refine hK.out _ _ (bc3_ BK683.out (bk3_ a6.out)) (fun hHeld => ?_)
 clear hK K
 refine nm_ (some 53) ?_
 refine yq_ (i := 4) (N := some 54) #[true, true, true, true, true] (by kernel_rfl) ?_
 refine done_ (by kernel_rfl) ?_
 go_upto_if 54 with (fail)
 have H := gb.out
 clear gb
 have n_ := Aside0.mk (Kd.R_mono (ok' := (fun k_ => some k_ ≠ (.slice Ao61 aj.length al : Value).ownBlock)) HO679.out (fun k_ hk => hk.1))
 clear HO679
 have HO679 := n_
 clear n_
 have n_ := Aside0.mk (Kd.S_mono (ok' := (fun k_ => some k_ ≠ (.slice Ao62 ak.length am : Value).ownBlock)) HO682.out (fun k_ hk => hk.1))
 clear HO682
 have HO682 := n_
 clear n_
 have n_ := Aside0.mk (Kd.R_mono (ok' := (fun k_ => some k_ ≠ (.slice Ao50 ao.length aq : Value).ownBlock)) HO687.out (fun k_ hk => hk.1))
 clear HO687
 have HO687 := n_
 clear n_
 have n_ := Aside0.mk (Kd.S_mono (ok' := (fun k_ => some k_ ≠ (.slice Ao51 ap.length ay : Value).ownBlock)) HO690.out (fun k_ hk => hk.1))
 clear HO690
 have HO690 := n_
 clear n_ HO703 HO706
 by_cases ge : ga = true
 rotate_left
 ·replace ge := Bool.eq_false_iff.mpr ge
  subst ge
  rw [if_neg nf_] at H
  obtain rfl := Option.some.inj H
  go_wp2
  go_ret
  exact ⟨tq_1, th_⟩
 subst ge
 rw [if_pos rfl] at H
 obtain ⟨⟨eu, ev, ew⟩, j7, H⟩ := bd_ H
 try dsimp -simprocs only at H
 obtain ⟨gf, j8, H⟩ := bd_ H
 have gh := Aside0.mk H
 clear H
 try go_wp2
 have HA2_ := Aside0.mk (Kd.S_drew HA_.out)
 have HG2_ := Aside0.mk (Kd.S_drew HG_.out)
 clear HA_ HG_
 have HA_ := HA2_
 have HG_ := HG2_
 clear HA2_ HG2_
 have z_ := p_ (Kd.R_drew HO675.out) <| p_ (Kd.R_drew HO679.out) <| p_ (Kd.S_drew HO682.out) <| p_ (Kd.R_drew HO687.out) <| p_ (Kd.S_drew HO690.out) <| p_ (Kd.R_drew HO698.out) <| dw5_ a5 a6 a7 BK683 a8 HB
 clear HO675 HO679 HO682 HO687 HO690 HO698 a5 a6 a7 BK683 a8 HB
 obtain ⟨HO675, HO679, HO682, HO687, HO690, HO698, a5, a6, a7, BK683, a8, HB⟩ := z_
 refine start_ (n := 5) (S := fun w' => w'.cell? ⟨ae, 0, none⟩ = some (.int .i64 an) ∧ w'.cell? ⟨ae, 1, none⟩ = some (.slice Ao61 aj.length al) ∧ w'.cell? ⟨ae, 2, none⟩ = some (.slice Ao62 ak.length am) ∧ w'.cell? ⟨b5, 0, none⟩ = some (.int .i64 b0) ∧ w'.cell? ⟨b5, 1, none⟩ = some (.slice bi av.length bj) ∧ w'.cell? ⟨b5, 2, none⟩ = some (.slice bl aw.length bm)) (ds := []) #[false, false, false, false, false] (by kernel_rfl) rfl rfl (bc3_ a8.out (bk3_ a7.out)) (fun hHeld => ?_)
 generalize j6.drew = l3 at HA_ HG_ HO675 HO679 HO682 HO687 HO690 HO698 a5 a6 a7 BK683 a8 HB hHeld ⊢
 refine take_ (i := 0) (N := some 55) (v := ?_) (a' := ?_) #[true, false, false, false, false] rfl rfl (by kernel_rfl) (fun _ _ _ h => h) (Or.inl ⟨(by rfl), ?_⟩) hHeld ?_ ?_
 rotate_left
 ·rintro w' ⟨s0, s1, s2, s3, s4, s5⟩
  go_simp
  with_reducible rfl
 rotate_left
 ·simp only [Act.put, List.setIfInBounds_toArray, List.set_cons_zero, List.set_cons_succ, i64_w, i32_w]
  rfl
 refine take_ (i := 1) (N := some 56) (v := ?_) (a' := ?_) #[true, true, false, false, false] rfl rfl (by kernel_rfl) (fun _ _ _ h => h) (Or.inl ⟨(by rfl), ?_⟩) hHeld ?_ ?_
 rotate_left
 ·rintro w' ⟨s0, s1, s2, s3, s4, s5⟩
  go_simp
  with_reducible rfl
 rotate_left
 ·simp only [Act.put, List.setIfInBounds_toArray, List.set_cons_zero, List.set_cons_succ, i64_w, i32_w]
  rfl
 refine one_ (i := 2) (N := some 57) #[true, true, true, false, false] rfl rfl (by kernel_rfl) (by decide) (fun K hK => ?_)
 refine goes_ Tryz.func8 (by kernel_rfl) rfl #[.agg #[.int .i64 b0, .slice bi av.length bj, .slice bl aw.length bm]] (by rfl) rfl rfl tq_0 ?_
 with_reducible refine (laws_toPart.calls k b0 _ _ av _ _ aw eu ev ew _ ?side1 ?side2 ?side3 ?side4 j7.out).mono ?_
 (case side1 => exact tq_11)
 (case side2 => exact d7.out)
 (case side3 => exact tq_10)
 (case side4 => exact d8.out)
 rintro e l6 ⟨v710, v713, rfl, ho0, ho1, hb⟩
 refine ⟨_, rfl, ?_⟩
 have HA2_ := Aside0.mk (Kd.S_below (raS_ HA_) hb)
 have HG2_ := Aside0.mk (Kd.S_below (raS_ HG_) hb)
 clear HA_ HG_
 have HA_ := HA2_
 have HG_ := HG2_
 clear HA2_ HG2_
 have z_ := p_ (Kd.R_below (raR_ HO675) hb) <| p_ (Kd.R_elder' (raR_ HO679) (Kd.R_base ho0) hb) <| p_ (Kd.S_elder' (raS_ HO682) (Kd.S_base ho1) hb) <| p_ (Kd.R_elder' (raR_ HO687) (Kd.R_base ho0) hb) <| p_ (Kd.S_elder' (raS_ HO690) (Kd.S_base ho1) hb) <| p_ (Kd.R_below (raR_ HO698) hb) <| p_ (Kd.R_lower (Kd.R_new' (Kd.R_new' ho0 (Kd.R_lt (raR_ HO679))) (Kd.R_lt (raR_ HO687))) (below_size th_)) <| p_ (Kd.S_lower (Kd.S_new' (Kd.S_new' ho1 (Kd.S_lt (raS_ HO682))) (Kd.S_lt (raS_ HO690))) (below_size th_)) <| bw5_ (kb_ a5) (kb_ a6) (kb_ a7) (kb_ BK683) (kb_ a8) th_ hb
 clear HO675 HO679 HO682 HO687 HO690 HO698 a5 a6 a7 BK683 a8 HB
 obtain ⟨HO675, HO679, HO682, HO687, HO690, HO698, HO711, HO714, a5, a6, a7, BK683, a8, HB⟩ := z_
 (try clear hb)
 (try clear ho0)
 (try clear ho1)
 obtain ⟨Ao85, hu, gi⟩ := Kd.R_slice HO711.out
 (first | subst gi | (injection gi with f1_ f2_ f3_; have f4_ := f1_.symm; have f5_ := f3_.symm; clear f1_ f2_ f3_; subst f4_; subst f5_))
 obtain ⟨Ao86, i0, gj⟩ := Kd.S_slice HO714.out
 (first | subst gj | (injection gj with f1_ f2_ f3_; have f4_ := f1_.symm; have f5_ := f3_.symm; clear f1_ f2_ f3_; subst f4_; subst f5_))
 refine hK.out _ _ (bc3_ a8.out (bk3_ a7.out)) (fun hHeld => ?_)
 clear hK K
 refine nm_ (some 57) ?_
 refine one_ (i := 3) (N := some 58) #[true, true, true, true, false] rfl rfl (by kernel_rfl) (by decide) (fun K hK => ?_)
 refine goes_ Tryz.func11 (by kernel_rfl) rfl #[.agg #[.int .i64 an, .slice Ao61 aj.length al, .slice Ao62 ak.length am], .agg #[.int .i64 eu, .slice Ao85 ev.length hu, .slice Ao86 ew.length i0]] (by rfl) rfl rfl tq_0 ?_
 with_reducible refine (laws_eqPart.calls k an _ _ aj _ _ ak eu _ _ ev _ _ ew gf _ ?side1 ?side2 ?side3 ?side4 ?side5 ?side6 ?side7 ?side8 j8.out).mono ?_
 (case side1 => exact tq_63)
 (case side2 => exact (Kd.R_reads' HO687.out).2.1)
 (case side3 => exact tq_59)
 (case side4 => exact (Kd.S_reads' HO690.out).2.1)
 (case side5 => repeat (first | exact (Kd.R_reads' HO711.out).2.2 | (with_reducible refine Kd.C_alloc ?_ _) | (with_reducible refine Kd.C_drewN ?_ _) | (with_reducible refine Kd.C_drew ?_)))
 (case side6 => exact (Kd.R_reads' HO711.out).2.1)
 (case side7 => repeat (first | exact (Kd.S_reads' HO714.out).2.2 | (with_reducible refine Kd.C_alloc ?_ _) | (with_reducible refine Kd.C_drewN ?_ _) | (with_reducible refine Kd.C_drew ?_)))
 (case side8 => exact (Kd.S_reads' HO714.out).2.1)
 rintro e l7 ⟨rfl, hb⟩
 refine ⟨_, rfl, ?_⟩
 have HA2_ := Aside0.mk (Kd.S_below (raS_ HA_) hb)
 have HG2_ := Aside0.mk (Kd.S_below (raS_ HG_) hb)
 clear HA_ HG_
 have HA_ := HA2_
 have HG_ := HG2_
 clear HA2_ HG2_
 have z_ := p_ (Kd.R_below (raR_ HO675) hb) <| p_ (Kd.R_below (raR_ HO679) hb) <| p_ (Kd.S_below (raS_ HO682) hb) <| p_ (Kd.R_below (raR_ HO687) hb) <| p_ (Kd.S_below (raS_ HO690) hb) <| p_ (Kd.R_below (raR_ HO698) hb) <| p_ (Kd.R_below (raR_ HO711) hb) <| p_ (Kd.S_below (raS_ HO714) hb) <| bw5_ (kb_ a5) (kb_ a6) (kb_ a7) (kb_ BK683) (kb_ a8) th_ hb
 clear HO675 HO679 HO682 HO687 HO690 HO698 HO711 HO714 a5 a6 a7 BK683 a8 HB
 obtain ⟨HO675, HO679, HO682, HO687, HO690, HO698, HO711, HO714, a5, a6, a7, BK683, a8, HB⟩ := z_
 (try clear hb)
 refine hK.out _ _ (bc3_ a8.out (bk3_ a7.out)) (fun hHeld => ?_)
 clear hK K
 refine nm_ (some 58) ?_
 refine yq_ (i := 4) (N := some 59) #[true, true, true, true, true] (by kernel_rfl) ?_
 refine done_ (by kernel_rfl) ?_
 go_upto_if 59 with (fail)
 have H := gh.out
 clear gh
 have n_ := Aside0.mk (Kd.R_mono (ok' := (fun k_ => some k_ ≠ (.slice Ao61 aj.length al : Value).ownBlock)) HO679.out (fun k_ hk => hk.1))
 clear HO679
 have HO679 := n_
 clear n_
 have n_ := Aside0.mk (Kd.S_mono (ok' := (fun k_ => some k_ ≠ (.slice Ao62 ak.length am : Value).ownBlock)) HO682.out (fun k_ hk => hk.1))
 clear HO682
 have HO682 := n_
 clear n_
 have n_ := Aside0.mk (Kd.R_mono (ok' := (fun k_ => some k_ ≠ (.slice Ao50 ao.length aq : Value).ownBlock)) HO687.out (fun k_ hk => hk.1))
 clear HO687
 have HO687 := n_
 clear n_
 have n_ := Aside0.mk (Kd.S_mono (ok' := (fun k_ => some k_ ≠ (.slice Ao51 ap.length ay : Value).ownBlock)) HO690.out (fun k_ hk => hk.1))
 clear HO690
 have HO690 := n_
 clear n_ HO711 HO714
 by_cases gl : gf = true
 rotate_left
 ·replace gl := Bool.eq_false_iff.mpr gl
  subst gl
  rw [if_neg nf_] at H
  obtain rfl := Option.some.inj H
  go_wp2
  go_ret
  exact ⟨tq_1, th_⟩
 subst gl
 rw [if_pos rfl] at H
 obtain ⟨⟨ex, du, dv⟩, j9, H⟩ := bd_ H
 try dsimp -simprocs only at H
 obtain ⟨⟨gm, dw, dx⟩, ja, H⟩ := bd_ H
 try dsimp -simprocs only at H
 have ey := Aside0.mk H
 clear H
 obtain ⟨bw, bx, bz, ca, cb, cc, ck, cj⟩ := an8_ ct b1 cu b2 cv b3 d2 d3
 have dy := bb3_ BK683.out
 go_upto_region 21 with (first | ((with_reducible refine gate_callee (f := 12) rfl ?_); refine goesL_ (some 62) rfl rfl Tryz.func12 (by kernel_rfl) rfl #[.agg #[.int .i64 bd, .slice Ao50 ao.length aq, .slice Ao51 ap.length ay], .int .i64 1] rfl tq_0 ?_; have HY_ := Aside0.mk (Kd.S_mono (Kd.S_bound HG_.out) (fun k_ hk_ => And.intro hk_.2.1 hk_.2.2.1)); have hs3_ := Kd.S_bound HA_.out; (with_reducible refine (laws_markPart.calls k bd (fun k_ => some k_ = (.slice Ao50 ao.length aq : Value).ownBlock) (.slice Ao50 ao.length aq) ao _ (.slice Ao51 ap.length ay) ap 1 ex du dv w _ ?side1 ?side2 hs3_ j9.out).mono ?_); (case side1 => exact tq_28); (case side2 => exact Kd.R_tight rfl HO679.out); rintro e l8 ⟨rfl, hy0, hy1, hb, hkp⟩; refine ⟨_, rfl, ?_⟩; have HA2_ := Aside0.mk (offS hy1 hy0 (by decide)); have HG2_ := Aside0.mk (keepS HY_.out HO679.out (by decide) (fun k_ h_ h2_ => absurd h2_ (Nat.not_lt.mpr h_.1)) hkp); have n0_ := Aside0.mk (blk_kept (kb_ a5) hkp (fun hs_ => Or.elim hs_ (fun e_ => (fun e_ => (Kd.R_ne HO679.out a5.out (by decide)) e_) e_) (fun h_ => ty_no a5.out (by decide) h_.2.2.2))); have n1_ := Aside0.mk (blk_kept (kb_ a6) hkp (fun hs_ => Or.elim hs_ (fun e_ => (fun e_ => (Kd.R_ne HO679.out a6.out (by decide)) e_) e_) (fun h_ => ty_no a6.out (by decide) h_.2.2.2))); have n2_ := Aside0.mk (blk_kept (kb_ a7) hkp (fun hs_ => Or.elim hs_ (fun e_ => (fun e_ => (Kd.R_ne HO679.out a7.out (by decide)) e_) e_) (fun h_ => ty_no a7.out (by decide) h_.2.2.2))); have n3_ := Aside0.mk (Kd.R_mono (ok' := fun k_ => some k_ ≠ (.slice Ao67 t696.length cl : Value).ownBlock) (R_keptT rfl (Kd.R_apart' HO675.out (Kd.R_typed HO679.out) (by decide)) hkp (fun k_ e_ hs_ => hs_.elim (fun h_ => ((Kd.R_apart' HO675.out (Kd.R_typed HO679.out) (by decide)).1 k_ e_.symm).2 h_) (fun h_ => by obtain ⟨c_, hc_⟩ := Kd.R_typed HO675.out k_ e_.symm; exact ty_no hc_ (by decide) h_.2.2.2))) (fun k_ hk_ => tq_36)); have n4_ := Aside0.mk (Kd.R_reok rfl hy0 (fun k_ e_ => HO679.out.1 k_ e_)); have n5_ := Aside0.mk (Kd.S_mono (ok' := fun k_ => some k_ ≠ (.slice Ao62 ak.length am : Value).ownBlock) (offS hy1 hy0 (by decide)) (fun k_ h_ => neS HY_.out HA_.out (fun k_ h2_ h_ => (fun k_ h_ h2_ => absurd h2_ (Nat.not_lt.mpr h_.1)) k_ h_ h2_) k_ h_)); have n6_ := Aside0.mk (blk_kept (kb_ BK683) hkp (fun hs_ => Or.elim hs_ (fun e_ => (fun e_ => (Kd.R_ne HO679.out BK683.out (by decide)) e_) e_) (fun h_ => ty_no BK683.out (by decide) h_.2.2.2))); have n7_ := Aside0.mk (Kd.R_mono (ok' := fun k_ => some k_ ≠ (.slice Ao50 ao.length aq : Value).ownBlock) (R_keptT rfl HO687.out hkp (fun k_ e_ hs_ => hs_.elim (fun h_ => (by first | exact (HO687.out.1 k_ e_.symm) h_ | exact (HO687.out.1 k_ e_.symm).1 h_ | exact (HO687.out.1 k_ e_.symm).2 h_)) (fun h_ => by obtain ⟨c_, hc_⟩ := Kd.R_typed HO687.out k_ e_.symm; exact ty_no hc_ (by decide) h_.2.2.2))) (fun k_ hk_ => tq_36)); have n8_ := Aside0.mk (Kd.S_lower (Kd.S_mono (ok' := fun k_ => some k_ ≠ (.slice Ao51 ap.length ay : Value).ownBlock) (keepS HY_.out HO679.out (by decide) (fun k_ h_ h2_ => absurd h2_ (Nat.not_lt.mpr h_.1)) hkp) (fun k_ h_ => neT HA_.out ((fun k_ h_ h2_ => absurd h2_ (Nat.not_lt.mpr h_.1)) k_ h_))) HGL_.out); have n9_ := Aside0.mk (blk_kept (kb_ a8) hkp (fun hs_ => Or.elim hs_ (fun e_ => (fun e_ => (Kd.R_ne HO679.out a8.out (by decide)) e_) e_) (fun h_ => ty_no a8.out (by decide) h_.2.2.2))); have n10_ := Aside0.mk (Kd.R_mono (ok' := fun k_ => some k_ ≠ (.slice Ao68 bp.length dk : Value).ownBlock) (R_keptT rfl (Kd.R_apart' HO698.out (Kd.R_typed HO679.out) (by decide)) hkp (fun k_ e_ hs_ => hs_.elim (fun h_ => ((Kd.R_apart' HO698.out (Kd.R_typed HO679.out) (by decide)).1 k_ e_.symm).2 h_) (fun h_ => by obtain ⟨c_, hc_⟩ := Kd.R_typed HO698.out k_ e_.symm; exact ty_no hc_ (by decide) h_.2.2.2))) (fun k_ hk_ => tq_36)); have n11_ := Aside0.mk (hb); clear a5 a6 a7 HO675 HO679 HO682 BK683 HO687 HO690 a8 HO698 HB; have a5 := n0_; have a6 := n1_; have a7 := n2_; have HO675 := n3_; have HO679 := n4_; have HO682 := n5_; have BK683 := n6_; have HO687 := n7_; have HO690 := n8_; have a8 := n9_; have HO698 := n10_; have HB := n11_; clear HA_ HG_ HY_ hs3_; have HA_ := HA2_; have HG_ := HG2_; clear HA2_ HG2_; clear n0_ n1_ n2_ n3_ n4_ n5_ n6_ n7_ n8_ n9_ n10_ n11_; (try clear hb); (try clear hkp); (try clear hy0); (try clear hy1); obtain ⟨cd, ce, cf, cg, ch, ci⟩ := an6_ cx cw cz cy d1 d0; have dj := bb3_ a8.out) | ((with_reducible refine gate_callee (f := 12) rfl ?_); refine goesL_ (some 65) rfl rfl Tryz.func12 (by kernel_rfl) rfl #[.agg #[.int .i64 an, .slice Ao61 aj.length al, .slice Ao62 ak.length am], .int .i64 ex] rfl tq_0 ?_; have hs3_ := Kd.S_lower (Kd.S_bound HG_.out) HGL_.out; (with_reducible refine (laws_markPart.calls k an (fun k_ => some k_ = (.slice Ao61 aj.length al : Value).ownBlock) (.slice Ao61 aj.length al) aj _ (.slice Ao62 ak.length am) ak ex gm dw dx w _ ?side1 ?side2 hs3_ ja.out).mono ?_); (case side1 => exact tq_28); (case side2 => exact Kd.R_tight rfl HO687.out); rintro e jb ⟨rfl, hy0, hy1, hb, hkp⟩; refine ⟨_, rfl, ?_⟩; have n0_ := Aside0.mk (blk_kept (kb_ a5) hkp (fun hs_ => Or.elim hs_ (fun e_ => (fun e_ => (Kd.R_ne HO687.out a5.out (by decide)) e_) e_) (fun h_ => ty_no a5.out (by decide) h_.2.2.2))); have n1_ := Aside0.mk (blk_kept (kb_ a6) hkp (fun hs_ => Or.elim hs_ (fun e_ => (fun e_ => (Kd.R_ne HO687.out a6.out (by decide)) e_) e_) (fun h_ => ty_no a6.out (by decide) h_.2.2.2))); have n2_ := Aside0.mk (blk_kept (kb_ a7) hkp (fun hs_ => Or.elim hs_ (fun e_ => (fun e_ => (Kd.R_ne HO687.out a7.out (by decide)) e_) e_) (fun h_ => ty_no a7.out (by decide) h_.2.2.2))); have n3_ := Aside0.mk (Kd.R_mono (ok' := fun k_ => some k_ ≠ (.slice Ao67 t696.length cl : Value).ownBlock) (R_keptT rfl (Kd.R_apart' HO675.out (Kd.R_typed HO687.out) (by decide)) hkp (fun k_ e_ hs_ => hs_.elim (fun h_ => ((Kd.R_apart' HO675.out (Kd.R_typed HO687.out) (by decide)).1 k_ e_.symm).2 h_) (fun h_ => by obtain ⟨c_, hc_⟩ := Kd.R_typed HO675.out k_ e_.symm; exact ty_no hc_ (by decide) h_.2.2.2))) (fun k_ hk_ => tq_36)); have n4_ := Aside0.mk (Kd.R_mono (ok' := fun k_ => some k_ ≠ (.slice Ao61 aj.length al : Value).ownBlock) (R_keptT rfl HO679.out hkp (fun k_ e_ hs_ => hs_.elim (fun h_ => (by first | exact (HO679.out.1 k_ e_.symm) h_ | exact (HO679.out.1 k_ e_.symm).1 h_ | exact (HO679.out.1 k_ e_.symm).2 h_)) (fun h_ => by obtain ⟨c_, hc_⟩ := Kd.R_typed HO679.out k_ e_.symm; exact ty_no hc_ (by decide) h_.2.2.2))) (fun k_ hk_ => tq_36)); have n5_ := Aside0.mk (Kd.S_mono (ok' := fun k_ => some k_ ≠ (.slice Ao62 ak.length am : Value).ownBlock) (keepS HA_.out HO687.out (by decide) (fun k_ h_ h2_ => h_.elim (fun x_ => absurd x_ (Nat.not_lt.mpr h2_.1)) (fun x_ => absurd h2_.2 (Nat.not_lt.mpr x_))) hkp) (fun k_ h_ => neT HG_.out ((fun k_ h_ h2_ => h_.elim (fun x_ => absurd x_ (Nat.not_lt.mpr h2_.1)) (fun x_ => absurd h2_.2 (Nat.not_lt.mpr x_))) k_ h_))); have n6_ := Aside0.mk (blk_kept (kb_ BK683) hkp (fun hs_ => Or.elim hs_ (fun e_ => (fun e_ => (Kd.R_ne HO687.out BK683.out (by decide)) e_) e_) (fun h_ => ty_no BK683.out (by decide) h_.2.2.2))); have n7_ := Aside0.mk (Kd.R_reok rfl hy0 (fun k_ e_ => HO687.out.1 k_ e_)); have n8_ := Aside0.mk (Kd.S_mono (ok' := fun k_ => some k_ ≠ (.slice Ao51 ap.length ay : Value).ownBlock) (offS hy1 hy0 (by decide)) (fun k_ h_ => neS HA_.out HG_.out (fun k_ h2_ h_ => (fun k_ h_ h2_ => h_.elim (fun x_ => absurd x_ (Nat.not_lt.mpr h2_.1)) (fun x_ => absurd h2_.2 (Nat.not_lt.mpr x_))) k_ h_ h2_) k_ h_)); have n9_ := Aside0.mk (blk_kept (kb_ a8) hkp (fun hs_ => Or.elim hs_ (fun e_ => (fun e_ => (Kd.R_ne HO687.out a8.out (by decide)) e_) e_) (fun h_ => ty_no a8.out (by decide) h_.2.2.2))); have n10_ := Aside0.mk (Kd.R_mono (ok' := fun k_ => some k_ ≠ (.slice Ao68 bp.length dk : Value).ownBlock) (R_keptT rfl (Kd.R_apart' HO698.out (Kd.R_typed HO687.out) (by decide)) hkp (fun k_ e_ hs_ => hs_.elim (fun h_ => ((Kd.R_apart' HO698.out (Kd.R_typed HO687.out) (by decide)).1 k_ e_.symm).2 h_) (fun h_ => by obtain ⟨c_, hc_⟩ := Kd.R_typed HO698.out k_ e_.symm; exact ty_no hc_ (by decide) h_.2.2.2))) (fun k_ hk_ => tq_36)); have n11_ := Aside0.mk (hb); clear a5 a6 a7 HO675 HO679 HO682 BK683 HO687 HO690 a8 HO698 HB; have a5 := n0_; have a6 := n1_; have a7 := n2_; have HO675 := n3_; have HO679 := n4_; have HO682 := n5_; have BK683 := n6_; have HO687 := n7_; have HO690 := n8_; have a8 := n9_; have HO698 := n10_; have HB := n11_; clear HA_ HG_ HGL_ hs3_; clear n0_ n1_ n2_ n3_ n4_ n5_ n6_ n7_ n8_ n9_ n10_ n11_; (try clear hb); (try clear hkp); (try clear hy0); (try clear hy1)))
 (try simp only [Act.put, List.setIfInBounds_toArray, List.set_cons_zero, List.set_cons_succ])
 go_cut [73] (fun v73 wc => ∃ (kq : Nat) (d4 : Bool), v73 = .bool d4 ∧ Aside0 (laws_FnExactChanged.j0 kq a1 bp t696 d4 b9 ba bb bc az ar au b0 av aw = some r) ∧ Aside0 (kq ≤ k) ∧ Aside0 (Kd.R k53 53 wc w.heap.size (fun k_ => some k_ ≠ ((.slice Ao67 t696.length cl) : Value).ownBlock) (.slice Ao68 bp.length dk) bp) ∧ Aside0 (Kd.R k53 53 wc w.heap.size (fun k_ => some k_ ≠ ((.slice Ao68 bp.length dk) : Value).ownBlock) (.slice Ao67 t696.length cl) t696) ∧ Aside0 (Kd.R (Kd.int .i64) 3 wc w.heap.size (fun k_ => some k_ ≠ ((.slice Ao61 aj.length al) : Value).ownBlock) (.slice Ao50 ao.length aq) du) ∧ Aside0 (Kd.S k69 69 wc w.heap.size (fun k_ => some k_ ≠ ((.slice Ao62 ak.length am) : Value).ownBlock) (.slice Ao51 ap.length ay) dv) ∧ Aside0 (Kd.R (Kd.int .i64) 3 wc w.heap.size (fun k_ => some k_ ≠ ((.slice Ao50 ao.length aq) : Value).ownBlock) (.slice Ao61 aj.length al) dw) ∧ Aside0 (Kd.S k69 69 wc w.heap.size (fun k_ => some k_ ≠ ((.slice Ao51 ap.length ay) : Value).ownBlock) (.slice Ao62 ak.length am) dx) ∧ Aside0 (wc.heap[ax]? = some (.cells #[.int .i64 b9, .int .i64 ba, .int .i64 bb, .int .i64 bc] 23 (0, 0))) ∧ Aside0 (wc.heap[b4]? = some (.cells #[.int .i64 az, (.slice be ar.length bf), (.slice bg au.length bh)] 27 (0, 0))) ∧ Aside0 (wc.heap[b5]? = some (.cells #[.int .i64 b0, (.slice bi av.length bj), (.slice bl aw.length bm)] 27 (0, 0))) ∧ Aside0 (wc.heap[b6]? = some (.cells #[.int .i64 bd, (.slice Ao50 ao.length aq), (.slice Ao51 ap.length ay)] 35 (0, 0))) ∧ Aside0 (wc.heap[ae]? = some (.cells #[.int .i64 an, (.slice Ao61 aj.length al), (.slice Ao62 ak.length am)] 35 (0, 0))) ∧ Aside0 (Below w.heap.size w wc))
 case first =>
  have H := ey.out
  clear ey
  by_cases dg : gm < 0
  ·rw [if_pos dg] at H
   have bq := decide_eq_true dg
   clear dg
   (first | rw [bq] | (simp only [i64_w, i32_w]; rw [bq]) | skip)
   have H' := Aside0.mk H
   clear H
   go_wp2
   go_meet
   case rel => exact ⟨_, (true), tq_3, H', ⟨tq_18⟩, ⟨(raR_ HO675)⟩, ⟨(raR_ HO698)⟩, ⟨(raR_ HO679)⟩, ⟨(raS_ HO682)⟩, ⟨(raR_ HO687)⟩, ⟨(raS_ HO690)⟩, ⟨(kb_ a5)⟩, ⟨(kb_ a6)⟩, ⟨(kb_ a7)⟩, ⟨(kb_ BK683)⟩, ⟨(kb_ a8)⟩, ⟨th_⟩⟩
  rw [if_neg dg] at H
  have bq := decide_eq_false dg
  clear dg
  (first | rw [bq] | (simp only [i64_w, i32_w]; rw [bq]) | skip)
  obtain ⟨gn, i1, H⟩ := bd_ H
  have H' := Aside0.mk H
  clear H
  go_wp2_with (first | (go_at_call 10; (with_reducible refine (laws_eqWriteS.calls k _ _ t696 _ _ bp gn _ ?side1 ?side2 ?side3 ?side4 i1.out).mono ?_); (case side1 => exact tq_62); (case side2 => exact (Kd.R_reads' HO698.out).2.1); (case side3 => exact tq_65); (case side4 => exact (Kd.R_reads' HO675.out).2.1); rintro e jc ⟨rfl, hb⟩; have z_ := p_ (Kd.R_below (raR_ HO675) hb) <| p_ (Kd.R_below (raR_ HO679) hb) <| p_ (Kd.S_below (raS_ HO682) hb) <| p_ (Kd.R_below (raR_ HO687) hb) <| p_ (Kd.S_below (raS_ HO690) hb) <| p_ (Kd.R_below (raR_ HO698) hb) <| bw5_ (kb_ a5) (kb_ a6) (kb_ a7) (kb_ BK683) (kb_ a8) th_ hb; clear HO675 HO679 HO682 HO687 HO690 HO698 a5 a6 a7 BK683 a8 HB; obtain ⟨HO675, HO679, HO682, HO687, HO690, HO698, a5, a6, a7, BK683, a8, HB⟩ := z_; (try clear hb)))
  go_meet
  case rel => exact ⟨_, (!gn), tq_3, H', ⟨tq_18⟩, ⟨(raR_ HO675)⟩, ⟨(raR_ HO698)⟩, ⟨(raR_ HO679)⟩, ⟨(raS_ HO682)⟩, ⟨(raR_ HO687)⟩, ⟨(raS_ HO690)⟩, ⟨(kb_ a5)⟩, ⟨(kb_ a6)⟩, ⟨(kb_ a7)⟩, ⟨(kb_ BK683)⟩, ⟨(kb_ a8)⟩, ⟨th_⟩⟩
 case rest =>
 clear ey
 try clear c1; try clear c2; try clear p2; try clear c3; try clear c7; try clear c8; try clear c9; try clear l9; try clear la; try clear lc; try clear g9; try clear ge; try clear gl; try clear ld; try clear le; try clear lf; try clear lg; try clear lh; try clear li; try clear jd; try clear dg; try clear bq; try clear dj; try clear dy; try clear dj; try clear dy
 obtain ⟨kq, d4, rfl, HA, HJ90, HO_10, HO_13, a9, aa, ab, ac, a5, a6, a7, BK683, a8, HB⟩ := hcut
 have af := (Kd.R_reads' a9.out).1
 rw [af] at a9
 (try simp only [af])
 (try simp only [af] at a5)
 (try simp only [af] at a6)
 (try simp only [af] at a7)
 (try simp only [af] at BK683)
 (try simp only [af] at a8)
 (try simp only [af] at HO_10)
 (try simp only [af] at HO_13)
 (try simp only [af] at aa)
 (try simp only [af] at ab)
 (try simp only [af] at ac)
 have ag := (Kd.S_reads' aa.out).1
 rw [ag] at aa
 (try simp only [ag])
 (try simp only [ag] at a5)
 (try simp only [ag] at a6)
 (try simp only [ag] at a7)
 (try simp only [ag] at BK683)
 (try simp only [ag] at a8)
 (try simp only [ag] at HO_10)
 (try simp only [ag] at HO_13)
 (try simp only [ag] at a9)
 (try simp only [ag] at ab)
 (try simp only [ag] at ac)
 have ah := (Kd.R_reads' ab.out).1
 rw [ah] at ab
 (try simp only [ah])
 (try simp only [ah] at a5)
 (try simp only [ah] at a6)
 (try simp only [ah] at a7)
 (try simp only [ah] at BK683)
 (try simp only [ah] at a8)
 (try simp only [ah] at HO_10)
 (try simp only [ah] at HO_13)
 (try simp only [ah] at a9)
 (try simp only [ah] at aa)
 (try simp only [ah] at ac)
 have ai := (Kd.S_reads' ac.out).1
 rw [ai] at ac
 (try simp only [ai])
 (try simp only [ai] at a5)
 (try simp only [ai] at a6)
 (try simp only [ai] at a7)
 (try simp only [ai] at BK683)
 (try simp only [ai] at a8)
 (try simp only [ai] at HO_10)
 (try simp only [ai] at HO_13)
 (try simp only [ai] at a9)
 (try simp only [ai] at aa)
 (try simp only [ai] at ab)
 cases kq with
 | zero => exact absurd HA.out (by simp [laws_FnExactChanged.j0])
 | succ kj90 =>
 have H := HA.out
 clear HA
 simp only [laws_FnExactChanged.j0] at H
 by_cases dz : d4 = true
 ·subst dz
  rw [if_pos rfl] at H
  obtain rfl := Option.some.inj H
  go_wp2
  go_ret
  exact ⟨tq_1, th_⟩
 replace dz := Bool.eq_false_iff.mpr dz
 subst dz
 rw [if_neg nf_] at H
 obtain ⟨⟨ez, t724⟩, i2, H⟩ := bd_ H
 try dsimp -simprocs only at H
 obtain ⟨f7, i3, H⟩ := bd_ H
 have e9 := Aside0.mk H
 clear H
 go_upto_if 81 with (first | ((with_reducible refine gate_callee (f := 13) rfl ?_); refine goesL_ (some 76) rfl rfl Tryz.func13 (by kernel_rfl) rfl #[.slice Ao67 t696.length cl, .int .i64 1] rfl tq_0 ?_; (with_reducible refine (laws_markWriteS.calls kj90 (fun k_ => some k_ = (.slice Ao67 t696.length cl : Value).ownBlock) (.slice Ao67 t696.length cl) t696 1 ez t724 w _ ?side1 ?side2 i2.out).mono ?_); (case side1 => exact tq_28); (case side2 => exact Kd.R_tight rfl HO_13.out); rintro e je ⟨rfl, hy0, hb, hkp⟩; refine ⟨_, rfl, ?_⟩; have z_ := p_ (Kd.R_mono (ok' := fun k_ => some k_ ≠ (.slice Ao67 t696.length cl : Value).ownBlock) (Kd.R_keptB (HO_10.out) hkp (fun k_ hk_ hs_ => (hk_) hs_)) (fun k_ hk_ => hk_.1)) <| p_ (Kd.R_reok rfl hy0 (fun k_ e_ => HO_13.out.1 k_ e_)) <| p_ (Kd.R_mono (ok' := fun k_ => some k_ ≠ (.slice Ao61 dw.length al : Value).ownBlock) (Kd.R_keptB ((Kd.R_apart' a9.out (Kd.R_typed HO_13.out) (by decide))) hkp (fun k_ hk_ hs_ => (hk_.2) hs_)) (fun k_ hk_ => hk_.1.1)) <| p_ (Kd.S_mono (ok' := fun k_ => some k_ ≠ (.slice Ao62 dx.length am : Value).ownBlock) (Kd.S_keptB ((Kd.S_apart' aa.out (Kd.R_typed HO_13.out) (by decide))) hkp (fun k_ hk_ hs_ => (hk_.2) hs_)) (fun k_ hk_ => hk_.1.1)) <| p_ (Kd.R_mono (ok' := fun k_ => some k_ ≠ (.slice Ao50 du.length aq : Value).ownBlock) (Kd.R_keptB ((Kd.R_apart' ab.out (Kd.R_typed HO_13.out) (by decide))) hkp (fun k_ hk_ hs_ => (hk_.2) hs_)) (fun k_ hk_ => hk_.1.1)) <| p_ (Kd.S_mono (ok' := fun k_ => some k_ ≠ (.slice Ao51 dv.length ay : Value).ownBlock) (Kd.S_keptB ((Kd.S_apart' ac.out (Kd.R_typed HO_13.out) (by decide))) hkp (fun k_ hk_ hs_ => (hk_.2) hs_)) (fun k_ hk_ => hk_.1.1)) <| p_ (blk_kept (kb_ a5) hkp (fun hs_ => (fun e_ => (Kd.R_ne HO_13.out a5.out (by decide)) e_) hs_)) <| p_ (blk_kept (kb_ a6) hkp (fun hs_ => (fun e_ => (Kd.R_ne HO_13.out a6.out (by decide)) e_) hs_)) <| p_ (blk_kept (kb_ a7) hkp (fun hs_ => (fun e_ => (Kd.R_ne HO_13.out a7.out (by decide)) e_) hs_)) <| p_ (blk_kept (kb_ BK683) hkp (fun hs_ => (fun e_ => (Kd.R_ne HO_13.out BK683.out (by decide)) e_) hs_)) <| p_ (blk_kept (kb_ a8) hkp (fun hs_ => (fun e_ => (Kd.R_ne HO_13.out a8.out (by decide)) e_) hs_)) <| a_ (hb); clear HO_10 HO_13 a9 aa ab ac a5 a6 a7 BK683 a8 HB; obtain ⟨HO_10, HO_13, a9, aa, ab, ac, a5, a6, a7, BK683, a8, HB⟩ := z_; (try clear hb); (try clear hkp); (try clear hy0)) | ((with_reducible refine gate_callee (f := 14) rfl ?_); refine goesL_ (some 79) rfl rfl Tryz.func14 (by kernel_rfl) rfl #[.slice Ao67 t724.length cl, .int .i64 1] rfl tq_47 ?_; (with_reducible refine (laws_heldWriteS.calls kj90 _ _ t724 1 f7 _ ?side1 ?side2 i3.out).mono ?_); (case side1 => exact tq_61); (case side2 => rw [show t724.length = t696.length from (Kd.R_reads' HO_13.out).1.symm]; exact (Kd.R_reads' HO_13.out).2.1); rintro e i4 ⟨rfl, hb⟩; refine ⟨_, rfl, ?_⟩; have z_ := p_ (Kd.R_below (raR_ HO_10) hb) <| p_ (Kd.R_below (raR_ HO_13) hb) <| p_ (Kd.R_below (raR_ a9) hb) <| p_ (Kd.S_below (raS_ aa) hb) <| p_ (Kd.R_below (raR_ ab) hb) <| p_ (Kd.S_below (raS_ ac) hb) <| bw5_ (kb_ a5) (kb_ a6) (kb_ a7) (kb_ BK683) (kb_ a8) th_ hb; clear HO_10 HO_13 a9 aa ab ac a5 a6 a7 BK683 a8 HB; obtain ⟨HO_10, HO_13, a9, aa, ab, ac, a5, a6, a7, BK683, a8, HB⟩ := z_; (try clear hb)))
 (try simp only [Act.put, List.setIfInBounds_toArray, List.set_cons_zero, List.set_cons_succ])
 (try clear bx ce ca cg cc ci bw bz cb ck cd cf ch cj)
 (try clear dj)
 (try clear dy)
 (try clear dj)
 (try clear dy)
 have H := e9.out
 clear e9
 by_cases dl : f7 < 0
 ·rw [if_pos dl] at H
  have cm := decide_eq_true dl
  clear dl
  (first | rw [cm] | (simp only [i64_w, i32_w]; rw [cm]) | skip)
  obtain rfl := Option.some.inj H
  go_wp2
  go_ret
  exact ⟨tq_1, th_⟩
 rw [if_neg dl] at H
 have cm := decide_eq_false dl
 clear dl
 (first | rw [cm] | (simp only [i64_w, i32_w]; rw [cm]) | skip)
 by_cases dh : f7 = ez
 rotate_left
 ·rw [if_neg dh] at H
  have f8 := beq_eq_false_iff_ne.mpr dh
  have f9 := bne_iff_ne.mpr dh
  obtain rfl := Option.some.inj H
  go_wp2
  go_ret
  exact ⟨tq_1, th_⟩
 rw [if_pos dh] at H
 have f8 := beq_iff_eq.mpr dh
 have f9 := bne_eq_false_iff_eq.mpr dh
 clear dh
 obtain ⟨⟨fa, fb, fc, fd⟩, i5, H⟩ := bd_ H
 try dsimp -simprocs only at H
 obtain ⟨⟨fe, ff, fg⟩, i6, H⟩ := bd_ H
 try dsimp -simprocs only at H
 obtain ⟨⟨fh, fi, fj⟩, i7, H⟩ := bd_ H
 try dsimp -simprocs only at H
 obtain ⟨fk, i8, H⟩ := bd_ H
 obtain ⟨go, i9, H⟩ := bd_ H
 have ea := Aside0.mk H
 clear H
 try go_wp2
 have z_ := p_ (Kd.R_drew HO_10.out) <| p_ (Kd.R_drew HO_13.out) <| p_ (Kd.R_drew a9.out) <| p_ (Kd.S_drew aa.out) <| p_ (Kd.R_drew ab.out) <| p_ (Kd.S_drew ac.out) <| dw5_ a5 a6 a7 BK683 a8 HB
 clear HO_10 HO_13 a9 aa ab ac a5 a6 a7 BK683 a8 HB
 obtain ⟨HO_10, HO_13, a9, aa, ab, ac, a5, a6, a7, BK683, a8, HB⟩ := z_
 refine start_ (n := 9) (S := fun w' => w'.cell? ⟨ax, 0, none⟩ = some (.int .i64 b9) ∧ w'.cell? ⟨ax, 1, none⟩ = some (.int .i64 ba) ∧ w'.cell? ⟨ax, 2, none⟩ = some (.int .i64 bb) ∧ w'.cell? ⟨ax, 3, none⟩ = some (.int .i64 bc) ∧ w'.cell? ⟨b4, 0, none⟩ = some (.int .i64 az) ∧ w'.cell? ⟨b4, 1, none⟩ = some (.slice be ar.length bf) ∧ w'.cell? ⟨b4, 2, none⟩ = some (.slice bg au.length bh) ∧ w'.cell? ⟨b5, 0, none⟩ = some (.int .i64 b0) ∧ w'.cell? ⟨b5, 1, none⟩ = some (.slice bi av.length bj) ∧ w'.cell? ⟨b5, 2, none⟩ = some (.slice bl aw.length bm)) (ds := []) bq_61 (by kernel_rfl) rfl rfl (bc4_ a5.out (bc3_ a6.out (bk3_ a7.out))) (fun hHeld => ?_); refine with_tabW laws_FnExactChanged.tab31 laws_FnExactChanged.bits31 (fun HT_ HW_ => ?_)
 generalize i4.drew = jf at HO_10 HO_13 a9 aa ab ac a5 a6 a7 BK683 a8 HB hHeld ⊢
 refine yr_ 2 87 bq_134 HT_ ?_
 refine tr_ 0 85 bq_62 HT_ HW_ hHeld ?_
 refine tr_ 3 88 bq_135 HT_ HW_ hHeld ?_
 refine tr_ 5 90 bq_136 HT_ HW_ hHeld ?_
 refine one_ (i := 1) (N := some 86) bq_137 rfl rfl (one_of HT_.out (by kernel_rfl)) (by decide) (fun K hK => ?_)
 refine goes_ Tryz.func7 (by kernel_rfl) rfl #[.agg #[.int .i64 b9, .int .i64 ba, .int .i64 bb, .int .i64 bc]] (by rfl) rfl rfl tq_0 ?_
 with_reducible refine (laws_toGeo.calls b9 ba bb bc fa fb fc fd _ i5.out).mono ?_
 rintro e jg ⟨rfl, hb⟩
 refine ⟨_, rfl, ?_⟩
 have z_ := p_ (Kd.R_below (raR_ HO_10) hb) <| p_ (Kd.R_below (raR_ HO_13) hb) <| p_ (Kd.R_below (raR_ a9) hb) <| p_ (Kd.S_below (raS_ aa) hb) <| p_ (Kd.R_below (raR_ ab) hb) <| p_ (Kd.S_below (raS_ ac) hb) <| bw5_ (kb_ a5) (kb_ a6) (kb_ a7) (kb_ BK683) (kb_ a8) th_ hb
 clear HO_10 HO_13 a9 aa ab ac a5 a6 a7 BK683 a8 HB
 obtain ⟨HO_10, HO_13, a9, aa, ab, ac, a5, a6, a7, BK683, a8, HB⟩ := z_
 (try clear hb)
 refine hK.out _ _ (bc4_ a5.out (bc3_ a6.out (bk3_ a7.out))) (fun hHeld => ?_)
 clear hK K
 refine nm_ (some 86) ?_
 refine one_ (i := 4) (N := some 89) bq_138 rfl rfl (one_of HT_.out (by kernel_rfl)) (by decide) (fun K hK => ?_)
 refine goes_ Tryz.func8 (by kernel_rfl) rfl #[.agg #[.int .i64 az, .slice be ar.length bf, .slice bg au.length bh]] (by rfl) rfl rfl tq_0 ?_
 with_reducible refine (laws_toPart.calls kj90 az _ _ ar _ _ au fe ff fg _ ?side1 ?side2 ?side3 ?side4 i6.out).mono ?_
 (case side1 => exact tq_6)
 (case side2 => exact d5.out)
 (case side3 => exact tq_7)
 (case side4 => exact d6.out)
 rintro e jh ⟨v732, v735, rfl, ho0, ho1, hb⟩
 refine ⟨_, rfl, ?_⟩
 have z_ := p_ (Kd.R_below (raR_ HO_10) hb) <| p_ (Kd.R_below (raR_ HO_13) hb) <| p_ (Kd.R_elder' (raR_ a9) (Kd.R_base ho0) hb) <| p_ (Kd.S_elder' (raS_ aa) (Kd.S_base ho1) hb) <| p_ (Kd.R_elder' (raR_ ab) (Kd.R_base ho0) hb) <| p_ (Kd.S_elder' (raS_ ac) (Kd.S_base ho1) hb) <| p_ (Kd.R_lower (Kd.R_new' (Kd.R_new' ho0 (Kd.R_lt (raR_ a9))) (Kd.R_lt (raR_ ab))) (below_size th_)) <| p_ (Kd.S_lower (Kd.S_new' (Kd.S_new' ho1 (Kd.S_lt (raS_ aa))) (Kd.S_lt (raS_ ac))) (below_size th_)) <| bw5_ (kb_ a5) (kb_ a6) (kb_ a7) (kb_ BK683) (kb_ a8) th_ hb
 clear HO_10 HO_13 a9 aa ab ac a5 a6 a7 BK683 a8 HB
 obtain ⟨HO_10, HO_13, a9, aa, ab, ac, HO733, HO736, a5, a6, a7, BK683, a8, HB⟩ := z_
 (try clear hb)
 (try clear ho0)
 (try clear ho1)
 refine hK.out _ _ (bc4_ a5.out (bc3_ a6.out (bk3_ a7.out))) (fun hHeld => ?_)
 clear hK K
 refine nm_ (some 89) ?_
 refine one_ (i := 6) (N := some 91) bq_63 rfl rfl (one_of HT_.out (by kernel_rfl)) (by decide) (fun K hK => ?_)
 refine goes_ Tryz.func8 (by kernel_rfl) rfl #[.agg #[.int .i64 b0, .slice bi av.length bj, .slice bl aw.length bm]] (by rfl) rfl rfl tq_0 ?_
 with_reducible refine (laws_toPart.calls kj90 b0 _ _ av _ _ aw fh fi fj _ ?side1 ?side2 ?side3 ?side4 i7.out).mono ?_
 (case side1 => exact tq_11)
 (case side2 => exact d7.out)
 (case side3 => exact tq_10)
 (case side4 => exact d8.out)
 rintro e ji ⟨v739, v742, rfl, ho0, ho1, hb⟩
 refine ⟨_, rfl, ?_⟩
 have z_ := p_ (Kd.R_below (raR_ HO_10) hb) <| p_ (Kd.R_below (raR_ HO_13) hb) <| p_ (Kd.R_elder' (raR_ a9) (Kd.R_base ho0) hb) <| p_ (Kd.S_elder' (raS_ aa) (Kd.S_base ho1) hb) <| p_ (Kd.R_elder' (raR_ ab) (Kd.R_base ho0) hb) <| p_ (Kd.S_elder' (raS_ ac) (Kd.S_base ho1) hb) <| p_ (Kd.R_elder' (raR_ HO733) (Kd.R_base ho0) hb) <| p_ (Kd.S_elder' (raS_ HO736) (Kd.S_base ho1) hb) <| p_ (Kd.R_lower (Kd.R_new' (Kd.R_new' (Kd.R_new' ho0 (Kd.R_lt (raR_ a9))) (Kd.R_lt (raR_ ab))) (Kd.R_lt (raR_ HO733))) (below_size th_)) <| p_ (Kd.S_lower (Kd.S_new' (Kd.S_new' (Kd.S_new' ho1 (Kd.S_lt (raS_ aa))) (Kd.S_lt (raS_ ac))) (Kd.S_lt (raS_ HO736))) (below_size th_)) <| bw5_ (kb_ a5) (kb_ a6) (kb_ a7) (kb_ BK683) (kb_ a8) th_ hb
 clear HO_10 HO_13 a9 aa ab ac HO733 HO736 a5 a6 a7 BK683 a8 HB
 obtain ⟨HO_10, HO_13, a9, aa, ab, ac, HO733, HO736, HO740, HO743, a5, a6, a7, BK683, a8, HB⟩ := z_
 (try clear hb)
 (try clear ho0)
 (try clear ho1)
 obtain ⟨Ao124, gp, eb⟩ := Kd.R_slice HO733.out
 (first | subst eb | (injection eb with f1_ f2_ f3_; have f4_ := f1_.symm; have f5_ := f3_.symm; clear f1_ f2_ f3_; subst f4_; subst f5_))
 obtain ⟨Ao125, gq, ec⟩ := Kd.S_slice HO736.out
 (first | subst ec | (injection ec with f1_ f2_ f3_; have f4_ := f1_.symm; have f5_ := f3_.symm; clear f1_ f2_ f3_; subst f4_; subst f5_))
 obtain ⟨Ao126, gr, ed⟩ := Kd.R_slice HO740.out
 (first | subst ed | (injection ed with f1_ f2_ f3_; have f4_ := f1_.symm; have f5_ := f3_.symm; clear f1_ f2_ f3_; subst f4_; subst f5_))
 obtain ⟨Ao127, gs, ee⟩ := Kd.S_slice HO743.out
 (first | subst ee | (injection ee with f1_ f2_ f3_; have f4_ := f1_.symm; have f5_ := f3_.symm; clear f1_ f2_ f3_; subst f4_; subst f5_))
 refine hK.out _ _ (bc4_ a5.out (bc3_ a6.out (bk3_ a7.out))) (fun hHeld => ?_)
 clear hK K
 refine nm_ (some 91) ?_
 refine one_ (i := 7) (N := some 92) bq_64 rfl rfl (one_of HT_.out (by kernel_rfl)) (by decide) (fun K hK => ?_)
 refine goes_ Tryz.func16 (by kernel_rfl) rfl #[.agg #[.int .i64 fa, .int .i64 fb, .int .i64 fc, .int .i64 fd], .int .i64 a1, .agg #[.int .i64 fe, .slice Ao124 ff.length gp, .slice Ao125 fg.length gq], .agg #[.int .i64 fh, .slice Ao126 fi.length gr, .slice Ao127 fj.length gs]] (by rfl) rfl rfl tq_0 ?_
 with_reducible refine (impl_Changed.calls kj90 fa fb fc fd a1 fe _ _ ff _ _ fg fh _ _ fi _ _ fj fk _ ?side1 ?side2 ?side3 ?side4 ?side5 ?side6 ?side7 ?side8 i8.out).mono ?_
 (case side1 => repeat (first | exact (Kd.R_reads' HO733.out).2.2 | (with_reducible refine Kd.C_alloc ?_ _) | (with_reducible refine Kd.C_drewN ?_ _) | (with_reducible refine Kd.C_drew ?_)))
 (case side2 => exact (Kd.R_reads' HO733.out).2.1)
 (case side3 => repeat (first | exact (Kd.S_reads' HO736.out).2.2 | (with_reducible refine Kd.C_alloc ?_ _) | (with_reducible refine Kd.C_drewN ?_ _) | (with_reducible refine Kd.C_drew ?_)))
 (case side4 => exact (Kd.S_reads' HO736.out).2.1)
 (case side5 => repeat (first | exact (Kd.R_reads' HO740.out).2.2 | (with_reducible refine Kd.C_alloc ?_ _) | (with_reducible refine Kd.C_drewN ?_ _) | (with_reducible refine Kd.C_drew ?_)))
 (case side6 => exact (Kd.R_reads' HO740.out).2.1)
 (case side7 => repeat (first | exact (Kd.S_reads' HO743.out).2.2 | (with_reducible refine Kd.C_alloc ?_ _) | (with_reducible refine Kd.C_drewN ?_ _) | (with_reducible refine Kd.C_drew ?_)))
 (case side8 => exact (Kd.S_reads' HO743.out).2.1)
 rintro e jj ⟨v745, rfl, ho0, hb⟩
 refine ⟨_, rfl, ?_⟩
 have z_ := p_ (Kd.R_elder' (raR_ HO_10) (Kd.R_base ho0) hb) <| p_ (Kd.R_elder' (raR_ HO_13) (Kd.R_base ho0) hb) <| p_ (Kd.R_below (raR_ a9) hb) <| p_ (Kd.S_below (raS_ aa) hb) <| p_ (Kd.R_below (raR_ ab) hb) <| p_ (Kd.S_below (raS_ ac) hb) <| p_ (Kd.R_below (raR_ HO733) hb) <| p_ (Kd.S_below (raS_ HO736) hb) <| p_ (Kd.R_below (raR_ HO740) hb) <| p_ (Kd.S_below (raS_ HO743) hb) <| p_ (Kd.R_lower (Kd.R_new' (Kd.R_new' ho0 (Kd.R_lt (raR_ HO_10))) (Kd.R_lt (raR_ HO_13))) (below_size th_)) <| bw5_ (kb_ a5) (kb_ a6) (kb_ a7) (kb_ BK683) (kb_ a8) th_ hb
 clear HO_10 HO_13 a9 aa ab ac HO733 HO736 HO740 HO743 a5 a6 a7 BK683 a8 HB
 obtain ⟨HO_10, HO_13, a9, aa, ab, ac, HO733, HO736, HO740, HO743, HO746, a5, a6, a7, BK683, a8, HB⟩ := z_
 (try clear hb)
 (try clear ho0)
 refine hK.out _ _ (bc4_ a5.out (bc3_ a6.out (bk3_ a7.out))) (fun hHeld => ?_)
 clear hK K
 refine nm_ (some 92) ?_
 refine yr_ 8 17 bq_65 HT_ ?_
 refine done_ (done_of HT_.out (by kernel_rfl)) ?_
 obtain ⟨Ao129, gt, gu⟩ := Kd.R_slice HO746.out
 subst gu
 go_upto_if 96 with (first | ((with_reducible refine gate_callee (f := 10) rfl ?_); refine goesL_ (some 95) rfl rfl Tryz.func10 (by kernel_rfl) rfl #[.slice Ao129 fk.length gt, .slice Ao68 bp.length dk] rfl tq_0 ?_; (with_reducible refine (laws_eqWriteS.calls kj90 _ _ fk _ _ bp go _ ?side1 ?side2 ?side3 ?side4 i9.out).mono ?_); (case side1 => repeat (first | exact (Kd.R_reads' HO746.out).2.2 | (with_reducible refine Kd.C_alloc ?_ _) | (with_reducible refine Kd.C_drewN ?_ _) | (with_reducible refine Kd.C_drew ?_))); (case side2 => exact (Kd.R_reads' HO746.out).2.1); (case side3 => repeat (first | exact (Kd.R_reads' HO_10.out).2.2 | (with_reducible refine Kd.C_alloc ?_ _) | (with_reducible refine Kd.C_drewN ?_ _) | (with_reducible refine Kd.C_drew ?_))); (case side4 => exact (Kd.R_reads' HO_10.out).2.1); rintro e jk ⟨rfl, hb⟩; refine ⟨_, rfl, ?_⟩; have z_ := p_ (Kd.R_below (raR_ HO_10) hb) <| p_ (Kd.R_below (raR_ HO_13) hb) <| p_ (Kd.R_below (raR_ a9) hb) <| p_ (Kd.S_below (raS_ aa) hb) <| p_ (Kd.R_below (raR_ ab) hb) <| p_ (Kd.S_below (raS_ ac) hb) <| p_ (Kd.R_below (raR_ HO733) hb) <| p_ (Kd.S_below (raS_ HO736) hb) <| p_ (Kd.R_below (raR_ HO740) hb) <| p_ (Kd.S_below (raS_ HO743) hb) <| p_ (Kd.R_below (raR_ HO746) hb) <| bw5_ (kb_ a5) (kb_ a6) (kb_ a7) (kb_ BK683) (kb_ a8) th_ hb; clear HO_10 HO_13 a9 aa ab ac HO733 HO736 HO740 HO743 HO746 a5 a6 a7 BK683 a8 HB; obtain ⟨HO_10, HO_13, a9, aa, ab, ac, HO733, HO736, HO740, HO743, HO746, a5, a6, a7, BK683, a8, HB⟩ := z_; (try clear hb)))
 (try simp only [Act.put, List.setIfInBounds_toArray, List.set_cons_zero, List.set_cons_succ])
 have H := ea.out
 clear ea HO_10
 have n_ := Aside0.mk (Kd.R_mono (ok' := (fun _ => True)) HO_13.out (fun k_ hk => trivial))
 clear HO_13
 have HO_13 := n_
 clear n_
 have n_ := Aside0.mk (Kd.R_mono (ok' := (fun k_ => some k_ ≠ (.slice Ao61 dw.length al : Value).ownBlock)) a9.out (fun k_ hk => hk.1.1))
 clear a9
 have a9 := n_
 clear n_
 have n_ := Aside0.mk (Kd.S_mono (ok' := (fun k_ => some k_ ≠ (.slice Ao62 dx.length am : Value).ownBlock)) aa.out (fun k_ hk => hk.1.1))
 clear aa
 have aa := n_
 clear n_
 have n_ := Aside0.mk (Kd.R_mono (ok' := (fun k_ => some k_ ≠ (.slice Ao50 du.length aq : Value).ownBlock)) ab.out (fun k_ hk => hk.1.1))
 clear ab
 have ab := n_
 clear n_
 have n_ := Aside0.mk (Kd.S_mono (ok' := (fun k_ => some k_ ≠ (.slice Ao51 dv.length ay : Value).ownBlock)) ac.out (fun k_ hk => hk.1.1))
 clear ac
 have ac := n_
 clear n_ HO733 HO736 HO740 HO743 HO746
 by_cases e0 : go = true
 rotate_left
 ·replace e0 := Bool.eq_false_iff.mpr e0
  subst e0
  rw [if_neg nf_] at H
  obtain rfl := Option.some.inj H
  go_wp2
  go_ret
  exact ⟨tq_1, th_⟩
 subst e0
 rw [if_pos rfl] at H
 obtain ⟨fl, ia, H⟩ := bd_ H
 have ef := Aside0.mk H
 clear H
 go_upto_if 101 with (first | ((with_reducible refine gate_callee (f := 14) rfl ?_); refine goesL_ (some 99) rfl rfl Tryz.func14 (by kernel_rfl) rfl #[.slice Ao67 t724.length cl, .int .i64 1] rfl tq_47 ?_; (with_reducible refine (laws_heldWriteS.calls kj90 _ _ t724 1 fl _ ?side1 ?side2 ia.out).mono ?_); (case side1 => exact tq_61); (case side2 => rw [show t724.length = t696.length from (Kd.R_reads' HO_13.out).1.symm]; exact (Kd.R_reads' HO_13.out).2.1); rintro e jl ⟨rfl, hb⟩; refine ⟨_, rfl, ?_⟩; have z_ := p_ (Kd.R_below (raR_ HO_13) hb) <| p_ (Kd.R_below (raR_ a9) hb) <| p_ (Kd.S_below (raS_ aa) hb) <| p_ (Kd.R_below (raR_ ab) hb) <| p_ (Kd.S_below (raS_ ac) hb) <| bw5_ (kb_ a5) (kb_ a6) (kb_ a7) (kb_ BK683) (kb_ a8) th_ hb; clear HO_13 a9 aa ab ac a5 a6 a7 BK683 a8 HB; obtain ⟨HO_13, a9, aa, ab, ac, a5, a6, a7, BK683, a8, HB⟩ := z_; (try clear hb); (try clear hk)))
 (try simp only [Act.put, List.setIfInBounds_toArray, List.set_cons_zero, List.set_cons_succ])
 have H := ef.out
 clear ef HO_13
 by_cases dm : fl < 0
 ·rw [if_pos dm] at H
  have cn := decide_eq_true dm
  clear dm
  (first | rw [cn] | (simp only [i64_w, i32_w]; rw [cn]) | skip)
  obtain rfl := Option.some.inj H
  go_wp2
  go_ret
  exact ⟨tq_1, th_⟩
 rw [if_neg dm] at H
 have cn := decide_eq_false dm
 clear dm
 (first | rw [cn] | (simp only [i64_w, i32_w]; rw [cn]) | skip)
 by_cases di : fl = ez
 rotate_left
 ·rw [if_neg di] at H
  have fm := beq_eq_false_iff_ne.mpr di
  have fn := bne_iff_ne.mpr di
  obtain rfl := Option.some.inj H
  go_wp2
  go_ret
  exact ⟨tq_1, th_⟩
 rw [if_pos di] at H
 have fm := beq_iff_eq.mpr di
 have fn := bne_eq_false_iff_eq.mpr di
 clear di
 obtain rfl := Option.some.inj H
 go_wp2
 go_ret
 exact ⟨tq_1, th_⟩

end Go.Proofs.YtleoknilacjakaaGreat.PFnExactChanged
