/- Contracts of Go functions: each call returns what the Lean function beside it computes. Conditions: as each theorem states them. -/
import Derived.Test.YtleoknilacjakaaGreatPkFnExactChanged
import Derived.Test.YtleoknilacjakaaGreatPFnExactChangedx1
import Derived.Test.YtleoknilacjakaaGreatPFnExactChangedx8
import Derived.Test.YtleoknilacjakaaGreatPFnExactChangedx10
import Derived.Test.YtleoknilacjakaaGreatPFnExactChangedx12
namespace Go.Proofs.YtleoknilacjakaaGreat.PFnExactChanged
open Go.RowKit Go.Proofs.YtleoknilacjakaaGreatW.PrintWords Go.Proofs.YtleoknilacjakaaGreatW.PrintLast Go.Proofs.YtleoknilacjakaaGreatW.PrintMore
attribute [local go_sem] max2_int min2_int max_two min_two max_three min_three max_four min_four   -- for this text's walks alone
set_option linter.unusedVariables false
set_option linter.unusedSimpArgs false

/-! ### spec_PartOk: function 19 -/
mutual
def spec_PartOk.j0 : Nat → Bool → Int → Int → Int → Int → Int → List Int → List (S69) → Option (Bool)
 | 0, _, _, _, _, _, _, _, _ => none
 | k + 1, ac, a5, a6, a7, a8, a9, aa, ab => if ac = true then (some false) else (spec_PartOk.l0 k 0 0 a5 a6 a7 a8 a9 aa ab)
def spec_PartOk.l0 : Nat → Int → Int → Int → Int → Int → Int → Int → List Int → List (S69) → Option (Bool)
 | 0, _, _, _, _, _, _, _, _, _ => none
 | k + 1, x5, x6, a7, a8, a9, aa, ab, a6, a5 => if x6 < (a5.length : Int) then (if 0 ≤ x6 then ((spec_InodeOk.f k ((rd_T69 a5 x6).f0) ((rd_T69 a5 x6).f1) ((rd_T69 a5 x6).f2) ((rd_T69 a5 x6).f3) ((rd_T69 a5 x6).f4) ((rd_T69 a5 x6).f5)).bind fun ac => (if ac = true then (if x6 = 0 then (spec_PartOk.j2 k x5 x6 1 true a7 a8 a9 aa ab a6 a5 ((rd_T69 a5 x6).f0) ((rd_T69 a5 x6).f1) ((rd_T69 a5 x6).f2) ((rd_T69 a5 x6).f3) ((rd_T69 a5 x6).f4) ((rd_T69 a5 x6).f5)) else (spec_PartOk.j2 k x5 x6 1 (((rd_T69 a5 x6).f0) == 0) a7 a8 a9 aa ab a6 a5 ((rd_T69 a5 x6).f0) ((rd_T69 a5 x6).f1) ((rd_T69 a5 x6).f2) ((rd_T69 a5 x6).f3) ((rd_T69 a5 x6).f4) ((rd_T69 a5 x6).f5))) else (some false))) else (none)) else ((spec_PagesWith.f k a6 2).bind fun ae => (spec_PartOk.l2 k x5 ae 0 a7 a8 a9 aa ab a6 a5))
def spec_PartOk.j2 : Nat → Int → Int → Int → Bool → Int → Int → Int → Int → Int → List Int → List (S69) → Int → Int → Int → ByteArray → List (S89) → List (S72) → Option (Bool)
 | 0, _, _, _, _, _, _, _, _, _, _, _, _, _, _, _, _, _ => none
 | k + 1, x5, x6, x8, aj, a5, a6, a7, a8, a9, aa, ab, ac, ae, af, ag, ah, ai => if aj = true then (spec_PartOk.j3 k x5 x6 0 a5 a6 a7 a8 a9 aa ab ac ae af ag ah ai) else (spec_PartOk.j3 k x5 x6 x8 a5 a6 a7 a8 a9 aa ab ac ae af ag ah ai)
def spec_PartOk.j3 : Nat → Int → Int → Int → Int → Int → Int → Int → Int → List Int → List (S69) → Int → Int → Int → ByteArray → List (S89) → List (S72) → Option (Bool)
 | 0, _, _, _, _, _, _, _, _, _, _, _, _, _, _, _, _ => none
 | k + 1, x5, x6, x8, a8, a9, aa, ab, a5, a6, a7, ac, ae, af, ag, ah, ai => (spec_LinksTo.f k a5 a6 a7 x6).bind fun aj => (if aj = x8 then (if x8 = 1 then ((spec_DepthOf.f k a5 a6 a7 x6).bind fun ak => (spec_PartOk.j4 k x5 x6 (decide (ak < 0)) a8 a9 aa ab a5 a6 a7 ac ae af ag ah ai)) else (spec_PartOk.j4 k x5 x6 false a8 a9 aa ab a5 a6 a7 ac ae af ag ah ai)) else (spec_PartOk.j4 k x5 x6 true a8 a9 aa ab a5 a6 a7 ac ae af ag ah ai))
def spec_PartOk.j4 : Nat → Int → Int → Bool → Int → Int → Int → Int → Int → List Int → List (S69) → Int → Int → Int → ByteArray → List (S89) → List (S72) → Option (Bool)
 | 0, _, _, _, _, _, _, _, _, _, _, _, _, _, _, _, _ => none
 | k + 1, x5, x6, aj, a5, a6, a7, a8, a9, aa, ab, ac, ae, af, ag, ah, ai => if aj = true then (some false) else (spec_PartOk.l1 k x5 x6 0 a5 a6 a7 a8 a9 aa ab ac ae af ag ah ai)
def spec_PartOk.l1 : Nat → Int → Int → Int → Int → Int → Int → Int → Int → List Int → List (S69) → Int → Int → Int → ByteArray → List (S89) → List (S72) → Option (Bool)
 | 0, _, _, _, _, _, _, _, _, _, _, _, _, _, _, _, _ => none
 | k + 1, x5, x6, x9, a7, a8, a5, a9, aa, ab, ac, af, ag, ah, ai, ae, a6 => if x9 < (a6.length : Int) then (if 0 ≤ x9 then (if ((rd_T72 a6 x9).f0) ≥ a5 then (some false) else (spec_PartOk.l1 k x5 x6 (wrap64 (x9 + 1)) a7 a8 a5 a9 aa ab ac af ag ah ai ae a6)) else (none)) else (spec_PartOk.l0 k (wrap64 (x5 + (ae.length : Int))) (wrap64 (x6 + 1)) a7 a8 a5 a9 aa ab ac)
def spec_PartOk.l2 : Nat → Int → List Int → Int → Int → Int → Int → Int → Int → List Int → List (S69) → Option (Bool)
 | 0, _, _, _, _, _, _, _, _, _, _ => none
 | k + 1, x5, ac, ae, a9, aa, ab, a5, a6, a7, a8 => if ae < (ac.length : Int) then (if 0 ≤ ae then ((spec_UsersOf.f k a6 a7 a8 (rd ac ae)).bind fun af => (if af = 1 then (spec_PartOk.l2 k x5 ac (wrap64 (ae + 1)) a9 aa ab a5 a6 a7 a8) else (some false))) else (none)) else (if (ac.length : Int) = x5 then (some (decide ((ac.length : Int) ≤ a5))) else (some false))
end
def spec_PartOk.f (k : Nat) (aa : Int) (a6 : Int) (a7 : Int) (ab : Int) (a8 : Int) (a9 : List Int) (a5 : List (S69)) : Option (Bool) := (spec_GeoOk.f aa a6 a7 ab).bind fun ac => (if ac = true then ((spec_l01In.f a8 0 16777215).bind fun ae => (if ae = true then ((spec_StatesOk.f k a9 a6).bind fun af => (if af = true then (if (a5.length : Int) = a7 then (if 0 < (a5.length : Int) then (if ((rd_T69 a5 0).f0) = 2 then ((spec_LinksTo.f k a8 a9 a5 0).bind fun ag => (spec_PartOk.j0 k (decide (ag > 0)) aa a6 a7 ab a8 a9 a5)) else (spec_PartOk.j0 k true aa a6 a7 ab a8 a9 a5)) else (none)) else (spec_PartOk.j0 k true aa a6 a7 ab a8 a9 a5)) else (spec_PartOk.j0 k true aa a6 a7 ab a8 a9 a5))) else (spec_PartOk.j0 k true aa a6 a7 ab a8 a9 a5))) else (spec_PartOk.j0 k true aa a6 a7 ab a8 a9 a5))
def spec_PartOk.T18 : Bool × List (List Nat × List Nat) := (true, [([], []), ([0], [0]), ([], []), ([1, 2], [1, 2]), ([3], [3]), ([4], [4]), ([], []), ([6], [6]), ([5, 7], [5, 7])])
def spec_PartOk.B18 : List Nat := [0, 1, 0, 7, 15, 31, 0, 64, 255]
theorem spec_PartOk.tab18 : rtab .any (opsOf Tryz.f19 18) = spec_PartOk.T18 := by kernel_rfl
theorem spec_PartOk.bits18 : waitsOk spec_PartOk.T18.2 spec_PartOk.B18 = true := by kernel_rfl
set_option maxHeartbeats 8000000 in
set_option maxRecDepth 100000 in
theorem spec_PartOk.calls (k : Nat) (ar : Int) (ao : Int) (aq : Int) (au : Int) (ap : Int) (b7 : Option Addr) (b8 : Nat) (ag : List Int) (d7 : Option Addr) (bj : Nat) (a7 : List (S69)) (r : Bool) (w : World) (ee : Kd.C (Kd.int .i64) w b7 ag.length ag) (ef : ag.length ≤ b8) (eh : Kd.C k69 w d7 a7.length a7) (ei : a7.length ≤ bj) (h : spec_PartOk.f k ar ao aq au ap ag a7 = some r) :
  Calls Tryz.prog 19 #[.agg #[.int .i64 ar, .int .i64 ao, .int .i64 aq, .int .i64 au], .agg #[.int .i64 ap, .slice b7 ag.length b8, .slice d7 a7.length bj]] w fun e w' => e = .returned (.bool r) ∧ Below w.heap.size w w' := by
 have hu31 := Tryz.underlying31
 have hu35 := Tryz.underlying35
 have hu69 := Tryz.underlying69
 have HR1_1 := Aside0.mk ee
 have b9 := Aside0.mk ef
 clear ee ef
 have HR1_2 := Aside0.mk eh
 have d0 := Aside0.mk ei
 clear eh ei
 have HB := Aside0.mk (Below.refl w.heap.size w)
 unfold spec_PartOk.f at h
 have H := h
 clear h
 have gf := Aside0.mk H
 clear H
 go_enter Tryz.func19, Tryz.ntmps19
 go_upto_region 1 with (first | ((with_reducible refine gate_dst (N := 2) rfl ?_); (try (refine gate_guard (by rfl) ?_; dsimp only)); refine be_ 2 (cs := #[.int .i64 ar, .int .i64 ao, .int .i64 aq, .int .i64 au]) 31 ?_; intro b4 hg w4 hbox hb; have z_ := bx0_ th_ hb hbox hg; clear HB; obtain ⟨HB, a5, gs, gt⟩ := z_; clear hb hbox hg) | ((with_reducible refine gate_dst (N := 3) rfl ?_); (try (refine gate_guard (by rfl) ?_; dsimp only)); refine be_ 3 (cs := #[.int .i64 ap, .slice b7 ag.length b8, .slice d7 a7.length bj]) 35 ?_; intro ba hg w5 hbox hb; have z_ := bx1_ (kb_ a5) th_ hb hbox hg; clear a5 HB; obtain ⟨a5, HB, a6, gu, gv, aa, ab⟩ := z_; clear hb hbox hg))
 (try simp only [Act.put, List.setIfInBounds_toArray, List.set_cons_zero, List.set_cons_succ])
 go_cut [49] (fun v49 wc => ∃ (kq : Nat) (dc : Bool), v49 = .bool dc ∧ Aside0 (spec_PartOk.j0 kq dc ar ao aq au ap ag a7 = some r) ∧ Aside0 (kq ≤ k) ∧ Aside0 (wc.heap[b4]? = some (.cells #[.int .i64 ar, .int .i64 ao, .int .i64 aq, .int .i64 au] 31 (0, 0))) ∧ Aside0 (wc.heap[ba]? = some (.cells #[.int .i64 ap, (.slice b7 ag.length b8), (.slice d7 a7.length bj)] 35 (0, 0))) ∧ Aside0 (Below w.heap.size w wc))
 case first =>
  have H := gf.out
  clear gf
  obtain ⟨gh, A6, H⟩ := bd_ H
  by_cases c7 : gh = true
  rotate_left
  ·replace c7 := Bool.eq_false_iff.mpr c7
   subst c7
   rw [if_neg nf_] at H
   have H' := Aside0.mk H
   clear H
   obtain ⟨ae, af⟩ := an2_ aa ab
   have bo := bb4_ a5.out
   go_wp2_with (first | ((with_reducible refine gate_callee (f := 35) rfl ?_); refine goesL_ (some 13) rfl rfl Tryz.func35 (by kernel_rfl) rfl #[.agg #[.int .i64 ar, .int .i64 ao, .int .i64 aq, .int .i64 au]] rfl tq_0 ?_; (with_reducible refine (spec_GeoOk.calls ar ao aq au false _ A6.out).mono ?_); rintro e i9 ⟨rfl, hb⟩; refine ⟨_, rfl, ?_⟩; have z_ := bw2_ (kb_ a5) (kb_ a6) th_ hb; clear a5 a6 HB; obtain ⟨a5, a6, HB⟩ := z_; (try clear hb)))
   go_meet
   case rel => exact ⟨_, (true), tq_3, H', ⟨tq_18⟩, ⟨(kb_ a5)⟩, ⟨(kb_ a6)⟩, ⟨th_⟩⟩
  subst c7
  rw [if_pos rfl] at H
  obtain ⟨gi, A8, H⟩ := bd_ H
  by_cases c9 : gi = true
  rotate_left
  ·replace c9 := Bool.eq_false_iff.mpr c9
   subst c9
   rw [if_neg nf_] at H
   have H' := Aside0.mk H
   clear H
   obtain ⟨ae, af⟩ := an2_ aa ab
   have bp := bb4_ a5.out
   go_wp2_with (first | ((with_reducible refine gate_callee (f := 35) rfl ?_); refine goesL_ (some 13) rfl rfl Tryz.func35 (by kernel_rfl) rfl #[.agg #[.int .i64 ar, .int .i64 ao, .int .i64 aq, .int .i64 au]] rfl tq_0 ?_; (with_reducible refine (spec_GeoOk.calls ar ao aq au true _ A6.out).mono ?_); rintro e ia ⟨rfl, hb⟩; refine ⟨_, rfl, ?_⟩; have z_ := bw2_ (kb_ a5) (kb_ a6) th_ hb; clear a5 a6 HB; obtain ⟨a5, a6, HB⟩ := z_; (try clear hb); have bq := bb3_ a6.out) | (go_at_call 36; (with_reducible refine (spec_l01In.calls ap 0 16777215 false _ A8.out).mono ?_); rintro e w' ⟨rfl, ⟨nd, rfl⟩⟩))
   go_meet
   case rel => exact ⟨_, (true), tq_3, H', ⟨tq_18⟩, ⟨(kb_ a5)⟩, ⟨(kb_ a6)⟩, ⟨th_⟩⟩
  subst c9
  rw [if_pos rfl] at H
  obtain ⟨gj, fz, H⟩ := bd_ H
  by_cases dy : gj = true
  rotate_left
  ·replace dy := Bool.eq_false_iff.mpr dy
   subst dy
   rw [if_neg nf_] at H
   have H' := Aside0.mk H
   clear H
   obtain ⟨ae, af⟩ := an2_ aa ab
   have br := bb4_ a5.out
   go_wp2_with (first | ((with_reducible refine gate_callee (f := 35) rfl ?_); refine goesL_ (some 13) rfl rfl Tryz.func35 (by kernel_rfl) rfl #[.agg #[.int .i64 ar, .int .i64 ao, .int .i64 aq, .int .i64 au]] rfl tq_0 ?_; (with_reducible refine (spec_GeoOk.calls ar ao aq au true _ A6.out).mono ?_); rintro e ib ⟨rfl, hb⟩; refine ⟨_, rfl, ?_⟩; have z_ := bw2_ (kb_ a5) (kb_ a6) th_ hb; clear a5 a6 HB; obtain ⟨a5, a6, HB⟩ := z_; (try clear hb); have bs := bb3_ a6.out) | (go_at_call 36; (with_reducible refine (spec_l01In.calls ap 0 16777215 true _ A8.out).mono ?_); rintro e w' ⟨rfl, ⟨nd, rfl⟩⟩; have bu := bb4_ a5.out) | (go_at_call 37; (with_reducible refine (spec_StatesOk.calls k _ _ ag ao false _ ?side1 ?side2 fz.out).mono ?_); (case side1 => exact tq_16); (case side2 => exact b9.out); rintro e w' ⟨rfl, ⟨nd, rfl⟩⟩))
   go_meet
   case rel => exact ⟨_, (true), tq_3, H', ⟨tq_18⟩, ⟨(kb_ a5)⟩, ⟨(kb_ a6)⟩, ⟨th_⟩⟩
  subst dy
  rw [if_pos rfl] at H
  by_cases dd : (a7.length : Int) = aq
  rotate_left
  ·rw [if_neg dd] at H
   have b5 := beq_eq_false_iff_ne.mpr dd
   have cl := bne_iff_ne.mpr dd
   (first | rw [b5] | (simp only [i64_w, i32_w]; rw [b5]) | skip)
   have H' := Aside0.mk H
   clear H
   obtain ⟨ae, af⟩ := an2_ aa ab
   have bv := bb4_ a5.out
   go_wp2_with (first | ((with_reducible refine gate_callee (f := 35) rfl ?_); refine goesL_ (some 13) rfl rfl Tryz.func35 (by kernel_rfl) rfl #[.agg #[.int .i64 ar, .int .i64 ao, .int .i64 aq, .int .i64 au]] rfl tq_0 ?_; (with_reducible refine (spec_GeoOk.calls ar ao aq au true _ A6.out).mono ?_); rintro e ic ⟨rfl, hb⟩; refine ⟨_, rfl, ?_⟩; have z_ := bw2_ (kb_ a5) (kb_ a6) th_ hb; clear a5 a6 HB; obtain ⟨a5, a6, HB⟩ := z_; (try clear hb); have bw := bb3_ a6.out) | (go_at_call 36; (with_reducible refine (spec_l01In.calls ap 0 16777215 true _ A8.out).mono ?_); rintro e w' ⟨rfl, ⟨nd, rfl⟩⟩; have bx := bb4_ a5.out) | (go_at_call 37; (with_reducible refine (spec_StatesOk.calls k _ _ ag ao true _ ?side1 ?side2 fz.out).mono ?_); (case side1 => exact tq_16); (case side2 => exact b9.out); rintro e w' ⟨rfl, ⟨nd, rfl⟩⟩))
   go_meet
   case rel => exact ⟨_, (true), tq_3, H', ⟨tq_18⟩, ⟨(kb_ a5)⟩, ⟨(kb_ a6)⟩, ⟨th_⟩⟩
  rw [if_pos dd] at H
  have b5 := beq_iff_eq.mpr dd
  have cl := bne_eq_false_iff_eq.mpr dd
  clear dd
  (first | rw [b5] | (simp only [i64_w, i32_w]; rw [b5]) | skip)
  obtain ⟨e4, H⟩ := fc_ H
  have ct := decide_eq_true e4
  have cu : decide (0 < a7.length) = true := decide_eq_true (by omega)
  clear e4
  by_cases de : ((rd_T69 a7 0).f0) = 2
  rotate_left
  ·rw [if_neg de] at H
   have cm := beq_eq_false_iff_ne.mpr de
   have cn := bne_iff_ne.mpr de
   have H' := Aside0.mk H
   clear H
   obtain ⟨ae, af⟩ := an2_ aa ab
   have bz := bb4_ a5.out
   go_wp2_with (first | ((with_reducible refine gate_callee (f := 35) rfl ?_); refine goesL_ (some 13) rfl rfl Tryz.func35 (by kernel_rfl) rfl #[.agg #[.int .i64 ar, .int .i64 ao, .int .i64 aq, .int .i64 au]] rfl tq_0 ?_; (with_reducible refine (spec_GeoOk.calls ar ao aq au true _ A6.out).mono ?_); rintro e id ⟨rfl, hb⟩; refine ⟨_, rfl, ?_⟩; have z_ := bw2_ (kb_ a5) (kb_ a6) th_ hb; clear a5 a6 HB; obtain ⟨a5, a6, HB⟩ := z_; (try clear hb); have ca := bb3_ a6.out) | (go_at_call 36; (with_reducible refine (spec_l01In.calls ap 0 16777215 true _ A8.out).mono ?_); rintro e w' ⟨rfl, ⟨nd, rfl⟩⟩; have cb := bb4_ a5.out) | (go_at_call 37; (with_reducible refine (spec_StatesOk.calls k _ _ ag ao true _ ?side1 ?side2 fz.out).mono ?_); (case side1 => exact tq_16); (case side2 => exact b9.out); rintro e w' ⟨rfl, ⟨nd, rfl⟩⟩; have p308 : 0 ≤ (0 : Int) := (by omega); have q308 : 0 < (a7.length : Int) := of_decide_eq_true tq_2; obtain ⟨fj, em, en, eo, ep, eq, ai, aj, ak, al, am, an, cc, cd, ce, cf⟩ := at_T69 HR1_2.out 0 p308 q308; cases eq; have fk : (0 < a7.length) = True := eq_true (by omega); (try simp only [show ((0 : Int)).toNat = 0 from rfl, show 0 * 6 = 0 from rfl, Addr.add_zero'] at ai aj ak al am an); replace ai := hx_ HB.out ai; replace aj := hx_ HB.out aj; replace ak := hx_ HB.out ak; replace al := hx_ HB.out al; replace am := hx_ HB.out am; replace an := hx_ HB.out an; have e5 := Aside0.mk cd; have e6 := Aside0.mk cc; clear cd cc; have e7 := Aside0.mk cf; have e8 := Aside0.mk ce; clear cf ce; replace p308 := eq_true p308; replace q308 := eq_true q308))
   go_meet
   case rel => exact ⟨_, (true), tq_3, H', ⟨tq_18⟩, ⟨(kb_ a5)⟩, ⟨(kb_ a6)⟩, ⟨th_⟩⟩
  rw [if_pos de] at H
  have cm := beq_iff_eq.mpr de
  have cn := bne_eq_false_iff_eq.mpr de
  clear de
  obtain ⟨fl, i1, H⟩ := bd_ H
  have H' := Aside0.mk H
  clear H
  obtain ⟨ae, af⟩ := an2_ aa ab
  have cg := bb4_ a5.out
  go_wp2_with (first | ((with_reducible refine gate_callee (f := 35) rfl ?_); refine goesL_ (some 13) rfl rfl Tryz.func35 (by kernel_rfl) rfl #[.agg #[.int .i64 ar, .int .i64 ao, .int .i64 aq, .int .i64 au]] rfl tq_0 ?_; (with_reducible refine (spec_GeoOk.calls ar ao aq au true _ A6.out).mono ?_); rintro e ie ⟨rfl, hb⟩; refine ⟨_, rfl, ?_⟩; have z_ := bw2_ (kb_ a5) (kb_ a6) th_ hb; clear a5 a6 HB; obtain ⟨a5, a6, HB⟩ := z_; (try clear hb); have ch := bb3_ a6.out) | (go_at_call 36; (with_reducible refine (spec_l01In.calls ap 0 16777215 true _ A8.out).mono ?_); rintro e w' ⟨rfl, ⟨nd, rfl⟩⟩; have ci := bb4_ a5.out) | (go_at_call 37; (with_reducible refine (spec_StatesOk.calls k _ _ ag ao true _ ?side1 ?side2 fz.out).mono ?_); (case side1 => exact tq_16); (case side2 => exact b9.out); rintro e w' ⟨rfl, ⟨nd, rfl⟩⟩; have p308 : 0 ≤ (0 : Int) := (by omega); have q308 : 0 < (a7.length : Int) := of_decide_eq_true tq_2; obtain ⟨fj, em, en, eo, ep, eq, ai, aj, ak, al, am, an, cc, cd, ce, cf⟩ := at_T69 HR1_2.out 0 p308 q308; cases eq; have fk : (0 < a7.length) = True := eq_true (by omega); (try simp only [show ((0 : Int)).toNat = 0 from rfl, show 0 * 6 = 0 from rfl, Addr.add_zero'] at ai aj ak al am an); replace ai := hx_ HB.out ai; replace aj := hx_ HB.out aj; replace ak := hx_ HB.out ak; replace al := hx_ HB.out al; replace am := hx_ HB.out am; replace an := hx_ HB.out an; have e5 := Aside0.mk cd; have e6 := Aside0.mk cc; clear cd cc; have e7 := Aside0.mk cf; have e8 := Aside0.mk ce; clear cf ce; replace p308 := eq_true p308; replace q308 := eq_true q308) | (go_at_call 38; (with_reducible refine (spec_LinksTo.calls k ap _ _ ag _ _ a7 0 fl _ ?side1 ?side2 ?side3 ?side4 i1.out).mono ?_); (case side1 => exact tq_16); (case side2 => exact b9.out); (case side3 => exact tq_42); (case side4 => exact d0.out); rintro e ig ⟨rfl, hb⟩; have z_ := bw2_ (kb_ a5) (kb_ a6) th_ hb; clear a5 a6 HB; obtain ⟨a5, a6, HB⟩ := z_; (try clear hb)))
  go_meet
  case rel => exact ⟨_, (decide (fl > 0)), tq_3, H', ⟨tq_18⟩, ⟨(kb_ a5)⟩, ⟨(kb_ a6)⟩, ⟨th_⟩⟩
 case rest =>
 clear gf
 try clear c1; try clear c2; try clear p2; try clear c3; try clear p3; try clear q3; try clear hx3; try clear f8; try clear c4; try clear c7; try clear c9; try clear dy; try clear dd; try clear b5; try clear cl; try clear e4; try clear ct; try clear cu; try clear de; try clear cm; try clear cn; try clear f9; try clear fa; try clear fb; try clear fc; try clear fd; try clear p30; try clear q30; try clear hx30; try clear dq; try clear fe; try clear ff; try clear fg; try clear fh; try clear cg; try clear ch; try clear ci; try clear bz; try clear ca; try clear cb; try clear bv; try clear bw; try clear bx; try clear br; try clear bs; try clear bu; try clear bp; try clear bq; try clear bo; try clear cg; try clear ch; try clear ci; try clear bz; try clear ca; try clear cb; try clear bv; try clear bw; try clear bx; try clear br; try clear bs; try clear bu; try clear bp; try clear bq; try clear bo; try clear ai; try clear aj; try clear ak; try clear al; try clear am; try clear an; try clear p308; try clear q308
 obtain ⟨kq, dc, rfl, HA, HJ2, a5, a6, HB⟩ := hcut
 cases kq with
 | zero => exact absurd HA.out (by simp [spec_PartOk.j0])
 | succ kj2 =>
 have H := HA.out
 clear HA
 simp only [spec_PartOk.j0] at H
 by_cases e1 : dc = true
 ·subst e1
  rw [if_pos rfl] at H
  obtain rfl := Option.some.inj H
  go_wp2
  go_ret
  exact ⟨tq_1, th_⟩
 replace e1 := Bool.eq_false_iff.mpr e1
 subst e1
 rw [if_neg nf_] at H
 have H' := Aside0.mk H
 clear H
 go_wp2
 go_loopg [5, 6] kj2 (fun kq v5 v6 w' => ∃ (cy : Int) (a8 : Int), v5 = .int .i64 cy ∧ v6 = .int .i64 a8 ∧ Aside0 (spec_PartOk.l0 kq cy a8 ar ao aq au ap ag a7 = some r) ∧ Aside0 (kq ≤ kj2) ∧ Aside0 (w'.heap[b4]? = some (.cells #[.int .i64 ar, .int .i64 ao, .int .i64 aq, .int .i64 au] 31 (0, 0))) ∧ Aside0 (w'.heap[ba]? = some (.cells #[.int .i64 ap, (.slice b7 ag.length b8), (.slice d7 a7.length bj)] 35 (0, 0))) ∧ Aside0 (Below w.heap.size w w'))
 case atStart => exact ⟨(0), (0), tq_3, tq_3, H', ⟨Nat.le_refl _⟩, ⟨(kb_ a5)⟩, ⟨(kb_ a6)⟩, ⟨th_⟩⟩
 case round =>
 clear H'
 try clear c1; try clear c2; try clear p2; try clear c3; try clear p3; try clear q3; try clear hx3; try clear f8; try clear c4; try clear c7; try clear c9; try clear dy; try clear dd; try clear b5; try clear cl; try clear e4; try clear ct; try clear cu; try clear de; try clear cm; try clear cn; try clear f9; try clear fa; try clear fb; try clear fc; try clear fd; try clear p30; try clear q30; try clear hx30; try clear dq; try clear fe; try clear ff; try clear fg; try clear fh; try clear e1; try clear cg; try clear ch; try clear ci; try clear bz; try clear ca; try clear cb; try clear bv; try clear bw; try clear bx; try clear br; try clear bs; try clear bu; try clear bp; try clear bq; try clear bo; try clear cg; try clear ch; try clear ci; try clear bz; try clear ca; try clear cb; try clear bv; try clear bw; try clear bx; try clear br; try clear bs; try clear bu; try clear bp; try clear bq; try clear bo; try clear ai; try clear aj; try clear ak; try clear al; try clear am; try clear an; try clear p2; try clear p3; try clear p30; try clear p308; try clear q3; try clear q30; try clear q308
 obtain ⟨cy, a8, rfl, rfl, HA, HK2, a5, a6, HB⟩ := hrel
 cases gk with
 | zero => exact absurd HA.out (by simp [spec_PartOk.l0])
 | succ k2 =>
 have H := HA.out
 clear HA
 simp only [spec_PartOk.l0] at H
 have fm := Aside0.mk H
 clear H
 obtain ⟨af, ae⟩ := an2_ ab aa
 have cv := bb3_ a6.out
 go_upto_if 54 with (fail)
 (try clear ae af)
 (try clear cv)
 have H := fm.out
 clear fm
 by_cases dz : a8 < (a7.length : Int)
 rotate_left
 ·rw [if_neg dz] at H
  have bl := decide_eq_false dz
  clear dz
  (first | rw [bl] | (simp only [i64_w, i32_w]; rw [bl]) | skip)
  obtain ⟨d4, i2, H⟩ := bd_ H
  have H' := Aside0.mk H
  clear H
  obtain ⟨af, ae⟩ := an2_ ab aa
  have e0 := bb3_ a6.out
  go_wp2_with (first | ((with_reducible refine gate_callee (f := 41) rfl ?_); refine goesL_ (some 110) rfl rfl Tryz.func41 (by kernel_rfl) rfl #[.slice b7 ag.length b8, .int .i64 2] rfl tq_0 ?_; (with_reducible refine (spec_PagesWith.calls k2 _ _ ag 2 d4 _ ?side1 ?side2 i2.out).mono ?_); (case side1 => exact tq_13); (case side2 => exact b9.out); rintro e i3 ⟨v317, rfl, ho0, hb⟩; refine ⟨_, rfl, ?_⟩; have z_ := p_ (Kd.R_lower ho0 (below_size th_)) <| bw2_ (kb_ a5) (kb_ a6) th_ hb; clear a5 a6 HB; obtain ⟨HO318, a5, a6, HB⟩ := z_; (try clear hb); (try clear ho0)))
  go_loopg [11] k2 (fun kq v11 w' => ∃ (b6 : Int), v11 = .int .i64 b6 ∧ Aside0 (spec_PartOk.l2 kq cy d4 b6 ar ao aq au ap ag a7 = some r) ∧ Aside0 (kq ≤ k2) ∧ Aside0 (Kd.R (Kd.int .i64) 3 w' w.heap.size (fun _ => True) v317 d4) ∧ Aside0 (w'.heap[b4]? = some (.cells #[.int .i64 ar, .int .i64 ao, .int .i64 aq, .int .i64 au] 31 (0, 0))) ∧ Aside0 (w'.heap[ba]? = some (.cells #[.int .i64 ap, (.slice b7 ag.length b8), (.slice d7 a7.length bj)] 35 (0, 0))) ∧ Aside0 (Below w.heap.size w w'))
  case atStart => exact ⟨(0), tq_3, H', ⟨Nat.le_refl _⟩, ⟨(raR_ HO318)⟩, ⟨(kb_ a5)⟩, ⟨(kb_ a6)⟩, ⟨th_⟩⟩
  case round =>
  clear H'
  try clear c1; try clear c2; try clear p2; try clear c3; try clear p3; try clear q3; try clear hx3; try clear f8; try clear c4; try clear c5; try clear c6; try clear p6; try clear c7; try clear c8; try clear c9; try clear ii; try clear dy; try clear dd; try clear b5; try clear cl; try clear e4; try clear ct; try clear cu; try clear de; try clear cm; try clear cn; try clear f9; try clear fa; try clear fb; try clear fc; try clear fd; try clear p30; try clear q30; try clear hx30; try clear dq; try clear g6; try clear p31; try clear q31; try clear hx31; try clear fe; try clear ff; try clear fg; try clear gw; try clear g7; try clear fh; try clear e1; try clear g8; try clear dz; try clear bl; try clear er; try clear d8; try clear g9; try clear ga; try clear gb; try clear e9; try clear dx; try clear bm; try clear d1; try clear gc; try clear gd; try clear p64; try clear ej; try clear e2; try clear co; try clear df; try clear e3; try clear dg; try clear dh; try clear gx; try clear gy; try clear gz; try clear h8; try clear h9; try clear hf; try clear fi; try clear ij; try clear ik; try clear es; try clear d2; try clear gl; try clear fn; try clear et; try clear d3; try clear il; try clear im; try clear i4; try clear e0; try clear cg; try clear ch; try clear ci; try clear bz; try clear ca; try clear cb; try clear bv; try clear bw; try clear bx; try clear br; try clear bs; try clear bu; try clear bp; try clear bq; try clear bo; try clear cv; try clear cq; try clear cr; try clear cz; try clear dr; try clear dt; try clear du; try clear dv; try clear eu; try clear fo; try clear e0; try clear cg; try clear ch; try clear ci; try clear bz; try clear ca; try clear cb; try clear bv; try clear bw; try clear bx; try clear br; try clear bs; try clear bu; try clear bp; try clear bq; try clear bo; try clear cv; try clear cq; try clear cr; try clear cz; try clear dr; try clear dt; try clear du; try clear dv; try clear eu; try clear fo; try clear ai; try clear aj; try clear ak; try clear al; try clear am; try clear an; try clear ay; try clear az; try clear b0; try clear b1; try clear b2; try clear b3; try clear bg; try clear bh; try clear p2; try clear p3; try clear p30; try clear p308; try clear p31; try clear p310; try clear p315; try clear q3; try clear q30; try clear q308; try clear q31; try clear q310; try clear q315
  obtain ⟨b6, rfl, HA, HK3, HO_10, a5, a6, HB⟩ := hrel
  cases gk with
  | zero => exact absurd HA.out (by simp [spec_PartOk.l2])
  | succ k3 =>
  have H := HA.out
  clear HA
  simp only [spec_PartOk.l2] at H
  have ek := Aside0.mk H
  clear H
  obtain ⟨Ao104, hh, fp⟩ := Kd.R_slice HO_10.out
  subst fp
  go_upto_if 114 with (fail)
  (try clear ae af)
  (try clear e0)
  have H := ek.out
  clear ek
  by_cases dw : b6 < (d4.length : Int)
  rotate_left
  ·rw [if_neg dw] at H
   have cw := decide_eq_false dw
   clear dw
   (first | rw [cw] | (simp only [i64_w, i32_w]; rw [cw]) | skip)
   by_cases da : (d4.length : Int) = cy
   rotate_left
   ·rw [if_neg da] at H
    have ev := beq_eq_false_iff_ne.mpr da
    have ew := bne_iff_ne.mpr da
    obtain rfl := Option.some.inj H
    go_wp2
    go_ret
    exact ⟨tq_1, th_⟩
   rw [if_pos da] at H
   have ev := beq_iff_eq.mpr da
   have ew := bne_eq_false_iff_eq.mpr da
   clear da
   obtain rfl := Option.some.inj H
   obtain ⟨ae, af⟩ := an2_ aa ab
   have hm := bb4_ a5.out
   go_wp2
   go_ret
   exact ⟨tq_1, th_⟩
  rw [if_pos dw] at H
  have cw := decide_eq_true dw
  clear dw
  (first | rw [cw] | (simp only [i64_w, i32_w]; rw [cw]) | skip)
  obtain ⟨fq, H⟩ := fc_ H
  have gm := decide_eq_true fq
  clear fq
  obtain ⟨fr, gn, H⟩ := bd_ H
  have el := Aside0.mk H
  clear H
  try go_wp2
  have z_ := p_ (Kd.R_drew HO_10.out) <| dw2_ a5 a6 HB
  clear HO_10 a5 a6 HB
  obtain ⟨HO_10, a5, a6, HB⟩ := z_
  have p319 : 0 ≤ (b6 : Int) := of_decide_eq_true tq_2
  have q319 : b6 < (d4.length : Int) := of_decide_eq_true tq_2
  obtain ⟨fs, go, di⟩ := Kd.at_int (Kd.R_reads' HO_10.out).2.2 b6 p319 q319
  cases go
  replace p319 := eq_true p319
  replace q319 := eq_true q319
  refine start_ (n := 7) (S := fun w' => w'.cell? ⟨ba, 0, none⟩ = some (.int .i64 ap) ∧ w'.cell? ⟨ba, 1, none⟩ = some (.slice b7 ag.length b8) ∧ w'.cell? ⟨ba, 2, none⟩ = some (.slice d7 a7.length bj) ∧ w'.cell? (fs.add (b6).toNat) = some (.int .i64 (rd d4 b6))) (ds := []) #[false, false, false, false, false, false, false] (by kernel_rfl) rfl rfl (bc3_ a6.out (di)) (fun hHeld => ?_)
  generalize wr.drew = i5 at HO_10 a5 a6 HB di hHeld ⊢
  refine yq_ (i := 1) (N := some 118) #[false, true, false, false, false, false, false] (by kernel_rfl) ?_
  refine yq_ (i := 2) (N := some 119) #[false, true, true, false, false, false, false] (by kernel_rfl) ?_
  refine yq_ (i := 3) (N := some 120) #[false, true, true, true, false, false, false] (by kernel_rfl) ?_
  refine take_ (i := 0) (N := some 117) (v := ?_) (a' := ?_) #[true, true, true, true, false, false, false] rfl rfl (by kernel_rfl) (fun _ _ _ h => h) (Or.inl ⟨(by rfl), ?_⟩) hHeld ?_ ?_
  rotate_left
  ·rintro w' ⟨s0, s1, s2, s3⟩
   go_simp
   with_reducible rfl
  rotate_left
  ·simp only [Act.put, List.setIfInBounds_toArray, List.set_cons_zero, List.set_cons_succ, i64_w, i32_w]
   rfl
  refine take_ (i := 4) (N := some 121) (v := ?_) (a' := ?_) #[true, true, true, true, true, false, false] rfl rfl (by kernel_rfl) (fun _ _ _ h => h) (Or.inl ⟨(by rfl), ?_⟩) hHeld ?_ ?_
  rotate_left
  ·rintro w' ⟨s0, s1, s2, s3⟩
   go_simp
   with_reducible rfl
  rotate_left
  ·simp only [Act.put, List.setIfInBounds_toArray, List.set_cons_zero, List.set_cons_succ, i64_w, i32_w]
   rfl
  refine one_ (i := 5) (N := some 122) #[true, true, true, true, true, true, false] rfl rfl (by kernel_rfl) (by decide) (fun K hK => ?_)
  refine goes_ Tryz.func42 (by kernel_rfl) rfl #[.agg #[.int .i64 ap, .slice b7 ag.length b8, .slice d7 a7.length bj], .int .i64 (rd d4 b6)] (by rfl) rfl rfl tq_0 ?_
  with_reducible refine (spec_UsersOf.calls k3 ap _ _ ag _ _ a7 (rd d4 b6) fr _ ?side1 ?side2 ?side3 ?side4 gn.out).mono ?_
  (case side1 => exact tq_13)
  (case side2 => exact b9.out)
  (case side3 => exact tq_20)
  (case side4 => exact d0.out)
  rintro e i6 ⟨rfl, hb⟩
  have HS3_ := (hb.cell (World.block_lt_of_cell? _ _ (hHeld.2.2.2))).trans (hHeld.2.2.2)
  refine ⟨_, rfl, ?_⟩
  have z_ := p_ (Kd.R_below (raR_ HO_10) hb) <| bw2_ (kb_ a5) (kb_ a6) th_ hb
  clear HO_10 a5 a6 HB
  obtain ⟨HO_10, a5, a6, HB⟩ := z_
  (try clear hb)
  refine hK.out _ _ (bc3_ a6.out (HS3_)) (fun hHeld => ?_)
  clear hK K
  refine nm_ (some 122) ?_
  refine yq_ (i := 6) (N := some 123) #[true, true, true, true, true, true, true] (by kernel_rfl) ?_
  refine done_ (by kernel_rfl) ?_
  go_upto_if 123 with (fail)
  have H := el.out
  clear el
  by_cases db : fr = 1
  rotate_left
  ·rw [if_neg db] at H
   have cx := beq_eq_false_iff_ne.mpr db
   have ex := bne_iff_ne.mpr db
   (first | rw [cx] | (simp only [i64_w, i32_w]; rw [cx]) | skip)
   obtain rfl := Option.some.inj H
   go_wp2
   go_ret
   exact ⟨tq_1, th_⟩
  rw [if_pos db] at H
  have cx := beq_iff_eq.mpr db
  have ex := bne_eq_false_iff_eq.mpr db
  clear db
  (first | rw [cx] | (simp only [i64_w, i32_w]; rw [cx]) | skip)
  have H' := Aside0.mk H
  clear H
  go_wp2
  go_roundg k3
  case measure => have := HJ2.out; have := HK2.out; have := HK3.out; omega
  case rel => exact ⟨(wrap64 (b6 + 1)), tq_3, H', ⟨(by have := HJ2.out; have := HK2.out; have := HK3.out; omega)⟩, ⟨(raR_ HO_10)⟩, ⟨(kb_ a5)⟩, ⟨(kb_ a6)⟩, ⟨th_⟩⟩
 rw [if_pos dz] at H
 have bl := decide_eq_true dz
 clear dz
 (first | rw [bl] | (simp only [i64_w, i32_w]; rw [bl]) | skip)
 obtain ⟨er, H⟩ := fc_ H
 have d8 := decide_eq_true er
 clear er
 obtain ⟨ft, i7, H⟩ := bd_ H
 have fu := Aside0.mk H
 clear H
 obtain ⟨af, ae⟩ := an2_ ab aa
 have cq := bb3_ a6.out
 have p310 : 0 ≤ (a8 : Int) := of_decide_eq_true tq_2
 have q310 : a8 < (a7.length : Int) := of_decide_eq_true tq_2
 obtain ⟨cp, bb, bc, ck, bn, gp, ay, az, b0, b1, b2, b3, dj, dk, dl, dm⟩ := at_T69 HR1_2.out a8 p310 q310
 cases gp
 replace ay := hx_ HB.out ay
 replace az := hx_ HB.out az
 replace b0 := hx_ HB.out b0
 replace b1 := hx_ HB.out b1
 replace b2 := hx_ HB.out b2
 replace b3 := hx_ HB.out b3
 have ea := Aside0.mk dk
 have eb := Aside0.mk dj
 clear dk dj
 have dn := Aside0.mk dm
 have ec := Aside0.mk dl
 clear dm dl
 replace p310 := eq_true p310
 replace q310 := eq_true q310
 go_upto_if 64 with (first | ((with_reducible refine gate_dst (N := 7) rfl ?_); (try (refine gate_guard (by rfl) ?_; dsimp only)); refine be_ 7 (cs := #[.int .i64 0, .int .i64 0, .int .i64 0, .string (⟨#[]⟩ : ByteArray), .slice none 0 0, .slice none 0 0]) 69 ?_; intro bd hg io hbox hb; have z_ := bx2_ (kb_ a5) (kb_ a6) th_ hb hbox hg; clear a5 a6 HB; obtain ⟨a5, a6, HB, a9, hu, i0, ah, bi, ac, av⟩ := z_; clear hb hbox hg; obtain ⟨be, bf, aw, ax⟩ := an4_ bi ah av ac; have cr := bb6_ a9.out) | ((with_reducible refine gate_callee (f := 39) rfl ?_); refine goesL_ (some 63) rfl rfl Tryz.func39 (by kernel_rfl) rfl #[.agg #[.int .i64 ((rd_T69 a7 a8).f0), .int .i64 ((rd_T69 a7 a8).f1), .int .i64 ((rd_T69 a7 a8).f2), .string ((rd_T69 a7 a8).f3), .slice bb ((rd_T69 a7 a8).f4).length bc, .slice ck ((rd_T69 a7 a8).f5).length bn]] rfl tq_0 ?_; (with_reducible refine (spec_InodeOk.calls k2 ((rd_T69 a7 a8).f0) ((rd_T69 a7 a8).f1) ((rd_T69 a7 a8).f2) ((rd_T69 a7 a8).f3) _ _ ((rd_T69 a7 a8).f4) _ _ ((rd_T69 a7 a8).f5) ft _ ?side1 ?side2 ?side3 ?side4 i7.out).mono ?_); (case side1 => exact Kd.C_below ea.out th_); (case side2 => exact eb.out); (case side3 => exact Kd.C_below dn.out th_); (case side4 => exact ec.out); rintro e ip ⟨rfl, hb⟩; refine ⟨_, rfl, ?_⟩; have z_ := p_ (blk_below (g := b4) (o := .cells #[.int .i64 ar, .int .i64 ao, .int .i64 aq, .int .i64 au] 31 (0, 0)) (by (with_reducible repeat (first | refine blk_drewN ?_ _ | refine blk_drew ?_ | refine blk_alloc ?_ _)); refine blk_far ?_ ah.out _; (with_reducible repeat (first | refine blk_drewN ?_ _ | refine blk_drew ?_ | refine blk_alloc ?_ _)); refine blk_far ?_ ah.out _; (with_reducible repeat (first | refine blk_drewN ?_ _ | refine blk_drew ?_ | refine blk_alloc ?_ _)); refine blk_far ?_ ah.out _; (with_reducible repeat (first | refine blk_drewN ?_ _ | refine blk_drew ?_ | refine blk_alloc ?_ _)); refine blk_far ?_ ah.out _; (with_reducible repeat (first | refine blk_drewN ?_ _ | refine blk_drew ?_ | refine blk_alloc ?_ _)); refine blk_far ?_ ah.out _; (with_reducible repeat (first | refine blk_drewN ?_ _ | refine blk_drew ?_ | refine blk_alloc ?_ _)); refine blk_far ?_ ah.out _; (with_reducible repeat (first | refine blk_drewN ?_ _ | refine blk_drew ?_ | refine blk_alloc ?_ _)); exact a5.out) hb) <| p_ (blk_below (g := ba) (o := .cells #[.int .i64 ap, .slice b7 ag.length b8, .slice (some cp) a7.length bj] 35 (0, 0)) (by (with_reducible repeat (first | refine blk_drewN ?_ _ | refine blk_drew ?_ | refine blk_alloc ?_ _)); refine blk_far ?_ ac.out _; (with_reducible repeat (first | refine blk_drewN ?_ _ | refine blk_drew ?_ | refine blk_alloc ?_ _)); refine blk_far ?_ ac.out _; (with_reducible repeat (first | refine blk_drewN ?_ _ | refine blk_drew ?_ | refine blk_alloc ?_ _)); refine blk_far ?_ ac.out _; (with_reducible repeat (first | refine blk_drewN ?_ _ | refine blk_drew ?_ | refine blk_alloc ?_ _)); refine blk_far ?_ ac.out _; (with_reducible repeat (first | refine blk_drewN ?_ _ | refine blk_drew ?_ | refine blk_alloc ?_ _)); refine blk_far ?_ ac.out _; (with_reducible repeat (first | refine blk_drewN ?_ _ | refine blk_drew ?_ | refine blk_alloc ?_ _)); refine blk_far ?_ ac.out _; (with_reducible repeat (first | refine blk_drewN ?_ _ | refine blk_drew ?_ | refine blk_alloc ?_ _)); exact a6.out) hb) <| p_ (blk_below (g := bd) (o := .cells #[.int .i64 ((rd_T69 a7 a8).f0), .int .i64 ((rd_T69 a7 a8).f1), .int .i64 ((rd_T69 a7 a8).f2), .string ((rd_T69 a7 a8).f3), .slice bb ((rd_T69 a7 a8).f4).length bc, .slice ck ((rd_T69 a7 a8).f5).length bn] 69 (0, 0)) (by (with_reducible repeat (first | refine blk_drewN ?_ _ | refine blk_drew ?_ | refine blk_alloc ?_ _)); refine blk_put (cs := #[.int .i64 ((rd_T69 a7 a8).f0), .int .i64 ((rd_T69 a7 a8).f1), .int .i64 ((rd_T69 a7 a8).f2), .string ((rd_T69 a7 a8).f3), .slice bb ((rd_T69 a7 a8).f4).length bc, .slice none 0 0]) ?_ 5 _ rfl; (with_reducible repeat (first | refine blk_drewN ?_ _ | refine blk_drew ?_ | refine blk_alloc ?_ _)); refine blk_put (cs := #[.int .i64 ((rd_T69 a7 a8).f0), .int .i64 ((rd_T69 a7 a8).f1), .int .i64 ((rd_T69 a7 a8).f2), .string ((rd_T69 a7 a8).f3), .slice none 0 0, .slice none 0 0]) ?_ 4 _ rfl; (with_reducible repeat (first | refine blk_drewN ?_ _ | refine blk_drew ?_ | refine blk_alloc ?_ _)); refine blk_put (cs := #[.int .i64 ((rd_T69 a7 a8).f0), .int .i64 ((rd_T69 a7 a8).f1), .int .i64 ((rd_T69 a7 a8).f2), .string (⟨#[]⟩ : ByteArray), .slice none 0 0, .slice none 0 0]) ?_ 3 _ rfl; (with_reducible repeat (first | refine blk_drewN ?_ _ | refine blk_drew ?_ | refine blk_alloc ?_ _)); refine blk_put (cs := #[.int .i64 ((rd_T69 a7 a8).f0), .int .i64 ((rd_T69 a7 a8).f1), .int .i64 0, .string (⟨#[]⟩ : ByteArray), .slice none 0 0, .slice none 0 0]) ?_ 2 _ rfl; (with_reducible repeat (first | refine blk_drewN ?_ _ | refine blk_drew ?_ | refine blk_alloc ?_ _)); refine blk_put (cs := #[.int .i64 ((rd_T69 a7 a8).f0), .int .i64 0, .int .i64 0, .string (⟨#[]⟩ : ByteArray), .slice none 0 0, .slice none 0 0]) ?_ 1 _ rfl; (with_reducible repeat (first | refine blk_drewN ?_ _ | refine blk_drew ?_ | refine blk_alloc ?_ _)); refine blk_put (cs := #[.int .i64 0, .int .i64 0, .int .i64 0, .string (⟨#[]⟩ : ByteArray), .slice none 0 0, .slice none 0 0]) ?_ 0 _ rfl; (with_reducible repeat (first | refine blk_drewN ?_ _ | refine blk_drew ?_ | refine blk_alloc ?_ _)); exact a9.out) hb) <| a_ (below_step th_ hb); clear a5 a6 a9 HB; obtain ⟨a5, a6, a9, HB⟩ := z_; (try clear hb)))
 (try simp only [Act.put, List.setIfInBounds_toArray, List.set_cons_zero, List.set_cons_succ])
 (try clear ae bf af ax be aw)
 (try clear cq)
 (try clear cr)
 (try clear cq)
 (try clear cr)
 (try clear ay az b0 b1 b2 b3)
 have H := fu.out
 clear fu
 by_cases e9 : ft = true
 rotate_left
 ·replace e9 := Bool.eq_false_iff.mpr e9
  subst e9
  rw [if_neg nf_] at H
  obtain rfl := Option.some.inj H
  go_wp2
  go_ret
  exact ⟨tq_1, th_⟩
 subst e9
 rw [if_pos rfl] at H
 have ey := Aside0.mk H
 clear H
 go_upto_region 11 with (fail)
 go_cut [71] (fun v71 wc => ∃ (kq : Nat) (d5 : Bool), v71 = .bool d5 ∧ Aside0 (spec_PartOk.j2 kq cy a8 1 d5 ar ao aq au ap ag a7 ((rd_T69 a7 a8).f0) ((rd_T69 a7 a8).f1) ((rd_T69 a7 a8).f2) ((rd_T69 a7 a8).f3) ((rd_T69 a7 a8).f4) ((rd_T69 a7 a8).f5) = some r) ∧ Aside0 (kq ≤ k2) ∧ Aside0 (wc.heap[b4]? = some (.cells #[.int .i64 ar, .int .i64 ao, .int .i64 aq, .int .i64 au] 31 (0, 0))) ∧ Aside0 (wc.heap[ba]? = some (.cells #[.int .i64 ap, (.slice b7 ag.length b8), (.slice (some cp) a7.length bj)] 35 (0, 0))) ∧ Aside0 (wc.heap[bd]? = some (.cells #[.int .i64 ((rd_T69 a7 a8).f0), .int .i64 ((rd_T69 a7 a8).f1), .int .i64 ((rd_T69 a7 a8).f2), .string ((rd_T69 a7 a8).f3), (.slice bb ((rd_T69 a7 a8).f4).length bc), (.slice ck ((rd_T69 a7 a8).f5).length bn)] 69 (0, 0))) ∧ Aside0 (Below w.heap.size w wc))
 case first =>
  have H := ey.out
  clear ey
  by_cases dx : a8 = 0
  ·rw [if_pos dx] at H
   have bm := beq_iff_eq.mpr dx
   have d1 := bne_eq_false_iff_eq.mpr dx
   clear dx
   (first | rw [bm] | (simp only [i64_w, i32_w]; rw [bm]) | skip)
   have H' := Aside0.mk H
   clear H
   go_wp2
   go_meet
   case rel => exact ⟨_, (true), tq_3, H', ⟨tq_49⟩, ⟨(kb_ a5)⟩, ⟨(kb_ a6)⟩, ⟨(kb_ a9)⟩, ⟨th_⟩⟩
  rw [if_neg dx] at H
  have bm := beq_eq_false_iff_ne.mpr dx
  have d1 := bne_iff_ne.mpr dx
  (first | rw [bm] | (simp only [i64_w, i32_w]; rw [bm]) | skip)
  have H' := Aside0.mk H
  clear H
  obtain ⟨be, bf, aw, ax⟩ := an4_ bi ah av ac
  have cz := bb6_ a9.out
  go_wp2
  go_meet
  case rel => exact ⟨_, ((((rd_T69 a7 a8).f0) == 0)), tq_3, H', ⟨tq_49⟩, ⟨(kb_ a5)⟩, ⟨(kb_ a6)⟩, ⟨(kb_ a9)⟩, ⟨th_⟩⟩
 case rest =>
 clear ey
 try clear c1; try clear c2; try clear p2; try clear c3; try clear p3; try clear q3; try clear hx3; try clear f8; try clear c4; try clear c5; try clear c6; try clear c7; try clear c9; try clear dy; try clear dd; try clear b5; try clear cl; try clear e4; try clear ct; try clear cu; try clear de; try clear cm; try clear cn; try clear f9; try clear fa; try clear fb; try clear fc; try clear fd; try clear p30; try clear q30; try clear hx30; try clear dq; try clear g6; try clear p31; try clear q31; try clear hx31; try clear fe; try clear ff; try clear fg; try clear g7; try clear fh; try clear e1; try clear g8; try clear dz; try clear bl; try clear er; try clear d8; try clear g9; try clear ga; try clear gb; try clear e9; try clear dx; try clear bm; try clear d1; try clear gc; try clear gd; try clear cg; try clear ch; try clear ci; try clear bz; try clear ca; try clear cb; try clear bv; try clear bw; try clear bx; try clear br; try clear bs; try clear bu; try clear bp; try clear bq; try clear bo; try clear cv; try clear cq; try clear cr; try clear cz; try clear cg; try clear ch; try clear ci; try clear bz; try clear ca; try clear cb; try clear bv; try clear bw; try clear bx; try clear br; try clear bs; try clear bu; try clear bp; try clear bq; try clear bo; try clear cv; try clear cq; try clear cr; try clear cz; try clear ai; try clear aj; try clear ak; try clear al; try clear am; try clear an; try clear ay; try clear az; try clear b0; try clear b1; try clear b2; try clear b3; try clear p2; try clear p3; try clear p30; try clear p308; try clear p310; try clear q3; try clear q30; try clear q308; try clear q310
 obtain ⟨kq, d5, rfl, HA, HJ59, a5, a6, a9, HB⟩ := hcut
 cases kq with
 | zero => exact absurd HA.out (by simp [spec_PartOk.j2])
 | succ kj59 =>
 have H := HA.out
 clear HA
 simp only [spec_PartOk.j2] at H
 have ez := Aside0.mk H
 clear H
 go_upto_if 71 with (fail)
 go_cut [8] (fun v8 wc => ∃ (kq : Nat) (d9 : Int), v8 = .int .i64 d9 ∧ Aside0 (spec_PartOk.j3 kq cy a8 d9 ar ao aq au ap ag a7 ((rd_T69 a7 a8).f0) ((rd_T69 a7 a8).f1) ((rd_T69 a7 a8).f2) ((rd_T69 a7 a8).f3) ((rd_T69 a7 a8).f4) ((rd_T69 a7 a8).f5) = some r) ∧ Aside0 (kq ≤ kj59) ∧ Aside0 (wc.heap[b4]? = some (.cells #[.int .i64 ar, .int .i64 ao, .int .i64 aq, .int .i64 au] 31 (0, 0))) ∧ Aside0 (wc.heap[ba]? = some (.cells #[.int .i64 ap, (.slice b7 ag.length b8), (.slice (some cp) a7.length bj)] 35 (0, 0))) ∧ Aside0 (wc.heap[bd]? = some (.cells #[.int .i64 ((rd_T69 a7 a8).f0), .int .i64 ((rd_T69 a7 a8).f1), .int .i64 ((rd_T69 a7 a8).f2), .string ((rd_T69 a7 a8).f3), (.slice bb ((rd_T69 a7 a8).f4).length bc), (.slice ck ((rd_T69 a7 a8).f5).length bn)] 69 (0, 0))) ∧ Aside0 (Below w.heap.size w wc))
 case first =>
  have H := ez.out
  clear ez
  by_cases ej : d5 = true
  ·subst ej
   rw [if_pos rfl] at H
   have H' := Aside0.mk H
   clear H
   go_wp2
   go_meet
   case rel => exact ⟨_, (0), tq_3, H', ⟨(by have := HJ2.out; have := HK2.out; have := HJ59.out; first | omega | exact Nat.le_refl _)⟩, ⟨(kb_ a5)⟩, ⟨(kb_ a6)⟩, ⟨(kb_ a9)⟩, ⟨th_⟩⟩
  replace ej := Bool.eq_false_iff.mpr ej
  subst ej
  rw [if_neg nf_] at H
  have H' := Aside0.mk H
  clear H
  go_wp2
  go_meet
  case rel => exact ⟨_, (1), tq_3, H', ⟨(by have := HJ2.out; have := HK2.out; have := HJ59.out; first | omega | exact Nat.le_refl _)⟩, ⟨(kb_ a5)⟩, ⟨(kb_ a6)⟩, ⟨(kb_ a9)⟩, ⟨th_⟩⟩
 case rest =>
 clear ez
 try clear c1; try clear c2; try clear p2; try clear c3; try clear p3; try clear q3; try clear hx3; try clear f8; try clear c4; try clear c5; try clear c6; try clear c7; try clear c9; try clear dy; try clear dd; try clear b5; try clear cl; try clear e4; try clear ct; try clear cu; try clear de; try clear cm; try clear cn; try clear f9; try clear fa; try clear fb; try clear fc; try clear fd; try clear p30; try clear q30; try clear hx30; try clear dq; try clear g6; try clear p31; try clear q31; try clear hx31; try clear fe; try clear ff; try clear fg; try clear g7; try clear fh; try clear e1; try clear g8; try clear dz; try clear bl; try clear er; try clear d8; try clear g9; try clear ga; try clear gb; try clear e9; try clear dx; try clear bm; try clear d1; try clear gc; try clear gd; try clear ej; try clear cg; try clear ch; try clear ci; try clear bz; try clear ca; try clear cb; try clear bv; try clear bw; try clear bx; try clear br; try clear bs; try clear bu; try clear bp; try clear bq; try clear bo; try clear cv; try clear cq; try clear cr; try clear cz; try clear cg; try clear ch; try clear ci; try clear bz; try clear ca; try clear cb; try clear bv; try clear bw; try clear bx; try clear br; try clear bs; try clear bu; try clear bp; try clear bq; try clear bo; try clear cv; try clear cq; try clear cr; try clear cz; try clear ai; try clear aj; try clear ak; try clear al; try clear am; try clear an; try clear ay; try clear az; try clear b0; try clear b1; try clear b2; try clear b3; try clear p2; try clear p3; try clear p30; try clear p308; try clear p31; try clear p310; try clear q3; try clear q30; try clear q308; try clear q31; try clear q310
 obtain ⟨kq, d9, rfl, HA, HJ64, a5, a6, a9, HB⟩ := hcut
 cases kq with
 | zero => exact absurd HA.out (by simp [spec_PartOk.j3])
 | succ kj64 =>
 have H := HA.out
 clear HA
 simp only [spec_PartOk.j3] at H
 have f7 := Aside0.mk H
 clear H
 go_upto_region 13 with (fail)
 go_cut [86] (fun v86 wc => ∃ (kq : Nat) (d6 : Bool), v86 = .bool d6 ∧ Aside0 (spec_PartOk.j4 kq cy a8 d6 ar ao aq au ap ag a7 ((rd_T69 a7 a8).f0) ((rd_T69 a7 a8).f1) ((rd_T69 a7 a8).f2) ((rd_T69 a7 a8).f3) ((rd_T69 a7 a8).f4) ((rd_T69 a7 a8).f5) = some r) ∧ Aside0 (kq ≤ kj64) ∧ Aside0 (wc.heap[b4]? = some (.cells #[.int .i64 ar, .int .i64 ao, .int .i64 aq, .int .i64 au] 31 (0, 0))) ∧ Aside0 (wc.heap[ba]? = some (.cells #[.int .i64 ap, (.slice b7 ag.length b8), (.slice (some cp) a7.length bj)] 35 (0, 0))) ∧ Aside0 (wc.heap[bd]? = some (.cells #[.int .i64 ((rd_T69 a7 a8).f0), .int .i64 ((rd_T69 a7 a8).f1), .int .i64 ((rd_T69 a7 a8).f2), .string ((rd_T69 a7 a8).f3), (.slice bb ((rd_T69 a7 a8).f4).length bc), (.slice ck ((rd_T69 a7 a8).f5).length bn)] 69 (0, 0))) ∧ Aside0 (Below w.heap.size w wc))
 case first =>
  have H := f7.out
  clear f7
  obtain ⟨ed, gq, H⟩ := bd_ H
  by_cases e2 : ed = d9
  rotate_left
  ·rw [if_neg e2] at H
   have co := beq_eq_false_iff_ne.mpr e2
   have df := bne_iff_ne.mpr e2
   (first | rw [co] | (simp only [i64_w, i32_w]; rw [co]) | skip)
   have H' := Aside0.mk H
   clear H
   obtain ⟨af, ae, ax, aw⟩ := an4_ ab aa ac av
   have dv := bb3_ a6.out
   go_wp2_with (first | ((with_reducible refine gate_callee (f := 38) rfl ?_); refine goesL_ (some 74) rfl rfl Tryz.func38 (by kernel_rfl) rfl #[.agg #[.int .i64 ap, .slice b7 ag.length b8, .slice (some cp) a7.length bj], .int .i64 a8] rfl tq_0 ?_; (with_reducible refine (spec_LinksTo.calls kj64 ap _ _ ag _ _ a7 a8 ed _ ?side1 ?side2 ?side3 ?side4 gq.out).mono ?_); (case side1 => exact tq_13); (case side2 => exact b9.out); (case side3 => exact tq_20); (case side4 => exact d0.out); rintro e iq ⟨rfl, hb⟩; refine ⟨_, rfl, ?_⟩; have z_ := bw3_ (kb_ a5) (kb_ a6) (kb_ a9) th_ hb; clear a5 a6 a9 HB; obtain ⟨a5, a6, a9, HB⟩ := z_; (try clear hb)))
   go_meet
   case rel => exact ⟨_, (true), tq_3, H', ⟨tq_48⟩, ⟨(kb_ a5)⟩, ⟨(kb_ a6)⟩, ⟨(kb_ a9)⟩, ⟨th_⟩⟩
  rw [if_pos e2] at H
  have co := beq_iff_eq.mpr e2
  have df := bne_eq_false_iff_eq.mpr e2
  clear e2
  (first | rw [co] | (simp only [i64_w, i32_w]; rw [co]) | skip)
  by_cases e3 : d9 = 1
  rotate_left
  ·rw [if_neg e3] at H
   have dg := beq_eq_false_iff_ne.mpr e3
   have dh := bne_iff_ne.mpr e3
   have H' := Aside0.mk H
   clear H
   obtain ⟨af, ae, ax, aw⟩ := an4_ ab aa ac av
   have du := bb3_ a6.out
   go_wp2_with (first | ((with_reducible refine gate_callee (f := 38) rfl ?_); refine goesL_ (some 74) rfl rfl Tryz.func38 (by kernel_rfl) rfl #[.agg #[.int .i64 ap, .slice b7 ag.length b8, .slice (some cp) a7.length bj], .int .i64 a8] rfl tq_0 ?_; (with_reducible refine (spec_LinksTo.calls kj64 ap _ _ ag _ _ a7 a8 ed _ ?side1 ?side2 ?side3 ?side4 gq.out).mono ?_); (case side1 => exact tq_13); (case side2 => exact b9.out); (case side3 => exact tq_20); (case side4 => exact d0.out); rintro e ir ⟨rfl, hb⟩; refine ⟨_, rfl, ?_⟩; have z_ := bw3_ (kb_ a5) (kb_ a6) (kb_ a9) th_ hb; clear a5 a6 a9 HB; obtain ⟨a5, a6, a9, HB⟩ := z_; (try clear hb)))
   go_meet
   case rel => exact ⟨_, (false), tq_3, H', ⟨tq_48⟩, ⟨(kb_ a5)⟩, ⟨(kb_ a6)⟩, ⟨(kb_ a9)⟩, ⟨th_⟩⟩
  rw [if_pos e3] at H
  have dg := beq_iff_eq.mpr e3
  have dh := bne_eq_false_iff_eq.mpr e3
  clear e3
  obtain ⟨fw, i8, H⟩ := bd_ H
  have H' := Aside0.mk H
  clear H
  obtain ⟨af, ae, ax, aw⟩ := an4_ ab aa ac av
  have dr := bb3_ a6.out
  go_wp2_with (first | ((with_reducible refine gate_callee (f := 38) rfl ?_); refine goesL_ (some 74) rfl rfl Tryz.func38 (by kernel_rfl) rfl #[.agg #[.int .i64 ap, .slice b7 ag.length b8, .slice (some cp) a7.length bj], .int .i64 a8] rfl tq_0 ?_; (with_reducible refine (spec_LinksTo.calls kj64 ap _ _ ag _ _ a7 a8 ed _ ?side1 ?side2 ?side3 ?side4 gq.out).mono ?_); (case side1 => exact tq_13); (case side2 => exact b9.out); (case side3 => exact tq_20); (case side4 => exact d0.out); rintro e iu ⟨rfl, hb⟩; refine ⟨_, rfl, ?_⟩; have z_ := bw3_ (kb_ a5) (kb_ a6) (kb_ a9) th_ hb; clear a5 a6 a9 HB; obtain ⟨a5, a6, a9, HB⟩ := z_; (try clear hb); have dt := bb3_ a6.out) | (go_at_call 40; (with_reducible refine (spec_DepthOf.calls kj64 ap _ _ ag _ _ a7 a8 fw _ ?side1 ?side2 ?side3 ?side4 i8.out).mono ?_); (case side1 => exact tq_13); (case side2 => exact b9.out); (case side3 => exact tq_20); (case side4 => exact d0.out); rintro e iv ⟨rfl, hb⟩; have z_ := bw3_ (kb_ a5) (kb_ a6) (kb_ a9) th_ hb; clear a5 a6 a9 HB; obtain ⟨a5, a6, a9, HB⟩ := z_; (try clear hb)))
  go_meet
  case rel => exact ⟨_, (decide (fw < 0)), tq_3, H', ⟨tq_48⟩, ⟨(kb_ a5)⟩, ⟨(kb_ a6)⟩, ⟨(kb_ a9)⟩, ⟨th_⟩⟩
 case rest =>
 clear f7
 try clear c1; try clear c2; try clear p2; try clear c3; try clear p3; try clear q3; try clear hx3; try clear f8; try clear c4; try clear c5; try clear c6; try clear c7; try clear c8; try clear c9; try clear dy; try clear dd; try clear b5; try clear cl; try clear e4; try clear ct; try clear cu; try clear de; try clear cm; try clear cn; try clear f9; try clear fa; try clear fb; try clear fc; try clear fd; try clear p30; try clear q30; try clear hx30; try clear dq; try clear g6; try clear p31; try clear q31; try clear hx31; try clear fe; try clear ff; try clear fg; try clear gw; try clear g7; try clear fh; try clear e1; try clear g8; try clear dz; try clear bl; try clear er; try clear d8; try clear g9; try clear ga; try clear gb; try clear e9; try clear dx; try clear bm; try clear d1; try clear gc; try clear gd; try clear ej; try clear e2; try clear co; try clear df; try clear e3; try clear dg; try clear dh; try clear gx; try clear gy; try clear gz; try clear h8; try clear h9; try clear hf; try clear cg; try clear ch; try clear ci; try clear bz; try clear ca; try clear cb; try clear bv; try clear bw; try clear bx; try clear br; try clear bs; try clear bu; try clear bp; try clear bq; try clear bo; try clear cv; try clear cq; try clear cr; try clear cz; try clear dr; try clear dt; try clear du; try clear dv; try clear cg; try clear ch; try clear ci; try clear bz; try clear ca; try clear cb; try clear bv; try clear bw; try clear bx; try clear br; try clear bs; try clear bu; try clear bp; try clear bq; try clear bo; try clear cv; try clear cq; try clear cr; try clear cz; try clear dr; try clear dt; try clear du; try clear dv; try clear ai; try clear aj; try clear ak; try clear al; try clear am; try clear an; try clear ay; try clear az; try clear b0; try clear b1; try clear b2; try clear b3; try clear p2; try clear p3; try clear p30; try clear p308; try clear p31; try clear p310; try clear q3; try clear q30; try clear q308; try clear q31; try clear q310
 obtain ⟨kq, d6, rfl, HA, HJ66, a5, a6, a9, HB⟩ := hcut
 cases kq with
 | zero => exact absurd HA.out (by simp [spec_PartOk.j4])
 | succ kj66 =>
 have H := HA.out
 clear HA
 simp only [spec_PartOk.j4] at H
 by_cases fi : d6 = true
 ·subst fi
  rw [if_pos rfl] at H
  obtain rfl := Option.some.inj H
  go_wp2
  go_ret
  exact ⟨tq_1, th_⟩
 replace fi := Bool.eq_false_iff.mpr fi
 subst fi
 rw [if_neg nf_] at H
 have H' := Aside0.mk H
 clear H
 go_wp2
 go_loopg [9] kj66 (fun kq v9 w' => ∃ (cj : Int), v9 = .int .i64 cj ∧ Aside0 (spec_PartOk.l1 kq cy a8 cj ar ao aq au ap ag a7 ((rd_T69 a7 a8).f0) ((rd_T69 a7 a8).f1) ((rd_T69 a7 a8).f2) ((rd_T69 a7 a8).f3) ((rd_T69 a7 a8).f4) ((rd_T69 a7 a8).f5) = some r) ∧ Aside0 (kq ≤ kj66) ∧ Aside0 (w'.heap[b4]? = some (.cells #[.int .i64 ar, .int .i64 ao, .int .i64 aq, .int .i64 au] 31 (0, 0))) ∧ Aside0 (w'.heap[ba]? = some (.cells #[.int .i64 ap, (.slice b7 ag.length b8), (.slice (some cp) a7.length bj)] 35 (0, 0))) ∧ Aside0 (w'.heap[bd]? = some (.cells #[.int .i64 ((rd_T69 a7 a8).f0), .int .i64 ((rd_T69 a7 a8).f1), .int .i64 ((rd_T69 a7 a8).f2), .string ((rd_T69 a7 a8).f3), (.slice bb ((rd_T69 a7 a8).f4).length bc), (.slice ck ((rd_T69 a7 a8).f5).length bn)] 69 (0, 0))) ∧ Aside0 (Below w.heap.size w w'))
 case atStart => exact ⟨(0), tq_3, H', ⟨Nat.le_refl _⟩, ⟨(kb_ a5)⟩, ⟨(kb_ a6)⟩, ⟨(kb_ a9)⟩, ⟨th_⟩⟩
 case round =>
 clear H'
 try clear c1; try clear c2; try clear p2; try clear c3; try clear p3; try clear q3; try clear hx3; try clear f8; try clear c4; try clear c5; try clear c6; try clear c7; try clear c8; try clear c9; try clear dy; try clear dd; try clear b5; try clear cl; try clear e4; try clear ct; try clear cu; try clear de; try clear cm; try clear cn; try clear f9; try clear fa; try clear fb; try clear fc; try clear fd; try clear p30; try clear q30; try clear hx30; try clear dq; try clear g6; try clear p31; try clear q31; try clear hx31; try clear fe; try clear ff; try clear fg; try clear gw; try clear g7; try clear fh; try clear e1; try clear g8; try clear dz; try clear bl; try clear er; try clear d8; try clear g9; try clear ga; try clear gb; try clear e9; try clear dx; try clear bm; try clear d1; try clear gc; try clear gd; try clear ej; try clear e2; try clear co; try clear df; try clear e3; try clear dg; try clear dh; try clear gx; try clear gy; try clear gz; try clear h8; try clear h9; try clear hf; try clear fi; try clear cg; try clear ch; try clear ci; try clear bz; try clear ca; try clear cb; try clear bv; try clear bw; try clear bx; try clear br; try clear bs; try clear bu; try clear bp; try clear bq; try clear bo; try clear cv; try clear cq; try clear cr; try clear cz; try clear dr; try clear dt; try clear du; try clear dv; try clear cg; try clear ch; try clear ci; try clear bz; try clear ca; try clear cb; try clear bv; try clear bw; try clear bx; try clear br; try clear bs; try clear bu; try clear bp; try clear bq; try clear bo; try clear cv; try clear cq; try clear cr; try clear cz; try clear dr; try clear dt; try clear du; try clear dv; try clear ai; try clear aj; try clear ak; try clear al; try clear am; try clear an; try clear ay; try clear az; try clear b0; try clear b1; try clear b2; try clear b3; try clear p2; try clear p3; try clear p30; try clear p308; try clear p31; try clear p310; try clear q3; try clear q30; try clear q308; try clear q31; try clear q310
 obtain ⟨cj, rfl, HA, ge, a5, a6, a9, HB⟩ := hrel
 cases gk with
 | zero => exact absurd HA.out (by simp [spec_PartOk.l1])
 | succ k6 =>
 have H := HA.out
 clear HA
 simp only [spec_PartOk.l1] at H
 have fx := Aside0.mk H
 clear H
 obtain ⟨be, bf, aw, ax⟩ := an4_ bi ah av ac
 have eu := bb6_ a9.out
 go_upto_if 91 with (fail)
 (try clear bf ax be aw)
 (try clear eu)
 have H := fx.out
 clear fx
 by_cases es : cj < (((rd_T69 a7 a8).f5).length : Int)
 rotate_left
 ·rw [if_neg es] at H
  have d2 := decide_eq_false es
  clear es
  (first | rw [d2] | (simp only [i64_w, i32_w]; rw [d2]) | skip)
  have H' := Aside0.mk H
  clear H
  obtain ⟨be, bf, aw, ax⟩ := an4_ bi ah av ac
  have fo := bb6_ a9.out
  go_wp2
  go_roundg k6
  case measure => have := HJ2.out; have := HK2.out; have := HJ59.out; have := HJ64.out; have := HJ66.out; have := ge.out; omega
  case rel => exact ⟨(wrap64 (cy + (((rd_T69 a7 a8).f4).length : Int))), (wrap64 (a8 + 1)), tq_3, tq_3, H', ⟨(by have := HJ2.out; have := HK2.out; have := HJ59.out; have := HJ64.out; have := HJ66.out; have := ge.out; omega)⟩, ⟨(kb_ a5)⟩, ⟨(kb_ a6)⟩, ⟨th_⟩⟩
 rw [if_pos es] at H
 have d2 := decide_eq_true es
 clear es
 (first | rw [d2] | (simp only [i64_w, i32_w]; rw [d2]) | skip)
 obtain ⟨gl, H⟩ := fc_ H
 have fn := decide_eq_true gl
 clear gl
 have fy := Aside0.mk H
 clear H
 try go_wp2
 have z_ := dw3_ a5 a6 a9 HB
 clear a5 a6 a9 HB
 obtain ⟨a5, a6, a9, HB⟩ := z_
 have p315 : 0 ≤ (cj : Int) := of_decide_eq_true tq_2
 have q315 : cj < (((rd_T69 a7 a8).f5).length : Int) := of_decide_eq_true tq_2
 obtain ⟨dp, gr, bg, bh⟩ := at_T72 dn.out cj p315 q315
 have hw315_1 := bh
 have hw315_0 := bg
 cases gr
 replace bg := hx_ HB.out bg
 replace bh := hx_ HB.out bh
 replace p315 := eq_true p315
 replace q315 := eq_true q315
 refine start_ (n := 9) (S := fun w' => w'.cell? ⟨bd, 0, none⟩ = some (.int .i64 ((rd_T69 a7 a8).f0)) ∧ w'.cell? ⟨bd, 1, none⟩ = some (.int .i64 ((rd_T69 a7 a8).f1)) ∧ w'.cell? ⟨bd, 2, none⟩ = some (.int .i64 ((rd_T69 a7 a8).f2)) ∧ w'.cell? ⟨bd, 3, none⟩ = some (.string ((rd_T69 a7 a8).f3)) ∧ w'.cell? ⟨bd, 4, none⟩ = some (.slice bb ((rd_T69 a7 a8).f4).length bc) ∧ w'.cell? ⟨bd, 5, none⟩ = some (.slice (some dp) ((rd_T69 a7 a8).f5).length bn) ∧ w'.cell? ⟨b4, 0, none⟩ = some (.int .i64 ar) ∧ w'.cell? ⟨b4, 1, none⟩ = some (.int .i64 ao) ∧ w'.cell? ⟨b4, 2, none⟩ = some (.int .i64 aq) ∧ w'.cell? ⟨b4, 3, none⟩ = some (.int .i64 au) ∧ w'.cell? (dp.add ((cj).toNat * 2)) = some (.int .i64 ((rd_T72 ((rd_T69 a7 a8).f5) cj).f0)) ∧ w'.cell? ⟨(dp.add ((cj).toNat * 2)).block, (dp.add ((cj).toNat * 2)).off + 1, none⟩ = some (.string ((rd_T72 ((rd_T69 a7 a8).f5) cj).f1))) (ds := []) bq_61 (by kernel_rfl) rfl rfl (bc6_ a9.out (bc4_ a5.out ⟨((HB.out.cell (World.block_lt_of_cell? w _ hw315_0)).trans hw315_0), ((HB.out.cell (World.block_lt_of_cell? w _ hw315_1)).trans hw315_1)⟩)) (fun hHeld => ?_); refine with_tabW spec_PartOk.tab18 spec_PartOk.bits18 (fun HT_ HW_ => ?_)
 generalize wr.drew = iw at a5 a6 a9 HB bg bh hHeld ⊢
 refine yr_ 0 94 #[true, false, false, false, false, false, false, false, false] HT_ ?_
 refine yr_ 2 96 bq_62 HT_ ?_
 refine yr_ 6 100 #[true, false, true, false, false, false, true, false, false] HT_ ?_
 refine tr_ 1 95 #[true, true, true, false, false, false, true, false, false] HT_ HW_ hHeld ?_
 refine yr_ 3 97 #[true, true, true, true, false, false, true, false, false] HT_ ?_
 refine yr_ 4 98 #[true, true, true, true, true, false, true, false, false] HT_ ?_
 refine tr_ 5 99 bq_63 HT_ HW_ hHeld ?_
 refine tr_ 7 101 bq_64 HT_ HW_ hHeld ?_
 refine yr_ 8 102 bq_65 HT_ ?_
 refine done_ (done_of HT_.out (by kernel_rfl)) ?_
 go_upto_if 102 with (fail)
 (try clear bg bh)
 have H := fy.out
 clear fy
 by_cases et : ((rd_T72 ((rd_T69 a7 a8).f5) cj).f0) ≥ aq
 ·rw [if_pos et] at H
  have d3 := decide_eq_true et
  clear et
  (first | rw [d3] | (simp only [i64_w, i32_w]; rw [d3]) | skip)
  obtain rfl := Option.some.inj H
  go_wp2
  go_ret
  exact ⟨tq_1, th_⟩
 rw [if_neg et] at H
 have d3 := decide_eq_false et
 clear et
 (first | rw [d3] | (simp only [i64_w, i32_w]; rw [d3]) | skip)
 have H' := Aside0.mk H
 clear H
 go_wp2
 go_roundg k6
 case measure => have := HJ2.out; have := HK2.out; have := HJ59.out; have := HJ64.out; have := HJ66.out; have := ge.out; omega
 case rel => exact ⟨(wrap64 (cj + 1)), tq_3, H', ⟨(by have := HJ2.out; have := HK2.out; have := HJ59.out; have := HJ64.out; have := HJ66.out; have := ge.out; omega)⟩, ⟨(kb_ a5)⟩, ⟨(kb_ a6)⟩, ⟨(kb_ a9)⟩, ⟨th_⟩⟩

end Go.Proofs.YtleoknilacjakaaGreat.PFnExactChanged
