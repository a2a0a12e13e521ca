/- Contracts of Go functions: each call returns what the Lean function beside it computes. Conditions: as each theorem states them. -/
import Derived.Test.YtleoknilacjakaaGreatPkFnExactChanged
import Derived.Test.YtleoknilacjakaaGreatPFnExactChangedx1
namespace Go.Proofs.YtleoknilacjakaaGreat.PFnExactChanged
open Go.RowKit Go.Proofs.YtleoknilacjakaaGreatW.PrintWords Go.Proofs.YtleoknilacjakaaGreatW.PrintLast Go.Proofs.YtleoknilacjakaaGreatW.PrintMore
attribute [local go_sem] max2_int min2_int max_two min_two max_three min_three max_four min_four   -- for this text's walks alone
set_option linter.unusedVariables false
set_option linter.unusedSimpArgs false

/-! ### spec_l14Above: function 66 -/
mutual
def spec_l14Above.l0 : Nat → Int → Int → Int → List Int → List (S69) → Option (Int)
 | 0, _, _, _, _, _ => none
 | k + 1, x1, x5, a6, a7, a5 => if x5 < (a5.length : Int) then (spec_l14Above.l1 k x1 x5 0 a6 a7 a5) else (some (-1))
def spec_l14Above.l1 : Nat → Int → Int → Int → Int → List Int → List (S69) → Option (Int)
 | 0, _, _, _, _, _, _ => none
 | k + 1, x1, x5, x6, a6, a7, a5 => if 0 ≤ x5 then (if x5 < (a5.length : Int) then (if x6 < (((rd_T69 a5 x5).f5).length : Int) then (spec_l14Above.j2 k x1 x5 x6 (((rd_T69 a5 x5).f0) == 2) a6 a7 a5) else (spec_l14Above.j2 k x1 x5 x6 false a6 a7 a5)) else (none)) else (none)
def spec_l14Above.j2 : Nat → Int → Int → Int → Bool → Int → List Int → List (S69) → Option (Int)
 | 0, _, _, _, _, _, _, _ => none
 | k + 1, x1, x5, x6, a8, a6, a7, a5 => if a8 = true then (if 0 ≤ x5 then (if x5 < (a5.length : Int) then (if 0 ≤ x6 then (if x6 < (((rd_T69 a5 x5).f5).length : Int) then (if ((rd_T72 ((rd_T69 a5 x5).f5) x6).f0) = x1 then (some x5) else (spec_l14Above.l1 k x1 x5 (wrap64 (x6 + 1)) a6 a7 a5)) else (none)) else (none)) else (none)) else (none)) else (spec_l14Above.l0 k x1 (wrap64 (x5 + 1)) a6 a7 a5)
end
def spec_l14Above.f (k : Nat) (a5 : Int) (a6 : List Int) (a7 : List (S69)) (a1 : Int) : Option (Int) := spec_l14Above.l0 k a1 0 a5 a6 a7
set_option maxHeartbeats 8000000 in
set_option maxRecDepth 100000 in
theorem spec_l14Above.calls (k : Nat) (an : Int) (bd : Option Addr) (be : Nat) (aj : List Int) (bf : Option Addr) (bg : Nat) (a6 : List (S69)) (a1 : Int) (r : Int) (w : World) (bo : Kd.C (Kd.int .i64) w bd aj.length aj) (bp : aj.length ≤ be) (bq : Kd.C k69 w bf a6.length a6) (br : a6.length ≤ bg) (h : spec_l14Above.f k an aj a6 a1 = some r) :
  Calls Tryz.prog 66 #[.agg #[.int .i64 an, .slice bd aj.length be, .slice bf a6.length bg], .int .i64 a1] w fun e w' => e = .returned (.int .i64 r) ∧ Below w.heap.size w w' := by
 have hu35 := Tryz.underlying35
 have HR0_1 := Aside0.mk bo
 have d7 := Aside0.mk bp
 clear bo bp
 have HR0_2 := Aside0.mk bq
 have d8 := Aside0.mk br
 clear bq br
 have HB := Aside0.mk (Below.refl w.heap.size w)
 unfold spec_l14Above.f at h
 have H := h
 clear h
 have H' := Aside0.mk H
 clear H
 go_enter Tryz.func66, Tryz.ntmps66
 go_wp2_with (first | ((with_reducible refine gate_dst (N := 2) rfl ?_); refine be_ 2 (cs := #[.int .i64 an, .slice bd aj.length be, .slice bf a6.length bg]) 35 ?_; intro bh hg w3 hbox hb; have z_ := bx0_ th_ hb hbox hg; clear HB; obtain ⟨HB, a7, d9, da⟩ := z_; clear hb hbox hg))
 go_loopg [5] k (fun kq v5 w' => ∃ (a5 : Int), v5 = .int .i64 a5 ∧ Aside0 (spec_l14Above.l0 kq a1 a5 an aj a6 = some r) ∧ Aside0 (kq ≤ k) ∧ Aside0 (w'.heap[bh]? = some (.cells #[.int .i64 an, (.slice bd aj.length be), (.slice bf a6.length bg)] 35 (0, 0))) ∧ Aside0 (Below w.heap.size w w'))
 case atStart => exact ⟨(0), tq_3, H', ⟨Nat.le_refl _⟩, ⟨(kb_ a7)⟩, ⟨th_⟩⟩
 case round =>
 clear H'
 try clear p2
 obtain ⟨a5, rfl, HA, HK1, a7, HB⟩ := hrel
 cases gk with
 | zero => exact absurd HA.out (by simp [spec_l14Above.l0])
 | succ k1 =>
 have H := HA.out
 clear HA
 simp only [spec_l14Above.l0] at H
 have db := Aside0.mk H
 clear H
 have cj := bb3_ a7.out
 go_upto_if 11 with (fail)
 (try clear cj)
 have H := db.out
 clear db
 by_cases c6 : a5 < (a6.length : Int)
 rotate_left
 ·rw [if_neg c6] at H
  have b3 := decide_eq_false c6
  clear c6
  (first | rw [b3] | (simp only [i64_w, i32_w]; rw [b3]) | skip)
  obtain rfl := Option.some.inj H
  go_wp2
  go_ret
  exact ⟨tq_1, th_⟩
 rw [if_pos c6] at H
 have b3 := decide_eq_true c6
 clear c6
 (first | rw [b3] | (simp only [i64_w, i32_w]; rw [b3]) | skip)
 have H' := Aside0.mk H
 clear H
 go_wp2
 go_loopg [6] k1 (fun kq v6 w' => ∃ (am : Int), v6 = .int .i64 am ∧ Aside0 (spec_l14Above.l1 kq a1 a5 am an aj a6 = some r) ∧ Aside0 (kq ≤ k1) ∧ Aside0 (w'.heap[bh]? = some (.cells #[.int .i64 an, (.slice bd aj.length be), (.slice bf a6.length bg)] 35 (0, 0))) ∧ Aside0 (Below w.heap.size w w'))
 case atStart => exact ⟨(0), tq_3, H', ⟨Nat.le_refl _⟩, ⟨(kb_ a7)⟩, ⟨th_⟩⟩
 case round =>
 clear H'
 try clear p2; try clear c6; try clear b3; try clear cj; try clear p2
 obtain ⟨am, rfl, HA, HK2, a7, HB⟩ := hrel
 cases gk with
 | zero => exact absurd HA.out (by simp [spec_l14Above.l1])
 | succ k2 =>
 have H := HA.out
 clear HA
 simp only [spec_l14Above.l1] at H
 have ct := Aside0.mk H
 clear H
 go_upto_region 5 with (fail)
 go_cut [31] (fun v31 wc => ∃ (kq : Nat) (b4 : Bool), v31 = .bool b4 ∧ Aside0 (spec_l14Above.j2 kq a1 a5 am b4 an aj a6 = some r) ∧ Aside0 (kq ≤ k2) ∧ Aside0 (wc.heap[bh]? = some (.cells #[.int .i64 an, (.slice bd aj.length be), (.slice bf a6.length bg)] 35 (0, 0))) ∧ Aside0 (Below w.heap.size w wc))
 case first =>
  have H := ct.out
  clear ct
  obtain ⟨c8, H⟩ := fc_ H
  have bv := decide_eq_true c8
  clear c8
  (first | rw [bv] | (simp only [i64_w, i32_w]; rw [bv]) | skip)
  obtain ⟨c9, H⟩ := fc_ H
  have cu := decide_eq_true c9
  clear c9
  by_cases bw : am < (((rd_T69 a6 a5).f5).length : Int)
  rotate_left
  ·rw [if_neg bw] at H
   have bs := decide_eq_false bw
   clear bw
   have H' := Aside0.mk H
   clear H
   have ce := bb3_ a7.out
   have p285 : 0 ≤ (a5 : Int) := of_decide_eq_true tq_2
   have q285 : a5 < (a6.length : Int) := of_decide_eq_true tq_2
   obtain ⟨bu, bx, bz, ca, cb, cc, aa, ab, ac, ae, a8, a9, af, ag, ah, ai⟩ := at_T69 HR0_2.out a5 p285 q285
   cases cc
   replace aa := hx_ HB.out aa
   replace ab := hx_ HB.out ab
   replace ac := hx_ HB.out ac
   replace ae := hx_ HB.out ae
   replace a8 := hx_ HB.out a8
   replace a9 := hx_ HB.out a9
   have bi := Aside0.mk ag
   have bj := Aside0.mk af
   clear ag af
   have bl := Aside0.mk ai
   have bm := Aside0.mk ah
   clear ai ah
   replace p285 := eq_true p285
   replace q285 := eq_true q285
   go_wp2
   go_meet
   case rel => exact ⟨_, (false), tq_3, H', ⟨tq_37⟩, ⟨(kb_ a7)⟩, ⟨th_⟩⟩
  rw [if_pos bw] at H
  have bs := decide_eq_true bw
  clear bw
  have H' := Aside0.mk H
  clear H
  have cf := bb3_ a7.out
  have p285 : 0 ≤ (a5 : Int) := of_decide_eq_true tq_2
  have q285 : a5 < (a6.length : Int) := of_decide_eq_true tq_2
  obtain ⟨bu, bx, bz, ca, cb, cc, aa, ab, ac, ae, a8, a9, af, ag, ah, ai⟩ := at_T69 HR0_2.out a5 p285 q285
  cases cc
  replace aa := hx_ HB.out aa
  replace ab := hx_ HB.out ab
  replace ac := hx_ HB.out ac
  replace ae := hx_ HB.out ae
  replace a8 := hx_ HB.out a8
  replace a9 := hx_ HB.out a9
  have bi := Aside0.mk ag
  have bj := Aside0.mk af
  clear ag af
  have bl := Aside0.mk ai
  have bm := Aside0.mk ah
  clear ai ah
  replace p285 := eq_true p285
  replace q285 := eq_true q285
  have p286 : 0 ≤ (a5 : Int) := of_decide_eq_true tq_2
  have q286 : a5 < (a6.length : Int) := of_decide_eq_true tq_2
  obtain ⟨cg, cv, cw, cx, cy, cz, ao, ap, aq, ar, ak, al, b5, b6, b7, b8⟩ := at_T69 HR0_2.out a5 p286 q286
  obtain rfl : bu = cg := (by injection cz)
  replace ao := hx_ HB.out ao
  replace ap := hx_ HB.out ap
  replace aq := hx_ HB.out aq
  replace ar := hx_ HB.out ar
  replace ak := hx_ HB.out ak
  replace al := hx_ HB.out al
  have ck := Aside0.mk b6
  have cl := Aside0.mk b5
  clear b6 b5
  have cm := Aside0.mk b8
  have cn := Aside0.mk b7
  clear b8 b7
  replace p286 := eq_true p286
  replace q286 := eq_true q286
  have ea_ := Option.some.inj (a8.symm.trans ak)
  injection ea_ with ea_ en_ ec_
  subst ea_
  subst ec_
  clear en_
  have ea_ := Option.some.inj (a9.symm.trans al)
  injection ea_ with ea_ en_ ec_
  subst ea_
  subst ec_
  clear en_
  go_wp2
  go_meet
  case rel => exact ⟨_, ((((rd_T69 a6 a5).f0) == 2)), tq_3, H', ⟨tq_37⟩, ⟨(kb_ a7)⟩, ⟨th_⟩⟩
 case rest =>
 clear ct
 try clear c1; try clear c2; try clear p2; try clear q2; try clear hx2; try clear c6; try clear b3; try clear c8; try clear bv; try clear c9; try clear cu; try clear bw; try clear bs; try clear cf; try clear ce; try clear cj; try clear cf; try clear ce; try clear cj; try clear aa; try clear ab; try clear ac; try clear ae; try clear a8; try clear a9; try clear ao; try clear ap; try clear aq; try clear ar; try clear ak; try clear al; try clear p2; try clear p285; try clear p286; try clear q285; try clear q286
 obtain ⟨kq, b4, rfl, HA, HJ6, a7, HB⟩ := hcut
 cases kq with
 | zero => exact absurd HA.out (by simp [spec_l14Above.j2])
 | succ kj6 =>
 have H := HA.out
 clear HA
 simp only [spec_l14Above.j2] at H
 by_cases co : b4 = true
 rotate_left
 ·replace co := Bool.eq_false_iff.mpr co
  subst co
  rw [if_neg nf_] at H
  have H' := Aside0.mk H
  clear H
  go_wp2
  go_roundg kj6
  case measure => have := HK1.out; have := HK2.out; have := HJ6.out; omega
  case rel => exact ⟨(wrap64 (a5 + 1)), tq_3, H', ⟨tq_35⟩, ⟨(kb_ a7)⟩, ⟨th_⟩⟩
 subst co
 rw [if_pos rfl] at H
 obtain ⟨dc, H⟩ := fc_ H
 have dd := decide_eq_true dc
 clear dc
 obtain ⟨de, H⟩ := fc_ H
 have df := decide_eq_true de
 clear de
 obtain ⟨dg, H⟩ := fc_ H
 have dh := decide_eq_true dg
 clear dg
 obtain ⟨di, H⟩ := fc_ H
 have dj := decide_eq_true di
 clear di
 have ch := Aside0.mk H
 clear H
 have d0 := bb3_ a7.out
 have p287 : 0 ≤ (a5 : Int) := of_decide_eq_true tq_2
 have q287 : a5 < (a6.length : Int) := of_decide_eq_true tq_2
 obtain ⟨dk, d1, d2, d3, d4, d5, au, av, aw, ax, ay, az, b9, ba, bb, bc⟩ := at_T69 HR0_2.out a5 p287 q287
 cases d5
 replace au := hx_ HB.out au
 replace av := hx_ HB.out av
 replace aw := hx_ HB.out aw
 replace ax := hx_ HB.out ax
 replace ay := hx_ HB.out ay
 replace az := hx_ HB.out az
 have cp := Aside0.mk ba
 have cq := Aside0.mk b9
 clear ba b9
 have bn := Aside0.mk bc
 have cr := Aside0.mk bb
 clear bc bb
 replace p287 := eq_true p287
 replace q287 := eq_true q287
 have p288 : 0 ≤ (am : Int) := of_decide_eq_true tq_2
 have q288 : am < (((rd_T69 a6 a5).f5).length : Int) := of_decide_eq_true tq_2
 obtain ⟨dl, d6, b0, b1⟩ := at_T72 bn.out am p288 q288
 cases d6
 replace b0 := hx_ HB.out b0
 replace b1 := hx_ HB.out b1
 replace p288 := eq_true p288
 replace q288 := eq_true q288
 go_upto_if 45 with (fail)
 (try clear d0)
 (try clear au av aw ax ay az)
 (try clear b0 b1)
 have H := ch.out
 clear ch
 by_cases cd : ((rd_T72 ((rd_T69 a6 a5).f5) am).f0) = a1
 ·rw [if_pos cd] at H
  have b2 := beq_iff_eq.mpr cd
  have ci := bne_eq_false_iff_eq.mpr cd
  clear cd
  (first | rw [b2] | (simp only [i64_w, i32_w]; rw [b2]) | skip)
  obtain rfl := Option.some.inj H
  go_wp2
  go_ret
  exact ⟨tq_1, th_⟩
 rw [if_neg cd] at H
 have b2 := beq_eq_false_iff_ne.mpr cd
 have ci := bne_iff_ne.mpr cd
 (first | rw [b2] | (simp only [i64_w, i32_w]; rw [b2]) | skip)
 have H' := Aside0.mk H
 clear H
 go_wp2
 go_roundg kj6
 case measure => have := HK1.out; have := HK2.out; have := HJ6.out; omega
 case rel => exact ⟨(wrap64 (am + 1)), tq_3, H', ⟨tq_35⟩, ⟨(kb_ a7)⟩, ⟨th_⟩⟩

/-! ### spec_DepthOf: function 40 -/
def spec_DepthOf.l0 : Nat → Int → Int → Int → List Int → List (S69) → Option (Int)
 | 0, _, _, _, _, _ => none
 | k + 1, x1, x5, a6, a7, a5 => if x5 ≤ (a5.length : Int) then (if x1 = 0 then (some x5) else ((spec_l14Above.f k a6 a7 a5 x1).bind fun a8 => (if a8 < 0 then (some (-1)) else (spec_DepthOf.l0 k a8 (wrap64 (x5 + 1)) a6 a7 a5)))) else (some (-1))
def spec_DepthOf.f (k : Nat) (a5 : Int) (a6 : List Int) (a7 : List (S69)) (a1 : Int) : Option (Int) := spec_DepthOf.l0 k a1 0 a5 a6 a7
set_option maxHeartbeats 8000000 in
set_option maxRecDepth 100000 in
theorem spec_DepthOf.calls (k : Nat) (a9 : Int) (ab : Option Addr) (ac : Nat) (a7 : List Int) (ae : Option Addr) (af : Nat) (a6 : List (S69)) (a1 : Int) (r : Int) (w : World) (ai : Kd.C (Kd.int .i64) w ab a7.length a7) (aj : a7.length ≤ ac) (ak : Kd.C k69 w ae a6.length a6) (al : a6.length ≤ af) (h : spec_DepthOf.f k a9 a7 a6 a1 = some r) :
  Calls Tryz.prog 40 #[.agg #[.int .i64 a9, .slice ab a7.length ac, .slice ae a6.length af], .int .i64 a1] w fun e w' => e = .returned (.int .i64 r) ∧ Below w.heap.size w w' := by
 have hu35 := Tryz.underlying35
 have HR0_1 := Aside0.mk ai
 have ao := Aside0.mk aj
 clear ai aj
 have HR0_2 := Aside0.mk ak
 have ap := Aside0.mk al
 clear ak al
 have HB := Aside0.mk (Below.refl w.heap.size w)
 unfold spec_DepthOf.f at h
 have H := h
 clear h
 have H' := Aside0.mk H
 clear H
 go_enter Tryz.func40, Tryz.ntmps40
 go_wp2_with (first | ((with_reducible refine gate_dst (N := 2) rfl ?_); refine be_ 2 (cs := #[.int .i64 a9, .slice ab a7.length ac, .slice ae a6.length af]) 35 ?_; intro aq hg w3 hbox hb; have z_ := bx0_ th_ hb hbox hg; clear HB; obtain ⟨HB, a5, aw, ax⟩ := z_; clear hb hbox hg))
 go_loopg [1, 5] k (fun kq v1 v5 w' => ∃ (aa : Int) (ag : Int), v1 = .int .i64 aa ∧ v5 = .int .i64 ag ∧ Aside0 (spec_DepthOf.l0 kq aa ag a9 a7 a6 = some r) ∧ Aside0 (kq ≤ k) ∧ Aside0 (w'.heap[aq]? = some (.cells #[.int .i64 a9, (.slice ab a7.length ac), (.slice ae a6.length af)] 35 (0, 0))) ∧ Aside0 (Below w.heap.size w w'))
 case atStart => exact ⟨(a1), (0), tq_3, tq_3, H', ⟨Nat.le_refl _⟩, ⟨(kb_ a5)⟩, ⟨th_⟩⟩
 case round =>
 clear H'
 try clear p2
 obtain ⟨aa, ag, rfl, rfl, HA, HK1, a5, HB⟩ := hrel
 cases gk with
 | zero => exact absurd HA.out (by simp [spec_DepthOf.l0])
 | succ k1 =>
 have H := HA.out
 clear HA
 simp only [spec_DepthOf.l0] at H
 have ay := Aside0.mk H
 clear H
 have b0 := bb3_ a5.out
 go_upto_if 10 with (fail)
 (try clear b0)
 have H := ay.out
 clear ay
 by_cases c6 : ag ≤ (a6.length : Int)
 rotate_left
 ·rw [if_neg c6] at H
  have ah := decide_eq_false c6
  clear c6
  (first | rw [ah] | (simp only [i64_w, i32_w]; rw [ah]) | skip)
  obtain rfl := Option.some.inj H
  go_wp2
  go_ret
  exact ⟨tq_1, th_⟩
 rw [if_pos c6] at H
 have ah := decide_eq_true c6
 clear c6
 (first | rw [ah] | (simp only [i64_w, i32_w]; rw [ah]) | skip)
 by_cases c7 : aa = 0
 ·rw [if_pos c7] at H
  have ar := beq_iff_eq.mpr c7
  have au := bne_eq_false_iff_eq.mpr c7
  clear c7
  obtain rfl := Option.some.inj H
  go_wp2
  go_ret
  exact ⟨tq_1, th_⟩
 rw [if_neg c7] at H
 have ar := beq_eq_false_iff_ne.mpr c7
 have au := bne_iff_ne.mpr c7
 obtain ⟨am, A8, H⟩ := bd_ H
 have az := Aside0.mk H
 clear H
 have av := bb3_ a5.out
 go_upto_if 20 with (first | ((with_reducible refine gate_callee (f := 66) rfl ?_); refine goesL_ (some 18) rfl rfl Tryz.func66 (by kernel_rfl) rfl #[.agg #[.int .i64 a9, .slice ab a7.length ac, .slice ae a6.length af], .int .i64 aa] rfl tq_0 ?_; (with_reducible refine (spec_l14Above.calls k1 a9 _ _ a7 _ _ a6 aa am _ ?side1 ?side2 ?side3 ?side4 A8.out).mono ?_); (case side1 => exact tq_21); (case side2 => exact ao.out); (case side3 => exact tq_27); (case side4 => exact ap.out); rintro e b1 ⟨rfl, hb⟩; refine ⟨_, rfl, ?_⟩; have z_ := bw1_ (kb_ a5) th_ hb; clear a5 HB; obtain ⟨a5, HB⟩ := z_; (try clear hb)))
 (try simp only [Act.put, List.setIfInBounds_toArray, List.set_cons_zero, List.set_cons_succ])
 (try clear av)
 have H := az.out
 clear az
 by_cases an : am < 0
 ·rw [if_pos an] at H
  have a8 := decide_eq_true an
  clear an
  (first | rw [a8] | (simp only [i64_w, i32_w]; rw [a8]) | skip)
  obtain rfl := Option.some.inj H
  go_wp2
  go_ret
  exact ⟨tq_1, th_⟩
 rw [if_neg an] at H
 have a8 := decide_eq_false an
 clear an
 (first | rw [a8] | (simp only [i64_w, i32_w]; rw [a8]) | skip)
 have H' := Aside0.mk H
 clear H
 go_wp2
 go_roundg k1
 case measure => have := HK1.out; omega
 case rel => exact ⟨(am), (wrap64 (ag + 1)), tq_3, tq_3, H', ⟨tq_22⟩, ⟨(kb_ a5)⟩, ⟨th_⟩⟩

/-! ### spec_PagesWith: function 41 -/
def spec_PagesWith.l0 : Nat → List Int → Int → List Int → Int → Option (List Int)
 | 0, _, _, _, _ => none
 | k + 1, x0, x1, x5, x6 => if x6 < (x0.length : Int) then (if 0 ≤ x6 then (if (rd x0 x6) = x1 then (if x5.length < 17592186044416 then (spec_PagesWith.l0 k x0 x1 (x5 ++ [x6]) (wrap64 (x6 + 1))) else (none)) else (spec_PagesWith.l0 k x0 x1 x5 (wrap64 (x6 + 1)))) else (none)) else (some x5)
def spec_PagesWith.f (k : Nat) (l0 : List Int) (a1 : Int) : Option (List Int) := spec_PagesWith.l0 k l0 a1 (([] : List Int)) 0
set_option maxHeartbeats 8000000 in
set_option maxRecDepth 100000 in
theorem spec_PagesWith.calls (k : Nat) (A0 : Option Addr) (c0 : Nat) (l0 : List Int) (a1 : Int) (r : List Int) (w : World) (hr0 : Kd.C (Kd.int .i64) w A0 l0.length l0) (hc0 : l0.length ≤ c0) (h : spec_PagesWith.f k l0 a1 = some r) :
  Calls Tryz.prog 41 #[.slice A0 l0.length c0, .int .i64 a1] w fun e w' => ∃ v0_ : Value, e = .returned (v0_) ∧ Kd.R (Kd.int .i64) 3 w' w.heap.size (fun _ => True) v0_ r ∧ Below w.heap.size w w' := by
 have HR0 := Aside0.mk hr0
 have aj := Aside0.mk hc0
 clear hr0 hc0
 have HB := Aside0.mk (Below.refl w.heap.size w)
 unfold spec_PagesWith.f at h
 have H := h
 clear h
 obtain ⟨aa, hy291⟩ : ∃ y_ : List Int, y_ = (([] : List Int)) := ⟨_, rfl⟩
 replace H : (spec_PagesWith.l0 k l0 a1 aa 0) = some r := by first | (rw [hy291]; with_reducible exact H) | (have H2_ := (Option.bind_some _ _).symm.trans H; rw [hy291]; with_reducible exact H2_) | (have H2_ := (Option.bind_some _ _).symm.trans H; with_reducible exact H2_) | with_reducible exact H | (rw [hy291]; exact H) | exact H
 have Ny291 := Aside0.mk hy291
 clear hy291
 have H' := Aside0.mk H
 clear H
 go_enter Tryz.func41, Tryz.ntmps41
 go_wp2_with (first | ((with_reducible refine gate_dst (N := 7) rfl ?_); refine Kd.R_lit (Kd.int .i64) _ 3 ?hg (N := 7) ?hd (xs := ([] : List Int)) (inner := []) (ok := fun _ => True) (okp := fun _ => True) ?hr ?hp (fun _ hk => hk) trivial (Below.refl _ _) (Nat.le_refl _) (by simp) ?_; (case hd => rfl); (case hg => rfl); (case hr => first | (go_simp; done) | (go_simp; rfl)); (case hp => exact (Reps.none _ _)); intro v292 w3 ho4 hb hg_ hnew_; clear hg_ hnew_; (first | rw [← Ny291.out] at ho4 | (simp only [Int.reduceToNat] at ho4; rw [← Ny291.out] at ho4)); have z_ := p_ (Kd.R_lower ho4 (below_size th_)) <| a_ (below_step th_ hb); clear HB; obtain ⟨HO293, HB⟩ := z_; clear hb ho4))
 go_loopg [5, 6] k (fun kq v5 v6 w' => ∃ (a7 : List Int) (a5 : Int), v6 = .int .i64 a5 ∧ Aside0 (spec_PagesWith.l0 kq l0 a1 a7 a5 = some r) ∧ Aside0 (kq ≤ k) ∧ Aside0 (Kd.R (Kd.int .i64) 3 w' w.heap.size (fun _ => True) v5 a7) ∧ Aside0 (Below w.heap.size w w'))
 case atStart => exact ⟨(aa), (0), tq_3, H', ⟨Nat.le_refl _⟩, ⟨(raR_ HO293)⟩, ⟨th_⟩⟩
 case round =>
 clear H'
 try clear p2; try clear c4
 obtain ⟨a7, a5, rfl, HA, HK1, a9, HB⟩ := hrel
 cases gk with
 | zero => exact absurd HA.out (by simp [spec_PagesWith.l0])
 | succ k1 =>
 have H := HA.out
 clear HA
 simp only [spec_PagesWith.l0] at H
 by_cases c5 : a5 < (l0.length : Int)
 rotate_left
 ·rw [if_neg c5] at H
  have ac := decide_eq_false c5
  clear c5
  obtain rfl := Option.some.inj H
  go_wp2
  go_ret
  exact ⟨_, tq_1, (raR_ a9), th_⟩
 rw [if_pos c5] at H
 have ac := decide_eq_true c5
 clear c5
 obtain ⟨c6, H⟩ := fc_ H
 have ai := decide_eq_true c6
 clear c6
 have ag := Aside0.mk H
 clear H
 have p294 : 0 ≤ (a5 : Int) := of_decide_eq_true tq_2
 have q294 : a5 < (l0.length : Int) := of_decide_eq_true tq_2
 obtain ⟨ah, ae, a6⟩ := Kd.at_int HR0.out a5 p294 q294
 cases ae
 replace a6 := hx_ HB.out a6
 replace p294 := eq_true p294
 replace q294 := eq_true q294
 go_upto_if 19 with (fail)
 (try clear a6)
 have H := ag.out
 clear ag
 by_cases c8 : (rd l0 a5) = a1
 rotate_left
 ·rw [if_neg c8] at H
  have a8 := beq_eq_false_iff_ne.mpr c8
  have af := bne_iff_ne.mpr c8
  (first | rw [a8] | (simp only [i64_w, i32_w]; rw [a8]) | skip)
  have H' := Aside0.mk H
  clear H
  go_wp2
  go_roundg k1
  case measure => have := HK1.out; omega
  case rel => exact ⟨(a7), (wrap64 (a5 + 1)), tq_3, H', ⟨tq_22⟩, ⟨(raR_ a9)⟩, ⟨th_⟩⟩
 rw [if_pos c8] at H
 have a8 := beq_iff_eq.mpr c8
 have af := bne_eq_false_iff_eq.mpr c8
 clear c8
 (first | rw [a8] | (simp only [i64_w, i32_w]; rw [a8]) | skip)
 obtain ⟨c9, H⟩ := fc_ H
 have LMc9 := Aside0.mk c9
 clear c9
 obtain ⟨ab, hy295⟩ : ∃ y_ : List Int, y_ = (a7 ++ [a5]) := ⟨_, rfl⟩
 replace H : (spec_PagesWith.l0 k1 l0 a1 ab (wrap64 (a5 + 1))) = some r := by first | (rw [hy295]; with_reducible exact H) | (have H2_ := (Option.bind_some _ _).symm.trans H; rw [hy295]; with_reducible exact H2_) | (have H2_ := (Option.bind_some _ _).symm.trans H; with_reducible exact H2_) | with_reducible exact H | (rw [hy295]; exact H) | exact H
 have Ny295 := Aside0.mk hy295
 clear hy295
 have H' := Aside0.mk H
 clear H
 go_wp2_with (first | ((with_reducible refine gate_builtin (b := .append) (xs := #[.tmp 20, .tmp 22]) rfl ?_); at_builtin; refine Kd.R_append (Kd.int .i64) (w0 := w) w.heap.size rfl (.tmp 20) (.tmp 22) 24 3 (.int .i64 0) 8 rfl Tryz.underlying24 info3 rfl (by decide) (by omega) u5 a7 a5 [.int .i64 a5] (fun _ => True) (fun _ => False) rfl rfl ?aP (fun _ hk => hk.elim) ?aF ?aO ?aB ?aS ?aL ?_; (case aP => exact rfl); (case aB => exact th_); (case aF => exact (fun _ _ => trivial)); (case aO => exact (raR_ a9)); (case aS => exact (below_size th_)); (case aL => have := LMc9.out; omega); intro v296 ak ho hb hg hat; rw [← Ny295.out] at ho; have z_ := p_ (hb) <| a_ (ho); clear HB a9; obtain ⟨HB, HO297⟩ := z_; clear ho hb hg hat))
 go_roundg k1
 case measure => have := HK1.out; omega
 case rel => exact ⟨(ab), (wrap64 (a5 + 1)), tq_3, H', ⟨tq_22⟩, ⟨(raR_ HO297)⟩, ⟨th_⟩⟩

/-! ### spec_UsersOf: function 42 -/
mutual
def spec_UsersOf.l0 : Nat → Int → Int → Int → Int → List Int → List (S69) → Option (Int)
 | 0, _, _, _, _, _, _ => none
 | k + 1, x1, x5, x6, a6, a7, a5 => if x6 < (a5.length : Int) then (spec_UsersOf.l1 k x1 x5 x6 0 a6 a7 a5) else (some x5)
def spec_UsersOf.l1 : Nat → Int → Int → Int → Int → Int → List Int → List (S69) → Option (Int)
 | 0, _, _, _, _, _, _, _ => none
 | k + 1, x1, x5, x6, x7, a6, a7, a5 => if 0 ≤ x6 then (if x6 < (a5.length : Int) then (if x7 < (((rd_T69 a5 x6).f4).length : Int) then (spec_UsersOf.j2 k x1 x5 x6 x7 (((rd_T69 a5 x6).f0) == 1) a6 a7 a5) else (spec_UsersOf.j2 k x1 x5 x6 x7 false a6 a7 a5)) else (none)) else (none)
def spec_UsersOf.j2 : Nat → Int → Int → Int → Int → Bool → Int → List Int → List (S69) → Option (Int)
 | 0, _, _, _, _, _, _, _, _ => none
 | k + 1, x1, x5, x6, x7, a8, a6, a7, a5 => if a8 = true then (if 0 ≤ x6 then (if x6 < (a5.length : Int) then (if 0 ≤ x7 then (if x7 < (((rd_T69 a5 x6).f4).length : Int) then (if (wrap64 (((rd_T89 ((rd_T69 a5 x6).f4) x7).f0) - 1)) = x1 then (spec_UsersOf.l1 k x1 (wrap64 (x5 + 1)) x6 (wrap64 (x7 + 1)) a6 a7 a5) else (spec_UsersOf.l1 k x1 x5 x6 (wrap64 (x7 + 1)) a6 a7 a5)) else (none)) else (none)) else (none)) else (none)) else (spec_UsersOf.l0 k x1 x5 (wrap64 (x6 + 1)) a6 a7 a5)
end
def spec_UsersOf.f (k : Nat) (a5 : Int) (a6 : List Int) (a7 : List (S69)) (a1 : Int) : Option (Int) := spec_UsersOf.l0 k a1 0 0 a5 a6 a7
set_option maxHeartbeats 8000000 in
set_option maxRecDepth 100000 in
theorem spec_UsersOf.calls (k : Nat) (an : Int) (bf : Option Addr) (bg : Nat) (aj : List Int) (bh : Option Addr) (bi : Nat) (a7 : List (S69)) (a1 : Int) (r : Int) (w : World) (br : Kd.C (Kd.int .i64) w bf aj.length aj) (bs : aj.length ≤ bg) (bu : Kd.C k69 w bh a7.length a7) (bv : a7.length ≤ bi) (h : spec_UsersOf.f k an aj a7 a1 = some r) :
  Calls Tryz.prog 42 #[.agg #[.int .i64 an, .slice bf aj.length bg, .slice bh a7.length bi], .int .i64 a1] w fun e w' => e = .returned (.int .i64 r) ∧ Below w.heap.size w w' := by
 have hu35 := Tryz.underlying35
 have HR0_1 := Aside0.mk br
 have da := Aside0.mk bs
 clear br bs
 have HR0_2 := Aside0.mk bu
 have db := Aside0.mk bv
 clear bu bv
 have HB := Aside0.mk (Below.refl w.heap.size w)
 unfold spec_UsersOf.f at h
 have H := h
 clear h
 have H' := Aside0.mk H
 clear H
 go_enter Tryz.func42, Tryz.ntmps42
 go_wp2_with (first | ((with_reducible refine gate_dst (N := 2) rfl ?_); refine be_ 2 (cs := #[.int .i64 an, .slice bf aj.length bg, .slice bh a7.length bi]) 35 ?_; intro bj hg w3 hbox hb; have z_ := bx0_ th_ hb hbox hg; clear HB; obtain ⟨HB, a6, dc, dd⟩ := z_; clear hb hbox hg))
 go_loopg [5, 6] k (fun kq v5 v6 w' => ∃ (bl : Int) (a5 : Int), v5 = .int .i64 bl ∧ v6 = .int .i64 a5 ∧ Aside0 (spec_UsersOf.l0 kq a1 bl a5 an aj a7 = some r) ∧ Aside0 (kq ≤ k) ∧ Aside0 (w'.heap[bj]? = some (.cells #[.int .i64 an, (.slice bf aj.length bg), (.slice bh a7.length bi)] 35 (0, 0))) ∧ Aside0 (Below w.heap.size w w'))
 case atStart => exact ⟨(0), (0), tq_3, tq_3, H', ⟨Nat.le_refl _⟩, ⟨(kb_ a6)⟩, ⟨th_⟩⟩
 case round =>
 clear H'
 try clear p2
 obtain ⟨bl, a5, rfl, rfl, HA, HK1, a6, HB⟩ := hrel
 cases gk with
 | zero => exact absurd HA.out (by simp [spec_UsersOf.l0])
 | succ k1 =>
 have H := HA.out
 clear HA
 simp only [spec_UsersOf.l0] at H
 have de := Aside0.mk H
 clear H
 have cm := bb3_ a6.out
 go_upto_if 12 with (fail)
 (try clear cm)
 have H := de.out
 clear de
 by_cases c6 : a5 < (a7.length : Int)
 rotate_left
 ·rw [if_neg c6] at H
  have b4 := decide_eq_false c6
  clear c6
  (first | rw [b4] | (simp only [i64_w, i32_w]; rw [b4]) | skip)
  obtain rfl := Option.some.inj H
  go_wp2
  go_ret
  exact ⟨tq_1, th_⟩
 rw [if_pos c6] at H
 have b4 := decide_eq_true c6
 clear c6
 (first | rw [b4] | (simp only [i64_w, i32_w]; rw [b4]) | skip)
 have H' := Aside0.mk H
 clear H
 go_wp2
 go_loopg [5, 7] k1 (fun kq v5 v7 w' => ∃ (b5 : Int) (am : Int), v5 = .int .i64 b5 ∧ v7 = .int .i64 am ∧ Aside0 (spec_UsersOf.l1 kq a1 b5 a5 am an aj a7 = some r) ∧ Aside0 (kq ≤ k1) ∧ Aside0 (w'.heap[bj]? = some (.cells #[.int .i64 an, (.slice bf aj.length bg), (.slice bh a7.length bi)] 35 (0, 0))) ∧ Aside0 (Below w.heap.size w w'))
 case atStart => exact ⟨(bl), (0), tq_3, tq_3, H', ⟨Nat.le_refl _⟩, ⟨(kb_ a6)⟩, ⟨th_⟩⟩
 case round =>
 clear H'
 try clear p2; try clear c4; try clear c6; try clear b4; try clear cm; try clear p2
 obtain ⟨b5, am, rfl, rfl, HA, HK2, a6, HB⟩ := hrel
 cases gk with
 | zero => exact absurd HA.out (by simp [spec_UsersOf.l1])
 | succ k2 =>
 have H := HA.out
 clear HA
 simp only [spec_UsersOf.l1] at H
 have cw := Aside0.mk H
 clear H
 go_upto_region 6 with (fail)
 go_cut [32] (fun v32 wc => ∃ (kq : Nat) (b6 : Bool), v32 = .bool b6 ∧ Aside0 (spec_UsersOf.j2 kq a1 b5 a5 am b6 an aj a7 = some r) ∧ Aside0 (kq ≤ k2) ∧ Aside0 (wc.heap[bj]? = some (.cells #[.int .i64 an, (.slice bf aj.length bg), (.slice bh a7.length bi)] 35 (0, 0))) ∧ Aside0 (Below w.heap.size w wc))
 case first =>
  have H := cw.out
  clear cw
  obtain ⟨c8, H⟩ := fc_ H
  have bz := decide_eq_true c8
  clear c8
  (first | rw [bz] | (simp only [i64_w, i32_w]; rw [bz]) | skip)
  obtain ⟨c9, H⟩ := fc_ H
  have cx := decide_eq_true c9
  clear c9
  by_cases ca : am < (((rd_T69 a7 a5).f4).length : Int)
  rotate_left
  ·rw [if_neg ca] at H
   have bw := decide_eq_false ca
   clear ca
   have H' := Aside0.mk H
   clear H
   have ch := bb3_ a6.out
   have p299 : 0 ≤ (a5 : Int) := of_decide_eq_true tq_2
   have q299 : a5 < (a7.length : Int) := of_decide_eq_true tq_2
   obtain ⟨bx, cb, cc, cd, ce, cf, aa, ab, ac, ae, a8, a9, af, ag, ah, ai⟩ := at_T69 HR0_2.out a5 p299 q299
   cases cf
   replace aa := hx_ HB.out aa
   replace ab := hx_ HB.out ab
   replace ac := hx_ HB.out ac
   replace ae := hx_ HB.out ae
   replace a8 := hx_ HB.out a8
   replace a9 := hx_ HB.out a9
   have bm := Aside0.mk ag
   have bn := Aside0.mk af
   clear ag af
   have bo := Aside0.mk ai
   have bp := Aside0.mk ah
   clear ai ah
   replace p299 := eq_true p299
   replace q299 := eq_true q299
   go_wp2
   go_meet
   case rel => exact ⟨_, (false), tq_3, H', ⟨tq_37⟩, ⟨(kb_ a6)⟩, ⟨th_⟩⟩
  rw [if_pos ca] at H
  have bw := decide_eq_true ca
  clear ca
  have H' := Aside0.mk H
  clear H
  have ci := bb3_ a6.out
  have p299 : 0 ≤ (a5 : Int) := of_decide_eq_true tq_2
  have q299 : a5 < (a7.length : Int) := of_decide_eq_true tq_2
  obtain ⟨bx, cb, cc, cd, ce, cf, aa, ab, ac, ae, a8, a9, af, ag, ah, ai⟩ := at_T69 HR0_2.out a5 p299 q299
  cases cf
  replace aa := hx_ HB.out aa
  replace ab := hx_ HB.out ab
  replace ac := hx_ HB.out ac
  replace ae := hx_ HB.out ae
  replace a8 := hx_ HB.out a8
  replace a9 := hx_ HB.out a9
  have bm := Aside0.mk ag
  have bn := Aside0.mk af
  clear ag af
  have bo := Aside0.mk ai
  have bp := Aside0.mk ah
  clear ai ah
  replace p299 := eq_true p299
  replace q299 := eq_true q299
  have p300 : 0 ≤ (a5 : Int) := of_decide_eq_true tq_2
  have q300 : a5 < (a7.length : Int) := of_decide_eq_true tq_2
  obtain ⟨cj, cy, cz, d0, d1, d2, ao, ap, aq, ar, ak, al, b7, b8, b9, ba⟩ := at_T69 HR0_2.out a5 p300 q300
  obtain rfl : bx = cj := (by injection d2)
  replace ao := hx_ HB.out ao
  replace ap := hx_ HB.out ap
  replace aq := hx_ HB.out aq
  replace ar := hx_ HB.out ar
  replace ak := hx_ HB.out ak
  replace al := hx_ HB.out al
  have cn := Aside0.mk b8
  have co := Aside0.mk b7
  clear b8 b7
  have cp := Aside0.mk ba
  have cq := Aside0.mk b9
  clear ba b9
  replace p300 := eq_true p300
  replace q300 := eq_true q300
  have ea_ := Option.some.inj (a8.symm.trans ak)
  injection ea_ with ea_ en_ ec_
  subst ea_
  subst ec_
  clear en_
  have ea_ := Option.some.inj (a9.symm.trans al)
  injection ea_ with ea_ en_ ec_
  subst ea_
  subst ec_
  clear en_
  go_wp2
  go_meet
  case rel => exact ⟨_, ((((rd_T69 a7 a5).f0) == 1)), tq_3, H', ⟨tq_37⟩, ⟨(kb_ a6)⟩, ⟨th_⟩⟩
 case rest =>
 clear cw
 try clear c1; try clear c2; try clear p2; try clear q2; try clear hx2; try clear c3; try clear p3; try clear q3; try clear hx3; try clear c4; try clear c6; try clear b4; try clear c8; try clear bz; try clear c9; try clear cx; try clear ca; try clear bw; try clear ci; try clear ch; try clear cm; try clear ci; try clear ch; try clear cm; try clear aa; try clear ab; try clear ac; try clear ae; try clear a8; try clear a9; try clear ao; try clear ap; try clear aq; try clear ar; try clear ak; try clear al; try clear p2; try clear p299; try clear p300; try clear q299; try clear q300
 obtain ⟨kq, b6, rfl, HA, HJ6, a6, HB⟩ := hcut
 cases kq with
 | zero => exact absurd HA.out (by simp [spec_UsersOf.j2])
 | succ kj6 =>
 have H := HA.out
 clear HA
 simp only [spec_UsersOf.j2] at H
 by_cases cr : b6 = true
 rotate_left
 ·replace cr := Bool.eq_false_iff.mpr cr
  subst cr
  rw [if_neg nf_] at H
  have H' := Aside0.mk H
  clear H
  go_wp2
  go_roundg kj6
  case measure => have := HK1.out; have := HK2.out; have := HJ6.out; omega
  case rel => exact ⟨(b5), (wrap64 (a5 + 1)), tq_3, tq_3, H', ⟨tq_35⟩, ⟨(kb_ a6)⟩, ⟨th_⟩⟩
 subst cr
 rw [if_pos rfl] at H
 obtain ⟨df, H⟩ := fc_ H
 have dg := decide_eq_true df
 clear df
 obtain ⟨dh, H⟩ := fc_ H
 have di := decide_eq_true dh
 clear dh
 obtain ⟨dj, H⟩ := fc_ H
 have dk := decide_eq_true dj
 clear dj
 obtain ⟨dl, H⟩ := fc_ H
 have dm := decide_eq_true dl
 clear dl
 have ck := Aside0.mk H
 clear H
 have d3 := bb3_ a6.out
 have p301 : 0 ≤ (a5 : Int) := of_decide_eq_true tq_2
 have q301 : a5 < (a7.length : Int) := of_decide_eq_true tq_2
 obtain ⟨dn, d4, d5, d6, d7, d8, au, av, aw, ax, ay, az, bb, bc, bd, be⟩ := at_T69 HR0_2.out a5 p301 q301
 cases d8
 replace au := hx_ HB.out au
 replace av := hx_ HB.out av
 replace aw := hx_ HB.out aw
 replace ax := hx_ HB.out ax
 replace ay := hx_ HB.out ay
 replace az := hx_ HB.out az
 have bq := Aside0.mk bc
 have ct := Aside0.mk bb
 clear bc bb
 have cu := Aside0.mk be
 have cv := Aside0.mk bd
 clear be bd
 replace p301 := eq_true p301
 replace q301 := eq_true q301
 have p302 : 0 ≤ (am : Int) := of_decide_eq_true tq_2
 have q302 : am < (((rd_T69 a7 a5).f4).length : Int) := of_decide_eq_true tq_2
 obtain ⟨dp, d9, b0, b1, b2⟩ := at_T89 bq.out am p302 q302
 cases d9
 replace b0 := hx_ HB.out b0
 replace b1 := hx_ HB.out b1
 replace b2 := hx_ HB.out b2
 replace p302 := eq_true p302
 replace q302 := eq_true q302
 go_upto_if 47 with (fail)
 (try clear d3)
 (try clear au av aw ax ay az)
 (try clear b0 b1 b2)
 have H := ck.out
 clear ck
 by_cases cg : (wrap64 (((rd_T89 ((rd_T69 a7 a5).f4) am).f0) - 1)) = a1
 rotate_left
 ·rw [if_neg cg] at H
  have b3 := beq_eq_false_iff_ne.mpr cg
  have cl := bne_iff_ne.mpr cg
  (first | rw [b3] | (simp only [i64_w, i32_w]; rw [b3]) | skip)
  have H' := Aside0.mk H
  clear H
  go_wp2
  go_roundg kj6
  case measure => have := HK1.out; have := HK2.out; have := HJ6.out; omega
  case rel => exact ⟨(b5), (wrap64 (am + 1)), tq_3, tq_3, H', ⟨tq_35⟩, ⟨(kb_ a6)⟩, ⟨th_⟩⟩
 rw [if_pos cg] at H
 have b3 := beq_iff_eq.mpr cg
 have cl := bne_eq_false_iff_eq.mpr cg
 clear cg
 (first | rw [b3] | (simp only [i64_w, i32_w]; rw [b3]) | skip)
 have H' := Aside0.mk H
 clear H
 go_wp2
 go_roundg kj6
 case measure => have := HK1.out; have := HK2.out; have := HJ6.out; omega
 case rel => exact ⟨(wrap64 (b5 + 1)), (wrap64 (am + 1)), tq_3, tq_3, H', ⟨tq_35⟩, ⟨(kb_ a6)⟩, ⟨th_⟩⟩

end Go.Proofs.YtleoknilacjakaaGreat.PFnExactChanged
