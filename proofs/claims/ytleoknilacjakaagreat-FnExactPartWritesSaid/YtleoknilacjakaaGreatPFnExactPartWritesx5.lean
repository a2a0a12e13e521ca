/- Contracts of Go functions, written by a program of ours over the print of the kit: each says that the call returns what the Lean function beside it computes. Conditions: as each theorem states them. -/
import Derived.Test.YtleoknilacjakaaGreatPkFnExactPartWrites
import Derived.Test.YtleoknilacjakaaGreatPFnExactPartWritesx0
namespace Go.Proofs.YtleoknilacjakaaGreat.PFnExactPartWrites
open Go.RowKit Go.Proofs.YtleoknilacjakaaGreatW.PrintWords Go.Proofs.YtleoknilacjakaaGreatW.PrintLast Go.Proofs.YtleoknilacjakaaGreatW.PrintMore
attribute [local go_sem] max2_int min2_int max_two min_two max_three min_three max_four min_four   -- for this text's walks alone
set_option linter.unusedVariables false
set_option linter.unusedSimpArgs false

/-! ### spec_l14Above: function 66 -/
mutual
def spec_l14Above.l0 : Nat → Int → Int → Int → List Int → List (S69) → Option (Int)
 | 0, _, _, _, _, _ => none
 | k + 1, x1, x5, x168000, x168001, x168002 => if x5 < (x168002.length : Int) then (spec_l14Above.l1 k x1 x5 0 x168000 x168001 x168002) else (some (-1))
def spec_l14Above.l1 : Nat → Int → Int → Int → Int → List Int → List (S69) → Option (Int)
 | 0, _, _, _, _, _, _ => none
 | k + 1, x1, x5, x6, x168000, x168001, x168002 => if 0 ≤ x5 then (if x5 < (x168002.length : Int) then (if x6 < (((rd_T69 x168002 x5).f5).length : Int) then (spec_l14Above.j2 k x1 x5 x6 (((rd_T69 x168002 x5).f0) == 2) x168000 x168001 x168002) else (spec_l14Above.j2 k x1 x5 x6 false x168000 x168001 x168002)) else (none)) else (none)
def spec_l14Above.j2 : Nat → Int → Int → Int → Bool → Int → List Int → List (S69) → Option (Int)
 | 0, _, _, _, _, _, _, _ => none
 | k + 1, x1, x5, x6, x31, x168000, x168001, x168002 => if x31 = true then (if 0 ≤ x5 then (if x5 < (x168002.length : Int) then (if 0 ≤ x6 then (if x6 < (((rd_T69 x168002 x5).f5).length : Int) then (if ((rd_T72 ((rd_T69 x168002 x5).f5) x6).f0) = x1 then (some x5) else (spec_l14Above.l1 k x1 x5 (wrap64 (x6 + 1)) x168000 x168001 x168002)) else (none)) else (none)) else (none)) else (none)) else (spec_l14Above.l0 k x1 (wrap64 (x5 + 1)) x168000 x168001 x168002)
end
def spec_l14Above.f (k : Nat) (a0_0 : Int) (l0_1 : List Int) (l0_2 : List (S69)) (a1 : Int) : Option (Int) := spec_l14Above.l0 k a1 0 a0_0 l0_1 l0_2
set_option maxHeartbeats 8000000 in
set_option maxRecDepth 100000 in
theorem spec_l14Above.calls (k : Nat) (an : Int) (bd : Option Addr) (be : Nat) (aj : List Int) (bf : Option Addr) (bg : Nat) (a6 : List (S69)) (a1 : Int) (r : Int) (w : World) (bo : Kd.C (Kd.int .i64) w bd aj.length aj) (bp : aj.length ≤ be) (bq : Kd.C k69 w bf a6.length a6) (br : a6.length ≤ bg) (h : spec_l14Above.f k an aj a6 a1 = some r) :
  Calls Tryz.prog 66 #[.agg #[.int .i64 an, .slice bd aj.length be, .slice bf a6.length bg], .int .i64 a1] w fun e w' => e = .returned (.int .i64 r) ∧ Below w.heap.size w w' := by
 have hu35 := Tryz.underlying35
 have HR0_1 := Aside0.mk bo
 have d7 := Aside0.mk bp
 clear bo bp
 have HR0_2 := Aside0.mk bq
 have d8 := Aside0.mk br
 clear bq br
 have HB := Aside0.mk (Below.refl w.heap.size w)
 unfold spec_l14Above.f at h
 have H := h
 clear h
 have H' := Aside0.mk H
 clear H
 go_enter Tryz.func66, Tryz.ntmps66
 go_wp2_with (first | ((with_reducible refine gate_dst (N := 2) rfl ?_); refine be_ 2 (cs := #[.int .i64 an, .slice bd aj.length be, .slice bf a6.length bg]) 35 ?_; intro bh hg w3 hbox hb; have z_ := bx0_ th_ hb hbox hg; clear HB; obtain ⟨HB, a7, d9, da⟩ := z_; clear hb hbox hg))
 go_loopg [5] k (fun kq v5 w' => ∃ (a5 : Int), v5 = .int .i64 a5 ∧ Aside0 (spec_l14Above.l0 kq a1 a5 an aj a6 = some r) ∧ Aside0 (kq ≤ k) ∧ Aside0 (w'.heap[bh]? = some (.cells #[.int .i64 an, (.slice bd aj.length be), (.slice bf a6.length bg)] 35 (0, 0))) ∧ Aside0 (Below w.heap.size w w'))
 case atStart => exact ⟨(0), tq_3, H', ⟨Nat.le_refl _⟩, ⟨(kb_ a7)⟩, ⟨th_⟩⟩
 case round =>
 clear H'
 try clear p2
 obtain ⟨a5, rfl, HA, HK1, a7, HB⟩ := hrel
 cases gk with
 | zero => exact absurd HA.out (by simp [spec_l14Above.l0])
 | succ k1 =>
 have H := HA.out
 clear HA
 simp only [spec_l14Above.l0] at H
 have db := Aside0.mk H
 clear H
 have cj := bb3_ a7.out
 go_upto_if 11 with (fail)
 (try clear cj)
 have H := db.out
 clear db
 by_cases c6 : a5 < (a6.length : Int)
 rotate_left
 ·rw [if_neg c6] at H
  have b3 := decide_eq_false c6
  clear c6
  (first | rw [b3] | (simp only [i64_w, i32_w]; rw [b3]) | skip)
  obtain rfl := Option.some.inj H
  go_wp2
  go_ret
  exact ⟨tq_1, th_⟩
 rw [if_pos c6] at H
 have b3 := decide_eq_true c6
 clear c6
 (first | rw [b3] | (simp only [i64_w, i32_w]; rw [b3]) | skip)
 have H' := Aside0.mk H
 clear H
 go_wp2
 go_loopg [6] k1 (fun kq v6 w' => ∃ (am : Int), v6 = .int .i64 am ∧ Aside0 (spec_l14Above.l1 kq a1 a5 am an aj a6 = some r) ∧ Aside0 (kq ≤ k1) ∧ Aside0 (w'.heap[bh]? = some (.cells #[.int .i64 an, (.slice bd aj.length be), (.slice bf a6.length bg)] 35 (0, 0))) ∧ Aside0 (Below w.heap.size w w'))
 case atStart => exact ⟨(0), tq_3, H', ⟨Nat.le_refl _⟩, ⟨(kb_ a7)⟩, ⟨th_⟩⟩
 case round =>
 clear H'
 try clear p2; try clear c6; try clear b3; try clear cj; try clear p2
 obtain ⟨am, rfl, HA, HK2, a7, HB⟩ := hrel
 cases gk with
 | zero => exact absurd HA.out (by simp [spec_l14Above.l1])
 | succ k2 =>
 have H := HA.out
 clear HA
 simp only [spec_l14Above.l1] at H
 have ct := Aside0.mk H
 clear H
 go_upto_region 5 with (fail)
 go_cut [31] (fun v31 wc => ∃ (kq : Nat) (b4 : Bool), v31 = .bool b4 ∧ Aside0 (spec_l14Above.j2 kq a1 a5 am b4 an aj a6 = some r) ∧ Aside0 (kq ≤ k2) ∧ Aside0 (wc.heap[bh]? = some (.cells #[.int .i64 an, (.slice bd aj.length be), (.slice bf a6.length bg)] 35 (0, 0))) ∧ Aside0 (Below w.heap.size w wc))
 case first =>
  have H := ct.out
  clear ct
  obtain ⟨c8, H⟩ := fc_ H
  have bv := decide_eq_true c8
  clear c8
  (first | rw [bv] | (simp only [i64_w, i32_w]; rw [bv]) | skip)
  obtain ⟨c9, H⟩ := fc_ H
  have cu := decide_eq_true c9
  clear c9
  by_cases bw : am < (((rd_T69 a6 a5).f5).length : Int)
  rotate_left
  ·rw [if_neg bw] at H
   have bs := decide_eq_false bw
   clear bw
   have H' := Aside0.mk H
   clear H
   have ce := bb3_ a7.out
   have p168 : 0 ≤ (a5 : Int) := of_decide_eq_true tq_2
   have q168 : a5 < (a6.length : Int) := of_decide_eq_true tq_2
   obtain ⟨bu, bx, bz, ca, cb, cc, aa, ab, ac, ae, a8, a9, af, ag, ah, ai⟩ := at_T69 HR0_2.out a5 p168 q168
   cases cc
   replace aa := hx_ HB.out aa
   replace ab := hx_ HB.out ab
   replace ac := hx_ HB.out ac
   replace ae := hx_ HB.out ae
   replace a8 := hx_ HB.out a8
   replace a9 := hx_ HB.out a9
   have bi := Aside0.mk ag
   have bj := Aside0.mk af
   clear ag af
   have bl := Aside0.mk ai
   have bm := Aside0.mk ah
   clear ai ah
   replace p168 := eq_true p168
   replace q168 := eq_true q168
   go_wp2
   go_meet
   case rel => exact ⟨_, (false), tq_3, H', ⟨tq_22⟩, ⟨(kb_ a7)⟩, ⟨th_⟩⟩
  rw [if_pos bw] at H
  have bs := decide_eq_true bw
  clear bw
  have H' := Aside0.mk H
  clear H
  have cf := bb3_ a7.out
  have p168 : 0 ≤ (a5 : Int) := of_decide_eq_true tq_2
  have q168 : a5 < (a6.length : Int) := of_decide_eq_true tq_2
  obtain ⟨bu, bx, bz, ca, cb, cc, aa, ab, ac, ae, a8, a9, af, ag, ah, ai⟩ := at_T69 HR0_2.out a5 p168 q168
  cases cc
  replace aa := hx_ HB.out aa
  replace ab := hx_ HB.out ab
  replace ac := hx_ HB.out ac
  replace ae := hx_ HB.out ae
  replace a8 := hx_ HB.out a8
  replace a9 := hx_ HB.out a9
  have bi := Aside0.mk ag
  have bj := Aside0.mk af
  clear ag af
  have bl := Aside0.mk ai
  have bm := Aside0.mk ah
  clear ai ah
  replace p168 := eq_true p168
  replace q168 := eq_true q168
  have p169 : 0 ≤ (a5 : Int) := of_decide_eq_true tq_2
  have q169 : a5 < (a6.length : Int) := of_decide_eq_true tq_2
  obtain ⟨cg, cv, cw, cx, cy, cz, ao, ap, aq, ar, ak, al, b5, b6, b7, b8⟩ := at_T69 HR0_2.out a5 p169 q169
  obtain rfl : bu = cg := (by injection cz)
  replace ao := hx_ HB.out ao
  replace ap := hx_ HB.out ap
  replace aq := hx_ HB.out aq
  replace ar := hx_ HB.out ar
  replace ak := hx_ HB.out ak
  replace al := hx_ HB.out al
  have ck := Aside0.mk b6
  have cl := Aside0.mk b5
  clear b6 b5
  have cm := Aside0.mk b8
  have cn := Aside0.mk b7
  clear b8 b7
  replace p169 := eq_true p169
  replace q169 := eq_true q169
  have ea_ := Option.some.inj (a8.symm.trans ak)
  injection ea_ with ea_ en_ ec_
  subst ea_
  subst ec_
  clear en_
  have ea_ := Option.some.inj (a9.symm.trans al)
  injection ea_ with ea_ en_ ec_
  subst ea_
  subst ec_
  clear en_
  go_wp2
  go_meet
  case rel => exact ⟨_, ((((rd_T69 a6 a5).f0) == 2)), tq_3, H', ⟨tq_22⟩, ⟨(kb_ a7)⟩, ⟨th_⟩⟩
 case rest =>
 clear ct
 try clear c1; try clear p1; try clear q1; try clear hx1; try clear p2; try clear c6; try clear b3; try clear c8; try clear bv; try clear c9; try clear cu; try clear bw; try clear bs; try clear cf; try clear ce; try clear cj; try clear cf; try clear ce; try clear cj; try clear aa; try clear ab; try clear ac; try clear ae; try clear a8; try clear a9; try clear ao; try clear ap; try clear aq; try clear ar; try clear ak; try clear al; try clear p168; try clear p169; try clear p2; try clear q168; try clear q169
 obtain ⟨kq, b4, rfl, HA, HJ6, a7, HB⟩ := hcut
 cases kq with
 | zero => exact absurd HA.out (by simp [spec_l14Above.j2])
 | succ kj6 =>
 have H := HA.out
 clear HA
 simp only [spec_l14Above.j2] at H
 by_cases co : b4 = true
 rotate_left
 ·replace co := Bool.eq_false_iff.mpr co
  subst co
  rw [if_neg nf_] at H
  have H' := Aside0.mk H
  clear H
  go_wp2
  go_roundg kj6
  case measure => have := HK1.out; have := HK2.out; have := HJ6.out; omega
  case rel => exact ⟨(wrap64 (a5 + 1)), tq_3, H', ⟨tq_21⟩, ⟨(kb_ a7)⟩, ⟨th_⟩⟩
 subst co
 rw [if_pos rfl] at H
 obtain ⟨dc, H⟩ := fc_ H
 have dd := decide_eq_true dc
 clear dc
 obtain ⟨de, H⟩ := fc_ H
 have df := decide_eq_true de
 clear de
 obtain ⟨dg, H⟩ := fc_ H
 have dh := decide_eq_true dg
 clear dg
 obtain ⟨di, H⟩ := fc_ H
 have dj := decide_eq_true di
 clear di
 have ch := Aside0.mk H
 clear H
 have d0 := bb3_ a7.out
 have p170 : 0 ≤ (a5 : Int) := of_decide_eq_true tq_2
 have q170 : a5 < (a6.length : Int) := of_decide_eq_true tq_2
 obtain ⟨dk, d1, d2, d3, d4, d5, au, av, aw, ax, ay, az, b9, ba, bb, bc⟩ := at_T69 HR0_2.out a5 p170 q170
 cases d5
 replace au := hx_ HB.out au
 replace av := hx_ HB.out av
 replace aw := hx_ HB.out aw
 replace ax := hx_ HB.out ax
 replace ay := hx_ HB.out ay
 replace az := hx_ HB.out az
 have cp := Aside0.mk ba
 have cq := Aside0.mk b9
 clear ba b9
 have bn := Aside0.mk bc
 have cr := Aside0.mk bb
 clear bc bb
 replace p170 := eq_true p170
 replace q170 := eq_true q170
 have p171 : 0 ≤ (am : Int) := of_decide_eq_true tq_2
 have q171 : am < (((rd_T69 a6 a5).f5).length : Int) := of_decide_eq_true tq_2
 obtain ⟨dl, d6, b0, b1⟩ := at_T72 bn.out am p171 q171
 cases d6
 replace b0 := hx_ HB.out b0
 replace b1 := hx_ HB.out b1
 replace p171 := eq_true p171
 replace q171 := eq_true q171
 go_upto_if 45 with (fail)
 (try clear d0)
 (try clear au av aw ax ay az)
 (try clear b0 b1)
 have H := ch.out
 clear ch
 by_cases cd : ((rd_T72 ((rd_T69 a6 a5).f5) am).f0) = a1
 ·rw [if_pos cd] at H
  have b2 := beq_iff_eq.mpr cd
  have ci := bne_eq_false_iff_eq.mpr cd
  clear cd
  (first | rw [b2] | (simp only [i64_w, i32_w]; rw [b2]) | skip)
  obtain rfl := Option.some.inj H
  go_wp2
  go_ret
  exact ⟨tq_1, th_⟩
 rw [if_neg cd] at H
 have b2 := beq_eq_false_iff_ne.mpr cd
 have ci := bne_iff_ne.mpr cd
 (first | rw [b2] | (simp only [i64_w, i32_w]; rw [b2]) | skip)
 have H' := Aside0.mk H
 clear H
 go_wp2
 go_roundg kj6
 case measure => have := HK1.out; have := HK2.out; have := HJ6.out; omega
 case rel => exact ⟨(wrap64 (am + 1)), tq_3, H', ⟨tq_21⟩, ⟨(kb_ a7)⟩, ⟨th_⟩⟩

/-! ### spec_DepthOf: function 40 -/
def spec_DepthOf.l0 : Nat → Int → Int → Int → List Int → List (S69) → Option (Int)
 | 0, _, _, _, _, _ => none
 | k + 1, x1, x5, x173000, x173001, x173002 => if x5 ≤ (x173002.length : Int) then (if x1 = 0 then (some x5) else ((spec_l14Above.f k x173000 x173001 x173002 x1).bind fun t173 => (if t173 < 0 then (some (-1)) else (spec_DepthOf.l0 k t173 (wrap64 (x5 + 1)) x173000 x173001 x173002)))) else (some (-1))
def spec_DepthOf.f (k : Nat) (a0_0 : Int) (l0_1 : List Int) (l0_2 : List (S69)) (a1 : Int) : Option (Int) := spec_DepthOf.l0 k a1 0 a0_0 l0_1 l0_2
set_option maxHeartbeats 8000000 in
set_option maxRecDepth 100000 in
theorem spec_DepthOf.calls (k : Nat) (a9 : Int) (ab : Option Addr) (ac : Nat) (a7 : List Int) (ae : Option Addr) (af : Nat) (a6 : List (S69)) (a1 : Int) (r : Int) (w : World) (ai : Kd.C (Kd.int .i64) w ab a7.length a7) (aj : a7.length ≤ ac) (ak : Kd.C k69 w ae a6.length a6) (al : a6.length ≤ af) (h : spec_DepthOf.f k a9 a7 a6 a1 = some r) :
  Calls Tryz.prog 40 #[.agg #[.int .i64 a9, .slice ab a7.length ac, .slice ae a6.length af], .int .i64 a1] w fun e w' => e = .returned (.int .i64 r) ∧ Below w.heap.size w w' := by
 have hu35 := Tryz.underlying35
 have HR0_1 := Aside0.mk ai
 have ao := Aside0.mk aj
 clear ai aj
 have HR0_2 := Aside0.mk ak
 have ap := Aside0.mk al
 clear ak al
 have HB := Aside0.mk (Below.refl w.heap.size w)
 unfold spec_DepthOf.f at h
 have H := h
 clear h
 have H' := Aside0.mk H
 clear H
 go_enter Tryz.func40, Tryz.ntmps40
 go_wp2_with (first | ((with_reducible refine gate_dst (N := 2) rfl ?_); refine be_ 2 (cs := #[.int .i64 a9, .slice ab a7.length ac, .slice ae a6.length af]) 35 ?_; intro aq hg w3 hbox hb; have z_ := bx0_ th_ hb hbox hg; clear HB; obtain ⟨HB, a5, aw, ax⟩ := z_; clear hb hbox hg))
 go_loopg [1, 5] k (fun kq v1 v5 w' => ∃ (aa : Int) (ag : Int), v1 = .int .i64 aa ∧ v5 = .int .i64 ag ∧ Aside0 (spec_DepthOf.l0 kq aa ag a9 a7 a6 = some r) ∧ Aside0 (kq ≤ k) ∧ Aside0 (w'.heap[aq]? = some (.cells #[.int .i64 a9, (.slice ab a7.length ac), (.slice ae a6.length af)] 35 (0, 0))) ∧ Aside0 (Below w.heap.size w w'))
 case atStart => exact ⟨(a1), (0), tq_3, tq_3, H', ⟨Nat.le_refl _⟩, ⟨(kb_ a5)⟩, ⟨th_⟩⟩
 case round =>
 clear H'
 try clear p2
 obtain ⟨aa, ag, rfl, rfl, HA, HK1, a5, HB⟩ := hrel
 cases gk with
 | zero => exact absurd HA.out (by simp [spec_DepthOf.l0])
 | succ k1 =>
 have H := HA.out
 clear HA
 simp only [spec_DepthOf.l0] at H
 have ay := Aside0.mk H
 clear H
 have b0 := bb3_ a5.out
 go_upto_if 10 with (fail)
 (try clear b0)
 have H := ay.out
 clear ay
 by_cases c6 : ag ≤ (a6.length : Int)
 rotate_left
 ·rw [if_neg c6] at H
  have ah := decide_eq_false c6
  clear c6
  (first | rw [ah] | (simp only [i64_w, i32_w]; rw [ah]) | skip)
  obtain rfl := Option.some.inj H
  go_wp2
  go_ret
  exact ⟨tq_1, th_⟩
 rw [if_pos c6] at H
 have ah := decide_eq_true c6
 clear c6
 (first | rw [ah] | (simp only [i64_w, i32_w]; rw [ah]) | skip)
 by_cases c7 : aa = 0
 ·rw [if_pos c7] at H
  have ar := beq_iff_eq.mpr c7
  have au := bne_eq_false_iff_eq.mpr c7
  clear c7
  obtain rfl := Option.some.inj H
  go_wp2
  go_ret
  exact ⟨tq_1, th_⟩
 rw [if_neg c7] at H
 have ar := beq_eq_false_iff_ne.mpr c7
 have au := bne_iff_ne.mpr c7
 obtain ⟨am, A8, H⟩ := bd_ H
 have az := Aside0.mk H
 clear H
 have av := bb3_ a5.out
 go_upto_if 20 with (first | ((with_reducible refine gate_callee (f := 66) rfl ?_); refine goesL_ (some 18) rfl rfl Tryz.func66 (by kernel_rfl) rfl #[.agg #[.int .i64 a9, .slice ab a7.length ac, .slice ae a6.length af], .int .i64 aa] rfl tq_0 ?_; (with_reducible refine (spec_l14Above.calls k1 a9 _ _ a7 _ _ a6 aa am _ ?side1 ?side2 ?side3 ?side4 A8.out).mono ?_); (case side1 => exact tq_14); (case side2 => exact ao.out); (case side3 => exact tq_16); (case side4 => exact ap.out); rintro e b1 ⟨rfl, hb⟩; refine ⟨_, rfl, ?_⟩; have z_ := bw1_ (kb_ a5) th_ hb; clear a5 HB; obtain ⟨a5, HB⟩ := z_; (try clear hb)))
 (try simp only [Act.put, List.setIfInBounds_toArray, List.set_cons_zero, List.set_cons_succ])
 (try clear av)
 have H := az.out
 clear az
 by_cases an : am < 0
 ·rw [if_pos an] at H
  have a8 := decide_eq_true an
  clear an
  (first | rw [a8] | (simp only [i64_w, i32_w]; rw [a8]) | skip)
  obtain rfl := Option.some.inj H
  go_wp2
  go_ret
  exact ⟨tq_1, th_⟩
 rw [if_neg an] at H
 have a8 := decide_eq_false an
 clear an
 (first | rw [a8] | (simp only [i64_w, i32_w]; rw [a8]) | skip)
 have H' := Aside0.mk H
 clear H
 go_wp2
 go_roundg k1
 case measure => have := HK1.out; omega
 case rel => exact ⟨(am), (wrap64 (ag + 1)), tq_3, tq_3, H', ⟨tq_15⟩, ⟨(kb_ a5)⟩, ⟨th_⟩⟩

/-! ### spec_PagesWith: function 41 -/
def spec_PagesWith.l0 : Nat → List Int → Int → List Int → Int → Option (List Int)
 | 0, _, _, _, _ => none
 | k + 1, x0, x1, x5, x6 => if x6 < (x0.length : Int) then (if 0 ≤ x6 then (if (rd x0 x6) = x1 then (if x5.length < 17592186044416 then (spec_PagesWith.l0 k x0 x1 (x5 ++ [x6]) (wrap64 (x6 + 1))) else (none)) else (spec_PagesWith.l0 k x0 x1 x5 (wrap64 (x6 + 1)))) else (none)) else (some x5)
def spec_PagesWith.f (k : Nat) (l0 : List Int) (a1 : Int) : Option (List Int) := spec_PagesWith.l0 k l0 a1 (([] : List Int)) 0
set_option maxHeartbeats 8000000 in
set_option maxRecDepth 100000 in
theorem spec_PagesWith.calls (k : Nat) (A0 : Option Addr) (c0 : Nat) (l0 : List Int) (a1 : Int) (r : List Int) (w : World) (hr0 : Kd.C (Kd.int .i64) w A0 l0.length l0) (hc0 : l0.length ≤ c0) (h : spec_PagesWith.f k l0 a1 = some r) :
  Calls Tryz.prog 41 #[.slice A0 l0.length c0, .int .i64 a1] w fun e w' => ∃ v0_ : Value, e = .returned (v0_) ∧ Kd.R (Kd.int .i64) 3 w' w.heap.size (fun _ => True) v0_ r ∧ Below w.heap.size w w' := by
 have HR0 := Aside0.mk hr0
 have aj := Aside0.mk hc0
 clear hr0 hc0
 have HB := Aside0.mk (Below.refl w.heap.size w)
 unfold spec_PagesWith.f at h
 have H := h
 clear h
 obtain ⟨aa, hy174⟩ : ∃ y_ : List Int, y_ = (([] : List Int)) := ⟨_, rfl⟩
 replace H : (spec_PagesWith.l0 k l0 a1 aa 0) = some r := by first | (rw [hy174]; with_reducible exact H) | (have H2_ := (Option.bind_some _ _).symm.trans H; rw [hy174]; with_reducible exact H2_) | (have H2_ := (Option.bind_some _ _).symm.trans H; with_reducible exact H2_) | with_reducible exact H | (rw [hy174]; exact H) | exact H
 have Ny174 := Aside0.mk hy174
 clear hy174
 have H' := Aside0.mk H
 clear H
 go_enter Tryz.func41, Tryz.ntmps41
 go_wp2_with (first | ((with_reducible refine gate_dst (N := 7) rfl ?_); refine Kd.R_lit (Kd.int .i64) _ 3 ?hg (N := 7) ?hd (xs := ([] : List Int)) (inner := []) (ok := fun _ => True) (okp := fun _ => True) ?hr ?hp (fun _ hk => hk) trivial (Below.refl _ _) (Nat.le_refl _) (by simp) ?_; (case hd => rfl); (case hg => rfl); (case hr => first | (go_simp; done) | (go_simp; rfl)); (case hp => exact (Reps.none _ _)); intro v175 w3 ho4 hb hg_ hnew_; clear hg_ hnew_; (first | rw [← Ny174.out] at ho4 | (simp only [Int.reduceToNat] at ho4; rw [← Ny174.out] at ho4)); have z_ := p_ (Kd.R_lower ho4 (below_size th_)) <| a_ (below_step th_ hb); clear HB; obtain ⟨HO176, HB⟩ := z_; clear hb ho4))
 go_loopg [5, 6] k (fun kq v5 v6 w' => ∃ (a7 : List Int) (a5 : Int), v6 = .int .i64 a5 ∧ Aside0 (spec_PagesWith.l0 kq l0 a1 a7 a5 = some r) ∧ Aside0 (kq ≤ k) ∧ Aside0 (Kd.R (Kd.int .i64) 3 w' w.heap.size (fun _ => True) v5 a7) ∧ Aside0 (Below w.heap.size w w'))
 case atStart => exact ⟨(aa), (0), tq_3, H', ⟨Nat.le_refl _⟩, ⟨(raR_ HO176)⟩, ⟨th_⟩⟩
 case round =>
 clear H'
 try clear p2; try clear c4
 obtain ⟨a7, a5, rfl, HA, HK1, a9, HB⟩ := hrel
 cases gk with
 | zero => exact absurd HA.out (by simp [spec_PagesWith.l0])
 | succ k1 =>
 have H := HA.out
 clear HA
 simp only [spec_PagesWith.l0] at H
 by_cases c5 : a5 < (l0.length : Int)
 rotate_left
 ·rw [if_neg c5] at H
  have ac := decide_eq_false c5
  clear c5
  obtain rfl := Option.some.inj H
  go_wp2
  go_ret
  exact ⟨_, tq_1, (raR_ a9), th_⟩
 rw [if_pos c5] at H
 have ac := decide_eq_true c5
 clear c5
 obtain ⟨c6, H⟩ := fc_ H
 have ai := decide_eq_true c6
 clear c6
 have ag := Aside0.mk H
 clear H
 have p177 : 0 ≤ (a5 : Int) := of_decide_eq_true tq_2
 have q177 : a5 < (l0.length : Int) := of_decide_eq_true tq_2
 obtain ⟨ah, ae, a6⟩ := Kd.at_int HR0.out a5 p177 q177
 cases ae
 replace a6 := hx_ HB.out a6
 replace p177 := eq_true p177
 replace q177 := eq_true q177
 go_upto_if 19 with (fail)
 (try clear a6)
 have H := ag.out
 clear ag
 by_cases c8 : (rd l0 a5) = a1
 rotate_left
 ·rw [if_neg c8] at H
  have a8 := beq_eq_false_iff_ne.mpr c8
  have af := bne_iff_ne.mpr c8
  (first | rw [a8] | (simp only [i64_w, i32_w]; rw [a8]) | skip)
  have H' := Aside0.mk H
  clear H
  go_wp2
  go_roundg k1
  case measure => have := HK1.out; omega
  case rel => exact ⟨(a7), (wrap64 (a5 + 1)), tq_3, H', ⟨tq_15⟩, ⟨(raR_ a9)⟩, ⟨th_⟩⟩
 rw [if_pos c8] at H
 have a8 := beq_iff_eq.mpr c8
 have af := bne_eq_false_iff_eq.mpr c8
 clear c8
 (first | rw [a8] | (simp only [i64_w, i32_w]; rw [a8]) | skip)
 obtain ⟨c9, H⟩ := fc_ H
 have LMc9 := Aside0.mk c9
 clear c9
 obtain ⟨ab, hy178⟩ : ∃ y_ : List Int, y_ = (a7 ++ [a5]) := ⟨_, rfl⟩
 replace H : (spec_PagesWith.l0 k1 l0 a1 ab (wrap64 (a5 + 1))) = some r := by first | (rw [hy178]; with_reducible exact H) | (have H2_ := (Option.bind_some _ _).symm.trans H; rw [hy178]; with_reducible exact H2_) | (have H2_ := (Option.bind_some _ _).symm.trans H; with_reducible exact H2_) | with_reducible exact H | (rw [hy178]; exact H) | exact H
 have Ny178 := Aside0.mk hy178
 clear hy178
 have H' := Aside0.mk H
 clear H
 go_wp2_with (first | ((with_reducible refine gate_builtin (b := .append) (xs := #[.tmp 20, .tmp 22]) rfl ?_); at_builtin; refine Kd.R_append (Kd.int .i64) (w0 := w) w.heap.size rfl (.tmp 20) (.tmp 22) 24 3 (.int .i64 0) 8 rfl Tryz.underlying24 info3 rfl (by decide) (by omega) u5 a7 a5 [.int .i64 a5] (fun _ => True) (fun _ => False) rfl rfl ?aP (fun _ hk => hk.elim) ?aF ?aO ?aB ?aS ?aL ?_; (case aP => exact rfl); (case aB => exact th_); (case aF => exact (fun _ _ => trivial)); (case aO => exact (raR_ a9)); (case aS => exact (below_size th_)); (case aL => have := LMc9.out; omega); intro v179 ak ho hb hg hat; rw [← Ny178.out] at ho; have z_ := p_ (hb) <| a_ (ho); clear HB a9; obtain ⟨HB, HO180⟩ := z_; clear ho hb hg hat))
 go_roundg k1
 case measure => have := HK1.out; omega
 case rel => exact ⟨(ab), (wrap64 (a5 + 1)), tq_3, H', ⟨tq_15⟩, ⟨(raR_ HO180)⟩, ⟨th_⟩⟩

end Go.Proofs.YtleoknilacjakaaGreat.PFnExactPartWrites
