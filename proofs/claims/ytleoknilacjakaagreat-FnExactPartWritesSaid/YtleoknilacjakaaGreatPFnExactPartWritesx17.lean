/- Contracts of Go functions, written by a program of ours over the print of the kit: each says that the call returns what the Lean function beside it computes. Conditions: as each theorem states them. -/
import Derived.Test.YtleoknilacjakaaGreatPkFnExactPartWrites
import Derived.Test.YtleoknilacjakaaGreatPFnExactPartWritesx0
import Derived.Test.YtleoknilacjakaaGreatPFnExactPartWritesx12
import Derived.Test.YtleoknilacjakaaGreatPFnExactPartWritesx15
import Derived.Test.YtleoknilacjakaaGreatPFnExactPartWritesx16
namespace Go.Proofs.YtleoknilacjakaaGreat.PFnExactPartWrites
open Go.RowKit Go.Proofs.YtleoknilacjakaaGreatW.PrintWords Go.Proofs.YtleoknilacjakaaGreatW.PrintLast Go.Proofs.YtleoknilacjakaaGreatW.PrintMore
attribute [local go_sem] max2_int min2_int max_two min_two max_three min_three max_four min_four   -- for this text's walks alone
set_option linter.unusedVariables false
set_option linter.unusedSimpArgs false

/-! ### impl_areInodes: function 51 -/
mutual
def impl_areInodes.l0 : Nat → List (S69) → Int → Int → Int → List Int → List (S69) → Option (Bool)
 | 0, _, _, _, _, _, _ => none
 | k + 1, x7, x8, x9, x440000, x440001, x440002 => if x9 < x8 then (if 0 ≤ x9 then (if x9 < (x7.length : Int) then ((impl_LinksTo.f k x440000 x440001 x440002 x9).bind fun t442 => ((impl_InodeOk.f k ((rd_T69 x7 x9).f0) ((rd_T69 x7 x9).f1) ((rd_T69 x7 x9).f2) ((rd_T69 x7 x9).f3) ((rd_T69 x7 x9).f4) ((rd_T69 x7 x9).f5)).bind fun t443 => (if t443 = true then ((slices_ContainsFunc_Entry_g78.f ((rd_T69 x7 x9).f5) x440000 x440001 x440002).bind fun t444 => (impl_areInodes.j1 k x9 t442 x7 x8 x9 t444 x440000 x440001 x440002 ((rd_T69 x7 x9).f0) ((rd_T69 x7 x9).f1) ((rd_T69 x7 x9).f2) ((rd_T69 x7 x9).f3) ((rd_T69 x7 x9).f4) ((rd_T69 x7 x9).f5))) else (impl_areInodes.j1 k x9 t442 x7 x8 x9 (!t443) x440000 x440001 x440002 ((rd_T69 x7 x9).f0) ((rd_T69 x7 x9).f1) ((rd_T69 x7 x9).f2) ((rd_T69 x7 x9).f3) ((rd_T69 x7 x9).f4) ((rd_T69 x7 x9).f5))))) else (none)) else (none)) else (some true)
def impl_areInodes.j1 : Nat → Int → Int → List (S69) → Int → Int → Bool → Int → List Int → List (S69) → Int → Int → Int → ByteArray → List (S89) → List (S72) → Option (Bool)
 | 0, _, _, _, _, _, _, _, _, _, _, _, _, _, _, _ => none
 | k + 1, x3, x5, x7, x8, x9, x17, x440000, x440001, x440002, x442000, x442001, x442002, x442003, x442004, x442005 => if x17 = true then (some false) else (if x3 = 0 then (if x442000 = 2 then (if x5 = 0 then (impl_areInodes.l0 k x7 x8 (wrap64 (x9 + 1)) x440000 x440001 x440002) else (some false)) else (some false)) else (if x442000 = 0 then (if x5 = 0 then (impl_areInodes.l0 k x7 x8 (wrap64 (x9 + 1)) x440000 x440001 x440002) else (some false)) else (if x5 = 1 then ((impl_DepthOf.f k x440000 x440001 x440002 x3).bind fun t445 => (if t445 < 0 then (some false) else (impl_areInodes.l0 k x7 x8 (wrap64 (x9 + 1)) x440000 x440001 x440002))) else (some false))))
end
def impl_areInodes.f (k : Nat) (a0_0 : Int) (l0_1 : List Int) (l0_2 : List (S69)) : Option (Bool) := impl_areInodes.l0 k l0_2 (l0_2.length : Int) 0 a0_0 l0_1 l0_2
set_option maxHeartbeats 8000000 in
set_option maxRecDepth 100000 in
theorem impl_areInodes.calls (k : Nat) (ak : Int) (aw : Option Addr) (ax : Nat) (aa : List Int) (ba : Option Addr) (ay : Nat) (a5 : List (S69)) (r : Bool) (w : World) (bd : Kd.C (Kd.int .i64) w aw aa.length aa) (be : aa.length ≤ ax) (bf : Kd.C k69 w ba a5.length a5) (bg : a5.length ≤ ay) (h : impl_areInodes.f k ak aa a5 = some r) :
  Calls Tryz.prog 51 #[.agg #[.int .i64 ak, .slice aw aa.length ax, .slice ba a5.length ay]] w fun e w' => e = .returned (.bool r) ∧ Below w.heap.size w w' := by
 have hu35 := Tryz.underlying35
 have hu69 := Tryz.underlying69
 have HR0_1 := Aside0.mk bd
 have bh := Aside0.mk be
 clear bd be
 have HR0_2 := Aside0.mk bf
 have bi := Aside0.mk bg
 clear bf bg
 have HB := Aside0.mk (Below.refl w.heap.size w)
 unfold impl_areInodes.f at h
 have H := h
 clear h
 have H' := Aside0.mk H
 clear H
 go_enter Tryz.func51, Tryz.ntmps51
 go_wp2_with (first | ((with_reducible refine gate_dst (N := 1) rfl ?_); refine be_ 1 (cs := #[.int .i64 ak, .slice aw aa.length ax, .slice ba a5.length ay]) 35 ?_; intro aq hg w2 hbox hb; have z_ := bx0_ th_ hb hbox hg; clear HB; obtain ⟨HB, a7, cx, cy⟩ := z_; clear hb hbox hg; have bl := bb3_ a7.out))
 go_loopg [9] k (fun kq v9 w' => ∃ (a6 : Int), v9 = .int .i64 a6 ∧ Aside0 (impl_areInodes.l0 kq a5 (a5.length : Int) a6 ak aa a5 = some r) ∧ Aside0 (kq ≤ k) ∧ Aside0 (w'.heap[aq]? = some (.cells #[.int .i64 ak, (.slice aw aa.length ax), (.slice ba a5.length ay)] 35 (0, 0))) ∧ Aside0 (Below w.heap.size w w'))
 case atStart => exact ⟨(0), tq_3, H', ⟨Nat.le_refl _⟩, ⟨(kb_ a7)⟩, ⟨th_⟩⟩
 case round =>
 clear H'
 try clear p2; try clear bl
 obtain ⟨a6, rfl, HA, HK1, a7, HB⟩ := hrel
 cases gk with
 | zero => exact absurd HA.out (by simp [impl_areInodes.l0])
 | succ k1 =>
 have H := HA.out
 clear HA
 simp only [impl_areInodes.l0] at H
 by_cases c4 : a6 < (a5.length : Int)
 rotate_left
 ·rw [if_neg c4] at H
  have bu := decide_eq_false c4
  clear c4
  obtain rfl := Option.some.inj H
  go_wp2
  go_ret
  exact ⟨tq_1, th_⟩
 rw [if_pos c4] at H
 have bu := decide_eq_true c4
 clear c4
 obtain ⟨c5, H⟩ := fc_ H
 have cr := decide_eq_true c5
 clear c5
 obtain ⟨c6, H⟩ := fc_ H
 have ct := decide_eq_true c6
 clear c6
 obtain ⟨b8, A7, H⟩ := bd_ H
 obtain ⟨bv, A8, H⟩ := bd_ H
 have cu := Aside0.mk H
 clear H
 have p440 : 0 ≤ (a6 : Int) := of_decide_eq_true tq_2
 have q440 : a6 < (a5.length : Int) := of_decide_eq_true tq_2
 obtain ⟨b9, am, an, ao, ap, cv, ab, ac, ae, af, ag, ah, az, b0, b1, b2⟩ := at_T69 HR0_2.out a6 p440 q440
 cases cv
 replace ab := hx_ HB.out ab
 replace ac := hx_ HB.out ac
 replace ae := hx_ HB.out ae
 replace af := hx_ HB.out af
 replace ag := hx_ HB.out ag
 replace ah := hx_ HB.out ah
 have bb := Aside0.mk b0
 have bc := Aside0.mk az
 clear b0 az
 have HR440_5 := Aside0.mk b2
 have b3 := Aside0.mk b1
 clear b2 b1
 replace p440 := eq_true p440
 replace q440 := eq_true q440
 go_upto_if 17 with (first | ((with_reducible refine gate_dst (N := 4) rfl ?_); refine be_ 4 (cs := #[.int .i64 0, .int .i64 0, .int .i64 0, .string (⟨#[]⟩ : ByteArray), .slice none 0 0, .slice none 0 0]) 69 ?_; intro bj hg d4 hbox hb; have z_ := bx1_ (kb_ a7) th_ hb hbox hg; clear a7 HB; obtain ⟨a7, HB, a8, cz, d0, a9, al⟩ := z_; clear hb hbox hg; obtain ⟨ai, aj⟩ := an2_ al a9; have b5 := bb6_ a8.out; have b6 := bb3_ a7.out) | ((with_reducible refine gate_callee (f := 75) rfl ?_); refine goesL_ (some 16) rfl rfl Tryz.func75 (by kernel_rfl) rfl #[.agg #[.int .i64 ak, .slice aw aa.length ax, .slice (some b9) a5.length ay], .int .i64 a6] rfl tq_0 ?_; (with_reducible refine (impl_LinksTo.calls k1 ak _ _ aa _ _ a5 a6 b8 _ ?side1 ?side2 ?side3 ?side4 A7.out).mono ?_); (case side1 => exact Kd.C_below HR0_1.out th_); (case side2 => exact bh.out); (case side3 => exact Kd.C_below HR0_2.out th_); (case side4 => exact bi.out); rintro e d5 ⟨rfl, hb⟩; refine ⟨_, rfl, ?_⟩; have z_ := p_ (blk_below (g := aq) (o := .cells #[.int .i64 ak, .slice aw aa.length ax, .slice (some b9) a5.length ay] 35 (0, 0)) (by (with_reducible repeat (first | refine blk_drewN ?_ _ | refine blk_drew ?_ | refine blk_alloc ?_ _)); refine blk_far ?_ a9.out _; (with_reducible repeat (first | refine blk_drewN ?_ _ | refine blk_drew ?_ | refine blk_alloc ?_ _)); refine blk_far ?_ a9.out _; (with_reducible repeat (first | refine blk_drewN ?_ _ | refine blk_drew ?_ | refine blk_alloc ?_ _)); refine blk_far ?_ a9.out _; (with_reducible repeat (first | refine blk_drewN ?_ _ | refine blk_drew ?_ | refine blk_alloc ?_ _)); refine blk_far ?_ a9.out _; (with_reducible repeat (first | refine blk_drewN ?_ _ | refine blk_drew ?_ | refine blk_alloc ?_ _)); refine blk_far ?_ a9.out _; (with_reducible repeat (first | refine blk_drewN ?_ _ | refine blk_drew ?_ | refine blk_alloc ?_ _)); refine blk_far ?_ a9.out _; (with_reducible repeat (first | refine blk_drewN ?_ _ | refine blk_drew ?_ | refine blk_alloc ?_ _)); exact a7.out) hb) <| p_ (blk_below (g := bj) (o := .cells #[.int .i64 ((rd_T69 a5 a6).f0), .int .i64 ((rd_T69 a5 a6).f1), .int .i64 ((rd_T69 a5 a6).f2), .string ((rd_T69 a5 a6).f3), .slice am ((rd_T69 a5 a6).f4).length an, .slice ao ((rd_T69 a5 a6).f5).length ap] 69 (0, 0)) (by (with_reducible repeat (first | refine blk_drewN ?_ _ | refine blk_drew ?_ | refine blk_alloc ?_ _)); refine blk_put (cs := #[.int .i64 ((rd_T69 a5 a6).f0), .int .i64 ((rd_T69 a5 a6).f1), .int .i64 ((rd_T69 a5 a6).f2), .string ((rd_T69 a5 a6).f3), .slice am ((rd_T69 a5 a6).f4).length an, .slice none 0 0]) ?_ 5 _ rfl; (with_reducible repeat (first | refine blk_drewN ?_ _ | refine blk_drew ?_ | refine blk_alloc ?_ _)); refine blk_put (cs := #[.int .i64 ((rd_T69 a5 a6).f0), .int .i64 ((rd_T69 a5 a6).f1), .int .i64 ((rd_T69 a5 a6).f2), .string ((rd_T69 a5 a6).f3), .slice none 0 0, .slice none 0 0]) ?_ 4 _ rfl; (with_reducible repeat (first | refine blk_drewN ?_ _ | refine blk_drew ?_ | refine blk_alloc ?_ _)); refine blk_put (cs := #[.int .i64 ((rd_T69 a5 a6).f0), .int .i64 ((rd_T69 a5 a6).f1), .int .i64 ((rd_T69 a5 a6).f2), .string (⟨#[]⟩ : ByteArray), .slice none 0 0, .slice none 0 0]) ?_ 3 _ rfl; (with_reducible repeat (first | refine blk_drewN ?_ _ | refine blk_drew ?_ | refine blk_alloc ?_ _)); refine blk_put (cs := #[.int .i64 ((rd_T69 a5 a6).f0), .int .i64 ((rd_T69 a5 a6).f1), .int .i64 0, .string (⟨#[]⟩ : ByteArray), .slice none 0 0, .slice none 0 0]) ?_ 2 _ rfl; (with_reducible repeat (first | refine blk_drewN ?_ _ | refine blk_drew ?_ | refine blk_alloc ?_ _)); refine blk_put (cs := #[.int .i64 ((rd_T69 a5 a6).f0), .int .i64 0, .int .i64 0, .string (⟨#[]⟩ : ByteArray), .slice none 0 0, .slice none 0 0]) ?_ 1 _ rfl; (with_reducible repeat (first | refine blk_drewN ?_ _ | refine blk_drew ?_ | refine blk_alloc ?_ _)); refine blk_put (cs := #[.int .i64 0, .int .i64 0, .int .i64 0, .string (⟨#[]⟩ : ByteArray), .slice none 0 0, .slice none 0 0]) ?_ 0 _ rfl; (with_reducible repeat (first | refine blk_drewN ?_ _ | refine blk_drew ?_ | refine blk_alloc ?_ _)); exact a8.out) hb) <| a_ (below_step th_ hb); clear a7 a8 HB; obtain ⟨a7, a8, HB⟩ := z_; (try clear hb); have b7 := bb6_ a8.out) | ((with_reducible refine gate_callee (f := 76) rfl ?_); refine goesL_ (some 19) rfl rfl Tryz.func76 (by kernel_rfl) rfl #[.agg #[.int .i64 ((rd_T69 a5 a6).f0), .int .i64 ((rd_T69 a5 a6).f1), .int .i64 ((rd_T69 a5 a6).f2), .string ((rd_T69 a5 a6).f3), .slice am ((rd_T69 a5 a6).f4).length an, .slice ao ((rd_T69 a5 a6).f5).length ap]] rfl tq_0 ?_; (with_reducible refine (impl_InodeOk.calls k1 ((rd_T69 a5 a6).f0) ((rd_T69 a5 a6).f1) ((rd_T69 a5 a6).f2) ((rd_T69 a5 a6).f3) _ _ ((rd_T69 a5 a6).f4) _ _ ((rd_T69 a5 a6).f5) bv _ ?side1 ?side2 ?side3 ?side4 A8.out).mono ?_); (case side1 => repeat (first | exact (Kd.C_below bb.out HB.out) | (with_reducible refine Kd.C_alloc ?_ _) | (with_reducible refine Kd.C_drewN ?_ _) | (with_reducible refine Kd.C_drew ?_))); (case side2 => exact bc.out); (case side3 => exact tq_37); (case side4 => exact b3.out); rintro e d6 ⟨rfl, hb⟩; refine ⟨_, rfl, ?_⟩; have z_ := bw2_ (kb_ a7) (kb_ a8) th_ hb; clear a7 a8 HB; obtain ⟨a7, a8, HB⟩ := z_; (try clear hb)))
 (try simp only [Act.put, List.setIfInBounds_toArray, List.set_cons_zero, List.set_cons_succ])
 go_cut [17] (fun v17 wc => ∃ (kq : Nat) (b4 : Bool), v17 = .bool b4 ∧ Aside0 (impl_areInodes.j1 kq a6 b8 a5 (a5.length : Int) a6 b4 ak aa a5 ((rd_T69 a5 a6).f0) ((rd_T69 a5 a6).f1) ((rd_T69 a5 a6).f2) ((rd_T69 a5 a6).f3) ((rd_T69 a5 a6).f4) ((rd_T69 a5 a6).f5) = some r) ∧ Aside0 (kq ≤ k1) ∧ Aside0 (wc.heap[aq]? = some (.cells #[.int .i64 ak, (.slice aw aa.length ax), (.slice (some b9) a5.length ay)] 35 (0, 0))) ∧ Aside0 (wc.heap[bj]? = some (.cells #[.int .i64 ((rd_T69 a5 a6).f0), .int .i64 ((rd_T69 a5 a6).f1), .int .i64 ((rd_T69 a5 a6).f2), .string ((rd_T69 a5 a6).f3), (.slice am ((rd_T69 a5 a6).f4).length an), (.slice ao ((rd_T69 a5 a6).f5).length ap)] 69 (0, 0))) ∧ Aside0 (Below w.heap.size w wc))
 case first =>
  have H := cu.out
  clear cu
  by_cases bw : bv = true
  rotate_left
  ·replace bw := Bool.eq_false_iff.mpr bw
   subst bw
   rw [if_neg nf_] at H
   have H' := Aside0.mk H
   clear H
   go_wp2
   go_meet
   case rel => exact ⟨_, (!false), tq_3, H', ⟨(by have := HK1.out; first | omega | exact Nat.le_refl _)⟩, ⟨(kb_ a7)⟩, ⟨(kb_ a8)⟩, ⟨th_⟩⟩
  subst bw
  rw [if_pos rfl] at H
  obtain ⟨bx, d1, H⟩ := bd_ H
  have H' := Aside0.mk H
  clear H
  have bz := bb6_ a8.out
  go_wp2_with (first | ((with_reducible refine gate_callee (f := 77) rfl ?_); refine goesL_ (some 24) rfl rfl Tryz.func77 (by kernel_rfl) rfl #[.slice ao ((rd_T69 a5 a6).f5).length ap, .func (.func 78) #[] #[.pointer (some ⟨aq, 0, none⟩)]] rfl tq_0 ?_; (with_reducible refine (slices_ContainsFunc_Entry_g78.calls _ _ ((rd_T69 a5 a6).f5) aq ak ?cal0_1 ?cnl0_1 aa ?cal0_2 ?cnl0_2 a5 bx _ ?side1 ?side2 ?side3 d1.out).mono ?_); (case side1 => exact tq_37); (case side2 => exact b3.out); (case side3 => (with_reducible repeat (first | refine blk_drewN ?_ _ | refine blk_drew ?_ | refine blk_alloc ?_ _)); exact a7.out); rintro e d7 ⟨rfl, hb⟩; refine ⟨_, rfl, ?_⟩; have z_ := bw2_ (kb_ a7) (kb_ a8) th_ hb; clear a7 a8 HB; obtain ⟨a7, a8, HB⟩ := z_; (try clear hb)))
  go_meet
  case rel => exact ⟨_, (bx), tq_3, H', ⟨(by have := HK1.out; first | omega | exact Nat.le_refl _)⟩, ⟨(kb_ a7)⟩, ⟨(kb_ a8)⟩, ⟨th_⟩⟩
 case rest =>
 clear cu
 try clear c1; try clear p2; try clear c4; try clear bu; try clear p4; try clear q4; try clear hx4; try clear c5; try clear cr; try clear c6; try clear ct; try clear c7; try clear d8; try clear bw; try clear d9; try clear b5; try clear b6; try clear b7; try clear bz; try clear bl; try clear b5; try clear b6; try clear b7; try clear bz; try clear bl; try clear ab; try clear ac; try clear ae; try clear af; try clear ag; try clear ah; try clear p2; try clear p440; try clear q440
 obtain ⟨kq, b4, rfl, HA, HJ8, a7, a8, HB⟩ := hcut
 cases kq with
 | zero => exact absurd HA.out (by simp [impl_areInodes.j1])
 | succ kj8 =>
 have H := HA.out
 clear HA
 simp only [impl_areInodes.j1] at H
 by_cases cq : b4 = true
 ·subst cq
  rw [if_pos rfl] at H
  obtain rfl := Option.some.inj H
  go_wp2
  go_ret
  exact ⟨tq_1, th_⟩
 replace cq := Bool.eq_false_iff.mpr cq
 subst cq
 rw [if_neg nf_] at H
 by_cases bm : a6 = 0
 ·rw [if_pos bm] at H
  have ca := beq_iff_eq.mpr bm
  have cb := bne_eq_false_iff_eq.mpr bm
  clear bm
  by_cases bn : ((rd_T69 a5 a6).f0) = 2
  rotate_left
  ·rw [if_neg bn] at H
   have cc := beq_eq_false_iff_ne.mpr bn
   have cd := bne_iff_ne.mpr bn
   obtain rfl := Option.some.inj H
   have d2 := bb6_ a8.out
   go_wp2
   go_ret
   exact ⟨tq_1, th_⟩
  rw [if_pos bn] at H
  have cc := beq_iff_eq.mpr bn
  have cd := bne_eq_false_iff_eq.mpr bn
  clear bn
  have ce := Aside0.mk H
  clear H
  have cf := bb6_ a8.out
  go_upto_if 34 with (fail)
  (try clear aj ai)
  (try clear b5)
  (try clear b6)
  (try clear b7)
  (try clear cf)
  (try clear bl)
  (try clear b5)
  (try clear b6)
  (try clear b7)
  (try clear cf)
  (try clear bl)
  (try clear ab ac ae af ag ah)
  have H := ce.out
  clear ce
  by_cases bo : b8 = 0
  rotate_left
  ·rw [if_neg bo] at H
   have ar := beq_eq_false_iff_ne.mpr bo
   have cg := bne_iff_ne.mpr bo
   (first | rw [ar] | (simp only [i64_w, i32_w]; rw [ar]) | skip)
   obtain rfl := Option.some.inj H
   go_wp2
   go_ret
   exact ⟨tq_1, th_⟩
  rw [if_pos bo] at H
  have ar := beq_iff_eq.mpr bo
  have cg := bne_eq_false_iff_eq.mpr bo
  clear bo
  (first | rw [ar] | (simp only [i64_w, i32_w]; rw [ar]) | skip)
  have H' := Aside0.mk H
  clear H
  go_wp2
  go_roundg kj8
  case measure => have := HK1.out; have := HJ8.out; omega
  case rel => exact ⟨(wrap64 (a6 + 1)), tq_3, H', ⟨(by have := HK1.out; have := HJ8.out; omega)⟩, ⟨(kb_ a7)⟩, ⟨th_⟩⟩
 rw [if_neg bm] at H
 have ca := beq_eq_false_iff_ne.mpr bm
 have cb := bne_iff_ne.mpr bm
 have ch := Aside0.mk H
 clear H
 have ci := bb6_ a8.out
 go_upto_if 35 with (fail)
 (try clear aj ai)
 (try clear b5)
 (try clear b6)
 (try clear b7)
 (try clear bl)
 (try clear ci)
 (try clear b5)
 (try clear b6)
 (try clear b7)
 (try clear bl)
 (try clear ci)
 (try clear ab ac ae af ag ah)
 have H := ch.out
 clear ch
 by_cases bp : ((rd_T69 a5 a6).f0) = 0
 ·rw [if_pos bp] at H
  have au := beq_iff_eq.mpr bp
  have cj := bne_eq_false_iff_eq.mpr bp
  clear bp
  (first | rw [au] | (simp only [i64_w, i32_w]; rw [au]) | skip)
  by_cases bq : b8 = 0
  rotate_left
  ·rw [if_neg bq] at H
   have ck := beq_eq_false_iff_ne.mpr bq
   have cl := bne_iff_ne.mpr bq
   obtain rfl := Option.some.inj H
   go_wp2
   go_ret
   exact ⟨tq_1, th_⟩
  rw [if_pos bq] at H
  have ck := beq_iff_eq.mpr bq
  have cl := bne_eq_false_iff_eq.mpr bq
  clear bq
  have H' := Aside0.mk H
  clear H
  go_wp2
  go_roundg kj8
  case measure => have := HK1.out; have := HJ8.out; omega
  case rel => exact ⟨(wrap64 (a6 + 1)), tq_3, H', ⟨(by have := HK1.out; have := HJ8.out; omega)⟩, ⟨(kb_ a7)⟩, ⟨th_⟩⟩
 rw [if_neg bp] at H
 have au := beq_eq_false_iff_ne.mpr bp
 have cj := bne_iff_ne.mpr bp
 (first | rw [au] | (simp only [i64_w, i32_w]; rw [au]) | skip)
 by_cases br : b8 = 1
 rotate_left
 ·rw [if_neg br] at H
  have cm := beq_eq_false_iff_ne.mpr br
  have cn := bne_iff_ne.mpr br
  obtain rfl := Option.some.inj H
  go_wp2
  go_ret
  exact ⟨tq_1, th_⟩
 rw [if_pos br] at H
 have cm := beq_iff_eq.mpr br
 have cn := bne_eq_false_iff_eq.mpr br
 clear br
 obtain ⟨co, d3, H⟩ := bd_ H
 have cp := Aside0.mk H
 clear H
 obtain ⟨aj, ai⟩ := an2_ a9 al
 have cw := bb3_ a7.out
 go_upto_if 41 with (first | (go_at_call 79; (with_reducible refine (impl_DepthOf.calls kj8 ak _ _ aa _ _ a5 a6 co _ ?side1 ?side2 ?side3 ?side4 d3.out).mono ?_); (case side1 => exact tq_14); (case side2 => exact bh.out); (case side3 => exact tq_16); (case side4 => exact bi.out); rintro e da ⟨rfl, hb⟩; have z_ := bw2_ (kb_ a7) (kb_ a8) th_ hb; clear a7 a8 HB; obtain ⟨a7, a8, HB⟩ := z_; (try clear hb)))
 (try simp only [Act.put, List.setIfInBounds_toArray, List.set_cons_zero, List.set_cons_succ])
 (try clear aj ai)
 (try clear cw)
 have H := cp.out
 clear cp
 by_cases bs : co < 0
 ·rw [if_pos bs] at H
  have av := decide_eq_true bs
  clear bs
  (first | rw [av] | (simp only [i64_w, i32_w]; rw [av]) | skip)
  obtain rfl := Option.some.inj H
  go_wp2
  go_ret
  exact ⟨tq_1, th_⟩
 rw [if_neg bs] at H
 have av := decide_eq_false bs
 clear bs
 (first | rw [av] | (simp only [i64_w, i32_w]; rw [av]) | skip)
 have H' := Aside0.mk H
 clear H
 go_wp2
 go_roundg kj8
 case measure => have := HK1.out; have := HJ8.out; omega
 case rel => exact ⟨(wrap64 (a6 + 1)), tq_3, H', ⟨(by have := HK1.out; have := HJ8.out; omega)⟩, ⟨(kb_ a7)⟩, ⟨th_⟩⟩

/-! ### impl_UsersOf: function 52 -/
mutual
def impl_UsersOf.l0 : Nat → Int → Int → List (S69) → Int → Int → Option (Int)
 | 0, _, _, _, _, _ => none
 | k + 1, x1, x5, x11, x12, x13 => if x13 < x12 then (if 0 ≤ x13 then (if x13 < (x11.length : Int) then (impl_UsersOf.l1 k x1 x5 x11 x12 x13 ((rd_T69 x11 x13).f4) (((rd_T69 x11 x13).f4).length : Int) 0 ((rd_T69 x11 x13).f0) ((rd_T69 x11 x13).f1) ((rd_T69 x11 x13).f2) ((rd_T69 x11 x13).f3) ((rd_T69 x11 x13).f4) ((rd_T69 x11 x13).f5)) else (none)) else (none)) else (some x5)
def impl_UsersOf.l1 : Nat → Int → Int → List (S69) → Int → Int → List (S89) → Int → Int → Int → Int → Int → ByteArray → List (S89) → List (S72) → Option (Int)
 | 0, _, _, _, _, _, _, _, _, _, _, _, _, _, _ => none
 | k + 1, x1, x5, x11, x12, x13, x18, x19, x20, x449000, x449001, x449002, x449003, x449004, x449005 => if x20 < x19 then (if 0 ≤ x20 then (if x20 < (x18.length : Int) then (if x449000 = 1 then (if (wrap64 (((rd_T89 x18 x20).f0) - 1)) = x1 then (impl_UsersOf.l1 k x1 (wrap64 (x5 + 1)) x11 x12 x13 x18 x19 (wrap64 (x20 + 1)) x449000 x449001 x449002 x449003 x449004 x449005) else (impl_UsersOf.l1 k x1 x5 x11 x12 x13 x18 x19 (wrap64 (x20 + 1)) x449000 x449001 x449002 x449003 x449004 x449005)) else (impl_UsersOf.l1 k x1 x5 x11 x12 x13 x18 x19 (wrap64 (x20 + 1)) x449000 x449001 x449002 x449003 x449004 x449005)) else (none)) else (none)) else (impl_UsersOf.l0 k x1 x5 x11 x12 (wrap64 (x13 + 1)))
end
def impl_UsersOf.f (k : Nat) (a0_0 : Int) (l0_1 : List Int) (l0_2 : List (S69)) (a1 : Int) : Option (Int) := impl_UsersOf.l0 k a1 0 l0_2 (l0_2.length : Int) 0
set_option maxHeartbeats 8000000 in
set_option maxRecDepth 100000 in
theorem impl_UsersOf.calls (k : Nat) (b6 : Int) (b7 : Option Addr) (b8 : Nat) (au : List Int) (bb : Option Addr) (b9 : Nat) (a6 : List (S69)) (a1 : Int) (r : Int) (w : World) (be : Kd.C (Kd.int .i64) w b7 au.length au) (bf : au.length ≤ b8) (bg : Kd.C k69 w bb a6.length a6) (bh : a6.length ≤ b9) (h : impl_UsersOf.f k b6 au a6 a1 = some r) :
  Calls Tryz.prog 52 #[.agg #[.int .i64 b6, .slice b7 au.length b8, .slice bb a6.length b9], .int .i64 a1] w fun e w' => e = .returned (.int .i64 r) ∧ Below w.heap.size w w' := by
 have hu35 := Tryz.underlying35
 have hu69 := Tryz.underlying69
 have hu89 := Tryz.underlying89
 have HR0_1 := Aside0.mk be
 have cp := Aside0.mk bf
 clear be bf
 have HR0_2 := Aside0.mk bg
 have cq := Aside0.mk bh
 clear bg bh
 have HB := Aside0.mk (Below.refl w.heap.size w)
 unfold impl_UsersOf.f at h
 have H := h
 clear h
 have H' := Aside0.mk H
 clear H
 go_enter Tryz.func52, Tryz.ntmps52
 go_wp2_with (first | ((with_reducible refine gate_dst (N := 2) rfl ?_); refine be_ 2 (cs := #[.int .i64 b6, .slice b7 au.length b8, .slice bb a6.length b9]) 35 ?_; intro bi hg w3 hbox hb; have z_ := bx0_ th_ hb hbox hg; clear HB; obtain ⟨HB, a7, cr, ct⟩ := z_; clear hb hbox hg; have bs := bb3_ a7.out))
 go_loopg [5, 13] k (fun kq v5 v13 w' => ∃ (bc : Int) (a5 : Int), v5 = .int .i64 bc ∧ v13 = .int .i64 a5 ∧ Aside0 (impl_UsersOf.l0 kq a1 bc a6 (a6.length : Int) a5 = some r) ∧ Aside0 (kq ≤ k) ∧ Aside0 (w'.heap[bi]? = some (.cells #[.int .i64 b6, (.slice b7 au.length b8), (.slice bb a6.length b9)] 35 (0, 0))) ∧ Aside0 (Below w.heap.size w w'))
 case atStart => exact ⟨(0), (0), tq_3, tq_3, H', ⟨Nat.le_refl _⟩, ⟨(kb_ a7)⟩, ⟨th_⟩⟩
 case round =>
 clear H'
 try clear p2; try clear bs
 obtain ⟨bc, a5, rfl, rfl, HA, HK1, a7, HB⟩ := hrel
 cases gk with
 | zero => exact absurd HA.out (by simp [impl_UsersOf.l0])
 | succ k1 =>
 have H := HA.out
 clear HA
 simp only [impl_UsersOf.l0] at H
 by_cases c5 : a5 < (a6.length : Int)
 rotate_left
 ·rw [if_neg c5] at H
  have bu := decide_eq_false c5
  clear c5
  obtain rfl := Option.some.inj H
  go_wp2
  go_ret
  exact ⟨tq_1, th_⟩
 rw [if_pos c5] at H
 have bu := decide_eq_true c5
 clear c5
 obtain ⟨c6, H⟩ := fc_ H
 have cm := decide_eq_true c6
 clear c6
 obtain ⟨c7, H⟩ := fc_ H
 have cn := decide_eq_true c7
 clear c7
 have H' := Aside0.mk H
 clear H
 have p447 : 0 ≤ (a5 : Int) := of_decide_eq_true tq_2
 have q447 : a5 < (a6.length : Int) := of_decide_eq_true tq_2
 obtain ⟨bv, bj, bl, bm, bn, co, ak, al, am, an, ao, ap, b1, b2, b3, b4⟩ := at_T69 HR0_2.out a5 p447 q447
 cases co
 replace ak := hx_ HB.out ak
 replace al := hx_ HB.out al
 replace am := hx_ HB.out am
 replace an := hx_ HB.out an
 replace ao := hx_ HB.out ao
 replace ap := hx_ HB.out ap
 have b5 := Aside0.mk b2
 have cj := Aside0.mk b1
 clear b2 b1
 have ck := Aside0.mk b4
 have cl := Aside0.mk b3
 clear b4 b3
 replace p447 := eq_true p447
 replace q447 := eq_true q447
 go_wp2_with (first | ((with_reducible refine gate_dst (N := 7) rfl ?_); refine be_ 7 (cs := #[.int .i64 0, .int .i64 0, .int .i64 0, .string (⟨#[]⟩ : ByteArray), .slice none 0 0, .slice none 0 0]) 69 ?_; intro bw hg w8 hbox hb; have z_ := bx1_ (kb_ a7) th_ hb hbox hg; clear a7 HB; obtain ⟨a7, HB, ac, cu, cv, ae, af⟩ := z_; clear hb hbox hg; obtain ⟨aq, ar⟩ := an2_ af ae; have bd := bb6_ ac.out))
 go_loopg [5, 20] k1 (fun kq v5 v20 w' => ∃ (b0 : Int) (a8 : Int), v5 = .int .i64 b0 ∧ v20 = .int .i64 a8 ∧ Aside0 (impl_UsersOf.l1 kq a1 b0 a6 (a6.length : Int) a5 ((rd_T69 a6 a5).f4) (((rd_T69 a6 a5).f4).length : Int) a8 ((rd_T69 a6 a5).f0) ((rd_T69 a6 a5).f1) ((rd_T69 a6 a5).f2) ((rd_T69 a6 a5).f3) ((rd_T69 a6 a5).f4) ((rd_T69 a6 a5).f5) = some r) ∧ Aside0 (kq ≤ k1) ∧ Aside0 (w'.heap[bi]? = some (.cells #[.int .i64 b6, (.slice b7 au.length b8), (.slice (some bv) a6.length b9)] 35 (0, 0))) ∧ Aside0 (w'.heap[bw]? = some (.cells #[.int .i64 ((rd_T69 a6 a5).f0), .int .i64 ((rd_T69 a6 a5).f1), .int .i64 ((rd_T69 a6 a5).f2), .string ((rd_T69 a6 a5).f3), (.slice bj ((rd_T69 a6 a5).f4).length bl), (.slice bm ((rd_T69 a6 a5).f5).length bn)] 69 (0, 0))) ∧ Aside0 (Below w.heap.size w w'))
 case atStart => exact ⟨(bc), (0), tq_3, tq_3, H', ⟨Nat.le_refl _⟩, ⟨tb_⟩, ⟨tb_⟩, ⟨th_⟩⟩
 case round =>
 clear H'
 try clear p2; try clear c4; try clear p4; try clear q4; try clear hx4; try clear c5; try clear bu; try clear c6; try clear cm; try clear c7; try clear cn; try clear c9; try clear bd; try clear bs; try clear bd; try clear bs; try clear ak; try clear al; try clear am; try clear an; try clear ao; try clear ap; try clear p2; try clear p447; try clear q447
 obtain ⟨b0, a8, rfl, rfl, HA, HK2, a7, ac, HB⟩ := hrel
 cases gk with
 | zero => exact absurd HA.out (by simp [impl_UsersOf.l1])
 | succ k2 =>
 have H := HA.out
 clear HA
 simp only [impl_UsersOf.l1] at H
 by_cases br : a8 < (((rd_T69 a6 a5).f4).length : Int)
 rotate_left
 ·rw [if_neg br] at H
  have bx := decide_eq_false br
  clear br
  have H' := Aside0.mk H
  clear H
  go_wp2
  go_roundg k2
  case measure => have := HK1.out; have := HK2.out; omega
  case rel => exact ⟨(b0), (wrap64 (a5 + 1)), tq_3, tq_3, H', ⟨tq_20⟩, ⟨(kb_ a7)⟩, ⟨th_⟩⟩
 rw [if_pos br] at H
 have bx := decide_eq_true br
 clear br
 obtain ⟨cw, H⟩ := fc_ H
 have cx := decide_eq_true cw
 clear cw
 obtain ⟨cy, H⟩ := fc_ H
 have cz := decide_eq_true cy
 clear cy
 by_cases bo : ((rd_T69 a6 a5).f0) = 1
 rotate_left
 ·rw [if_neg bo] at H
  have bz := beq_eq_false_iff_ne.mpr bo
  have ca := bne_iff_ne.mpr bo
  have H' := Aside0.mk H
  clear H
  have p449 : 0 ≤ (a8 : Int) := of_decide_eq_true tq_2
  have q449 : a8 < (((rd_T69 a6 a5).f4).length : Int) := of_decide_eq_true tq_2
  obtain ⟨cb, bp, a9, aa, ab⟩ := at_T89 b5.out a8 p449 q449
  cases bp
  replace a9 := hx_ HB.out a9
  replace aa := hx_ HB.out aa
  replace ab := hx_ HB.out ab
  replace p449 := eq_true p449
  replace q449 := eq_true q449
  go_wp2_with (first | ((with_reducible refine gate_dst (N := 9) rfl ?_); refine be_ 9 (cs := #[.int .i64 0, .int .i64 0, .string (⟨#[]⟩ : ByteArray)]) 89 ?_; intro cc hg d2 hbox hb; have z_ := bx2_ (kb_ a7) (kb_ ac) th_ hb hbox hg; clear a7 ac HB; obtain ⟨a7, ac, HB, ba, cd, ce, ag, ah, ai, aj⟩ := z_; clear hb hbox hg; obtain ⟨av, aw, ax, ay⟩ := an4_ ah ag aj ai; have d0 := bb3_ ba.out; obtain ⟨aq, ar⟩ := an2_ af ae; have d1 := bb6_ ac.out))
  go_roundg k2
  case measure => have := HK1.out; have := HK2.out; omega
  case rel => exact ⟨(b0), (wrap64 (a8 + 1)), tq_3, tq_3, H', ⟨tq_20⟩, ⟨tb_⟩, ⟨tb_⟩, ⟨th_⟩⟩
 rw [if_pos bo] at H
 have bz := beq_iff_eq.mpr bo
 have ca := bne_eq_false_iff_eq.mpr bo
 clear bo
 have cf := Aside0.mk H
 clear H
 have p449 : 0 ≤ (a8 : Int) := of_decide_eq_true tq_2
 have q449 : a8 < (((rd_T69 a6 a5).f4).length : Int) := of_decide_eq_true tq_2
 obtain ⟨cb, bp, a9, aa, ab⟩ := at_T89 b5.out a8 p449 q449
 cases bp
 replace a9 := hx_ HB.out a9
 replace aa := hx_ HB.out aa
 replace ab := hx_ HB.out ab
 replace p449 := eq_true p449
 replace q449 := eq_true q449
 go_upto_if 33 with (first | ((with_reducible refine gate_dst (N := 9) rfl ?_); refine be_ 9 (cs := #[.int .i64 0, .int .i64 0, .string (⟨#[]⟩ : ByteArray)]) 89 ?_; intro cc hg d3 hbox hb; have z_ := bx2_ (kb_ a7) (kb_ ac) th_ hb hbox hg; clear a7 ac HB; obtain ⟨a7, ac, HB, ba, cd, ce, ag, ah, ai, aj⟩ := z_; clear hb hbox hg; obtain ⟨av, aw, ax, ay⟩ := an4_ ah ag aj ai; have cg := bb3_ ba.out; obtain ⟨aq, ar⟩ := an2_ af ae; have ch := bb6_ ac.out))
 (try simp only [Act.put, List.setIfInBounds_toArray, List.set_cons_zero, List.set_cons_succ])
 (try clear ar aw aq ay av ax)
 (try clear bd)
 (try clear cg)
 (try clear ch)
 (try clear bs)
 (try clear bd)
 (try clear cg)
 (try clear ch)
 (try clear bs)
 (try clear ak al am an ao ap)
 (try clear a9 aa ab)
 have H := cf.out
 clear cf
 by_cases bq : (wrap64 (((rd_T89 ((rd_T69 a6 a5).f4) a8).f0) - 1)) = a1
 rotate_left
 ·rw [if_neg bq] at H
  have az := beq_eq_false_iff_ne.mpr bq
  have ci := bne_iff_ne.mpr bq
  (first | rw [az] | (simp only [i64_w, i32_w]; rw [az]) | skip)
  have H' := Aside0.mk H
  clear H
  go_wp2
  go_roundg k2
  case measure => have := HK1.out; have := HK2.out; omega
  case rel => exact ⟨(b0), (wrap64 (a8 + 1)), tq_3, tq_3, H', ⟨tq_20⟩, ⟨tb_⟩, ⟨tb_⟩, ⟨th_⟩⟩
 rw [if_pos bq] at H
 have az := beq_iff_eq.mpr bq
 have ci := bne_eq_false_iff_eq.mpr bq
 clear bq
 (first | rw [az] | (simp only [i64_w, i32_w]; rw [az]) | skip)
 have H' := Aside0.mk H
 clear H
 go_wp2
 go_roundg k2
 case measure => have := HK1.out; have := HK2.out; omega
 case rel => exact ⟨(wrap64 (b0 + 1)), (wrap64 (a8 + 1)), tq_3, tq_3, H', ⟨tq_20⟩, ⟨tb_⟩, ⟨tb_⟩, ⟨th_⟩⟩

/-! ### impl_PagesWith: function 53 -/
def impl_PagesWith.l0 : Nat → Int → List Int → List Int → Int → Int → Option (List Int)
 | 0, _, _, _, _, _ => none
 | k + 1, x1, x5, x9, x10, x11 => if x11 < x10 then (if 0 ≤ x11 then (if x11 < (x9.length : Int) then (if (rd x9 x11) = x1 then (if x5.length < 17592186044416 then (impl_PagesWith.l0 k x1 (x5 ++ [x11]) x9 x10 (wrap64 (x11 + 1))) else (none)) else (impl_PagesWith.l0 k x1 x5 x9 x10 (wrap64 (x11 + 1)))) else (none)) else (none)) else (some x5)
def impl_PagesWith.f (k : Nat) (l0 : List Int) (a1 : Int) : Option (List Int) := impl_PagesWith.l0 k a1 (([] : List Int)) l0 (l0.length : Int) 0
set_option maxHeartbeats 8000000 in
set_option maxRecDepth 100000 in
theorem impl_PagesWith.calls (k : Nat) (A0 : Option Addr) (c0 : Nat) (l0 : List Int) (a1 : Int) (r : List Int) (w : World) (hr0 : Kd.C (Kd.int .i64) w A0 l0.length l0) (hc0 : l0.length ≤ c0) (h : impl_PagesWith.f k l0 a1 = some r) :
  Calls Tryz.prog 53 #[.slice A0 l0.length c0, .int .i64 a1] w fun e w' => ∃ v0_ : Value, e = .returned (v0_) ∧ Kd.R (Kd.int .i64) 3 w' w.heap.size (fun _ => True) v0_ r ∧ Below w.heap.size w w' := by
 have HR0 := Aside0.mk hr0
 have al := Aside0.mk hc0
 clear hr0 hc0
 have HB := Aside0.mk (Below.refl w.heap.size w)
 unfold impl_PagesWith.f at h
 have H := h
 clear h
 obtain ⟨aa, hy451⟩ : ∃ y_ : List Int, y_ = (([] : List Int)) := ⟨_, rfl⟩
 replace H : (impl_PagesWith.l0 k a1 aa l0 (l0.length : Int) 0) = some r := by first | (rw [hy451]; with_reducible exact H) | (have H2_ := (Option.bind_some _ _).symm.trans H; rw [hy451]; with_reducible exact H2_) | (have H2_ := (Option.bind_some _ _).symm.trans H; with_reducible exact H2_) | with_reducible exact H | (rw [hy451]; exact H) | exact H
 have Ny451 := Aside0.mk hy451
 clear hy451
 have H' := Aside0.mk H
 clear H
 go_enter Tryz.func53, Tryz.ntmps53
 go_wp2_with (first | ((with_reducible refine gate_dst (N := 8) rfl ?_); refine Kd.R_lit (Kd.int .i64) _ 3 ?hg (N := 8) ?hd (xs := ([] : List Int)) (inner := []) (ok := fun _ => True) (okp := fun _ => True) ?hr ?hp (fun _ hk => hk) trivial (Below.refl _ _) (Nat.le_refl _) (by simp) ?_; (case hd => rfl); (case hg => rfl); (case hr => first | (go_simp; done) | (go_simp; rfl)); (case hp => exact (Reps.none _ _)); intro v452 w3 ho4 hb hg_ hnew_; clear hg_ hnew_; (first | rw [← Ny451.out] at ho4 | (simp only [Int.reduceToNat] at ho4; rw [← Ny451.out] at ho4)); have z_ := p_ (Kd.R_lower ho4 (below_size th_)) <| a_ (below_step th_ hb); clear HB; obtain ⟨HO453, HB⟩ := z_; clear hb ho4))
 go_loopg [5, 11] k (fun kq v5 v11 w' => ∃ (a7 : List Int) (a5 : Int), v11 = .int .i64 a5 ∧ Aside0 (impl_PagesWith.l0 kq a1 a7 l0 (l0.length : Int) a5 = some r) ∧ Aside0 (kq ≤ k) ∧ Aside0 (Kd.R (Kd.int .i64) 3 w' w.heap.size (fun _ => True) v5 a7) ∧ Aside0 (Below w.heap.size w w'))
 case atStart => exact ⟨(aa), (0), tq_3, H', ⟨Nat.le_refl _⟩, ⟨(raR_ HO453)⟩, ⟨th_⟩⟩
 case round =>
 clear H'
 try clear p2
 obtain ⟨a7, a5, rfl, HA, HK1, a9, HB⟩ := hrel
 cases gk with
 | zero => exact absurd HA.out (by simp [impl_PagesWith.l0])
 | succ k1 =>
 have H := HA.out
 clear HA
 simp only [impl_PagesWith.l0] at H
 by_cases c5 : a5 < (l0.length : Int)
 rotate_left
 ·rw [if_neg c5] at H
  have ac := decide_eq_false c5
  clear c5
  obtain rfl := Option.some.inj H
  go_wp2
  go_ret
  exact ⟨_, tq_1, (raR_ a9), th_⟩
 rw [if_pos c5] at H
 have ac := decide_eq_true c5
 clear c5
 obtain ⟨c6, H⟩ := fc_ H
 have aj := decide_eq_true c6
 clear c6
 obtain ⟨c7, H⟩ := fc_ H
 have ak := decide_eq_true c7
 clear c7
 have ag := Aside0.mk H
 clear H
 have p454 : 0 ≤ (a5 : Int) := of_decide_eq_true tq_2
 have q454 : a5 < (l0.length : Int) := of_decide_eq_true tq_2
 obtain ⟨ah, ae, a6⟩ := Kd.at_int HR0.out a5 p454 q454
 cases ae
 replace a6 := hx_ HB.out a6
 replace p454 := eq_true p454
 replace q454 := eq_true q454
 go_upto_if 18 with (fail)
 (try clear a6)
 have H := ag.out
 clear ag
 by_cases c9 : (rd l0 a5) = a1
 rotate_left
 ·rw [if_neg c9] at H
  have a8 := beq_eq_false_iff_ne.mpr c9
  have af := bne_iff_ne.mpr c9
  (first | rw [a8] | (simp only [i64_w, i32_w]; rw [a8]) | skip)
  have H' := Aside0.mk H
  clear H
  go_wp2
  go_roundg k1
  case measure => have := HK1.out; omega
  case rel => exact ⟨(a7), (wrap64 (a5 + 1)), tq_3, H', ⟨tq_15⟩, ⟨(raR_ a9)⟩, ⟨th_⟩⟩
 rw [if_pos c9] at H
 have a8 := beq_iff_eq.mpr c9
 have af := bne_eq_false_iff_eq.mpr c9
 clear c9
 (first | rw [a8] | (simp only [i64_w, i32_w]; rw [a8]) | skip)
 obtain ⟨ai, H⟩ := fc_ H
 have LMc10 := Aside0.mk ai
 clear ai
 obtain ⟨ab, hy455⟩ : ∃ y_ : List Int, y_ = (a7 ++ [a5]) := ⟨_, rfl⟩
 replace H : (impl_PagesWith.l0 k1 a1 ab l0 (l0.length : Int) (wrap64 (a5 + 1))) = some r := by first | (rw [hy455]; with_reducible exact H) | (have H2_ := (Option.bind_some _ _).symm.trans H; rw [hy455]; with_reducible exact H2_) | (have H2_ := (Option.bind_some _ _).symm.trans H; with_reducible exact H2_) | with_reducible exact H | (rw [hy455]; exact H) | exact H
 have Ny455 := Aside0.mk hy455
 clear hy455
 have H' := Aside0.mk H
 clear H
 go_wp2_with (first | ((with_reducible refine gate_builtin (b := .append) (xs := #[.tmp 19, .tmp 21]) rfl ?_); at_builtin; refine Kd.R_append (Kd.int .i64) (w0 := w) w.heap.size rfl (.tmp 19) (.tmp 21) 24 3 (.int .i64 0) 8 rfl Tryz.underlying24 info3 rfl (by decide) (by omega) u5 a7 a5 [.int .i64 a5] (fun _ => True) (fun _ => False) rfl rfl ?aP (fun _ hk => hk.elim) ?aF ?aO ?aB ?aS ?aL ?_; (case aP => exact rfl); (case aB => exact th_); (case aF => exact (fun _ _ => trivial)); (case aO => exact (raR_ a9)); (case aS => exact (below_size th_)); (case aL => have := LMc10.out; omega); intro v456 am ho hb hg hat; rw [← Ny455.out] at ho; have z_ := p_ (hb) <| a_ (ho); clear HB a9; obtain ⟨HB, HO457⟩ := z_; clear ho hb hg hat))
 go_roundg k1
 case measure => have := HK1.out; omega
 case rel => exact ⟨(ab), (wrap64 (a5 + 1)), tq_3, H', ⟨tq_15⟩, ⟨(raR_ HO457)⟩, ⟨th_⟩⟩

end Go.Proofs.YtleoknilacjakaaGreat.PFnExactPartWrites
