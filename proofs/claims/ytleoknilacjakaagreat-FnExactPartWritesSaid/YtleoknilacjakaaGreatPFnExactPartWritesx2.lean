/- Contracts of Go functions, written by a program of ours over the print of the kit: each says that the call returns what the Lean function beside it computes. Conditions: as each theorem states them. -/
import Derived.Test.YtleoknilacjakaaGreatPkFnExactPartWrites
import Derived.Test.YtleoknilacjakaaGreatPFnExactPartWritesx0
import Derived.Test.YtleoknilacjakaaGreatPFnExactPartWritesx1
namespace Go.Proofs.YtleoknilacjakaaGreat.PFnExactPartWrites
open Go.RowKit Go.Proofs.YtleoknilacjakaaGreatW.PrintWords Go.Proofs.YtleoknilacjakaaGreatW.PrintLast Go.Proofs.YtleoknilacjakaaGreatW.PrintMore
attribute [local go_sem] max2_int min2_int max_two min_two max_three min_three max_four min_four   -- for this text's walks alone
set_option linter.unusedVariables false
set_option linter.unusedSimpArgs false

/-! ### spec_LinksTo: function 38 -/
mutual
def spec_LinksTo.l0 : Nat → Int → Int → Int → Int → List Int → List (S69) → Option (Int)
 | 0, _, _, _, _, _, _ => none
 | k + 1, x1, x5, x6, x124000, x124001, x124002 => if x6 < (x124002.length : Int) then (spec_LinksTo.l1 k x1 x5 x6 0 x124000 x124001 x124002) else (some x5)
def spec_LinksTo.l1 : Nat → Int → Int → Int → Int → Int → List Int → List (S69) → Option (Int)
 | 0, _, _, _, _, _, _, _ => none
 | k + 1, x1, x5, x6, x7, x124000, x124001, x124002 => if 0 ≤ x6 then (if x6 < (x124002.length : Int) then (if x7 < (((rd_T69 x124002 x6).f5).length : Int) then (spec_LinksTo.j2 k x1 x5 x6 x7 (((rd_T69 x124002 x6).f0) == 2) x124000 x124001 x124002) else (spec_LinksTo.j2 k x1 x5 x6 x7 false x124000 x124001 x124002)) else (none)) else (none)
def spec_LinksTo.j2 : Nat → Int → Int → Int → Int → Bool → Int → List Int → List (S69) → Option (Int)
 | 0, _, _, _, _, _, _, _, _ => none
 | k + 1, x1, x5, x6, x7, x32, x124000, x124001, x124002 => if x32 = true then (if 0 ≤ x6 then (if x6 < (x124002.length : Int) then (if 0 ≤ x7 then (if x7 < (((rd_T69 x124002 x6).f5).length : Int) then (if ((rd_T72 ((rd_T69 x124002 x6).f5) x7).f0) = x1 then (spec_LinksTo.l1 k x1 (wrap64 (x5 + 1)) x6 (wrap64 (x7 + 1)) x124000 x124001 x124002) else (spec_LinksTo.l1 k x1 x5 x6 (wrap64 (x7 + 1)) x124000 x124001 x124002)) else (none)) else (none)) else (none)) else (none)) else (spec_LinksTo.l0 k x1 x5 (wrap64 (x6 + 1)) x124000 x124001 x124002)
end
def spec_LinksTo.f (k : Nat) (a0_0 : Int) (l0_1 : List Int) (l0_2 : List (S69)) (a1 : Int) : Option (Int) := spec_LinksTo.l0 k a1 0 0 a0_0 l0_1 l0_2
set_option maxHeartbeats 8000000 in
set_option maxRecDepth 100000 in
theorem spec_LinksTo.calls (k : Nat) (an : Int) (be : Option Addr) (bf : Nat) (aj : List Int) (bg : Option Addr) (bh : Nat) (a7 : List (S69)) (a1 : Int) (r : Int) (w : World) (bq : Kd.C (Kd.int .i64) w be aj.length aj) (br : aj.length ≤ bf) (bs : Kd.C k69 w bg a7.length a7) (bu : a7.length ≤ bh) (h : spec_LinksTo.f k an aj a7 a1 = some r) :
  Calls Tryz.prog 38 #[.agg #[.int .i64 an, .slice be aj.length bf, .slice bg a7.length bh], .int .i64 a1] w fun e w' => e = .returned (.int .i64 r) ∧ Below w.heap.size w w' := by
 have hu35 := Tryz.underlying35
 have HR0_1 := Aside0.mk bq
 have d9 := Aside0.mk br
 clear bq br
 have HR0_2 := Aside0.mk bs
 have da := Aside0.mk bu
 clear bs bu
 have HB := Aside0.mk (Below.refl w.heap.size w)
 unfold spec_LinksTo.f at h
 have H := h
 clear h
 have H' := Aside0.mk H
 clear H
 go_enter Tryz.func38, Tryz.ntmps38
 go_wp2_with (first | ((with_reducible refine gate_dst (N := 2) rfl ?_); refine be_ 2 (cs := #[.int .i64 an, .slice be aj.length bf, .slice bg a7.length bh]) 35 ?_; intro bi hg w3 hbox hb; have z_ := bx0_ th_ hb hbox hg; clear HB; obtain ⟨HB, a6, db, dc⟩ := z_; clear hb hbox hg))
 go_loopg [5, 6] k (fun kq v5 v6 w' => ∃ (bj : Int) (a5 : Int), v5 = .int .i64 bj ∧ v6 = .int .i64 a5 ∧ Aside0 (spec_LinksTo.l0 kq a1 bj a5 an aj a7 = some r) ∧ Aside0 (kq ≤ k) ∧ Aside0 (w'.heap[bi]? = some (.cells #[.int .i64 an, (.slice be aj.length bf), (.slice bg a7.length bh)] 35 (0, 0))) ∧ Aside0 (Below w.heap.size w w'))
 case atStart => exact ⟨(0), (0), tq_3, tq_3, H', ⟨Nat.le_refl _⟩, ⟨(kb_ a6)⟩, ⟨th_⟩⟩
 case round =>
 clear H'
 try clear p2; try clear c3
 obtain ⟨bj, a5, rfl, rfl, HA, HK1, a6, HB⟩ := hrel
 cases gk with
 | zero => exact absurd HA.out (by simp [spec_LinksTo.l0])
 | succ k1 =>
 have H := HA.out
 clear HA
 simp only [spec_LinksTo.l0] at H
 have dd := Aside0.mk H
 clear H
 have cl := bb3_ a6.out
 go_upto_if 12 with (fail)
 (try clear cl)
 have H := dd.out
 clear dd
 by_cases c6 : a5 < (a7.length : Int)
 rotate_left
 ·rw [if_neg c6] at H
  have b3 := decide_eq_false c6
  clear c6
  (first | rw [b3] | (simp only [i64_w, i32_w]; rw [b3]) | skip)
  obtain rfl := Option.some.inj H
  go_wp2
  go_ret
  exact ⟨tq_1, th_⟩
 rw [if_pos c6] at H
 have b3 := decide_eq_true c6
 clear c6
 (first | rw [b3] | (simp only [i64_w, i32_w]; rw [b3]) | skip)
 have H' := Aside0.mk H
 clear H
 go_wp2
 go_loopg [5, 7] k1 (fun kq v5 v7 w' => ∃ (b4 : Int) (am : Int), v5 = .int .i64 b4 ∧ v7 = .int .i64 am ∧ Aside0 (spec_LinksTo.l1 kq a1 b4 a5 am an aj a7 = some r) ∧ Aside0 (kq ≤ k1) ∧ Aside0 (w'.heap[bi]? = some (.cells #[.int .i64 an, (.slice be aj.length bf), (.slice bg a7.length bh)] 35 (0, 0))) ∧ Aside0 (Below w.heap.size w w'))
 case atStart => exact ⟨(bj), (0), tq_3, tq_3, H', ⟨Nat.le_refl _⟩, ⟨(kb_ a6)⟩, ⟨th_⟩⟩
 case round =>
 clear H'
 try clear p2; try clear c3; try clear c6; try clear b3; try clear cl; try clear p2
 obtain ⟨b4, am, rfl, rfl, HA, HK2, a6, HB⟩ := hrel
 cases gk with
 | zero => exact absurd HA.out (by simp [spec_LinksTo.l1])
 | succ k2 =>
 have H := HA.out
 clear HA
 simp only [spec_LinksTo.l1] at H
 have cv := Aside0.mk H
 clear H
 go_upto_region 6 with (fail)
 go_cut [32] (fun v32 wc => ∃ (kq : Nat) (b5 : Bool), v32 = .bool b5 ∧ Aside0 (spec_LinksTo.j2 kq a1 b4 a5 am b5 an aj a7 = some r) ∧ Aside0 (kq ≤ k2) ∧ Aside0 (wc.heap[bi]? = some (.cells #[.int .i64 an, (.slice be aj.length bf), (.slice bg a7.length bh)] 35 (0, 0))) ∧ Aside0 (Below w.heap.size w wc))
 case first =>
  have H := cv.out
  clear cv
  obtain ⟨c8, H⟩ := fc_ H
  have bx := decide_eq_true c8
  clear c8
  (first | rw [bx] | (simp only [i64_w, i32_w]; rw [bx]) | skip)
  obtain ⟨c9, H⟩ := fc_ H
  have cw := decide_eq_true c9
  clear c9
  by_cases bz : am < (((rd_T69 a7 a5).f5).length : Int)
  rotate_left
  ·rw [if_neg bz] at H
   have bv := decide_eq_false bz
   clear bz
   have H' := Aside0.mk H
   clear H
   have cg := bb3_ a6.out
   have p124 : 0 ≤ (a5 : Int) := of_decide_eq_true tq_2
   have q124 : a5 < (a7.length : Int) := of_decide_eq_true tq_2
   obtain ⟨bw, ca, cb, cc, cd, ce, aa, ab, ac, ae, a8, a9, af, ag, ah, ai⟩ := at_T69 HR0_2.out a5 p124 q124
   cases ce
   replace aa := hx_ HB.out aa
   replace ab := hx_ HB.out ab
   replace ac := hx_ HB.out ac
   replace ae := hx_ HB.out ae
   replace a8 := hx_ HB.out a8
   replace a9 := hx_ HB.out a9
   have bl := Aside0.mk ag
   have bm := Aside0.mk af
   clear ag af
   have bn := Aside0.mk ai
   have bo := Aside0.mk ah
   clear ai ah
   replace p124 := eq_true p124
   replace q124 := eq_true q124
   go_wp2
   go_meet
   case rel => exact ⟨_, (false), tq_3, H', ⟨tq_22⟩, ⟨(kb_ a6)⟩, ⟨th_⟩⟩
  rw [if_pos bz] at H
  have bv := decide_eq_true bz
  clear bz
  have H' := Aside0.mk H
  clear H
  have ch := bb3_ a6.out
  have p124 : 0 ≤ (a5 : Int) := of_decide_eq_true tq_2
  have q124 : a5 < (a7.length : Int) := of_decide_eq_true tq_2
  obtain ⟨bw, ca, cb, cc, cd, ce, aa, ab, ac, ae, a8, a9, af, ag, ah, ai⟩ := at_T69 HR0_2.out a5 p124 q124
  cases ce
  replace aa := hx_ HB.out aa
  replace ab := hx_ HB.out ab
  replace ac := hx_ HB.out ac
  replace ae := hx_ HB.out ae
  replace a8 := hx_ HB.out a8
  replace a9 := hx_ HB.out a9
  have bl := Aside0.mk ag
  have bm := Aside0.mk af
  clear ag af
  have bn := Aside0.mk ai
  have bo := Aside0.mk ah
  clear ai ah
  replace p124 := eq_true p124
  replace q124 := eq_true q124
  have p125 : 0 ≤ (a5 : Int) := of_decide_eq_true tq_2
  have q125 : a5 < (a7.length : Int) := of_decide_eq_true tq_2
  obtain ⟨ci, cx, cy, cz, d0, d1, ao, ap, aq, ar, ak, al, b6, b7, b8, b9⟩ := at_T69 HR0_2.out a5 p125 q125
  obtain rfl : bw = ci := (by injection d1)
  replace ao := hx_ HB.out ao
  replace ap := hx_ HB.out ap
  replace aq := hx_ HB.out aq
  replace ar := hx_ HB.out ar
  replace ak := hx_ HB.out ak
  replace al := hx_ HB.out al
  have cm := Aside0.mk b7
  have cn := Aside0.mk b6
  clear b7 b6
  have co := Aside0.mk b9
  have cp := Aside0.mk b8
  clear b9 b8
  replace p125 := eq_true p125
  replace q125 := eq_true q125
  have ea_ := Option.some.inj (a8.symm.trans ak)
  injection ea_ with ea_ en_ ec_
  subst ea_
  subst ec_
  clear en_
  have ea_ := Option.some.inj (a9.symm.trans al)
  injection ea_ with ea_ en_ ec_
  subst ea_
  subst ec_
  clear en_
  go_wp2
  go_meet
  case rel => exact ⟨_, ((((rd_T69 a7 a5).f0) == 2)), tq_3, H', ⟨tq_22⟩, ⟨(kb_ a6)⟩, ⟨th_⟩⟩
 case rest =>
 clear cv
 try clear c1; try clear p1; try clear q1; try clear hx1; try clear p2; try clear c3; try clear c6; try clear b3; try clear c8; try clear bx; try clear c9; try clear cw; try clear bz; try clear bv; try clear dp; try clear p12; try clear q12; try clear hx12; try clear ch; try clear cg; try clear cl; try clear ch; try clear cg; try clear cl; try clear aa; try clear ab; try clear ac; try clear ae; try clear a8; try clear a9; try clear ao; try clear ap; try clear aq; try clear ar; try clear ak; try clear al; try clear p124; try clear p125; try clear p2; try clear q124; try clear q125
 obtain ⟨kq, b5, rfl, HA, HJ6, a6, HB⟩ := hcut
 cases kq with
 | zero => exact absurd HA.out (by simp [spec_LinksTo.j2])
 | succ kj6 =>
 have H := HA.out
 clear HA
 simp only [spec_LinksTo.j2] at H
 by_cases cq : b5 = true
 rotate_left
 ·replace cq := Bool.eq_false_iff.mpr cq
  subst cq
  rw [if_neg nf_] at H
  have H' := Aside0.mk H
  clear H
  go_wp2
  go_roundg kj6
  case measure => have := HK1.out; have := HK2.out; have := HJ6.out; omega
  case rel => exact ⟨(b4), (wrap64 (a5 + 1)), tq_3, tq_3, H', ⟨tq_21⟩, ⟨(kb_ a6)⟩, ⟨th_⟩⟩
 subst cq
 rw [if_pos rfl] at H
 obtain ⟨de, H⟩ := fc_ H
 have df := decide_eq_true de
 clear de
 obtain ⟨dg, H⟩ := fc_ H
 have dh := decide_eq_true dg
 clear dg
 obtain ⟨di, H⟩ := fc_ H
 have dj := decide_eq_true di
 clear di
 obtain ⟨dk, H⟩ := fc_ H
 have dl := decide_eq_true dk
 clear dk
 have cj := Aside0.mk H
 clear H
 have d2 := bb3_ a6.out
 have p126 : 0 ≤ (a5 : Int) := of_decide_eq_true tq_2
 have q126 : a5 < (a7.length : Int) := of_decide_eq_true tq_2
 obtain ⟨dm, d3, d4, d5, d6, d7, au, av, aw, ax, ay, az, ba, bb, bc, bd⟩ := at_T69 HR0_2.out a5 p126 q126
 cases d7
 replace au := hx_ HB.out au
 replace av := hx_ HB.out av
 replace aw := hx_ HB.out aw
 replace ax := hx_ HB.out ax
 replace ay := hx_ HB.out ay
 replace az := hx_ HB.out az
 have cr := Aside0.mk bb
 have ct := Aside0.mk ba
 clear bb ba
 have bp := Aside0.mk bd
 have cu := Aside0.mk bc
 clear bd bc
 replace p126 := eq_true p126
 replace q126 := eq_true q126
 have p127 : 0 ≤ (am : Int) := of_decide_eq_true tq_2
 have q127 : am < (((rd_T69 a7 a5).f5).length : Int) := of_decide_eq_true tq_2
 obtain ⟨dn, d8, b0, b1⟩ := at_T72 bp.out am p127 q127
 cases d8
 replace b0 := hx_ HB.out b0
 replace b1 := hx_ HB.out b1
 replace p127 := eq_true p127
 replace q127 := eq_true q127
 go_upto_if 46 with (fail)
 (try clear d2)
 (try clear au av aw ax ay az)
 (try clear b0 b1)
 have H := cj.out
 clear cj
 by_cases cf : ((rd_T72 ((rd_T69 a7 a5).f5) am).f0) = a1
 rotate_left
 ·rw [if_neg cf] at H
  have b2 := beq_eq_false_iff_ne.mpr cf
  have ck := bne_iff_ne.mpr cf
  (first | rw [b2] | (simp only [i64_w, i32_w]; rw [b2]) | skip)
  have H' := Aside0.mk H
  clear H
  go_wp2
  go_roundg kj6
  case measure => have := HK1.out; have := HK2.out; have := HJ6.out; omega
  case rel => exact ⟨(b4), (wrap64 (am + 1)), tq_3, tq_3, H', ⟨tq_21⟩, ⟨(kb_ a6)⟩, ⟨th_⟩⟩
 rw [if_pos cf] at H
 have b2 := beq_iff_eq.mpr cf
 have ck := bne_eq_false_iff_eq.mpr cf
 clear cf
 (first | rw [b2] | (simp only [i64_w, i32_w]; rw [b2]) | skip)
 have H' := Aside0.mk H
 clear H
 go_wp2
 go_roundg kj6
 case measure => have := HK1.out; have := HK2.out; have := HJ6.out; omega
 case rel => exact ⟨(wrap64 (b4 + 1)), (wrap64 (am + 1)), tq_3, tq_3, H', ⟨tq_21⟩, ⟨(kb_ a6)⟩, ⟨th_⟩⟩

/-! ### spec_PagesFor: function 63 -/
def spec_PagesFor.f (a0 : Int) : Option (Int) := if a0 ≤ 0 then (some 0) else (some (wrap64 ((wrap64 (Int.tdiv (wrap64 (a0 - 1)) 32)) + 1)))
set_option maxHeartbeats 8000000 in
set_option maxRecDepth 100000 in
theorem spec_PagesFor.calls (a0 : Int) (r : Int) (w : World) (h : spec_PagesFor.f a0 = some r) :
  Calls Tryz.prog 63 #[.int .i64 a0] w fun e w' => e = .returned (.int .i64 r) ∧ Drawn0 w w' := by
 unfold spec_PagesFor.f at h
 have H := h
 clear h
 by_cases c2 : a0 ≤ 0
 ·rw [if_pos c2] at H
  have a5 := decide_eq_true c2
  clear c2
  obtain rfl := Option.some.inj H
  go_enter Tryz.func63, Tryz.ntmps63
  go_wp2
  go_ret
  exact ⟨tq_3, tq_7⟩
 rw [if_neg c2] at H
 have a5 := decide_eq_false c2
 clear c2
 obtain rfl := Option.some.inj H
 go_enter Tryz.func63, Tryz.ntmps63
 go_wp2
 go_ret
 exact ⟨tq_3, tq_7⟩

/-! ### spec_NumText: function 69 -/
mutual
def spec_NumText.j0 : Nat → Int → Int → Bool → Option (ByteArray)
 | 0, _, _, _ => none
 | k + 1, x0, x1, x21 => if x21 = true then (some (⟨#[]⟩ : ByteArray)) else (spec_NumText.l0 k x0 (([] : List Int)) (wrap64 (x1 - 1)))
def spec_NumText.l0 : Nat → Int → List Int → Int → Option (ByteArray)
 | 0, _, _, _ => none
 | k + 1, x0, x5, x6 => if x6 ≥ 0 then (if 0 ≤ (IntKind.u64.wrap (8 * (IntKind.u64.wrap (x6)))) then (if x5.length < 140737488355328 then (spec_NumText.l0 k x0 (x5 ++ [(shr .i64 x0 (IntKind.u64.wrap (8 * (IntKind.u64.wrap (x6))))) % 256]) (wrap64 (x6 - 1))) else (none)) else (none)) else (some (strOfNums x5))
end
def spec_NumText.f (k : Nat) (a0 : Int) (a1 : Int) : Option (ByteArray) := if a0 < 0 then (spec_NumText.j0 k a0 a1 true) else ((spec_l01In.f a1 1 7).bind fun t128 => (if t128 = true then (if 0 ≤ (IntKind.u64.wrap (8 * (IntKind.u64.wrap (a1)))) then (spec_NumText.j0 k a0 a1 (decide ((shr .i64 a0 (IntKind.u64.wrap (8 * (IntKind.u64.wrap (a1))))) > 0))) else (none)) else (spec_NumText.j0 k a0 a1 true)))
set_option maxHeartbeats 8000000 in
set_option maxRecDepth 100000 in
theorem spec_NumText.calls (k : Nat) (a0 : Int) (a1 : Int) (r : ByteArray) (w : World) (h : spec_NumText.f k a0 a1 = some r) :
  Calls Tryz.prog 69 #[.int .i64 a0, .int .i64 a1] w fun e w' => e = .returned (.string r) ∧ Below w.heap.size w w' := by
 have HB := Aside0.mk (Below.refl w.heap.size w)
 unfold spec_NumText.f at h
 have H := h
 clear h
 have ai := Aside0.mk H
 clear H
 go_enter Tryz.func69, Tryz.ntmps69
 go_upto_region 1 with (fail)
 go_cut [21] (fun v21 wc => ∃ (kq : Nat) (a8 : Bool), v21 = .bool a8 ∧ Aside0 (spec_NumText.j0 kq a0 a1 a8 = some r) ∧ Aside0 (kq ≤ k) ∧ Aside0 (Below w.heap.size w wc))
 case first =>
  have H := ai.out
  clear ai
  by_cases c4 : a0 < 0
  ·rw [if_pos c4] at H
   have a7 := decide_eq_true c4
   clear c4
   (first | rw [a7] | (simp only [i64_w, i32_w]; rw [a7]) | skip)
   have H' := Aside0.mk H
   clear H
   go_wp2
   go_meet
   case rel => exact ⟨_, (true), tq_3, H', ⟨tq_12⟩, ⟨th_⟩⟩
  rw [if_neg c4] at H
  have a7 := decide_eq_false c4
  clear c4
  (first | rw [a7] | (simp only [i64_w, i32_w]; rw [a7]) | skip)
  obtain ⟨aj, A5, H⟩ := bd_ H
  by_cases c6 : aj = true
  rotate_left
  ·replace c6 := Bool.eq_false_iff.mpr c6
   subst c6
   rw [if_neg nf_] at H
   have H' := Aside0.mk H
   clear H
   go_wp2_with (first | (go_at_call 36; (with_reducible refine (spec_l01In.calls a1 1 7 false _ A5.out).mono ?_); rintro e w' ⟨rfl, ⟨nd, rfl⟩⟩))
   go_meet
   case rel => exact ⟨_, (true), tq_3, H', ⟨tq_12⟩, ⟨th_⟩⟩
  subst c6
  rw [if_pos rfl] at H
  obtain ⟨ji7, hji7⟩ : ∃ j_ : Int, (IntKind.u64.wrap (8 * (IntKind.u64.wrap (a1)))) = j_ := ⟨_, rfl⟩
  replace H : (if 0 ≤ (ji7) then (spec_NumText.j0 k a0 a1 (decide ((shr .i64 a0 (ji7)) > 0))) else (none)) = some r := by first | (rw [hji7] at H; exact H) | (simp only [hji7] at H ⊢; exact H)
  (try rw [hji7] at A5)
  obtain ⟨c8, H⟩ := fc_ H
  have ab := eq_true c8
  have ac := decide_eq_true c8
  clear c8
  obtain ⟨ji9, hji9⟩ : ∃ j_ : Int, (shr .i64 a0 (ji7)) = j_ := ⟨_, rfl⟩
  replace H : (spec_NumText.j0 k a0 a1 (decide ((ji9) > 0))) = some r := by first | (rw [hji9] at H; exact H) | (simp only [hji9] at H ⊢; exact H)
  (try rw [hji9] at A5)
  have hji9_ : (a0 / 2 ^ min (ji7).toNat 64) = ji9 := hji9
  have hji9z : (ji7) ≤ 64 → (a0 / 2 ^ (ji7).toNat) = ji9 := shr_small hji9
  have H' := Aside0.mk H
  clear H
  go_wp2_with (first | (go_at_call 36; (with_reducible refine (spec_l01In.calls a1 1 7 true _ A5.out).mono ?_); rintro e w' ⟨rfl, ⟨nd, rfl⟩⟩))
  go_meet
  case rel => exact ⟨_, (decide ((ji9) > 0)), (by first | rfl | (simp; done) | (simp only [← hji9] <;> (first | rfl | simp)) | (simp [*]; done)), H', ⟨tq_12⟩, ⟨th_⟩⟩
 case rest =>
 clear ai
 try clear p2; try clear c4; try clear a7; try clear c6; try clear c8; try clear ab; try clear ac
 obtain ⟨kq, a8, rfl, HA, HJ2, HB⟩ := hcut
 cases kq with
 | zero => exact absurd HA.out (by simp [spec_NumText.j0])
 | succ kj2 =>
 have H := HA.out
 clear HA
 simp only [spec_NumText.j0] at H
 by_cases ae : a8 = true
 ·subst ae
  rw [if_pos rfl] at H
  obtain rfl := Option.some.inj H
  go_wp2
  go_ret
  exact ⟨tq_1, th_⟩
 replace ae := Bool.eq_false_iff.mpr ae
 subst ae
 rw [if_neg nf_] at H
 obtain ⟨af, hy129⟩ : ∃ y_ : List Int, y_ = (([] : List Int)) := ⟨_, rfl⟩
 replace H : (spec_NumText.l0 kj2 a0 af (wrap64 (a1 - 1))) = some r := by first | (rw [hy129]; with_reducible exact H) | (have H2_ := (Option.bind_some _ _).symm.trans H; rw [hy129]; with_reducible exact H2_) | (have H2_ := (Option.bind_some _ _).symm.trans H; with_reducible exact H2_) | with_reducible exact H | (rw [hy129]; exact H) | exact H
 have Ny129 := Aside0.mk hy129
 clear hy129
 have H' := Aside0.mk H
 clear H
 go_wp2_with (first | ((with_reducible refine gate_dst (N := 22) rfl ?_); refine Kd.R_lit (Kd.int .u8) _ 5 ?hg (N := 22) ?hd (xs := ([] : List Int)) (inner := []) (ok := fun _ => True) (okp := fun _ => True) ?hr ?hp (fun _ hk => hk) trivial (Below.refl _ _) (Nat.le_refl _) (by simp) ?_; (case hd => rfl); (case hg => rfl); (case hr => first | (go_simp; done) | (go_simp; rfl)); (case hp => exact (Reps.none _ _)); intro v130 ao ho12 hb hg_ hnew_; clear hg_ hnew_; (first | rw [← Ny129.out] at ho12 | (simp only [Int.reduceToNat] at ho12; rw [← Ny129.out] at ho12)); have z_ := p_ (Kd.R_lower ho12 (below_size th_)) <| a_ (below_step th_ hb); clear HB; obtain ⟨HO131, HB⟩ := z_; clear hb ho12))
 go_loopg [5, 6] kj2 (fun kq v5 v6 w' => ∃ (a5 : List Int) (a6 : Int), v6 = .int .i64 a6 ∧ Aside0 (spec_NumText.l0 kq a0 a5 a6 = some r) ∧ Aside0 (kq ≤ kj2) ∧ Aside0 (Kd.R (Kd.int .u8) 5 w' w.heap.size (fun _ => True) v5 a5) ∧ Aside0 (Below w.heap.size w w'))
 case atStart => exact ⟨(af), (wrap64 (a1 - 1)), tq_3, H', ⟨Nat.le_refl _⟩, ⟨(raR_ HO131)⟩, ⟨th_⟩⟩
 case round =>
 clear H'
 try clear c1; try clear p2; try clear c4; try clear a7; try clear c6; try clear p6; try clear c8; try clear ab; try clear ac; try clear ae; try clear p2
 obtain ⟨a5, a6, rfl, HA, HK2, a9, HB⟩ := hrel
 cases gk with
 | zero => exact absurd HA.out (by simp [spec_NumText.l0])
 | succ k2 =>
 have H := HA.out
 clear HA
 simp only [spec_NumText.l0] at H
 by_cases aa : a6 ≥ 0
 rotate_left
 ·rw [if_neg aa] at H
  have ag := decide_eq_false aa
  clear aa
  obtain rfl := Option.some.inj H
  have hcv19 := own_string (P := Tryz.prog) Tryz.underlying83 Tryz.underlying5 Tryz.underlying9 (Kd.own_of_R a9.out)
  go_wp2
  go_ret
  exact ⟨tq_1, th_⟩
 rw [if_pos aa] at H
 have ag := decide_eq_true aa
 clear aa
 obtain ⟨ji14, hji14⟩ : ∃ j_ : Int, (IntKind.u64.wrap (8 * (IntKind.u64.wrap (a6)))) = j_ := ⟨_, rfl⟩
 replace H : (if 0 ≤ (ji14) then (if a5.length < 140737488355328 then (spec_NumText.l0 k2 a0 (a5 ++ [(shr .i64 a0 (ji14)) % 256]) (wrap64 (a6 - 1))) else (none)) else (none)) = some r := by first | (rw [hji14] at H; exact H) | (simp only [hji14] at H ⊢; exact H)
 obtain ⟨ak, H⟩ := fc_ H
 have al := eq_true ak
 have am := decide_eq_true ak
 clear ak
 obtain ⟨ji16, hji16⟩ : ∃ j_ : Int, (shr .i64 a0 (ji14)) = j_ := ⟨_, rfl⟩
 replace H : (if a5.length < 140737488355328 then (spec_NumText.l0 k2 a0 (a5 ++ [(ji16) % 256]) (wrap64 (a6 - 1))) else (none)) = some r := by first | (rw [hji16] at H; exact H) | (simp only [hji16] at H ⊢; exact H)
 have hji16_ : (a0 / 2 ^ min (ji14).toNat 64) = ji16 := hji16
 have hji16z : (ji14) ≤ 64 → (a0 / 2 ^ (ji14).toNat) = ji16 := shr_small hji16
 obtain ⟨an, H⟩ := fc_ H
 have LMc17 := Aside0.mk an
 clear an
 obtain ⟨ah, hy132⟩ : ∃ y_ : List Int, y_ = (a5 ++ [(ji16) % 256]) := ⟨_, rfl⟩
 replace H : (spec_NumText.l0 k2 a0 ah (wrap64 (a6 - 1))) = some r := by first | (rw [hy132]; with_reducible exact H) | (have H2_ := (Option.bind_some _ _).symm.trans H; rw [hy132]; with_reducible exact H2_) | (have H2_ := (Option.bind_some _ _).symm.trans H; with_reducible exact H2_) | with_reducible exact H | (rw [hy132]; exact H) | exact H
 have Ny132 := Aside0.mk hy132
 clear hy132
 have H' := Aside0.mk H
 clear H
 go_wp2_with (first | ((with_reducible refine gate_builtin (b := .append) (xs := #[.tmp 29, .tmp 36]) rfl ?_); at_builtin; refine Kd.R_append (Kd.int .u8) (w0 := w) w.heap.size rfl (.tmp 29) (.tmp 36) 83 5 (.int .u8 0) 1 rfl Tryz.underlying83 info5 rfl (by decide) (by omega) u5 a5 ((ji16) % 256) [.int .u8 ((ji16) % 256)] (fun _ => True) (fun _ => False) rfl rfl ?aP (fun _ hk => hk.elim) ?aF ?aO ?aB ?aS ?aL ?_; (case aP => exact rfl); (case aB => exact th_); (case aF => exact (fun _ _ => trivial)); (case aO => exact (raR_ a9)); (case aS => exact (below_size th_)); (case aL => have := LMc17.out; omega); intro v133 ap ho hb hg hat; rw [← Ny132.out] at ho; have z_ := p_ (hb) <| a_ (ho); clear HB a9; obtain ⟨HB, HO134⟩ := z_; clear ho hb hg hat))
 go_roundg k2
 case measure => have := HJ2.out; have := HK2.out; omega
 case rel => exact ⟨(ah), (wrap64 (a6 - 1)), tq_3, H', ⟨(by have := HJ2.out; have := HK2.out; omega)⟩, ⟨(raR_ HO134)⟩, ⟨th_⟩⟩

end Go.Proofs.YtleoknilacjakaaGreat.PFnExactPartWrites
