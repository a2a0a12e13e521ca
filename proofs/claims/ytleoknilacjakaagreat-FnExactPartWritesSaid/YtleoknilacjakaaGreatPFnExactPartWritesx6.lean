/- Contracts of Go functions, written by a program of ours over the print of the kit: each says that the call returns what the Lean function beside it computes. Conditions: as each theorem states them. -/
import Derived.Test.YtleoknilacjakaaGreatPkFnExactPartWrites
import Derived.Test.YtleoknilacjakaaGreatPFnExactPartWritesx0
namespace Go.Proofs.YtleoknilacjakaaGreat.PFnExactPartWrites
open Go.RowKit Go.Proofs.YtleoknilacjakaaGreatW.PrintWords Go.Proofs.YtleoknilacjakaaGreatW.PrintLast Go.Proofs.YtleoknilacjakaaGreatW.PrintMore
attribute [local go_sem] max2_int min2_int max_two min_two max_three min_three max_four min_four   -- for this text's walks alone
set_option linter.unusedVariables false
set_option linter.unusedSimpArgs false

/-! ### spec_UsersOf: function 42 -/
mutual
def spec_UsersOf.l0 : Nat → Int → Int → Int → Int → List Int → List (S69) → Option (Int)
 | 0, _, _, _, _, _, _ => none
 | k + 1, x1, x5, x6, x182000, x182001, x182002 => if x6 < (x182002.length : Int) then (spec_UsersOf.l1 k x1 x5 x6 0 x182000 x182001 x182002) else (some x5)
def spec_UsersOf.l1 : Nat → Int → Int → Int → Int → Int → List Int → List (S69) → Option (Int)
 | 0, _, _, _, _, _, _, _ => none
 | k + 1, x1, x5, x6, x7, x182000, x182001, x182002 => if 0 ≤ x6 then (if x6 < (x182002.length : Int) then (if x7 < (((rd_T69 x182002 x6).f4).length : Int) then (spec_UsersOf.j2 k x1 x5 x6 x7 (((rd_T69 x182002 x6).f0) == 1) x182000 x182001 x182002) else (spec_UsersOf.j2 k x1 x5 x6 x7 false x182000 x182001 x182002)) else (none)) else (none)
def spec_UsersOf.j2 : Nat → Int → Int → Int → Int → Bool → Int → List Int → List (S69) → Option (Int)
 | 0, _, _, _, _, _, _, _, _ => none
 | k + 1, x1, x5, x6, x7, x32, x182000, x182001, x182002 => if x32 = true then (if 0 ≤ x6 then (if x6 < (x182002.length : Int) then (if 0 ≤ x7 then (if x7 < (((rd_T69 x182002 x6).f4).length : Int) then (if (wrap64 (((rd_T89 ((rd_T69 x182002 x6).f4) x7).f0) - 1)) = x1 then (spec_UsersOf.l1 k x1 (wrap64 (x5 + 1)) x6 (wrap64 (x7 + 1)) x182000 x182001 x182002) else (spec_UsersOf.l1 k x1 x5 x6 (wrap64 (x7 + 1)) x182000 x182001 x182002)) else (none)) else (none)) else (none)) else (none)) else (spec_UsersOf.l0 k x1 x5 (wrap64 (x6 + 1)) x182000 x182001 x182002)
end
def spec_UsersOf.f (k : Nat) (a0_0 : Int) (l0_1 : List Int) (l0_2 : List (S69)) (a1 : Int) : Option (Int) := spec_UsersOf.l0 k a1 0 0 a0_0 l0_1 l0_2
set_option maxHeartbeats 8000000 in
set_option maxRecDepth 100000 in
theorem spec_UsersOf.calls (k : Nat) (an : Int) (bf : Option Addr) (bg : Nat) (aj : List Int) (bh : Option Addr) (bi : Nat) (a7 : List (S69)) (a1 : Int) (r : Int) (w : World) (br : Kd.C (Kd.int .i64) w bf aj.length aj) (bs : aj.length ≤ bg) (bu : Kd.C k69 w bh a7.length a7) (bv : a7.length ≤ bi) (h : spec_UsersOf.f k an aj a7 a1 = some r) :
  Calls Tryz.prog 42 #[.agg #[.int .i64 an, .slice bf aj.length bg, .slice bh a7.length bi], .int .i64 a1] w fun e w' => e = .returned (.int .i64 r) ∧ Below w.heap.size w w' := by
 have hu35 := Tryz.underlying35
 have HR0_1 := Aside0.mk br
 have da := Aside0.mk bs
 clear br bs
 have HR0_2 := Aside0.mk bu
 have db := Aside0.mk bv
 clear bu bv
 have HB := Aside0.mk (Below.refl w.heap.size w)
 unfold spec_UsersOf.f at h
 have H := h
 clear h
 have H' := Aside0.mk H
 clear H
 go_enter Tryz.func42, Tryz.ntmps42
 go_wp2_with (first | ((with_reducible refine gate_dst (N := 2) rfl ?_); refine be_ 2 (cs := #[.int .i64 an, .slice bf aj.length bg, .slice bh a7.length bi]) 35 ?_; intro bj hg w3 hbox hb; have z_ := bx0_ th_ hb hbox hg; clear HB; obtain ⟨HB, a6, dc, dd⟩ := z_; clear hb hbox hg))
 go_loopg [5, 6] k (fun kq v5 v6 w' => ∃ (bl : Int) (a5 : Int), v5 = .int .i64 bl ∧ v6 = .int .i64 a5 ∧ Aside0 (spec_UsersOf.l0 kq a1 bl a5 an aj a7 = some r) ∧ Aside0 (kq ≤ k) ∧ Aside0 (w'.heap[bj]? = some (.cells #[.int .i64 an, (.slice bf aj.length bg), (.slice bh a7.length bi)] 35 (0, 0))) ∧ Aside0 (Below w.heap.size w w'))
 case atStart => exact ⟨(0), (0), tq_3, tq_3, H', ⟨Nat.le_refl _⟩, ⟨(kb_ a6)⟩, ⟨th_⟩⟩
 case round =>
 clear H'
 try clear p2
 obtain ⟨bl, a5, rfl, rfl, HA, HK1, a6, HB⟩ := hrel
 cases gk with
 | zero => exact absurd HA.out (by simp [spec_UsersOf.l0])
 | succ k1 =>
 have H := HA.out
 clear HA
 simp only [spec_UsersOf.l0] at H
 have de := Aside0.mk H
 clear H
 have cm := bb3_ a6.out
 go_upto_if 12 with (fail)
 (try clear cm)
 have H := de.out
 clear de
 by_cases c6 : a5 < (a7.length : Int)
 rotate_left
 ·rw [if_neg c6] at H
  have b4 := decide_eq_false c6
  clear c6
  (first | rw [b4] | (simp only [i64_w, i32_w]; rw [b4]) | skip)
  obtain rfl := Option.some.inj H
  go_wp2
  go_ret
  exact ⟨tq_1, th_⟩
 rw [if_pos c6] at H
 have b4 := decide_eq_true c6
 clear c6
 (first | rw [b4] | (simp only [i64_w, i32_w]; rw [b4]) | skip)
 have H' := Aside0.mk H
 clear H
 go_wp2
 go_loopg [5, 7] k1 (fun kq v5 v7 w' => ∃ (b5 : Int) (am : Int), v5 = .int .i64 b5 ∧ v7 = .int .i64 am ∧ Aside0 (spec_UsersOf.l1 kq a1 b5 a5 am an aj a7 = some r) ∧ Aside0 (kq ≤ k1) ∧ Aside0 (w'.heap[bj]? = some (.cells #[.int .i64 an, (.slice bf aj.length bg), (.slice bh a7.length bi)] 35 (0, 0))) ∧ Aside0 (Below w.heap.size w w'))
 case atStart => exact ⟨(bl), (0), tq_3, tq_3, H', ⟨Nat.le_refl _⟩, ⟨(kb_ a6)⟩, ⟨th_⟩⟩
 case round =>
 clear H'
 try clear p2; try clear c4; try clear c6; try clear b4; try clear cm; try clear p2
 obtain ⟨b5, am, rfl, rfl, HA, HK2, a6, HB⟩ := hrel
 cases gk with
 | zero => exact absurd HA.out (by simp [spec_UsersOf.l1])
 | succ k2 =>
 have H := HA.out
 clear HA
 simp only [spec_UsersOf.l1] at H
 have cw := Aside0.mk H
 clear H
 go_upto_region 6 with (fail)
 go_cut [32] (fun v32 wc => ∃ (kq : Nat) (b6 : Bool), v32 = .bool b6 ∧ Aside0 (spec_UsersOf.j2 kq a1 b5 a5 am b6 an aj a7 = some r) ∧ Aside0 (kq ≤ k2) ∧ Aside0 (wc.heap[bj]? = some (.cells #[.int .i64 an, (.slice bf aj.length bg), (.slice bh a7.length bi)] 35 (0, 0))) ∧ Aside0 (Below w.heap.size w wc))
 case first =>
  have H := cw.out
  clear cw
  obtain ⟨c8, H⟩ := fc_ H
  have bz := decide_eq_true c8
  clear c8
  (first | rw [bz] | (simp only [i64_w, i32_w]; rw [bz]) | skip)
  obtain ⟨c9, H⟩ := fc_ H
  have cx := decide_eq_true c9
  clear c9
  by_cases ca : am < (((rd_T69 a7 a5).f4).length : Int)
  rotate_left
  ·rw [if_neg ca] at H
   have bw := decide_eq_false ca
   clear ca
   have H' := Aside0.mk H
   clear H
   have ch := bb3_ a6.out
   have p182 : 0 ≤ (a5 : Int) := of_decide_eq_true tq_2
   have q182 : a5 < (a7.length : Int) := of_decide_eq_true tq_2
   obtain ⟨bx, cb, cc, cd, ce, cf, aa, ab, ac, ae, a8, a9, af, ag, ah, ai⟩ := at_T69 HR0_2.out a5 p182 q182
   cases cf
   replace aa := hx_ HB.out aa
   replace ab := hx_ HB.out ab
   replace ac := hx_ HB.out ac
   replace ae := hx_ HB.out ae
   replace a8 := hx_ HB.out a8
   replace a9 := hx_ HB.out a9
   have bm := Aside0.mk ag
   have bn := Aside0.mk af
   clear ag af
   have bo := Aside0.mk ai
   have bp := Aside0.mk ah
   clear ai ah
   replace p182 := eq_true p182
   replace q182 := eq_true q182
   go_wp2
   go_meet
   case rel => exact ⟨_, (false), tq_3, H', ⟨tq_22⟩, ⟨(kb_ a6)⟩, ⟨th_⟩⟩
  rw [if_pos ca] at H
  have bw := decide_eq_true ca
  clear ca
  have H' := Aside0.mk H
  clear H
  have ci := bb3_ a6.out
  have p182 : 0 ≤ (a5 : Int) := of_decide_eq_true tq_2
  have q182 : a5 < (a7.length : Int) := of_decide_eq_true tq_2
  obtain ⟨bx, cb, cc, cd, ce, cf, aa, ab, ac, ae, a8, a9, af, ag, ah, ai⟩ := at_T69 HR0_2.out a5 p182 q182
  cases cf
  replace aa := hx_ HB.out aa
  replace ab := hx_ HB.out ab
  replace ac := hx_ HB.out ac
  replace ae := hx_ HB.out ae
  replace a8 := hx_ HB.out a8
  replace a9 := hx_ HB.out a9
  have bm := Aside0.mk ag
  have bn := Aside0.mk af
  clear ag af
  have bo := Aside0.mk ai
  have bp := Aside0.mk ah
  clear ai ah
  replace p182 := eq_true p182
  replace q182 := eq_true q182
  have p183 : 0 ≤ (a5 : Int) := of_decide_eq_true tq_2
  have q183 : a5 < (a7.length : Int) := of_decide_eq_true tq_2
  obtain ⟨cj, cy, cz, d0, d1, d2, ao, ap, aq, ar, ak, al, b7, b8, b9, ba⟩ := at_T69 HR0_2.out a5 p183 q183
  obtain rfl : bx = cj := (by injection d2)
  replace ao := hx_ HB.out ao
  replace ap := hx_ HB.out ap
  replace aq := hx_ HB.out aq
  replace ar := hx_ HB.out ar
  replace ak := hx_ HB.out ak
  replace al := hx_ HB.out al
  have cn := Aside0.mk b8
  have co := Aside0.mk b7
  clear b8 b7
  have cp := Aside0.mk ba
  have cq := Aside0.mk b9
  clear ba b9
  replace p183 := eq_true p183
  replace q183 := eq_true q183
  have ea_ := Option.some.inj (a8.symm.trans ak)
  injection ea_ with ea_ en_ ec_
  subst ea_
  subst ec_
  clear en_
  have ea_ := Option.some.inj (a9.symm.trans al)
  injection ea_ with ea_ en_ ec_
  subst ea_
  subst ec_
  clear en_
  go_wp2
  go_meet
  case rel => exact ⟨_, ((((rd_T69 a7 a5).f0) == 1)), tq_3, H', ⟨tq_22⟩, ⟨(kb_ a6)⟩, ⟨th_⟩⟩
 case rest =>
 clear cw
 try clear c1; try clear p1; try clear q1; try clear hx1; try clear p2; try clear c4; try clear c6; try clear b4; try clear c8; try clear bz; try clear c9; try clear cx; try clear ca; try clear bw; try clear ci; try clear ch; try clear cm; try clear ci; try clear ch; try clear cm; try clear aa; try clear ab; try clear ac; try clear ae; try clear a8; try clear a9; try clear ao; try clear ap; try clear aq; try clear ar; try clear ak; try clear al; try clear p182; try clear p183; try clear p2; try clear q182; try clear q183
 obtain ⟨kq, b6, rfl, HA, HJ6, a6, HB⟩ := hcut
 cases kq with
 | zero => exact absurd HA.out (by simp [spec_UsersOf.j2])
 | succ kj6 =>
 have H := HA.out
 clear HA
 simp only [spec_UsersOf.j2] at H
 by_cases cr : b6 = true
 rotate_left
 ·replace cr := Bool.eq_false_iff.mpr cr
  subst cr
  rw [if_neg nf_] at H
  have H' := Aside0.mk H
  clear H
  go_wp2
  go_roundg kj6
  case measure => have := HK1.out; have := HK2.out; have := HJ6.out; omega
  case rel => exact ⟨(b5), (wrap64 (a5 + 1)), tq_3, tq_3, H', ⟨tq_21⟩, ⟨(kb_ a6)⟩, ⟨th_⟩⟩
 subst cr
 rw [if_pos rfl] at H
 obtain ⟨df, H⟩ := fc_ H
 have dg := decide_eq_true df
 clear df
 obtain ⟨dh, H⟩ := fc_ H
 have di := decide_eq_true dh
 clear dh
 obtain ⟨dj, H⟩ := fc_ H
 have dk := decide_eq_true dj
 clear dj
 obtain ⟨dl, H⟩ := fc_ H
 have dm := decide_eq_true dl
 clear dl
 have ck := Aside0.mk H
 clear H
 have d3 := bb3_ a6.out
 have p184 : 0 ≤ (a5 : Int) := of_decide_eq_true tq_2
 have q184 : a5 < (a7.length : Int) := of_decide_eq_true tq_2
 obtain ⟨dn, d4, d5, d6, d7, d8, au, av, aw, ax, ay, az, bb, bc, bd, be⟩ := at_T69 HR0_2.out a5 p184 q184
 cases d8
 replace au := hx_ HB.out au
 replace av := hx_ HB.out av
 replace aw := hx_ HB.out aw
 replace ax := hx_ HB.out ax
 replace ay := hx_ HB.out ay
 replace az := hx_ HB.out az
 have bq := Aside0.mk bc
 have ct := Aside0.mk bb
 clear bc bb
 have cu := Aside0.mk be
 have cv := Aside0.mk bd
 clear be bd
 replace p184 := eq_true p184
 replace q184 := eq_true q184
 have p185 : 0 ≤ (am : Int) := of_decide_eq_true tq_2
 have q185 : am < (((rd_T69 a7 a5).f4).length : Int) := of_decide_eq_true tq_2
 obtain ⟨dp, d9, b0, b1, b2⟩ := at_T89 bq.out am p185 q185
 cases d9
 replace b0 := hx_ HB.out b0
 replace b1 := hx_ HB.out b1
 replace b2 := hx_ HB.out b2
 replace p185 := eq_true p185
 replace q185 := eq_true q185
 go_upto_if 47 with (fail)
 (try clear d3)
 (try clear au av aw ax ay az)
 (try clear b0 b1 b2)
 have H := ck.out
 clear ck
 by_cases cg : (wrap64 (((rd_T89 ((rd_T69 a7 a5).f4) am).f0) - 1)) = a1
 rotate_left
 ·rw [if_neg cg] at H
  have b3 := beq_eq_false_iff_ne.mpr cg
  have cl := bne_iff_ne.mpr cg
  (first | rw [b3] | (simp only [i64_w, i32_w]; rw [b3]) | skip)
  have H' := Aside0.mk H
  clear H
  go_wp2
  go_roundg kj6
  case measure => have := HK1.out; have := HK2.out; have := HJ6.out; omega
  case rel => exact ⟨(b5), (wrap64 (am + 1)), tq_3, tq_3, H', ⟨tq_21⟩, ⟨(kb_ a6)⟩, ⟨th_⟩⟩
 rw [if_pos cg] at H
 have b3 := beq_iff_eq.mpr cg
 have cl := bne_eq_false_iff_eq.mpr cg
 clear cg
 (first | rw [b3] | (simp only [i64_w, i32_w]; rw [b3]) | skip)
 have H' := Aside0.mk H
 clear H
 go_wp2
 go_roundg kj6
 case measure => have := HK1.out; have := HK2.out; have := HJ6.out; omega
 case rel => exact ⟨(wrap64 (b5 + 1)), (wrap64 (am + 1)), tq_3, tq_3, H', ⟨tq_21⟩, ⟨(kb_ a6)⟩, ⟨th_⟩⟩

end Go.Proofs.YtleoknilacjakaaGreat.PFnExactPartWrites
