/- Contracts of Go functions, written by a program of ours over the print of the kit: each says that the call returns what the Lean function beside it computes. Conditions: as each theorem states them. -/
import Derived.Test.YtjfhddenmnjgbaaDoorPkFnAnyInode
import Derived.Test.YtjfhddenmnjgbaaDoorPFnAnyInodex0
import Derived.Test.YtjfhddenmnjgbaaDoorPFnAnyInodex9
import Derived.Test.YtjfhddenmnjgbaaDoorPFnAnyInodex10
import Derived.Test.YtjfhddenmnjgbaaDoorPFnAnyInodex11
namespace Go.Proofs.YtjfhddenmnjgbaaDoor.PFnAnyInode
open Go.RowKit Go.Proofs.YtjfhddenmnjgbaaDoorW.PrintWords Go.Proofs.YtjfhddenmnjgbaaDoorW.PrintLast Go.Proofs.YtjfhddenmnjgbaaDoorW.PrintMore
attribute [local go_sem] max2_int min2_int max_two min_two max_three min_three max_four min_four setCell_drewN   -- for this text's walks alone
set_option linter.unusedVariables false
set_option linter.unusedSimpArgs false

/-! ### impl_InodeOk: function 19 -/
def impl_InodeOk.f (k : Nat) (a0_0 : Int) (a0_1 : Int) (a0_2 : Int) (a0_3 : ByteArray) (l0_4 : List (S42)) (l0_5 : List (S47)) : Option (Bool) := (impl_within.f a0_2 0 65535).bind fun t252 => (if t252 = true then (if a0_0 = 0 then (if a0_1 = 0 then (if a0_3.toList = ([] : List UInt8) then (if (l0_4.length : Int) = 0 then (some ((l0_5.length : Int) == 0)) else (some false)) else (some false)) else (some false)) else (if a0_0 = 1 then ((impl_isFile.f k a0_0 a0_1 a0_2 a0_3 l0_4 l0_5).bind fun t253 => (some t253)) else (if a0_0 = 2 then ((impl_isDir.f k a0_0 a0_1 a0_2 a0_3 l0_4 l0_5).bind fun t254 => (some t254)) else (some false)))) else (some false))
theorem impl_InodeOk.mono : ∀ a0 a1 a2 a3 a4 a5 k, LeO (impl_InodeOk.f k a0 a1 a2 a3 a4 a5) (impl_InodeOk.f (k + 1) a0 a1 a2 a3 a4 a5) := by
 intro a0 a1 a2 a3 a4 a5 k
 unfold impl_InodeOk.f
 repeat' first
   | (with_reducible exact impl_isDir.mono ..)
   | (with_reducible exact impl_isFile.mono ..)
   | (with_reducible exact LeO.refl _)
   | (with_reducible exact LeO.none _)
   | (with_reducible refine LeO.ite ?_ ?_)
   | (with_reducible refine LeO.bind ?_ (fun _ => ?_))
   | exact impl_isDir.mono ..
   | exact impl_isFile.mono ..
   | exact LeO.none _
   | refine LeO.ite ?_ ?_
   | refine LeO.bind ?_ (fun _ => ?_)
set_option maxHeartbeats 8000000 in
set_option maxRecDepth 100000 in
theorem impl_InodeOk.calls (k : Nat) (a0_0 : Int) (a0_1 : Int) (a0_2 : Int) (a0_3 : ByteArray) (A0_4 : Option Addr) (c0_4 : Nat) (l0_4 : List (S42)) (A0_5 : Option Addr) (c0_5 : Nat) (l0_5 : List (S47)) (r : Bool) (w : World) (hr0_4 : Kd.C k42 w A0_4 l0_4.length l0_4) (hc0_4 : l0_4.length ≤ c0_4) (hr0_5 : Kd.C k47 w A0_5 l0_5.length l0_5) (hc0_5 : l0_5.length ≤ c0_5) (h : impl_InodeOk.f k a0_0 a0_1 a0_2 a0_3 l0_4 l0_5 = some r) :
  Calls Tryd.prog 19 #[.agg #[.int .i64 a0_0, .int .i64 a0_1, .int .i64 a0_2, .string a0_3, .slice A0_4 l0_4.length c0_4, .slice A0_5 l0_5.length c0_5]] w fun e w' => e = .returned (.bool r) ∧ Below w.heap.size w w' := by
 have hu27 := Tryd.underlying27
 have HR0_4 := Aside0.mk hr0_4
 have HC0_4 := Aside0.mk hc0_4
 clear hr0_4 hc0_4
 have HR0_5 := Aside0.mk hr0_5
 have HC0_5 := Aside0.mk hc0_5
 clear hr0_5 hc0_5
 have HB := Aside0.mk (Below.refl w.heap.size w)
 unfold impl_InodeOk.f at h
 have H := h
 clear h
 obtain ⟨t252, A2, H⟩ := bd_ H
 by_cases c3 : t252 = true
 rotate_left
 ·replace c3 := Bool.eq_false_iff.mpr c3
  subst c3
  rw [if_neg nf_] at H
  obtain rfl := Option.some.inj H
  go_enter Tryd.func19, Tryd.ntmps19
  go_wp2_with (first | ((with_reducible refine gate_dst (N := 1) rfl ?_); (try (refine gate_guard (by rfl) ?_; dsimp only)); refine be_ 1 (cs := #[.int .i64 a0_0, .int .i64 a0_1, .int .i64 a0_2, .string a0_3, .slice A0_4 l0_4.length c0_4, .slice A0_5 l0_5.length c0_5]) 27 ?_; intro gb251 hg w28 hbox hb; have z_ := bx0_ th_ hb hbox hg; clear HB; obtain ⟨HB, BK251, GW251, GE251⟩ := z_; clear hb hbox hg; obtain ⟨hcz29_0, hcz29_1, hcz29_2, hcz29_3, hcz29_4, hcz29_5⟩ := bk6_ BK251.out; obtain ⟨hfz29_0, hfz29_1, hfz29_2, hfz29_3, hfz29_4, hfz29_5⟩ := bf6_ BK251.out) | ((with_reducible refine gate_callee (f := 54) rfl ?_); refine goesL_ (some 5) rfl rfl Tryd.func54 (by kernel_rfl) rfl #[.int .i64 a0_2, .int .i64 0, .int .i64 65535] rfl tq_0 ?_; (with_reducible refine (impl_within.calls a0_2 0 65535 false _ A2.out).mono ?_); rintro e w' ⟨rfl, ⟨nd, rfl⟩⟩; refine ⟨_, rfl, ?_⟩))
  go_ret
  exact ⟨tq_2, th_⟩
 subst c3
 rw [if_pos rfl] at H
 by_cases c4 : a0_0 = 0
 ·rw [if_pos c4] at H
  have c4b0 := beq_iff_eq.mpr c4
  have c4b1 := bne_eq_false_iff_eq.mpr c4
  clear c4
  by_cases c5 : a0_1 = 0
  rotate_left
  ·rw [if_neg c5] at H
   have c5b0 := beq_eq_false_iff_ne.mpr c5
   have c5b1 := bne_iff_ne.mpr c5
   obtain rfl := Option.some.inj H
   go_enter Tryd.func19, Tryd.ntmps19
   go_wp2_with (first | ((with_reducible refine gate_dst (N := 1) rfl ?_); (try (refine gate_guard (by rfl) ?_; dsimp only)); refine be_ 1 (cs := #[.int .i64 a0_0, .int .i64 a0_1, .int .i64 a0_2, .string a0_3, .slice A0_4 l0_4.length c0_4, .slice A0_5 l0_5.length c0_5]) 27 ?_; intro gb251 hg w14 hbox hb; have z_ := bx0_ th_ hb hbox hg; clear HB; obtain ⟨HB, BK251, GW251, GE251⟩ := z_; clear hb hbox hg; obtain ⟨hcz15_0, hcz15_1, hcz15_2, hcz15_3, hcz15_4, hcz15_5⟩ := bk6_ BK251.out; obtain ⟨hfz15_0, hfz15_1, hfz15_2, hfz15_3, hfz15_4, hfz15_5⟩ := bf6_ BK251.out) | ((with_reducible refine gate_callee (f := 54) rfl ?_); refine goesL_ (some 5) rfl rfl Tryd.func54 (by kernel_rfl) rfl #[.int .i64 a0_2, .int .i64 0, .int .i64 65535] rfl tq_0 ?_; (with_reducible refine (impl_within.calls a0_2 0 65535 true _ A2.out).mono ?_); rintro e w' ⟨rfl, ⟨nd, rfl⟩⟩; refine ⟨_, rfl, ?_⟩))
   go_ret
   exact ⟨tq_2, th_⟩
  rw [if_pos c5] at H
  have c5b0 := beq_iff_eq.mpr c5
  have c5b1 := bne_eq_false_iff_eq.mpr c5
  clear c5
  by_cases c6 : a0_3.toList = ([] : List UInt8)
  rotate_left
  ·rw [if_neg c6] at H
   have c6b0 := beq_eq_false_iff_ne.mpr c6
   have c6b1 := bne_iff_ne.mpr c6
   obtain rfl := Option.some.inj H
   go_enter Tryd.func19, Tryd.ntmps19
   go_wp2_with (first | ((with_reducible refine gate_dst (N := 1) rfl ?_); (try (refine gate_guard (by rfl) ?_; dsimp only)); refine be_ 1 (cs := #[.int .i64 a0_0, .int .i64 a0_1, .int .i64 a0_2, .string a0_3, .slice A0_4 l0_4.length c0_4, .slice A0_5 l0_5.length c0_5]) 27 ?_; intro gb251 hg w12 hbox hb; have z_ := bx0_ th_ hb hbox hg; clear HB; obtain ⟨HB, BK251, GW251, GE251⟩ := z_; clear hb hbox hg; obtain ⟨hcz13_0, hcz13_1, hcz13_2, hcz13_3, hcz13_4, hcz13_5⟩ := bk6_ BK251.out; obtain ⟨hfz13_0, hfz13_1, hfz13_2, hfz13_3, hfz13_4, hfz13_5⟩ := bf6_ BK251.out) | ((with_reducible refine gate_callee (f := 54) rfl ?_); refine goesL_ (some 5) rfl rfl Tryd.func54 (by kernel_rfl) rfl #[.int .i64 a0_2, .int .i64 0, .int .i64 65535] rfl tq_0 ?_; (with_reducible refine (impl_within.calls a0_2 0 65535 true _ A2.out).mono ?_); rintro e w' ⟨rfl, ⟨nd, rfl⟩⟩; refine ⟨_, rfl, ?_⟩))
   go_ret
   exact ⟨tq_2, th_⟩
  rw [if_pos c6] at H
  have c6b0 := beq_iff_eq.mpr c6
  have c6b1 := bne_eq_false_iff_eq.mpr c6
  clear c6
  by_cases c7 : (l0_4.length : Int) = 0
  ·rw [if_pos c7] at H
   have c7b0 := beq_iff_eq.mpr c7
   have c7b1 := bne_eq_false_iff_eq.mpr c7
   clear c7
   obtain rfl := Option.some.inj H
   go_enter Tryd.func19, Tryd.ntmps19
   go_wp2_with (first | ((with_reducible refine gate_dst (N := 1) rfl ?_); (try (refine gate_guard (by rfl) ?_; dsimp only)); refine be_ 1 (cs := #[.int .i64 a0_0, .int .i64 a0_1, .int .i64 a0_2, .string a0_3, .slice A0_4 l0_4.length c0_4, .slice A0_5 l0_5.length c0_5]) 27 ?_; intro gb251 hg w8 hbox hb; have z_ := bx0_ th_ hb hbox hg; clear HB; obtain ⟨HB, BK251, GW251, GE251⟩ := z_; clear hb hbox hg; obtain ⟨hcz9_0, hcz9_1, hcz9_2, hcz9_3, hcz9_4, hcz9_5⟩ := bk6_ BK251.out; obtain ⟨hfz9_0, hfz9_1, hfz9_2, hfz9_3, hfz9_4, hfz9_5⟩ := bf6_ BK251.out) | ((with_reducible refine gate_callee (f := 54) rfl ?_); refine goesL_ (some 5) rfl rfl Tryd.func54 (by kernel_rfl) rfl #[.int .i64 a0_2, .int .i64 0, .int .i64 65535] rfl tq_0 ?_; (with_reducible refine (impl_within.calls a0_2 0 65535 true _ A2.out).mono ?_); rintro e w' ⟨rfl, ⟨nd, rfl⟩⟩; refine ⟨_, rfl, ?_⟩))
   go_ret
   exact ⟨tq_2, th_⟩
  rw [if_neg c7] at H
  have c7b0 := beq_eq_false_iff_ne.mpr c7
  have c7b1 := bne_iff_ne.mpr c7
  have c7b2 : ¬ (l0_4 = []) := fun h_ => c7 (by rw [h_]; rfl)
  obtain rfl := Option.some.inj H
  go_enter Tryd.func19, Tryd.ntmps19
  go_wp2_with (first | ((with_reducible refine gate_dst (N := 1) rfl ?_); (try (refine gate_guard (by rfl) ?_; dsimp only)); refine be_ 1 (cs := #[.int .i64 a0_0, .int .i64 a0_1, .int .i64 a0_2, .string a0_3, .slice A0_4 l0_4.length c0_4, .slice A0_5 l0_5.length c0_5]) 27 ?_; intro gb251 hg w10 hbox hb; have z_ := bx0_ th_ hb hbox hg; clear HB; obtain ⟨HB, BK251, GW251, GE251⟩ := z_; clear hb hbox hg; obtain ⟨hcz11_0, hcz11_1, hcz11_2, hcz11_3, hcz11_4, hcz11_5⟩ := bk6_ BK251.out; obtain ⟨hfz11_0, hfz11_1, hfz11_2, hfz11_3, hfz11_4, hfz11_5⟩ := bf6_ BK251.out) | ((with_reducible refine gate_callee (f := 54) rfl ?_); refine goesL_ (some 5) rfl rfl Tryd.func54 (by kernel_rfl) rfl #[.int .i64 a0_2, .int .i64 0, .int .i64 65535] rfl tq_0 ?_; (with_reducible refine (impl_within.calls a0_2 0 65535 true _ A2.out).mono ?_); rintro e w' ⟨rfl, ⟨nd, rfl⟩⟩; refine ⟨_, rfl, ?_⟩))
  go_ret
  exact ⟨tq_2, th_⟩
 rw [if_neg c4] at H
 have c4b0 := beq_eq_false_iff_ne.mpr c4
 have c4b1 := bne_iff_ne.mpr c4
 by_cases c16 : a0_0 = 1
 ·rw [if_pos c16] at H
  have c16b0 := beq_iff_eq.mpr c16
  have c16b1 := bne_eq_false_iff_eq.mpr c16
  clear c16
  obtain ⟨t253, A17, H⟩ := bd_ H
  obtain rfl := Option.some.inj H
  go_enter Tryd.func19, Tryd.ntmps19
  go_wp2_with (first | ((with_reducible refine gate_dst (N := 1) rfl ?_); (try (refine gate_guard (by rfl) ?_; dsimp only)); refine be_ 1 (cs := #[.int .i64 a0_0, .int .i64 a0_1, .int .i64 a0_2, .string a0_3, .slice A0_4 l0_4.length c0_4, .slice A0_5 l0_5.length c0_5]) 27 ?_; intro gb251 hg w18 hbox hb; have z_ := bx0_ th_ hb hbox hg; clear HB; obtain ⟨HB, BK251, GW251, GE251⟩ := z_; clear hb hbox hg; obtain ⟨hcz19_0, hcz19_1, hcz19_2, hcz19_3, hcz19_4, hcz19_5⟩ := bk6_ BK251.out; obtain ⟨hfz19_0, hfz19_1, hfz19_2, hfz19_3, hfz19_4, hfz19_5⟩ := bf6_ BK251.out) | ((with_reducible refine gate_callee (f := 54) rfl ?_); refine goesL_ (some 5) rfl rfl Tryd.func54 (by kernel_rfl) rfl #[.int .i64 a0_2, .int .i64 0, .int .i64 65535] rfl tq_0 ?_; (with_reducible refine (impl_within.calls a0_2 0 65535 true _ A2.out).mono ?_); rintro e w' ⟨rfl, ⟨nd, rfl⟩⟩; refine ⟨_, rfl, ?_⟩) | ((with_reducible refine gate_callee (f := 55) rfl ?_); refine goesL_ (some 34) rfl rfl Tryd.func55 (by kernel_rfl) rfl #[.agg #[.int .i64 a0_0, .int .i64 a0_1, .int .i64 a0_2, .string a0_3, .slice A0_4 l0_4.length c0_4, .slice A0_5 l0_5.length c0_5]] rfl tq_0 ?_; (with_reducible refine (impl_isFile.calls k a0_0 a0_1 a0_2 a0_3 _ _ l0_4 _ _ l0_5 t253 _ ?side1 ?side2 ?side3 ?side4 A17.out).mono ?_); (case side1 => exact tq_92); (case side2 => exact HC0_4.out); (case side3 => exact tq_67); (case side4 => exact HC0_5.out); rintro e w20 ⟨rfl, hb⟩; refine ⟨_, rfl, ?_⟩; have z_ := bw1_ (kb_ BK251) th_ hb; clear BK251 HB; obtain ⟨BK251, HB⟩ := z_; (try clear hb)))
  go_ret
  exact ⟨tq_2, th_⟩
 rw [if_neg c16] at H
 have c16b0 := beq_eq_false_iff_ne.mpr c16
 have c16b1 := bne_iff_ne.mpr c16
 by_cases c21 : a0_0 = 2
 rotate_left
 ·rw [if_neg c21] at H
  have c21b0 := beq_eq_false_iff_ne.mpr c21
  have c21b1 := bne_iff_ne.mpr c21
  obtain rfl := Option.some.inj H
  go_enter Tryd.func19, Tryd.ntmps19
  go_wp2_with (first | ((with_reducible refine gate_dst (N := 1) rfl ?_); (try (refine gate_guard (by rfl) ?_; dsimp only)); refine be_ 1 (cs := #[.int .i64 a0_0, .int .i64 a0_1, .int .i64 a0_2, .string a0_3, .slice A0_4 l0_4.length c0_4, .slice A0_5 l0_5.length c0_5]) 27 ?_; intro gb251 hg w26 hbox hb; have z_ := bx0_ th_ hb hbox hg; clear HB; obtain ⟨HB, BK251, GW251, GE251⟩ := z_; clear hb hbox hg; obtain ⟨hcz27_0, hcz27_1, hcz27_2, hcz27_3, hcz27_4, hcz27_5⟩ := bk6_ BK251.out; obtain ⟨hfz27_0, hfz27_1, hfz27_2, hfz27_3, hfz27_4, hfz27_5⟩ := bf6_ BK251.out) | ((with_reducible refine gate_callee (f := 54) rfl ?_); refine goesL_ (some 5) rfl rfl Tryd.func54 (by kernel_rfl) rfl #[.int .i64 a0_2, .int .i64 0, .int .i64 65535] rfl tq_0 ?_; (with_reducible refine (impl_within.calls a0_2 0 65535 true _ A2.out).mono ?_); rintro e w' ⟨rfl, ⟨nd, rfl⟩⟩; refine ⟨_, rfl, ?_⟩))
  go_ret
  exact ⟨tq_2, th_⟩
 rw [if_pos c21] at H
 have c21b0 := beq_iff_eq.mpr c21
 have c21b1 := bne_eq_false_iff_eq.mpr c21
 clear c21
 obtain ⟨t254, A22, H⟩ := bd_ H
 obtain rfl := Option.some.inj H
 go_enter Tryd.func19, Tryd.ntmps19
 go_wp2_with (first | ((with_reducible refine gate_dst (N := 1) rfl ?_); (try (refine gate_guard (by rfl) ?_; dsimp only)); refine be_ 1 (cs := #[.int .i64 a0_0, .int .i64 a0_1, .int .i64 a0_2, .string a0_3, .slice A0_4 l0_4.length c0_4, .slice A0_5 l0_5.length c0_5]) 27 ?_; intro gb251 hg w23 hbox hb; have z_ := bx0_ th_ hb hbox hg; clear HB; obtain ⟨HB, BK251, GW251, GE251⟩ := z_; clear hb hbox hg; obtain ⟨hcz24_0, hcz24_1, hcz24_2, hcz24_3, hcz24_4, hcz24_5⟩ := bk6_ BK251.out; obtain ⟨hfz24_0, hfz24_1, hfz24_2, hfz24_3, hfz24_4, hfz24_5⟩ := bf6_ BK251.out) | ((with_reducible refine gate_callee (f := 54) rfl ?_); refine goesL_ (some 5) rfl rfl Tryd.func54 (by kernel_rfl) rfl #[.int .i64 a0_2, .int .i64 0, .int .i64 65535] rfl tq_0 ?_; (with_reducible refine (impl_within.calls a0_2 0 65535 true _ A2.out).mono ?_); rintro e w' ⟨rfl, ⟨nd, rfl⟩⟩; refine ⟨_, rfl, ?_⟩) | ((with_reducible refine gate_callee (f := 56) rfl ?_); refine goesL_ (some 38) rfl rfl Tryd.func56 (by kernel_rfl) rfl #[.agg #[.int .i64 a0_0, .int .i64 a0_1, .int .i64 a0_2, .string a0_3, .slice A0_4 l0_4.length c0_4, .slice A0_5 l0_5.length c0_5]] rfl tq_0 ?_; (with_reducible refine (impl_isDir.calls k a0_0 a0_1 a0_2 a0_3 _ _ l0_4 _ _ l0_5 t254 _ ?side1 ?side2 ?side3 ?side4 A22.out).mono ?_); (case side1 => exact tq_92); (case side2 => exact HC0_4.out); (case side3 => exact tq_67); (case side4 => exact HC0_5.out); rintro e w25 ⟨rfl, hb⟩; refine ⟨_, rfl, ?_⟩; have z_ := bw1_ (kb_ BK251) th_ hb; clear BK251 HB; obtain ⟨BK251, HB⟩ := z_; (try clear hb)))
 go_ret
 exact ⟨tq_2, th_⟩

/-! ### impl_NumAt: function 37 -/
mutual
def impl_NumAt.j0 : Nat → ByteArray → Int → Int → Bool → Option (Int × Bool)
 | 0, _, _, _, _ => none
 | k + 1, x0, x1, x2, x24 => if x24 = true then (some (0, false)) else (impl_NumAt.l0 k x0 x1 0 x2 0)
def impl_NumAt.l0 : Nat → ByteArray → Int → Int → Int → Int → Option (Int × Bool)
 | 0, _, _, _, _, _ => none
 | k + 1, x0, x1, x8, x25, x26 => if x26 < x25 then (if 0 ≤ (wrap64 (x1 + x26)) then (if (wrap64 (x1 + x26)) < (x0.size : Int) then (impl_NumAt.l0 k x0 x1 (Go.bits .or .i64 (wrap64 (x8 * 256)) (wrap64 (bt x0 (wrap64 (x1 + x26))))) x25 (wrap64 (x26 + 1))) else (none)) else (none)) else (some (x8, true))
end
def impl_NumAt.f (k : Nat) (a0 : ByteArray) (a1 : Int) (a2 : Int) : Option (Int × Bool) := if a1 < 0 then (impl_NumAt.j0 k a0 a1 a2 true) else ((impl_within.f a2 1 7).bind fun t255 => (if t255 = true then (impl_NumAt.j0 k a0 a1 a2 (decide (a1 > (wrap64 ((a0.size : Int) - a2))))) else (impl_NumAt.j0 k a0 a1 a2 true)))
theorem impl_NumAt.mono_l : ∀ k, (∀ y0 y1 y2 y3, LeO (impl_NumAt.j0 k y0 y1 y2 y3) (impl_NumAt.j0 (k + 1) y0 y1 y2 y3)) ∧ (∀ y0 y1 y2 y3 y4, LeO (impl_NumAt.l0 k y0 y1 y2 y3 y4) (impl_NumAt.l0 (k + 1) y0 y1 y2 y3 y4))
 | 0 => ⟨fun _ _ _ _ r h => by simp [impl_NumAt.j0] at h, fun _ _ _ _ _ r h => by simp [impl_NumAt.l0] at h⟩
 | k + 1 => by
  obtain ⟨ih0, ih1⟩ := impl_NumAt.mono_l k
  refine ⟨?_, ?_⟩
  ·intro y0 y1 y2 y3
   unfold impl_NumAt.j0
   exact mo_0
  ·intro y0 y1 y2 y3 y4
   unfold impl_NumAt.l0
   exact mo_0
theorem impl_NumAt.mono : ∀ a0 a1 a2 k, LeO (impl_NumAt.f k a0 a1 a2) (impl_NumAt.f (k + 1) a0 a1 a2) := by
 intro a0 a1 a2 k
 obtain ⟨ih0, ih1⟩ := impl_NumAt.mono_l k
 unfold impl_NumAt.f
 repeat' first
   | (with_reducible exact ih0 ..)
   | (with_reducible exact ih1 ..)
   | (with_reducible exact LeO.refl _)
   | (with_reducible exact LeO.none _)
   | (with_reducible refine LeO.ite ?_ ?_)
   | (with_reducible refine LeO.bind ?_ (fun _ => ?_))
   | exact ih0 ..
   | exact ih1 ..
   | exact LeO.none _
   | refine LeO.ite ?_ ?_
   | refine LeO.bind ?_ (fun _ => ?_)
set_option maxHeartbeats 8000000 in
set_option maxRecDepth 100000 in
theorem impl_NumAt.calls (k : Nat) (a0 : ByteArray) (a1 : Int) (a2 : Int) (r1 : Int) (r2 : Bool) (w : World) (h : impl_NumAt.f k a0 a1 a2 = some (r1, r2)) :
  Calls Tryd.prog 37 #[.string a0, .int .i64 a1, .int .i64 a2] w fun e w' => e = .returned (.tuple #[.int .i64 r1, .bool r2]) ∧ Drawn0 w w' := by
 unfold impl_NumAt.f at h
 have H := h
 clear h
 have HC4 := Aside0.mk H
 clear H
 go_enter Tryd.func37, Tryd.ntmps37
 go_upto_region 1 with (fail)
 go_cut [24] (fun v24 wc => ∃ (kq : Nat) (x24_3 : Bool), v24 = .bool x24_3 ∧ Aside0 (impl_NumAt.j0 kq a0 a1 a2 x24_3 = some (r1, r2)) ∧ Aside0 (kq ≤ k) ∧ Drawn0 w wc)
 case first =>
  have H := HC4.out
  clear HC4
  by_cases c5 : a1 < 0
  ·rw [if_pos c5] at H
   have c5b0 := decide_eq_true c5
   clear c5
   (first | rw [c5b0] | (simp only [i64_w, i32_w]; rw [c5b0]) | skip)
   have H' := Aside0.mk H
   clear H
   go_wp2
   go_meet
   case rel => exact ⟨_, (true), tq_4, H', ⟨tq_26⟩, tq_11⟩
  rw [if_neg c5] at H
  have c5b0 := decide_eq_false c5
  clear c5
  (first | rw [c5b0] | (simp only [i64_w, i32_w]; rw [c5b0]) | skip)
  obtain ⟨t255, A6, H⟩ := bd_ H
  by_cases c7 : t255 = true
  ·subst c7
   rw [if_pos rfl] at H
   have H' := Aside0.mk H
   clear H
   go_wp2_with (first | (go_at_call 54; (with_reducible refine (impl_within.calls a2 1 7 true _ A6.out).mono ?_); rintro e w' ⟨rfl, ⟨nd, rfl⟩⟩))
   go_meet
   case rel => exact ⟨_, (decide (a1 > (wrap64 ((a0.size : Int) - a2)))), tq_4, H', ⟨tq_26⟩, tq_11⟩
  replace c7 := Bool.eq_false_iff.mpr c7
  subst c7
  rw [if_neg nf_] at H
  have H' := Aside0.mk H
  clear H
  go_wp2_with (first | (go_at_call 54; (with_reducible refine (impl_within.calls a2 1 7 false _ A6.out).mono ?_); rintro e w' ⟨rfl, ⟨nd, rfl⟩⟩))
  go_meet
  case rel => exact ⟨_, (true), tq_4, H', ⟨tq_26⟩, tq_11⟩
 case rest =>
 clear HC4
 try clear p2; try clear c3; try clear c5; try clear c5b0; try clear p6; try clear c7
 obtain ⟨kq, x24_3, rfl, HA, HJ3, ⟨mc3, rfl⟩⟩ := hcut
 cases kq with
 | zero => exact absurd HA.out (by simp [impl_NumAt.j0])
 | succ kj3 =>
 have H := HA.out
 clear HA
 simp only [impl_NumAt.j0] at H
 by_cases c8 : x24_3 = true
 ·subst c8
  rw [if_pos rfl] at H
  simp only [Option.some.injEq, Prod.mk.injEq] at H
  obtain ⟨rfl, rfl⟩ := H
  go_wp2
  go_ret2
  exact ⟨tq_4, tq_11⟩
 replace c8 := Bool.eq_false_iff.mpr c8
 subst c8
 rw [if_neg nf_] at H
 have H' := Aside0.mk H
 clear H
 go_wp2
 go_loopg [8, 26] kj3 (fun kq v8 v26 w' => ∃ (x8_2 : Int) (x26_2 : Int), v8 = .int .i64 x8_2 ∧ v26 = .int .i64 x26_2 ∧ Aside0 (impl_NumAt.l0 kq a0 a1 x8_2 a2 x26_2 = some (r1, r2)) ∧ Aside0 (kq ≤ kj3) ∧ Drawn0 w w')
 case atStart => exact ⟨(0), (0), tq_4, tq_4, H', ⟨Nat.le_refl _⟩, tq_11⟩
 case round =>
 clear H'
 try clear p2; try clear c3; try clear c5; try clear c5b0; try clear p6; try clear c7; try clear c8; try clear p2; try clear p6
 obtain ⟨x8_2, x26_2, rfl, rfl, HA, HK2, ⟨m2, rfl⟩⟩ := hrel
 cases gk with
 | zero => exact absurd HA.out (by simp [impl_NumAt.l0])
 | succ k2 =>
 have H := HA.out
 clear HA
 simp only [impl_NumAt.l0] at H
 by_cases c9 : x26_2 < a2
 rotate_left
 ·rw [if_neg c9] at H
  have c9b0 := decide_eq_false c9
  clear c9
  simp only [Option.some.injEq, Prod.mk.injEq] at H
  obtain ⟨rfl, rfl⟩ := H
  go_wp2
  go_ret2
  exact ⟨tq_4, tq_11⟩
 rw [if_pos c9] at H
 have c9b0 := decide_eq_true c9
 clear c9
 obtain ⟨ji10, hji10⟩ : ∃ j_ : Int, (wrap64 (a1 + x26_2)) = j_ := ⟨_, rfl⟩
 replace H : (if 0 ≤ (ji10) then (if (ji10) < (a0.size : Int) then (impl_NumAt.l0 k2 a0 a1 (Go.bits .or .i64 (wrap64 (x8_2 * 256)) (wrap64 (bt a0 (ji10)))) a2 (wrap64 (x26_2 + 1))) else (none)) else (none)) = some (r1, r2) := by first | (rw [hji10] at H; exact H) | (simp only [hji10] at H ⊢; exact H)
 have hji10w : (IntKind.i64.wrap (a1 + x26_2)) = ji10 := (i64_w _).trans hji10
 obtain ⟨c11, H⟩ := fc_ H
 have c11b0 := decide_eq_true c11
 clear c11
 obtain ⟨c12, H⟩ := fc_ H
 have c12b0 := decide_eq_true c12
 clear c12
 have H' := Aside0.mk H
 clear H
 have p13 : 0 ≤ ((ji10) : Int) := of_decide_eq_true tq_1
 have q13 : (ji10) < (a0.size : Int) := of_decide_eq_true tq_1
 have hx13 := bt_at a0 (ji10)
 replace p13 := eq_true p13
 replace q13 := eq_true q13
 go_wp2
 go_roundg k2
 case measure => have := HJ3.out; have := HK2.out; omega
 case rel => exact ⟨(Go.bits .or .i64 (wrap64 (x8_2 * 256)) (wrap64 (bt a0 (ji10)))), (wrap64 (x26_2 + 1)), (by first | rfl | (simp; done) | (simp only [← hji10] <;> (first | rfl | simp)) | (simp [*]; done)), tq_4, H', ⟨(by have := HJ3.out; have := HK2.out; omega)⟩, tq_11⟩

/-! ### impl_ReadRec: function 21 -/
def impl_ReadRec.f (k : Nat) (a0 : ByteArray) : Option (Int × Int × ByteArray × Bool) := if (a0.size : Int) = 8 then ((impl_NumAt.f k a0 0 1).bind fun bt257 => ((impl_NumAt.f k a0 1 3).bind fun bt259 => (if 4 ≤ (a0.size : Int) then ((impl_RecWord.f k bt257.1 bt259.1 (a0.extract 4 a0.size)).bind fun t262 => (if t262.toList = a0.toList then (some (bt257.1, bt259.1, a0.extract 4 a0.size, true)) else (some (0, 0, (⟨#[]⟩ : ByteArray), false)))) else (none)))) else (some (0, 0, (⟨#[]⟩ : ByteArray), false))
theorem impl_ReadRec.mono : ∀ a0 k, LeO (impl_ReadRec.f k a0) (impl_ReadRec.f (k + 1) a0) := by
 intro a0 k
 unfold impl_ReadRec.f
 repeat' first
   | (with_reducible exact impl_NumAt.mono ..)
   | (with_reducible exact impl_RecWord.mono ..)
   | (with_reducible exact LeO.refl _)
   | (with_reducible exact LeO.none _)
   | (with_reducible refine LeO.ite ?_ ?_)
   | (with_reducible refine LeO.bind ?_ (fun _ => ?_))
   | exact impl_NumAt.mono ..
   | exact impl_RecWord.mono ..
   | exact LeO.none _
   | refine LeO.ite ?_ ?_
   | refine LeO.bind ?_ (fun _ => ?_)
set_option maxHeartbeats 8000000 in
set_option maxRecDepth 100000 in
theorem impl_ReadRec.calls (k : Nat) (a0 : ByteArray) (r1 : Int) (r2 : Int) (r3 : ByteArray) (r4 : Bool) (w : World) (h : impl_ReadRec.f k a0 = some (r1, r2, r3, r4)) :
  Calls Tryd.prog 21 #[.string a0] w fun e w' => e = .returned (.tuple #[.agg #[.int .i64 r1, .int .i64 r2, .string r3], .bool r4]) ∧ Below w.heap.size w w' := by
 have hu42 := Tryd.underlying42
 have HB := Aside0.mk (Below.refl w.heap.size w)
 unfold impl_ReadRec.f at h
 have H := h
 clear h
 by_cases c2 : (a0.size : Int) = 8
 rotate_left
 ·rw [if_neg c2] at H
  have c2b0 := beq_eq_false_iff_ne.mpr c2
  have c2b1 := bne_iff_ne.mpr c2
  simp only [Option.some.injEq, Prod.mk.injEq] at H
  obtain ⟨rfl, rfl, rfl, rfl⟩ := H
  go_enter Tryd.func21, Tryd.ntmps21
  go_wp2_with (first | ((with_reducible refine gate_dst (N := 2) rfl ?_); refine be_ 2 (cs := #[.int .i64 0, .int .i64 0, .string (⟨#[]⟩ : ByteArray)]) 42 ?_; intro gb256 hg w21 hbox hb; have z_ := bx0_ th_ hb hbox hg; clear HB; obtain ⟨HB, BK256, GW256, GE256⟩ := z_; clear hb hbox hg; obtain ⟨hcz22_0, hcz22_1, hcz22_2⟩ := bk3_ BK256.out; obtain ⟨hfz22_0, hfz22_1, hfz22_2⟩ := bf3_ BK256.out))
  refine bodyPost_ret (results_ct rfl _ _ gb256 42 #[.int .i64 0, .int .i64 0, .string (⟨#[]⟩ : ByteArray)] (0, 0) _ rfl tb_ Tryd.underlying42 rfl (by kernel_rfl)) rfl ?_
  exact ⟨tq_2, th_⟩
 rw [if_pos c2] at H
 have c2b0 := beq_iff_eq.mpr c2
 have c2b1 := bne_eq_false_iff_eq.mpr c2
 clear c2
 obtain ⟨⟨t257, t258⟩, A3, H⟩ := bd_ H
 try dsimp -simprocs only at H
 obtain ⟨⟨t259, t260⟩, A4, H⟩ := bd_ H
 try dsimp -simprocs only at H
 obtain ⟨c5, H⟩ := fc_ H
 have c5b0 := eq_true c5
 have c5b1 := decide_eq_true c5
 clear c5
 obtain ⟨t262, A6, H⟩ := bd_ H
 by_cases c7 : t262.toList = a0.toList
 rotate_left
 ·rw [if_neg c7] at H
  have c7b0 := beq_eq_false_iff_ne.mpr c7
  have c7b1 := bne_iff_ne.mpr c7
  simp only [Option.some.injEq, Prod.mk.injEq] at H
  obtain ⟨rfl, rfl, rfl, rfl⟩ := H
  go_enter Tryd.func21, Tryd.ntmps21
  go_wp2_with (first | ((with_reducible refine gate_dst (N := 2) rfl ?_); refine be_ 2 (cs := #[.int .i64 0, .int .i64 0, .string (⟨#[]⟩ : ByteArray)]) 42 ?_; intro gb256 hg w15 hbox hb; have z_ := bx0_ th_ hb hbox hg; clear HB; obtain ⟨HB, BK256, GW256, GE256⟩ := z_; clear hb hbox hg) | ((with_reducible refine gate_callee (f := 37) rfl ?_); refine goesL_ (some 15) rfl rfl Tryd.func37 (by kernel_rfl) rfl #[.string a0, .int .i64 0, .int .i64 1] rfl tq_0 ?_; (with_reducible refine (impl_NumAt.calls k a0 0 1 t257 t258 _ A3.out).mono ?_); rintro e w' ⟨rfl, ⟨nd, rfl⟩⟩; refine ⟨_, rfl, ?_⟩; (try (rw [drewN_self w15]; generalize hq_ : World.drewN w15 _ = w15; have z_ := q_ (⟨(by rw [← hq_]; exact (kb_ BK256))⟩ : Aside0 (w15.heap[gb256]? = some (.cells #[.int .i64 0, .int .i64 0, .string (⟨#[]⟩ : ByteArray)] 42 (0, 0)))) <| (⟨tq_73⟩ : Aside0 (Below w.heap.size w w15)); clear BK256 HB hq_; obtain ⟨BK256, HB⟩ := z_))) | ((with_reducible refine gate_callee (f := 37) rfl ?_); refine goesL_ (some 20) rfl rfl Tryd.func37 (by kernel_rfl) rfl #[.string a0, .int .i64 1, .int .i64 3] rfl tq_0 ?_; (with_reducible refine (impl_NumAt.calls k a0 1 3 t259 t260 _ A4.out).mono ?_); rintro e w' ⟨rfl, ⟨nd, rfl⟩⟩; refine ⟨_, rfl, ?_⟩; (try (rw [drewN_self w15]; generalize hq_ : World.drewN w15 _ = w15; have z_ := q_ (⟨(by rw [← hq_]; exact (kb_ BK256))⟩ : Aside0 (w15.heap[gb256]? = some (.cells #[.int .i64 0, .int .i64 0, .string (⟨#[]⟩ : ByteArray)] 42 (0, 0)))) <| (⟨tq_73⟩ : Aside0 (Below w.heap.size w w15)); clear BK256 HB hq_; obtain ⟨BK256, HB⟩ := z_))) | ((with_reducible refine gate_dst (N := 8) rfl ?_); refine be_ 8 (cs := #[.int .i64 0, .int .i64 0, .string (⟨#[]⟩ : ByteArray)]) 42 ?_; intro gb261 hg w16 hbox hb; have z_ := bx1_ (kb_ BK256) th_ hb hbox hg; clear BK256 HB; obtain ⟨BK256, HB, BK261, GW261, GE261, NB256_261, NB261_256⟩ := z_; clear hb hbox hg; obtain ⟨n261_256, n256_261⟩ := an2_ NB261_256 NB256_261; obtain ⟨hcz18_0, hcz18_1, hcz18_2⟩ := bk3_ BK261.out; obtain ⟨hfz18_0, hfz18_1, hfz18_2⟩ := bf3_ BK261.out) | ((with_reducible refine gate_callee (f := 22) rfl ?_); refine goesL_ (some 29) rfl rfl Tryd.func22 (by kernel_rfl) rfl #[.agg #[.int .i64 t257, .int .i64 t259, .string (a0.extract 4 a0.size)]] rfl tq_0 ?_; (with_reducible refine (impl_RecWord.calls k t257 t259 (a0.extract 4 a0.size) t262 _ A6.out).mono ?_); rintro e w19 ⟨rfl, hb⟩; refine ⟨_, rfl, ?_⟩; have z_ := p_ (blk_below (g := gb256) (o := .cells #[.int .i64 0, .int .i64 0, .string (⟨#[]⟩ : ByteArray)] 42 (0, 0)) tq_49 hb) <| p_ (blk_below (g := gb261) (o := .cells #[.int .i64 t257, .int .i64 t259, .string (a0.extract 4 a0.size)] 42 (0, 0)) tq_36 hb) <| a_ (below_step th_ hb); clear BK256 BK261 HB; obtain ⟨BK256, BK261, HB⟩ := z_; (try clear hb); obtain ⟨hcz20_0, hcz20_1, hcz20_2⟩ := bk3_ BK256.out; obtain ⟨hfz20_0, hfz20_1, hfz20_2⟩ := bf3_ BK256.out))
  refine bodyPost_ret (results_ct rfl _ _ gb256 42 #[.int .i64 0, .int .i64 0, .string (⟨#[]⟩ : ByteArray)] (0, 0) _ rfl tb_ Tryd.underlying42 rfl (by kernel_rfl)) rfl ?_
  exact ⟨tq_2, th_⟩
 rw [if_pos c7] at H
 have c7b0 := beq_iff_eq.mpr c7
 have c7b1 := bne_eq_false_iff_eq.mpr c7
 clear c7
 simp only [Option.some.injEq, Prod.mk.injEq] at H
 obtain ⟨rfl, rfl, rfl, rfl⟩ := H
 go_enter Tryd.func21, Tryd.ntmps21
 go_wp2_with (first | ((with_reducible refine gate_dst (N := 2) rfl ?_); refine be_ 2 (cs := #[.int .i64 0, .int .i64 0, .string (⟨#[]⟩ : ByteArray)]) 42 ?_; intro gb256 hg w8 hbox hb; have z_ := bx0_ th_ hb hbox hg; clear HB; obtain ⟨HB, BK256, GW256, GE256⟩ := z_; clear hb hbox hg) | ((with_reducible refine gate_callee (f := 37) rfl ?_); refine goesL_ (some 15) rfl rfl Tryd.func37 (by kernel_rfl) rfl #[.string a0, .int .i64 0, .int .i64 1] rfl tq_0 ?_; (with_reducible refine (impl_NumAt.calls k a0 0 1 t257 t258 _ A3.out).mono ?_); rintro e w' ⟨rfl, ⟨nd, rfl⟩⟩; refine ⟨_, rfl, ?_⟩; (try (rw [drewN_self w8]; generalize hq_ : World.drewN w8 _ = w8; have z_ := q_ (⟨(by rw [← hq_]; exact (kb_ BK256))⟩ : Aside0 (w8.heap[gb256]? = some (.cells #[.int .i64 0, .int .i64 0, .string (⟨#[]⟩ : ByteArray)] 42 (0, 0)))) <| (⟨tq_73⟩ : Aside0 (Below w.heap.size w w8)); clear BK256 HB hq_; obtain ⟨BK256, HB⟩ := z_))) | ((with_reducible refine gate_callee (f := 37) rfl ?_); refine goesL_ (some 20) rfl rfl Tryd.func37 (by kernel_rfl) rfl #[.string a0, .int .i64 1, .int .i64 3] rfl tq_0 ?_; (with_reducible refine (impl_NumAt.calls k a0 1 3 t259 t260 _ A4.out).mono ?_); rintro e w' ⟨rfl, ⟨nd, rfl⟩⟩; refine ⟨_, rfl, ?_⟩; (try (rw [drewN_self w8]; generalize hq_ : World.drewN w8 _ = w8; have z_ := q_ (⟨(by rw [← hq_]; exact (kb_ BK256))⟩ : Aside0 (w8.heap[gb256]? = some (.cells #[.int .i64 0, .int .i64 0, .string (⟨#[]⟩ : ByteArray)] 42 (0, 0)))) <| (⟨tq_73⟩ : Aside0 (Below w.heap.size w w8)); clear BK256 HB hq_; obtain ⟨BK256, HB⟩ := z_))) | ((with_reducible refine gate_dst (N := 8) rfl ?_); refine be_ 8 (cs := #[.int .i64 0, .int .i64 0, .string (⟨#[]⟩ : ByteArray)]) 42 ?_; intro gb261 hg w9 hbox hb; have z_ := bx1_ (kb_ BK256) th_ hb hbox hg; clear BK256 HB; obtain ⟨BK256, HB, BK261, GW261, GE261, NB256_261, NB261_256⟩ := z_; clear hb hbox hg; obtain ⟨n261_256, n256_261⟩ := an2_ NB261_256 NB256_261; obtain ⟨hcz11_0, hcz11_1, hcz11_2⟩ := bk3_ BK261.out; obtain ⟨hfz11_0, hfz11_1, hfz11_2⟩ := bf3_ BK261.out) | ((with_reducible refine gate_callee (f := 22) rfl ?_); refine goesL_ (some 29) rfl rfl Tryd.func22 (by kernel_rfl) rfl #[.agg #[.int .i64 t257, .int .i64 t259, .string (a0.extract 4 a0.size)]] rfl tq_0 ?_; (with_reducible refine (impl_RecWord.calls k t257 t259 (a0.extract 4 a0.size) t262 _ A6.out).mono ?_); rintro e w12 ⟨rfl, hb⟩; refine ⟨_, rfl, ?_⟩; have z_ := p_ (blk_below (g := gb256) (o := .cells #[.int .i64 0, .int .i64 0, .string (⟨#[]⟩ : ByteArray)] 42 (0, 0)) tq_49 hb) <| p_ (blk_below (g := gb261) (o := .cells #[.int .i64 t257, .int .i64 t259, .string (a0.extract 4 a0.size)] 42 (0, 0)) tq_36 hb) <| a_ (below_step th_ hb); clear BK256 BK261 HB; obtain ⟨BK256, BK261, HB⟩ := z_; (try clear hb); obtain ⟨hcz13_0, hcz13_1, hcz13_2⟩ := bk3_ BK261.out; obtain ⟨hfz13_0, hfz13_1, hfz13_2⟩ := bf3_ BK261.out; obtain ⟨hcz14_0, hcz14_1, hcz14_2⟩ := bk3_ BK256.out; obtain ⟨hfz14_0, hfz14_1, hfz14_2⟩ := bf3_ BK256.out))
 refine bodyPost_ret (results_ct rfl _ _ gb256 42 #[.int .i64 t257, .int .i64 t259, .string (a0.extract 4 a0.size)] (0, 0) _ rfl tb_ Tryd.underlying42 rfl (by kernel_rfl)) rfl ?_
 exact ⟨tq_2, th_⟩

/-! ### strings_TrimRight: function 58 -/
def strings_TrimRight.f (a0 : ByteArray) (a1 : ByteArray) : Option (ByteArray) := if a1.data.toList = [0] ∧ a0.size ≤ 9223372036854775807 then some (⟨(Lib.trimRightB a0.data.toList 0).toArray⟩) else none
theorem strings_TrimRight.calls (a0 : ByteArray) (a1 : ByteArray) (r : ByteArray) (w : World) (h : strings_TrimRight.f a0 a1 = some r) :
  Calls Tryd.prog 58 #[.string a0, .string a1] w fun e w' => e = .returned (.string r) ∧ Below w.heap.size w w' := by
 unfold strings_TrimRight.f at h
 split at h
 case isFalse => cases h
 case isTrue hc =>
 obtain rfl := Option.some.inj h
 obtain ⟨⟨l_⟩⟩ := a1
 obtain rfl : l_ = [0] := hc.1
 refine (Tryd.strings_TrimRight_one a0 0 (by decide) w hc.2).mono ?_
 rintro e w' ⟨rfl, rfl⟩
 exact ⟨rfl, Below.refl _ _⟩

end Go.Proofs.YtjfhddenmnjgbaaDoor.PFnAnyInode
