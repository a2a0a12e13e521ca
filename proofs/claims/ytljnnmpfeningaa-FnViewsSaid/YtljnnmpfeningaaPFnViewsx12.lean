/- Contracts of Go functions, written by a program of ours over the print of the kit: each says that the call returns what the Lean function beside it computes. Conditions: as each theorem states them. -/
import Derived.Test.YtljnnmpfeningaaPkFnViews
import Derived.Test.YtljnnmpfeningaaPFnViewsx0
import Derived.Test.YtljnnmpfeningaaPFnViewsx4
import Derived.Test.YtljnnmpfeningaaPFnViewsx10
import Derived.Test.YtljnnmpfeningaaPFnViewsx11
namespace Go.Proofs.Ytljnnmpfeningaa.PFnViews
open Go.RowKit Go.Proofs.YtljnnmpfeningaaW.PrintWords Go.Proofs.YtljnnmpfeningaaW.PrintLast Go.Proofs.YtljnnmpfeningaaW.PrintMore
attribute [local go_sem] max2_int min2_int max_two min_two max_three min_three max_four min_four   -- for this text's walks alone
set_option linter.unusedVariables false
set_option linter.unusedSimpArgs false

/-! ### spec_l17File: function 132 -/
mutual
def spec_l17File.j0 : Nat → ByteArray → Bool → List (S44) → Int → ByteArray → ByteArray → Int → Int → ByteArray → Option ((List (S44)) × Int × ByteArray × Int × Bool × List ByteArray)
 | 0, _, _, _, _, _, _, _, _, _ => none
 | k + 1, x10, x34, x417000, x418000, x418001, x418002, x418003, x418004, x418005 => if x34 = true then ((spec_l17Same.f x417000).bind fun t421 => ((spec_l17Fails.f 12).bind fun bt424 => (some (t421, bt424.1, bt424.2.1, bt424.2.2.1, bt424.2.2.2.1, bt424.2.2.2.2)))) else ((spec_Brought.f k x418003 0 (x10.size : Int)).bind fun t431 => (if x418004 < (wrap64 ((x10.size : Int) - t431)) then ((spec_l17Same.f x417000).bind fun t432 => (if 0 ≤ t431 then (if t431 ≤ (wrap64 (t431 + x418004)) then (if (wrap64 (t431 + x418004)) ≤ (x10.size : Int) then (some (t432, 0, x10.extract (t431 : Int).toNat ((wrap64 (t431 + x418004)) : Int).toNat, 0, false, ([] : List ByteArray))) else (none)) else (none)) else (none))) else ((spec_l17Same.f x417000).bind fun t435 => (if 0 ≤ t431 then (if t431 ≤ (x10.size : Int) then (if (x10.size : Int) ≤ (x10.size : Int) then (some (t435, 0, x10.extract (t431 : Int).toNat ((x10.size : Int) : Int).toNat, 0, false, ([] : List ByteArray))) else (none)) else (none)) else (none)))))
def spec_l17File.j1 : Nat → Int → ByteArray → Bool → Int → Int → Int → Int → List (S44) → Int → ByteArray → ByteArray → Int → Int → ByteArray → Option ((List (S44)) × Int × ByteArray × Int × Bool × List ByteArray)
 | 0, _, _, _, _, _, _, _, _, _, _, _, _, _, _ => none
 | k + 1, x2, x10, x75, x416000, x416001, x416002, x416003, x417000, x418000, x418001, x418002, x418003, x418004, x418005 => if x75 = true then ((spec_l17Same.f x417000).bind fun t438 => ((spec_l17Fails.f 12).bind fun bt441 => (some (t438, bt441.1, bt441.2.1, bt441.2.2.1, bt441.2.2.2.1, bt441.2.2.2.2)))) else ((spec_TextWith.f k x10 x418003 x418005).bind fun t448 => ((spec_l17Texts.f k x416000 x416001 x416002 x416003 x417000 x2 t448).bind fun bt449 => (if bt449.2 = 0 then (some (bt449.1, 0, (⟨#[]⟩ : ByteArray), (x418005.size : Int), false, ([] : List ByteArray))) else ((spec_l17Fails.f bt449.2).bind fun bt454 => (some (bt449.1, bt454.1, bt454.2.1, bt454.2.2.1, bt454.2.2.2.1, bt454.2.2.2.2))))))
end
def spec_l17File.f (k : Nat) (a0_0 : Int) (a0_1 : Int) (a0_2 : Int) (a0_3 : Int) (l1_0 : List (S44)) (a2 : Int) (a3_0 : Int) (a3_1 : ByteArray) (a3_2 : ByteArray) (a3_3 : Int) (a3_4 : Int) (a3_5 : ByteArray) : Option ((List (S44)) × Int × ByteArray × Int × Bool × List ByteArray) := if 0 ≤ a2 then (if a2 < (l1_0.length : Int) then (if a3_0 = 6 then (if a3_3 < 0 then (spec_l17File.j0 k ((rd_T44 l1_0 a2).f2) true l1_0 a3_0 a3_1 a3_2 a3_3 a3_4 a3_5) else (spec_l17File.j0 k ((rd_T44 l1_0 a2).f2) (decide (a3_4 < 0)) l1_0 a3_0 a3_1 a3_2 a3_3 a3_4 a3_5)) else (if a3_0 = 7 then (if a3_3 < 0 then (spec_l17File.j1 k a2 ((rd_T44 l1_0 a2).f2) true a0_0 a0_1 a0_2 a0_3 l1_0 a3_0 a3_1 a3_2 a3_3 a3_4 a3_5) else (spec_l17File.j1 k a2 ((rd_T44 l1_0 a2).f2) (decide (a3_3 > (wrap64 (128 - (a3_5.size : Int))))) a0_0 a0_1 a0_2 a0_3 l1_0 a3_0 a3_1 a3_2 a3_3 a3_4 a3_5)) else ((spec_l01In.f a3_4 0 128).bind fun t461 => (if t461 = true then ((spec_TextCut.f k ((rd_T44 l1_0 a2).f2) a3_4).bind fun t462 => ((spec_l17Texts.f k a0_0 a0_1 a0_2 a0_3 l1_0 a2 t462).bind fun bt463 => ((spec_l17Fails.f bt463.2).bind fun bt468 => (some (bt463.1, bt468.1, bt468.2.1, bt468.2.2.1, bt468.2.2.2.1, bt468.2.2.2.2))))) else ((spec_l17Same.f l1_0).bind fun t475 => ((spec_l17Fails.f 12).bind fun bt478 => (some (t475, bt478.1, bt478.2.1, bt478.2.2.1, bt478.2.2.2.1, bt478.2.2.2.2)))))))) else (none)) else (none)
theorem spec_l17File.mono_l : ∀ k, (∀ y0 y1 y2 y3 y4 y5 y6 y7 y8, LeO (spec_l17File.j0 k y0 y1 y2 y3 y4 y5 y6 y7 y8) (spec_l17File.j0 (k + 1) y0 y1 y2 y3 y4 y5 y6 y7 y8)) ∧ (∀ y0 y1 y2 y3 y4 y5 y6 y7 y8 y9 y10 y11 y12 y13, LeO (spec_l17File.j1 k y0 y1 y2 y3 y4 y5 y6 y7 y8 y9 y10 y11 y12 y13) (spec_l17File.j1 (k + 1) y0 y1 y2 y3 y4 y5 y6 y7 y8 y9 y10 y11 y12 y13))
 | 0 => ⟨fun _ _ _ _ _ _ _ _ _ r h => by simp [spec_l17File.j0] at h, fun _ _ _ _ _ _ _ _ _ _ _ _ _ _ r h => by simp [spec_l17File.j1] at h⟩
 | k + 1 => by
  obtain ⟨ih0, ih1⟩ := spec_l17File.mono_l k
  refine ⟨?_, ?_⟩
  ·intro y0 y1 y2 y3 y4 y5 y6 y7 y8
   unfold spec_l17File.j0
   exact mo_7
  ·intro y0 y1 y2 y3 y4 y5 y6 y7 y8 y9 y10 y11 y12 y13
   unfold spec_l17File.j1
   exact mo_7
theorem spec_l17File.mono : ∀ a0 a1 a2 a3 a4 a5 a6 a7 a8 a9 a10 a11 k, LeO (spec_l17File.f k a0 a1 a2 a3 a4 a5 a6 a7 a8 a9 a10 a11) (spec_l17File.f (k + 1) a0 a1 a2 a3 a4 a5 a6 a7 a8 a9 a10 a11) := by
 intro a0 a1 a2 a3 a4 a5 a6 a7 a8 a9 a10 a11 k
 obtain ⟨ih0, ih1⟩ := spec_l17File.mono_l k
 unfold spec_l17File.f
 repeat' first
   | (with_reducible exact ih0 ..)
   | (with_reducible exact ih1 ..)
   | (with_reducible exact spec_Brought.mono ..)
   | (with_reducible exact spec_TextCut.mono ..)
   | (with_reducible exact spec_TextWith.mono ..)
   | (with_reducible exact spec_l17Texts.mono ..)
   | (with_reducible exact LeO.refl _)
   | (with_reducible exact LeO.none _)
   | (with_reducible refine LeO.ite ?_ ?_)
   | (with_reducible refine LeO.bind ?_ (fun _ => ?_))
   | exact ih0 ..
   | exact ih1 ..
   | exact spec_Brought.mono ..
   | exact spec_TextCut.mono ..
   | exact spec_TextWith.mono ..
   | exact spec_l17Texts.mono ..
   | exact LeO.none _
   | refine LeO.ite ?_ ?_
   | refine LeO.bind ?_ (fun _ => ?_)
def spec_l17File.T10 : Bool × List (List Nat × List Nat) := (true, [([], []), ([0], [0]), ([], []), ([], []), ([], []), ([2, 3, 4], [2, 3, 4]), ([5], [5]), ([1, 1, 0, 1], [1]), ([6, 7, 0, 1, 2, 3, 4, 5, 6, 7], [6])])
def spec_l17File.B10 : List Nat := [0, 1, 0, 0, 0, 28, 60, 3, 255]
theorem spec_l17File.tab10 : rtab .any (opsOf Try.f132 10) = spec_l17File.T10 := by kernel_rfl
theorem spec_l17File.bits10 : waitsOk spec_l17File.T10.2 spec_l17File.B10 = true := by kernel_rfl
def spec_l17File.T14 : Bool × List (List Nat × List Nat) := (true, [([], []), ([], []), ([], []), ([], []), ([], []), ([4], [4]), ([], []), ([6], [6]), ([3, 5, 7], [3, 5, 7]), ([0, 1, 2, 8, 8], [0, 1, 2, 8]), ([9], [9]), ([10], [10]), ([10], [10]), ([], []), ([13, 11, 9, 0, 1, 2, 3, 4, 5, 6, 7, 8, 9, 10, 11, 13], [11, 13]), ([12, 14, 0, 1, 2, 3, 4, 5, 6, 7, 8, 9, 10, 11, 12, 13, 14], [12])])
def spec_l17File.B14 : List Nat := [0, 0, 0, 0, 0, 16, 0, 64, 248, 511, 1023, 2047, 2047, 0, 12287, 32767]
theorem spec_l17File.tab14 : rtab .any (opsOf Try.f132 14) = spec_l17File.T14 := by kernel_rfl
theorem spec_l17File.bits14 : waitsOk spec_l17File.T14.2 spec_l17File.B14 = true := by kernel_rfl
def spec_l17File.T20 : Bool × List (List Nat × List Nat) := (true, [([], []), ([], []), ([], []), ([], []), ([], []), ([4], [4]), ([3, 5], [3, 5]), ([0, 1, 2, 6, 6], [0, 1, 2, 6]), ([7], [7]), ([8], [8]), ([8], [8]), ([], []), ([11, 9, 7, 0, 1, 2, 3, 4, 5, 6, 7, 8, 9, 11], [9, 11]), ([10, 12, 0, 1, 2, 3, 4, 5, 6, 7, 8, 9, 10, 11, 12], [10])])
def spec_l17File.B20 : List Nat := [0, 0, 0, 0, 0, 16, 56, 127, 255, 511, 511, 0, 3071, 8191]
theorem spec_l17File.tab20 : rtab .any (opsOf Try.f132 20) = spec_l17File.T20 := by kernel_rfl
theorem spec_l17File.bits20 : waitsOk spec_l17File.T20.2 spec_l17File.B20 = true := by kernel_rfl
set_option maxHeartbeats 8000000 in
set_option maxRecDepth 100000 in
theorem spec_l17File.calls (k : Nat) (a0_0 : Int) (a0_1 : Int) (a0_2 : Int) (a0_3 : Int) (A1_0 : Option Addr) (c1_0 : Nat) (l1_0 : List (S44)) (a2 : Int) (a3_0 : Int) (a3_1 : ByteArray) (a3_2 : ByteArray) (a3_3 : Int) (a3_4 : Int) (a3_5 : ByteArray) (r1 : List (S44)) (r2 : Int) (r3 : ByteArray) (r4 : Int) (r5 : Bool) (r6 : List ByteArray) (w : World) (hr1_0 : Kd.C k44 w A1_0 l1_0.length l1_0) (hc1_0 : l1_0.length ≤ c1_0) (h : spec_l17File.f k a0_0 a0_1 a0_2 a0_3 l1_0 a2 a3_0 a3_1 a3_2 a3_3 a3_4 a3_5 = some (r1, r2, r3, r4, r5, r6)) :
  Calls Try.prog 132 #[.agg #[.int .i64 a0_0, .int .i64 a0_1, .int .i64 a0_2, .int .i64 a0_3], .agg #[.slice A1_0 l1_0.length c1_0], .int .i64 a2, .agg #[.int .i64 a3_0, .string a3_1, .string a3_2, .int .i64 a3_3, .int .i64 a3_4, .string a3_5]] w fun e w' => ∃ v0_ v5_ : Value, e = .returned (.tuple #[.agg #[v0_], .agg #[.int .i64 r2, .string r3, .int .i64 r4, .bool r5, v5_]]) ∧ Kd.R k44 44 w' w.heap.size (fun _ => True) v0_ r1 ∧ Kd.R Kd.string 9 w' w.heap.size (fun _ => True) v5_ r6 ∧ Below w.heap.size w w' := by
 have hu30 := Try.underlying30
 have hu42 := Try.underlying42
 have hu133 := Try.underlying133
 have hu129 := Try.underlying129
 have HR1_0 := Aside0.mk hr1_0
 have HC1_0 := Aside0.mk hc1_0
 clear hr1_0 hc1_0
 have HB := Aside0.mk (Below.refl w.heap.size w)
 unfold spec_l17File.f at h
 have H := h
 clear h
 obtain ⟨c5, H⟩ := fc_ H
 have c5b0 := decide_eq_true c5
 clear c5
 obtain ⟨c6, H⟩ := fc_ H
 have c6b0 := decide_eq_true c6
 clear c6
 have HC7 := Aside0.mk H
 clear H
 go_enter Try.func132, Try.ntmps132
 go_upto_if 25 with (first | ((with_reducible refine gate_dst (N := 4) rfl ?_); (try (refine gate_guard (by rfl) ?_; dsimp only)); refine be_ 4 (cs := #[.int .i64 a0_0, .int .i64 a0_1, .int .i64 a0_2, .int .i64 a0_3]) 30 ?_; intro gb415 hg w8 hbox hb; have z_ := bx0_ th_ hb hbox hg; clear HB; obtain ⟨HB, BK415, GW415, GE415⟩ := z_; clear hb hbox hg) | ((with_reducible refine gate_dst (N := 5) rfl ?_); (try (refine gate_guard (by rfl) ?_; dsimp only)); refine be_ 5 (cs := #[.slice A1_0 l1_0.length c1_0]) 42 ?_; intro gb416 hg w9 hbox hb; have z_ := bx1_ (kb_ BK415) th_ hb hbox hg; clear BK415 HB; obtain ⟨BK415, HB, BK416, GW416, GE416, NB415_416, NB416_415⟩ := z_; clear hb hbox hg) | ((with_reducible refine gate_dst (N := 7) rfl ?_); (try (refine gate_guard (by rfl) ?_; dsimp only)); refine be_ 7 (cs := #[.int .i64 a3_0, .string a3_1, .string a3_2, .int .i64 a3_3, .int .i64 a3_4, .string a3_5]) 133 ?_; intro gb417 hg w10 hbox hb; have z_ := bx2_ (kb_ BK415) (kb_ BK416) th_ hb hbox hg; clear BK415 BK416 HB; obtain ⟨BK415, BK416, HB, BK417, GW417, GE417, NB415_417, NB417_415, NB416_417, NB417_416⟩ := z_; clear hb hbox hg) | ((with_reducible refine gate_dst (N := 8) rfl ?_); (try (refine gate_guard (by rfl) ?_; dsimp only)); refine be_ 8 (cs := #[.slice none 0 0]) 42 ?_; intro gb418 hg w11 hbox hb; have z_ := bx3_ (kb_ BK415) (kb_ BK416) (kb_ BK417) th_ hb hbox hg; clear BK415 BK416 BK417 HB; obtain ⟨BK415, BK416, BK417, HB, BK418, GW418, GE418, NB415_418, NB418_415, NB416_418, NB418_416, NB417_418, NB418_417⟩ := z_; clear hb hbox hg) | ((with_reducible refine gate_dst (N := 9) rfl ?_); (try (refine gate_guard (by rfl) ?_; dsimp only)); refine be_ 9 (cs := #[.int .i64 0, .string (⟨#[]⟩ : ByteArray), .int .i64 0, .bool false, .slice none 0 0]) 129 ?_; intro gb419 hg w12 hbox hb; have z_ := bx4_ (kb_ BK415) (kb_ BK416) (kb_ BK417) (kb_ BK418) th_ hb hbox hg; clear BK415 BK416 BK417 BK418 HB; obtain ⟨BK415, BK416, BK417, BK418, HB, BK419, GW419, GE419, NB415_419, NB419_415, NB416_419, NB419_416, NB417_419, NB419_417, NB418_419, NB419_418⟩ := z_; clear hb hbox hg; obtain ⟨n416_415, n415_416, n416_417, n417_416, n416_418, n418_416, n416_419, n419_416⟩ := an8_ NB416_415 NB415_416 NB416_417 NB417_416 NB416_418 NB418_416 NB416_419 NB419_416; have hcz17_0 := bc_ BK416.out 0; have hfz17_0 := blk_frozen BK416.out 0; have p420 : 0 ≤ (a2 : Int) := of_decide_eq_true tq_3; have q420 : a2 < (l1_0.length : Int) := of_decide_eq_true tq_3; obtain ⟨ad420, e420, hx420_0, hx420_1, hx420_2⟩ := at_T44 HR1_0.out a2 p420 q420; cases e420; replace hx420_0 := hx_ HB.out hx420_0; replace hx420_1 := hx_ HB.out hx420_1; replace hx420_2 := hx_ HB.out hx420_2; replace p420 := eq_true p420; replace q420 := eq_true q420; obtain ⟨n417_415, n415_417, n417_418, n418_417, n417_419, n419_417⟩ := an6_ NB417_415 NB415_417 NB417_418 NB418_417 NB417_419 NB419_417; obtain ⟨hcz21_0, hcz21_1, hcz21_2, hcz21_3, hcz21_4, hcz21_5⟩ := bk6_ BK417.out; obtain ⟨hfz21_0, hfz21_1, hfz21_2, hfz21_3, hfz21_4, hfz21_5⟩ := bf6_ BK417.out))
 (try simp only [Act.put, List.setIfInBounds_toArray, List.set_cons_zero, List.set_cons_succ])
 (try clear n415_416 n415_417 n416_415 n416_417 n416_418 n416_419 n417_415 n417_416 n417_418 n417_419 n418_416 n418_417 n419_416 n419_417)
 (try clear hcz17_0)
 (try clear hcz21_0 hcz21_1 hcz21_2 hcz21_3 hcz21_4 hcz21_5)
 (try clear hfz17_0)
 (try clear hfz21_0 hfz21_1 hfz21_2 hfz21_3 hfz21_4 hfz21_5)
 (try clear hx420_0 hx420_1 hx420_2)
 have H := HC7.out
 clear HC7
 by_cases c22 : a3_0 = 6
 ·rw [if_pos c22] at H
  have c22b0 := beq_iff_eq.mpr c22
  have c22b1 := bne_eq_false_iff_eq.mpr c22
  clear c22
  (first | rw [c22b0] | (simp only [i64_w, i32_w]; rw [c22b0]) | skip)
  have HC23 := Aside0.mk H
  clear H
  go_upto_region 4 with (fail)
  go_cut [34] (fun v34 wc => ∃ (kq : Nat) (x34_22 : Bool), v34 = .bool x34_22 ∧ Aside0 (spec_l17File.j0 kq ((rd_T44 l1_0 a2).f2) x34_22 l1_0 a3_0 a3_1 a3_2 a3_3 a3_4 a3_5 = some (r1, r2, r3, r4, r5, r6)) ∧ Aside0 (kq ≤ k) ∧ Aside0 (wc.heap[gb415]? = some (.cells #[.int .i64 a0_0, .int .i64 a0_1, .int .i64 a0_2, .int .i64 a0_3] 30 (0, 0))) ∧ Aside0 (wc.heap[gb416]? = some (.cells #[(.slice (some ad420) l1_0.length c1_0)] 42 (0, 0))) ∧ Aside0 (wc.heap[gb417]? = some (.cells #[.int .i64 a3_0, .string a3_1, .string a3_2, .int .i64 a3_3, .int .i64 a3_4, .string a3_5] 133 (0, 0))) ∧ Aside0 (wc.heap[gb418]? = some (.cells #[(.slice none 0 0)] 42 (0, 0))) ∧ Aside0 (wc.heap[gb419]? = some (.cells #[.int .i64 0, .string (⟨#[]⟩ : ByteArray), .int .i64 0, .bool false, (.slice none 0 0)] 129 (0, 0))) ∧ Aside0 (Below w.heap.size w wc))
  case first =>
   have H := HC23.out
   clear HC23
   by_cases c24 : a3_3 < 0
   ·rw [if_pos c24] at H
    have c24b0 := decide_eq_true c24
    clear c24
    (first | rw [c24b0] | (simp only [i64_w, i32_w]; rw [c24b0]) | skip)
    have H' := Aside0.mk H
    clear H
    obtain ⟨n417_415, n415_417, n417_416, n416_417, n417_418, n418_417, n417_419, n419_417⟩ := an8_ NB417_415 NB415_417 NB417_416 NB416_417 NB417_418 NB418_417 NB417_419 NB419_417
    obtain ⟨hcz29_0, hcz29_1, hcz29_2, hcz29_3, hcz29_4, hcz29_5⟩ := bk6_ BK417.out
    obtain ⟨hfz29_0, hfz29_1, hfz29_2, hfz29_3, hfz29_4, hfz29_5⟩ := bf6_ BK417.out
    go_wp2
    go_meet
    case rel => exact ⟨_, (true), tq_5, H', ⟨tq_38⟩, ⟨(kb_ BK415)⟩, ⟨(kb_ BK416)⟩, ⟨(kb_ BK417)⟩, ⟨(kb_ BK418)⟩, ⟨(kb_ BK419)⟩, ⟨th_⟩⟩
   rw [if_neg c24] at H
   have c24b0 := decide_eq_false c24
   clear c24
   (first | rw [c24b0] | (simp only [i64_w, i32_w]; rw [c24b0]) | skip)
   have H' := Aside0.mk H
   clear H
   obtain ⟨n417_415, n415_417, n417_416, n416_417, n417_418, n418_417, n417_419, n419_417⟩ := an8_ NB417_415 NB415_417 NB417_416 NB416_417 NB417_418 NB418_417 NB417_419 NB419_417
   obtain ⟨hcz34_0, hcz34_1, hcz34_2, hcz34_3, hcz34_4, hcz34_5⟩ := bk6_ BK417.out
   obtain ⟨hfz34_0, hfz34_1, hfz34_2, hfz34_3, hfz34_4, hfz34_5⟩ := bf6_ BK417.out
   go_wp2
   go_meet
   case rel => exact ⟨_, (decide (a3_4 < 0)), tq_5, H', ⟨tq_38⟩, ⟨(kb_ BK415)⟩, ⟨(kb_ BK416)⟩, ⟨(kb_ BK417)⟩, ⟨(kb_ BK418)⟩, ⟨(kb_ BK419)⟩, ⟨th_⟩⟩
  case rest =>
  clear HC23
  try clear c1; try clear c2; try clear p2; try clear c3; try clear p4; try clear q4; try clear hx4; try clear c5; try clear c5b0; try clear c6; try clear c6b0; try clear c13; try clear c14; try clear c15; try clear c16; try clear c18; try clear c19; try clear c20; try clear c22; try clear c22b0; try clear c22b1; try clear c24; try clear c24b0; try clear c25; try clear c26; try clear c27; try clear c28; try clear c30; try clear c31; try clear c32; try clear c33; try clear hcz17_0; try clear hcz21_0 hcz21_1 hcz21_2 hcz21_3 hcz21_4 hcz21_5; try clear hcz29_0 hcz29_1 hcz29_2 hcz29_3 hcz29_4 hcz29_5; try clear hcz34_0 hcz34_1 hcz34_2 hcz34_3 hcz34_4 hcz34_5; try clear hfz17_0; try clear hfz21_0 hfz21_1 hfz21_2 hfz21_3 hfz21_4 hfz21_5; try clear hfz29_0 hfz29_1 hfz29_2 hfz29_3 hfz29_4 hfz29_5; try clear hfz34_0 hfz34_1 hfz34_2 hfz34_3 hfz34_4 hfz34_5; try clear hx420_0; try clear hx420_1; try clear hx420_2; try clear p420; try clear q420
  obtain ⟨kq, x34_22, rfl, HA, HJ22, BK415, BK416, BK417, BK418, BK419, HB⟩ := hcut
  cases kq with
  | zero => exact absurd HA.out (by simp [spec_l17File.j0])
  | succ kj22 =>
  have H := HA.out
  clear HA
  simp only [spec_l17File.j0] at H
  by_cases c35 : x34_22 = true
  ·subst c35
   rw [if_pos rfl] at H
   obtain ⟨t421, A36, H⟩ := bd_ H
   obtain ⟨⟨t424, t425, t426, t427, t428⟩, A37, H⟩ := bd_ H
   try dsimp -simprocs only at H
   simp only [Option.some.injEq, Prod.mk.injEq] at H
   obtain ⟨rfl, rfl, rfl, rfl, rfl, rfl⟩ := H
   obtain ⟨n416_415, n415_416, n416_417, n417_416, n416_418, n418_416, n416_419, n419_416⟩ := an8_ NB416_415 NB415_416 NB416_417 NB417_416 NB416_418 NB418_416 NB416_419 NB419_416
   have hcz42_0 := bc_ BK416.out 0
   have hfz42_0 := blk_frozen BK416.out 0
   go_wp2_with (first | ((with_reducible refine gate_callee (f := 123) rfl ?_); refine goesL_ (some 36) rfl rfl Try.func123 (by kernel_rfl) rfl #[.agg #[.slice (some ad420) l1_0.length c1_0]] rfl tq_0 ?_; (with_reducible refine (spec_l17Same.calls _ _ l1_0 t421 _ ?side1 ?side2 A36.out).mono ?_); (case side1 => exact tq_11); (case side2 => exact HC1_0.out); rintro e w43 ⟨v422, rfl, ho0, hb⟩; refine ⟨_, rfl, ?_⟩; have z_ := p_ (Kd.R_lower ho0 (below_size th_)) <| bw5_ (kb_ BK415) (kb_ BK416) (kb_ BK417) (kb_ BK418) (kb_ BK419) th_ hb; clear BK415 BK416 BK417 BK418 BK419 HB; obtain ⟨HO423, BK415, BK416, BK417, BK418, BK419, HB⟩ := z_; (try clear hb); (try clear ho0)) | ((with_reducible refine gate_callee (f := 125) rfl ?_); refine goesL_ (some 37) rfl rfl Try.func125 (by kernel_rfl) rfl #[.int .i64 12] rfl tq_0 ?_; (with_reducible refine (spec_l17Fails.calls 12 t424 t425 t426 t427 t428 _ A37.out).mono ?_); rintro e w44 ⟨v429, rfl, ho0, hb⟩; refine ⟨_, rfl, ?_⟩; have z_ := p_ (Kd.R_below (raR_ HO423) hb) <| p_ (Kd.R_lower ho0 (below_size th_)) <| bw5_ (kb_ BK415) (kb_ BK416) (kb_ BK417) (kb_ BK418) (kb_ BK419) th_ hb; clear HO423 BK415 BK416 BK417 BK418 BK419 HB; obtain ⟨HO423, HO430, BK415, BK416, BK417, BK418, BK419, HB⟩ := z_; (try clear hb); (try clear ho0); obtain ⟨Ao45, co45, eo45⟩ := Kd.R_slice HO423.out; subst eo45; obtain ⟨n418_415, n415_418, n418_417, n417_418, n418_419, n419_418⟩ := an6_ NB418_415 NB415_418 NB418_417 NB417_418 NB418_419 NB419_418; have hcz49_0 := bc_ BK418.out 0; have hfz49_0 := blk_frozen BK418.out 0; obtain ⟨n419_415, n415_419, n419_417, n417_419⟩ := an4_ NB419_415 NB415_419 NB419_417 NB417_419; obtain ⟨hcz52_0, hcz52_1, hcz52_2, hcz52_3, hcz52_4⟩ := bk5_ BK419.out; obtain ⟨hfz52_0, hfz52_1, hfz52_2, hfz52_3, hfz52_4⟩ := bf5_ BK419.out; obtain ⟨Ao53, co53, eo53⟩ := Kd.R_slice HO430.out; subst eo53))
   refine bodyPost_ret (results_cc rfl _ _ gb418 gb419 42 129 #[.slice Ao45 t421.length co45] #[.int .i64 t424, .string t425, .int .i64 t426, .bool t427, .slice Ao53 t428.length co53] (0, 0) (0, 0) _ _ rfl tb_ Try.underlying42 rfl (by kernel_rfl) rfl tb_ Try.underlying129 rfl (by kernel_rfl)) rfl ?_
   exact ⟨_, _, tq_1, (by (with_reducible repeat (first | apply Kd.R_alloc | apply Kd.R_drewN | apply Kd.R_drew)); exact Kd.R_mono (rR_ (rR_ (rR_ (rR_ (rR_ (rR_ (Kd.R_types (Kd.R_types HO423.out BK418.out (by decide)) BK419.out (by decide)) (fun _ hk => hk.1.2))))))) (fun _ hk => trivial)), (by (with_reducible repeat (first | apply Kd.R_alloc | apply Kd.R_drewN | apply Kd.R_drew)); exact Kd.R_mono (rR_ (rR_ (rR_ (rR_ (rR_ (rR_ (Kd.R_types (Kd.R_types HO430.out BK418.out (by decide)) BK419.out (by decide)) (fun _ hk => hk.1.2))))))) (fun _ hk => trivial)), th_⟩
  replace c35 := Bool.eq_false_iff.mpr c35
  subst c35
  rw [if_neg nf_] at H
  obtain ⟨t431, A54, H⟩ := bd_ H
  have HC55 := Aside0.mk H
  clear H
  obtain ⟨n417_415, n415_417, n417_416, n416_417, n417_418, n418_417, n417_419, n419_417⟩ := an8_ NB417_415 NB415_417 NB417_416 NB416_417 NB417_418 NB418_417 NB417_419 NB419_417
  obtain ⟨hcz60_0, hcz60_1, hcz60_2, hcz60_3, hcz60_4, hcz60_5⟩ := bk6_ BK417.out
  obtain ⟨hfz60_0, hfz60_1, hfz60_2, hfz60_3, hfz60_4, hfz60_5⟩ := bf6_ BK417.out
  go_upto_if 50 with (first | ((with_reducible refine gate_callee (f := 145) rfl ?_); refine goesL_ (some 42) rfl rfl Try.func145 (by kernel_rfl) rfl #[.int .i64 a3_3, .int .i64 0, .int .i64 (((rd_T44 l1_0 a2).f2).size : Int)] rfl tq_0 ?_; (with_reducible refine (spec_Brought.calls kj22 a3_3 0 (((rd_T44 l1_0 a2).f2).size : Int) t431 _ A54.out).mono ?_); rintro e w' ⟨rfl, ⟨nd, rfl⟩⟩; refine ⟨_, rfl, ?_⟩))
  (try simp only [Act.put, List.setIfInBounds_toArray, List.set_cons_zero, List.set_cons_succ])
  (try clear n415_417 n416_417 n417_415 n417_416 n417_418 n417_419 n418_417 n419_417)
  (try clear hcz60_0 hcz60_1 hcz60_2 hcz60_3 hcz60_4 hcz60_5)
  (try clear hfz60_0 hfz60_1 hfz60_2 hfz60_3 hfz60_4 hfz60_5)
  have H := HC55.out
  clear HC55
  by_cases c61 : a3_4 < (wrap64 ((((rd_T44 l1_0 a2).f2).size : Int) - t431))
  rotate_left
  ·rw [if_neg c61] at H
   have c61b0 := decide_eq_false c61
   clear c61
   (first | rw [c61b0] | (simp only [i64_w, i32_w]; rw [c61b0]) | skip)
   obtain ⟨t435, A80, H⟩ := bd_ H
   obtain ⟨c81, H⟩ := fc_ H
   have c81b0 := eq_true c81
   have c81b1 := decide_eq_true c81
   clear c81
   obtain ⟨c82, H⟩ := fc_ H
   have c82b0 := eq_true c82
   have c82b1 := decide_eq_true c82
   clear c82
   obtain ⟨c83, H⟩ := fc_ H
   have c83b0 := eq_true c83
   have c83b1 := decide_eq_true c83
   clear c83
   simp only [Option.some.injEq, Prod.mk.injEq] at H
   obtain ⟨rfl, rfl, rfl, rfl, rfl, rfl⟩ := H
   try go_wp2
   (try (rw [drewN_self wc]; generalize hq_ : World.drewN wc _ = wc; have z_ := q_ (⟨(by rw [← hq_]; exact (kb_ BK415))⟩ : Aside0 (wc.heap[gb415]? = some (.cells #[.int .i64 a0_0, .int .i64 a0_1, .int .i64 a0_2, .int .i64 a0_3] 30 (0, 0)))) <| q_ (⟨(by rw [← hq_]; exact (kb_ BK416))⟩ : Aside0 (wc.heap[gb416]? = some (.cells #[.slice (some ad420) l1_0.length c1_0] 42 (0, 0)))) <| q_ (⟨(by rw [← hq_]; exact (kb_ BK417))⟩ : Aside0 (wc.heap[gb417]? = some (.cells #[.int .i64 a3_0, .string a3_1, .string a3_2, .int .i64 a3_3, .int .i64 a3_4, .string a3_5] 133 (0, 0)))) <| q_ (⟨(by rw [← hq_]; exact (kb_ BK418))⟩ : Aside0 (wc.heap[gb418]? = some (.cells #[.slice none 0 0] 42 (0, 0)))) <| q_ (⟨(by rw [← hq_]; exact (kb_ BK419))⟩ : Aside0 (wc.heap[gb419]? = some (.cells #[.int .i64 0, .string (⟨#[]⟩ : ByteArray), .int .i64 0, .bool false, .slice none 0 0] 129 (0, 0)))) <| (⟨(by rw [← hq_]; exact th_)⟩ : Aside0 (Below w.heap.size w wc)); clear BK415 BK416 BK417 BK418 BK419 HB hq_; obtain ⟨BK415, BK416, BK417, BK418, BK419, HB⟩ := z_))
   have z_ := dw5_ BK415 BK416 BK417 BK418 BK419 HB
   clear BK415 BK416 BK417 BK418 BK419 HB
   obtain ⟨BK415, BK416, BK417, BK418, BK419, HB⟩ := z_
   refine start_ (n := 9) (S := fun w' => w'.cell? ⟨gb416, 0, none⟩ = some (.slice (some ad420) l1_0.length c1_0)) (ds := []) bq_41 (by kernel_rfl) rfl rfl ((blk_cell BK416.out 0).trans rfl) (fun hHeld => ?_); refine with_tabW spec_l17File.tab10 spec_l17File.bits10 (fun HT_ HW_ => ?_)
   generalize wc.drew = w84 at BK415 BK416 BK417 BK418 BK419 HB hHeld ⊢
   refine yr_ 2 57 bq_96 HT_ ?_
   refine yr_ 3 58 bq_132 HT_ ?_
   refine yr_ 4 59 bq_133 HT_ ?_
   refine yr_ 5 60 bq_134 HT_ ?_
   refine yr_ 6 61 bq_135 HT_ ?_
   refine take_ (i := 0) (N := some 55) (v := ?_) (a' := ?_) bq_136 rfl rfl (take_ofW HT_.out HW_.out (by kernel_rfl)) (fun _ _ _ h => h) (Or.inl ⟨(by rfl), ?_⟩) hHeld ?_ ?_
   rotate_left
   ·intro w' s0
    go_simp
    with_reducible rfl
   rotate_left
   ·simp only [Act.put, List.setIfInBounds_toArray, List.set_cons_zero, List.set_cons_succ, i64_w, i32_w]
    rfl
   refine one_ (i := 1) (N := some 56) bq_42 rfl rfl (one_of HT_.out (by kernel_rfl)) (by decide) (fun K hK => ?_)
   refine goes_ Try.func123 (by kernel_rfl) rfl #[.agg #[.slice (some ad420) l1_0.length c1_0]] (by rfl) rfl rfl tq_0 ?_
   with_reducible refine (spec_l17Same.calls _ _ l1_0 t435 _ ?side1 ?side2 A80.out).mono ?_
   (case side1 => exact tq_11)
   (case side2 => exact HC1_0.out)
   rintro e w85 ⟨v436, rfl, ho0, hb⟩
   refine ⟨_, rfl, ?_⟩
   have z_ := p_ (Kd.R_lower ho0 (below_size th_)) <| bw5_ (kb_ BK415) (kb_ BK416) (kb_ BK417) (kb_ BK418) (kb_ BK419) th_ hb
   clear BK415 BK416 BK417 BK418 BK419 HB
   obtain ⟨HO437, BK415, BK416, BK417, BK418, BK419, HB⟩ := z_
   (try clear hb)
   (try clear ho0)
   obtain ⟨Ao86, co86, eo86⟩ := Kd.R_slice HO437.out
   (first | subst eo86 | (injection eo86 with f1_ f2_ f3_; have f4_ := f1_.symm; have f5_ := f3_.symm; clear f1_ f2_ f3_; subst f4_; subst f5_))
   refine hK.out _ _ ((blk_cell BK416.out 0).trans rfl) (fun hHeld => ?_)
   clear hK K
   refine nm_ (some 56) ?_
   refine one_ (i := 7) (N := none) bq_43 rfl rfl (one_of HT_.out (by kernel_rfl)) (by decide) (fun K hK => ?_)
   have hs87 : w85.cell? ⟨gb418, 0, none⟩ = some (.slice none 0 0) := (blk_cell BK418.out 0).trans rfl
   have hfs87 := blk_frozen BK418.out 0
   obtain ⟨n415_418, n416_418, n417_418, n419_418, n418_415, n418_416, n418_417, n418_419⟩ := an8_ NB415_418 NB416_418 NB417_418 NB419_418 NB418_415 NB418_416 NB418_417 NB418_419
   refine skip_ (w1 := ?_) (by rfl) rfl ?_ ?_
   rotate_left
   ·go_simp
    rfl
   refine hK.out _ _ ((cf_ NB416_418 hHeld)) (fun hHeld => ?_)
   clear hK K
   refine one_ (i := 8) (N := none) bq_44 rfl rfl (one_of HT_.out (by kernel_rfl)) (by decide) (fun K hK => ?_)
   have hs88 : w85.cell? ⟨gb419, 0, none⟩ = some (.int .i64 0) := (blk_cell BK419.out 0).trans rfl
   have hfs88 := blk_frozen BK419.out 0
   obtain ⟨n415_419, n416_419, n417_419, n419_415, n419_416, n419_417⟩ := an6_ NB415_419 NB416_419 NB417_419 NB419_415 NB419_416 NB419_417
   have hs89 : w85.cell? ⟨gb419, 1, none⟩ = some (.string (⟨#[]⟩ : ByteArray)) := (blk_cell BK419.out 1).trans rfl
   have hfs89 := blk_frozen BK419.out 1
   have hs90 : w85.cell? ⟨gb419, 2, none⟩ = some (.int .i64 0) := (blk_cell BK419.out 2).trans rfl
   have hfs90 := blk_frozen BK419.out 2
   have hs91 : w85.cell? ⟨gb419, 3, none⟩ = some (.bool false) := (blk_cell BK419.out 3).trans rfl
   have hfs91 := blk_frozen BK419.out 3
   have hs92 : w85.cell? ⟨gb419, 4, none⟩ = some (.slice none 0 0) := (blk_cell BK419.out 4).trans rfl
   have hfs92 := blk_frozen BK419.out 4
   refine skip_ (w1 := ?_) (by rfl) rfl ?_ ?_
   rotate_left
   ·go_simp
    rfl
   refine hK.out _ _ ((cf_ NB416_419 (cf_ NB416_419 (cf_ NB416_419 (cf_ NB416_419 (cf_ NB416_419 hHeld)))))) (fun hHeld => ?_)
   clear hK K
   refine done_ (done_of HT_.out (by kernel_rfl)) ?_
   try go_wp2
   refine bodyPost_ret (results_cc rfl _ _ gb418 gb419 42 129 #[.slice Ao86 t435.length co86] #[.int .i64 0, .string (((rd_T44 l1_0 a2).f2).extract (t431 : Int).toNat ((((rd_T44 l1_0 a2).f2).size : Int) : Int).toNat), .int .i64 0, .bool false, .slice none 0 0] (0, 0) (0, 0) _ _ rfl tb_ Try.underlying42 rfl (by kernel_rfl) rfl tb_ Try.underlying129 rfl (by kernel_rfl)) rfl ?_
   exact ⟨_, _, tq_1, (by (with_reducible repeat (first | apply Kd.R_alloc | apply Kd.R_drewN | apply Kd.R_drew)); exact Kd.R_mono (rR_ (rR_ (rR_ (rR_ (rR_ (rR_ (Kd.R_types (Kd.R_types HO437.out BK418.out (by decide)) BK419.out (by decide)) (fun _ hk => hk.1.2))))))) (fun _ hk => trivial)), tq_22, th_⟩
  rw [if_pos c61] at H
  have c61b0 := decide_eq_true c61
  clear c61
  (first | rw [c61b0] | (simp only [i64_w, i32_w]; rw [c61b0]) | skip)
  obtain ⟨t432, A62, H⟩ := bd_ H
  obtain ⟨c63, H⟩ := fc_ H
  have c63b0 := eq_true c63
  have c63b1 := decide_eq_true c63
  clear c63
  obtain ⟨c64, H⟩ := fc_ H
  have c64b0 := eq_true c64
  have c64b1 := decide_eq_true c64
  obtain ⟨c65, H⟩ := fc_ H
  have c65b0 := eq_true c65
  have c65b1 := decide_eq_true c65
  simp only [Option.some.injEq, Prod.mk.injEq] at H
  obtain ⟨rfl, rfl, rfl, rfl, rfl, rfl⟩ := H
  obtain ⟨n417_415, n415_417, n417_416, n416_417, n417_418, n418_417, n417_419, n419_417⟩ := an8_ NB417_415 NB415_417 NB417_416 NB416_417 NB417_418 NB418_417 NB417_419 NB419_417
  obtain ⟨hcz70_0, hcz70_1, hcz70_2, hcz70_3, hcz70_4, hcz70_5⟩ := bk6_ BK417.out
  obtain ⟨hfz70_0, hfz70_1, hfz70_2, hfz70_3, hfz70_4, hfz70_5⟩ := bf6_ BK417.out
  try go_wp2
  (try (rw [drewN_self wc]; generalize hq_ : World.drewN wc _ = wc; have z_ := q_ (⟨(by rw [← hq_]; exact (kb_ BK415))⟩ : Aside0 (wc.heap[gb415]? = some (.cells #[.int .i64 a0_0, .int .i64 a0_1, .int .i64 a0_2, .int .i64 a0_3] 30 (0, 0)))) <| q_ (⟨(by rw [← hq_]; exact (kb_ BK416))⟩ : Aside0 (wc.heap[gb416]? = some (.cells #[.slice (some ad420) l1_0.length c1_0] 42 (0, 0)))) <| q_ (⟨(by rw [← hq_]; exact (kb_ BK417))⟩ : Aside0 (wc.heap[gb417]? = some (.cells #[.int .i64 a3_0, .string a3_1, .string a3_2, .int .i64 a3_3, .int .i64 a3_4, .string a3_5] 133 (0, 0)))) <| q_ (⟨(by rw [← hq_]; exact (kb_ BK418))⟩ : Aside0 (wc.heap[gb418]? = some (.cells #[.slice none 0 0] 42 (0, 0)))) <| q_ (⟨(by rw [← hq_]; exact (kb_ BK419))⟩ : Aside0 (wc.heap[gb419]? = some (.cells #[.int .i64 0, .string (⟨#[]⟩ : ByteArray), .int .i64 0, .bool false, .slice none 0 0] 129 (0, 0)))) <| (⟨(by rw [← hq_]; exact th_)⟩ : Aside0 (Below w.heap.size w wc)); clear BK415 BK416 BK417 BK418 BK419 HB hq_; obtain ⟨BK415, BK416, BK417, BK418, BK419, HB⟩ := z_))
  have z_ := dw5_ BK415 BK416 BK417 BK418 BK419 HB
  clear BK415 BK416 BK417 BK418 BK419 HB
  obtain ⟨BK415, BK416, BK417, BK418, BK419, HB⟩ := z_
  refine start_ (n := 9) (S := fun w' => w'.cell? ⟨gb416, 0, none⟩ = some (.slice (some ad420) l1_0.length c1_0)) (ds := []) bq_41 (by kernel_rfl) rfl rfl ((blk_cell BK416.out 0).trans rfl) (fun hHeld => ?_); refine with_tabW spec_l17File.tab10 spec_l17File.bits10 (fun HT_ HW_ => ?_)
  generalize wc.drew = w71 at BK415 BK416 BK417 BK418 BK419 HB hHeld ⊢
  refine yr_ 2 57 bq_96 HT_ ?_
  refine yr_ 3 58 bq_132 HT_ ?_
  refine yr_ 4 59 bq_133 HT_ ?_
  refine yr_ 5 60 bq_134 HT_ ?_
  refine yr_ 6 61 bq_135 HT_ ?_
  refine take_ (i := 0) (N := some 55) (v := ?_) (a' := ?_) bq_136 rfl rfl (take_ofW HT_.out HW_.out (by kernel_rfl)) (fun _ _ _ h => h) (Or.inl ⟨(by rfl), ?_⟩) hHeld ?_ ?_
  rotate_left
  ·intro w' s0
   go_simp
   with_reducible rfl
  rotate_left
  ·simp only [Act.put, List.setIfInBounds_toArray, List.set_cons_zero, List.set_cons_succ, i64_w, i32_w]
   rfl
  refine one_ (i := 1) (N := some 56) bq_42 rfl rfl (one_of HT_.out (by kernel_rfl)) (by decide) (fun K hK => ?_)
  refine goes_ Try.func123 (by kernel_rfl) rfl #[.agg #[.slice (some ad420) l1_0.length c1_0]] (by rfl) rfl rfl tq_0 ?_
  with_reducible refine (spec_l17Same.calls _ _ l1_0 t432 _ ?side1 ?side2 A62.out).mono ?_
  (case side1 => exact tq_11)
  (case side2 => exact HC1_0.out)
  rintro e w72 ⟨v433, rfl, ho0, hb⟩
  refine ⟨_, rfl, ?_⟩
  have z_ := p_ (Kd.R_lower ho0 (below_size th_)) <| bw5_ (kb_ BK415) (kb_ BK416) (kb_ BK417) (kb_ BK418) (kb_ BK419) th_ hb
  clear BK415 BK416 BK417 BK418 BK419 HB
  obtain ⟨HO434, BK415, BK416, BK417, BK418, BK419, HB⟩ := z_
  (try clear hb)
  (try clear ho0)
  obtain ⟨Ao73, co73, eo73⟩ := Kd.R_slice HO434.out
  (first | subst eo73 | (injection eo73 with f1_ f2_ f3_; have f4_ := f1_.symm; have f5_ := f3_.symm; clear f1_ f2_ f3_; subst f4_; subst f5_))
  refine hK.out _ _ ((blk_cell BK416.out 0).trans rfl) (fun hHeld => ?_)
  clear hK K
  refine nm_ (some 56) ?_
  refine one_ (i := 7) (N := none) bq_43 rfl rfl (one_of HT_.out (by kernel_rfl)) (by decide) (fun K hK => ?_)
  have hs74 : w72.cell? ⟨gb418, 0, none⟩ = some (.slice none 0 0) := (blk_cell BK418.out 0).trans rfl
  have hfs74 := blk_frozen BK418.out 0
  obtain ⟨n415_418, n416_418, n419_418, n418_415, n418_416, n418_419⟩ := an6_ NB415_418 NB416_418 NB419_418 NB418_415 NB418_416 NB418_419
  refine skip_ (w1 := ?_) (by rfl) rfl ?_ ?_
  rotate_left
  ·go_simp
   rfl
  refine hK.out _ _ ((cf_ NB416_418 hHeld)) (fun hHeld => ?_)
  clear hK K
  refine one_ (i := 8) (N := none) bq_44 rfl rfl (one_of HT_.out (by kernel_rfl)) (by decide) (fun K hK => ?_)
  have hs75 : w72.cell? ⟨gb419, 0, none⟩ = some (.int .i64 0) := (blk_cell BK419.out 0).trans rfl
  have hfs75 := blk_frozen BK419.out 0
  obtain ⟨n415_419, n416_419, n419_415, n419_416⟩ := an4_ NB415_419 NB416_419 NB419_415 NB419_416
  have hs76 : w72.cell? ⟨gb419, 1, none⟩ = some (.string (⟨#[]⟩ : ByteArray)) := (blk_cell BK419.out 1).trans rfl
  have hfs76 := blk_frozen BK419.out 1
  have hs77 : w72.cell? ⟨gb419, 2, none⟩ = some (.int .i64 0) := (blk_cell BK419.out 2).trans rfl
  have hfs77 := blk_frozen BK419.out 2
  have hs78 : w72.cell? ⟨gb419, 3, none⟩ = some (.bool false) := (blk_cell BK419.out 3).trans rfl
  have hfs78 := blk_frozen BK419.out 3
  have hs79 : w72.cell? ⟨gb419, 4, none⟩ = some (.slice none 0 0) := (blk_cell BK419.out 4).trans rfl
  have hfs79 := blk_frozen BK419.out 4
  refine skip_ (w1 := ?_) (by rfl) rfl ?_ ?_
  rotate_left
  ·go_simp
   rfl
  refine hK.out _ _ ((cf_ NB416_419 (cf_ NB416_419 (cf_ NB416_419 (cf_ NB416_419 (cf_ NB416_419 hHeld)))))) (fun hHeld => ?_)
  clear hK K
  refine done_ (done_of HT_.out (by kernel_rfl)) ?_
  try go_wp2
  refine bodyPost_ret (results_cc rfl _ _ gb418 gb419 42 129 #[.slice Ao73 t432.length co73] #[.int .i64 0, .string (((rd_T44 l1_0 a2).f2).extract (t431 : Int).toNat ((wrap64 (t431 + a3_4)) : Int).toNat), .int .i64 0, .bool false, .slice none 0 0] (0, 0) (0, 0) _ _ rfl tb_ Try.underlying42 rfl (by kernel_rfl) rfl tb_ Try.underlying129 rfl (by kernel_rfl)) rfl ?_
  exact ⟨_, _, tq_1, (by (with_reducible repeat (first | apply Kd.R_alloc | apply Kd.R_drewN | apply Kd.R_drew)); exact Kd.R_mono (rR_ (rR_ (rR_ (rR_ (rR_ (rR_ (Kd.R_types (Kd.R_types HO434.out BK418.out (by decide)) BK419.out (by decide)) (fun _ hk => hk.1.2))))))) (fun _ hk => trivial)), tq_22, th_⟩
 rw [if_neg c22] at H
 have c22b0 := beq_eq_false_iff_ne.mpr c22
 have c22b1 := bne_iff_ne.mpr c22
 (first | rw [c22b0] | (simp only [i64_w, i32_w]; rw [c22b0]) | skip)
 by_cases c93 : a3_0 = 7
 rotate_left
 ·rw [if_neg c93] at H
  have c93b0 := beq_eq_false_iff_ne.mpr c93
  have c93b1 := bne_iff_ne.mpr c93
  obtain ⟨t461, A155, H⟩ := bd_ H
  have HC156 := Aside0.mk H
  clear H
  obtain ⟨n417_415, n415_417, n417_416, n416_417, n417_418, n418_417, n417_419, n419_417⟩ := an8_ NB417_415 NB415_417 NB417_416 NB416_417 NB417_418 NB418_417 NB417_419 NB419_417
  obtain ⟨hcz161_0, hcz161_1, hcz161_2, hcz161_3, hcz161_4, hcz161_5⟩ := bk6_ BK417.out
  obtain ⟨hfz161_0, hfz161_1, hfz161_2, hfz161_3, hfz161_4, hfz161_5⟩ := bf6_ BK417.out
  go_upto_if 105 with (first | ((with_reducible refine gate_callee (f := 30) rfl ?_); refine goesL_ (some 104) rfl rfl Try.func30 (by kernel_rfl) rfl #[.int .i64 a3_4, .int .i64 0, .int .i64 128] rfl tq_0 ?_; (with_reducible refine (spec_l01In.calls a3_4 0 128 t461 _ A155.out).mono ?_); rintro e w' ⟨rfl, ⟨nd, rfl⟩⟩; refine ⟨_, rfl, ?_⟩))
  (try simp only [Act.put, List.setIfInBounds_toArray, List.set_cons_zero, List.set_cons_succ])
  (try clear n415_417 n416_417 n417_415 n417_416 n417_418 n417_419 n418_417 n419_417)
  (try clear hcz161_0 hcz161_1 hcz161_2 hcz161_3 hcz161_4 hcz161_5)
  (try clear hfz161_0 hfz161_1 hfz161_2 hfz161_3 hfz161_4 hfz161_5)
  have H := HC156.out
  clear HC156
  by_cases c162 : t461 = true
  rotate_left
  ·replace c162 := Bool.eq_false_iff.mpr c162
   subst c162
   rw [if_neg nf_] at H
   obtain ⟨t475, A183, H⟩ := bd_ H
   obtain ⟨⟨t478, t479, t480, t481, t482⟩, A184, H⟩ := bd_ H
   try dsimp -simprocs only at H
   simp only [Option.some.injEq, Prod.mk.injEq] at H
   obtain ⟨rfl, rfl, rfl, rfl, rfl, rfl⟩ := H
   obtain ⟨n416_415, n415_416, n416_417, n417_416, n416_418, n418_416, n416_419, n419_416⟩ := an8_ NB416_415 NB415_416 NB416_417 NB417_416 NB416_418 NB418_416 NB416_419 NB419_416
   have hcz189_0 := bc_ BK416.out 0
   have hfz189_0 := blk_frozen BK416.out 0
   go_wp2_with (first | ((with_reducible refine gate_callee (f := 123) rfl ?_); refine goesL_ (some 107) rfl rfl Try.func123 (by kernel_rfl) rfl #[.agg #[.slice (some ad420) l1_0.length c1_0]] rfl tq_0 ?_; (with_reducible refine (spec_l17Same.calls _ _ l1_0 t475 _ ?side1 ?side2 A183.out).mono ?_); (case side1 => repeat (first | exact (Kd.C_below HR1_0.out th_) | (with_reducible refine Kd.C_alloc ?_ _) | (with_reducible refine Kd.C_drewN ?_ _) | (with_reducible refine Kd.C_drew ?_))); (case side2 => exact HC1_0.out); rintro e w190 ⟨v476, rfl, ho0, hb⟩; refine ⟨_, rfl, ?_⟩; have z_ := p_ (Kd.R_lower ho0 (below_size th_)) <| bw5_ (kb_ BK415) (kb_ BK416) (kb_ BK417) (kb_ BK418) (kb_ BK419) th_ hb; clear BK415 BK416 BK417 BK418 BK419 HB; obtain ⟨HO477, BK415, BK416, BK417, BK418, BK419, HB⟩ := z_; (try clear hb); (try clear hk); (try clear ho0)) | ((with_reducible refine gate_callee (f := 125) rfl ?_); refine goesL_ (some 108) rfl rfl Try.func125 (by kernel_rfl) rfl #[.int .i64 12] rfl tq_0 ?_; (with_reducible refine (spec_l17Fails.calls 12 t478 t479 t480 t481 t482 _ A184.out).mono ?_); rintro e w191 ⟨v483, rfl, ho0, hb⟩; refine ⟨_, rfl, ?_⟩; have z_ := p_ (Kd.R_below (raR_ HO477) hb) <| p_ (Kd.R_lower ho0 (below_size th_)) <| bw5_ (kb_ BK415) (kb_ BK416) (kb_ BK417) (kb_ BK418) (kb_ BK419) th_ hb; clear HO477 BK415 BK416 BK417 BK418 BK419 HB; obtain ⟨HO477, HO484, BK415, BK416, BK417, BK418, BK419, HB⟩ := z_; (try clear hb); (try clear ho0); obtain ⟨Ao192, co192, eo192⟩ := Kd.R_slice HO477.out; subst eo192; obtain ⟨n418_415, n415_418, n418_417, n417_418, n418_419, n419_418⟩ := an6_ NB418_415 NB415_418 NB418_417 NB417_418 NB418_419 NB419_418; have hcz196_0 := bc_ BK418.out 0; have hfz196_0 := blk_frozen BK418.out 0; obtain ⟨n419_415, n415_419, n419_417, n417_419⟩ := an4_ NB419_415 NB415_419 NB419_417 NB417_419; obtain ⟨hcz199_0, hcz199_1, hcz199_2, hcz199_3, hcz199_4⟩ := bk5_ BK419.out; obtain ⟨hfz199_0, hfz199_1, hfz199_2, hfz199_3, hfz199_4⟩ := bf5_ BK419.out; obtain ⟨Ao200, co200, eo200⟩ := Kd.R_slice HO484.out; subst eo200))
   refine bodyPost_ret (results_cc rfl _ _ gb418 gb419 42 129 #[.slice Ao192 t475.length co192] #[.int .i64 t478, .string t479, .int .i64 t480, .bool t481, .slice Ao200 t482.length co200] (0, 0) (0, 0) _ _ rfl tb_ Try.underlying42 rfl (by kernel_rfl) rfl tb_ Try.underlying129 rfl (by kernel_rfl)) rfl ?_
   exact ⟨_, _, tq_1, (by (with_reducible repeat (first | apply Kd.R_alloc | apply Kd.R_drewN | apply Kd.R_drew)); exact Kd.R_mono (rR_ (rR_ (rR_ (rR_ (rR_ (rR_ (Kd.R_types (Kd.R_types HO477.out BK418.out (by decide)) BK419.out (by decide)) (fun _ hk => hk.1.2))))))) (fun _ hk => trivial)), (by (with_reducible repeat (first | apply Kd.R_alloc | apply Kd.R_drewN | apply Kd.R_drew)); exact Kd.R_mono (rR_ (rR_ (rR_ (rR_ (rR_ (rR_ (Kd.R_types (Kd.R_types HO484.out BK418.out (by decide)) BK419.out (by decide)) (fun _ hk => hk.1.2))))))) (fun _ hk => trivial)), th_⟩
  subst c162
  rw [if_pos rfl] at H
  obtain ⟨t462, A163, H⟩ := bd_ H
  obtain ⟨⟨t463, t466⟩, A164, H⟩ := bd_ H
  try dsimp -simprocs only at H
  obtain ⟨⟨t468, t469, t470, t471, t472⟩, A165, H⟩ := bd_ H
  try dsimp -simprocs only at H
  simp only [Option.some.injEq, Prod.mk.injEq] at H
  obtain ⟨rfl, rfl, rfl, rfl, rfl, rfl⟩ := H
  try go_wp2
  (try (rw [drewN_self w12]; generalize hq_ : World.drewN w12 _ = w12; have z_ := q_ (⟨(by rw [← hq_]; exact (kb_ BK415))⟩ : Aside0 (w12.heap[gb415]? = some (.cells #[.int .i64 a0_0, .int .i64 a0_1, .int .i64 a0_2, .int .i64 a0_3] 30 (0, 0)))) <| q_ (⟨(by rw [← hq_]; exact (kb_ BK416))⟩ : Aside0 (w12.heap[gb416]? = some (.cells #[.slice (some ad420) l1_0.length c1_0] 42 (0, 0)))) <| q_ (⟨(by rw [← hq_]; exact (kb_ BK417))⟩ : Aside0 (w12.heap[gb417]? = some (.cells #[.int .i64 a3_0, .string a3_1, .string a3_2, .int .i64 a3_3, .int .i64 a3_4, .string a3_5] 133 (0, 0)))) <| q_ (⟨(by rw [← hq_]; exact (kb_ BK418))⟩ : Aside0 (w12.heap[gb418]? = some (.cells #[.slice none 0 0] 42 (0, 0)))) <| q_ (⟨(by rw [← hq_]; exact (kb_ BK419))⟩ : Aside0 (w12.heap[gb419]? = some (.cells #[.int .i64 0, .string (⟨#[]⟩ : ByteArray), .int .i64 0, .bool false, .slice none 0 0] 129 (0, 0)))) <| (⟨(by rw [← hq_]; exact th_)⟩ : Aside0 (Below w.heap.size w w12)); clear BK415 BK416 BK417 BK418 BK419 HB hq_; obtain ⟨BK415, BK416, BK417, BK418, BK419, HB⟩ := z_))
  have z_ := dw5_ BK415 BK416 BK417 BK418 BK419 HB
  clear BK415 BK416 BK417 BK418 BK419 HB
  obtain ⟨BK415, BK416, BK417, BK418, BK419, HB⟩ := z_
  refine start_ (n := 14) (S := fun w' => w'.cell? ⟨gb415, 0, none⟩ = some (.int .i64 a0_0) ∧ w'.cell? ⟨gb415, 1, none⟩ = some (.int .i64 a0_1) ∧ w'.cell? ⟨gb415, 2, none⟩ = some (.int .i64 a0_2) ∧ w'.cell? ⟨gb415, 3, none⟩ = some (.int .i64 a0_3) ∧ w'.cell? ⟨gb416, 0, none⟩ = some (.slice (some ad420) l1_0.length c1_0) ∧ w'.cell? ⟨gb417, 0, none⟩ = some (.int .i64 a3_0) ∧ w'.cell? ⟨gb417, 1, none⟩ = some (.string a3_1) ∧ w'.cell? ⟨gb417, 2, none⟩ = some (.string a3_2) ∧ w'.cell? ⟨gb417, 3, none⟩ = some (.int .i64 a3_3) ∧ w'.cell? ⟨gb417, 4, none⟩ = some (.int .i64 a3_4) ∧ w'.cell? ⟨gb417, 5, none⟩ = some (.string a3_5)) (ds := []) #[false, false, false, false, false, false, false, false, false, false, false, false, false, false] (by kernel_rfl) rfl rfl (bc4_ BK415.out ⟨(blk_cell BK416.out 0).trans rfl, bk6_ BK417.out⟩) (fun hHeld => ?_); refine with_tabW spec_l17File.tab20 spec_l17File.bits20 (fun HT_ HW_ => ?_)
  generalize w12.drew = w166 at BK415 BK416 BK417 BK418 BK419 HB hHeld ⊢
  refine yr_ 2 112 #[false, false, true, false, false, false, false, false, false, false, false, false, false, false] HT_ ?_
  refine yr_ 3 113 #[false, false, true, true, false, false, false, false, false, false, false, false, false, false] HT_ ?_
  refine yr_ 4 114 #[false, false, true, true, true, false, false, false, false, false, false, false, false, false] HT_ ?_
  refine tr_ 0 110 #[true, false, true, true, true, false, false, false, false, false, false, false, false, false] HT_ HW_ hHeld ?_
  refine tr_ 1 111 #[true, true, true, true, true, false, false, false, false, false, false, false, false, false] HT_ HW_ hHeld ?_
  refine tr_ 5 115 #[true, true, true, true, true, true, false, false, false, false, false, false, false, false] HT_ HW_ hHeld ?_
  refine join_ (σ := Value × Nat) 2 bq_78 (fun s_ => [(116, .string t462), (117, .tuple #[.agg #[s_.1], .int .i64 t466]), (15, .pointer (some ⟨s_.2, 0, none⟩)), (109, .tuple #[.agg #[s_.1], .int .i64 t466]), (118, .agg #[s_.1]), (119, .int .i64 t466)]) (fun s_ w' => (w'.cell? ⟨gb415, 0, none⟩ = some (.int .i64 a0_0) ∧ w'.cell? ⟨gb415, 1, none⟩ = some (.int .i64 a0_1) ∧ w'.cell? ⟨gb415, 2, none⟩ = some (.int .i64 a0_2) ∧ w'.cell? ⟨gb415, 3, none⟩ = some (.int .i64 a0_3) ∧ w'.cell? ⟨gb416, 0, none⟩ = some (.slice (some ad420) l1_0.length c1_0) ∧ w'.cell? ⟨gb417, 0, none⟩ = some (.int .i64 a3_0) ∧ w'.cell? ⟨gb417, 1, none⟩ = some (.string a3_1) ∧ w'.cell? ⟨gb417, 2, none⟩ = some (.string a3_2) ∧ w'.cell? ⟨gb417, 3, none⟩ = some (.int .i64 a3_3) ∧ w'.cell? ⟨gb417, 4, none⟩ = some (.int .i64 a3_4) ∧ w'.cell? ⟨gb417, 5, none⟩ = some (.string a3_5)) ∧ (Kd.R k44 44 w' w.heap.size (fun _ => True) s_.1 t463) ∧ (w'.heap[gb415]? = some (.cells #[.int .i64 a0_0, .int .i64 a0_1, .int .i64 a0_2, .int .i64 a0_3] 30 (0, 0))) ∧ (w'.heap[gb416]? = some (.cells #[.slice (some ad420) l1_0.length c1_0] 42 (0, 0))) ∧ (w'.heap[gb417]? = some (.cells #[.int .i64 a3_0, .string a3_1, .string a3_2, .int .i64 a3_3, .int .i64 a3_4, .string a3_5] 133 (0, 0))) ∧ (w'.heap[gb418]? = some (.cells #[.slice none 0 0] 42 (0, 0))) ∧ (w'.heap[gb419]? = some (.cells #[.int .i64 0, .string (⟨#[]⟩ : ByteArray), .int .i64 0, .bool false, .slice none 0 0] 129 (0, 0))) ∧ (w'.heap[s_.2]? = some (.cells #[.slice none 0 0] 42 (0, 0))) ∧ (w.heap.size ≤ s_.2) ∧ (w.heap.size ≤ s_.2) ∧ (gb415 ≠ s_.2) ∧ (s_.2 ≠ gb415) ∧ (gb416 ≠ s_.2) ∧ (s_.2 ≠ gb416) ∧ (gb417 ≠ s_.2) ∧ (s_.2 ≠ gb417) ∧ (gb418 ≠ s_.2) ∧ (s_.2 ≠ gb418) ∧ (gb419 ≠ s_.2) ∧ (s_.2 ≠ gb419) ∧ (Below w.heap.size w w')) ?_ ?_
  rotate_left
  ·intro hCont
   refine two_ (i := 6) (j := 11) (Ni := some 116) (Nj := some 15) #[true, true, true, true, true, true, true, false, false, false, false, false, false, false] #[true, true, true, true, true, true, false, false, false, false, false, true, false, false] rfl rfl rfl rfl (two_of HT_.out (by kernel_rfl)) (by decide) (by decide) (fun K hK => ?_) (fun K hK => ?_)
   ·skip
    refine goes_ Try.func148 (by kernel_rfl) rfl #[.string ((rd_T44 l1_0 a2).f2), .int .i64 a3_4] (by rfl) rfl rfl tq_0 ?_
    with_reducible refine (spec_TextCut.calls k ((rd_T44 l1_0 a2).f2) a3_4 t462 _ A163.out).mono ?_
    rintro e w167 ⟨rfl, hb⟩
    refine ⟨_, rfl, ?_⟩
    have z_ := bw5_ (kb_ BK415) (kb_ BK416) (kb_ BK417) (kb_ BK418) (kb_ BK419) th_ hb
    clear BK415 BK416 BK417 BK418 BK419 HB
    obtain ⟨BK415, BK416, BK417, BK418, BK419, HB⟩ := z_
    (try clear hb)
    refine hK.out _ _ (bc4_ BK415.out ⟨(blk_cell BK416.out 0).trans rfl, bk6_ BK417.out⟩) (fun hHeld => ?_)
    clear hK K
    refine nm_ (some 116) ?_
    refine two_ (i := 7) (j := 11) (Ni := some 117) (Nj := some 15) #[true, true, true, true, true, true, true, true, false, false, false, false, false, false] bq_137 rfl rfl rfl rfl (two_of HT_.out (by kernel_rfl)) (by decide) (by decide) (fun K hK => ?_) (fun K hK => ?_)
    ·skip
     refine goes_ Try.func146 (by kernel_rfl) rfl #[.agg #[.int .i64 a0_0, .int .i64 a0_1, .int .i64 a0_2, .int .i64 a0_3], .agg #[.slice (some ad420) l1_0.length c1_0], .int .i64 a2, .string t462] (by rfl) rfl rfl tq_0 ?_
     with_reducible refine (spec_l17Texts.calls k a0_0 a0_1 a0_2 a0_3 _ _ l1_0 a2 t462 t463 t466 _ ?side1 ?side2 A164.out).mono ?_
     (case side1 => exact tq_11)
     (case side2 => exact HC1_0.out)
     rintro e w168 ⟨v464, rfl, ho0, hb⟩
     refine ⟨_, rfl, ?_⟩
     have z_ := p_ (Kd.R_lower ho0 (below_size th_)) <| bw5_ (kb_ BK415) (kb_ BK416) (kb_ BK417) (kb_ BK418) (kb_ BK419) th_ hb
     clear BK415 BK416 BK417 BK418 BK419 HB
     obtain ⟨HO465, BK415, BK416, BK417, BK418, BK419, HB⟩ := z_
     (try clear hb)
     (try clear ho0)
     refine hK.out _ _ (bc4_ BK415.out ⟨(blk_cell BK416.out 0).trans rfl, bk6_ BK417.out⟩) (fun hHeld => ?_)
     clear hK K
     refine nm_ (some 117) ?_
     refine yr_ 8 109 #[true, true, true, true, true, true, true, true, true, false, false, false, false, false] HT_ ?_
     refine yr_ 9 118 #[true, true, true, true, true, true, true, true, true, true, false, false, false, false] HT_ ?_
     refine yr_ 10 119 #[true, true, true, true, true, true, true, true, true, true, true, false, false, false] HT_ ?_
     refine one_ (i := 11) (N := some 15) bq_78 rfl rfl (one_of HT_.out (by kernel_rfl)) (by decide) (fun K hK => ?_)
     refine box_step ?hg (N := 15) ?hd (cs := #[.slice none 0 0]) (t := 42) ?hr ?_; (case hd => rfl); (case hg => rfl); (case hr => first | (go_simp; done) | (go_simp; rfl))
     intro gb467 hg w169 hbox hb
     have z_ := p_ (Kd.R_below (raR_ HO465) hb) <| bx5_ (kb_ BK415) (kb_ BK416) (kb_ BK417) (kb_ BK418) (kb_ BK419) th_ hb hbox hg
     clear HO465 BK415 BK416 BK417 BK418 BK419 HB
     obtain ⟨HO465, BK415, BK416, BK417, BK418, BK419, HB, BK467, GW467, GE467, NB415_467, NB467_415, NB416_467, NB467_416, NB417_467, NB467_417, NB418_467, NB467_418, NB419_467, NB467_419⟩ := z_
     clear hb hbox hg
     refine hK.out _ _ (bc4_ BK415.out ⟨(blk_cell BK416.out 0).trans rfl, bk6_ BK417.out⟩) (fun hHeld => ?_)
     clear hK K
     refine nm_ (some 15) ?_
     exact norm_ tq_32 (hCont (v464, gb467) _ ⟨hHeld, (raR_ HO465), (kb_ BK415), (kb_ BK416), (kb_ BK417), (kb_ BK418), (kb_ BK419), (kb_ BK467), GW467.out, GE467.out, NB415_467.out, NB467_415.out, NB416_467.out, NB467_416.out, NB417_467.out, NB467_417.out, NB418_467.out, NB467_418.out, NB419_467.out, NB467_419.out, th_⟩)
    ·skip
     refine box_step ?hg (N := 15) ?hd (cs := #[.slice none 0 0]) (t := 42) ?hr ?_; (case hd => rfl); (case hg => rfl); (case hr => first | (go_simp; done) | (go_simp; rfl))
     intro gb467 hg w168 hbox hb
     have z_ := bx5_ (kb_ BK415) (kb_ BK416) (kb_ BK417) (kb_ BK418) (kb_ BK419) th_ hb hbox hg
     clear BK415 BK416 BK417 BK418 BK419 HB
     obtain ⟨BK415, BK416, BK417, BK418, BK419, HB, BK467, GW467, GE467, NB415_467, NB467_415, NB416_467, NB467_416, NB417_467, NB467_417, NB418_467, NB467_418, NB419_467, NB467_419⟩ := z_
     clear hb hbox hg
     refine hK.out _ _ (bc4_ BK415.out ⟨(blk_cell BK416.out 0).trans rfl, bk6_ BK417.out⟩) (fun hHeld => ?_)
     clear hK K
     refine nm_ (some 15) ?_
     refine one_ (i := 7) (N := some 117) bq_138 rfl rfl (one_of HT_.out (by kernel_rfl)) (by decide) (fun K hK => ?_)
     refine goes_ Try.func146 (by kernel_rfl) rfl #[.agg #[.int .i64 a0_0, .int .i64 a0_1, .int .i64 a0_2, .int .i64 a0_3], .agg #[.slice (some ad420) l1_0.length c1_0], .int .i64 a2, .string t462] (by rfl) rfl rfl tq_0 ?_
     with_reducible refine (spec_l17Texts.calls k a0_0 a0_1 a0_2 a0_3 _ _ l1_0 a2 t462 t463 t466 _ ?side1 ?side2 A164.out).mono ?_
     (case side1 => exact tq_11)
     (case side2 => exact HC1_0.out)
     rintro e w169 ⟨v464, rfl, ho0, hb⟩
     refine ⟨_, rfl, ?_⟩
     have z_ := p_ (Kd.R_lower ho0 (below_size th_)) <| bw6_ (kb_ BK415) (kb_ BK416) (kb_ BK417) (kb_ BK418) (kb_ BK419) (kb_ BK467) th_ hb
     clear BK415 BK416 BK417 BK418 BK419 BK467 HB
     obtain ⟨HO465, BK415, BK416, BK417, BK418, BK419, BK467, HB⟩ := z_
     (try clear hb)
     (try clear ho0)
     refine hK.out _ _ (bc4_ BK415.out ⟨(blk_cell BK416.out 0).trans rfl, bk6_ BK417.out⟩) (fun hHeld => ?_)
     clear hK K
     refine nm_ (some 117) ?_
     refine yr_ 8 109 bq_139 HT_ ?_
     refine yr_ 9 118 bq_140 HT_ ?_
     refine yr_ 10 119 bq_78 HT_ ?_
     exact norm_ tq_32 (hCont (v464, gb467) _ ⟨hHeld, (raR_ HO465), (kb_ BK415), (kb_ BK416), (kb_ BK417), (kb_ BK418), (kb_ BK419), (kb_ BK467), GW467.out, GE467.out, NB415_467.out, NB467_415.out, NB416_467.out, NB467_416.out, NB417_467.out, NB467_417.out, NB418_467.out, NB467_418.out, NB419_467.out, NB467_419.out, th_⟩)
   ·skip
    refine box_step ?hg (N := 15) ?hd (cs := #[.slice none 0 0]) (t := 42) ?hr ?_; (case hd => rfl); (case hg => rfl); (case hr => first | (go_simp; done) | (go_simp; rfl))
    intro gb467 hg w167 hbox hb
    have z_ := bx5_ (kb_ BK415) (kb_ BK416) (kb_ BK417) (kb_ BK418) (kb_ BK419) th_ hb hbox hg
    clear BK415 BK416 BK417 BK418 BK419 HB
    obtain ⟨BK415, BK416, BK417, BK418, BK419, HB, BK467, GW467, GE467, NB415_467, NB467_415, NB416_467, NB467_416, NB417_467, NB467_417, NB418_467, NB467_418, NB419_467, NB467_419⟩ := z_
    clear hb hbox hg
    refine hK.out _ _ (bc4_ BK415.out ⟨(blk_cell BK416.out 0).trans rfl, bk6_ BK417.out⟩) (fun hHeld => ?_)
    clear hK K
    refine nm_ (some 15) ?_
    refine one_ (i := 6) (N := some 116) bq_137 rfl rfl (one_of HT_.out (by kernel_rfl)) (by decide) (fun K hK => ?_)
    refine goes_ Try.func148 (by kernel_rfl) rfl #[.string ((rd_T44 l1_0 a2).f2), .int .i64 a3_4] (by rfl) rfl rfl tq_0 ?_
    with_reducible refine (spec_TextCut.calls k ((rd_T44 l1_0 a2).f2) a3_4 t462 _ A163.out).mono ?_
    rintro e w168 ⟨rfl, hb⟩
    refine ⟨_, rfl, ?_⟩
    have z_ := bw6_ (kb_ BK415) (kb_ BK416) (kb_ BK417) (kb_ BK418) (kb_ BK419) (kb_ BK467) th_ hb
    clear BK415 BK416 BK417 BK418 BK419 BK467 HB
    obtain ⟨BK415, BK416, BK417, BK418, BK419, BK467, HB⟩ := z_
    (try clear hb)
    refine hK.out _ _ (bc4_ BK415.out ⟨(blk_cell BK416.out 0).trans rfl, bk6_ BK417.out⟩) (fun hHeld => ?_)
    clear hK K
    refine nm_ (some 116) ?_
    refine one_ (i := 7) (N := some 117) bq_138 rfl rfl (one_of HT_.out (by kernel_rfl)) (by decide) (fun K hK => ?_)
    refine goes_ Try.func146 (by kernel_rfl) rfl #[.agg #[.int .i64 a0_0, .int .i64 a0_1, .int .i64 a0_2, .int .i64 a0_3], .agg #[.slice (some ad420) l1_0.length c1_0], .int .i64 a2, .string t462] (by rfl) rfl rfl tq_0 ?_
    with_reducible refine (spec_l17Texts.calls k a0_0 a0_1 a0_2 a0_3 _ _ l1_0 a2 t462 t463 t466 _ ?side1 ?side2 A164.out).mono ?_
    (case side1 => exact tq_11)
    (case side2 => exact HC1_0.out)
    rintro e w169 ⟨v464, rfl, ho0, hb⟩
    refine ⟨_, rfl, ?_⟩
    have z_ := p_ (Kd.R_lower ho0 (below_size th_)) <| bw6_ (kb_ BK415) (kb_ BK416) (kb_ BK417) (kb_ BK418) (kb_ BK419) (kb_ BK467) th_ hb
    clear BK415 BK416 BK417 BK418 BK419 BK467 HB
    obtain ⟨HO465, BK415, BK416, BK417, BK418, BK419, BK467, HB⟩ := z_
    (try clear hb)
    (try clear ho0)
    refine hK.out _ _ (bc4_ BK415.out ⟨(blk_cell BK416.out 0).trans rfl, bk6_ BK417.out⟩) (fun hHeld => ?_)
    clear hK K
    refine nm_ (some 117) ?_
    refine yr_ 8 109 bq_139 HT_ ?_
    refine yr_ 9 118 bq_140 HT_ ?_
    refine yr_ 10 119 bq_78 HT_ ?_
    exact norm_ tq_32 (hCont (v464, gb467) _ ⟨hHeld, (raR_ HO465), (kb_ BK415), (kb_ BK416), (kb_ BK417), (kb_ BK418), (kb_ BK419), (kb_ BK467), GW467.out, GE467.out, NB415_467.out, NB467_415.out, NB416_467.out, NB467_416.out, NB417_467.out, NB467_417.out, NB418_467.out, NB467_418.out, NB419_467.out, NB467_419.out, th_⟩)
  rintro ⟨v464, gb467⟩ w170 ⟨hS_, h0_, h1_, h2_, h3_, h4_, h5_, h6_, h7_, h8_, h9_, h10_, h11_, h12_, h13_, h14_, h15_, h16_, h17_, h18_, h19_⟩
  have z_ := q_ (⟨h0_⟩ : Aside0 (Kd.R k44 44 w170 w.heap.size (fun _ => True) v464 t463)) <| q_ (⟨h1_⟩ : Aside0 (w170.heap[gb415]? = some (.cells #[.int .i64 a0_0, .int .i64 a0_1, .int .i64 a0_2, .int .i64 a0_3] 30 (0, 0)))) <| q_ (⟨h2_⟩ : Aside0 (w170.heap[gb416]? = some (.cells #[.slice (some ad420) l1_0.length c1_0] 42 (0, 0)))) <| q_ (⟨h3_⟩ : Aside0 (w170.heap[gb417]? = some (.cells #[.int .i64 a3_0, .string a3_1, .string a3_2, .int .i64 a3_3, .int .i64 a3_4, .string a3_5] 133 (0, 0)))) <| q_ (⟨h4_⟩ : Aside0 (w170.heap[gb418]? = some (.cells #[.slice none 0 0] 42 (0, 0)))) <| q_ (⟨h5_⟩ : Aside0 (w170.heap[gb419]? = some (.cells #[.int .i64 0, .string (⟨#[]⟩ : ByteArray), .int .i64 0, .bool false, .slice none 0 0] 129 (0, 0)))) <| q_ (⟨h6_⟩ : Aside0 (w170.heap[gb467]? = some (.cells #[.slice none 0 0] 42 (0, 0)))) <| q_ (⟨h7_⟩ : Aside0 (w.heap.size ≤ gb467)) <| q_ (⟨h8_⟩ : Aside0 (w.heap.size ≤ gb467)) <| q_ (⟨h9_⟩ : Aside0 (gb415 ≠ gb467)) <| q_ (⟨h10_⟩ : Aside0 (gb467 ≠ gb415)) <| q_ (⟨h11_⟩ : Aside0 (gb416 ≠ gb467)) <| q_ (⟨h12_⟩ : Aside0 (gb467 ≠ gb416)) <| q_ (⟨h13_⟩ : Aside0 (gb417 ≠ gb467)) <| q_ (⟨h14_⟩ : Aside0 (gb467 ≠ gb417)) <| q_ (⟨h15_⟩ : Aside0 (gb418 ≠ gb467)) <| q_ (⟨h16_⟩ : Aside0 (gb467 ≠ gb418)) <| q_ (⟨h17_⟩ : Aside0 (gb419 ≠ gb467)) <| q_ (⟨h18_⟩ : Aside0 (gb467 ≠ gb419)) <| (⟨h19_⟩ : Aside0 (Below w.heap.size w w170))
  clear BK415 BK416 BK417 BK418 BK419 HB h0_ h1_ h2_ h3_ h4_ h5_ h6_ h7_ h8_ h9_ h10_ h11_ h12_ h13_ h14_ h15_ h16_ h17_ h18_ h19_
  obtain ⟨HO465, BK415, BK416, BK417, BK418, BK419, BK467, GW467, GE467, NB415_467, NB467_415, NB416_467, NB467_416, NB417_467, NB467_417, NB418_467, NB467_418, NB419_467, NB467_419, HB⟩ := z_
  have hHeld : w170.cell? ⟨gb415, 0, none⟩ = some (.int .i64 a0_0) ∧ w170.cell? ⟨gb415, 1, none⟩ = some (.int .i64 a0_1) ∧ w170.cell? ⟨gb415, 2, none⟩ = some (.int .i64 a0_2) ∧ w170.cell? ⟨gb415, 3, none⟩ = some (.int .i64 a0_3) ∧ w170.cell? ⟨gb416, 0, none⟩ = some (.slice (some ad420) l1_0.length c1_0) ∧ w170.cell? ⟨gb417, 0, none⟩ = some (.int .i64 a3_0) ∧ w170.cell? ⟨gb417, 1, none⟩ = some (.string a3_1) ∧ w170.cell? ⟨gb417, 2, none⟩ = some (.string a3_2) ∧ w170.cell? ⟨gb417, 3, none⟩ = some (.int .i64 a3_3) ∧ w170.cell? ⟨gb417, 4, none⟩ = some (.int .i64 a3_4) ∧ w170.cell? ⟨gb417, 5, none⟩ = some (.string a3_5) := hS_
  obtain ⟨Ao171, co171, eo171⟩ := Kd.R_slice HO465.out
  (first | subst eo171 | (injection eo171 with f1_ f2_ f3_; have f4_ := f1_.symm; have f5_ := f3_.symm; clear f1_ f2_ f3_; subst f4_; subst f5_))
  refine norm_ (a' := ?_) ?_ ?_
  rotate_left
  ·simp only [putAll, Act.put, List.setIfInBounds_toArray, List.set_cons_zero, List.set_cons_succ]
   rfl
  refine one_ (i := 12) (N := none) #[true, true, true, true, true, true, true, true, true, true, true, true, true, false] rfl rfl (one_of HT_.out (by kernel_rfl)) (by decide) (fun K hK => ?_)
  have hs172 : w170.cell? ⟨gb467, 0, none⟩ = some (.slice none 0 0) := (blk_cell BK467.out 0).trans rfl
  have hfs172 := blk_frozen BK467.out 0
  obtain ⟨n415_467, n416_467, n417_467, n418_467, n419_467, n467_415, n467_416, n467_417⟩ := an8_ NB415_467 NB416_467 NB417_467 NB418_467 NB419_467 NB467_415 NB467_416 NB467_417
  obtain ⟨n467_418, n467_419⟩ := an2_ NB467_418 NB467_419
  refine skip_ (w1 := ?_) (by rfl) rfl ?_ ?_
  rotate_left
  ·go_simp
   rfl
  refine hK.out _ _ ⟨(cf_ NB415_467 hHeld.1), (cf_ NB415_467 hHeld.2.1), (cf_ NB415_467 hHeld.2.2.1), (cf_ NB415_467 hHeld.2.2.2.1), (cf_ NB416_467 hHeld.2.2.2.2.1), (cf_ NB417_467 hHeld.2.2.2.2.2.1), (cf_ NB417_467 hHeld.2.2.2.2.2.2.1), (cf_ NB417_467 hHeld.2.2.2.2.2.2.2.1), (cf_ NB417_467 hHeld.2.2.2.2.2.2.2.2.1), (cf_ NB417_467 hHeld.2.2.2.2.2.2.2.2.2.1), (cf_ NB417_467 hHeld.2.2.2.2.2.2.2.2.2.2)⟩ (fun hHeld => ?_)
  clear hK K
  refine yr_ 13 16 #[true, true, true, true, true, true, true, true, true, true, true, true, true, true] HT_ ?_
  refine done_ (done_of HT_.out (by kernel_rfl)) ?_
  try go_wp2
  have n0_ : Aside0 (Kd.R k44 44 (w170.setCell ⟨gb467, 0, none⟩ (.slice Ao171 t463.length co171)) w.heap.size (fun _ => True) (.slice Ao171 t463.length co171) t463) := ⟨(by (with_reducible repeat (first | apply Kd.R_alloc | apply Kd.R_drewN | apply Kd.R_drew)); exact Kd.R_mono (rR_ (Kd.R_types HO465.out BK467.out (by decide))) (fun _ hk => trivial))⟩
  have n1_ : Aside0 ((w170.setCell ⟨gb467, 0, none⟩ (.slice Ao171 t463.length co171)).heap[gb415]? = some (.cells #[.int .i64 a0_0, .int .i64 a0_1, .int .i64 a0_2, .int .i64 a0_3] 30 (0, 0))) := ⟨tb_⟩
  have n2_ : Aside0 ((w170.setCell ⟨gb467, 0, none⟩ (.slice Ao171 t463.length co171)).heap[gb416]? = some (.cells #[.slice (some ad420) l1_0.length c1_0] 42 (0, 0))) := ⟨tb_⟩
  have n3_ : Aside0 ((w170.setCell ⟨gb467, 0, none⟩ (.slice Ao171 t463.length co171)).heap[gb417]? = some (.cells #[.int .i64 a3_0, .string a3_1, .string a3_2, .int .i64 a3_3, .int .i64 a3_4, .string a3_5] 133 (0, 0))) := ⟨tb_⟩
  have n4_ : Aside0 ((w170.setCell ⟨gb467, 0, none⟩ (.slice Ao171 t463.length co171)).heap[gb418]? = some (.cells #[.slice none 0 0] 42 (0, 0))) := ⟨tb_⟩
  have n5_ : Aside0 ((w170.setCell ⟨gb467, 0, none⟩ (.slice Ao171 t463.length co171)).heap[gb419]? = some (.cells #[.int .i64 0, .string (⟨#[]⟩ : ByteArray), .int .i64 0, .bool false, .slice none 0 0] 129 (0, 0))) := ⟨tb_⟩
  have n6_ : Aside0 ((w170.setCell ⟨gb467, 0, none⟩ (.slice Ao171 t463.length co171)).heap[gb467]? = some (.cells #[.slice Ao171 t463.length co171] 42 (0, 0))) := ⟨tb_⟩
  have n7_ : Aside0 (Below w.heap.size w (w170.setCell ⟨gb467, 0, none⟩ (.slice Ao171 t463.length co171))) := ⟨th_⟩
  (try clear HO465)
  (try clear BK415)
  (try clear BK416)
  (try clear BK417)
  (try clear BK418)
  (try clear BK419)
  (try clear BK467)
  (try clear HB)
  generalize (w170.setCell ⟨gb467, 0, none⟩ (.slice Ao171 t463.length co171)) = w173 at n0_ n1_ n2_ n3_ n4_ n5_ n6_ n7_ ⊢
  have HO465 := n0_
  have BK415 := n1_
  have BK416 := n2_
  have BK417 := n3_
  have BK418 := n4_
  have BK419 := n5_
  have BK467 := n6_
  have HB := n7_
  clear n0_ n1_ n2_ n3_ n4_ n5_ n6_ n7_
  have z_ := p_ (Kd.R_drew HO465.out) <| dw6_ BK415 BK416 BK417 BK418 BK419 BK467 HB
  clear HO465 BK415 BK416 BK417 BK418 BK419 BK467 HB
  obtain ⟨HO465, BK415, BK416, BK417, BK418, BK419, BK467, HB⟩ := z_
  refine start_ (n := 5) (S := fun w' => w'.cell? ⟨gb467, 0, none⟩ = some (.slice Ao171 t463.length co171)) (ds := []) bq_66 (by kernel_rfl) rfl rfl ((blk_cell BK467.out 0).trans rfl) (fun hHeld => ?_)
  generalize w173.drew = w174 at HO465 BK415 BK416 BK417 BK418 BK419 BK467 HB hHeld ⊢
  refine yq_ (i := 1) (N := some 121) bq_75 (by kernel_rfl) ?_
  refine take_ (i := 0) (N := some 120) (v := ?_) (a' := ?_) bq_76 rfl rfl (by kernel_rfl) (fun _ _ _ h => h) (Or.inl ⟨(by rfl), ?_⟩) hHeld ?_ ?_
  rotate_left
  ·intro w' s0
   go_simp
   with_reducible rfl
  rotate_left
  ·simp only [Act.put, List.setIfInBounds_toArray, List.set_cons_zero, List.set_cons_succ, i64_w, i32_w]
   rfl
  refine one_ (i := 2) (N := some 122) bq_77 rfl rfl (by kernel_rfl) (by decide) (fun K hK => ?_)
  refine goes_ Try.func125 (by kernel_rfl) rfl #[.int .i64 t466] (by rfl) rfl rfl tq_0 ?_
  with_reducible refine (spec_l17Fails.calls t466 t468 t469 t470 t471 t472 _ A165.out).mono ?_
  rintro e w175 ⟨v473, rfl, ho0, hb⟩
  refine ⟨_, rfl, ?_⟩
  have z_ := p_ (Kd.R_below (raR_ HO465) hb) <| p_ (Kd.R_lower ho0 (below_size th_)) <| bw6_ (kb_ BK415) (kb_ BK416) (kb_ BK417) (kb_ BK418) (kb_ BK419) (kb_ BK467) th_ hb
  clear HO465 BK415 BK416 BK417 BK418 BK419 BK467 HB
  obtain ⟨HO465, HO474, BK415, BK416, BK417, BK418, BK419, BK467, HB⟩ := z_
  (try clear hb)
  (try clear ho0)
  obtain ⟨Ao181, co181, eo181⟩ := Kd.R_slice HO474.out
  (first | subst eo181 | (injection eo181 with f1_ f2_ f3_; have f4_ := f1_.symm; have f5_ := f3_.symm; clear f1_ f2_ f3_; subst f4_; subst f5_))
  refine hK.out _ _ ((blk_cell BK467.out 0).trans rfl) (fun hHeld => ?_)
  clear hK K
  refine nm_ (some 122) ?_
  refine one_ (i := 3) (N := none) bq_67 rfl rfl (by kernel_rfl) (by decide) (fun K hK => ?_)
  have hs176 : w175.cell? ⟨gb418, 0, none⟩ = some (.slice none 0 0) := (blk_cell BK418.out 0).trans rfl
  have hfs176 := blk_frozen BK418.out 0
  obtain ⟨n415_418, n416_418, n417_418, n419_418, n418_415, n418_416, n418_417, n418_419⟩ := an8_ NB415_418 NB416_418 NB417_418 NB419_418 NB418_415 NB418_416 NB418_417 NB418_419
  refine skip_ (w1 := ?_) (by rfl) rfl ?_ ?_
  rotate_left
  ·go_simp
   rfl
  refine hK.out _ _ ((cf_ NB467_418 hHeld)) (fun hHeld => ?_)
  clear hK K
  refine one_ (i := 4) (N := none) bq_68 rfl rfl (by kernel_rfl) (by decide) (fun K hK => ?_)
  have hs177 : w175.cell? ⟨gb419, 0, none⟩ = some (.int .i64 0) := (blk_cell BK419.out 0).trans rfl
  have hfs177 := blk_frozen BK419.out 0
  obtain ⟨n415_419, n416_419, n417_419, n419_415, n419_416, n419_417⟩ := an6_ NB415_419 NB416_419 NB417_419 NB419_415 NB419_416 NB419_417
  have hs178 : w175.cell? ⟨gb419, 1, none⟩ = some (.string (⟨#[]⟩ : ByteArray)) := (blk_cell BK419.out 1).trans rfl
  have hfs178 := blk_frozen BK419.out 1
  have hs179 : w175.cell? ⟨gb419, 2, none⟩ = some (.int .i64 0) := (blk_cell BK419.out 2).trans rfl
  have hfs179 := blk_frozen BK419.out 2
  have hs180 : w175.cell? ⟨gb419, 3, none⟩ = some (.bool false) := (blk_cell BK419.out 3).trans rfl
  have hfs180 := blk_frozen BK419.out 3
  have hs182 : w175.cell? ⟨gb419, 4, none⟩ = some (.slice none 0 0) := (blk_cell BK419.out 4).trans rfl
  have hfs182 := blk_frozen BK419.out 4
  refine skip_ (w1 := ?_) (by rfl) rfl ?_ ?_
  rotate_left
  ·go_simp
   rfl
  refine hK.out _ _ ((cf_ NB467_419 (cf_ NB467_419 (cf_ NB467_419 (cf_ NB467_419 (cf_ NB467_419 hHeld)))))) (fun hHeld => ?_)
  clear hK K
  refine done_ (by kernel_rfl) ?_
  try go_wp2
  refine bodyPost_ret (results_cc rfl _ _ gb418 gb419 42 129 #[.slice Ao171 t463.length co171] #[.int .i64 t468, .string t469, .int .i64 t470, .bool t471, .slice Ao181 t472.length co181] (0, 0) (0, 0) _ _ rfl tb_ Try.underlying42 rfl (by kernel_rfl) rfl tb_ Try.underlying129 rfl (by kernel_rfl)) rfl ?_
  exact ⟨_, _, tq_1, (by (with_reducible repeat (first | apply Kd.R_alloc | apply Kd.R_drewN | apply Kd.R_drew)); exact Kd.R_mono (rR_ (rR_ (rR_ (rR_ (rR_ (rR_ (Kd.R_types (Kd.R_types HO465.out BK418.out (by decide)) BK419.out (by decide)) (fun _ hk => hk.1.2))))))) (fun _ hk => trivial)), (by (with_reducible repeat (first | apply Kd.R_alloc | apply Kd.R_drewN | apply Kd.R_drew)); exact Kd.R_mono (rR_ (rR_ (rR_ (rR_ (rR_ (rR_ (Kd.R_types (Kd.R_types HO474.out BK418.out (by decide)) BK419.out (by decide)) (fun _ hk => hk.1.2))))))) (fun _ hk => trivial)), th_⟩
 rw [if_pos c93] at H
 have c93b0 := beq_iff_eq.mpr c93
 have c93b1 := bne_eq_false_iff_eq.mpr c93
 clear c93
 have HC94 := Aside0.mk H
 clear H
 go_upto_region 12 with (fail)
 go_cut [75] (fun v75 wc => ∃ (kq : Nat) (x75_93 : Bool), v75 = .bool x75_93 ∧ Aside0 (spec_l17File.j1 kq a2 ((rd_T44 l1_0 a2).f2) x75_93 a0_0 a0_1 a0_2 a0_3 l1_0 a3_0 a3_1 a3_2 a3_3 a3_4 a3_5 = some (r1, r2, r3, r4, r5, r6)) ∧ Aside0 (kq ≤ k) ∧ Aside0 (wc.heap[gb415]? = some (.cells #[.int .i64 a0_0, .int .i64 a0_1, .int .i64 a0_2, .int .i64 a0_3] 30 (0, 0))) ∧ Aside0 (wc.heap[gb416]? = some (.cells #[(.slice (some ad420) l1_0.length c1_0)] 42 (0, 0))) ∧ Aside0 (wc.heap[gb417]? = some (.cells #[.int .i64 a3_0, .string a3_1, .string a3_2, .int .i64 a3_3, .int .i64 a3_4, .string a3_5] 133 (0, 0))) ∧ Aside0 (wc.heap[gb418]? = some (.cells #[(.slice none 0 0)] 42 (0, 0))) ∧ Aside0 (wc.heap[gb419]? = some (.cells #[.int .i64 0, .string (⟨#[]⟩ : ByteArray), .int .i64 0, .bool false, (.slice none 0 0)] 129 (0, 0))) ∧ Aside0 (Below w.heap.size w wc))
 case first =>
  have H := HC94.out
  clear HC94
  by_cases c95 : a3_3 < 0
  ·rw [if_pos c95] at H
   have c95b0 := decide_eq_true c95
   clear c95
   (first | rw [c95b0] | (simp only [i64_w, i32_w]; rw [c95b0]) | skip)
   have H' := Aside0.mk H
   clear H
   obtain ⟨n417_415, n415_417, n417_416, n416_417, n417_418, n418_417, n417_419, n419_417⟩ := an8_ NB417_415 NB415_417 NB417_416 NB416_417 NB417_418 NB418_417 NB417_419 NB419_417
   obtain ⟨hcz100_0, hcz100_1, hcz100_2, hcz100_3, hcz100_4, hcz100_5⟩ := bk6_ BK417.out
   obtain ⟨hfz100_0, hfz100_1, hfz100_2, hfz100_3, hfz100_4, hfz100_5⟩ := bf6_ BK417.out
   go_wp2
   go_meet
   case rel => exact ⟨_, (true), tq_5, H', ⟨tq_38⟩, ⟨(kb_ BK415)⟩, ⟨(kb_ BK416)⟩, ⟨(kb_ BK417)⟩, ⟨(kb_ BK418)⟩, ⟨(kb_ BK419)⟩, ⟨th_⟩⟩
  rw [if_neg c95] at H
  have c95b0 := decide_eq_false c95
  clear c95
  (first | rw [c95b0] | (simp only [i64_w, i32_w]; rw [c95b0]) | skip)
  have H' := Aside0.mk H
  clear H
  obtain ⟨n417_415, n415_417, n417_416, n416_417, n417_418, n418_417, n417_419, n419_417⟩ := an8_ NB417_415 NB415_417 NB417_416 NB416_417 NB417_418 NB418_417 NB417_419 NB419_417
  obtain ⟨hcz105_0, hcz105_1, hcz105_2, hcz105_3, hcz105_4, hcz105_5⟩ := bk6_ BK417.out
  obtain ⟨hfz105_0, hfz105_1, hfz105_2, hfz105_3, hfz105_4, hfz105_5⟩ := bf6_ BK417.out
  go_wp2
  go_meet
  case rel => exact ⟨_, (decide (a3_3 > (wrap64 (128 - (a3_5.size : Int))))), tq_5, H', ⟨tq_38⟩, ⟨(kb_ BK415)⟩, ⟨(kb_ BK416)⟩, ⟨(kb_ BK417)⟩, ⟨(kb_ BK418)⟩, ⟨(kb_ BK419)⟩, ⟨th_⟩⟩
 case rest =>
 clear HC94
 try clear c1; try clear c2; try clear p2; try clear c3; try clear c4; try clear p4; try clear q4; try clear hx4; try clear c5; try clear c6; try clear p6; try clear c8; try clear c9; try clear c10; try clear c12; try clear c14; try clear c22; try clear c22b0; try clear c22b1; try clear c35; try clear c38; try clear c39; try clear c40; try clear c41; try clear p42; try clear q42; try clear hx42; try clear c46; try clear c47; try clear c48; try clear c50; try clear c51; try clear c56; try clear c57; try clear c58; try clear c59; try clear c61; try clear c61b0; try clear c63; try clear c63b0; try clear c63b1; try clear c64; try clear c64b0; try clear c64b1; try clear p64; try clear c65; try clear c65b0; try clear c65b1; try clear c66; try clear c67; try clear c68; try clear c69; try clear c81; try clear c81b0; try clear c81b1; try clear c82; try clear c82b0; try clear c82b1; try clear c83; try clear c83b0; try clear c83b1; try clear c93; try clear c93b0; try clear c93b1; try clear c95; try clear c95b0; try clear c96; try clear c97; try clear c98; try clear c99; try clear c101; try clear c102; try clear c103; try clear c104; try clear hcz100_0 hcz100_1 hcz100_2 hcz100_3 hcz100_4 hcz100_5; try clear hcz105_0 hcz105_1 hcz105_2 hcz105_3 hcz105_4 hcz105_5; try clear hcz34_5; try clear hcz42_0; try clear hcz49_0; try clear hcz52_0 hcz52_1 hcz52_2 hcz52_3 hcz52_4; try clear hcz60_0 hcz60_1 hcz60_2 hcz60_3 hcz60_4 hcz60_5; try clear hcz70_0 hcz70_1 hcz70_2 hcz70_3 hcz70_4 hcz70_5; try clear hfz100_0 hfz100_1 hfz100_2 hfz100_3 hfz100_4 hfz100_5; try clear hfz105_0 hfz105_1 hfz105_2 hfz105_3 hfz105_4 hfz105_5; try clear hfz17_0; try clear hfz21_0 hfz21_1 hfz21_2 hfz21_3 hfz21_4 hfz21_5; try clear hfz29_0 hfz29_1 hfz29_2 hfz29_3 hfz29_4 hfz29_5; try clear hfz34_0 hfz34_1 hfz34_2 hfz34_3 hfz34_4 hfz34_5; try clear hfz42_0; try clear hfz49_0; try clear hfz52_0 hfz52_1 hfz52_2 hfz52_3 hfz52_4; try clear hfz60_0 hfz60_1 hfz60_2 hfz60_3 hfz60_4 hfz60_5; try clear hfz70_0 hfz70_1 hfz70_2 hfz70_3 hfz70_4 hfz70_5; try clear hx420_0; try clear hx420_1; try clear hx420_2; try clear p420; try clear q420
 obtain ⟨kq, x75_93, rfl, HA, HJ93, BK415, BK416, BK417, BK418, BK419, HB⟩ := hcut
 cases kq with
 | zero => exact absurd HA.out (by simp [spec_l17File.j1])
 | succ kj93 =>
 have H := HA.out
 clear HA
 simp only [spec_l17File.j1] at H
 by_cases c106 : x75_93 = true
 ·subst c106
  rw [if_pos rfl] at H
  obtain ⟨t438, A107, H⟩ := bd_ H
  obtain ⟨⟨t441, t442, t443, t444, t445⟩, A108, H⟩ := bd_ H
  try dsimp -simprocs only at H
  simp only [Option.some.injEq, Prod.mk.injEq] at H
  obtain ⟨rfl, rfl, rfl, rfl, rfl, rfl⟩ := H
  obtain ⟨n416_415, n415_416, n416_417, n417_416, n416_418, n418_416, n416_419, n419_416⟩ := an8_ NB416_415 NB415_416 NB416_417 NB417_416 NB416_418 NB418_416 NB416_419 NB419_416
  have hcz113_0 := bc_ BK416.out 0
  have hfz113_0 := blk_frozen BK416.out 0
  go_wp2_with (first | ((with_reducible refine gate_callee (f := 123) rfl ?_); refine goesL_ (some 77) rfl rfl Try.func123 (by kernel_rfl) rfl #[.agg #[.slice (some ad420) l1_0.length c1_0]] rfl tq_0 ?_; (with_reducible refine (spec_l17Same.calls _ _ l1_0 t438 _ ?side1 ?side2 A107.out).mono ?_); (case side1 => exact tq_11); (case side2 => exact HC1_0.out); rintro e w114 ⟨v439, rfl, ho0, hb⟩; refine ⟨_, rfl, ?_⟩; have z_ := p_ (Kd.R_lower ho0 (below_size th_)) <| bw5_ (kb_ BK415) (kb_ BK416) (kb_ BK417) (kb_ BK418) (kb_ BK419) th_ hb; clear BK415 BK416 BK417 BK418 BK419 HB; obtain ⟨HO440, BK415, BK416, BK417, BK418, BK419, HB⟩ := z_; (try clear hb); (try clear ho0)) | ((with_reducible refine gate_callee (f := 125) rfl ?_); refine goesL_ (some 78) rfl rfl Try.func125 (by kernel_rfl) rfl #[.int .i64 12] rfl tq_0 ?_; (with_reducible refine (spec_l17Fails.calls 12 t441 t442 t443 t444 t445 _ A108.out).mono ?_); rintro e w115 ⟨v446, rfl, ho0, hb⟩; refine ⟨_, rfl, ?_⟩; have z_ := p_ (Kd.R_below (raR_ HO440) hb) <| p_ (Kd.R_lower ho0 (below_size th_)) <| bw5_ (kb_ BK415) (kb_ BK416) (kb_ BK417) (kb_ BK418) (kb_ BK419) th_ hb; clear HO440 BK415 BK416 BK417 BK418 BK419 HB; obtain ⟨HO440, HO447, BK415, BK416, BK417, BK418, BK419, HB⟩ := z_; (try clear hb); (try clear ho0); obtain ⟨Ao116, co116, eo116⟩ := Kd.R_slice HO440.out; subst eo116; obtain ⟨n418_415, n415_418, n418_417, n417_418, n418_419, n419_418⟩ := an6_ NB418_415 NB415_418 NB418_417 NB417_418 NB418_419 NB419_418; have hcz120_0 := bc_ BK418.out 0; have hfz120_0 := blk_frozen BK418.out 0; obtain ⟨n419_415, n415_419, n419_417, n417_419⟩ := an4_ NB419_415 NB415_419 NB419_417 NB417_419; obtain ⟨hcz123_0, hcz123_1, hcz123_2, hcz123_3, hcz123_4⟩ := bk5_ BK419.out; obtain ⟨hfz123_0, hfz123_1, hfz123_2, hfz123_3, hfz123_4⟩ := bf5_ BK419.out; obtain ⟨Ao124, co124, eo124⟩ := Kd.R_slice HO447.out; subst eo124))
  refine bodyPost_ret (results_cc rfl _ _ gb418 gb419 42 129 #[.slice Ao116 t438.length co116] #[.int .i64 t441, .string t442, .int .i64 t443, .bool t444, .slice Ao124 t445.length co124] (0, 0) (0, 0) _ _ rfl tb_ Try.underlying42 rfl (by kernel_rfl) rfl tb_ Try.underlying129 rfl (by kernel_rfl)) rfl ?_
  exact ⟨_, _, tq_1, (by (with_reducible repeat (first | apply Kd.R_alloc | apply Kd.R_drewN | apply Kd.R_drew)); exact Kd.R_mono (rR_ (rR_ (rR_ (rR_ (rR_ (rR_ (Kd.R_types (Kd.R_types HO440.out BK418.out (by decide)) BK419.out (by decide)) (fun _ hk => hk.1.2))))))) (fun _ hk => trivial)), (by (with_reducible repeat (first | apply Kd.R_alloc | apply Kd.R_drewN | apply Kd.R_drew)); exact Kd.R_mono (rR_ (rR_ (rR_ (rR_ (rR_ (rR_ (Kd.R_types (Kd.R_types HO447.out BK418.out (by decide)) BK419.out (by decide)) (fun _ hk => hk.1.2))))))) (fun _ hk => trivial)), th_⟩
 replace c106 := Bool.eq_false_iff.mpr c106
 subst c106
 rw [if_neg nf_] at H
 obtain ⟨t448, A125, H⟩ := bd_ H
 obtain ⟨⟨t449, t452⟩, A126, H⟩ := bd_ H
 try dsimp -simprocs only at H
 have HC127 := Aside0.mk H
 clear H
 try go_wp2
 have z_ := dw5_ BK415 BK416 BK417 BK418 BK419 HB
 clear BK415 BK416 BK417 BK418 BK419 HB
 obtain ⟨BK415, BK416, BK417, BK418, BK419, HB⟩ := z_
 refine start_ (n := 16) (S := fun w' => w'.cell? ⟨gb415, 0, none⟩ = some (.int .i64 a0_0) ∧ w'.cell? ⟨gb415, 1, none⟩ = some (.int .i64 a0_1) ∧ w'.cell? ⟨gb415, 2, none⟩ = some (.int .i64 a0_2) ∧ w'.cell? ⟨gb415, 3, none⟩ = some (.int .i64 a0_3) ∧ w'.cell? ⟨gb416, 0, none⟩ = some (.slice (some ad420) l1_0.length c1_0) ∧ w'.cell? ⟨gb417, 0, none⟩ = some (.int .i64 a3_0) ∧ w'.cell? ⟨gb417, 1, none⟩ = some (.string a3_1) ∧ w'.cell? ⟨gb417, 2, none⟩ = some (.string a3_2) ∧ w'.cell? ⟨gb417, 3, none⟩ = some (.int .i64 a3_3) ∧ w'.cell? ⟨gb417, 4, none⟩ = some (.int .i64 a3_4) ∧ w'.cell? ⟨gb417, 5, none⟩ = some (.string a3_5)) (ds := []) bq_83 (by kernel_rfl) rfl rfl (bc4_ BK415.out ⟨(blk_cell BK416.out 0).trans rfl, bk6_ BK417.out⟩) (fun hHeld => ?_); refine with_tabW spec_l17File.tab14 spec_l17File.bits14 (fun HT_ HW_ => ?_)
 generalize wc.drew = w128 at BK415 BK416 BK417 BK418 BK419 HB hHeld ⊢
 refine yr_ 2 82 #[false, false, true, false, false, false, false, false, false, false, false, false, false, false, false, false] HT_ ?_
 refine yr_ 3 83 #[false, false, true, true, false, false, false, false, false, false, false, false, false, false, false, false] HT_ ?_
 refine yr_ 4 84 #[false, false, true, true, true, false, false, false, false, false, false, false, false, false, false, false] HT_ ?_
 refine yr_ 6 86 #[false, false, true, true, true, false, true, false, false, false, false, false, false, false, false, false] HT_ ?_
 refine tr_ 0 80 #[true, false, true, true, true, false, true, false, false, false, false, false, false, false, false, false] HT_ HW_ hHeld ?_
 refine tr_ 1 81 #[true, true, true, true, true, false, true, false, false, false, false, false, false, false, false, false] HT_ HW_ hHeld ?_
 refine tr_ 5 85 bq_84 HT_ HW_ hHeld ?_
 refine tr_ 7 87 bq_120 HT_ HW_ hHeld ?_
 refine join_ (σ := Value × Nat) 2 bq_6 (fun s_ => [(88, .string t448), (89, .tuple #[.agg #[s_.1], .int .i64 t452]), (13, .pointer (some ⟨s_.2, 0, none⟩)), (79, .tuple #[.agg #[s_.1], .int .i64 t452]), (90, .agg #[s_.1]), (91, .int .i64 t452)]) (fun s_ w' => (w'.cell? ⟨gb415, 0, none⟩ = some (.int .i64 a0_0) ∧ w'.cell? ⟨gb415, 1, none⟩ = some (.int .i64 a0_1) ∧ w'.cell? ⟨gb415, 2, none⟩ = some (.int .i64 a0_2) ∧ w'.cell? ⟨gb415, 3, none⟩ = some (.int .i64 a0_3) ∧ w'.cell? ⟨gb416, 0, none⟩ = some (.slice (some ad420) l1_0.length c1_0) ∧ w'.cell? ⟨gb417, 0, none⟩ = some (.int .i64 a3_0) ∧ w'.cell? ⟨gb417, 1, none⟩ = some (.string a3_1) ∧ w'.cell? ⟨gb417, 2, none⟩ = some (.string a3_2) ∧ w'.cell? ⟨gb417, 3, none⟩ = some (.int .i64 a3_3) ∧ w'.cell? ⟨gb417, 4, none⟩ = some (.int .i64 a3_4) ∧ w'.cell? ⟨gb417, 5, none⟩ = some (.string a3_5)) ∧ (Kd.R k44 44 w' w.heap.size (fun _ => True) s_.1 t449) ∧ (w'.heap[gb415]? = some (.cells #[.int .i64 a0_0, .int .i64 a0_1, .int .i64 a0_2, .int .i64 a0_3] 30 (0, 0))) ∧ (w'.heap[gb416]? = some (.cells #[.slice (some ad420) l1_0.length c1_0] 42 (0, 0))) ∧ (w'.heap[gb417]? = some (.cells #[.int .i64 a3_0, .string a3_1, .string a3_2, .int .i64 a3_3, .int .i64 a3_4, .string a3_5] 133 (0, 0))) ∧ (w'.heap[gb418]? = some (.cells #[.slice none 0 0] 42 (0, 0))) ∧ (w'.heap[gb419]? = some (.cells #[.int .i64 0, .string (⟨#[]⟩ : ByteArray), .int .i64 0, .bool false, .slice none 0 0] 129 (0, 0))) ∧ (w'.heap[s_.2]? = some (.cells #[.slice none 0 0] 42 (0, 0))) ∧ (w.heap.size ≤ s_.2) ∧ (w.heap.size ≤ s_.2) ∧ (gb415 ≠ s_.2) ∧ (s_.2 ≠ gb415) ∧ (gb416 ≠ s_.2) ∧ (s_.2 ≠ gb416) ∧ (gb417 ≠ s_.2) ∧ (s_.2 ≠ gb417) ∧ (gb418 ≠ s_.2) ∧ (s_.2 ≠ gb418) ∧ (gb419 ≠ s_.2) ∧ (s_.2 ≠ gb419) ∧ (Below w.heap.size w w')) ?_ ?_
 rotate_left
 ·intro hCont
  refine two_ (i := 8) (j := 13) (Ni := some 88) (Nj := some 13) bq_121 #[true, true, true, true, true, true, true, true, false, false, false, false, false, true, false, false] rfl rfl rfl rfl (two_of HT_.out (by kernel_rfl)) (by decide) (by decide) (fun K hK => ?_) (fun K hK => ?_)
  ·skip
   refine goes_ Try.func147 (by kernel_rfl) rfl #[.string ((rd_T44 l1_0 a2).f2), .int .i64 a3_3, .string a3_5] (by rfl) rfl rfl tq_0 ?_
   with_reducible refine (spec_TextWith.calls kj93 ((rd_T44 l1_0 a2).f2) a3_3 a3_5 t448 _ A125.out).mono ?_
   rintro e w129 ⟨rfl, hb⟩
   refine ⟨_, rfl, ?_⟩
   have z_ := bw5_ (kb_ BK415) (kb_ BK416) (kb_ BK417) (kb_ BK418) (kb_ BK419) th_ hb
   clear BK415 BK416 BK417 BK418 BK419 HB
   obtain ⟨BK415, BK416, BK417, BK418, BK419, HB⟩ := z_
   (try clear hb)
   refine hK.out _ _ (bc4_ BK415.out ⟨(blk_cell BK416.out 0).trans rfl, bk6_ BK417.out⟩) (fun hHeld => ?_)
   clear hK K
   refine nm_ (some 88) ?_
   refine two_ (i := 9) (j := 13) (Ni := some 89) (Nj := some 13) bq_122 bq_141 rfl rfl rfl rfl (two_of HT_.out (by kernel_rfl)) (by decide) (by decide) (fun K hK => ?_) (fun K hK => ?_)
   ·skip
    refine goes_ Try.func146 (by kernel_rfl) rfl #[.agg #[.int .i64 a0_0, .int .i64 a0_1, .int .i64 a0_2, .int .i64 a0_3], .agg #[.slice (some ad420) l1_0.length c1_0], .int .i64 a2, .string t448] (by rfl) rfl rfl tq_0 ?_
    with_reducible refine (spec_l17Texts.calls kj93 a0_0 a0_1 a0_2 a0_3 _ _ l1_0 a2 t448 t449 t452 _ ?side1 ?side2 A126.out).mono ?_
    (case side1 => exact tq_11)
    (case side2 => exact HC1_0.out)
    rintro e w130 ⟨v450, rfl, ho0, hb⟩
    refine ⟨_, rfl, ?_⟩
    have z_ := p_ (Kd.R_lower ho0 (below_size th_)) <| bw5_ (kb_ BK415) (kb_ BK416) (kb_ BK417) (kb_ BK418) (kb_ BK419) th_ hb
    clear BK415 BK416 BK417 BK418 BK419 HB
    obtain ⟨HO451, BK415, BK416, BK417, BK418, BK419, HB⟩ := z_
    (try clear hb)
    (try clear ho0)
    refine hK.out _ _ (bc4_ BK415.out ⟨(blk_cell BK416.out 0).trans rfl, bk6_ BK417.out⟩) (fun hHeld => ?_)
    clear hK K
    refine nm_ (some 89) ?_
    refine yr_ 10 79 bq_123 HT_ ?_
    refine yr_ 11 90 bq_124 HT_ ?_
    refine yr_ 12 91 bq_85 HT_ ?_
    refine one_ (i := 13) (N := some 13) bq_6 rfl rfl (one_of HT_.out (by kernel_rfl)) (by decide) (fun K hK => ?_)
    refine box_step ?hg (N := 13) ?hd (cs := #[.slice none 0 0]) (t := 42) ?hr ?_; (case hd => rfl); (case hg => rfl); (case hr => first | (go_simp; done) | (go_simp; rfl))
    intro gb453 hg w131 hbox hb
    have z_ := p_ (Kd.R_below (raR_ HO451) hb) <| bx5_ (kb_ BK415) (kb_ BK416) (kb_ BK417) (kb_ BK418) (kb_ BK419) th_ hb hbox hg
    clear HO451 BK415 BK416 BK417 BK418 BK419 HB
    obtain ⟨HO451, BK415, BK416, BK417, BK418, BK419, HB, BK453, GW453, GE453, NB415_453, NB453_415, NB416_453, NB453_416, NB417_453, NB453_417, NB418_453, NB453_418, NB419_453, NB453_419⟩ := z_
    clear hb hbox hg
    refine hK.out _ _ (bc4_ BK415.out ⟨(blk_cell BK416.out 0).trans rfl, bk6_ BK417.out⟩) (fun hHeld => ?_)
    clear hK K
    refine nm_ (some 13) ?_
    exact norm_ tq_32 (hCont (v450, gb453) _ ⟨hHeld, (raR_ HO451), (kb_ BK415), (kb_ BK416), (kb_ BK417), (kb_ BK418), (kb_ BK419), (kb_ BK453), GW453.out, GE453.out, NB415_453.out, NB453_415.out, NB416_453.out, NB453_416.out, NB417_453.out, NB453_417.out, NB418_453.out, NB453_418.out, NB419_453.out, NB453_419.out, th_⟩)
   ·skip
    refine box_step ?hg (N := 13) ?hd (cs := #[.slice none 0 0]) (t := 42) ?hr ?_; (case hd => rfl); (case hg => rfl); (case hr => first | (go_simp; done) | (go_simp; rfl))
    intro gb453 hg w130 hbox hb
    have z_ := bx5_ (kb_ BK415) (kb_ BK416) (kb_ BK417) (kb_ BK418) (kb_ BK419) th_ hb hbox hg
    clear BK415 BK416 BK417 BK418 BK419 HB
    obtain ⟨BK415, BK416, BK417, BK418, BK419, HB, BK453, GW453, GE453, NB415_453, NB453_415, NB416_453, NB453_416, NB417_453, NB453_417, NB418_453, NB453_418, NB419_453, NB453_419⟩ := z_
    clear hb hbox hg
    refine hK.out _ _ (bc4_ BK415.out ⟨(blk_cell BK416.out 0).trans rfl, bk6_ BK417.out⟩) (fun hHeld => ?_)
    clear hK K
    refine nm_ (some 13) ?_
    refine one_ (i := 9) (N := some 89) bq_142 rfl rfl (one_of HT_.out (by kernel_rfl)) (by decide) (fun K hK => ?_)
    refine goes_ Try.func146 (by kernel_rfl) rfl #[.agg #[.int .i64 a0_0, .int .i64 a0_1, .int .i64 a0_2, .int .i64 a0_3], .agg #[.slice (some ad420) l1_0.length c1_0], .int .i64 a2, .string t448] (by rfl) rfl rfl tq_0 ?_
    with_reducible refine (spec_l17Texts.calls kj93 a0_0 a0_1 a0_2 a0_3 _ _ l1_0 a2 t448 t449 t452 _ ?side1 ?side2 A126.out).mono ?_
    (case side1 => exact tq_11)
    (case side2 => exact HC1_0.out)
    rintro e w131 ⟨v450, rfl, ho0, hb⟩
    refine ⟨_, rfl, ?_⟩
    have z_ := p_ (Kd.R_lower ho0 (below_size th_)) <| bw6_ (kb_ BK415) (kb_ BK416) (kb_ BK417) (kb_ BK418) (kb_ BK419) (kb_ BK453) th_ hb
    clear BK415 BK416 BK417 BK418 BK419 BK453 HB
    obtain ⟨HO451, BK415, BK416, BK417, BK418, BK419, BK453, HB⟩ := z_
    (try clear hb)
    (try clear ho0)
    refine hK.out _ _ (bc4_ BK415.out ⟨(blk_cell BK416.out 0).trans rfl, bk6_ BK417.out⟩) (fun hHeld => ?_)
    clear hK K
    refine nm_ (some 89) ?_
    refine yr_ 10 79 bq_143 HT_ ?_
    refine yr_ 11 90 bq_144 HT_ ?_
    refine yr_ 12 91 bq_6 HT_ ?_
    exact norm_ tq_32 (hCont (v450, gb453) _ ⟨hHeld, (raR_ HO451), (kb_ BK415), (kb_ BK416), (kb_ BK417), (kb_ BK418), (kb_ BK419), (kb_ BK453), GW453.out, GE453.out, NB415_453.out, NB453_415.out, NB416_453.out, NB453_416.out, NB417_453.out, NB453_417.out, NB418_453.out, NB453_418.out, NB419_453.out, NB453_419.out, th_⟩)
  ·skip
   refine box_step ?hg (N := 13) ?hd (cs := #[.slice none 0 0]) (t := 42) ?hr ?_; (case hd => rfl); (case hg => rfl); (case hr => first | (go_simp; done) | (go_simp; rfl))
   intro gb453 hg w129 hbox hb
   have z_ := bx5_ (kb_ BK415) (kb_ BK416) (kb_ BK417) (kb_ BK418) (kb_ BK419) th_ hb hbox hg
   clear BK415 BK416 BK417 BK418 BK419 HB
   obtain ⟨BK415, BK416, BK417, BK418, BK419, HB, BK453, GW453, GE453, NB415_453, NB453_415, NB416_453, NB453_416, NB417_453, NB453_417, NB418_453, NB453_418, NB419_453, NB453_419⟩ := z_
   clear hb hbox hg
   refine hK.out _ _ (bc4_ BK415.out ⟨(blk_cell BK416.out 0).trans rfl, bk6_ BK417.out⟩) (fun hHeld => ?_)
   clear hK K
   refine nm_ (some 13) ?_
   refine one_ (i := 8) (N := some 88) bq_141 rfl rfl (one_of HT_.out (by kernel_rfl)) (by decide) (fun K hK => ?_)
   refine goes_ Try.func147 (by kernel_rfl) rfl #[.string ((rd_T44 l1_0 a2).f2), .int .i64 a3_3, .string a3_5] (by rfl) rfl rfl tq_0 ?_
   with_reducible refine (spec_TextWith.calls kj93 ((rd_T44 l1_0 a2).f2) a3_3 a3_5 t448 _ A125.out).mono ?_
   rintro e w130 ⟨rfl, hb⟩
   refine ⟨_, rfl, ?_⟩
   have z_ := bw6_ (kb_ BK415) (kb_ BK416) (kb_ BK417) (kb_ BK418) (kb_ BK419) (kb_ BK453) th_ hb
   clear BK415 BK416 BK417 BK418 BK419 BK453 HB
   obtain ⟨BK415, BK416, BK417, BK418, BK419, BK453, HB⟩ := z_
   (try clear hb)
   refine hK.out _ _ (bc4_ BK415.out ⟨(blk_cell BK416.out 0).trans rfl, bk6_ BK417.out⟩) (fun hHeld => ?_)
   clear hK K
   refine nm_ (some 88) ?_
   refine one_ (i := 9) (N := some 89) bq_142 rfl rfl (one_of HT_.out (by kernel_rfl)) (by decide) (fun K hK => ?_)
   refine goes_ Try.func146 (by kernel_rfl) rfl #[.agg #[.int .i64 a0_0, .int .i64 a0_1, .int .i64 a0_2, .int .i64 a0_3], .agg #[.slice (some ad420) l1_0.length c1_0], .int .i64 a2, .string t448] (by rfl) rfl rfl tq_0 ?_
   with_reducible refine (spec_l17Texts.calls kj93 a0_0 a0_1 a0_2 a0_3 _ _ l1_0 a2 t448 t449 t452 _ ?side1 ?side2 A126.out).mono ?_
   (case side1 => exact tq_11)
   (case side2 => exact HC1_0.out)
   rintro e w131 ⟨v450, rfl, ho0, hb⟩
   refine ⟨_, rfl, ?_⟩
   have z_ := p_ (Kd.R_lower ho0 (below_size th_)) <| bw6_ (kb_ BK415) (kb_ BK416) (kb_ BK417) (kb_ BK418) (kb_ BK419) (kb_ BK453) th_ hb
   clear BK415 BK416 BK417 BK418 BK419 BK453 HB
   obtain ⟨HO451, BK415, BK416, BK417, BK418, BK419, BK453, HB⟩ := z_
   (try clear hb)
   (try clear ho0)
   refine hK.out _ _ (bc4_ BK415.out ⟨(blk_cell BK416.out 0).trans rfl, bk6_ BK417.out⟩) (fun hHeld => ?_)
   clear hK K
   refine nm_ (some 89) ?_
   refine yr_ 10 79 bq_143 HT_ ?_
   refine yr_ 11 90 bq_144 HT_ ?_
   refine yr_ 12 91 bq_6 HT_ ?_
   exact norm_ tq_32 (hCont (v450, gb453) _ ⟨hHeld, (raR_ HO451), (kb_ BK415), (kb_ BK416), (kb_ BK417), (kb_ BK418), (kb_ BK419), (kb_ BK453), GW453.out, GE453.out, NB415_453.out, NB453_415.out, NB416_453.out, NB453_416.out, NB417_453.out, NB453_417.out, NB418_453.out, NB453_418.out, NB419_453.out, NB453_419.out, th_⟩)
 rintro ⟨v450, gb453⟩ w132 ⟨hS_, h0_, h1_, h2_, h3_, h4_, h5_, h6_, h7_, h8_, h9_, h10_, h11_, h12_, h13_, h14_, h15_, h16_, h17_, h18_, h19_⟩
 have z_ := q_ (⟨h0_⟩ : Aside0 (Kd.R k44 44 w132 w.heap.size (fun _ => True) v450 t449)) <| q_ (⟨h1_⟩ : Aside0 (w132.heap[gb415]? = some (.cells #[.int .i64 a0_0, .int .i64 a0_1, .int .i64 a0_2, .int .i64 a0_3] 30 (0, 0)))) <| q_ (⟨h2_⟩ : Aside0 (w132.heap[gb416]? = some (.cells #[.slice (some ad420) l1_0.length c1_0] 42 (0, 0)))) <| q_ (⟨h3_⟩ : Aside0 (w132.heap[gb417]? = some (.cells #[.int .i64 a3_0, .string a3_1, .string a3_2, .int .i64 a3_3, .int .i64 a3_4, .string a3_5] 133 (0, 0)))) <| q_ (⟨h4_⟩ : Aside0 (w132.heap[gb418]? = some (.cells #[.slice none 0 0] 42 (0, 0)))) <| q_ (⟨h5_⟩ : Aside0 (w132.heap[gb419]? = some (.cells #[.int .i64 0, .string (⟨#[]⟩ : ByteArray), .int .i64 0, .bool false, .slice none 0 0] 129 (0, 0)))) <| q_ (⟨h6_⟩ : Aside0 (w132.heap[gb453]? = some (.cells #[.slice none 0 0] 42 (0, 0)))) <| q_ (⟨h7_⟩ : Aside0 (w.heap.size ≤ gb453)) <| q_ (⟨h8_⟩ : Aside0 (w.heap.size ≤ gb453)) <| q_ (⟨h9_⟩ : Aside0 (gb415 ≠ gb453)) <| q_ (⟨h10_⟩ : Aside0 (gb453 ≠ gb415)) <| q_ (⟨h11_⟩ : Aside0 (gb416 ≠ gb453)) <| q_ (⟨h12_⟩ : Aside0 (gb453 ≠ gb416)) <| q_ (⟨h13_⟩ : Aside0 (gb417 ≠ gb453)) <| q_ (⟨h14_⟩ : Aside0 (gb453 ≠ gb417)) <| q_ (⟨h15_⟩ : Aside0 (gb418 ≠ gb453)) <| q_ (⟨h16_⟩ : Aside0 (gb453 ≠ gb418)) <| q_ (⟨h17_⟩ : Aside0 (gb419 ≠ gb453)) <| q_ (⟨h18_⟩ : Aside0 (gb453 ≠ gb419)) <| (⟨h19_⟩ : Aside0 (Below w.heap.size w w132))
 clear BK415 BK416 BK417 BK418 BK419 HB h0_ h1_ h2_ h3_ h4_ h5_ h6_ h7_ h8_ h9_ h10_ h11_ h12_ h13_ h14_ h15_ h16_ h17_ h18_ h19_
 obtain ⟨HO451, BK415, BK416, BK417, BK418, BK419, BK453, GW453, GE453, NB415_453, NB453_415, NB416_453, NB453_416, NB417_453, NB453_417, NB418_453, NB453_418, NB419_453, NB453_419, HB⟩ := z_
 have hHeld : w132.cell? ⟨gb415, 0, none⟩ = some (.int .i64 a0_0) ∧ w132.cell? ⟨gb415, 1, none⟩ = some (.int .i64 a0_1) ∧ w132.cell? ⟨gb415, 2, none⟩ = some (.int .i64 a0_2) ∧ w132.cell? ⟨gb415, 3, none⟩ = some (.int .i64 a0_3) ∧ w132.cell? ⟨gb416, 0, none⟩ = some (.slice (some ad420) l1_0.length c1_0) ∧ w132.cell? ⟨gb417, 0, none⟩ = some (.int .i64 a3_0) ∧ w132.cell? ⟨gb417, 1, none⟩ = some (.string a3_1) ∧ w132.cell? ⟨gb417, 2, none⟩ = some (.string a3_2) ∧ w132.cell? ⟨gb417, 3, none⟩ = some (.int .i64 a3_3) ∧ w132.cell? ⟨gb417, 4, none⟩ = some (.int .i64 a3_4) ∧ w132.cell? ⟨gb417, 5, none⟩ = some (.string a3_5) := hS_
 obtain ⟨Ao133, co133, eo133⟩ := Kd.R_slice HO451.out
 (first | subst eo133 | (injection eo133 with f1_ f2_ f3_; have f4_ := f1_.symm; have f5_ := f3_.symm; clear f1_ f2_ f3_; subst f4_; subst f5_))
 refine norm_ (a' := ?_) ?_ ?_
 rotate_left
 ·simp only [putAll, Act.put, List.setIfInBounds_toArray, List.set_cons_zero, List.set_cons_succ]
  rfl
 refine one_ (i := 14) (N := none) bq_86 rfl rfl (one_of HT_.out (by kernel_rfl)) (by decide) (fun K hK => ?_)
 have hs134 : w132.cell? ⟨gb453, 0, none⟩ = some (.slice none 0 0) := (blk_cell BK453.out 0).trans rfl
 have hfs134 := blk_frozen BK453.out 0
 obtain ⟨n415_453, n416_453, n417_453, n418_453, n419_453, n453_415, n453_416, n453_417⟩ := an8_ NB415_453 NB416_453 NB417_453 NB418_453 NB419_453 NB453_415 NB453_416 NB453_417
 obtain ⟨n453_418, n453_419⟩ := an2_ NB453_418 NB453_419
 refine skip_ (w1 := ?_) (by rfl) rfl ?_ ?_
 rotate_left
 ·go_simp
  rfl
 refine hK.out _ _ ⟨(cf_ NB415_453 hHeld.1), (cf_ NB415_453 hHeld.2.1), (cf_ NB415_453 hHeld.2.2.1), (cf_ NB415_453 hHeld.2.2.2.1), (cf_ NB416_453 hHeld.2.2.2.2.1), (cf_ NB417_453 hHeld.2.2.2.2.2.1), (cf_ NB417_453 hHeld.2.2.2.2.2.2.1), (cf_ NB417_453 hHeld.2.2.2.2.2.2.2.1), (cf_ NB417_453 hHeld.2.2.2.2.2.2.2.2.1), (cf_ NB417_453 hHeld.2.2.2.2.2.2.2.2.2.1), (cf_ NB417_453 hHeld.2.2.2.2.2.2.2.2.2.2)⟩ (fun hHeld => ?_)
 clear hK K
 refine yr_ 15 14 bq_87 HT_ ?_
 refine done_ (done_of HT_.out (by kernel_rfl)) ?_
 go_upto_if 93 with (fail)
 (try clear n415_453 n416_453 n417_453 n418_453 n419_453 n453_415 n453_416 n453_417 n453_418 n453_419)
 have H := HC127.out
 clear HC127
 by_cases c135 : t452 = 0
 rotate_left
 ·rw [if_neg c135] at H
  have c135b0 := beq_eq_false_iff_ne.mpr c135
  have c135b1 := bne_iff_ne.mpr c135
  (first | rw [c135b0] | (simp only [i64_w, i32_w]; rw [c135b0]) | skip)
  obtain ⟨⟨t454, t455, t456, t457, t458⟩, A144, H⟩ := bd_ H
  try dsimp -simprocs only at H
  simp only [Option.some.injEq, Prod.mk.injEq] at H
  obtain ⟨rfl, rfl, rfl, rfl, rfl, rfl⟩ := H
  try go_wp2
  have n0_ : Aside0 (Kd.R k44 44 (w132.setCell ⟨gb453, 0, none⟩ (.slice Ao133 t449.length co133)) w.heap.size (fun _ => True) (.slice Ao133 t449.length co133) t449) := ⟨tq_109⟩
  have n1_ : Aside0 ((w132.setCell ⟨gb453, 0, none⟩ (.slice Ao133 t449.length co133)).heap[gb415]? = some (.cells #[.int .i64 a0_0, .int .i64 a0_1, .int .i64 a0_2, .int .i64 a0_3] 30 (0, 0))) := ⟨tb_⟩
  have n2_ : Aside0 ((w132.setCell ⟨gb453, 0, none⟩ (.slice Ao133 t449.length co133)).heap[gb416]? = some (.cells #[.slice (some ad420) l1_0.length c1_0] 42 (0, 0))) := ⟨tb_⟩
  have n3_ : Aside0 ((w132.setCell ⟨gb453, 0, none⟩ (.slice Ao133 t449.length co133)).heap[gb417]? = some (.cells #[.int .i64 a3_0, .string a3_1, .string a3_2, .int .i64 a3_3, .int .i64 a3_4, .string a3_5] 133 (0, 0))) := ⟨tb_⟩
  have n4_ : Aside0 ((w132.setCell ⟨gb453, 0, none⟩ (.slice Ao133 t449.length co133)).heap[gb418]? = some (.cells #[.slice none 0 0] 42 (0, 0))) := ⟨tb_⟩
  have n5_ : Aside0 ((w132.setCell ⟨gb453, 0, none⟩ (.slice Ao133 t449.length co133)).heap[gb419]? = some (.cells #[.int .i64 0, .string (⟨#[]⟩ : ByteArray), .int .i64 0, .bool false, .slice none 0 0] 129 (0, 0))) := ⟨tb_⟩
  have n6_ : Aside0 ((w132.setCell ⟨gb453, 0, none⟩ (.slice Ao133 t449.length co133)).heap[gb453]? = some (.cells #[.slice Ao133 t449.length co133] 42 (0, 0))) := ⟨tb_⟩
  have n7_ : Aside0 (Below w.heap.size w (w132.setCell ⟨gb453, 0, none⟩ (.slice Ao133 t449.length co133))) := ⟨th_⟩
  (try clear HO451)
  (try clear BK415)
  (try clear BK416)
  (try clear BK417)
  (try clear BK418)
  (try clear BK419)
  (try clear BK453)
  (try clear HB)
  generalize (w132.setCell ⟨gb453, 0, none⟩ (.slice Ao133 t449.length co133)) = w145 at n0_ n1_ n2_ n3_ n4_ n5_ n6_ n7_ ⊢
  have HO451 := n0_
  have BK415 := n1_
  have BK416 := n2_
  have BK417 := n3_
  have BK418 := n4_
  have BK419 := n5_
  have BK453 := n6_
  have HB := n7_
  clear n0_ n1_ n2_ n3_ n4_ n5_ n6_ n7_
  have z_ := p_ (Kd.R_drew HO451.out) <| dw6_ BK415 BK416 BK417 BK418 BK419 BK453 HB
  clear HO451 BK415 BK416 BK417 BK418 BK419 BK453 HB
  obtain ⟨HO451, BK415, BK416, BK417, BK418, BK419, BK453, HB⟩ := z_
  refine start_ (n := 5) (S := fun w' => w'.cell? ⟨gb453, 0, none⟩ = some (.slice Ao133 t449.length co133)) (ds := []) bq_66 (by kernel_rfl) rfl rfl ((blk_cell BK453.out 0).trans rfl) (fun hHeld => ?_)
  generalize w145.drew = w146 at HO451 BK415 BK416 BK417 BK418 BK419 BK453 HB hHeld ⊢
  refine yq_ (i := 1) (N := some 95) bq_75 (by kernel_rfl) ?_
  refine take_ (i := 0) (N := some 94) (v := ?_) (a' := ?_) bq_76 rfl rfl (by kernel_rfl) (fun _ _ _ h => h) (Or.inl ⟨(by rfl), ?_⟩) hHeld ?_ ?_
  rotate_left
  ·intro w' s0
   go_simp
   with_reducible rfl
  rotate_left
  ·simp only [Act.put, List.setIfInBounds_toArray, List.set_cons_zero, List.set_cons_succ, i64_w, i32_w]
   rfl
  refine one_ (i := 2) (N := some 96) bq_77 rfl rfl (by kernel_rfl) (by decide) (fun K hK => ?_)
  refine goes_ Try.func125 (by kernel_rfl) rfl #[.int .i64 t452] (by rfl) rfl rfl tq_0 ?_
  with_reducible refine (spec_l17Fails.calls t452 t454 t455 t456 t457 t458 _ A144.out).mono ?_
  rintro e w147 ⟨v459, rfl, ho0, hb⟩
  refine ⟨_, rfl, ?_⟩
  have z_ := p_ (Kd.R_below (raR_ HO451) hb) <| p_ (Kd.R_lower ho0 (below_size th_)) <| bw6_ (kb_ BK415) (kb_ BK416) (kb_ BK417) (kb_ BK418) (kb_ BK419) (kb_ BK453) th_ hb
  clear HO451 BK415 BK416 BK417 BK418 BK419 BK453 HB
  obtain ⟨HO451, HO460, BK415, BK416, BK417, BK418, BK419, BK453, HB⟩ := z_
  (try clear hb)
  (try clear ho0)
  obtain ⟨Ao153, co153, eo153⟩ := Kd.R_slice HO460.out
  (first | subst eo153 | (injection eo153 with f1_ f2_ f3_; have f4_ := f1_.symm; have f5_ := f3_.symm; clear f1_ f2_ f3_; subst f4_; subst f5_))
  refine hK.out _ _ ((blk_cell BK453.out 0).trans rfl) (fun hHeld => ?_)
  clear hK K
  refine nm_ (some 96) ?_
  refine one_ (i := 3) (N := none) bq_67 rfl rfl (by kernel_rfl) (by decide) (fun K hK => ?_)
  have hs148 : w147.cell? ⟨gb418, 0, none⟩ = some (.slice none 0 0) := (blk_cell BK418.out 0).trans rfl
  have hfs148 := blk_frozen BK418.out 0
  obtain ⟨n415_418, n416_418, n417_418, n419_418, n453_418, n418_415, n418_416, n418_417⟩ := an8_ NB415_418 NB416_418 NB417_418 NB419_418 NB453_418 NB418_415 NB418_416 NB418_417
  obtain ⟨n418_419, n418_453⟩ := an2_ NB418_419 NB418_453
  refine skip_ (w1 := ?_) (by rfl) rfl ?_ ?_
  rotate_left
  ·go_simp
   rfl
  refine hK.out _ _ ((cf_ NB453_418 hHeld)) (fun hHeld => ?_)
  clear hK K
  refine one_ (i := 4) (N := none) bq_68 rfl rfl (by kernel_rfl) (by decide) (fun K hK => ?_)
  have hs149 : w147.cell? ⟨gb419, 0, none⟩ = some (.int .i64 0) := (blk_cell BK419.out 0).trans rfl
  have hfs149 := blk_frozen BK419.out 0
  obtain ⟨n415_419, n416_419, n417_419, n453_419, n419_415, n419_416, n419_417, n419_453⟩ := an8_ NB415_419 NB416_419 NB417_419 NB453_419 NB419_415 NB419_416 NB419_417 NB419_453
  have hs150 : w147.cell? ⟨gb419, 1, none⟩ = some (.string (⟨#[]⟩ : ByteArray)) := (blk_cell BK419.out 1).trans rfl
  have hfs150 := blk_frozen BK419.out 1
  have hs151 : w147.cell? ⟨gb419, 2, none⟩ = some (.int .i64 0) := (blk_cell BK419.out 2).trans rfl
  have hfs151 := blk_frozen BK419.out 2
  have hs152 : w147.cell? ⟨gb419, 3, none⟩ = some (.bool false) := (blk_cell BK419.out 3).trans rfl
  have hfs152 := blk_frozen BK419.out 3
  have hs154 : w147.cell? ⟨gb419, 4, none⟩ = some (.slice none 0 0) := (blk_cell BK419.out 4).trans rfl
  have hfs154 := blk_frozen BK419.out 4
  refine skip_ (w1 := ?_) (by rfl) rfl ?_ ?_
  rotate_left
  ·go_simp
   rfl
  refine hK.out _ _ ((cf_ NB453_419 (cf_ NB453_419 (cf_ NB453_419 (cf_ NB453_419 (cf_ NB453_419 hHeld)))))) (fun hHeld => ?_)
  clear hK K
  refine done_ (by kernel_rfl) ?_
  try go_wp2
  refine bodyPost_ret (results_cc rfl _ _ gb418 gb419 42 129 #[.slice Ao133 t449.length co133] #[.int .i64 t454, .string t455, .int .i64 t456, .bool t457, .slice Ao153 t458.length co153] (0, 0) (0, 0) _ _ rfl tb_ Try.underlying42 rfl (by kernel_rfl) rfl tb_ Try.underlying129 rfl (by kernel_rfl)) rfl ?_
  exact ⟨_, _, tq_1, tq_88, (by (with_reducible repeat (first | apply Kd.R_alloc | apply Kd.R_drewN | apply Kd.R_drew)); exact Kd.R_mono (rR_ (rR_ (rR_ (rR_ (rR_ (rR_ (Kd.R_types (Kd.R_types HO460.out BK418.out (by decide)) BK419.out (by decide)) (fun _ hk => hk.1.2))))))) (fun _ hk => trivial)), th_⟩
 rw [if_pos c135] at H
 have c135b0 := beq_iff_eq.mpr c135
 have c135b1 := bne_eq_false_iff_eq.mpr c135
 clear c135
 (first | rw [c135b0] | (simp only [i64_w, i32_w]; rw [c135b0]) | skip)
 simp only [Option.some.injEq, Prod.mk.injEq] at H
 obtain ⟨rfl, rfl, rfl, rfl, rfl, rfl⟩ := H
 try go_wp2
 have n0_ : Aside0 (Kd.R k44 44 (w132.setCell ⟨gb453, 0, none⟩ (.slice Ao133 t449.length co133)) w.heap.size (fun _ => True) (.slice Ao133 t449.length co133) t449) := ⟨tq_109⟩
 have n1_ : Aside0 ((w132.setCell ⟨gb453, 0, none⟩ (.slice Ao133 t449.length co133)).heap[gb415]? = some (.cells #[.int .i64 a0_0, .int .i64 a0_1, .int .i64 a0_2, .int .i64 a0_3] 30 (0, 0))) := ⟨tb_⟩
 have n2_ : Aside0 ((w132.setCell ⟨gb453, 0, none⟩ (.slice Ao133 t449.length co133)).heap[gb416]? = some (.cells #[.slice (some ad420) l1_0.length c1_0] 42 (0, 0))) := ⟨tb_⟩
 have n3_ : Aside0 ((w132.setCell ⟨gb453, 0, none⟩ (.slice Ao133 t449.length co133)).heap[gb417]? = some (.cells #[.int .i64 a3_0, .string a3_1, .string a3_2, .int .i64 a3_3, .int .i64 a3_4, .string a3_5] 133 (0, 0))) := ⟨tb_⟩
 have n4_ : Aside0 ((w132.setCell ⟨gb453, 0, none⟩ (.slice Ao133 t449.length co133)).heap[gb418]? = some (.cells #[.slice none 0 0] 42 (0, 0))) := ⟨tb_⟩
 have n5_ : Aside0 ((w132.setCell ⟨gb453, 0, none⟩ (.slice Ao133 t449.length co133)).heap[gb419]? = some (.cells #[.int .i64 0, .string (⟨#[]⟩ : ByteArray), .int .i64 0, .bool false, .slice none 0 0] 129 (0, 0))) := ⟨tb_⟩
 have n6_ : Aside0 ((w132.setCell ⟨gb453, 0, none⟩ (.slice Ao133 t449.length co133)).heap[gb453]? = some (.cells #[.slice Ao133 t449.length co133] 42 (0, 0))) := ⟨tb_⟩
 have n7_ : Aside0 (Below w.heap.size w (w132.setCell ⟨gb453, 0, none⟩ (.slice Ao133 t449.length co133))) := ⟨th_⟩
 (try clear HO451)
 (try clear BK415)
 (try clear BK416)
 (try clear BK417)
 (try clear BK418)
 (try clear BK419)
 (try clear BK453)
 (try clear HB)
 generalize (w132.setCell ⟨gb453, 0, none⟩ (.slice Ao133 t449.length co133)) = w136 at n0_ n1_ n2_ n3_ n4_ n5_ n6_ n7_ ⊢
 have HO451 := n0_
 have BK415 := n1_
 have BK416 := n2_
 have BK417 := n3_
 have BK418 := n4_
 have BK419 := n5_
 have BK453 := n6_
 have HB := n7_
 clear n0_ n1_ n2_ n3_ n4_ n5_ n6_ n7_
 have z_ := p_ (Kd.R_drew HO451.out) <| dw6_ BK415 BK416 BK417 BK418 BK419 BK453 HB
 clear HO451 BK415 BK416 BK417 BK418 BK419 BK453 HB
 obtain ⟨HO451, BK415, BK416, BK417, BK418, BK419, BK453, HB⟩ := z_
 refine start_ (n := 7) (S := fun w' => w'.cell? ⟨gb453, 0, none⟩ = some (.slice Ao133 t449.length co133) ∧ w'.cell? ⟨gb417, 0, none⟩ = some (.int .i64 a3_0) ∧ w'.cell? ⟨gb417, 1, none⟩ = some (.string a3_1) ∧ w'.cell? ⟨gb417, 2, none⟩ = some (.string a3_2) ∧ w'.cell? ⟨gb417, 3, none⟩ = some (.int .i64 a3_3) ∧ w'.cell? ⟨gb417, 4, none⟩ = some (.int .i64 a3_4) ∧ w'.cell? ⟨gb417, 5, none⟩ = some (.string a3_5)) (ds := []) #[false, false, false, false, false, false, false] (by kernel_rfl) rfl rfl ⟨(blk_cell BK453.out 0).trans rfl, bk6_ BK417.out⟩ (fun hHeld => ?_)
 generalize w136.drew = w137 at HO451 BK415 BK416 BK417 BK418 BK419 BK453 HB hHeld ⊢
 refine yq_ (i := 1) (N := some 98) #[false, true, false, false, false, false, false] (by kernel_rfl) ?_
 refine take_ (i := 0) (N := some 97) (v := ?_) (a' := ?_) #[true, true, false, false, false, false, false] rfl rfl (by kernel_rfl) (fun _ _ _ h => h) (Or.inl ⟨(by rfl), ?_⟩) hHeld ?_ ?_
 rotate_left
 ·rintro w' ⟨s0, s1, s2, s3, s4, s5, s6⟩
  go_simp
  with_reducible rfl
 rotate_left
 ·simp only [Act.put, List.setIfInBounds_toArray, List.set_cons_zero, List.set_cons_succ, i64_w, i32_w]
  rfl
 refine take_ (i := 2) (N := some 99) (v := ?_) (a' := ?_) #[true, true, true, false, false, false, false] rfl rfl (by kernel_rfl) (fun _ _ _ h => h) (Or.inl ⟨(by rfl), ?_⟩) hHeld ?_ ?_
 rotate_left
 ·rintro w' ⟨s0, s1, s2, s3, s4, s5, s6⟩
  go_simp
  with_reducible rfl
 rotate_left
 ·simp only [Act.put, List.setIfInBounds_toArray, List.set_cons_zero, List.set_cons_succ, i64_w, i32_w]
  rfl
 refine yq_ (i := 3) (N := some 100) #[true, true, true, true, false, false, false] (by kernel_rfl) ?_
 refine yq_ (i := 4) (N := some 101) #[true, true, true, true, true, false, false] (by kernel_rfl) ?_
 refine one_ (i := 5) (N := none) #[true, true, true, true, true, true, false] rfl rfl (by kernel_rfl) (by decide) (fun K hK => ?_)
 have hs138 : w137.cell? ⟨gb418, 0, none⟩ = some (.slice none 0 0) := (blk_cell BK418.out 0).trans rfl
 have hfs138 := blk_frozen BK418.out 0
 obtain ⟨n415_418, n416_418, n417_418, n419_418, n453_418, n418_415, n418_416, n418_417⟩ := an8_ NB415_418 NB416_418 NB417_418 NB419_418 NB453_418 NB418_415 NB418_416 NB418_417
 obtain ⟨n418_419, n418_453⟩ := an2_ NB418_419 NB418_453
 refine skip_ (w1 := ?_) (by rfl) rfl ?_ ?_
 rotate_left
 ·go_simp
  rfl
 refine hK.out _ _ ⟨(cf_ NB453_418 hHeld.1), (cf_ NB417_418 hHeld.2.1), (cf_ NB417_418 hHeld.2.2.1), (cf_ NB417_418 hHeld.2.2.2.1), (cf_ NB417_418 hHeld.2.2.2.2.1), (cf_ NB417_418 hHeld.2.2.2.2.2.1), (cf_ NB417_418 hHeld.2.2.2.2.2.2)⟩ (fun hHeld => ?_)
 clear hK K
 refine one_ (i := 6) (N := none) #[true, true, true, true, true, true, true] rfl rfl (by kernel_rfl) (by decide) (fun K hK => ?_)
 have hs139 : w137.cell? ⟨gb419, 0, none⟩ = some (.int .i64 0) := (blk_cell BK419.out 0).trans rfl
 have hfs139 := blk_frozen BK419.out 0
 obtain ⟨n415_419, n416_419, n417_419, n453_419, n419_415, n419_416, n419_417, n419_453⟩ := an8_ NB415_419 NB416_419 NB417_419 NB453_419 NB419_415 NB419_416 NB419_417 NB419_453
 have hs140 : w137.cell? ⟨gb419, 1, none⟩ = some (.string (⟨#[]⟩ : ByteArray)) := (blk_cell BK419.out 1).trans rfl
 have hfs140 := blk_frozen BK419.out 1
 have hs141 : w137.cell? ⟨gb419, 2, none⟩ = some (.int .i64 0) := (blk_cell BK419.out 2).trans rfl
 have hfs141 := blk_frozen BK419.out 2
 have hs142 : w137.cell? ⟨gb419, 3, none⟩ = some (.bool false) := (blk_cell BK419.out 3).trans rfl
 have hfs142 := blk_frozen BK419.out 3
 have hs143 : w137.cell? ⟨gb419, 4, none⟩ = some (.slice none 0 0) := (blk_cell BK419.out 4).trans rfl
 have hfs143 := blk_frozen BK419.out 4
 refine skip_ (w1 := ?_) (by rfl) rfl ?_ ?_
 rotate_left
 ·go_simp
  rfl
 refine hK.out _ _ ⟨(cf_ NB453_419 (cf_ NB453_419 (cf_ NB453_419 (cf_ NB453_419 (cf_ NB453_419 hHeld.1))))), (cf_ NB417_419 (cf_ NB417_419 (cf_ NB417_419 (cf_ NB417_419 (cf_ NB417_419 hHeld.2.1))))), (cf_ NB417_419 (cf_ NB417_419 (cf_ NB417_419 (cf_ NB417_419 (cf_ NB417_419 hHeld.2.2.1))))), (cf_ NB417_419 (cf_ NB417_419 (cf_ NB417_419 (cf_ NB417_419 (cf_ NB417_419 hHeld.2.2.2.1))))), (cf_ NB417_419 (cf_ NB417_419 (cf_ NB417_419 (cf_ NB417_419 (cf_ NB417_419 hHeld.2.2.2.2.1))))), (cf_ NB417_419 (cf_ NB417_419 (cf_ NB417_419 (cf_ NB417_419 (cf_ NB417_419 hHeld.2.2.2.2.2.1))))), (cf_ NB417_419 (cf_ NB417_419 (cf_ NB417_419 (cf_ NB417_419 (cf_ NB417_419 hHeld.2.2.2.2.2.2)))))⟩ (fun hHeld => ?_)
 clear hK K
 refine done_ (by kernel_rfl) ?_
 try go_wp2
 refine bodyPost_ret (results_cc rfl _ _ gb418 gb419 42 129 #[.slice Ao133 t449.length co133] #[.int .i64 0, .string (⟨#[]⟩ : ByteArray), .int .i64 (a3_5.size : Int), .bool false, .slice none 0 0] (0, 0) (0, 0) _ _ rfl tb_ Try.underlying42 rfl (by kernel_rfl) rfl tb_ Try.underlying129 rfl (by kernel_rfl)) rfl ?_
 exact ⟨_, _, tq_1, tq_88, tq_22, th_⟩

end Go.Proofs.Ytljnnmpfeningaa.PFnViews
