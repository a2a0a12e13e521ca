/- Contracts of Go functions, written by a program of ours over the print of the kit: each says that the call returns what the Lean function beside it computes. Conditions: as each theorem states them. -/
import Derived.Test.YtjfhddenmnjgbaaDoorPkFnAnyInode
import Derived.Test.YtjfhddenmnjgbaaDoorPFnAnyInodex0
import Derived.Test.YtjfhddenmnjgbaaDoorPFnAnyInodex3
import Derived.Test.YtjfhddenmnjgbaaDoorPFnAnyInodex4
import Derived.Test.YtjfhddenmnjgbaaDoorPFnAnyInodex5
namespace Go.Proofs.YtjfhddenmnjgbaaDoor.PFnAnyInode
open Go.RowKit Go.Proofs.YtjfhddenmnjgbaaDoorW.PrintWords Go.Proofs.YtjfhddenmnjgbaaDoorW.PrintLast Go.Proofs.YtjfhddenmnjgbaaDoorW.PrintMore
attribute [local go_sem] max2_int min2_int max_two min_two max_three min_three max_four min_four setCell_drewN   -- for this text's walks alone
set_option linter.unusedVariables false
set_option linter.unusedSimpArgs false

/-! ### spec_InodeOk: function 18 -/
mutual
def spec_InodeOk.j0 : Nat → Bool → Int → Int → Int → ByteArray → List (S42) → List (S47) → Option (Bool)
 | 0, _, _, _, _, _, _, _ => none
 | k + 1, x60, x145000, x145001, x145002, x145003, x145004, x145005 => if x60 = true then (some false) else (spec_InodeOk.l0 k 0 x145000 x145001 x145002 x145003 x145004 x145005)
def spec_InodeOk.l0 : Nat → Int → Int → Int → Int → ByteArray → List (S42) → List (S47) → Option (Bool)
 | 0, _, _, _, _, _, _, _ => none
 | k + 1, x3, x145000, x145001, x145002, x145003, x145004, x145005 => if x3 < (x145004.length : Int) then (if 0 ≤ x3 then ((spec_RecWord.f k ((rd_T42 x145004 x3).f0) ((rd_T42 x145004 x3).f1) ((rd_T42 x145004 x3).f2)).bind fun t149 => (if t149.toList = ([] : List UInt8) then (some false) else (spec_InodeOk.l1 k x3 0 x145000 x145001 x145002 x145003 x145004 x145005))) else (none)) else (some true)
def spec_InodeOk.l1 : Nat → Int → Int → Int → Int → Int → ByteArray → List (S42) → List (S47) → Option (Bool)
 | 0, _, _, _, _, _, _, _, _ => none
 | k + 1, x3, x4, x145000, x145001, x145002, x145003, x145004, x145005 => if x4 < x3 then (if 0 ≤ x4 then (if x4 < (x145004.length : Int) then (if 0 ≤ x3 then (if x3 < (x145004.length : Int) then (if ((rd_T42 x145004 x4).f0) = ((rd_T42 x145004 x3).f0) then (some false) else (spec_InodeOk.l1 k x3 (wrap64 (x4 + 1)) x145000 x145001 x145002 x145003 x145004 x145005)) else (none)) else (none)) else (none)) else (none)) else (spec_InodeOk.l0 k (wrap64 (x3 + 1)) x145000 x145001 x145002 x145003 x145004 x145005)
def spec_InodeOk.j3 : Nat → Bool → Int → Int → Int → ByteArray → List (S42) → List (S47) → Option (Bool)
 | 0, _, _, _, _, _, _, _ => none
 | k + 1, x114, x145000, x145001, x145002, x145003, x145004, x145005 => if x114 = true then (some false) else (spec_InodeOk.l2 k 0 x145000 x145001 x145002 x145003 x145004 x145005)
def spec_InodeOk.l2 : Nat → Int → Int → Int → Int → ByteArray → List (S42) → List (S47) → Option (Bool)
 | 0, _, _, _, _, _, _, _ => none
 | k + 1, x5, x145000, x145001, x145002, x145003, x145004, x145005 => if x5 < (x145005.length : Int) then (if 0 ≤ x5 then ((spec_EntryWord.f k ((rd_T47 x145005 x5).f0) ((rd_T47 x145005 x5).f1)).bind fun t153 => (if t153.toList = ([] : List UInt8) then (some false) else (if x5 > 0 then (if 0 ≤ (wrap64 (x5 - 1)) then (if (wrap64 (x5 - 1)) < (x145005.length : Int) then (if ((Op.bytesLess (((rd_T47 x145005 (wrap64 (x5 - 1))).f1).toList) (((rd_T47 x145005 x5).f1).toList)) = true) then (spec_InodeOk.l2 k (wrap64 (x5 + 1)) x145000 x145001 x145002 x145003 x145004 x145005) else (some false)) else (none)) else (none)) else (spec_InodeOk.l2 k (wrap64 (x5 + 1)) x145000 x145001 x145002 x145003 x145004 x145005)))) else (none)) else (some true)
end
def spec_InodeOk.f (k : Nat) (a0_0 : Int) (a0_1 : Int) (a0_2 : Int) (a0_3 : ByteArray) (l0_4 : List (S42)) (l0_5 : List (S47)) : Option (Bool) := (spec_l01In.f a0_2 0 65535).bind fun t145 => (if t145 = true then (if a0_0 = 0 then (if a0_1 = 0 then (if a0_3.toList = ([] : List UInt8) then (if (l0_4.length : Int) = 0 then (some ((l0_5.length : Int) == 0)) else (some false)) else (some false)) else (some false)) else (if a0_0 = 1 then ((spec_l01In.f a0_1 0 128).bind fun t146 => (if t146 = true then (if (a0_3.size : Int) = 8 then ((spec_PagesFor.f a0_1).bind fun t147 => (if (l0_4.length : Int) = t147 then (spec_InodeOk.j0 k (decide ((l0_5.length : Int) > 0)) a0_0 a0_1 a0_2 a0_3 l0_4 l0_5) else (spec_InodeOk.j0 k true a0_0 a0_1 a0_2 a0_3 l0_4 l0_5))) else (spec_InodeOk.j0 k true a0_0 a0_1 a0_2 a0_3 l0_4 l0_5)) else (spec_InodeOk.j0 k true a0_0 a0_1 a0_2 a0_3 l0_4 l0_5))) else (if a0_0 = 2 then (if a0_1 = 0 then (if a0_3.toList = ([] : List UInt8) then (if (l0_4.length : Int) > 0 then (spec_InodeOk.j3 k true a0_0 a0_1 a0_2 a0_3 l0_4 l0_5) else (spec_InodeOk.j3 k (decide ((l0_5.length : Int) > 6)) a0_0 a0_1 a0_2 a0_3 l0_4 l0_5)) else (spec_InodeOk.j3 k true a0_0 a0_1 a0_2 a0_3 l0_4 l0_5)) else (spec_InodeOk.j3 k true a0_0 a0_1 a0_2 a0_3 l0_4 l0_5)) else (some false)))) else (some false))
theorem spec_InodeOk.mono_l : ∀ k, (∀ y0 y1 y2 y3 y4 y5 y6, LeO (spec_InodeOk.j0 k y0 y1 y2 y3 y4 y5 y6) (spec_InodeOk.j0 (k + 1) y0 y1 y2 y3 y4 y5 y6)) ∧ (∀ y0 y1 y2 y3 y4 y5 y6, LeO (spec_InodeOk.l0 k y0 y1 y2 y3 y4 y5 y6) (spec_InodeOk.l0 (k + 1) y0 y1 y2 y3 y4 y5 y6)) ∧ (∀ y0 y1 y2 y3 y4 y5 y6 y7, LeO (spec_InodeOk.l1 k y0 y1 y2 y3 y4 y5 y6 y7) (spec_InodeOk.l1 (k + 1) y0 y1 y2 y3 y4 y5 y6 y7)) ∧ (∀ y0 y1 y2 y3 y4 y5 y6, LeO (spec_InodeOk.j3 k y0 y1 y2 y3 y4 y5 y6) (spec_InodeOk.j3 (k + 1) y0 y1 y2 y3 y4 y5 y6)) ∧ (∀ y0 y1 y2 y3 y4 y5 y6, LeO (spec_InodeOk.l2 k y0 y1 y2 y3 y4 y5 y6) (spec_InodeOk.l2 (k + 1) y0 y1 y2 y3 y4 y5 y6))
 | 0 => ⟨fun _ _ _ _ _ _ _ r h => by simp [spec_InodeOk.j0] at h, fun _ _ _ _ _ _ _ r h => by simp [spec_InodeOk.l0] at h, fun _ _ _ _ _ _ _ _ r h => by simp [spec_InodeOk.l1] at h, fun _ _ _ _ _ _ _ r h => by simp [spec_InodeOk.j3] at h, fun _ _ _ _ _ _ _ r h => by simp [spec_InodeOk.l2] at h⟩
 | k + 1 => by
  obtain ⟨ih0, ih1, ih2, ih3, ih4⟩ := spec_InodeOk.mono_l k
  refine ⟨?_, ?_, ?_, ?_, ?_⟩
  ·intro y0 y1 y2 y3 y4 y5 y6
   unfold spec_InodeOk.j0
   exact mo_2
  ·intro y0 y1 y2 y3 y4 y5 y6
   unfold spec_InodeOk.l0
   exact mo_2
  ·intro y0 y1 y2 y3 y4 y5 y6 y7
   unfold spec_InodeOk.l1
   exact mo_2
  ·intro y0 y1 y2 y3 y4 y5 y6
   unfold spec_InodeOk.j3
   exact mo_2
  ·intro y0 y1 y2 y3 y4 y5 y6
   unfold spec_InodeOk.l2
   exact mo_2
theorem spec_InodeOk.mono : ∀ a0 a1 a2 a3 a4 a5 k, LeO (spec_InodeOk.f k a0 a1 a2 a3 a4 a5) (spec_InodeOk.f (k + 1) a0 a1 a2 a3 a4 a5) := by
 intro a0 a1 a2 a3 a4 a5 k
 obtain ⟨ih0, ih1, ih2, ih3, ih4⟩ := spec_InodeOk.mono_l k
 unfold spec_InodeOk.f
 repeat' first
   | (with_reducible exact ih0 ..)
   | (with_reducible exact ih1 ..)
   | (with_reducible exact ih2 ..)
   | (with_reducible exact ih3 ..)
   | (with_reducible exact ih4 ..)
   | (with_reducible exact spec_EntryWord.mono ..)
   | (with_reducible exact spec_RecWord.mono ..)
   | (with_reducible exact LeO.refl _)
   | (with_reducible exact LeO.none _)
   | (with_reducible refine LeO.ite ?_ ?_)
   | (with_reducible refine LeO.bind ?_ (fun _ => ?_))
   | exact ih0 ..
   | exact ih1 ..
   | exact ih2 ..
   | exact ih3 ..
   | exact ih4 ..
   | exact spec_EntryWord.mono ..
   | exact spec_RecWord.mono ..
   | exact LeO.none _
   | refine LeO.ite ?_ ?_
   | refine LeO.bind ?_ (fun _ => ?_)
def spec_InodeOk.T7 : Bool × List (List Nat × List Nat) := (true, [([], []), ([0], [0]), ([1], [1]), ([2], [2]), ([3, 2], [3]), ([4], [4]), ([5, 4], [4, 5]), ([6, 4], [4, 6]), ([7, 4], [4, 7]), ([4, 8], [4, 8]), ([9, 4], [9]), ([10], [10]), ([11, 10], [10, 11]), ([12, 10], [10, 12]), ([10], [10]), ([14, 10], [10, 14]), ([15, 10, 10], [10, 15]), ([13, 16, 10], [10, 13, 16]), ([10, 17], [10, 17]), ([18, 16], [18]), ([19], [19]), ([20, 19], [19, 20]), ([21, 19], [19, 21]), ([22, 19], [19, 22]), ([19, 23], [19, 23])])
def spec_InodeOk.B7 : List Nat := [0, 1, 3, 7, 15, 31, 63, 127, 255, 511, 1023, 2047, 4095, 8191, 2047, 18431, 51199, 131071, 262143, 524287, 1048575, 2097151, 4194303, 8388607, 16777215]
theorem spec_InodeOk.tab7 : rtab .any (opsOf Tryd.f18 7) = spec_InodeOk.T7 := by kernel_rfl
theorem spec_InodeOk.bits7 : waitsOk spec_InodeOk.T7.2 spec_InodeOk.B7 = true := by kernel_rfl
def spec_InodeOk.T17 : Bool × List (List Nat × List Nat) := (true, [([], []), ([0], [0]), ([], []), ([1, 2], [1, 2]), ([3], [3]), ([4], [4]), ([], []), ([6], [6]), ([], []), ([7, 8], [7, 8]), ([9], [9]), ([10], [10]), ([5, 11], [5, 11])])
def spec_InodeOk.B17 : List Nat := [0, 1, 0, 7, 15, 31, 0, 64, 0, 448, 960, 1984, 4095]
theorem spec_InodeOk.tab17 : rtab .any (opsOf Tryd.f18 17) = spec_InodeOk.T17 := by kernel_rfl
theorem spec_InodeOk.bits17 : waitsOk spec_InodeOk.T17.2 spec_InodeOk.B17 = true := by kernel_rfl
def spec_InodeOk.T26 : Bool × List (List Nat × List Nat) := (true, [([], []), ([0], [0]), ([], []), ([1, 2], [1, 2]), ([3], [3]), ([4], [4]), ([5], [5]), ([6, 5], [6]), ([7], [7]), ([8, 7], [7, 8]), ([9, 7, 7], [7, 9]), ([10], [10]), ([11, 10], [10, 11]), ([10], [10]), ([13, 10], [10, 13]), ([12, 14, 10], [10, 12, 14]), ([15, 10], [10, 15]), ([16, 10], [10, 16]), ([10], [10]), ([18, 10], [10, 18]), ([10], [10]), ([19, 20, 10], [10, 19, 20]), ([21, 10], [10, 21]), ([22, 10], [10, 22]), ([17, 23, 10], [10, 17, 23]), ([10, 24, 7], [7, 10, 24]), ([7, 25], [7, 25])])
def spec_InodeOk.B26 : List Nat := [0, 1, 0, 7, 15, 31, 63, 127, 255, 511, 1023, 2047, 4095, 2047, 10239, 32767, 65535, 131071, 2047, 264191, 2047, 1837055, 3934207, 8128511, 16777215, 33554431, 67108863]
theorem spec_InodeOk.tab26 : rtab .any (opsOf Tryd.f18 26) = spec_InodeOk.T26 := by kernel_rfl
theorem spec_InodeOk.bits26 : waitsOk spec_InodeOk.T26.2 spec_InodeOk.B26 = true := by kernel_rfl
set_option maxHeartbeats 8000000 in
set_option maxRecDepth 100000 in
theorem spec_InodeOk.calls (k : Nat) (a0_0 : Int) (a0_1 : Int) (a0_2 : Int) (a0_3 : ByteArray) (A0_4 : Option Addr) (c0_4 : Nat) (l0_4 : List (S42)) (A0_5 : Option Addr) (c0_5 : Nat) (l0_5 : List (S47)) (r : Bool) (w : World) (hr0_4 : Kd.C k42 w A0_4 l0_4.length l0_4) (hc0_4 : l0_4.length ≤ c0_4) (hr0_5 : Kd.C k47 w A0_5 l0_5.length l0_5) (hc0_5 : l0_5.length ≤ c0_5) (h : spec_InodeOk.f k a0_0 a0_1 a0_2 a0_3 l0_4 l0_5 = some r) :
  Calls Tryd.prog 18 #[.agg #[.int .i64 a0_0, .int .i64 a0_1, .int .i64 a0_2, .string a0_3, .slice A0_4 l0_4.length c0_4, .slice A0_5 l0_5.length c0_5]] w fun e w' => e = .returned (.bool r) ∧ Below w.heap.size w w' := by
 have hu27 := Tryd.underlying27
 have hu42 := Tryd.underlying42
 have hu47 := Tryd.underlying47
 have HR0_4 := Aside0.mk hr0_4
 have HC0_4 := Aside0.mk hc0_4
 clear hr0_4 hc0_4
 have HR0_5 := Aside0.mk hr0_5
 have HC0_5 := Aside0.mk hc0_5
 clear hr0_5 hc0_5
 have HB := Aside0.mk (Below.refl w.heap.size w)
 unfold spec_InodeOk.f at h
 have H := h
 clear h
 obtain ⟨t145, A2, H⟩ := bd_ H
 by_cases c3 : t145 = true
 rotate_left
 ·replace c3 := Bool.eq_false_iff.mpr c3
  subst c3
  rw [if_neg nf_] at H
  obtain rfl := Option.some.inj H
  go_enter Tryd.func18, Tryd.ntmps18
  go_wp2_with (first | ((with_reducible refine gate_dst (N := 1) rfl ?_); (try (refine gate_guard (by rfl) ?_; dsimp only)); refine be_ 1 (cs := #[.int .i64 a0_0, .int .i64 a0_1, .int .i64 a0_2, .string a0_3, .slice A0_4 l0_4.length c0_4, .slice A0_5 l0_5.length c0_5]) 27 ?_; intro gb144 hg w83 hbox hb; have z_ := bx0_ th_ hb hbox hg; clear HB; obtain ⟨HB, BK144, GW144, GE144⟩ := z_; clear hb hbox hg; obtain ⟨hcz84_0, hcz84_1, hcz84_2, hcz84_3, hcz84_4, hcz84_5⟩ := bk6_ BK144.out; obtain ⟨hfz84_0, hfz84_1, hfz84_2, hfz84_3, hfz84_4, hfz84_5⟩ := bf6_ BK144.out) | ((with_reducible refine gate_callee (f := 50) rfl ?_); refine goesL_ (some 8) rfl rfl Tryd.func50 (by kernel_rfl) rfl #[.int .i64 a0_2, .int .i64 0, .int .i64 65535] rfl tq_0 ?_; (with_reducible refine (spec_l01In.calls a0_2 0 65535 false _ A2.out).mono ?_); rintro e w' ⟨rfl, ⟨nd, rfl⟩⟩; refine ⟨_, rfl, ?_⟩))
  go_ret
  exact ⟨tq_2, th_⟩
 subst c3
 rw [if_pos rfl] at H
 by_cases c4 : a0_0 = 0
 ·rw [if_pos c4] at H
  have c4b0 := beq_iff_eq.mpr c4
  have c4b1 := bne_eq_false_iff_eq.mpr c4
  clear c4
  by_cases c5 : a0_1 = 0
  rotate_left
  ·rw [if_neg c5] at H
   have c5b0 := beq_eq_false_iff_ne.mpr c5
   have c5b1 := bne_iff_ne.mpr c5
   obtain rfl := Option.some.inj H
   go_enter Tryd.func18, Tryd.ntmps18
   go_wp2_with (first | ((with_reducible refine gate_dst (N := 1) rfl ?_); (try (refine gate_guard (by rfl) ?_; dsimp only)); refine be_ 1 (cs := #[.int .i64 a0_0, .int .i64 a0_1, .int .i64 a0_2, .string a0_3, .slice A0_4 l0_4.length c0_4, .slice A0_5 l0_5.length c0_5]) 27 ?_; intro gb144 hg w14 hbox hb; have z_ := bx0_ th_ hb hbox hg; clear HB; obtain ⟨HB, BK144, GW144, GE144⟩ := z_; clear hb hbox hg; obtain ⟨hcz15_0, hcz15_1, hcz15_2, hcz15_3, hcz15_4, hcz15_5⟩ := bk6_ BK144.out; obtain ⟨hfz15_0, hfz15_1, hfz15_2, hfz15_3, hfz15_4, hfz15_5⟩ := bf6_ BK144.out) | ((with_reducible refine gate_callee (f := 50) rfl ?_); refine goesL_ (some 8) rfl rfl Tryd.func50 (by kernel_rfl) rfl #[.int .i64 a0_2, .int .i64 0, .int .i64 65535] rfl tq_0 ?_; (with_reducible refine (spec_l01In.calls a0_2 0 65535 true _ A2.out).mono ?_); rintro e w' ⟨rfl, ⟨nd, rfl⟩⟩; refine ⟨_, rfl, ?_⟩))
   go_ret
   exact ⟨tq_2, th_⟩
  rw [if_pos c5] at H
  have c5b0 := beq_iff_eq.mpr c5
  have c5b1 := bne_eq_false_iff_eq.mpr c5
  clear c5
  by_cases c6 : a0_3.toList = ([] : List UInt8)
  rotate_left
  ·rw [if_neg c6] at H
   have c6b0 := beq_eq_false_iff_ne.mpr c6
   have c6b1 := bne_iff_ne.mpr c6
   obtain rfl := Option.some.inj H
   go_enter Tryd.func18, Tryd.ntmps18
   go_wp2_with (first | ((with_reducible refine gate_dst (N := 1) rfl ?_); (try (refine gate_guard (by rfl) ?_; dsimp only)); refine be_ 1 (cs := #[.int .i64 a0_0, .int .i64 a0_1, .int .i64 a0_2, .string a0_3, .slice A0_4 l0_4.length c0_4, .slice A0_5 l0_5.length c0_5]) 27 ?_; intro gb144 hg w12 hbox hb; have z_ := bx0_ th_ hb hbox hg; clear HB; obtain ⟨HB, BK144, GW144, GE144⟩ := z_; clear hb hbox hg; obtain ⟨hcz13_0, hcz13_1, hcz13_2, hcz13_3, hcz13_4, hcz13_5⟩ := bk6_ BK144.out; obtain ⟨hfz13_0, hfz13_1, hfz13_2, hfz13_3, hfz13_4, hfz13_5⟩ := bf6_ BK144.out) | ((with_reducible refine gate_callee (f := 50) rfl ?_); refine goesL_ (some 8) rfl rfl Tryd.func50 (by kernel_rfl) rfl #[.int .i64 a0_2, .int .i64 0, .int .i64 65535] rfl tq_0 ?_; (with_reducible refine (spec_l01In.calls a0_2 0 65535 true _ A2.out).mono ?_); rintro e w' ⟨rfl, ⟨nd, rfl⟩⟩; refine ⟨_, rfl, ?_⟩))
   go_ret
   exact ⟨tq_2, th_⟩
  rw [if_pos c6] at H
  have c6b0 := beq_iff_eq.mpr c6
  have c6b1 := bne_eq_false_iff_eq.mpr c6
  clear c6
  by_cases c7 : (l0_4.length : Int) = 0
  ·rw [if_pos c7] at H
   have c7b0 := beq_iff_eq.mpr c7
   have c7b1 := bne_eq_false_iff_eq.mpr c7
   clear c7
   obtain rfl := Option.some.inj H
   go_enter Tryd.func18, Tryd.ntmps18
   go_wp2_with (first | ((with_reducible refine gate_dst (N := 1) rfl ?_); (try (refine gate_guard (by rfl) ?_; dsimp only)); refine be_ 1 (cs := #[.int .i64 a0_0, .int .i64 a0_1, .int .i64 a0_2, .string a0_3, .slice A0_4 l0_4.length c0_4, .slice A0_5 l0_5.length c0_5]) 27 ?_; intro gb144 hg w8 hbox hb; have z_ := bx0_ th_ hb hbox hg; clear HB; obtain ⟨HB, BK144, GW144, GE144⟩ := z_; clear hb hbox hg; obtain ⟨hcz9_0, hcz9_1, hcz9_2, hcz9_3, hcz9_4, hcz9_5⟩ := bk6_ BK144.out; obtain ⟨hfz9_0, hfz9_1, hfz9_2, hfz9_3, hfz9_4, hfz9_5⟩ := bf6_ BK144.out) | ((with_reducible refine gate_callee (f := 50) rfl ?_); refine goesL_ (some 8) rfl rfl Tryd.func50 (by kernel_rfl) rfl #[.int .i64 a0_2, .int .i64 0, .int .i64 65535] rfl tq_0 ?_; (with_reducible refine (spec_l01In.calls a0_2 0 65535 true _ A2.out).mono ?_); rintro e w' ⟨rfl, ⟨nd, rfl⟩⟩; refine ⟨_, rfl, ?_⟩))
   go_ret
   exact ⟨tq_2, th_⟩
  rw [if_neg c7] at H
  have c7b0 := beq_eq_false_iff_ne.mpr c7
  have c7b1 := bne_iff_ne.mpr c7
  have c7b2 : ¬ (l0_4 = []) := fun h_ => c7 (by rw [h_]; rfl)
  obtain rfl := Option.some.inj H
  go_enter Tryd.func18, Tryd.ntmps18
  go_wp2_with (first | ((with_reducible refine gate_dst (N := 1) rfl ?_); (try (refine gate_guard (by rfl) ?_; dsimp only)); refine be_ 1 (cs := #[.int .i64 a0_0, .int .i64 a0_1, .int .i64 a0_2, .string a0_3, .slice A0_4 l0_4.length c0_4, .slice A0_5 l0_5.length c0_5]) 27 ?_; intro gb144 hg w10 hbox hb; have z_ := bx0_ th_ hb hbox hg; clear HB; obtain ⟨HB, BK144, GW144, GE144⟩ := z_; clear hb hbox hg; obtain ⟨hcz11_0, hcz11_1, hcz11_2, hcz11_3, hcz11_4, hcz11_5⟩ := bk6_ BK144.out; obtain ⟨hfz11_0, hfz11_1, hfz11_2, hfz11_3, hfz11_4, hfz11_5⟩ := bf6_ BK144.out) | ((with_reducible refine gate_callee (f := 50) rfl ?_); refine goesL_ (some 8) rfl rfl Tryd.func50 (by kernel_rfl) rfl #[.int .i64 a0_2, .int .i64 0, .int .i64 65535] rfl tq_0 ?_; (with_reducible refine (spec_l01In.calls a0_2 0 65535 true _ A2.out).mono ?_); rintro e w' ⟨rfl, ⟨nd, rfl⟩⟩; refine ⟨_, rfl, ?_⟩))
  go_ret
  exact ⟨tq_2, th_⟩
 rw [if_neg c4] at H
 have c4b0 := beq_eq_false_iff_ne.mpr c4
 have c4b1 := bne_iff_ne.mpr c4
 by_cases c16 : a0_0 = 1
 ·rw [if_pos c16] at H
  have c16b0 := beq_iff_eq.mpr c16
  have c16b1 := bne_eq_false_iff_eq.mpr c16
  clear c16
  have HC17 := Aside0.mk H
  clear H
  go_enter Tryd.func18, Tryd.ntmps18
  go_upto_region 7 with (first | ((with_reducible refine gate_dst (N := 1) rfl ?_); (try (refine gate_guard (by rfl) ?_; dsimp only)); refine be_ 1 (cs := #[.int .i64 a0_0, .int .i64 a0_1, .int .i64 a0_2, .string a0_3, .slice A0_4 l0_4.length c0_4, .slice A0_5 l0_5.length c0_5]) 27 ?_; intro gb144 hg w18 hbox hb; have z_ := bx0_ th_ hb hbox hg; clear HB; obtain ⟨HB, BK144, GW144, GE144⟩ := z_; clear hb hbox hg; obtain ⟨hcz19_0, hcz19_1, hcz19_2, hcz19_3, hcz19_4, hcz19_5⟩ := bk6_ BK144.out; obtain ⟨hfz19_0, hfz19_1, hfz19_2, hfz19_3, hfz19_4, hfz19_5⟩ := bf6_ BK144.out) | ((with_reducible refine gate_callee (f := 50) rfl ?_); refine goesL_ (some 8) rfl rfl Tryd.func50 (by kernel_rfl) rfl #[.int .i64 a0_2, .int .i64 0, .int .i64 65535] rfl tq_0 ?_; (with_reducible refine (spec_l01In.calls a0_2 0 65535 true _ A2.out).mono ?_); rintro e w' ⟨rfl, ⟨nd_1, rfl⟩⟩; refine ⟨_, rfl, ?_⟩))
  (try simp only [Act.put, List.setIfInBounds_toArray, List.set_cons_zero, List.set_cons_succ])
  go_cut [60] (fun v60 wc => ∃ (kq : Nat) (x60_16 : Bool), v60 = .bool x60_16 ∧ Aside0 (spec_InodeOk.j0 kq x60_16 a0_0 a0_1 a0_2 a0_3 l0_4 l0_5 = some r) ∧ Aside0 (kq ≤ k) ∧ Aside0 (wc.heap[gb144]? = some (.cells #[.int .i64 a0_0, .int .i64 a0_1, .int .i64 a0_2, .string a0_3, (.slice A0_4 l0_4.length c0_4), (.slice A0_5 l0_5.length c0_5)] 27 (0, 0))) ∧ Aside0 (Below w.heap.size w wc))
  case first =>
   have H := HC17.out
   clear HC17
   obtain ⟨t146, A20, H⟩ := bd_ H
   by_cases c21 : t146 = true
   rotate_left
   ·replace c21 := Bool.eq_false_iff.mpr c21
    subst c21
    rw [if_neg nf_] at H
    have H' := Aside0.mk H
    clear H
    try go_wp2
    have z_ := p_ (blk_drew (blk_drewN BK144.out nd_1)) <| a_ (below_drew1 (pw_below_drewN HB.out nd_1))
    clear BK144 HB
    obtain ⟨BK144, HB⟩ := z_
    refine start_ (n := 25) (S := fun w' => w'.cell? ⟨gb144, 0, none⟩ = some (.int .i64 a0_0) ∧ w'.cell? ⟨gb144, 1, none⟩ = some (.int .i64 a0_1) ∧ w'.cell? ⟨gb144, 2, none⟩ = some (.int .i64 a0_2) ∧ w'.cell? ⟨gb144, 3, none⟩ = some (.string a0_3) ∧ w'.cell? ⟨gb144, 4, none⟩ = some (.slice A0_4 l0_4.length c0_4) ∧ w'.cell? ⟨gb144, 5, none⟩ = some (.slice A0_5 l0_5.length c0_5)) (ds := []) bq_10 (by kernel_rfl) rfl rfl (bk6_ BK144.out) (fun hHeld => ?_); refine with_tabW spec_InodeOk.tab7 spec_InodeOk.bits7 (fun HT_ HW_ => ?_)
    generalize (w18.drewN nd_1).drew = w28 at BK144 HB hHeld ⊢
    refine yr_ 0 36 bq_11 HT_ ?_
    refine tr_ 1 37 bq_12 HT_ HW_ hHeld ?_
    refine one_ (i := 2) (N := some 38) bq_13 rfl rfl (one_of HT_.out (by kernel_rfl)) (by decide) (fun K hK => ?_)
    refine goes_ Tryd.func50 (by kernel_rfl) rfl #[.int .i64 a0_1, .int .i64 0, .int .i64 128] (by rfl) rfl rfl tq_0 ?_
    with_reducible refine (spec_l01In.calls a0_1 0 128 false _ A20.out).mono ?_
    rintro e w' ⟨rfl, ⟨nd, rfl⟩⟩
    refine ⟨_, rfl, ?_⟩
    refine hK.out _ _ (bk6_ BK144.out) (fun hHeld => ?_)
    clear hK K
    refine nm_ (some 38) ?_
    refine yr_ 3 39 bq_14 HT_ ?_
    refine yr_ 4 40 bq_15 HT_ ?_
    refine ur_ 5 41 bq_16 HT_ ?_
    refine ur_ 6 42 bq_17 HT_ ?_
    refine ur_ 7 43 bq_18 HT_ ?_
    refine ur_ 8 44 bq_19 HT_ ?_
    refine yr_ 9 45 bq_20 HT_ ?_
    refine yr_ 10 46 bq_21 HT_ ?_
    refine ur_ 11 47 bq_22 HT_ ?_
    refine ur_ 12 48 bq_87 HT_ ?_
    refine ur_ 13 49 bq_88 HT_ ?_
    refine ur_ 14 50 bq_23 HT_ ?_
    refine ur_ 15 51 bq_24 HT_ ?_
    refine ur_ 16 52 bq_25 HT_ ?_
    refine ur_ 17 53 bq_26 HT_ ?_
    refine yr_ 18 54 bq_27 HT_ ?_
    refine yr_ 19 55 bq_28 HT_ ?_
    refine ur_ 20 56 bq_29 HT_ ?_
    refine ur_ 21 57 bq_30 HT_ ?_
    refine ur_ 22 58 bq_31 HT_ ?_
    refine ur_ 23 59 bq_32 HT_ ?_
    refine yr_ 24 60 bq_33 HT_ ?_
    refine done_ (done_of HT_.out (by kernel_rfl)) ?_
    try go_wp2
    go_meet
    case rel => exact ⟨_, (true), tq_4, H', ⟨tq_26⟩, ⟨(kb_ BK144)⟩, ⟨th_⟩⟩
   subst c21
   rw [if_pos rfl] at H
   by_cases c22 : (a0_3.size : Int) = 8
   rotate_left
   ·rw [if_neg c22] at H
    have c22b0 := beq_eq_false_iff_ne.mpr c22
    have c22b1 := bne_iff_ne.mpr c22
    (first | rw [c22b0] | (simp only [i64_w, i32_w]; rw [c22b0]) | skip)
    have H' := Aside0.mk H
    clear H
    try go_wp2
    have z_ := p_ (blk_drew (blk_drewN BK144.out nd_1)) <| a_ (below_drew1 (pw_below_drewN HB.out nd_1))
    clear BK144 HB
    obtain ⟨BK144, HB⟩ := z_
    refine start_ (n := 25) (S := fun w' => w'.cell? ⟨gb144, 0, none⟩ = some (.int .i64 a0_0) ∧ w'.cell? ⟨gb144, 1, none⟩ = some (.int .i64 a0_1) ∧ w'.cell? ⟨gb144, 2, none⟩ = some (.int .i64 a0_2) ∧ w'.cell? ⟨gb144, 3, none⟩ = some (.string a0_3) ∧ w'.cell? ⟨gb144, 4, none⟩ = some (.slice A0_4 l0_4.length c0_4) ∧ w'.cell? ⟨gb144, 5, none⟩ = some (.slice A0_5 l0_5.length c0_5)) (ds := []) bq_10 (by kernel_rfl) rfl rfl (bk6_ BK144.out) (fun hHeld => ?_); refine with_tabW spec_InodeOk.tab7 spec_InodeOk.bits7 (fun HT_ HW_ => ?_)
    generalize (w18.drewN nd_1).drew = w27 at BK144 HB hHeld ⊢
    refine yr_ 0 36 bq_11 HT_ ?_
    refine tr_ 1 37 bq_12 HT_ HW_ hHeld ?_
    refine one_ (i := 2) (N := some 38) bq_13 rfl rfl (one_of HT_.out (by kernel_rfl)) (by decide) (fun K hK => ?_)
    refine goes_ Tryd.func50 (by kernel_rfl) rfl #[.int .i64 a0_1, .int .i64 0, .int .i64 128] (by rfl) rfl rfl tq_0 ?_
    with_reducible refine (spec_l01In.calls a0_1 0 128 true _ A20.out).mono ?_
    rintro e w' ⟨rfl, ⟨nd, rfl⟩⟩
    refine ⟨_, rfl, ?_⟩
    refine hK.out _ _ (bk6_ BK144.out) (fun hHeld => ?_)
    clear hK K
    refine nm_ (some 38) ?_
    refine yr_ 3 39 bq_14 HT_ ?_
    refine yr_ 4 40 bq_15 HT_ ?_
    refine yr_ 5 41 bq_16 HT_ ?_
    refine tr_ 6 42 bq_17 HT_ HW_ hHeld ?_
    refine yr_ 7 43 bq_18 HT_ ?_
    refine yr_ 8 44 bq_19 HT_ ?_
    refine yr_ 9 45 bq_20 HT_ ?_
    refine yr_ 10 46 bq_21 HT_ ?_
    refine ur_ 11 47 bq_22 HT_ ?_
    refine ur_ 12 48 bq_87 HT_ ?_
    refine ur_ 13 49 bq_88 HT_ ?_
    refine ur_ 14 50 bq_23 HT_ ?_
    refine ur_ 15 51 bq_24 HT_ ?_
    refine ur_ 16 52 bq_25 HT_ ?_
    refine ur_ 17 53 bq_26 HT_ ?_
    refine yr_ 18 54 bq_27 HT_ ?_
    refine yr_ 19 55 bq_28 HT_ ?_
    refine ur_ 20 56 bq_29 HT_ ?_
    refine ur_ 21 57 bq_30 HT_ ?_
    refine ur_ 22 58 bq_31 HT_ ?_
    refine ur_ 23 59 bq_32 HT_ ?_
    refine yr_ 24 60 bq_33 HT_ ?_
    refine done_ (done_of HT_.out (by kernel_rfl)) ?_
    try go_wp2
    go_meet
    case rel => exact ⟨_, (true), tq_4, H', ⟨tq_26⟩, ⟨(kb_ BK144)⟩, ⟨th_⟩⟩
   rw [if_pos c22] at H
   have c22b0 := beq_iff_eq.mpr c22
   have c22b1 := bne_eq_false_iff_eq.mpr c22
   clear c22
   (first | rw [c22b0] | (simp only [i64_w, i32_w]; rw [c22b0]) | skip)
   obtain ⟨t147, A23, H⟩ := bd_ H
   by_cases c24 : (l0_4.length : Int) = t147
   rotate_left
   ·rw [if_neg c24] at H
    have c24b0 := beq_eq_false_iff_ne.mpr c24
    have c24b1 := bne_iff_ne.mpr c24
    have H' := Aside0.mk H
    clear H
    try go_wp2
    have z_ := p_ (blk_drew (blk_drewN BK144.out nd_1)) <| a_ (below_drew1 (pw_below_drewN HB.out nd_1))
    clear BK144 HB
    obtain ⟨BK144, HB⟩ := z_
    refine start_ (n := 25) (S := fun w' => w'.cell? ⟨gb144, 0, none⟩ = some (.int .i64 a0_0) ∧ w'.cell? ⟨gb144, 1, none⟩ = some (.int .i64 a0_1) ∧ w'.cell? ⟨gb144, 2, none⟩ = some (.int .i64 a0_2) ∧ w'.cell? ⟨gb144, 3, none⟩ = some (.string a0_3) ∧ w'.cell? ⟨gb144, 4, none⟩ = some (.slice A0_4 l0_4.length c0_4) ∧ w'.cell? ⟨gb144, 5, none⟩ = some (.slice A0_5 l0_5.length c0_5)) (ds := []) bq_10 (by kernel_rfl) rfl rfl (bk6_ BK144.out) (fun hHeld => ?_); refine with_tabW spec_InodeOk.tab7 spec_InodeOk.bits7 (fun HT_ HW_ => ?_)
    generalize (w18.drewN nd_1).drew = w26 at BK144 HB hHeld ⊢
    refine yr_ 0 36 bq_11 HT_ ?_
    refine tr_ 1 37 bq_12 HT_ HW_ hHeld ?_
    refine one_ (i := 2) (N := some 38) bq_13 rfl rfl (one_of HT_.out (by kernel_rfl)) (by decide) (fun K hK => ?_)
    refine goes_ Tryd.func50 (by kernel_rfl) rfl #[.int .i64 a0_1, .int .i64 0, .int .i64 128] (by rfl) rfl rfl tq_0 ?_
    with_reducible refine (spec_l01In.calls a0_1 0 128 true _ A20.out).mono ?_
    rintro e w' ⟨rfl, ⟨nd, rfl⟩⟩
    refine ⟨_, rfl, ?_⟩
    refine hK.out _ _ (bk6_ BK144.out) (fun hHeld => ?_)
    clear hK K
    refine nm_ (some 38) ?_
    refine yr_ 3 39 bq_14 HT_ ?_
    refine yr_ 4 40 bq_15 HT_ ?_
    refine yr_ 5 41 bq_16 HT_ ?_
    refine tr_ 6 42 bq_17 HT_ HW_ hHeld ?_
    refine yr_ 7 43 bq_18 HT_ ?_
    refine yr_ 8 44 bq_19 HT_ ?_
    refine yr_ 9 45 bq_20 HT_ ?_
    refine yr_ 10 46 bq_21 HT_ ?_
    refine yr_ 11 47 bq_22 HT_ ?_
    refine yr_ 14 50 bq_89 HT_ ?_
    refine tr_ 12 48 bq_90 HT_ HW_ hHeld ?_
    refine yr_ 13 49 bq_23 HT_ ?_
    refine tr_ 15 51 bq_24 HT_ HW_ hHeld ?_
    refine one_ (i := 16) (N := some 52) bq_25 rfl rfl (one_of HT_.out (by kernel_rfl)) (by decide) (fun K hK => ?_)
    refine goes_ Tryd.func51 (by kernel_rfl) rfl #[.int .i64 a0_1] (by rfl) rfl rfl tq_0 ?_
    with_reducible refine (spec_PagesFor.calls a0_1 t147 _ A23.out).mono ?_
    rintro e w' ⟨rfl, ⟨nd, rfl⟩⟩
    refine ⟨_, rfl, ?_⟩
    refine hK.out _ _ (bk6_ BK144.out) (fun hHeld => ?_)
    clear hK K
    refine nm_ (some 52) ?_
    refine yr_ 17 53 bq_26 HT_ ?_
    refine yr_ 18 54 bq_27 HT_ ?_
    refine yr_ 19 55 bq_28 HT_ ?_
    refine ur_ 20 56 bq_29 HT_ ?_
    refine ur_ 21 57 bq_30 HT_ ?_
    refine ur_ 22 58 bq_31 HT_ ?_
    refine ur_ 23 59 bq_32 HT_ ?_
    refine yr_ 24 60 bq_33 HT_ ?_
    refine done_ (done_of HT_.out (by kernel_rfl)) ?_
    try go_wp2
    go_meet
    case rel => exact ⟨_, (true), tq_4, H', ⟨tq_26⟩, ⟨(kb_ BK144)⟩, ⟨th_⟩⟩
   rw [if_pos c24] at H
   have c24b0 := beq_iff_eq.mpr c24
   have c24b1 := bne_eq_false_iff_eq.mpr c24
   clear c24
   have H' := Aside0.mk H
   clear H
   try go_wp2
   have z_ := p_ (blk_drew (blk_drewN BK144.out nd_1)) <| a_ (below_drew1 (pw_below_drewN HB.out nd_1))
   clear BK144 HB
   obtain ⟨BK144, HB⟩ := z_
   refine start_ (n := 25) (S := fun w' => w'.cell? ⟨gb144, 0, none⟩ = some (.int .i64 a0_0) ∧ w'.cell? ⟨gb144, 1, none⟩ = some (.int .i64 a0_1) ∧ w'.cell? ⟨gb144, 2, none⟩ = some (.int .i64 a0_2) ∧ w'.cell? ⟨gb144, 3, none⟩ = some (.string a0_3) ∧ w'.cell? ⟨gb144, 4, none⟩ = some (.slice A0_4 l0_4.length c0_4) ∧ w'.cell? ⟨gb144, 5, none⟩ = some (.slice A0_5 l0_5.length c0_5)) (ds := []) bq_10 (by kernel_rfl) rfl rfl (bk6_ BK144.out) (fun hHeld => ?_); refine with_tabW spec_InodeOk.tab7 spec_InodeOk.bits7 (fun HT_ HW_ => ?_)
   generalize (w18.drewN nd_1).drew = w25 at BK144 HB hHeld ⊢
   refine yr_ 0 36 bq_11 HT_ ?_
   refine tr_ 1 37 bq_12 HT_ HW_ hHeld ?_
   refine one_ (i := 2) (N := some 38) bq_13 rfl rfl (one_of HT_.out (by kernel_rfl)) (by decide) (fun K hK => ?_)
   refine goes_ Tryd.func50 (by kernel_rfl) rfl #[.int .i64 a0_1, .int .i64 0, .int .i64 128] (by rfl) rfl rfl tq_0 ?_
   with_reducible refine (spec_l01In.calls a0_1 0 128 true _ A20.out).mono ?_
   rintro e w' ⟨rfl, ⟨nd, rfl⟩⟩
   refine ⟨_, rfl, ?_⟩
   refine hK.out _ _ (bk6_ BK144.out) (fun hHeld => ?_)
   clear hK K
   refine nm_ (some 38) ?_
   refine yr_ 3 39 bq_14 HT_ ?_
   refine yr_ 4 40 bq_15 HT_ ?_
   refine yr_ 5 41 bq_16 HT_ ?_
   refine tr_ 6 42 bq_17 HT_ HW_ hHeld ?_
   refine yr_ 7 43 bq_18 HT_ ?_
   refine yr_ 8 44 bq_19 HT_ ?_
   refine yr_ 9 45 bq_20 HT_ ?_
   refine yr_ 10 46 bq_21 HT_ ?_
   refine yr_ 11 47 bq_22 HT_ ?_
   refine yr_ 14 50 bq_89 HT_ ?_
   refine tr_ 12 48 bq_90 HT_ HW_ hHeld ?_
   refine yr_ 13 49 bq_23 HT_ ?_
   refine tr_ 15 51 bq_24 HT_ HW_ hHeld ?_
   refine one_ (i := 16) (N := some 52) bq_25 rfl rfl (one_of HT_.out (by kernel_rfl)) (by decide) (fun K hK => ?_)
   refine goes_ Tryd.func51 (by kernel_rfl) rfl #[.int .i64 a0_1] (by rfl) rfl rfl tq_0 ?_
   with_reducible refine (spec_PagesFor.calls a0_1 t147 _ A23.out).mono ?_
   rintro e w' ⟨rfl, ⟨nd, rfl⟩⟩
   refine ⟨_, rfl, ?_⟩
   refine hK.out _ _ (bk6_ BK144.out) (fun hHeld => ?_)
   clear hK K
   refine nm_ (some 52) ?_
   refine yr_ 17 53 bq_26 HT_ ?_
   refine yr_ 18 54 bq_27 HT_ ?_
   refine yr_ 19 55 bq_28 HT_ ?_
   refine yr_ 20 56 bq_29 HT_ ?_
   refine tr_ 21 57 bq_30 HT_ HW_ hHeld ?_
   refine yr_ 22 58 bq_31 HT_ ?_
   refine yr_ 23 59 bq_32 HT_ ?_
   refine yr_ 24 60 bq_33 HT_ ?_
   refine done_ (done_of HT_.out (by kernel_rfl)) ?_
   try go_wp2
   go_meet
   case rel => exact ⟨_, (decide ((l0_5.length : Int) > 0)), tq_4, H', ⟨tq_26⟩, ⟨(kb_ BK144)⟩, ⟨th_⟩⟩
  case rest =>
  clear HC17
  try clear c2; try clear p2; try clear c5; try clear c21; try clear c22; try clear c22b0; try clear c22b1; try clear c24; try clear c24b0; try clear c24b1
  obtain ⟨kq, x60_16, rfl, HA, HJ16, BK144, HB⟩ := hcut
  cases kq with
  | zero => exact absurd HA.out (by simp [spec_InodeOk.j0])
  | succ kj16 =>
  have H := HA.out
  clear HA
  simp only [spec_InodeOk.j0] at H
  by_cases c29 : x60_16 = true
  ·subst c29
   rw [if_pos rfl] at H
   obtain rfl := Option.some.inj H
   go_wp2
   go_ret
   exact ⟨tq_2, th_⟩
  replace c29 := Bool.eq_false_iff.mpr c29
  subst c29
  rw [if_neg nf_] at H
  have H' := Aside0.mk H
  clear H
  go_wp2
  go_loopg [3] kj16 (fun kq v3 w' => ∃ (x3_2 : Int), v3 = .int .i64 x3_2 ∧ Aside0 (spec_InodeOk.l0 kq x3_2 a0_0 a0_1 a0_2 a0_3 l0_4 l0_5 = some r) ∧ Aside0 (kq ≤ kj16) ∧ Aside0 (w'.heap[gb144]? = some (.cells #[.int .i64 a0_0, .int .i64 a0_1, .int .i64 a0_2, .string a0_3, (.slice A0_4 l0_4.length c0_4), (.slice A0_5 l0_5.length c0_5)] 27 (0, 0))) ∧ Aside0 (Below w.heap.size w w'))
  case atStart => exact ⟨(0), tq_4, H', ⟨Nat.le_refl _⟩, ⟨(kb_ BK144)⟩, ⟨th_⟩⟩
  case round =>
  clear H'
  try clear c2; try clear p2; try clear c5; try clear c21; try clear c22; try clear c22b0; try clear c22b1; try clear c24; try clear c24b0; try clear c24b1; try clear c29; try clear p2
  obtain ⟨x3_2, rfl, HA, HK2, BK144, HB⟩ := hrel
  cases gk with
  | zero => exact absurd HA.out (by simp [spec_InodeOk.l0])
  | succ k2 =>
  have H := HA.out
  clear HA
  simp only [spec_InodeOk.l0] at H
  by_cases c30 : x3_2 < (l0_4.length : Int)
  rotate_left
  ·rw [if_neg c30] at H
   have c30b0 := decide_eq_false c30
   clear c30
   obtain rfl := Option.some.inj H
   obtain ⟨hcz46_0, hcz46_1, hcz46_2, hcz46_3, hcz46_4, hcz46_5⟩ := bk6_ BK144.out
   obtain ⟨hfz46_0, hfz46_1, hfz46_2, hfz46_3, hfz46_4, hfz46_5⟩ := bf6_ BK144.out
   go_wp2
   go_ret
   exact ⟨tq_2, th_⟩
  rw [if_pos c30] at H
  have c30b0 := decide_eq_true c30
  clear c30
  obtain ⟨c31, H⟩ := fc_ H
  have c31b0 := decide_eq_true c31
  clear c31
  obtain ⟨t149, A32, H⟩ := bd_ H
  by_cases c33 : t149.toList = ([] : List UInt8)
  ·rw [if_pos c33] at H
   have c33b0 := beq_iff_eq.mpr c33
   have c33b1 := bne_eq_false_iff_eq.mpr c33
   clear c33
   obtain rfl := Option.some.inj H
   obtain ⟨hcz34_0, hcz34_1, hcz34_2, hcz34_3, hcz34_4, hcz34_5⟩ := bk6_ BK144.out
   obtain ⟨hfz34_0, hfz34_1, hfz34_2, hfz34_3, hfz34_4, hfz34_5⟩ := bf6_ BK144.out
   have p148 : 0 ≤ (x3_2 : Int) := of_decide_eq_true tq_1
   have q148 : x3_2 < (l0_4.length : Int) := of_decide_eq_true tq_1
   obtain ⟨ad148, e148, hx148_0, hx148_1, hx148_2⟩ := at_T42 HR0_4.out x3_2 p148 q148
   cases e148
   replace hx148_0 := hx_ HB.out hx148_0
   replace hx148_1 := hx_ HB.out hx148_1
   replace hx148_2 := hx_ HB.out hx148_2
   replace p148 := eq_true p148
   replace q148 := eq_true q148
   go_wp2_with (first | ((with_reducible refine gate_callee (f := 52) rfl ?_); refine goesL_ (some 73) rfl rfl Tryd.func52 (by kernel_rfl) rfl #[.agg #[.int .i64 ((rd_T42 l0_4 x3_2).f0), .int .i64 ((rd_T42 l0_4 x3_2).f1), .string ((rd_T42 l0_4 x3_2).f2)]] rfl tq_0 ?_; (with_reducible refine (spec_RecWord.calls k2 ((rd_T42 l0_4 x3_2).f0) ((rd_T42 l0_4 x3_2).f1) ((rd_T42 l0_4 x3_2).f2) t149 _ A32.out).mono ?_); rintro e w35 ⟨rfl, hb⟩; refine ⟨_, rfl, ?_⟩; have z_ := bw1_ (kb_ BK144) th_ hb; clear BK144 HB; obtain ⟨BK144, HB⟩ := z_; (try clear hb)))
   go_ret
   exact ⟨tq_2, th_⟩
  rw [if_neg c33] at H
  have c33b0 := beq_eq_false_iff_ne.mpr c33
  have c33b1 := bne_iff_ne.mpr c33
  have H' := Aside0.mk H
  clear H
  obtain ⟨hcz36_0, hcz36_1, hcz36_2, hcz36_3, hcz36_4, hcz36_5⟩ := bk6_ BK144.out
  obtain ⟨hfz36_0, hfz36_1, hfz36_2, hfz36_3, hfz36_4, hfz36_5⟩ := bf6_ BK144.out
  have p148 : 0 ≤ (x3_2 : Int) := of_decide_eq_true tq_1
  have q148 : x3_2 < (l0_4.length : Int) := of_decide_eq_true tq_1
  obtain ⟨ad148, e148, hx148_0, hx148_1, hx148_2⟩ := at_T42 HR0_4.out x3_2 p148 q148
  cases e148
  replace hx148_0 := hx_ HB.out hx148_0
  replace hx148_1 := hx_ HB.out hx148_1
  replace hx148_2 := hx_ HB.out hx148_2
  replace p148 := eq_true p148
  replace q148 := eq_true q148
  go_wp2_with (first | ((with_reducible refine gate_callee (f := 52) rfl ?_); refine goesL_ (some 73) rfl rfl Tryd.func52 (by kernel_rfl) rfl #[.agg #[.int .i64 ((rd_T42 l0_4 x3_2).f0), .int .i64 ((rd_T42 l0_4 x3_2).f1), .string ((rd_T42 l0_4 x3_2).f2)]] rfl tq_0 ?_; (with_reducible refine (spec_RecWord.calls k2 ((rd_T42 l0_4 x3_2).f0) ((rd_T42 l0_4 x3_2).f1) ((rd_T42 l0_4 x3_2).f2) t149 _ A32.out).mono ?_); rintro e w37 ⟨rfl, hb⟩; refine ⟨_, rfl, ?_⟩; have z_ := bw1_ (kb_ BK144) th_ hb; clear BK144 HB; obtain ⟨BK144, HB⟩ := z_; (try clear hb)))
  go_loopg [4] k2 (fun kq v4 w' => ∃ (x4_3 : Int), v4 = .int .i64 x4_3 ∧ Aside0 (spec_InodeOk.l1 kq x3_2 x4_3 a0_0 a0_1 a0_2 a0_3 l0_4 l0_5 = some r) ∧ Aside0 (kq ≤ k2) ∧ Aside0 (w'.heap[gb144]? = some (.cells #[.int .i64 a0_0, .int .i64 a0_1, .int .i64 a0_2, .string a0_3, (.slice (some ad148) l0_4.length c0_4), (.slice A0_5 l0_5.length c0_5)] 27 (0, 0))) ∧ Aside0 (Below w.heap.size w w'))
  case atStart => exact ⟨(0), tq_4, H', ⟨Nat.le_refl _⟩, ⟨(kb_ BK144)⟩, ⟨th_⟩⟩
  case round =>
  clear H'
  try clear p1; try clear q1; try clear hx1; try clear c2; try clear p2; try clear c3; try clear c5; try clear p14; try clear q14; try clear hx14; try clear c21; try clear c22; try clear c22b0; try clear c22b1; try clear c24; try clear c24b0; try clear c24b1; try clear c29; try clear c30; try clear c30b0; try clear c31; try clear c31b0; try clear c33; try clear c33b0; try clear c33b1; try clear hcz34_0 hcz34_1 hcz34_2 hcz34_3 hcz34_4 hcz34_5; try clear hcz36_0 hcz36_1 hcz36_2 hcz36_3 hcz36_4 hcz36_5; try clear hfz34_0 hfz34_1 hfz34_2 hfz34_3 hfz34_4 hfz34_5; try clear hfz36_0 hfz36_1 hfz36_2 hfz36_3 hfz36_4 hfz36_5; try clear hx148_0; try clear hx148_1; try clear hx148_2; try clear p148; try clear p2; try clear q148
  obtain ⟨x4_3, rfl, HA, HK3, BK144, HB⟩ := hrel
  cases gk with
  | zero => exact absurd HA.out (by simp [spec_InodeOk.l1])
  | succ k3 =>
  have H := HA.out
  clear HA
  simp only [spec_InodeOk.l1] at H
  by_cases c38 : x4_3 < x3_2
  rotate_left
  ·rw [if_neg c38] at H
   have c38b0 := decide_eq_false c38
   clear c38
   have H' := Aside0.mk H
   clear H
   go_wp2
   go_roundg k3
   case measure => have := HJ16.out; have := HK2.out; have := HK3.out; omega
   case rel => exact ⟨(wrap64 (x3_2 + 1)), tq_4, H', ⟨(by have := HJ16.out; have := HK2.out; have := HK3.out; omega)⟩, ⟨(kb_ BK144)⟩, ⟨th_⟩⟩
  rw [if_pos c38] at H
  have c38b0 := decide_eq_true c38
  clear c38
  obtain ⟨c39, H⟩ := fc_ H
  have c39b0 := decide_eq_true c39
  clear c39
  obtain ⟨c40, H⟩ := fc_ H
  have c40b0 := decide_eq_true c40
  clear c40
  obtain ⟨c41, H⟩ := fc_ H
  have c41b0 := decide_eq_true c41
  clear c41
  obtain ⟨c42, H⟩ := fc_ H
  have c42b0 := decide_eq_true c42
  clear c42
  by_cases c43 : ((rd_T42 l0_4 x4_3).f0) = ((rd_T42 l0_4 x3_2).f0)
  ·rw [if_pos c43] at H
   have c43b0 := beq_iff_eq.mpr c43
   have c43b1 := bne_eq_false_iff_eq.mpr c43
   clear c43
   obtain rfl := Option.some.inj H
   try go_wp2
   have z_ := dw1_ BK144 HB
   clear BK144 HB
   obtain ⟨BK144, HB⟩ := z_
   have p150 : 0 ≤ (x4_3 : Int) := of_decide_eq_true tq_1
   have q150 : x4_3 < (l0_4.length : Int) := of_decide_eq_true tq_1
   obtain ⟨ad150, e150, hx150_0, hx150_1, hx150_2⟩ := at_T42 HR0_4.out x4_3 p150 q150
   have hw150_2 := hx150_2
   have hw150_1 := hx150_1
   have hw150_0 := hx150_0
   obtain rfl : ad148 = ad150 := (by injection e150)
   replace hx150_0 := hx_ HB.out hx150_0
   replace hx150_1 := hx_ HB.out hx150_1
   replace hx150_2 := hx_ HB.out hx150_2
   replace p150 := eq_true p150
   replace q150 := eq_true q150
   have p151 : 0 ≤ (x3_2 : Int) := of_decide_eq_true tq_1
   have q151 : x3_2 < (l0_4.length : Int) := of_decide_eq_true tq_1
   obtain ⟨ad151, e151, hx151_0, hx151_1, hx151_2⟩ := at_T42 HR0_4.out x3_2 p151 q151
   have hw151_2 := hx151_2
   have hw151_1 := hx151_1
   have hw151_0 := hx151_0
   obtain rfl : ad148 = ad151 := (by injection e151)
   replace hx151_0 := hx_ HB.out hx151_0
   replace hx151_1 := hx_ HB.out hx151_1
   replace hx151_2 := hx_ HB.out hx151_2
   replace p151 := eq_true p151
   replace q151 := eq_true q151
   refine start_ (n := 13) (S := fun w' => w'.cell? ⟨gb144, 0, none⟩ = some (.int .i64 a0_0) ∧ w'.cell? ⟨gb144, 1, none⟩ = some (.int .i64 a0_1) ∧ w'.cell? ⟨gb144, 2, none⟩ = some (.int .i64 a0_2) ∧ w'.cell? ⟨gb144, 3, none⟩ = some (.string a0_3) ∧ w'.cell? ⟨gb144, 4, none⟩ = some (.slice (some ad148) l0_4.length c0_4) ∧ w'.cell? ⟨gb144, 5, none⟩ = some (.slice A0_5 l0_5.length c0_5) ∧ w'.cell? (ad148.add ((x4_3).toNat * 3)) = some (.int .i64 ((rd_T42 l0_4 x4_3).f0)) ∧ w'.cell? ⟨(ad148.add ((x4_3).toNat * 3)).block, (ad148.add ((x4_3).toNat * 3)).off + 1, none⟩ = some (.int .i64 ((rd_T42 l0_4 x4_3).f1)) ∧ w'.cell? ⟨(ad148.add ((x4_3).toNat * 3)).block, (ad148.add ((x4_3).toNat * 3)).off + 2, none⟩ = some (.string ((rd_T42 l0_4 x4_3).f2)) ∧ w'.cell? (ad148.add ((x3_2).toNat * 3)) = some (.int .i64 ((rd_T42 l0_4 x3_2).f0)) ∧ w'.cell? ⟨(ad148.add ((x3_2).toNat * 3)).block, (ad148.add ((x3_2).toNat * 3)).off + 1, none⟩ = some (.int .i64 ((rd_T42 l0_4 x3_2).f1)) ∧ w'.cell? ⟨(ad148.add ((x3_2).toNat * 3)).block, (ad148.add ((x3_2).toNat * 3)).off + 2, none⟩ = some (.string ((rd_T42 l0_4 x3_2).f2))) (ds := []) bq_91 (by kernel_rfl) rfl rfl (bc6_ BK144.out ⟨((HB.out.cell (World.block_lt_of_cell? w _ hw150_0)).trans hw150_0), ((HB.out.cell (World.block_lt_of_cell? w _ hw150_1)).trans hw150_1), ((HB.out.cell (World.block_lt_of_cell? w _ hw150_2)).trans hw150_2), ((HB.out.cell (World.block_lt_of_cell? w _ hw151_0)).trans hw151_0), ((HB.out.cell (World.block_lt_of_cell? w _ hw151_1)).trans hw151_1), ((HB.out.cell (World.block_lt_of_cell? w _ hw151_2)).trans hw151_2)⟩) (fun hHeld => ?_); refine with_tabW spec_InodeOk.tab17 spec_InodeOk.bits17 (fun HT_ HW_ => ?_)
   generalize wr.drew = w44 at BK144 HB hx150_0 hx150_1 hx150_2 hx151_0 hx151_1 hx151_2 hHeld ⊢
   refine yr_ 0 80 bq_92 HT_ ?_
   refine yr_ 2 82 bq_93 HT_ ?_
   refine yr_ 6 86 bq_94 HT_ ?_
   refine yr_ 8 88 bq_95 HT_ ?_
   refine tr_ 1 81 bq_96 HT_ HW_ hHeld ?_
   refine yr_ 3 83 bq_97 HT_ ?_
   refine yr_ 4 84 bq_98 HT_ ?_
   refine tr_ 5 85 bq_99 HT_ HW_ hHeld ?_
   refine tr_ 7 87 bq_100 HT_ HW_ hHeld ?_
   refine yr_ 9 89 bq_101 HT_ ?_
   refine yr_ 10 90 bq_102 HT_ ?_
   refine tr_ 11 91 bq_103 HT_ HW_ hHeld ?_
   refine yr_ 12 92 bq_104 HT_ ?_
   refine done_ (done_of HT_.out (by kernel_rfl)) ?_
   try go_wp2
   go_ret
   exact ⟨tq_2, th_⟩
  rw [if_neg c43] at H
  have c43b0 := beq_eq_false_iff_ne.mpr c43
  have c43b1 := bne_iff_ne.mpr c43
  have H' := Aside0.mk H
  clear H
  try go_wp2
  have z_ := dw1_ BK144 HB
  clear BK144 HB
  obtain ⟨BK144, HB⟩ := z_
  have p150 : 0 ≤ (x4_3 : Int) := of_decide_eq_true tq_1
  have q150 : x4_3 < (l0_4.length : Int) := of_decide_eq_true tq_1
  obtain ⟨ad150, e150, hx150_0, hx150_1, hx150_2⟩ := at_T42 HR0_4.out x4_3 p150 q150
  have hw150_2 := hx150_2
  have hw150_1 := hx150_1
  have hw150_0 := hx150_0
  obtain rfl : ad148 = ad150 := (by injection e150)
  replace hx150_0 := hx_ HB.out hx150_0
  replace hx150_1 := hx_ HB.out hx150_1
  replace hx150_2 := hx_ HB.out hx150_2
  replace p150 := eq_true p150
  replace q150 := eq_true q150
  have p151 : 0 ≤ (x3_2 : Int) := of_decide_eq_true tq_1
  have q151 : x3_2 < (l0_4.length : Int) := of_decide_eq_true tq_1
  obtain ⟨ad151, e151, hx151_0, hx151_1, hx151_2⟩ := at_T42 HR0_4.out x3_2 p151 q151
  have hw151_2 := hx151_2
  have hw151_1 := hx151_1
  have hw151_0 := hx151_0
  obtain rfl : ad148 = ad151 := (by injection e151)
  replace hx151_0 := hx_ HB.out hx151_0
  replace hx151_1 := hx_ HB.out hx151_1
  replace hx151_2 := hx_ HB.out hx151_2
  replace p151 := eq_true p151
  replace q151 := eq_true q151
  refine start_ (n := 13) (S := fun w' => w'.cell? ⟨gb144, 0, none⟩ = some (.int .i64 a0_0) ∧ w'.cell? ⟨gb144, 1, none⟩ = some (.int .i64 a0_1) ∧ w'.cell? ⟨gb144, 2, none⟩ = some (.int .i64 a0_2) ∧ w'.cell? ⟨gb144, 3, none⟩ = some (.string a0_3) ∧ w'.cell? ⟨gb144, 4, none⟩ = some (.slice (some ad148) l0_4.length c0_4) ∧ w'.cell? ⟨gb144, 5, none⟩ = some (.slice A0_5 l0_5.length c0_5) ∧ w'.cell? (ad148.add ((x4_3).toNat * 3)) = some (.int .i64 ((rd_T42 l0_4 x4_3).f0)) ∧ w'.cell? ⟨(ad148.add ((x4_3).toNat * 3)).block, (ad148.add ((x4_3).toNat * 3)).off + 1, none⟩ = some (.int .i64 ((rd_T42 l0_4 x4_3).f1)) ∧ w'.cell? ⟨(ad148.add ((x4_3).toNat * 3)).block, (ad148.add ((x4_3).toNat * 3)).off + 2, none⟩ = some (.string ((rd_T42 l0_4 x4_3).f2)) ∧ w'.cell? (ad148.add ((x3_2).toNat * 3)) = some (.int .i64 ((rd_T42 l0_4 x3_2).f0)) ∧ w'.cell? ⟨(ad148.add ((x3_2).toNat * 3)).block, (ad148.add ((x3_2).toNat * 3)).off + 1, none⟩ = some (.int .i64 ((rd_T42 l0_4 x3_2).f1)) ∧ w'.cell? ⟨(ad148.add ((x3_2).toNat * 3)).block, (ad148.add ((x3_2).toNat * 3)).off + 2, none⟩ = some (.string ((rd_T42 l0_4 x3_2).f2))) (ds := []) bq_91 (by kernel_rfl) rfl rfl (bc6_ BK144.out ⟨((HB.out.cell (World.block_lt_of_cell? w _ hw150_0)).trans hw150_0), ((HB.out.cell (World.block_lt_of_cell? w _ hw150_1)).trans hw150_1), ((HB.out.cell (World.block_lt_of_cell? w _ hw150_2)).trans hw150_2), ((HB.out.cell (World.block_lt_of_cell? w _ hw151_0)).trans hw151_0), ((HB.out.cell (World.block_lt_of_cell? w _ hw151_1)).trans hw151_1), ((HB.out.cell (World.block_lt_of_cell? w _ hw151_2)).trans hw151_2)⟩) (fun hHeld => ?_); refine with_tabW spec_InodeOk.tab17 spec_InodeOk.bits17 (fun HT_ HW_ => ?_)
  generalize wr.drew = w45 at BK144 HB hx150_0 hx150_1 hx150_2 hx151_0 hx151_1 hx151_2 hHeld ⊢
  refine yr_ 0 80 bq_92 HT_ ?_
  refine yr_ 2 82 bq_93 HT_ ?_
  refine yr_ 6 86 bq_94 HT_ ?_
  refine yr_ 8 88 bq_95 HT_ ?_
  refine tr_ 1 81 bq_96 HT_ HW_ hHeld ?_
  refine yr_ 3 83 bq_97 HT_ ?_
  refine yr_ 4 84 bq_98 HT_ ?_
  refine tr_ 5 85 bq_99 HT_ HW_ hHeld ?_
  refine tr_ 7 87 bq_100 HT_ HW_ hHeld ?_
  refine yr_ 9 89 bq_101 HT_ ?_
  refine yr_ 10 90 bq_102 HT_ ?_
  refine tr_ 11 91 bq_103 HT_ HW_ hHeld ?_
  refine yr_ 12 92 bq_104 HT_ ?_
  refine done_ (done_of HT_.out (by kernel_rfl)) ?_
  try go_wp2
  go_roundg k3
  case measure => have := HJ16.out; have := HK2.out; have := HK3.out; omega
  case rel => exact ⟨(wrap64 (x4_3 + 1)), tq_4, H', ⟨(by have := HJ16.out; have := HK2.out; have := HK3.out; omega)⟩, ⟨(kb_ BK144)⟩, ⟨th_⟩⟩
 rw [if_neg c16] at H
 have c16b0 := beq_eq_false_iff_ne.mpr c16
 have c16b1 := bne_iff_ne.mpr c16
 by_cases c47 : a0_0 = 2
 rotate_left
 ·rw [if_neg c47] at H
  have c47b0 := beq_eq_false_iff_ne.mpr c47
  have c47b1 := bne_iff_ne.mpr c47
  obtain rfl := Option.some.inj H
  go_enter Tryd.func18, Tryd.ntmps18
  go_wp2_with (first | ((with_reducible refine gate_dst (N := 1) rfl ?_); (try (refine gate_guard (by rfl) ?_; dsimp only)); refine be_ 1 (cs := #[.int .i64 a0_0, .int .i64 a0_1, .int .i64 a0_2, .string a0_3, .slice A0_4 l0_4.length c0_4, .slice A0_5 l0_5.length c0_5]) 27 ?_; intro gb144 hg w81 hbox hb; have z_ := bx0_ th_ hb hbox hg; clear HB; obtain ⟨HB, BK144, GW144, GE144⟩ := z_; clear hb hbox hg; obtain ⟨hcz82_0, hcz82_1, hcz82_2, hcz82_3, hcz82_4, hcz82_5⟩ := bk6_ BK144.out; obtain ⟨hfz82_0, hfz82_1, hfz82_2, hfz82_3, hfz82_4, hfz82_5⟩ := bf6_ BK144.out) | ((with_reducible refine gate_callee (f := 50) rfl ?_); refine goesL_ (some 8) rfl rfl Tryd.func50 (by kernel_rfl) rfl #[.int .i64 a0_2, .int .i64 0, .int .i64 65535] rfl tq_0 ?_; (with_reducible refine (spec_l01In.calls a0_2 0 65535 true _ A2.out).mono ?_); rintro e w' ⟨rfl, ⟨nd, rfl⟩⟩; refine ⟨_, rfl, ?_⟩))
  go_ret
  exact ⟨tq_2, th_⟩
 rw [if_pos c47] at H
 have c47b0 := beq_iff_eq.mpr c47
 have c47b1 := bne_eq_false_iff_eq.mpr c47
 clear c47
 have HC48 := Aside0.mk H
 clear H
 go_enter Tryd.func18, Tryd.ntmps18
 go_upto_region 21 with (first | ((with_reducible refine gate_dst (N := 1) rfl ?_); (try (refine gate_guard (by rfl) ?_; dsimp only)); refine be_ 1 (cs := #[.int .i64 a0_0, .int .i64 a0_1, .int .i64 a0_2, .string a0_3, .slice A0_4 l0_4.length c0_4, .slice A0_5 l0_5.length c0_5]) 27 ?_; intro gb144 hg w49 hbox hb; have z_ := bx0_ th_ hb hbox hg; clear HB; obtain ⟨HB, BK144, GW144, GE144⟩ := z_; clear hb hbox hg; obtain ⟨hcz50_0, hcz50_1, hcz50_2, hcz50_3, hcz50_4, hcz50_5⟩ := bk6_ BK144.out; obtain ⟨hfz50_0, hfz50_1, hfz50_2, hfz50_3, hfz50_4, hfz50_5⟩ := bf6_ BK144.out) | ((with_reducible refine gate_callee (f := 50) rfl ?_); refine goesL_ (some 8) rfl rfl Tryd.func50 (by kernel_rfl) rfl #[.int .i64 a0_2, .int .i64 0, .int .i64 65535] rfl tq_0 ?_; (with_reducible refine (spec_l01In.calls a0_2 0 65535 true _ A2.out).mono ?_); rintro e w' ⟨rfl, ⟨nd, rfl⟩⟩; refine ⟨_, rfl, ?_⟩))
 (try simp only [Act.put, List.setIfInBounds_toArray, List.set_cons_zero, List.set_cons_succ])
 go_cut [114] (fun v114 wc => ∃ (kq : Nat) (x114_47 : Bool), v114 = .bool x114_47 ∧ Aside0 (spec_InodeOk.j3 kq x114_47 a0_0 a0_1 a0_2 a0_3 l0_4 l0_5 = some r) ∧ Aside0 (kq ≤ k) ∧ Aside0 (wc.heap[gb144]? = some (.cells #[.int .i64 a0_0, .int .i64 a0_1, .int .i64 a0_2, .string a0_3, (.slice A0_4 l0_4.length c0_4), (.slice A0_5 l0_5.length c0_5)] 27 (0, 0))) ∧ Aside0 (Below w.heap.size w wc))
 case first =>
  have H := HC48.out
  clear HC48
  by_cases c51 : a0_1 = 0
  rotate_left
  ·rw [if_neg c51] at H
   have c51b0 := beq_eq_false_iff_ne.mpr c51
   have c51b1 := bne_iff_ne.mpr c51
   (first | rw [c51b0] | (simp only [i64_w, i32_w]; rw [c51b0]) | skip)
   have H' := Aside0.mk H
   clear H
   obtain ⟨hcz57_0, hcz57_1, hcz57_2, hcz57_3, hcz57_4, hcz57_5⟩ := bk6_ BK144.out
   obtain ⟨hfz57_0, hfz57_1, hfz57_2, hfz57_3, hfz57_4, hfz57_5⟩ := bf6_ BK144.out
   go_wp2
   go_meet
   case rel => exact ⟨_, (true), tq_4, H', ⟨tq_26⟩, ⟨(kb_ BK144)⟩, ⟨th_⟩⟩
  rw [if_pos c51] at H
  have c51b0 := beq_iff_eq.mpr c51
  have c51b1 := bne_eq_false_iff_eq.mpr c51
  clear c51
  (first | rw [c51b0] | (simp only [i64_w, i32_w]; rw [c51b0]) | skip)
  by_cases c52 : a0_3.toList = ([] : List UInt8)
  rotate_left
  ·rw [if_neg c52] at H
   have c52b0 := beq_eq_false_iff_ne.mpr c52
   have c52b1 := bne_iff_ne.mpr c52
   have H' := Aside0.mk H
   clear H
   obtain ⟨hcz56_0, hcz56_1, hcz56_2, hcz56_3, hcz56_4, hcz56_5⟩ := bk6_ BK144.out
   obtain ⟨hfz56_0, hfz56_1, hfz56_2, hfz56_3, hfz56_4, hfz56_5⟩ := bf6_ BK144.out
   go_wp2
   go_meet
   case rel => exact ⟨_, (true), tq_4, H', ⟨tq_26⟩, ⟨(kb_ BK144)⟩, ⟨th_⟩⟩
  rw [if_pos c52] at H
  have c52b0 := beq_iff_eq.mpr c52
  have c52b1 := bne_eq_false_iff_eq.mpr c52
  clear c52
  by_cases c53 : (l0_4.length : Int) > 0
  ·rw [if_pos c53] at H
   have c53b0 := decide_eq_true c53
   have c53b1 : decide (0 < l0_4.length) = true := decide_eq_true (by omega)
   clear c53
   have H' := Aside0.mk H
   clear H
   obtain ⟨hcz54_0, hcz54_1, hcz54_2, hcz54_3, hcz54_4, hcz54_5⟩ := bk6_ BK144.out
   obtain ⟨hfz54_0, hfz54_1, hfz54_2, hfz54_3, hfz54_4, hfz54_5⟩ := bf6_ BK144.out
   go_wp2
   go_meet
   case rel => exact ⟨_, (true), tq_4, H', ⟨tq_26⟩, ⟨(kb_ BK144)⟩, ⟨th_⟩⟩
  rw [if_neg c53] at H
  have c53b0 := decide_eq_false c53
  have c53b1 : decide (0 < l0_4.length) = false := decide_eq_false (by omega)
  clear c53
  have H' := Aside0.mk H
  clear H
  obtain ⟨hcz55_0, hcz55_1, hcz55_2, hcz55_3, hcz55_4, hcz55_5⟩ := bk6_ BK144.out
  obtain ⟨hfz55_0, hfz55_1, hfz55_2, hfz55_3, hfz55_4, hfz55_5⟩ := bf6_ BK144.out
  go_wp2
  go_meet
  case rel => exact ⟨_, (decide ((l0_5.length : Int) > 6)), tq_4, H', ⟨tq_26⟩, ⟨(kb_ BK144)⟩, ⟨th_⟩⟩
 case rest =>
 clear HC48
 try clear c1; try clear p1; try clear q1; try clear hx1; try clear c2; try clear p2; try clear c3; try clear c4; try clear c5; try clear p6; try clear p14; try clear q14; try clear hx14; try clear p15; try clear q15; try clear hx15; try clear c16; try clear c16b0; try clear c16b1; try clear c18; try clear c21; try clear c22; try clear c22b0; try clear c22b1; try clear c24; try clear c24b0; try clear c24b1; try clear c29; try clear c30; try clear c30b0; try clear c31; try clear c31b0; try clear c33; try clear c33b0; try clear c33b1; try clear c38; try clear c38b0; try clear c39; try clear c39b0; try clear c40; try clear c40b0; try clear c41; try clear c41b0; try clear c42; try clear c42b0; try clear c43; try clear c43b0; try clear c43b1; try clear c47; try clear c47b0; try clear c47b1; try clear c50; try clear c51; try clear c51b0; try clear c51b1; try clear c52; try clear c52b0; try clear c52b1; try clear c53; try clear c53b0; try clear c53b1; try clear hcz34_0 hcz34_1 hcz34_2 hcz34_3 hcz34_4 hcz34_5; try clear hcz36_0 hcz36_1 hcz36_2 hcz36_3 hcz36_4 hcz36_5; try clear hcz46_0 hcz46_1 hcz46_2 hcz46_3 hcz46_4 hcz46_5; try clear hcz50_0 hcz50_1 hcz50_2 hcz50_3 hcz50_4 hcz50_5; try clear hcz54_0 hcz54_1 hcz54_2 hcz54_3 hcz54_4 hcz54_5; try clear hcz55_0 hcz55_1 hcz55_2 hcz55_3 hcz55_4 hcz55_5; try clear hcz56_0 hcz56_1 hcz56_2 hcz56_3 hcz56_4 hcz56_5; try clear hcz57_0 hcz57_1 hcz57_2 hcz57_3 hcz57_4 hcz57_5; try clear hfz34_0 hfz34_1 hfz34_2 hfz34_3 hfz34_4 hfz34_5; try clear hfz36_0 hfz36_1 hfz36_2 hfz36_3 hfz36_4 hfz36_5; try clear hfz46_0 hfz46_1 hfz46_2 hfz46_3 hfz46_4 hfz46_5; try clear hfz50_0 hfz50_1 hfz50_2 hfz50_3 hfz50_4 hfz50_5; try clear hfz54_0 hfz54_1 hfz54_2 hfz54_3 hfz54_4 hfz54_5; try clear hfz55_0 hfz55_1 hfz55_2 hfz55_3 hfz55_4 hfz55_5; try clear hfz56_0 hfz56_1 hfz56_2 hfz56_3 hfz56_4 hfz56_5; try clear hfz57_0 hfz57_1 hfz57_2 hfz57_3 hfz57_4 hfz57_5; try clear hx148_0; try clear hx148_1; try clear hx148_2; try clear hx150_0; try clear hx150_1; try clear hx150_2; try clear hx151_0; try clear hx151_1; try clear hx151_2; try clear p1; try clear p14; try clear p148; try clear p150; try clear p151; try clear p2; try clear q1; try clear q14; try clear q148; try clear q150; try clear q151
 obtain ⟨kq, x114_47, rfl, HA, HJ47, BK144, HB⟩ := hcut
 cases kq with
 | zero => exact absurd HA.out (by simp [spec_InodeOk.j3])
 | succ kj47 =>
 have H := HA.out
 clear HA
 simp only [spec_InodeOk.j3] at H
 by_cases c58 : x114_47 = true
 ·subst c58
  rw [if_pos rfl] at H
  obtain rfl := Option.some.inj H
  go_wp2
  go_ret
  exact ⟨tq_2, th_⟩
 replace c58 := Bool.eq_false_iff.mpr c58
 subst c58
 rw [if_neg nf_] at H
 have H' := Aside0.mk H
 clear H
 go_wp2
 go_loopg [5] kj47 (fun kq v5 w' => ∃ (x5_2 : Int), v5 = .int .i64 x5_2 ∧ Aside0 (spec_InodeOk.l2 kq x5_2 a0_0 a0_1 a0_2 a0_3 l0_4 l0_5 = some r) ∧ Aside0 (kq ≤ kj47) ∧ Aside0 (w'.heap[gb144]? = some (.cells #[.int .i64 a0_0, .int .i64 a0_1, .int .i64 a0_2, .string a0_3, (.slice A0_4 l0_4.length c0_4), (.slice A0_5 l0_5.length c0_5)] 27 (0, 0))) ∧ Aside0 (Below w.heap.size w w'))
 case atStart => exact ⟨(0), tq_4, H', ⟨Nat.le_refl _⟩, ⟨(kb_ BK144)⟩, ⟨th_⟩⟩
 case round =>
 clear H'
 try clear c1; try clear p1; try clear q1; try clear hx1; try clear c2; try clear p2; try clear c3; try clear c4; try clear c5; try clear p6; try clear p14; try clear q14; try clear hx14; try clear p15; try clear q15; try clear hx15; try clear c16; try clear c16b0; try clear c16b1; try clear c18; try clear c21; try clear c22; try clear c22b0; try clear c22b1; try clear c24; try clear c24b0; try clear c24b1; try clear c29; try clear c30; try clear c30b0; try clear c31; try clear c31b0; try clear c33; try clear c33b0; try clear c33b1; try clear c38; try clear c38b0; try clear c39; try clear c39b0; try clear c40; try clear c40b0; try clear c41; try clear c41b0; try clear c42; try clear c42b0; try clear c43; try clear c43b0; try clear c43b1; try clear c47; try clear c47b0; try clear c47b1; try clear c50; try clear c51; try clear c51b0; try clear c51b1; try clear c52; try clear c52b0; try clear c52b1; try clear c53; try clear c53b0; try clear c53b1; try clear c58; try clear hcz34_0 hcz34_1 hcz34_2 hcz34_3 hcz34_4 hcz34_5; try clear hcz36_0 hcz36_1 hcz36_2 hcz36_3 hcz36_4 hcz36_5; try clear hcz46_0 hcz46_1 hcz46_2 hcz46_3 hcz46_4 hcz46_5; try clear hcz50_0 hcz50_1 hcz50_2 hcz50_3 hcz50_4 hcz50_5; try clear hcz54_0 hcz54_1 hcz54_2 hcz54_3 hcz54_4 hcz54_5; try clear hcz55_0 hcz55_1 hcz55_2 hcz55_3 hcz55_4 hcz55_5; try clear hcz56_0 hcz56_1 hcz56_2 hcz56_3 hcz56_4 hcz56_5; try clear hcz57_0 hcz57_1 hcz57_2 hcz57_3 hcz57_4 hcz57_5; try clear hfz34_0 hfz34_1 hfz34_2 hfz34_3 hfz34_4 hfz34_5; try clear hfz36_0 hfz36_1 hfz36_2 hfz36_3 hfz36_4 hfz36_5; try clear hfz46_0 hfz46_1 hfz46_2 hfz46_3 hfz46_4 hfz46_5; try clear hfz50_0 hfz50_1 hfz50_2 hfz50_3 hfz50_4 hfz50_5; try clear hfz54_0 hfz54_1 hfz54_2 hfz54_3 hfz54_4 hfz54_5; try clear hfz55_0 hfz55_1 hfz55_2 hfz55_3 hfz55_4 hfz55_5; try clear hfz56_0 hfz56_1 hfz56_2 hfz56_3 hfz56_4 hfz56_5; try clear hfz57_0 hfz57_1 hfz57_2 hfz57_3 hfz57_4 hfz57_5; try clear hx148_0; try clear hx148_1; try clear hx148_2; try clear hx150_0; try clear hx150_1; try clear hx150_2; try clear hx151_0; try clear hx151_1; try clear hx151_2; try clear p1; try clear p14; try clear p148; try clear p15; try clear p150; try clear p151; try clear p2; try clear p6; try clear q1; try clear q14; try clear q148; try clear q15; try clear q150; try clear q151
 obtain ⟨x5_2, rfl, HA, HK2, BK144, HB⟩ := hrel
 cases gk with
 | zero => exact absurd HA.out (by simp [spec_InodeOk.l2])
 | succ k2 =>
 have H := HA.out
 clear HA
 simp only [spec_InodeOk.l2] at H
 by_cases c59 : x5_2 < (l0_5.length : Int)
 rotate_left
 ·rw [if_neg c59] at H
  have c59b0 := decide_eq_false c59
  clear c59
  obtain rfl := Option.some.inj H
  obtain ⟨hcz80_0, hcz80_1, hcz80_2, hcz80_3, hcz80_4, hcz80_5⟩ := bk6_ BK144.out
  obtain ⟨hfz80_0, hfz80_1, hfz80_2, hfz80_3, hfz80_4, hfz80_5⟩ := bf6_ BK144.out
  go_wp2
  go_ret
  exact ⟨tq_2, th_⟩
 rw [if_pos c59] at H
 have c59b0 := decide_eq_true c59
 clear c59
 obtain ⟨c60, H⟩ := fc_ H
 have c60b0 := decide_eq_true c60
 clear c60
 obtain ⟨t153, A61, H⟩ := bd_ H
 by_cases c62 : t153.toList = ([] : List UInt8)
 ·rw [if_pos c62] at H
  have c62b0 := beq_iff_eq.mpr c62
  have c62b1 := bne_eq_false_iff_eq.mpr c62
  clear c62
  obtain rfl := Option.some.inj H
  obtain ⟨hcz63_0, hcz63_1, hcz63_2, hcz63_3, hcz63_4, hcz63_5⟩ := bk6_ BK144.out
  obtain ⟨hfz63_0, hfz63_1, hfz63_2, hfz63_3, hfz63_4, hfz63_5⟩ := bf6_ BK144.out
  try go_wp2
  have z_ := dw1_ BK144 HB
  clear BK144 HB
  obtain ⟨BK144, HB⟩ := z_
  have p152 : 0 ≤ (x5_2 : Int) := of_decide_eq_true tq_1
  have q152 : x5_2 < (l0_5.length : Int) := of_decide_eq_true tq_1
  obtain ⟨ad152, e152, hx152_0, hx152_1⟩ := at_T47 HR0_5.out x5_2 p152 q152
  have hw152_1 := hx152_1
  have hw152_0 := hx152_0
  cases e152
  replace hx152_0 := hx_ HB.out hx152_0
  replace hx152_1 := hx_ HB.out hx152_1
  replace p152 := eq_true p152
  replace q152 := eq_true q152
  refine start_ (n := 27) (S := fun w' => w'.cell? ⟨gb144, 0, none⟩ = some (.int .i64 a0_0) ∧ w'.cell? ⟨gb144, 1, none⟩ = some (.int .i64 a0_1) ∧ w'.cell? ⟨gb144, 2, none⟩ = some (.int .i64 a0_2) ∧ w'.cell? ⟨gb144, 3, none⟩ = some (.string a0_3) ∧ w'.cell? ⟨gb144, 4, none⟩ = some (.slice A0_4 l0_4.length c0_4) ∧ w'.cell? ⟨gb144, 5, none⟩ = some (.slice (some ad152) l0_5.length c0_5) ∧ w'.cell? (ad152.add ((x5_2).toNat * 2)) = some (.int .i64 ((rd_T47 l0_5 x5_2).f0)) ∧ w'.cell? ⟨(ad152.add ((x5_2).toNat * 2)).block, (ad152.add ((x5_2).toNat * 2)).off + 1, none⟩ = some (.string ((rd_T47 l0_5 x5_2).f1))) (ds := []) bq_34 (by kernel_rfl) rfl rfl (bc6_ BK144.out ⟨((HB.out.cell (World.block_lt_of_cell? w _ hw152_0)).trans hw152_0), ((HB.out.cell (World.block_lt_of_cell? w _ hw152_1)).trans hw152_1)⟩) (fun hHeld => ?_); refine with_tabW spec_InodeOk.tab26 spec_InodeOk.bits26 (fun HT_ HW_ => ?_)
  generalize wr.drew = w64 at BK144 HB hx152_0 hx152_1 hHeld ⊢
  refine yr_ 0 122 bq_35 HT_ ?_
  refine yr_ 2 124 bq_36 HT_ ?_
  refine tr_ 1 123 bq_37 HT_ HW_ hHeld ?_
  refine yr_ 3 125 bq_38 HT_ ?_
  refine tr_ 4 126 bq_39 HT_ HW_ hHeld ?_
  refine one_ (i := 5) (N := some 127) bq_40 rfl rfl (one_of HT_.out (by kernel_rfl)) (by decide) (fun K hK => ?_)
  refine goes_ Tryd.func53 (by kernel_rfl) rfl #[.agg #[.int .i64 ((rd_T47 l0_5 x5_2).f0), .string ((rd_T47 l0_5 x5_2).f1)]] (by rfl) rfl rfl tq_0 ?_
  with_reducible refine (spec_EntryWord.calls k2 ((rd_T47 l0_5 x5_2).f0) ((rd_T47 l0_5 x5_2).f1) t153 _ A61.out).mono ?_
  rintro e w65 ⟨rfl, hb⟩
  refine ⟨_, rfl, ?_⟩
  have z_ := bw1_ (kb_ BK144) th_ hb
  clear BK144 HB
  obtain ⟨BK144, HB⟩ := z_
  (try clear hb)
  refine hK.out _ _ (bc6_ BK144.out ⟨((HB.out.cell (World.block_lt_of_cell? w _ hw152_0)).trans hw152_0), ((HB.out.cell (World.block_lt_of_cell? w _ hw152_1)).trans hw152_1)⟩) (fun hHeld => ?_)
  clear hK K
  refine nm_ (some 127) ?_
  refine yr_ 6 128 bq_41 HT_ ?_
  refine yr_ 7 129 bq_42 HT_ ?_
  refine ur_ 8 130 bq_43 HT_ ?_
  refine ur_ 9 131 bq_44 HT_ ?_
  refine ur_ 10 132 bq_45 HT_ ?_
  refine ur_ 11 133 bq_46 HT_ ?_
  refine ur_ 12 134 bq_105 HT_ ?_
  refine ur_ 13 135 bq_106 HT_ ?_
  refine ur_ 14 136 bq_107 HT_ ?_
  refine ur_ 15 137 bq_108 HT_ ?_
  refine ur_ 16 138 bq_109 HT_ ?_
  refine ur_ 17 139 bq_110 HT_ ?_
  refine ur_ 18 140 bq_111 HT_ ?_
  refine ur_ 19 141 bq_112 HT_ ?_
  refine ur_ 20 142 bq_47 HT_ ?_
  refine ur_ 21 143 bq_48 HT_ ?_
  refine ur_ 22 144 bq_49 HT_ ?_
  refine ur_ 23 145 bq_50 HT_ ?_
  refine ur_ 24 146 bq_51 HT_ ?_
  refine ur_ 25 147 bq_52 HT_ ?_
  refine yr_ 26 148 bq_53 HT_ ?_
  refine done_ (done_of HT_.out (by kernel_rfl)) ?_
  try go_wp2
  go_ret
  exact ⟨tq_2, th_⟩
 rw [if_neg c62] at H
 have c62b0 := beq_eq_false_iff_ne.mpr c62
 have c62b1 := bne_iff_ne.mpr c62
 by_cases c66 : x5_2 > 0
 rotate_left
 ·rw [if_neg c66] at H
  have c66b0 := decide_eq_false c66
  clear c66
  have H' := Aside0.mk H
  clear H
  obtain ⟨hcz77_0, hcz77_1, hcz77_2, hcz77_3, hcz77_4, hcz77_5⟩ := bk6_ BK144.out
  obtain ⟨hfz77_0, hfz77_1, hfz77_2, hfz77_3, hfz77_4, hfz77_5⟩ := bf6_ BK144.out
  try go_wp2
  have z_ := dw1_ BK144 HB
  clear BK144 HB
  obtain ⟨BK144, HB⟩ := z_
  have p152 : 0 ≤ (x5_2 : Int) := of_decide_eq_true tq_1
  have q152 : x5_2 < (l0_5.length : Int) := of_decide_eq_true tq_1
  obtain ⟨ad152, e152, hx152_0, hx152_1⟩ := at_T47 HR0_5.out x5_2 p152 q152
  have hw152_1 := hx152_1
  have hw152_0 := hx152_0
  cases e152
  replace hx152_0 := hx_ HB.out hx152_0
  replace hx152_1 := hx_ HB.out hx152_1
  replace p152 := eq_true p152
  replace q152 := eq_true q152
  refine start_ (n := 27) (S := fun w' => w'.cell? ⟨gb144, 0, none⟩ = some (.int .i64 a0_0) ∧ w'.cell? ⟨gb144, 1, none⟩ = some (.int .i64 a0_1) ∧ w'.cell? ⟨gb144, 2, none⟩ = some (.int .i64 a0_2) ∧ w'.cell? ⟨gb144, 3, none⟩ = some (.string a0_3) ∧ w'.cell? ⟨gb144, 4, none⟩ = some (.slice A0_4 l0_4.length c0_4) ∧ w'.cell? ⟨gb144, 5, none⟩ = some (.slice (some ad152) l0_5.length c0_5) ∧ w'.cell? (ad152.add ((x5_2).toNat * 2)) = some (.int .i64 ((rd_T47 l0_5 x5_2).f0)) ∧ w'.cell? ⟨(ad152.add ((x5_2).toNat * 2)).block, (ad152.add ((x5_2).toNat * 2)).off + 1, none⟩ = some (.string ((rd_T47 l0_5 x5_2).f1))) (ds := []) bq_34 (by kernel_rfl) rfl rfl (bc6_ BK144.out ⟨((HB.out.cell (World.block_lt_of_cell? w _ hw152_0)).trans hw152_0), ((HB.out.cell (World.block_lt_of_cell? w _ hw152_1)).trans hw152_1)⟩) (fun hHeld => ?_); refine with_tabW spec_InodeOk.tab26 spec_InodeOk.bits26 (fun HT_ HW_ => ?_)
  generalize wr.drew = w78 at BK144 HB hx152_0 hx152_1 hHeld ⊢
  refine yr_ 0 122 bq_35 HT_ ?_
  refine yr_ 2 124 bq_36 HT_ ?_
  refine tr_ 1 123 bq_37 HT_ HW_ hHeld ?_
  refine yr_ 3 125 bq_38 HT_ ?_
  refine tr_ 4 126 bq_39 HT_ HW_ hHeld ?_
  refine one_ (i := 5) (N := some 127) bq_40 rfl rfl (one_of HT_.out (by kernel_rfl)) (by decide) (fun K hK => ?_)
  refine goes_ Tryd.func53 (by kernel_rfl) rfl #[.agg #[.int .i64 ((rd_T47 l0_5 x5_2).f0), .string ((rd_T47 l0_5 x5_2).f1)]] (by rfl) rfl rfl tq_0 ?_
  with_reducible refine (spec_EntryWord.calls k2 ((rd_T47 l0_5 x5_2).f0) ((rd_T47 l0_5 x5_2).f1) t153 _ A61.out).mono ?_
  rintro e w79 ⟨rfl, hb⟩
  refine ⟨_, rfl, ?_⟩
  have z_ := bw1_ (kb_ BK144) th_ hb
  clear BK144 HB
  obtain ⟨BK144, HB⟩ := z_
  (try clear hb)
  refine hK.out _ _ (bc6_ BK144.out ⟨((HB.out.cell (World.block_lt_of_cell? w _ hw152_0)).trans hw152_0), ((HB.out.cell (World.block_lt_of_cell? w _ hw152_1)).trans hw152_1)⟩) (fun hHeld => ?_)
  clear hK K
  refine nm_ (some 127) ?_
  refine yr_ 6 128 bq_41 HT_ ?_
  refine yr_ 7 129 bq_42 HT_ ?_
  refine yr_ 8 130 bq_43 HT_ ?_
  refine yr_ 9 131 bq_44 HT_ ?_
  refine yr_ 10 132 bq_45 HT_ ?_
  refine ur_ 11 133 bq_46 HT_ ?_
  refine ur_ 12 134 bq_105 HT_ ?_
  refine ur_ 13 135 bq_106 HT_ ?_
  refine ur_ 14 136 bq_107 HT_ ?_
  refine ur_ 15 137 bq_108 HT_ ?_
  refine ur_ 16 138 bq_109 HT_ ?_
  refine ur_ 17 139 bq_110 HT_ ?_
  refine ur_ 18 140 bq_111 HT_ ?_
  refine ur_ 19 141 bq_112 HT_ ?_
  refine ur_ 20 142 bq_47 HT_ ?_
  refine ur_ 21 143 bq_48 HT_ ?_
  refine ur_ 22 144 bq_49 HT_ ?_
  refine ur_ 23 145 bq_50 HT_ ?_
  refine ur_ 24 146 bq_51 HT_ ?_
  refine yr_ 25 147 bq_52 HT_ ?_
  refine yr_ 26 148 bq_53 HT_ ?_
  refine done_ (done_of HT_.out (by kernel_rfl)) ?_
  try go_wp2
  go_roundg k2
  case measure => have := HJ47.out; have := HK2.out; omega
  case rel => exact ⟨(wrap64 (x5_2 + 1)), tq_4, H', ⟨(by have := HJ47.out; have := HK2.out; omega)⟩, ⟨(kb_ BK144)⟩, ⟨th_⟩⟩
 rw [if_pos c66] at H
 have c66b0 := decide_eq_true c66
 clear c66
 obtain ⟨ji67, hji67⟩ : ∃ j_ : Int, (wrap64 (x5_2 - 1)) = j_ := ⟨_, rfl⟩
 replace H : (if 0 ≤ (ji67) then (if (ji67) < (l0_5.length : Int) then (if ((Op.bytesLess (((rd_T47 l0_5 (ji67)).f1).toList) (((rd_T47 l0_5 x5_2).f1).toList)) = true) then (spec_InodeOk.l2 k2 (wrap64 (x5_2 + 1)) a0_0 a0_1 a0_2 a0_3 l0_4 l0_5) else (some false)) else (none)) else (none)) = some r := by first | (rw [hji67] at H; exact H) | (simp only [hji67] at H ⊢; exact H)
 (try rw [hji67] at A61)
 have hji67w : (IntKind.i64.wrap (x5_2 - 1)) = ji67 := (i64_w _).trans hji67
 obtain ⟨c68, H⟩ := fc_ H
 have c68b0 := decide_eq_true c68
 clear c68
 obtain ⟨c69, H⟩ := fc_ H
 have c69b0 := decide_eq_true c69
 clear c69
 by_cases c70 : ((Op.bytesLess (((rd_T47 l0_5 (ji67)).f1).toList) (((rd_T47 l0_5 x5_2).f1).toList)) = true)
 rotate_left
 ·rw [if_neg c70] at H
  have c70b0 : (Op.bytesLess (((rd_T47 l0_5 (ji67)).f1).toList) (((rd_T47 l0_5 x5_2).f1).toList)) = false := by simpa using c70
  have c70b0q : (Op.bytesLess (((rd_T47 l0_5 x5_2).f1).toList) (((rd_T47 l0_5 (ji67)).f1).toList) || ((((rd_T47 l0_5 x5_2).f1).toList) == (((rd_T47 l0_5 (ji67)).f1).toList))) = true := by rw [bl_leq, c70b0]; rfl
  clear c70
  obtain rfl := Option.some.inj H
  obtain ⟨hcz74_0, hcz74_1, hcz74_2, hcz74_3, hcz74_4, hcz74_5⟩ := bk6_ BK144.out
  obtain ⟨hfz74_0, hfz74_1, hfz74_2, hfz74_3, hfz74_4, hfz74_5⟩ := bf6_ BK144.out
  try go_wp2
  have z_ := dw1_ BK144 HB
  clear BK144 HB
  obtain ⟨BK144, HB⟩ := z_
  have p152 : 0 ≤ (x5_2 : Int) := of_decide_eq_true tq_1
  have q152 : x5_2 < (l0_5.length : Int) := of_decide_eq_true tq_1
  obtain ⟨ad152, e152, hx152_0, hx152_1⟩ := at_T47 HR0_5.out x5_2 p152 q152
  have hw152_1 := hx152_1
  have hw152_0 := hx152_0
  cases e152
  replace hx152_0 := hx_ HB.out hx152_0
  replace hx152_1 := hx_ HB.out hx152_1
  replace p152 := eq_true p152
  replace q152 := eq_true q152
  have p154 : 0 ≤ ((ji67) : Int) := of_decide_eq_true tq_1
  have q154 : (ji67) < (l0_5.length : Int) := of_decide_eq_true tq_1
  obtain ⟨ad154, e154, hx154_0, hx154_1⟩ := at_T47 HR0_5.out (ji67) p154 q154
  have hw154_1 := hx154_1
  have hw154_0 := hx154_0
  obtain rfl : ad152 = ad154 := (by injection e154)
  replace hx154_0 := hx_ HB.out hx154_0
  replace hx154_1 := hx_ HB.out hx154_1
  replace p154 := eq_true p154
  replace q154 := eq_true q154
  have p155 : 0 ≤ (x5_2 : Int) := of_decide_eq_true tq_1
  have q155 : x5_2 < (l0_5.length : Int) := of_decide_eq_true tq_1
  obtain ⟨ad155, e155, hx155_0, hx155_1⟩ := at_T47 HR0_5.out x5_2 p155 q155
  have hw155_1 := hx155_1
  have hw155_0 := hx155_0
  obtain rfl : ad152 = ad155 := (by injection e155)
  replace hx155_0 := hx_ HB.out hx155_0
  replace hx155_1 := hx_ HB.out hx155_1
  replace p155 := eq_true p155
  replace q155 := eq_true q155
  refine start_ (n := 27) (S := fun w' => w'.cell? ⟨gb144, 0, none⟩ = some (.int .i64 a0_0) ∧ w'.cell? ⟨gb144, 1, none⟩ = some (.int .i64 a0_1) ∧ w'.cell? ⟨gb144, 2, none⟩ = some (.int .i64 a0_2) ∧ w'.cell? ⟨gb144, 3, none⟩ = some (.string a0_3) ∧ w'.cell? ⟨gb144, 4, none⟩ = some (.slice A0_4 l0_4.length c0_4) ∧ w'.cell? ⟨gb144, 5, none⟩ = some (.slice (some ad152) l0_5.length c0_5) ∧ w'.cell? (ad152.add ((x5_2).toNat * 2)) = some (.int .i64 ((rd_T47 l0_5 x5_2).f0)) ∧ w'.cell? ⟨(ad152.add ((x5_2).toNat * 2)).block, (ad152.add ((x5_2).toNat * 2)).off + 1, none⟩ = some (.string ((rd_T47 l0_5 x5_2).f1)) ∧ w'.cell? (ad152.add (((ji67)).toNat * 2)) = some (.int .i64 ((rd_T47 l0_5 (ji67)).f0)) ∧ w'.cell? ⟨(ad152.add (((ji67)).toNat * 2)).block, (ad152.add (((ji67)).toNat * 2)).off + 1, none⟩ = some (.string ((rd_T47 l0_5 (ji67)).f1)) ∧ w'.cell? (ad152.add ((x5_2).toNat * 2)) = some (.int .i64 ((rd_T47 l0_5 x5_2).f0)) ∧ w'.cell? ⟨(ad152.add ((x5_2).toNat * 2)).block, (ad152.add ((x5_2).toNat * 2)).off + 1, none⟩ = some (.string ((rd_T47 l0_5 x5_2).f1))) (ds := []) bq_34 (by kernel_rfl) rfl rfl (bc6_ BK144.out ⟨((HB.out.cell (World.block_lt_of_cell? w _ hw152_0)).trans hw152_0), ((HB.out.cell (World.block_lt_of_cell? w _ hw152_1)).trans hw152_1), ((HB.out.cell (World.block_lt_of_cell? w _ hw154_0)).trans hw154_0), ((HB.out.cell (World.block_lt_of_cell? w _ hw154_1)).trans hw154_1), ((HB.out.cell (World.block_lt_of_cell? w _ hw155_0)).trans hw155_0), ((HB.out.cell (World.block_lt_of_cell? w _ hw155_1)).trans hw155_1)⟩) (fun hHeld => ?_); refine with_tabW spec_InodeOk.tab26 spec_InodeOk.bits26 (fun HT_ HW_ => ?_)
  generalize wr.drew = w75 at BK144 HB hx152_0 hx152_1 hx154_0 hx154_1 hx155_0 hx155_1 hHeld ⊢
  refine yr_ 0 122 bq_35 HT_ ?_
  refine yr_ 2 124 bq_36 HT_ ?_
  refine tr_ 1 123 bq_37 HT_ HW_ hHeld ?_
  refine yr_ 3 125 bq_38 HT_ ?_
  refine tr_ 4 126 bq_39 HT_ HW_ hHeld ?_
  refine one_ (i := 5) (N := some 127) bq_40 rfl rfl (one_of HT_.out (by kernel_rfl)) (by decide) (fun K hK => ?_)
  refine goes_ Tryd.func53 (by kernel_rfl) rfl #[.agg #[.int .i64 ((rd_T47 l0_5 x5_2).f0), .string ((rd_T47 l0_5 x5_2).f1)]] (by rfl) rfl rfl tq_0 ?_
  with_reducible refine (spec_EntryWord.calls k2 ((rd_T47 l0_5 x5_2).f0) ((rd_T47 l0_5 x5_2).f1) t153 _ A61.out).mono ?_
  rintro e w76 ⟨rfl, hb⟩
  refine ⟨_, rfl, ?_⟩
  have z_ := bw1_ (kb_ BK144) th_ hb
  clear BK144 HB
  obtain ⟨BK144, HB⟩ := z_
  (try clear hb)
  refine hK.out _ _ (bc6_ BK144.out ⟨((HB.out.cell (World.block_lt_of_cell? w _ hw152_0)).trans hw152_0), ((HB.out.cell (World.block_lt_of_cell? w _ hw152_1)).trans hw152_1), ((HB.out.cell (World.block_lt_of_cell? w _ hw154_0)).trans hw154_0), ((HB.out.cell (World.block_lt_of_cell? w _ hw154_1)).trans hw154_1), ((HB.out.cell (World.block_lt_of_cell? w _ hw155_0)).trans hw155_0), ((HB.out.cell (World.block_lt_of_cell? w _ hw155_1)).trans hw155_1)⟩) (fun hHeld => ?_)
  clear hK K
  refine nm_ (some 127) ?_
  refine yr_ 6 128 bq_41 HT_ ?_
  refine yr_ 7 129 bq_42 HT_ ?_
  refine yr_ 8 130 bq_43 HT_ ?_
  refine yr_ 9 131 bq_44 HT_ ?_
  refine yr_ 10 132 bq_45 HT_ ?_
  refine yr_ 11 133 bq_46 HT_ ?_
  refine yr_ 13 135 bq_113 HT_ ?_
  refine yr_ 14 136 bq_114 HT_ ?_
  refine yr_ 18 140 bq_115 HT_ ?_
  refine yr_ 20 142 bq_116 HT_ ?_
  refine tr_ 12 134 bq_117 HT_ HW_ hHeld ?_
  refine yr_ 15 137 bq_118 HT_ ?_
  refine yr_ 16 138 bq_119 HT_ ?_
  refine tr_ 17 139 bq_120 HT_ HW_ hHeld ?_
  refine tr_ 19 141 bq_47 HT_ HW_ hHeld ?_
  refine yr_ 21 143 bq_48 HT_ ?_
  refine yr_ 22 144 bq_49 HT_ ?_
  refine tr_ 23 145 bq_50 HT_ HW_ hHeld ?_
  refine yr_ 24 146 bq_51 HT_ ?_
  refine yr_ 25 147 bq_52 HT_ ?_
  refine yr_ 26 148 bq_53 HT_ ?_
  refine done_ (done_of HT_.out (by kernel_rfl)) ?_
  try go_wp2
  go_ret
  exact ⟨(by first | rfl | (simp [errW_none, errW_some] <;> rfl) | (simp only [← hji67]; first | rfl | (simp [errW_none, errW_some] <;> rfl)) | (simp [*, errW_none, errW_some] <;> rfl)), th_⟩
 rw [if_pos c70] at H
 have c70b0 : (Op.bytesLess (((rd_T47 l0_5 (ji67)).f1).toList) (((rd_T47 l0_5 x5_2).f1).toList)) = true := c70
 have c70b0q : (Op.bytesLess (((rd_T47 l0_5 x5_2).f1).toList) (((rd_T47 l0_5 (ji67)).f1).toList) || ((((rd_T47 l0_5 x5_2).f1).toList) == (((rd_T47 l0_5 (ji67)).f1).toList))) = false := by rw [bl_leq, c70b0]; rfl
 clear c70
 have H' := Aside0.mk H
 clear H
 obtain ⟨hcz71_0, hcz71_1, hcz71_2, hcz71_3, hcz71_4, hcz71_5⟩ := bk6_ BK144.out
 obtain ⟨hfz71_0, hfz71_1, hfz71_2, hfz71_3, hfz71_4, hfz71_5⟩ := bf6_ BK144.out
 try go_wp2
 have z_ := dw1_ BK144 HB
 clear BK144 HB
 obtain ⟨BK144, HB⟩ := z_
 have p152 : 0 ≤ (x5_2 : Int) := of_decide_eq_true tq_1
 have q152 : x5_2 < (l0_5.length : Int) := of_decide_eq_true tq_1
 obtain ⟨ad152, e152, hx152_0, hx152_1⟩ := at_T47 HR0_5.out x5_2 p152 q152
 have hw152_1 := hx152_1
 have hw152_0 := hx152_0
 cases e152
 replace hx152_0 := hx_ HB.out hx152_0
 replace hx152_1 := hx_ HB.out hx152_1
 replace p152 := eq_true p152
 replace q152 := eq_true q152
 have p154 : 0 ≤ ((ji67) : Int) := of_decide_eq_true tq_1
 have q154 : (ji67) < (l0_5.length : Int) := of_decide_eq_true tq_1
 obtain ⟨ad154, e154, hx154_0, hx154_1⟩ := at_T47 HR0_5.out (ji67) p154 q154
 have hw154_1 := hx154_1
 have hw154_0 := hx154_0
 obtain rfl : ad152 = ad154 := (by injection e154)
 replace hx154_0 := hx_ HB.out hx154_0
 replace hx154_1 := hx_ HB.out hx154_1
 replace p154 := eq_true p154
 replace q154 := eq_true q154
 have p155 : 0 ≤ (x5_2 : Int) := of_decide_eq_true tq_1
 have q155 : x5_2 < (l0_5.length : Int) := of_decide_eq_true tq_1
 obtain ⟨ad155, e155, hx155_0, hx155_1⟩ := at_T47 HR0_5.out x5_2 p155 q155
 have hw155_1 := hx155_1
 have hw155_0 := hx155_0
 obtain rfl : ad152 = ad155 := (by injection e155)
 replace hx155_0 := hx_ HB.out hx155_0
 replace hx155_1 := hx_ HB.out hx155_1
 replace p155 := eq_true p155
 replace q155 := eq_true q155
 refine start_ (n := 27) (S := fun w' => w'.cell? ⟨gb144, 0, none⟩ = some (.int .i64 a0_0) ∧ w'.cell? ⟨gb144, 1, none⟩ = some (.int .i64 a0_1) ∧ w'.cell? ⟨gb144, 2, none⟩ = some (.int .i64 a0_2) ∧ w'.cell? ⟨gb144, 3, none⟩ = some (.string a0_3) ∧ w'.cell? ⟨gb144, 4, none⟩ = some (.slice A0_4 l0_4.length c0_4) ∧ w'.cell? ⟨gb144, 5, none⟩ = some (.slice (some ad152) l0_5.length c0_5) ∧ w'.cell? (ad152.add ((x5_2).toNat * 2)) = some (.int .i64 ((rd_T47 l0_5 x5_2).f0)) ∧ w'.cell? ⟨(ad152.add ((x5_2).toNat * 2)).block, (ad152.add ((x5_2).toNat * 2)).off + 1, none⟩ = some (.string ((rd_T47 l0_5 x5_2).f1)) ∧ w'.cell? (ad152.add (((ji67)).toNat * 2)) = some (.int .i64 ((rd_T47 l0_5 (ji67)).f0)) ∧ w'.cell? ⟨(ad152.add (((ji67)).toNat * 2)).block, (ad152.add (((ji67)).toNat * 2)).off + 1, none⟩ = some (.string ((rd_T47 l0_5 (ji67)).f1)) ∧ w'.cell? (ad152.add ((x5_2).toNat * 2)) = some (.int .i64 ((rd_T47 l0_5 x5_2).f0)) ∧ w'.cell? ⟨(ad152.add ((x5_2).toNat * 2)).block, (ad152.add ((x5_2).toNat * 2)).off + 1, none⟩ = some (.string ((rd_T47 l0_5 x5_2).f1))) (ds := []) bq_34 (by kernel_rfl) rfl rfl (bc6_ BK144.out ⟨((HB.out.cell (World.block_lt_of_cell? w _ hw152_0)).trans hw152_0), ((HB.out.cell (World.block_lt_of_cell? w _ hw152_1)).trans hw152_1), ((HB.out.cell (World.block_lt_of_cell? w _ hw154_0)).trans hw154_0), ((HB.out.cell (World.block_lt_of_cell? w _ hw154_1)).trans hw154_1), ((HB.out.cell (World.block_lt_of_cell? w _ hw155_0)).trans hw155_0), ((HB.out.cell (World.block_lt_of_cell? w _ hw155_1)).trans hw155_1)⟩) (fun hHeld => ?_); refine with_tabW spec_InodeOk.tab26 spec_InodeOk.bits26 (fun HT_ HW_ => ?_)
 generalize wr.drew = w72 at BK144 HB hx152_0 hx152_1 hx154_0 hx154_1 hx155_0 hx155_1 hHeld ⊢
 refine yr_ 0 122 bq_35 HT_ ?_
 refine yr_ 2 124 bq_36 HT_ ?_
 refine tr_ 1 123 bq_37 HT_ HW_ hHeld ?_
 refine yr_ 3 125 bq_38 HT_ ?_
 refine tr_ 4 126 bq_39 HT_ HW_ hHeld ?_
 refine one_ (i := 5) (N := some 127) bq_40 rfl rfl (one_of HT_.out (by kernel_rfl)) (by decide) (fun K hK => ?_)
 refine goes_ Tryd.func53 (by kernel_rfl) rfl #[.agg #[.int .i64 ((rd_T47 l0_5 x5_2).f0), .string ((rd_T47 l0_5 x5_2).f1)]] (by rfl) rfl rfl tq_0 ?_
 with_reducible refine (spec_EntryWord.calls k2 ((rd_T47 l0_5 x5_2).f0) ((rd_T47 l0_5 x5_2).f1) t153 _ A61.out).mono ?_
 rintro e w73 ⟨rfl, hb⟩
 refine ⟨_, rfl, ?_⟩
 have z_ := bw1_ (kb_ BK144) th_ hb
 clear BK144 HB
 obtain ⟨BK144, HB⟩ := z_
 (try clear hb)
 refine hK.out _ _ (bc6_ BK144.out ⟨((HB.out.cell (World.block_lt_of_cell? w _ hw152_0)).trans hw152_0), ((HB.out.cell (World.block_lt_of_cell? w _ hw152_1)).trans hw152_1), ((HB.out.cell (World.block_lt_of_cell? w _ hw154_0)).trans hw154_0), ((HB.out.cell (World.block_lt_of_cell? w _ hw154_1)).trans hw154_1), ((HB.out.cell (World.block_lt_of_cell? w _ hw155_0)).trans hw155_0), ((HB.out.cell (World.block_lt_of_cell? w _ hw155_1)).trans hw155_1)⟩) (fun hHeld => ?_)
 clear hK K
 refine nm_ (some 127) ?_
 refine yr_ 6 128 bq_41 HT_ ?_
 refine yr_ 7 129 bq_42 HT_ ?_
 refine yr_ 8 130 bq_43 HT_ ?_
 refine yr_ 9 131 bq_44 HT_ ?_
 refine yr_ 10 132 bq_45 HT_ ?_
 refine yr_ 11 133 bq_46 HT_ ?_
 refine yr_ 13 135 bq_113 HT_ ?_
 refine yr_ 14 136 bq_114 HT_ ?_
 refine yr_ 18 140 bq_115 HT_ ?_
 refine yr_ 20 142 bq_116 HT_ ?_
 refine tr_ 12 134 bq_117 HT_ HW_ hHeld ?_
 refine yr_ 15 137 bq_118 HT_ ?_
 refine yr_ 16 138 bq_119 HT_ ?_
 refine tr_ 17 139 bq_120 HT_ HW_ hHeld ?_
 refine tr_ 19 141 bq_47 HT_ HW_ hHeld ?_
 refine yr_ 21 143 bq_48 HT_ ?_
 refine yr_ 22 144 bq_49 HT_ ?_
 refine tr_ 23 145 bq_50 HT_ HW_ hHeld ?_
 refine yr_ 24 146 bq_51 HT_ ?_
 refine yr_ 25 147 bq_52 HT_ ?_
 refine yr_ 26 148 bq_53 HT_ ?_
 refine done_ (done_of HT_.out (by kernel_rfl)) ?_
 try go_wp2
 go_roundg k2
 case measure => have := HJ47.out; have := HK2.out; omega
 case rel => exact ⟨(wrap64 (x5_2 + 1)), tq_4, H', ⟨(by have := HJ47.out; have := HK2.out; omega)⟩, ⟨(kb_ BK144)⟩, ⟨th_⟩⟩

end Go.Proofs.YtjfhddenmnjgbaaDoor.PFnAnyInode
