/- Contracts of Go functions, written by a program of ours over the print of the kit: each says that the call returns what the Lean function beside it computes. Conditions: as each theorem states them. -/
import Derived.Test.YtcdnfkoahajhhaaPkFnExactInodeWords
import Derived.Test.YtcdnfkoahajhhaaPFnExactInodeWordsx0
import Derived.Test.YtcdnfkoahajhhaaPFnExactInodeWordsx3
import Derived.Test.YtcdnfkoahajhhaaPFnExactInodeWordsx4
import Derived.Test.YtcdnfkoahajhhaaPFnExactInodeWordsx5
namespace Go.Proofs.Ytcdnfkoahajhhaa.PFnExactInodeWords
open Go.RowKit Go.Proofs.YtcdnfkoahajhhaaW.PrintWords Go.Proofs.YtcdnfkoahajhhaaW.PrintLast Go.Proofs.YtcdnfkoahajhhaaW.PrintMore
attribute [local go_sem] max2_int min2_int max_two min_two max_three min_three max_four min_four   -- for this text's walks alone
set_option linter.unusedVariables false
set_option linter.unusedSimpArgs false

/-! ### spec_InodeOk: function 147 -/
mutual
def spec_InodeOk.j0 : Nat → Bool → Int → Int → Int → ByteArray → List (S170) → List (S59) → Option (Bool)
 | 0, _, _, _, _, _, _, _ => none
 | k + 1, x60, x197000, x197001, x197002, x197003, x197004, x197005 => if x60 = true then (some false) else (spec_InodeOk.l0 k 0 x197000 x197001 x197002 x197003 x197004 x197005)
def spec_InodeOk.l0 : Nat → Int → Int → Int → Int → ByteArray → List (S170) → List (S59) → Option (Bool)
 | 0, _, _, _, _, _, _, _ => none
 | k + 1, x3, x197000, x197001, x197002, x197003, x197004, x197005 => if x3 < (x197004.length : Int) then (if 0 ≤ x3 then ((spec_RecWord.f k ((rd_T170 x197004 x3).f0) ((rd_T170 x197004 x3).f1) ((rd_T170 x197004 x3).f2)).bind fun t201 => (if t201.toList = ([] : List UInt8) then (some false) else (spec_InodeOk.l1 k x3 0 x197000 x197001 x197002 x197003 x197004 x197005))) else (none)) else (some true)
def spec_InodeOk.l1 : Nat → Int → Int → Int → Int → Int → ByteArray → List (S170) → List (S59) → Option (Bool)
 | 0, _, _, _, _, _, _, _, _ => none
 | k + 1, x3, x4, x197000, x197001, x197002, x197003, x197004, x197005 => if x4 < x3 then (if 0 ≤ x4 then (if x4 < (x197004.length : Int) then (if 0 ≤ x3 then (if x3 < (x197004.length : Int) then (if ((rd_T170 x197004 x4).f0) = ((rd_T170 x197004 x3).f0) then (some false) else (spec_InodeOk.l1 k x3 (wrap64 (x4 + 1)) x197000 x197001 x197002 x197003 x197004 x197005)) else (none)) else (none)) else (none)) else (none)) else (spec_InodeOk.l0 k (wrap64 (x3 + 1)) x197000 x197001 x197002 x197003 x197004 x197005)
def spec_InodeOk.j3 : Nat → Bool → Int → Int → Int → ByteArray → List (S170) → List (S59) → Option (Bool)
 | 0, _, _, _, _, _, _, _ => none
 | k + 1, x114, x197000, x197001, x197002, x197003, x197004, x197005 => if x114 = true then (some false) else (spec_InodeOk.l2 k 0 x197000 x197001 x197002 x197003 x197004 x197005)
def spec_InodeOk.l2 : Nat → Int → Int → Int → Int → ByteArray → List (S170) → List (S59) → Option (Bool)
 | 0, _, _, _, _, _, _, _ => none
 | k + 1, x5, x197000, x197001, x197002, x197003, x197004, x197005 => if x5 < (x197005.length : Int) then (if 0 ≤ x5 then ((spec_EntryWord.f k ((rd_T59 x197005 x5).f0) ((rd_T59 x197005 x5).f1)).bind fun t205 => (if t205.toList = ([] : List UInt8) then (some false) else (if x5 > 0 then (if 0 ≤ (wrap64 (x5 - 1)) then (if (wrap64 (x5 - 1)) < (x197005.length : Int) then (if ((Op.bytesLess (((rd_T59 x197005 (wrap64 (x5 - 1))).f1).toList) (((rd_T59 x197005 x5).f1).toList)) = true) then (spec_InodeOk.l2 k (wrap64 (x5 + 1)) x197000 x197001 x197002 x197003 x197004 x197005) else (some false)) else (none)) else (none)) else (spec_InodeOk.l2 k (wrap64 (x5 + 1)) x197000 x197001 x197002 x197003 x197004 x197005)))) else (none)) else (some true)
end
def spec_InodeOk.f (k : Nat) (a0_0 : Int) (a0_1 : Int) (a0_2 : Int) (a0_3 : ByteArray) (l0_4 : List (S170)) (l0_5 : List (S59)) : Option (Bool) := (spec_l01In.f a0_2 0 65535).bind fun t197 => (if t197 = true then (if a0_0 = 0 then (if a0_1 = 0 then (if a0_3.toList = ([] : List UInt8) then (if (l0_4.length : Int) = 0 then (some ((l0_5.length : Int) == 0)) else (some false)) else (some false)) else (some false)) else (if a0_0 = 1 then ((spec_l01In.f a0_1 0 128).bind fun t198 => (if t198 = true then (if (a0_3.size : Int) = 8 then ((spec_PagesFor.f a0_1).bind fun t199 => (if (l0_4.length : Int) = t199 then (spec_InodeOk.j0 k (decide ((l0_5.length : Int) > 0)) a0_0 a0_1 a0_2 a0_3 l0_4 l0_5) else (spec_InodeOk.j0 k true a0_0 a0_1 a0_2 a0_3 l0_4 l0_5))) else (spec_InodeOk.j0 k true a0_0 a0_1 a0_2 a0_3 l0_4 l0_5)) else (spec_InodeOk.j0 k true a0_0 a0_1 a0_2 a0_3 l0_4 l0_5))) else (if a0_0 = 2 then (if a0_1 = 0 then (if a0_3.toList = ([] : List UInt8) then (if (l0_4.length : Int) > 0 then (spec_InodeOk.j3 k true a0_0 a0_1 a0_2 a0_3 l0_4 l0_5) else (spec_InodeOk.j3 k (decide ((l0_5.length : Int) > 6)) a0_0 a0_1 a0_2 a0_3 l0_4 l0_5)) else (spec_InodeOk.j3 k true a0_0 a0_1 a0_2 a0_3 l0_4 l0_5)) else (spec_InodeOk.j3 k true a0_0 a0_1 a0_2 a0_3 l0_4 l0_5)) else (some false)))) else (some false))
theorem spec_InodeOk.mono_l : ∀ k, (∀ y0 y1 y2 y3 y4 y5 y6, LeO (spec_InodeOk.j0 k y0 y1 y2 y3 y4 y5 y6) (spec_InodeOk.j0 (k + 1) y0 y1 y2 y3 y4 y5 y6)) ∧ (∀ y0 y1 y2 y3 y4 y5 y6, LeO (spec_InodeOk.l0 k y0 y1 y2 y3 y4 y5 y6) (spec_InodeOk.l0 (k + 1) y0 y1 y2 y3 y4 y5 y6)) ∧ (∀ y0 y1 y2 y3 y4 y5 y6 y7, LeO (spec_InodeOk.l1 k y0 y1 y2 y3 y4 y5 y6 y7) (spec_InodeOk.l1 (k + 1) y0 y1 y2 y3 y4 y5 y6 y7)) ∧ (∀ y0 y1 y2 y3 y4 y5 y6, LeO (spec_InodeOk.j3 k y0 y1 y2 y3 y4 y5 y6) (spec_InodeOk.j3 (k + 1) y0 y1 y2 y3 y4 y5 y6)) ∧ (∀ y0 y1 y2 y3 y4 y5 y6, LeO (spec_InodeOk.l2 k y0 y1 y2 y3 y4 y5 y6) (spec_InodeOk.l2 (k + 1) y0 y1 y2 y3 y4 y5 y6))
 | 0 => ⟨fun _ _ _ _ _ _ _ r h => by simp [spec_InodeOk.j0] at h, fun _ _ _ _ _ _ _ r h => by simp [spec_InodeOk.l0] at h, fun _ _ _ _ _ _ _ _ r h => by simp [spec_InodeOk.l1] at h, fun _ _ _ _ _ _ _ r h => by simp [spec_InodeOk.j3] at h, fun _ _ _ _ _ _ _ r h => by simp [spec_InodeOk.l2] at h⟩
 | k + 1 => by
  obtain ⟨ih0, ih1, ih2, ih3, ih4⟩ := spec_InodeOk.mono_l k
  refine ⟨?_, ?_, ?_, ?_, ?_⟩
  ·intro y0 y1 y2 y3 y4 y5 y6
   unfold spec_InodeOk.j0
   repeat' first
   | (with_reducible exact ih0 ..)
   | (with_reducible exact ih1 ..)
   | (with_reducible exact ih2 ..)
   | (with_reducible exact ih3 ..)
   | (with_reducible exact ih4 ..)
   | (with_reducible exact spec_EntryWord.mono ..)
   | (with_reducible exact spec_RecWord.mono ..)
   | (with_reducible exact LeO.refl _)
   | (with_reducible exact LeO.none _)
   | (with_reducible refine LeO.ite ?_ ?_)
   | (with_reducible refine LeO.bind ?_ (fun _ => ?_))
   | exact ih0 ..
   | exact ih1 ..
   | exact ih2 ..
   | exact ih3 ..
   | exact ih4 ..
   | exact spec_EntryWord.mono ..
   | exact spec_RecWord.mono ..
   | exact LeO.none _
   | refine LeO.ite ?_ ?_
   | refine LeO.bind ?_ (fun _ => ?_)
  ·intro y0 y1 y2 y3 y4 y5 y6
   unfold spec_InodeOk.l0
   repeat' first
   | (with_reducible exact ih0 ..)
   | (with_reducible exact ih1 ..)
   | (with_reducible exact ih2 ..)
   | (with_reducible exact ih3 ..)
   | (with_reducible exact ih4 ..)
   | (with_reducible exact spec_EntryWord.mono ..)
   | (with_reducible exact spec_RecWord.mono ..)
   | (with_reducible exact LeO.refl _)
   | (with_reducible exact LeO.none _)
   | (with_reducible refine LeO.ite ?_ ?_)
   | (with_reducible refine LeO.bind ?_ (fun _ => ?_))
   | exact ih0 ..
   | exact ih1 ..
   | exact ih2 ..
   | exact ih3 ..
   | exact ih4 ..
   | exact spec_EntryWord.mono ..
   | exact spec_RecWord.mono ..
   | exact LeO.none _
   | refine LeO.ite ?_ ?_
   | refine LeO.bind ?_ (fun _ => ?_)
  ·intro y0 y1 y2 y3 y4 y5 y6 y7
   unfold spec_InodeOk.l1
   repeat' first
   | (with_reducible exact ih0 ..)
   | (with_reducible exact ih1 ..)
   | (with_reducible exact ih2 ..)
   | (with_reducible exact ih3 ..)
   | (with_reducible exact ih4 ..)
   | (with_reducible exact spec_EntryWord.mono ..)
   | (with_reducible exact spec_RecWord.mono ..)
   | (with_reducible exact LeO.refl _)
   | (with_reducible exact LeO.none _)
   | (with_reducible refine LeO.ite ?_ ?_)
   | (with_reducible refine LeO.bind ?_ (fun _ => ?_))
   | exact ih0 ..
   | exact ih1 ..
   | exact ih2 ..
   | exact ih3 ..
   | exact ih4 ..
   | exact spec_EntryWord.mono ..
   | exact spec_RecWord.mono ..
   | exact LeO.none _
   | refine LeO.ite ?_ ?_
   | refine LeO.bind ?_ (fun _ => ?_)
  ·intro y0 y1 y2 y3 y4 y5 y6
   unfold spec_InodeOk.j3
   repeat' first
   | (with_reducible exact ih0 ..)
   | (with_reducible exact ih1 ..)
   | (with_reducible exact ih2 ..)
   | (with_reducible exact ih3 ..)
   | (with_reducible exact ih4 ..)
   | (with_reducible exact spec_EntryWord.mono ..)
   | (with_reducible exact spec_RecWord.mono ..)
   | (with_reducible exact LeO.refl _)
   | (with_reducible exact LeO.none _)
   | (with_reducible refine LeO.ite ?_ ?_)
   | (with_reducible refine LeO.bind ?_ (fun _ => ?_))
   | exact ih0 ..
   | exact ih1 ..
   | exact ih2 ..
   | exact ih3 ..
   | exact ih4 ..
   | exact spec_EntryWord.mono ..
   | exact spec_RecWord.mono ..
   | exact LeO.none _
   | refine LeO.ite ?_ ?_
   | refine LeO.bind ?_ (fun _ => ?_)
  ·intro y0 y1 y2 y3 y4 y5 y6
   unfold spec_InodeOk.l2
   repeat' first
   | (with_reducible exact ih0 ..)
   | (with_reducible exact ih1 ..)
   | (with_reducible exact ih2 ..)
   | (with_reducible exact ih3 ..)
   | (with_reducible exact ih4 ..)
   | (with_reducible exact spec_EntryWord.mono ..)
   | (with_reducible exact spec_RecWord.mono ..)
   | (with_reducible exact LeO.refl _)
   | (with_reducible exact LeO.none _)
   | (with_reducible refine LeO.ite ?_ ?_)
   | (with_reducible refine LeO.bind ?_ (fun _ => ?_))
   | exact ih0 ..
   | exact ih1 ..
   | exact ih2 ..
   | exact ih3 ..
   | exact ih4 ..
   | exact spec_EntryWord.mono ..
   | exact spec_RecWord.mono ..
   | exact LeO.none _
   | refine LeO.ite ?_ ?_
   | refine LeO.bind ?_ (fun _ => ?_)
theorem spec_InodeOk.mono : ∀ a0 a1 a2 a3 a4 a5 k, LeO (spec_InodeOk.f k a0 a1 a2 a3 a4 a5) (spec_InodeOk.f (k + 1) a0 a1 a2 a3 a4 a5) := by
 intro a0 a1 a2 a3 a4 a5 k
 obtain ⟨ih0, ih1, ih2, ih3, ih4⟩ := spec_InodeOk.mono_l k
 unfold spec_InodeOk.f
 repeat' first
   | (with_reducible exact ih0 ..)
   | (with_reducible exact ih1 ..)
   | (with_reducible exact ih2 ..)
   | (with_reducible exact ih3 ..)
   | (with_reducible exact ih4 ..)
   | (with_reducible exact spec_EntryWord.mono ..)
   | (with_reducible exact spec_RecWord.mono ..)
   | (with_reducible exact LeO.refl _)
   | (with_reducible exact LeO.none _)
   | (with_reducible refine LeO.ite ?_ ?_)
   | (with_reducible refine LeO.bind ?_ (fun _ => ?_))
   | exact ih0 ..
   | exact ih1 ..
   | exact ih2 ..
   | exact ih3 ..
   | exact ih4 ..
   | exact spec_EntryWord.mono ..
   | exact spec_RecWord.mono ..
   | exact LeO.none _
   | refine LeO.ite ?_ ?_
   | refine LeO.bind ?_ (fun _ => ?_)
def spec_InodeOk.T7 : Bool × List (List Nat × List Nat) := (true, [([], []), ([0], [0]), ([1], [1]), ([2], [2]), ([3, 2], [3]), ([4], [4]), ([5, 4], [4, 5]), ([6, 4], [4, 6]), ([7, 4], [4, 7]), ([4, 8], [4, 8]), ([9, 4], [9]), ([10], [10]), ([11, 10], [10, 11]), ([12, 10], [10, 12]), ([10], [10]), ([14, 10], [10, 14]), ([15, 10, 10], [10, 15]), ([13, 16, 10], [10, 13, 16]), ([10, 17], [10, 17]), ([18, 16], [18]), ([19], [19]), ([20, 19], [19, 20]), ([21, 19], [19, 21]), ([22, 19], [19, 22]), ([19, 23], [19, 23])])
def spec_InodeOk.B7 : List Nat := [0, 1, 3, 7, 15, 31, 63, 127, 255, 511, 1023, 2047, 4095, 8191, 2047, 18431, 51199, 131071, 262143, 524287, 1048575, 2097151, 4194303, 8388607, 16777215]
theorem spec_InodeOk.tab7 : rtab .any (opsOf Try.f147 7) = spec_InodeOk.T7 := by kernel_rfl
theorem spec_InodeOk.bits7 : waitsOk spec_InodeOk.T7.2 spec_InodeOk.B7 = true := by kernel_rfl
def spec_InodeOk.T17 : Bool × List (List Nat × List Nat) := (true, [([], []), ([0], [0]), ([], []), ([1, 2], [1, 2]), ([3], [3]), ([4], [4]), ([], []), ([6], [6]), ([], []), ([7, 8], [7, 8]), ([9], [9]), ([10], [10]), ([5, 11], [5, 11])])
def spec_InodeOk.B17 : List Nat := [0, 1, 0, 7, 15, 31, 0, 64, 0, 448, 960, 1984, 4095]
theorem spec_InodeOk.tab17 : rtab .any (opsOf Try.f147 17) = spec_InodeOk.T17 := by kernel_rfl
theorem spec_InodeOk.bits17 : waitsOk spec_InodeOk.T17.2 spec_InodeOk.B17 = true := by kernel_rfl
def spec_InodeOk.T26 : Bool × List (List Nat × List Nat) := (true, [([], []), ([0], [0]), ([], []), ([1, 2], [1, 2]), ([3], [3]), ([4], [4]), ([5], [5]), ([6, 5], [6]), ([7], [7]), ([8, 7], [7, 8]), ([9, 7, 7], [7, 9]), ([10], [10]), ([11, 10], [10, 11]), ([10], [10]), ([13, 10], [10, 13]), ([12, 14, 10], [10, 12, 14]), ([15, 10], [10, 15]), ([16, 10], [10, 16]), ([10], [10]), ([18, 10], [10, 18]), ([10], [10]), ([19, 20, 10], [10, 19, 20]), ([21, 10], [10, 21]), ([22, 10], [10, 22]), ([17, 23, 10], [10, 17, 23]), ([10, 24, 7], [7, 10, 24]), ([7, 25], [7, 25])])
def spec_InodeOk.B26 : List Nat := [0, 1, 0, 7, 15, 31, 63, 127, 255, 511, 1023, 2047, 4095, 2047, 10239, 32767, 65535, 131071, 2047, 264191, 2047, 1837055, 3934207, 8128511, 16777215, 33554431, 67108863]
theorem spec_InodeOk.tab26 : rtab .any (opsOf Try.f147 26) = spec_InodeOk.T26 := by kernel_rfl
theorem spec_InodeOk.bits26 : waitsOk spec_InodeOk.T26.2 spec_InodeOk.B26 = true := by kernel_rfl
set_option maxHeartbeats 8000000 in
set_option maxRecDepth 100000 in
theorem spec_InodeOk.calls (k : Nat) (a0_0 : Int) (a0_1 : Int) (a0_2 : Int) (a0_3 : ByteArray) (A0_4 : Option Addr) (c0_4 : Nat) (l0_4 : List (S170)) (A0_5 : Option Addr) (c0_5 : Nat) (l0_5 : List (S59)) (r : Bool) (w : World) (hr0_4 : Kd.C k170 w A0_4 l0_4.length l0_4) (hc0_4 : l0_4.length ≤ c0_4) (hr0_5 : Kd.C k59 w A0_5 l0_5.length l0_5) (hc0_5 : l0_5.length ≤ c0_5) (h : spec_InodeOk.f k a0_0 a0_1 a0_2 a0_3 l0_4 l0_5 = some r) :
  Calls Try.prog 147 #[.agg #[.int .i64 a0_0, .int .i64 a0_1, .int .i64 a0_2, .string a0_3, .slice A0_4 l0_4.length c0_4, .slice A0_5 l0_5.length c0_5]] w fun e w' => e = .returned (.bool r) ∧ Below w.heap.size w w' := by
 have hu49 := Try.underlying49
 have hu170 := Try.underlying170
 have hu59 := Try.underlying59
 have HR0_4 := Aside0.mk hr0_4
 have HC0_4 := Aside0.mk hc0_4
 clear hr0_4 hc0_4
 have HR0_5 := Aside0.mk hr0_5
 have HC0_5 := Aside0.mk hc0_5
 clear hr0_5 hc0_5
 have HB := Aside0.mk (Below.refl w.heap.size w)
 have H : ((spec_l01In.f a0_2 0 65535).bind fun t197 => (if t197 = true then (if a0_0 = 0 then (if a0_1 = 0 then (if a0_3.toList = ([] : List UInt8) then (if (l0_4.length : Int) = 0 then (some ((l0_5.length : Int) == 0)) else (some false)) else (some false)) else (some false)) else (if a0_0 = 1 then ((spec_l01In.f a0_1 0 128).bind fun t198 => (if t198 = true then (if (a0_3.size : Int) = 8 then ((spec_PagesFor.f a0_1).bind fun t199 => (if (l0_4.length : Int) = t199 then (spec_InodeOk.j0 k (decide ((l0_5.length : Int) > 0)) a0_0 a0_1 a0_2 a0_3 l0_4 l0_5) else (spec_InodeOk.j0 k true a0_0 a0_1 a0_2 a0_3 l0_4 l0_5))) else (spec_InodeOk.j0 k true a0_0 a0_1 a0_2 a0_3 l0_4 l0_5)) else (spec_InodeOk.j0 k true a0_0 a0_1 a0_2 a0_3 l0_4 l0_5))) else (if a0_0 = 2 then (if a0_1 = 0 then (if a0_3.toList = ([] : List UInt8) then (if (l0_4.length : Int) > 0 then (spec_InodeOk.j3 k true a0_0 a0_1 a0_2 a0_3 l0_4 l0_5) else (spec_InodeOk.j3 k (decide ((l0_5.length : Int) > 6)) a0_0 a0_1 a0_2 a0_3 l0_4 l0_5)) else (spec_InodeOk.j3 k true a0_0 a0_1 a0_2 a0_3 l0_4 l0_5)) else (spec_InodeOk.j3 k true a0_0 a0_1 a0_2 a0_3 l0_4 l0_5)) else (some false)))) else (some false))) = some r := h
 clear h
 replace H := Option.bind_eq_some_iff.mp H
 obtain ⟨t197, A20, H⟩ := H
 replace H : (if t197 = true then (if a0_0 = 0 then (if a0_1 = 0 then (if a0_3.toList = ([] : List UInt8) then (if (l0_4.length : Int) = 0 then (some ((l0_5.length : Int) == 0)) else (some false)) else (some false)) else (some false)) else (if a0_0 = 1 then ((spec_l01In.f a0_1 0 128).bind fun t198 => (if t198 = true then (if (a0_3.size : Int) = 8 then ((spec_PagesFor.f a0_1).bind fun t199 => (if (l0_4.length : Int) = t199 then (spec_InodeOk.j0 k (decide ((l0_5.length : Int) > 0)) a0_0 a0_1 a0_2 a0_3 l0_4 l0_5) else (spec_InodeOk.j0 k true a0_0 a0_1 a0_2 a0_3 l0_4 l0_5))) else (spec_InodeOk.j0 k true a0_0 a0_1 a0_2 a0_3 l0_4 l0_5)) else (spec_InodeOk.j0 k true a0_0 a0_1 a0_2 a0_3 l0_4 l0_5))) else (if a0_0 = 2 then (if a0_1 = 0 then (if a0_3.toList = ([] : List UInt8) then (if (l0_4.length : Int) > 0 then (spec_InodeOk.j3 k true a0_0 a0_1 a0_2 a0_3 l0_4 l0_5) else (spec_InodeOk.j3 k (decide ((l0_5.length : Int) > 6)) a0_0 a0_1 a0_2 a0_3 l0_4 l0_5)) else (spec_InodeOk.j3 k true a0_0 a0_1 a0_2 a0_3 l0_4 l0_5)) else (spec_InodeOk.j3 k true a0_0 a0_1 a0_2 a0_3 l0_4 l0_5)) else (some false)))) else (some false)) = some r := H
 have A2 := Aside0.mk A20
 clear A20
 by_cases c3 : t197 = true
 ·subst c3
  have H1 : (if a0_0 = 0 then (if a0_1 = 0 then (if a0_3.toList = ([] : List UInt8) then (if (l0_4.length : Int) = 0 then (some ((l0_5.length : Int) == 0)) else (some false)) else (some false)) else (some false)) else (if a0_0 = 1 then ((spec_l01In.f a0_1 0 128).bind fun t198 => (if t198 = true then (if (a0_3.size : Int) = 8 then ((spec_PagesFor.f a0_1).bind fun t199 => (if (l0_4.length : Int) = t199 then (spec_InodeOk.j0 k (decide ((l0_5.length : Int) > 0)) a0_0 a0_1 a0_2 a0_3 l0_4 l0_5) else (spec_InodeOk.j0 k true a0_0 a0_1 a0_2 a0_3 l0_4 l0_5))) else (spec_InodeOk.j0 k true a0_0 a0_1 a0_2 a0_3 l0_4 l0_5)) else (spec_InodeOk.j0 k true a0_0 a0_1 a0_2 a0_3 l0_4 l0_5))) else (if a0_0 = 2 then (if a0_1 = 0 then (if a0_3.toList = ([] : List UInt8) then (if (l0_4.length : Int) > 0 then (spec_InodeOk.j3 k true a0_0 a0_1 a0_2 a0_3 l0_4 l0_5) else (spec_InodeOk.j3 k (decide ((l0_5.length : Int) > 6)) a0_0 a0_1 a0_2 a0_3 l0_4 l0_5)) else (spec_InodeOk.j3 k true a0_0 a0_1 a0_2 a0_3 l0_4 l0_5)) else (spec_InodeOk.j3 k true a0_0 a0_1 a0_2 a0_3 l0_4 l0_5)) else (some false)))) = some r := by rw [if_pos rfl] at H; exact H
  clear H
  have H := H1
  clear H1
  by_cases c4 : a0_0 = 0
  ·rw [if_pos c4] at H
   have c4b0 : (a0_0 == 0) = true := beq_iff_eq.mpr c4
   have c4b1 : (a0_0 != 0) = false := bne_eq_false_iff_eq.mpr c4
   clear c4
   by_cases c5 : a0_1 = 0
   ·rw [if_pos c5] at H
    have c5b0 : (a0_1 == 0) = true := beq_iff_eq.mpr c5
    have c5b1 : (a0_1 != 0) = false := bne_eq_false_iff_eq.mpr c5
    clear c5
    by_cases c6 : a0_3.toList = ([] : List UInt8)
    ·rw [if_pos c6] at H
     have c6b0 : (a0_3.toList == ([] : List UInt8)) = true := beq_iff_eq.mpr c6
     have c6b1 : (a0_3.toList != ([] : List UInt8)) = false := bne_eq_false_iff_eq.mpr c6
     clear c6
     by_cases c7 : (l0_4.length : Int) = 0
     ·rw [if_pos c7] at H
      have c7b0 : ((l0_4.length : Int) == 0) = true := beq_iff_eq.mpr c7
      have c7b1 : ((l0_4.length : Int) != 0) = false := bne_eq_false_iff_eq.mpr c7
      clear c7
      obtain rfl := Option.some.inj H
      go_enter Try.func147, Try.ntmps147
      go_wp2_with (first | ((with_reducible refine gate_dst (N := 1) rfl ?_); (try (refine gate_guard (by rfl) ?_; dsimp only)); refine box_event ?hg (N := 1) ?hd (cs := #[.int .i64 a0_0, .int .i64 a0_1, .int .i64 a0_2, .string a0_3, .slice A0_4 l0_4.length c0_4, .slice A0_5 l0_5.length c0_5]) (t := 49) ?hr ?_; (case hd => rfl); (case hg => rfl); (case hr => first | (go_simp; done) | (go_simp; rfl)); intro gb196 hg w8 hbox hb; have z_ := p_ (below_step tq_0 hb) <| p_ (hbox) <| p_ (gb_ hg tq_0) <| a_ (gb_ hg tq_0); clear HB; obtain ⟨HB, BK196, GW196, GE196⟩ := z_; clear hb hbox hg; have hcz9_0 := bc_ BK196.out 0; have hcz9_1 := bc_ BK196.out 1; have hcz9_2 := bc_ BK196.out 2; have hcz9_3 := bc_ BK196.out 3; have hcz9_4 := bc_ BK196.out 4; have hcz9_5 := bc_ BK196.out 5; have hfz9_0 := blk_frozen BK196.out 0; have hfz9_1 := blk_frozen BK196.out 1; have hfz9_2 := blk_frozen BK196.out 2; have hfz9_3 := blk_frozen BK196.out 3; have hfz9_4 := blk_frozen BK196.out 4; have hfz9_5 := blk_frozen BK196.out 5) | ((with_reducible refine gate_callee (f := 141) rfl ?_); refine goesL_ (some 8) rfl rfl Try.func141 (by kernel_rfl) rfl #[.int .i64 a0_2, .int .i64 0, .int .i64 65535] rfl tq_1 ?_; (with_reducible refine (spec_l01In.calls a0_2 0 65535 true _ A2.out).mono ?_); rintro e w' ⟨rfl, ⟨nd, rfl⟩⟩; refine ⟨_, rfl, ?_⟩))
      go_ret
      exact ⟨tq_2, tq_6⟩
     ·rw [if_neg c7] at H
      have c7b0 : ((l0_4.length : Int) == 0) = false := beq_eq_false_iff_ne.mpr c7
      have c7b1 : ((l0_4.length : Int) != 0) = true := bne_iff_ne.mpr c7
      have c7b2 : ¬ (l0_4 = []) := fun h_ => c7 (by rw [h_]; rfl)
      obtain rfl := Option.some.inj H
      go_enter Try.func147, Try.ntmps147
      go_wp2_with (first | ((with_reducible refine gate_dst (N := 1) rfl ?_); (try (refine gate_guard (by rfl) ?_; dsimp only)); refine box_event ?hg (N := 1) ?hd (cs := #[.int .i64 a0_0, .int .i64 a0_1, .int .i64 a0_2, .string a0_3, .slice A0_4 l0_4.length c0_4, .slice A0_5 l0_5.length c0_5]) (t := 49) ?hr ?_; (case hd => rfl); (case hg => rfl); (case hr => first | (go_simp; done) | (go_simp; rfl)); intro gb196 hg w10 hbox hb; have z_ := p_ (below_step tq_0 hb) <| p_ (hbox) <| p_ (gb_ hg tq_0) <| a_ (gb_ hg tq_0); clear HB; obtain ⟨HB, BK196, GW196, GE196⟩ := z_; clear hb hbox hg; have hcz11_0 := bc_ BK196.out 0; have hcz11_1 := bc_ BK196.out 1; have hcz11_2 := bc_ BK196.out 2; have hcz11_3 := bc_ BK196.out 3; have hcz11_4 := bc_ BK196.out 4; have hcz11_5 := bc_ BK196.out 5; have hfz11_0 := blk_frozen BK196.out 0; have hfz11_1 := blk_frozen BK196.out 1; have hfz11_2 := blk_frozen BK196.out 2; have hfz11_3 := blk_frozen BK196.out 3; have hfz11_4 := blk_frozen BK196.out 4; have hfz11_5 := blk_frozen BK196.out 5) | ((with_reducible refine gate_callee (f := 141) rfl ?_); refine goesL_ (some 8) rfl rfl Try.func141 (by kernel_rfl) rfl #[.int .i64 a0_2, .int .i64 0, .int .i64 65535] rfl tq_1 ?_; (with_reducible refine (spec_l01In.calls a0_2 0 65535 true _ A2.out).mono ?_); rintro e w' ⟨rfl, ⟨nd, rfl⟩⟩; refine ⟨_, rfl, ?_⟩))
      go_ret
      exact ⟨tq_2, tq_6⟩
    ·rw [if_neg c6] at H
     have c6b0 : (a0_3.toList == ([] : List UInt8)) = false := beq_eq_false_iff_ne.mpr c6
     have c6b1 : (a0_3.toList != ([] : List UInt8)) = true := bne_iff_ne.mpr c6
     obtain rfl := Option.some.inj H
     go_enter Try.func147, Try.ntmps147
     go_wp2_with (first | ((with_reducible refine gate_dst (N := 1) rfl ?_); (try (refine gate_guard (by rfl) ?_; dsimp only)); refine box_event ?hg (N := 1) ?hd (cs := #[.int .i64 a0_0, .int .i64 a0_1, .int .i64 a0_2, .string a0_3, .slice A0_4 l0_4.length c0_4, .slice A0_5 l0_5.length c0_5]) (t := 49) ?hr ?_; (case hd => rfl); (case hg => rfl); (case hr => first | (go_simp; done) | (go_simp; rfl)); intro gb196 hg w12 hbox hb; have z_ := p_ (below_step tq_0 hb) <| p_ (hbox) <| p_ (gb_ hg tq_0) <| a_ (gb_ hg tq_0); clear HB; obtain ⟨HB, BK196, GW196, GE196⟩ := z_; clear hb hbox hg; have hcz13_0 := bc_ BK196.out 0; have hcz13_1 := bc_ BK196.out 1; have hcz13_2 := bc_ BK196.out 2; have hcz13_3 := bc_ BK196.out 3; have hcz13_4 := bc_ BK196.out 4; have hcz13_5 := bc_ BK196.out 5; have hfz13_0 := blk_frozen BK196.out 0; have hfz13_1 := blk_frozen BK196.out 1; have hfz13_2 := blk_frozen BK196.out 2; have hfz13_3 := blk_frozen BK196.out 3; have hfz13_4 := blk_frozen BK196.out 4; have hfz13_5 := blk_frozen BK196.out 5) | ((with_reducible refine gate_callee (f := 141) rfl ?_); refine goesL_ (some 8) rfl rfl Try.func141 (by kernel_rfl) rfl #[.int .i64 a0_2, .int .i64 0, .int .i64 65535] rfl tq_1 ?_; (with_reducible refine (spec_l01In.calls a0_2 0 65535 true _ A2.out).mono ?_); rintro e w' ⟨rfl, ⟨nd, rfl⟩⟩; refine ⟨_, rfl, ?_⟩))
     go_ret
     exact ⟨tq_2, tq_6⟩
   ·rw [if_neg c5] at H
    have c5b0 : (a0_1 == 0) = false := beq_eq_false_iff_ne.mpr c5
    have c5b1 : (a0_1 != 0) = true := bne_iff_ne.mpr c5
    obtain rfl := Option.some.inj H
    go_enter Try.func147, Try.ntmps147
    go_wp2_with (first | ((with_reducible refine gate_dst (N := 1) rfl ?_); (try (refine gate_guard (by rfl) ?_; dsimp only)); refine box_event ?hg (N := 1) ?hd (cs := #[.int .i64 a0_0, .int .i64 a0_1, .int .i64 a0_2, .string a0_3, .slice A0_4 l0_4.length c0_4, .slice A0_5 l0_5.length c0_5]) (t := 49) ?hr ?_; (case hd => rfl); (case hg => rfl); (case hr => first | (go_simp; done) | (go_simp; rfl)); intro gb196 hg w14 hbox hb; have z_ := p_ (below_step tq_0 hb) <| p_ (hbox) <| p_ (gb_ hg tq_0) <| a_ (gb_ hg tq_0); clear HB; obtain ⟨HB, BK196, GW196, GE196⟩ := z_; clear hb hbox hg; have hcz15_0 := bc_ BK196.out 0; have hcz15_1 := bc_ BK196.out 1; have hcz15_2 := bc_ BK196.out 2; have hcz15_3 := bc_ BK196.out 3; have hcz15_4 := bc_ BK196.out 4; have hcz15_5 := bc_ BK196.out 5; have hfz15_0 := blk_frozen BK196.out 0; have hfz15_1 := blk_frozen BK196.out 1; have hfz15_2 := blk_frozen BK196.out 2; have hfz15_3 := blk_frozen BK196.out 3; have hfz15_4 := blk_frozen BK196.out 4; have hfz15_5 := blk_frozen BK196.out 5) | ((with_reducible refine gate_callee (f := 141) rfl ?_); refine goesL_ (some 8) rfl rfl Try.func141 (by kernel_rfl) rfl #[.int .i64 a0_2, .int .i64 0, .int .i64 65535] rfl tq_1 ?_; (with_reducible refine (spec_l01In.calls a0_2 0 65535 true _ A2.out).mono ?_); rintro e w' ⟨rfl, ⟨nd, rfl⟩⟩; refine ⟨_, rfl, ?_⟩))
    go_ret
    exact ⟨tq_2, tq_6⟩
  ·rw [if_neg c4] at H
   have c4b0 : (a0_0 == 0) = false := beq_eq_false_iff_ne.mpr c4
   have c4b1 : (a0_0 != 0) = true := bne_iff_ne.mpr c4
   by_cases c16 : a0_0 = 1
   ·rw [if_pos c16] at H
    have c16b0 : (a0_0 == 1) = true := beq_iff_eq.mpr c16
    have c16b1 : (a0_0 != 1) = false := bne_eq_false_iff_eq.mpr c16
    clear c16
    have HC17 := Aside0.mk H
    clear H
    go_enter Try.func147, Try.ntmps147
    go_upto_region 7 with (first | ((with_reducible refine gate_dst (N := 1) rfl ?_); (try (refine gate_guard (by rfl) ?_; dsimp only)); refine box_event ?hg (N := 1) ?hd (cs := #[.int .i64 a0_0, .int .i64 a0_1, .int .i64 a0_2, .string a0_3, .slice A0_4 l0_4.length c0_4, .slice A0_5 l0_5.length c0_5]) (t := 49) ?hr ?_; (case hd => rfl); (case hg => rfl); (case hr => first | (go_simp; done) | (go_simp; rfl)); intro gb196 hg w18 hbox hb; have z_ := p_ (below_step tq_0 hb) <| p_ (hbox) <| p_ (gb_ hg tq_0) <| a_ (gb_ hg tq_0); clear HB; obtain ⟨HB, BK196, GW196, GE196⟩ := z_; clear hb hbox hg; have hcz19_0 := bc_ BK196.out 0; have hcz19_1 := bc_ BK196.out 1; have hcz19_2 := bc_ BK196.out 2; have hcz19_3 := bc_ BK196.out 3; have hcz19_4 := bc_ BK196.out 4; have hcz19_5 := bc_ BK196.out 5; have hfz19_0 := blk_frozen BK196.out 0; have hfz19_1 := blk_frozen BK196.out 1; have hfz19_2 := blk_frozen BK196.out 2; have hfz19_3 := blk_frozen BK196.out 3; have hfz19_4 := blk_frozen BK196.out 4; have hfz19_5 := blk_frozen BK196.out 5) | ((with_reducible refine gate_callee (f := 141) rfl ?_); refine goesL_ (some 8) rfl rfl Try.func141 (by kernel_rfl) rfl #[.int .i64 a0_2, .int .i64 0, .int .i64 65535] rfl tq_1 ?_; (with_reducible refine (spec_l01In.calls a0_2 0 65535 true _ A2.out).mono ?_); rintro e w' ⟨rfl, ⟨nd_1, rfl⟩⟩; refine ⟨_, rfl, ?_⟩))
    (try simp only [Act.put, List.setIfInBounds_toArray, List.set_cons_zero, List.set_cons_succ])
    go_cut [60] (fun v60 wc => ∃ (kq : Nat) (x60_16 : Bool), v60 = .bool x60_16 ∧ Aside0 (spec_InodeOk.j0 kq x60_16 a0_0 a0_1 a0_2 a0_3 l0_4 l0_5 = some r) ∧ Aside0 (kq ≤ k) ∧ Aside0 (wc.heap[gb196]? = some (.cells #[.int .i64 a0_0, .int .i64 a0_1, .int .i64 a0_2, .string a0_3, (.slice A0_4 l0_4.length c0_4), (.slice A0_5 l0_5.length c0_5)] 49 (0, 0))) ∧ Aside0 (Below w.heap.size w wc))
    case first =>
     have H := HC17.out
     clear HC17
     replace H := Option.bind_eq_some_iff.mp H
     obtain ⟨t198, A200, H⟩ := H
     replace H : (if t198 = true then (if (a0_3.size : Int) = 8 then ((spec_PagesFor.f a0_1).bind fun t199 => (if (l0_4.length : Int) = t199 then (spec_InodeOk.j0 k (decide ((l0_5.length : Int) > 0)) a0_0 a0_1 a0_2 a0_3 l0_4 l0_5) else (spec_InodeOk.j0 k true a0_0 a0_1 a0_2 a0_3 l0_4 l0_5))) else (spec_InodeOk.j0 k true a0_0 a0_1 a0_2 a0_3 l0_4 l0_5)) else (spec_InodeOk.j0 k true a0_0 a0_1 a0_2 a0_3 l0_4 l0_5)) = some r := H
     have A20 := Aside0.mk A200
     clear A200
     by_cases c21 : t198 = true
     ·subst c21
      have H1 : (if (a0_3.size : Int) = 8 then ((spec_PagesFor.f a0_1).bind fun t199 => (if (l0_4.length : Int) = t199 then (spec_InodeOk.j0 k (decide ((l0_5.length : Int) > 0)) a0_0 a0_1 a0_2 a0_3 l0_4 l0_5) else (spec_InodeOk.j0 k true a0_0 a0_1 a0_2 a0_3 l0_4 l0_5))) else (spec_InodeOk.j0 k true a0_0 a0_1 a0_2 a0_3 l0_4 l0_5)) = some r := by rw [if_pos rfl] at H; exact H
      clear H
      have H := H1
      clear H1
      by_cases c22 : (a0_3.size : Int) = 8
      ·rw [if_pos c22] at H
       have c22b0 : ((a0_3.size : Int) == 8) = true := beq_iff_eq.mpr c22
       have c22b1 : ((a0_3.size : Int) != 8) = false := bne_eq_false_iff_eq.mpr c22
       clear c22
       (first | rw [c22b0] | (simp only [i64_w, i32_w]; rw [c22b0]) | skip)
       replace H := Option.bind_eq_some_iff.mp H
       obtain ⟨t199, A230, H⟩ := H
       replace H : (if (l0_4.length : Int) = t199 then (spec_InodeOk.j0 k (decide ((l0_5.length : Int) > 0)) a0_0 a0_1 a0_2 a0_3 l0_4 l0_5) else (spec_InodeOk.j0 k true a0_0 a0_1 a0_2 a0_3 l0_4 l0_5)) = some r := H
       have A23 := Aside0.mk A230
       clear A230
       by_cases c24 : (l0_4.length : Int) = t199
       ·rw [if_pos c24] at H
        have c24b0 : ((l0_4.length : Int) == t199) = true := beq_iff_eq.mpr c24
        have c24b1 : ((l0_4.length : Int) != t199) = false := bne_eq_false_iff_eq.mpr c24
        clear c24
        have H' := Aside0.mk H
        clear H
        try go_wp2
        have z_ := p_ (blk_drew (blk_drewN BK196.out nd_1)) <| a_ (below_drew1 (pw_below_drewN HB.out nd_1))
        clear BK196 HB
        obtain ⟨BK196, HB⟩ := z_
        refine start_ (n := 25) (S := fun w' => w'.cell? ⟨gb196, 0, none⟩ = some (.int .i64 a0_0) ∧ w'.cell? ⟨gb196, 1, none⟩ = some (.int .i64 a0_1) ∧ w'.cell? ⟨gb196, 2, none⟩ = some (.int .i64 a0_2) ∧ w'.cell? ⟨gb196, 3, none⟩ = some (.string a0_3) ∧ w'.cell? ⟨gb196, 4, none⟩ = some (.slice A0_4 l0_4.length c0_4) ∧ w'.cell? ⟨gb196, 5, none⟩ = some (.slice A0_5 l0_5.length c0_5)) (ds := []) bq_11 (by kernel_rfl) rfl rfl (bk6_ BK196.out) (fun hHeld => ?_); refine with_tabW spec_InodeOk.tab7 spec_InodeOk.bits7 (fun HT_ HW_ => ?_)
        generalize (w18.drewN nd_1).drew = w25 at BK196 HB hHeld ⊢
        refine yq_ (i := 0) (N := some 36) bq_12 (any_of HT_.out (by kernel_rfl)) ?_
        refine tk_ (i := 1) (N := some 37) bq_13 (take_ofW HT_.out HW_.out (by kernel_rfl)) hHeld ?_
        refine one_ (i := 2) (N := some 38) bq_14 rfl rfl (one_of HT_.out (by kernel_rfl)) (by decide) (fun K hK => ?_)
        refine goes_ Try.func141 (by kernel_rfl) rfl #[.int .i64 a0_1, .int .i64 0, .int .i64 128] (by rfl) rfl rfl tq_1 ?_
        with_reducible refine (spec_l01In.calls a0_1 0 128 true _ A20.out).mono ?_
        rintro e w' ⟨rfl, ⟨nd, rfl⟩⟩
        refine ⟨_, rfl, ?_⟩
        refine hK.out _ _ (bk6_ BK196.out) (fun hHeld => ?_)
        clear hK K
        refine nm_ (some 38) ?_
        refine yq_ (i := 3) (N := some 39) bq_15 (any_of HT_.out (by kernel_rfl)) ?_
        refine yq_ (i := 4) (N := some 40) bq_16 (any_of HT_.out (by kernel_rfl)) ?_
        refine yq_ (i := 5) (N := some 41) bq_17 (any_of HT_.out (by kernel_rfl)) ?_
        refine tk_ (i := 6) (N := some 42) bq_18 (take_ofW HT_.out HW_.out (by kernel_rfl)) hHeld ?_
        refine yq_ (i := 7) (N := some 43) bq_19 (any_of HT_.out (by kernel_rfl)) ?_
        refine yq_ (i := 8) (N := some 44) bq_20 (any_of HT_.out (by kernel_rfl)) ?_
        refine yq_ (i := 9) (N := some 45) bq_21 (any_of HT_.out (by kernel_rfl)) ?_
        refine yq_ (i := 10) (N := some 46) bq_22 (any_of HT_.out (by kernel_rfl)) ?_
        refine yq_ (i := 11) (N := some 47) bq_23 (any_of HT_.out (by kernel_rfl)) ?_
        refine yq_ (i := 14) (N := some 50) bq_88 (any_of HT_.out (by kernel_rfl)) ?_
        refine tk_ (i := 12) (N := some 48) bq_89 (take_ofW HT_.out HW_.out (by kernel_rfl)) hHeld ?_
        refine yq_ (i := 13) (N := some 49) bq_24 (any_of HT_.out (by kernel_rfl)) ?_
        refine tk_ (i := 15) (N := some 51) bq_25 (take_ofW HT_.out HW_.out (by kernel_rfl)) hHeld ?_
        refine one_ (i := 16) (N := some 52) bq_26 rfl rfl (one_of HT_.out (by kernel_rfl)) (by decide) (fun K hK => ?_)
        refine goes_ Try.func45 (by kernel_rfl) rfl #[.int .i64 a0_1] (by rfl) rfl rfl tq_1 ?_
        with_reducible refine (spec_PagesFor.calls a0_1 t199 _ A23.out).mono ?_
        rintro e w' ⟨rfl, ⟨nd, rfl⟩⟩
        refine ⟨_, rfl, ?_⟩
        refine hK.out _ _ (bk6_ BK196.out) (fun hHeld => ?_)
        clear hK K
        refine nm_ (some 52) ?_
        refine yq_ (i := 17) (N := some 53) bq_27 (any_of HT_.out (by kernel_rfl)) ?_
        refine yq_ (i := 18) (N := some 54) bq_28 (any_of HT_.out (by kernel_rfl)) ?_
        refine yq_ (i := 19) (N := some 55) bq_29 (any_of HT_.out (by kernel_rfl)) ?_
        refine yq_ (i := 20) (N := some 56) bq_30 (any_of HT_.out (by kernel_rfl)) ?_
        refine tk_ (i := 21) (N := some 57) bq_31 (take_ofW HT_.out HW_.out (by kernel_rfl)) hHeld ?_
        refine yq_ (i := 22) (N := some 58) bq_32 (any_of HT_.out (by kernel_rfl)) ?_
        refine yq_ (i := 23) (N := some 59) bq_33 (any_of HT_.out (by kernel_rfl)) ?_
        refine yq_ (i := 24) (N := some 60) bq_34 (any_of HT_.out (by kernel_rfl)) ?_
        refine done_ (done_of HT_.out (by kernel_rfl)) ?_
        try go_wp2
        go_meet
        case rel => exact ⟨_, (decide ((l0_5.length : Int) > 0)), tq_8, H', ⟨tq_51⟩, ⟨tq_22⟩, ⟨tq_6⟩⟩
       ·rw [if_neg c24] at H
        have c24b0 : ((l0_4.length : Int) == t199) = false := beq_eq_false_iff_ne.mpr c24
        have c24b1 : ((l0_4.length : Int) != t199) = true := bne_iff_ne.mpr c24
        have H' := Aside0.mk H
        clear H
        try go_wp2
        have z_ := p_ (blk_drew (blk_drewN BK196.out nd_1)) <| a_ (below_drew1 (pw_below_drewN HB.out nd_1))
        clear BK196 HB
        obtain ⟨BK196, HB⟩ := z_
        refine start_ (n := 25) (S := fun w' => w'.cell? ⟨gb196, 0, none⟩ = some (.int .i64 a0_0) ∧ w'.cell? ⟨gb196, 1, none⟩ = some (.int .i64 a0_1) ∧ w'.cell? ⟨gb196, 2, none⟩ = some (.int .i64 a0_2) ∧ w'.cell? ⟨gb196, 3, none⟩ = some (.string a0_3) ∧ w'.cell? ⟨gb196, 4, none⟩ = some (.slice A0_4 l0_4.length c0_4) ∧ w'.cell? ⟨gb196, 5, none⟩ = some (.slice A0_5 l0_5.length c0_5)) (ds := []) bq_11 (by kernel_rfl) rfl rfl (bk6_ BK196.out) (fun hHeld => ?_); refine with_tabW spec_InodeOk.tab7 spec_InodeOk.bits7 (fun HT_ HW_ => ?_)
        generalize (w18.drewN nd_1).drew = w26 at BK196 HB hHeld ⊢
        refine yq_ (i := 0) (N := some 36) bq_12 (any_of HT_.out (by kernel_rfl)) ?_
        refine tk_ (i := 1) (N := some 37) bq_13 (take_ofW HT_.out HW_.out (by kernel_rfl)) hHeld ?_
        refine one_ (i := 2) (N := some 38) bq_14 rfl rfl (one_of HT_.out (by kernel_rfl)) (by decide) (fun K hK => ?_)
        refine goes_ Try.func141 (by kernel_rfl) rfl #[.int .i64 a0_1, .int .i64 0, .int .i64 128] (by rfl) rfl rfl tq_1 ?_
        with_reducible refine (spec_l01In.calls a0_1 0 128 true _ A20.out).mono ?_
        rintro e w' ⟨rfl, ⟨nd, rfl⟩⟩
        refine ⟨_, rfl, ?_⟩
        refine hK.out _ _ (bk6_ BK196.out) (fun hHeld => ?_)
        clear hK K
        refine nm_ (some 38) ?_
        refine yq_ (i := 3) (N := some 39) bq_15 (any_of HT_.out (by kernel_rfl)) ?_
        refine yq_ (i := 4) (N := some 40) bq_16 (any_of HT_.out (by kernel_rfl)) ?_
        refine yq_ (i := 5) (N := some 41) bq_17 (any_of HT_.out (by kernel_rfl)) ?_
        refine tk_ (i := 6) (N := some 42) bq_18 (take_ofW HT_.out HW_.out (by kernel_rfl)) hHeld ?_
        refine yq_ (i := 7) (N := some 43) bq_19 (any_of HT_.out (by kernel_rfl)) ?_
        refine yq_ (i := 8) (N := some 44) bq_20 (any_of HT_.out (by kernel_rfl)) ?_
        refine yq_ (i := 9) (N := some 45) bq_21 (any_of HT_.out (by kernel_rfl)) ?_
        refine yq_ (i := 10) (N := some 46) bq_22 (any_of HT_.out (by kernel_rfl)) ?_
        refine yq_ (i := 11) (N := some 47) bq_23 (any_of HT_.out (by kernel_rfl)) ?_
        refine yq_ (i := 14) (N := some 50) bq_88 (any_of HT_.out (by kernel_rfl)) ?_
        refine tk_ (i := 12) (N := some 48) bq_89 (take_ofW HT_.out HW_.out (by kernel_rfl)) hHeld ?_
        refine yq_ (i := 13) (N := some 49) bq_24 (any_of HT_.out (by kernel_rfl)) ?_
        refine tk_ (i := 15) (N := some 51) bq_25 (take_ofW HT_.out HW_.out (by kernel_rfl)) hHeld ?_
        refine one_ (i := 16) (N := some 52) bq_26 rfl rfl (one_of HT_.out (by kernel_rfl)) (by decide) (fun K hK => ?_)
        refine goes_ Try.func45 (by kernel_rfl) rfl #[.int .i64 a0_1] (by rfl) rfl rfl tq_1 ?_
        with_reducible refine (spec_PagesFor.calls a0_1 t199 _ A23.out).mono ?_
        rintro e w' ⟨rfl, ⟨nd, rfl⟩⟩
        refine ⟨_, rfl, ?_⟩
        refine hK.out _ _ (bk6_ BK196.out) (fun hHeld => ?_)
        clear hK K
        refine nm_ (some 52) ?_
        refine yq_ (i := 17) (N := some 53) bq_27 (any_of HT_.out (by kernel_rfl)) ?_
        refine yq_ (i := 18) (N := some 54) bq_28 (any_of HT_.out (by kernel_rfl)) ?_
        refine yq_ (i := 19) (N := some 55) bq_29 (any_of HT_.out (by kernel_rfl)) ?_
        refine uq_ (i := 20) (N := some 56) bq_30 (any_of HT_.out (by kernel_rfl)) ?_
        refine uq_ (i := 21) (N := some 57) bq_31 (any_of HT_.out (by kernel_rfl)) ?_
        refine uq_ (i := 22) (N := some 58) bq_32 (any_of HT_.out (by kernel_rfl)) ?_
        refine uq_ (i := 23) (N := some 59) bq_33 (any_of HT_.out (by kernel_rfl)) ?_
        refine yq_ (i := 24) (N := some 60) bq_34 (any_of HT_.out (by kernel_rfl)) ?_
        refine done_ (done_of HT_.out (by kernel_rfl)) ?_
        try go_wp2
        go_meet
        case rel => exact ⟨_, (true), tq_8, H', ⟨tq_51⟩, ⟨tq_22⟩, ⟨tq_6⟩⟩
      ·rw [if_neg c22] at H
       have c22b0 : ((a0_3.size : Int) == 8) = false := beq_eq_false_iff_ne.mpr c22
       have c22b1 : ((a0_3.size : Int) != 8) = true := bne_iff_ne.mpr c22
       (first | rw [c22b0] | (simp only [i64_w, i32_w]; rw [c22b0]) | skip)
       have H' := Aside0.mk H
       clear H
       try go_wp2
       have z_ := p_ (blk_drew (blk_drewN BK196.out nd_1)) <| a_ (below_drew1 (pw_below_drewN HB.out nd_1))
       clear BK196 HB
       obtain ⟨BK196, HB⟩ := z_
       refine start_ (n := 25) (S := fun w' => w'.cell? ⟨gb196, 0, none⟩ = some (.int .i64 a0_0) ∧ w'.cell? ⟨gb196, 1, none⟩ = some (.int .i64 a0_1) ∧ w'.cell? ⟨gb196, 2, none⟩ = some (.int .i64 a0_2) ∧ w'.cell? ⟨gb196, 3, none⟩ = some (.string a0_3) ∧ w'.cell? ⟨gb196, 4, none⟩ = some (.slice A0_4 l0_4.length c0_4) ∧ w'.cell? ⟨gb196, 5, none⟩ = some (.slice A0_5 l0_5.length c0_5)) (ds := []) bq_11 (by kernel_rfl) rfl rfl (bk6_ BK196.out) (fun hHeld => ?_); refine with_tabW spec_InodeOk.tab7 spec_InodeOk.bits7 (fun HT_ HW_ => ?_)
       generalize (w18.drewN nd_1).drew = w27 at BK196 HB hHeld ⊢
       refine yq_ (i := 0) (N := some 36) bq_12 (any_of HT_.out (by kernel_rfl)) ?_
       refine tk_ (i := 1) (N := some 37) bq_13 (take_ofW HT_.out HW_.out (by kernel_rfl)) hHeld ?_
       refine one_ (i := 2) (N := some 38) bq_14 rfl rfl (one_of HT_.out (by kernel_rfl)) (by decide) (fun K hK => ?_)
       refine goes_ Try.func141 (by kernel_rfl) rfl #[.int .i64 a0_1, .int .i64 0, .int .i64 128] (by rfl) rfl rfl tq_1 ?_
       with_reducible refine (spec_l01In.calls a0_1 0 128 true _ A20.out).mono ?_
       rintro e w' ⟨rfl, ⟨nd, rfl⟩⟩
       refine ⟨_, rfl, ?_⟩
       refine hK.out _ _ (bk6_ BK196.out) (fun hHeld => ?_)
       clear hK K
       refine nm_ (some 38) ?_
       refine yq_ (i := 3) (N := some 39) bq_15 (any_of HT_.out (by kernel_rfl)) ?_
       refine yq_ (i := 4) (N := some 40) bq_16 (any_of HT_.out (by kernel_rfl)) ?_
       refine yq_ (i := 5) (N := some 41) bq_17 (any_of HT_.out (by kernel_rfl)) ?_
       refine tk_ (i := 6) (N := some 42) bq_18 (take_ofW HT_.out HW_.out (by kernel_rfl)) hHeld ?_
       refine yq_ (i := 7) (N := some 43) bq_19 (any_of HT_.out (by kernel_rfl)) ?_
       refine yq_ (i := 8) (N := some 44) bq_20 (any_of HT_.out (by kernel_rfl)) ?_
       refine yq_ (i := 9) (N := some 45) bq_21 (any_of HT_.out (by kernel_rfl)) ?_
       refine yq_ (i := 10) (N := some 46) bq_22 (any_of HT_.out (by kernel_rfl)) ?_
       refine uq_ (i := 11) (N := some 47) bq_23 (any_of HT_.out (by kernel_rfl)) ?_
       refine uq_ (i := 12) (N := some 48) bq_90 (any_of HT_.out (by kernel_rfl)) ?_
       refine uq_ (i := 13) (N := some 49) bq_91 (any_of HT_.out (by kernel_rfl)) ?_
       refine uq_ (i := 14) (N := some 50) bq_24 (any_of HT_.out (by kernel_rfl)) ?_
       refine uq_ (i := 15) (N := some 51) bq_25 (any_of HT_.out (by kernel_rfl)) ?_
       refine uq_ (i := 16) (N := some 52) bq_26 (any_of HT_.out (by kernel_rfl)) ?_
       refine uq_ (i := 17) (N := some 53) bq_27 (any_of HT_.out (by kernel_rfl)) ?_
       refine yq_ (i := 18) (N := some 54) bq_28 (any_of HT_.out (by kernel_rfl)) ?_
       refine yq_ (i := 19) (N := some 55) bq_29 (any_of HT_.out (by kernel_rfl)) ?_
       refine uq_ (i := 20) (N := some 56) bq_30 (any_of HT_.out (by kernel_rfl)) ?_
       refine uq_ (i := 21) (N := some 57) bq_31 (any_of HT_.out (by kernel_rfl)) ?_
       refine uq_ (i := 22) (N := some 58) bq_32 (any_of HT_.out (by kernel_rfl)) ?_
       refine uq_ (i := 23) (N := some 59) bq_33 (any_of HT_.out (by kernel_rfl)) ?_
       refine yq_ (i := 24) (N := some 60) bq_34 (any_of HT_.out (by kernel_rfl)) ?_
       refine done_ (done_of HT_.out (by kernel_rfl)) ?_
       try go_wp2
       go_meet
       case rel => exact ⟨_, (true), tq_8, H', ⟨tq_51⟩, ⟨tq_22⟩, ⟨tq_6⟩⟩
     ·replace c21 := Bool.eq_false_iff.mpr c21
      subst c21
      have H1 : (spec_InodeOk.j0 k true a0_0 a0_1 a0_2 a0_3 l0_4 l0_5) = some r := by rw [if_neg (show ¬ (false = true) by decide)] at H; exact H
      clear H
      have H := H1
      clear H1
      have H' := Aside0.mk H
      clear H
      try go_wp2
      have z_ := p_ (blk_drew (blk_drewN BK196.out nd_1)) <| a_ (below_drew1 (pw_below_drewN HB.out nd_1))
      clear BK196 HB
      obtain ⟨BK196, HB⟩ := z_
      refine start_ (n := 25) (S := fun w' => w'.cell? ⟨gb196, 0, none⟩ = some (.int .i64 a0_0) ∧ w'.cell? ⟨gb196, 1, none⟩ = some (.int .i64 a0_1) ∧ w'.cell? ⟨gb196, 2, none⟩ = some (.int .i64 a0_2) ∧ w'.cell? ⟨gb196, 3, none⟩ = some (.string a0_3) ∧ w'.cell? ⟨gb196, 4, none⟩ = some (.slice A0_4 l0_4.length c0_4) ∧ w'.cell? ⟨gb196, 5, none⟩ = some (.slice A0_5 l0_5.length c0_5)) (ds := []) bq_11 (by kernel_rfl) rfl rfl (bk6_ BK196.out) (fun hHeld => ?_); refine with_tabW spec_InodeOk.tab7 spec_InodeOk.bits7 (fun HT_ HW_ => ?_)
      generalize (w18.drewN nd_1).drew = w28 at BK196 HB hHeld ⊢
      refine yq_ (i := 0) (N := some 36) bq_12 (any_of HT_.out (by kernel_rfl)) ?_
      refine tk_ (i := 1) (N := some 37) bq_13 (take_ofW HT_.out HW_.out (by kernel_rfl)) hHeld ?_
      refine one_ (i := 2) (N := some 38) bq_14 rfl rfl (one_of HT_.out (by kernel_rfl)) (by decide) (fun K hK => ?_)
      refine goes_ Try.func141 (by kernel_rfl) rfl #[.int .i64 a0_1, .int .i64 0, .int .i64 128] (by rfl) rfl rfl tq_1 ?_
      with_reducible refine (spec_l01In.calls a0_1 0 128 false _ A20.out).mono ?_
      rintro e w' ⟨rfl, ⟨nd, rfl⟩⟩
      refine ⟨_, rfl, ?_⟩
      refine hK.out _ _ (bk6_ BK196.out) (fun hHeld => ?_)
      clear hK K
      refine nm_ (some 38) ?_
      refine yq_ (i := 3) (N := some 39) bq_15 (any_of HT_.out (by kernel_rfl)) ?_
      refine yq_ (i := 4) (N := some 40) bq_16 (any_of HT_.out (by kernel_rfl)) ?_
      refine uq_ (i := 5) (N := some 41) bq_17 (any_of HT_.out (by kernel_rfl)) ?_
      refine uq_ (i := 6) (N := some 42) bq_18 (any_of HT_.out (by kernel_rfl)) ?_
      refine uq_ (i := 7) (N := some 43) bq_19 (any_of HT_.out (by kernel_rfl)) ?_
      refine uq_ (i := 8) (N := some 44) bq_20 (any_of HT_.out (by kernel_rfl)) ?_
      refine yq_ (i := 9) (N := some 45) bq_21 (any_of HT_.out (by kernel_rfl)) ?_
      refine yq_ (i := 10) (N := some 46) bq_22 (any_of HT_.out (by kernel_rfl)) ?_
      refine uq_ (i := 11) (N := some 47) bq_23 (any_of HT_.out (by kernel_rfl)) ?_
      refine uq_ (i := 12) (N := some 48) bq_90 (any_of HT_.out (by kernel_rfl)) ?_
      refine uq_ (i := 13) (N := some 49) bq_91 (any_of HT_.out (by kernel_rfl)) ?_
      refine uq_ (i := 14) (N := some 50) bq_24 (any_of HT_.out (by kernel_rfl)) ?_
      refine uq_ (i := 15) (N := some 51) bq_25 (any_of HT_.out (by kernel_rfl)) ?_
      refine uq_ (i := 16) (N := some 52) bq_26 (any_of HT_.out (by kernel_rfl)) ?_
      refine uq_ (i := 17) (N := some 53) bq_27 (any_of HT_.out (by kernel_rfl)) ?_
      refine yq_ (i := 18) (N := some 54) bq_28 (any_of HT_.out (by kernel_rfl)) ?_
      refine yq_ (i := 19) (N := some 55) bq_29 (any_of HT_.out (by kernel_rfl)) ?_
      refine uq_ (i := 20) (N := some 56) bq_30 (any_of HT_.out (by kernel_rfl)) ?_
      refine uq_ (i := 21) (N := some 57) bq_31 (any_of HT_.out (by kernel_rfl)) ?_
      refine uq_ (i := 22) (N := some 58) bq_32 (any_of HT_.out (by kernel_rfl)) ?_
      refine uq_ (i := 23) (N := some 59) bq_33 (any_of HT_.out (by kernel_rfl)) ?_
      refine yq_ (i := 24) (N := some 60) bq_34 (any_of HT_.out (by kernel_rfl)) ?_
      refine done_ (done_of HT_.out (by kernel_rfl)) ?_
      try go_wp2
      go_meet
      case rel => exact ⟨_, (true), tq_8, H', ⟨tq_51⟩, ⟨tq_22⟩, ⟨tq_6⟩⟩
    case rest =>
     clear HC17
     try clear c1
     try clear c2
     try clear p2
     try clear c4
     try clear c14
     try clear c21
     try clear c22
     try clear c22b0
     try clear c22b1
     try clear c24
     try clear c24b0
     try clear c24b1
     obtain ⟨kq, x60_16, rfl, HA, HJ16, BK196, HB⟩ := hcut
     cases kq with
     | zero => exact absurd HA.out (by simp [spec_InodeOk.j0])
     | succ kj16 =>
      have H := HA.out
      clear HA
      simp only [spec_InodeOk.j0] at H
      by_cases c29 : x60_16 = true
      ·subst c29
       have H1 : (some false) = some r := by rw [if_pos rfl] at H; exact H
       clear H
       have H := H1
       clear H1
       obtain rfl := Option.some.inj H
       go_wp2
       go_ret
       exact ⟨tq_2, tq_6⟩
      ·replace c29 := Bool.eq_false_iff.mpr c29
       subst c29
       have H1 : (spec_InodeOk.l0 kj16 0 a0_0 a0_1 a0_2 a0_3 l0_4 l0_5) = some r := by rw [if_neg (show ¬ (false = true) by decide)] at H; exact H
       clear H
       have H := H1
       clear H1
       have H' := Aside0.mk H
       clear H
       go_wp2
       go_loopg [3] kj16 (fun kq v3 w' => ∃ (x3_2 : Int), v3 = .int .i64 x3_2 ∧ Aside0 (spec_InodeOk.l0 kq x3_2 a0_0 a0_1 a0_2 a0_3 l0_4 l0_5 = some r) ∧ Aside0 (kq ≤ kj16) ∧ Aside0 (w'.heap[gb196]? = some (.cells #[.int .i64 a0_0, .int .i64 a0_1, .int .i64 a0_2, .string a0_3, (.slice A0_4 l0_4.length c0_4), (.slice A0_5 l0_5.length c0_5)] 49 (0, 0))) ∧ Aside0 (Below w.heap.size w w'))
       case atStart => exact ⟨(0), tq_8, H', ⟨Nat.le_refl _⟩, ⟨tq_22⟩, ⟨tq_6⟩⟩
       case round =>
        clear H'
        try clear c1
        try clear c2
        try clear p2
        try clear c4
        try clear c14
        try clear c21
        try clear c22
        try clear c22b0
        try clear c22b1
        try clear c24
        try clear c24b0
        try clear c24b1
        try clear c29
        try clear p2
        obtain ⟨x3_2, rfl, HA, HK2, BK196, HB⟩ := hrel
        cases gk with
        | zero => exact absurd HA.out (by simp [spec_InodeOk.l0])
        | succ k2 =>
         have H := HA.out
         clear HA
         simp only [spec_InodeOk.l0] at H
         by_cases c30 : x3_2 < (l0_4.length : Int)
         ·rw [if_pos c30] at H
          have c30b0 : decide (x3_2 < (l0_4.length : Int)) = true := decide_eq_true c30
          clear c30
          by_cases c31 : 0 ≤ x3_2
          ·rw [if_pos c31] at H
           have c31b0 : decide (0 ≤ x3_2) = true := decide_eq_true c31
           clear c31
           replace H := Option.bind_eq_some_iff.mp H
           obtain ⟨t201, A320, H⟩ := H
           replace H : (if t201.toList = ([] : List UInt8) then (some false) else (spec_InodeOk.l1 k2 x3_2 0 a0_0 a0_1 a0_2 a0_3 l0_4 l0_5)) = some r := H
           have A32 := Aside0.mk A320
           clear A320
           by_cases c33 : t201.toList = ([] : List UInt8)
           ·rw [if_pos c33] at H
            have c33b0 : (t201.toList == ([] : List UInt8)) = true := beq_iff_eq.mpr c33
            have c33b1 : (t201.toList != ([] : List UInt8)) = false := bne_eq_false_iff_eq.mpr c33
            clear c33
            obtain rfl := Option.some.inj H
            have hcz34_0 := bc_ BK196.out 0
            have hcz34_1 := bc_ BK196.out 1
            have hcz34_2 := bc_ BK196.out 2
            have hcz34_3 := bc_ BK196.out 3
            have hcz34_4 := bc_ BK196.out 4
            have hcz34_5 := bc_ BK196.out 5
            have hfz34_0 := blk_frozen BK196.out 0
            have hfz34_1 := blk_frozen BK196.out 1
            have hfz34_2 := blk_frozen BK196.out 2
            have hfz34_3 := blk_frozen BK196.out 3
            have hfz34_4 := blk_frozen BK196.out 4
            have hfz34_5 := blk_frozen BK196.out 5
            have p200 : 0 ≤ (x3_2 : Int) := of_decide_eq_true tq_3
            have q200 : x3_2 < (l0_4.length : Int) := of_decide_eq_true tq_3
            obtain ⟨ad200, e200, hx200_0, hx200_1, hx200_2⟩ := at_T170 HR0_4.out x3_2 p200 q200
            cases e200
            replace hx200_0 := hx_ HB.out hx200_0
            replace hx200_1 := hx_ HB.out hx200_1
            replace hx200_2 := hx_ HB.out hx200_2
            replace p200 := eq_true p200
            replace q200 := eq_true q200
            go_wp2_with (first | ((with_reducible refine gate_callee (f := 150) rfl ?_); refine goesL_ (some 73) rfl rfl Try.func150 (by kernel_rfl) rfl #[.agg #[.int .i64 ((rd_T170 l0_4 x3_2).f0), .int .i64 ((rd_T170 l0_4 x3_2).f1), .string ((rd_T170 l0_4 x3_2).f2)]] rfl tq_1 ?_; (with_reducible refine (spec_RecWord.calls k2 ((rd_T170 l0_4 x3_2).f0) ((rd_T170 l0_4 x3_2).f1) ((rd_T170 l0_4 x3_2).f2) t201 _ A32.out).mono ?_); rintro e w35 ⟨rfl, hb⟩; refine ⟨_, rfl, ?_⟩; have z_ := p_ (blk_below tq_22 hb) <| a_ (below_step tq_6 hb); clear BK196 HB; obtain ⟨BK196, HB⟩ := z_; (try clear hb); (try clear hb2); (try clear hk); (try clear hi)))
            go_ret
            exact ⟨tq_2, tq_6⟩
           ·rw [if_neg c33] at H
            have c33b0 : (t201.toList == ([] : List UInt8)) = false := beq_eq_false_iff_ne.mpr c33
            have c33b1 : (t201.toList != ([] : List UInt8)) = true := bne_iff_ne.mpr c33
            have H' := Aside0.mk H
            clear H
            have hcz36_0 := bc_ BK196.out 0
            have hcz36_1 := bc_ BK196.out 1
            have hcz36_2 := bc_ BK196.out 2
            have hcz36_3 := bc_ BK196.out 3
            have hcz36_4 := bc_ BK196.out 4
            have hcz36_5 := bc_ BK196.out 5
            have hfz36_0 := blk_frozen BK196.out 0
            have hfz36_1 := blk_frozen BK196.out 1
            have hfz36_2 := blk_frozen BK196.out 2
            have hfz36_3 := blk_frozen BK196.out 3
            have hfz36_4 := blk_frozen BK196.out 4
            have hfz36_5 := blk_frozen BK196.out 5
            have p200 : 0 ≤ (x3_2 : Int) := of_decide_eq_true tq_3
            have q200 : x3_2 < (l0_4.length : Int) := of_decide_eq_true tq_3
            obtain ⟨ad200, e200, hx200_0, hx200_1, hx200_2⟩ := at_T170 HR0_4.out x3_2 p200 q200
            cases e200
            replace hx200_0 := hx_ HB.out hx200_0
            replace hx200_1 := hx_ HB.out hx200_1
            replace hx200_2 := hx_ HB.out hx200_2
            replace p200 := eq_true p200
            replace q200 := eq_true q200
            go_wp2_with (first | ((with_reducible refine gate_callee (f := 150) rfl ?_); refine goesL_ (some 73) rfl rfl Try.func150 (by kernel_rfl) rfl #[.agg #[.int .i64 ((rd_T170 l0_4 x3_2).f0), .int .i64 ((rd_T170 l0_4 x3_2).f1), .string ((rd_T170 l0_4 x3_2).f2)]] rfl tq_1 ?_; (with_reducible refine (spec_RecWord.calls k2 ((rd_T170 l0_4 x3_2).f0) ((rd_T170 l0_4 x3_2).f1) ((rd_T170 l0_4 x3_2).f2) t201 _ A32.out).mono ?_); rintro e w37 ⟨rfl, hb⟩; refine ⟨_, rfl, ?_⟩; have z_ := p_ (blk_below tq_22 hb) <| a_ (below_step tq_6 hb); clear BK196 HB; obtain ⟨BK196, HB⟩ := z_; (try clear hb); (try clear hb2); (try clear hk); (try clear hi)))
            go_loopg [4] k2 (fun kq v4 w' => ∃ (x4_3 : Int), v4 = .int .i64 x4_3 ∧ Aside0 (spec_InodeOk.l1 kq x3_2 x4_3 a0_0 a0_1 a0_2 a0_3 l0_4 l0_5 = some r) ∧ Aside0 (kq ≤ k2) ∧ Aside0 (w'.heap[gb196]? = some (.cells #[.int .i64 a0_0, .int .i64 a0_1, .int .i64 a0_2, .string a0_3, (.slice (some ad200) l0_4.length c0_4), (.slice A0_5 l0_5.length c0_5)] 49 (0, 0))) ∧ Aside0 (Below w.heap.size w w'))
            case atStart => exact ⟨(0), tq_8, H', ⟨Nat.le_refl _⟩, ⟨tq_22⟩, ⟨tq_6⟩⟩
            case round =>
             clear H'
             try clear c1
             try clear c2
             try clear p2
             try clear q2
             try clear hx2
             try clear c3
             try clear c4
             try clear c14
             try clear c15
             try clear p20
             try clear q20
             try clear hx20
             try clear c21
             try clear c22
             try clear c22b0
             try clear c22b1
             try clear c24
             try clear c24b0
             try clear c24b1
             try clear c29
             try clear c30
             try clear c30b0
             try clear c31
             try clear c31b0
             try clear c33
             try clear c33b0
             try clear c33b1
             try clear hcz34_0 hcz34_1 hcz34_2 hcz34_3 hcz34_4 hcz34_5
             try clear hcz36_0 hcz36_1 hcz36_2 hcz36_3 hcz36_4 hcz36_5
             try clear hfz34_0 hfz34_1 hfz34_2 hfz34_3 hfz34_4 hfz34_5
             try clear hfz36_0 hfz36_1 hfz36_2 hfz36_3 hfz36_4 hfz36_5
             try clear hx200_0
             try clear hx200_1
             try clear hx200_2
             try clear p2
             try clear p200
             try clear q200
             obtain ⟨x4_3, rfl, HA, HK3, BK196, HB⟩ := hrel
             cases gk with
             | zero => exact absurd HA.out (by simp [spec_InodeOk.l1])
             | succ k3 =>
              have H := HA.out
              clear HA
              simp only [spec_InodeOk.l1] at H
              by_cases c38 : x4_3 < x3_2
              ·rw [if_pos c38] at H
               have c38b0 : decide (x4_3 < x3_2) = true := decide_eq_true c38
               clear c38
               by_cases c39 : 0 ≤ x4_3
               ·rw [if_pos c39] at H
                have c39b0 : decide (0 ≤ x4_3) = true := decide_eq_true c39
                clear c39
                by_cases c40 : x4_3 < (l0_4.length : Int)
                ·rw [if_pos c40] at H
                 have c40b0 : decide (x4_3 < (l0_4.length : Int)) = true := decide_eq_true c40
                 clear c40
                 by_cases c41 : 0 ≤ x3_2
                 ·rw [if_pos c41] at H
                  have c41b0 : decide (0 ≤ x3_2) = true := decide_eq_true c41
                  clear c41
                  by_cases c42 : x3_2 < (l0_4.length : Int)
                  ·rw [if_pos c42] at H
                   have c42b0 : decide (x3_2 < (l0_4.length : Int)) = true := decide_eq_true c42
                   clear c42
                   by_cases c43 : ((rd_T170 l0_4 x4_3).f0) = ((rd_T170 l0_4 x3_2).f0)
                   ·rw [if_pos c43] at H
                    have c43b0 : (((rd_T170 l0_4 x4_3).f0) == ((rd_T170 l0_4 x3_2).f0)) = true := beq_iff_eq.mpr c43
                    have c43b1 : (((rd_T170 l0_4 x4_3).f0) != ((rd_T170 l0_4 x3_2).f0)) = false := bne_eq_false_iff_eq.mpr c43
                    clear c43
                    obtain rfl := Option.some.inj H
                    try go_wp2
                    have z_ := p_ (blk_drew BK196.out) <| a_ (below_drew1 HB.out)
                    clear BK196 HB
                    obtain ⟨BK196, HB⟩ := z_
                    have p202 : 0 ≤ (x4_3 : Int) := of_decide_eq_true tq_3
                    have q202 : x4_3 < (l0_4.length : Int) := of_decide_eq_true tq_3
                    obtain ⟨ad202, e202, hx202_0, hx202_1, hx202_2⟩ := at_T170 HR0_4.out x4_3 p202 q202
                    have hw202_2 := hx202_2
                    have hw202_1 := hx202_1
                    have hw202_0 := hx202_0
                    obtain rfl : ad200 = ad202 := (by injection e202)
                    replace hx202_0 := hx_ HB.out hx202_0
                    replace hx202_1 := hx_ HB.out hx202_1
                    replace hx202_2 := hx_ HB.out hx202_2
                    replace p202 := eq_true p202
                    replace q202 := eq_true q202
                    have p203 : 0 ≤ (x3_2 : Int) := of_decide_eq_true tq_3
                    have q203 : x3_2 < (l0_4.length : Int) := of_decide_eq_true tq_3
                    obtain ⟨ad203, e203, hx203_0, hx203_1, hx203_2⟩ := at_T170 HR0_4.out x3_2 p203 q203
                    have hw203_2 := hx203_2
                    have hw203_1 := hx203_1
                    have hw203_0 := hx203_0
                    obtain rfl : ad200 = ad203 := (by injection e203)
                    replace hx203_0 := hx_ HB.out hx203_0
                    replace hx203_1 := hx_ HB.out hx203_1
                    replace hx203_2 := hx_ HB.out hx203_2
                    replace p203 := eq_true p203
                    replace q203 := eq_true q203
                    refine start_ (n := 13) (S := fun w' => w'.cell? ⟨gb196, 0, none⟩ = some (.int .i64 a0_0) ∧ w'.cell? ⟨gb196, 1, none⟩ = some (.int .i64 a0_1) ∧ w'.cell? ⟨gb196, 2, none⟩ = some (.int .i64 a0_2) ∧ w'.cell? ⟨gb196, 3, none⟩ = some (.string a0_3) ∧ w'.cell? ⟨gb196, 4, none⟩ = some (.slice (some ad200) l0_4.length c0_4) ∧ w'.cell? ⟨gb196, 5, none⟩ = some (.slice A0_5 l0_5.length c0_5) ∧ w'.cell? (ad200.add ((x4_3).toNat * 3)) = some (.int .i64 ((rd_T170 l0_4 x4_3).f0)) ∧ w'.cell? ⟨(ad200.add ((x4_3).toNat * 3)).block, (ad200.add ((x4_3).toNat * 3)).off + 1, none⟩ = some (.int .i64 ((rd_T170 l0_4 x4_3).f1)) ∧ w'.cell? ⟨(ad200.add ((x4_3).toNat * 3)).block, (ad200.add ((x4_3).toNat * 3)).off + 2, none⟩ = some (.string ((rd_T170 l0_4 x4_3).f2)) ∧ w'.cell? (ad200.add ((x3_2).toNat * 3)) = some (.int .i64 ((rd_T170 l0_4 x3_2).f0)) ∧ w'.cell? ⟨(ad200.add ((x3_2).toNat * 3)).block, (ad200.add ((x3_2).toNat * 3)).off + 1, none⟩ = some (.int .i64 ((rd_T170 l0_4 x3_2).f1)) ∧ w'.cell? ⟨(ad200.add ((x3_2).toNat * 3)).block, (ad200.add ((x3_2).toNat * 3)).off + 2, none⟩ = some (.string ((rd_T170 l0_4 x3_2).f2))) (ds := []) bq_92 (by kernel_rfl) rfl rfl (bc6_ BK196.out ⟨((HB.out.cell (World.block_lt_of_cell? w _ hw202_0)).trans hw202_0), ((HB.out.cell (World.block_lt_of_cell? w _ hw202_1)).trans hw202_1), ((HB.out.cell (World.block_lt_of_cell? w _ hw202_2)).trans hw202_2), ((HB.out.cell (World.block_lt_of_cell? w _ hw203_0)).trans hw203_0), ((HB.out.cell (World.block_lt_of_cell? w _ hw203_1)).trans hw203_1), ((HB.out.cell (World.block_lt_of_cell? w _ hw203_2)).trans hw203_2)⟩) (fun hHeld => ?_); refine with_tabW spec_InodeOk.tab17 spec_InodeOk.bits17 (fun HT_ HW_ => ?_)
                    generalize wr.drew = w44 at BK196 HB hx202_0 hx202_1 hx202_2 hx203_0 hx203_1 hx203_2 hHeld ⊢
                    refine yq_ (i := 0) (N := some 80) bq_93 (any_of HT_.out (by kernel_rfl)) ?_
                    refine yq_ (i := 2) (N := some 82) bq_94 (any_of HT_.out (by kernel_rfl)) ?_
                    refine yq_ (i := 6) (N := some 86) bq_95 (any_of HT_.out (by kernel_rfl)) ?_
                    refine yq_ (i := 8) (N := some 88) bq_96 (any_of HT_.out (by kernel_rfl)) ?_
                    refine tk_ (i := 1) (N := some 81) bq_97 (take_ofW HT_.out HW_.out (by kernel_rfl)) hHeld ?_
                    refine yq_ (i := 3) (N := some 83) bq_98 (any_of HT_.out (by kernel_rfl)) ?_
                    refine yq_ (i := 4) (N := some 84) bq_99 (any_of HT_.out (by kernel_rfl)) ?_
                    refine tk_ (i := 5) (N := some 85) bq_100 (take_ofW HT_.out HW_.out (by kernel_rfl)) hHeld ?_
                    refine tk_ (i := 7) (N := some 87) bq_101 (take_ofW HT_.out HW_.out (by kernel_rfl)) hHeld ?_
                    refine yq_ (i := 9) (N := some 89) bq_102 (any_of HT_.out (by kernel_rfl)) ?_
                    refine yq_ (i := 10) (N := some 90) bq_103 (any_of HT_.out (by kernel_rfl)) ?_
                    refine tk_ (i := 11) (N := some 91) bq_104 (take_ofW HT_.out HW_.out (by kernel_rfl)) hHeld ?_
                    refine yq_ (i := 12) (N := some 92) bq_105 (any_of HT_.out (by kernel_rfl)) ?_
                    refine done_ (done_of HT_.out (by kernel_rfl)) ?_
                    try go_wp2
                    go_ret
                    exact ⟨tq_2, tq_6⟩
                   ·rw [if_neg c43] at H
                    have c43b0 : (((rd_T170 l0_4 x4_3).f0) == ((rd_T170 l0_4 x3_2).f0)) = false := beq_eq_false_iff_ne.mpr c43
                    have c43b1 : (((rd_T170 l0_4 x4_3).f0) != ((rd_T170 l0_4 x3_2).f0)) = true := bne_iff_ne.mpr c43
                    have H' := Aside0.mk H
                    clear H
                    try go_wp2
                    have z_ := p_ (blk_drew BK196.out) <| a_ (below_drew1 HB.out)
                    clear BK196 HB
                    obtain ⟨BK196, HB⟩ := z_
                    have p202 : 0 ≤ (x4_3 : Int) := of_decide_eq_true tq_3
                    have q202 : x4_3 < (l0_4.length : Int) := of_decide_eq_true tq_3
                    obtain ⟨ad202, e202, hx202_0, hx202_1, hx202_2⟩ := at_T170 HR0_4.out x4_3 p202 q202
                    have hw202_2 := hx202_2
                    have hw202_1 := hx202_1
                    have hw202_0 := hx202_0
                    obtain rfl : ad200 = ad202 := (by injection e202)
                    replace hx202_0 := hx_ HB.out hx202_0
                    replace hx202_1 := hx_ HB.out hx202_1
                    replace hx202_2 := hx_ HB.out hx202_2
                    replace p202 := eq_true p202
                    replace q202 := eq_true q202
                    have p203 : 0 ≤ (x3_2 : Int) := of_decide_eq_true tq_3
                    have q203 : x3_2 < (l0_4.length : Int) := of_decide_eq_true tq_3
                    obtain ⟨ad203, e203, hx203_0, hx203_1, hx203_2⟩ := at_T170 HR0_4.out x3_2 p203 q203
                    have hw203_2 := hx203_2
                    have hw203_1 := hx203_1
                    have hw203_0 := hx203_0
                    obtain rfl : ad200 = ad203 := (by injection e203)
                    replace hx203_0 := hx_ HB.out hx203_0
                    replace hx203_1 := hx_ HB.out hx203_1
                    replace hx203_2 := hx_ HB.out hx203_2
                    replace p203 := eq_true p203
                    replace q203 := eq_true q203
                    refine start_ (n := 13) (S := fun w' => w'.cell? ⟨gb196, 0, none⟩ = some (.int .i64 a0_0) ∧ w'.cell? ⟨gb196, 1, none⟩ = some (.int .i64 a0_1) ∧ w'.cell? ⟨gb196, 2, none⟩ = some (.int .i64 a0_2) ∧ w'.cell? ⟨gb196, 3, none⟩ = some (.string a0_3) ∧ w'.cell? ⟨gb196, 4, none⟩ = some (.slice (some ad200) l0_4.length c0_4) ∧ w'.cell? ⟨gb196, 5, none⟩ = some (.slice A0_5 l0_5.length c0_5) ∧ w'.cell? (ad200.add ((x4_3).toNat * 3)) = some (.int .i64 ((rd_T170 l0_4 x4_3).f0)) ∧ w'.cell? ⟨(ad200.add ((x4_3).toNat * 3)).block, (ad200.add ((x4_3).toNat * 3)).off + 1, none⟩ = some (.int .i64 ((rd_T170 l0_4 x4_3).f1)) ∧ w'.cell? ⟨(ad200.add ((x4_3).toNat * 3)).block, (ad200.add ((x4_3).toNat * 3)).off + 2, none⟩ = some (.string ((rd_T170 l0_4 x4_3).f2)) ∧ w'.cell? (ad200.add ((x3_2).toNat * 3)) = some (.int .i64 ((rd_T170 l0_4 x3_2).f0)) ∧ w'.cell? ⟨(ad200.add ((x3_2).toNat * 3)).block, (ad200.add ((x3_2).toNat * 3)).off + 1, none⟩ = some (.int .i64 ((rd_T170 l0_4 x3_2).f1)) ∧ w'.cell? ⟨(ad200.add ((x3_2).toNat * 3)).block, (ad200.add ((x3_2).toNat * 3)).off + 2, none⟩ = some (.string ((rd_T170 l0_4 x3_2).f2))) (ds := []) bq_92 (by kernel_rfl) rfl rfl (bc6_ BK196.out ⟨((HB.out.cell (World.block_lt_of_cell? w _ hw202_0)).trans hw202_0), ((HB.out.cell (World.block_lt_of_cell? w _ hw202_1)).trans hw202_1), ((HB.out.cell (World.block_lt_of_cell? w _ hw202_2)).trans hw202_2), ((HB.out.cell (World.block_lt_of_cell? w _ hw203_0)).trans hw203_0), ((HB.out.cell (World.block_lt_of_cell? w _ hw203_1)).trans hw203_1), ((HB.out.cell (World.block_lt_of_cell? w _ hw203_2)).trans hw203_2)⟩) (fun hHeld => ?_); refine with_tabW spec_InodeOk.tab17 spec_InodeOk.bits17 (fun HT_ HW_ => ?_)
                    generalize wr.drew = w45 at BK196 HB hx202_0 hx202_1 hx202_2 hx203_0 hx203_1 hx203_2 hHeld ⊢
                    refine yq_ (i := 0) (N := some 80) bq_93 (any_of HT_.out (by kernel_rfl)) ?_
                    refine yq_ (i := 2) (N := some 82) bq_94 (any_of HT_.out (by kernel_rfl)) ?_
                    refine yq_ (i := 6) (N := some 86) bq_95 (any_of HT_.out (by kernel_rfl)) ?_
                    refine yq_ (i := 8) (N := some 88) bq_96 (any_of HT_.out (by kernel_rfl)) ?_
                    refine tk_ (i := 1) (N := some 81) bq_97 (take_ofW HT_.out HW_.out (by kernel_rfl)) hHeld ?_
                    refine yq_ (i := 3) (N := some 83) bq_98 (any_of HT_.out (by kernel_rfl)) ?_
                    refine yq_ (i := 4) (N := some 84) bq_99 (any_of HT_.out (by kernel_rfl)) ?_
                    refine tk_ (i := 5) (N := some 85) bq_100 (take_ofW HT_.out HW_.out (by kernel_rfl)) hHeld ?_
                    refine tk_ (i := 7) (N := some 87) bq_101 (take_ofW HT_.out HW_.out (by kernel_rfl)) hHeld ?_
                    refine yq_ (i := 9) (N := some 89) bq_102 (any_of HT_.out (by kernel_rfl)) ?_
                    refine yq_ (i := 10) (N := some 90) bq_103 (any_of HT_.out (by kernel_rfl)) ?_
                    refine tk_ (i := 11) (N := some 91) bq_104 (take_ofW HT_.out HW_.out (by kernel_rfl)) hHeld ?_
                    refine yq_ (i := 12) (N := some 92) bq_105 (any_of HT_.out (by kernel_rfl)) ?_
                    refine done_ (done_of HT_.out (by kernel_rfl)) ?_
                    try go_wp2
                    go_roundg k3
                    case measure => have := HJ16.out; have := HK2.out; have := HK3.out; omega
                    case rel => exact ⟨(wrap64 (x4_3 + 1)), tq_8, H', ⟨(by have := HJ16.out; have := HK2.out; have := HK3.out; omega)⟩, ⟨tq_22⟩, ⟨tq_6⟩⟩
                  ·rw [if_neg c42] at H
                   exact absurd H (by simp)
                 ·rw [if_neg c41] at H
                  exact absurd H (by simp)
                ·rw [if_neg c40] at H
                 exact absurd H (by simp)
               ·rw [if_neg c39] at H
                exact absurd H (by simp)
              ·rw [if_neg c38] at H
               have c38b0 : decide (x4_3 < x3_2) = false := decide_eq_false c38
               clear c38
               have H' := Aside0.mk H
               clear H
               go_wp2
               go_roundg k3
               case measure => have := HJ16.out; have := HK2.out; have := HK3.out; omega
               case rel => exact ⟨(wrap64 (x3_2 + 1)), tq_8, H', ⟨(by have := HJ16.out; have := HK2.out; have := HK3.out; omega)⟩, ⟨tq_22⟩, ⟨tq_6⟩⟩
          ·rw [if_neg c31] at H
           exact absurd H (by simp)
         ·rw [if_neg c30] at H
          have c30b0 : decide (x3_2 < (l0_4.length : Int)) = false := decide_eq_false c30
          clear c30
          obtain rfl := Option.some.inj H
          have hcz46_0 := bc_ BK196.out 0
          have hcz46_1 := bc_ BK196.out 1
          have hcz46_2 := bc_ BK196.out 2
          have hcz46_3 := bc_ BK196.out 3
          have hcz46_4 := bc_ BK196.out 4
          have hcz46_5 := bc_ BK196.out 5
          have hfz46_0 := blk_frozen BK196.out 0
          have hfz46_1 := blk_frozen BK196.out 1
          have hfz46_2 := blk_frozen BK196.out 2
          have hfz46_3 := blk_frozen BK196.out 3
          have hfz46_4 := blk_frozen BK196.out 4
          have hfz46_5 := blk_frozen BK196.out 5
          go_wp2
          go_ret
          exact ⟨tq_2, tq_6⟩
   ·rw [if_neg c16] at H
    have c16b0 : (a0_0 == 1) = false := beq_eq_false_iff_ne.mpr c16
    have c16b1 : (a0_0 != 1) = true := bne_iff_ne.mpr c16
    by_cases c47 : a0_0 = 2
    ·rw [if_pos c47] at H
     have c47b0 : (a0_0 == 2) = true := beq_iff_eq.mpr c47
     have c47b1 : (a0_0 != 2) = false := bne_eq_false_iff_eq.mpr c47
     clear c47
     have HC48 := Aside0.mk H
     clear H
     go_enter Try.func147, Try.ntmps147
     go_upto_region 21 with (first | ((with_reducible refine gate_dst (N := 1) rfl ?_); (try (refine gate_guard (by rfl) ?_; dsimp only)); refine box_event ?hg (N := 1) ?hd (cs := #[.int .i64 a0_0, .int .i64 a0_1, .int .i64 a0_2, .string a0_3, .slice A0_4 l0_4.length c0_4, .slice A0_5 l0_5.length c0_5]) (t := 49) ?hr ?_; (case hd => rfl); (case hg => rfl); (case hr => first | (go_simp; done) | (go_simp; rfl)); intro gb196 hg w49 hbox hb; have z_ := p_ (below_step tq_0 hb) <| p_ (hbox) <| p_ (gb_ hg tq_0) <| a_ (gb_ hg tq_0); clear HB; obtain ⟨HB, BK196, GW196, GE196⟩ := z_; clear hb hbox hg; have hcz50_0 := bc_ BK196.out 0; have hcz50_1 := bc_ BK196.out 1; have hcz50_2 := bc_ BK196.out 2; have hcz50_3 := bc_ BK196.out 3; have hcz50_4 := bc_ BK196.out 4; have hcz50_5 := bc_ BK196.out 5; have hfz50_0 := blk_frozen BK196.out 0; have hfz50_1 := blk_frozen BK196.out 1; have hfz50_2 := blk_frozen BK196.out 2; have hfz50_3 := blk_frozen BK196.out 3; have hfz50_4 := blk_frozen BK196.out 4; have hfz50_5 := blk_frozen BK196.out 5) | ((with_reducible refine gate_callee (f := 141) rfl ?_); refine goesL_ (some 8) rfl rfl Try.func141 (by kernel_rfl) rfl #[.int .i64 a0_2, .int .i64 0, .int .i64 65535] rfl tq_1 ?_; (with_reducible refine (spec_l01In.calls a0_2 0 65535 true _ A2.out).mono ?_); rintro e w' ⟨rfl, ⟨nd, rfl⟩⟩; refine ⟨_, rfl, ?_⟩))
     (try simp only [Act.put, List.setIfInBounds_toArray, List.set_cons_zero, List.set_cons_succ])
     go_cut [114] (fun v114 wc => ∃ (kq : Nat) (x114_47 : Bool), v114 = .bool x114_47 ∧ Aside0 (spec_InodeOk.j3 kq x114_47 a0_0 a0_1 a0_2 a0_3 l0_4 l0_5 = some r) ∧ Aside0 (kq ≤ k) ∧ Aside0 (wc.heap[gb196]? = some (.cells #[.int .i64 a0_0, .int .i64 a0_1, .int .i64 a0_2, .string a0_3, (.slice A0_4 l0_4.length c0_4), (.slice A0_5 l0_5.length c0_5)] 49 (0, 0))) ∧ Aside0 (Below w.heap.size w wc))
     case first =>
      have H := HC48.out
      clear HC48
      by_cases c51 : a0_1 = 0
      ·rw [if_pos c51] at H
       have c51b0 : (a0_1 == 0) = true := beq_iff_eq.mpr c51
       have c51b1 : (a0_1 != 0) = false := bne_eq_false_iff_eq.mpr c51
       clear c51
       (first | rw [c51b0] | (simp only [i64_w, i32_w]; rw [c51b0]) | skip)
       by_cases c52 : a0_3.toList = ([] : List UInt8)
       ·rw [if_pos c52] at H
        have c52b0 : (a0_3.toList == ([] : List UInt8)) = true := beq_iff_eq.mpr c52
        have c52b1 : (a0_3.toList != ([] : List UInt8)) = false := bne_eq_false_iff_eq.mpr c52
        clear c52
        by_cases c53 : (l0_4.length : Int) > 0
        ·rw [if_pos c53] at H
         have c53b0 : decide (0 < (l0_4.length : Int)) = true := decide_eq_true c53
         have c53b1 : decide (0 < l0_4.length) = true := decide_eq_true (by omega)
         clear c53
         have H' := Aside0.mk H
         clear H
         have hcz54_0 := bc_ BK196.out 0
         have hcz54_1 := bc_ BK196.out 1
         have hcz54_2 := bc_ BK196.out 2
         have hcz54_3 := bc_ BK196.out 3
         have hcz54_4 := bc_ BK196.out 4
         have hcz54_5 := bc_ BK196.out 5
         have hfz54_0 := blk_frozen BK196.out 0
         have hfz54_1 := blk_frozen BK196.out 1
         have hfz54_2 := blk_frozen BK196.out 2
         have hfz54_3 := blk_frozen BK196.out 3
         have hfz54_4 := blk_frozen BK196.out 4
         have hfz54_5 := blk_frozen BK196.out 5
         go_wp2
         go_meet
         case rel => exact ⟨_, (true), tq_8, H', ⟨tq_51⟩, ⟨tq_22⟩, ⟨tq_6⟩⟩
        ·rw [if_neg c53] at H
         have c53b0 : decide (0 < (l0_4.length : Int)) = false := decide_eq_false c53
         have c53b1 : decide (0 < l0_4.length) = false := decide_eq_false (by omega)
         clear c53
         have H' := Aside0.mk H
         clear H
         have hcz55_0 := bc_ BK196.out 0
         have hcz55_1 := bc_ BK196.out 1
         have hcz55_2 := bc_ BK196.out 2
         have hcz55_3 := bc_ BK196.out 3
         have hcz55_4 := bc_ BK196.out 4
         have hcz55_5 := bc_ BK196.out 5
         have hfz55_0 := blk_frozen BK196.out 0
         have hfz55_1 := blk_frozen BK196.out 1
         have hfz55_2 := blk_frozen BK196.out 2
         have hfz55_3 := blk_frozen BK196.out 3
         have hfz55_4 := blk_frozen BK196.out 4
         have hfz55_5 := blk_frozen BK196.out 5
         go_wp2
         go_meet
         case rel => exact ⟨_, (decide ((l0_5.length : Int) > 6)), tq_8, H', ⟨tq_51⟩, ⟨tq_22⟩, ⟨tq_6⟩⟩
       ·rw [if_neg c52] at H
        have c52b0 : (a0_3.toList == ([] : List UInt8)) = false := beq_eq_false_iff_ne.mpr c52
        have c52b1 : (a0_3.toList != ([] : List UInt8)) = true := bne_iff_ne.mpr c52
        have H' := Aside0.mk H
        clear H
        have hcz56_0 := bc_ BK196.out 0
        have hcz56_1 := bc_ BK196.out 1
        have hcz56_2 := bc_ BK196.out 2
        have hcz56_3 := bc_ BK196.out 3
        have hcz56_4 := bc_ BK196.out 4
        have hcz56_5 := bc_ BK196.out 5
        have hfz56_0 := blk_frozen BK196.out 0
        have hfz56_1 := blk_frozen BK196.out 1
        have hfz56_2 := blk_frozen BK196.out 2
        have hfz56_3 := blk_frozen BK196.out 3
        have hfz56_4 := blk_frozen BK196.out 4
        have hfz56_5 := blk_frozen BK196.out 5
        go_wp2
        go_meet
        case rel => exact ⟨_, (true), tq_8, H', ⟨tq_51⟩, ⟨tq_22⟩, ⟨tq_6⟩⟩
      ·rw [if_neg c51] at H
       have c51b0 : (a0_1 == 0) = false := beq_eq_false_iff_ne.mpr c51
       have c51b1 : (a0_1 != 0) = true := bne_iff_ne.mpr c51
       (first | rw [c51b0] | (simp only [i64_w, i32_w]; rw [c51b0]) | skip)
       have H' := Aside0.mk H
       clear H
       have hcz57_0 := bc_ BK196.out 0
       have hcz57_1 := bc_ BK196.out 1
       have hcz57_2 := bc_ BK196.out 2
       have hcz57_3 := bc_ BK196.out 3
       have hcz57_4 := bc_ BK196.out 4
       have hcz57_5 := bc_ BK196.out 5
       have hfz57_0 := blk_frozen BK196.out 0
       have hfz57_1 := blk_frozen BK196.out 1
       have hfz57_2 := blk_frozen BK196.out 2
       have hfz57_3 := blk_frozen BK196.out 3
       have hfz57_4 := blk_frozen BK196.out 4
       have hfz57_5 := blk_frozen BK196.out 5
       go_wp2
       go_meet
       case rel => exact ⟨_, (true), tq_8, H', ⟨tq_51⟩, ⟨tq_22⟩, ⟨tq_6⟩⟩
     case rest =>
      clear HC48
      try clear c1
      try clear c2
      try clear p2
      try clear q2
      try clear hx2
      try clear c3
      try clear c4
      try clear c5
      try clear p6
      try clear c14
      try clear c15
      try clear c16
      try clear c16b0
      try clear c16b1
      try clear p20
      try clear q20
      try clear hx20
      try clear c21
      try clear c22
      try clear c22b0
      try clear c22b1
      try clear c24
      try clear c24b0
      try clear c24b1
      try clear c29
      try clear c30
      try clear c30b0
      try clear c31
      try clear c31b0
      try clear c33
      try clear c33b0
      try clear c33b1
      try clear c38
      try clear c38b0
      try clear c39
      try clear c39b0
      try clear c40
      try clear c40b0
      try clear c41
      try clear c41b0
      try clear c42
      try clear c42b0
      try clear c43
      try clear c43b0
      try clear c43b1
      try clear c47
      try clear c47b0
      try clear c47b1
      try clear c51
      try clear c51b0
      try clear c51b1
      try clear c52
      try clear c52b0
      try clear c52b1
      try clear c53
      try clear c53b0
      try clear c53b1
      try clear hcz34_0 hcz34_1 hcz34_2 hcz34_3 hcz34_4 hcz34_5
      try clear hcz36_0 hcz36_1 hcz36_2 hcz36_3 hcz36_4 hcz36_5
      try clear hcz46_0 hcz46_1 hcz46_2 hcz46_3 hcz46_4 hcz46_5
      try clear hcz50_0 hcz50_1 hcz50_2 hcz50_3 hcz50_4 hcz50_5
      try clear hcz54_0 hcz54_1 hcz54_2 hcz54_3 hcz54_4 hcz54_5
      try clear hcz55_0 hcz55_1 hcz55_2 hcz55_3 hcz55_4 hcz55_5
      try clear hcz56_0 hcz56_1 hcz56_2 hcz56_3 hcz56_4 hcz56_5
      try clear hcz57_0 hcz57_1 hcz57_2 hcz57_3 hcz57_4 hcz57_5
      try clear hfz34_0 hfz34_1 hfz34_2 hfz34_3 hfz34_4 hfz34_5
      try clear hfz36_0 hfz36_1 hfz36_2 hfz36_3 hfz36_4 hfz36_5
      try clear hfz46_0 hfz46_1 hfz46_2 hfz46_3 hfz46_4 hfz46_5
      try clear hfz50_0 hfz50_1 hfz50_2 hfz50_3 hfz50_4 hfz50_5
      try clear hfz54_0 hfz54_1 hfz54_2 hfz54_3 hfz54_4 hfz54_5
      try clear hfz55_0 hfz55_1 hfz55_2 hfz55_3 hfz55_4 hfz55_5
      try clear hfz56_0 hfz56_1 hfz56_2 hfz56_3 hfz56_4 hfz56_5
      try clear hfz57_0 hfz57_1 hfz57_2 hfz57_3 hfz57_4 hfz57_5
      try clear hx200_0
      try clear hx200_1
      try clear hx200_2
      try clear hx202_0
      try clear hx202_1
      try clear hx202_2
      try clear hx203_0
      try clear hx203_1
      try clear hx203_2
      try clear p2
      try clear p20
      try clear p200
      try clear p202
      try clear p203
      try clear q2
      try clear q20
      try clear q200
      try clear q202
      try clear q203
      obtain ⟨kq, x114_47, rfl, HA, HJ47, BK196, HB⟩ := hcut
      cases kq with
      | zero => exact absurd HA.out (by simp [spec_InodeOk.j3])
      | succ kj47 =>
       have H := HA.out
       clear HA
       simp only [spec_InodeOk.j3] at H
       by_cases c58 : x114_47 = true
       ·subst c58
        have H1 : (some false) = some r := by rw [if_pos rfl] at H; exact H
        clear H
        have H := H1
        clear H1
        obtain rfl := Option.some.inj H
        go_wp2
        go_ret
        exact ⟨tq_2, tq_6⟩
       ·replace c58 := Bool.eq_false_iff.mpr c58
        subst c58
        have H1 : (spec_InodeOk.l2 kj47 0 a0_0 a0_1 a0_2 a0_3 l0_4 l0_5) = some r := by rw [if_neg (show ¬ (false = true) by decide)] at H; exact H
        clear H
        have H := H1
        clear H1
        have H' := Aside0.mk H
        clear H
        go_wp2
        go_loopg [5] kj47 (fun kq v5 w' => ∃ (x5_2 : Int), v5 = .int .i64 x5_2 ∧ Aside0 (spec_InodeOk.l2 kq x5_2 a0_0 a0_1 a0_2 a0_3 l0_4 l0_5 = some r) ∧ Aside0 (kq ≤ kj47) ∧ Aside0 (w'.heap[gb196]? = some (.cells #[.int .i64 a0_0, .int .i64 a0_1, .int .i64 a0_2, .string a0_3, (.slice A0_4 l0_4.length c0_4), (.slice A0_5 l0_5.length c0_5)] 49 (0, 0))) ∧ Aside0 (Below w.heap.size w w'))
        case atStart => exact ⟨(0), tq_8, H', ⟨Nat.le_refl _⟩, ⟨tq_22⟩, ⟨tq_6⟩⟩
        case round =>
         clear H'
         try clear c1
         try clear c2
         try clear p2
         try clear q2
         try clear hx2
         try clear c3
         try clear c4
         try clear c5
         try clear p6
         try clear c14
         try clear c15
         try clear c16
         try clear c16b0
         try clear c16b1
         try clear p20
         try clear q20
         try clear hx20
         try clear c21
         try clear c22
         try clear c22b0
         try clear c22b1
         try clear c24
         try clear c24b0
         try clear c24b1
         try clear c29
         try clear c30
         try clear c30b0
         try clear c31
         try clear c31b0
         try clear c33
         try clear c33b0
         try clear c33b1
         try clear c38
         try clear c38b0
         try clear c39
         try clear c39b0
         try clear c40
         try clear c40b0
         try clear c41
         try clear c41b0
         try clear c42
         try clear c42b0
         try clear c43
         try clear c43b0
         try clear c43b1
         try clear c47
         try clear c47b0
         try clear c47b1
         try clear c51
         try clear c51b0
         try clear c51b1
         try clear c52
         try clear c52b0
         try clear c52b1
         try clear c53
         try clear c53b0
         try clear c53b1
         try clear c58
         try clear hcz34_0 hcz34_1 hcz34_2 hcz34_3 hcz34_4 hcz34_5
         try clear hcz36_0 hcz36_1 hcz36_2 hcz36_3 hcz36_4 hcz36_5
         try clear hcz46_0 hcz46_1 hcz46_2 hcz46_3 hcz46_4 hcz46_5
         try clear hcz50_0 hcz50_1 hcz50_2 hcz50_3 hcz50_4 hcz50_5
         try clear hcz54_0 hcz54_1 hcz54_2 hcz54_3 hcz54_4 hcz54_5
         try clear hcz55_0 hcz55_1 hcz55_2 hcz55_3 hcz55_4 hcz55_5
         try clear hcz56_0 hcz56_1 hcz56_2 hcz56_3 hcz56_4 hcz56_5
         try clear hcz57_0 hcz57_1 hcz57_2 hcz57_3 hcz57_4 hcz57_5
         try clear hfz34_0 hfz34_1 hfz34_2 hfz34_3 hfz34_4 hfz34_5
         try clear hfz36_0 hfz36_1 hfz36_2 hfz36_3 hfz36_4 hfz36_5
         try clear hfz46_0 hfz46_1 hfz46_2 hfz46_3 hfz46_4 hfz46_5
         try clear hfz50_0 hfz50_1 hfz50_2 hfz50_3 hfz50_4 hfz50_5
         try clear hfz54_0 hfz54_1 hfz54_2 hfz54_3 hfz54_4 hfz54_5
         try clear hfz55_0 hfz55_1 hfz55_2 hfz55_3 hfz55_4 hfz55_5
         try clear hfz56_0 hfz56_1 hfz56_2 hfz56_3 hfz56_4 hfz56_5
         try clear hfz57_0 hfz57_1 hfz57_2 hfz57_3 hfz57_4 hfz57_5
         try clear hx200_0
         try clear hx200_1
         try clear hx200_2
         try clear hx202_0
         try clear hx202_1
         try clear hx202_2
         try clear hx203_0
         try clear hx203_1
         try clear hx203_2
         try clear p2
         try clear p20
         try clear p200
         try clear p202
         try clear p203
         try clear p6
         try clear q2
         try clear q20
         try clear q200
         try clear q202
         try clear q203
         obtain ⟨x5_2, rfl, HA, HK2, BK196, HB⟩ := hrel
         cases gk with
         | zero => exact absurd HA.out (by simp [spec_InodeOk.l2])
         | succ k2 =>
          have H := HA.out
          clear HA
          simp only [spec_InodeOk.l2] at H
          by_cases c59 : x5_2 < (l0_5.length : Int)
          ·rw [if_pos c59] at H
           have c59b0 : decide (x5_2 < (l0_5.length : Int)) = true := decide_eq_true c59
           clear c59
           by_cases c60 : 0 ≤ x5_2
           ·rw [if_pos c60] at H
            have c60b0 : decide (0 ≤ x5_2) = true := decide_eq_true c60
            clear c60
            replace H := Option.bind_eq_some_iff.mp H
            obtain ⟨t205, A610, H⟩ := H
            replace H : (if t205.toList = ([] : List UInt8) then (some false) else (if x5_2 > 0 then (if 0 ≤ (wrap64 (x5_2 - 1)) then (if (wrap64 (x5_2 - 1)) < (l0_5.length : Int) then (if ((Op.bytesLess (((rd_T59 l0_5 (wrap64 (x5_2 - 1))).f1).toList) (((rd_T59 l0_5 x5_2).f1).toList)) = true) then (spec_InodeOk.l2 k2 (wrap64 (x5_2 + 1)) a0_0 a0_1 a0_2 a0_3 l0_4 l0_5) else (some false)) else (none)) else (none)) else (spec_InodeOk.l2 k2 (wrap64 (x5_2 + 1)) a0_0 a0_1 a0_2 a0_3 l0_4 l0_5))) = some r := H
            have A61 := Aside0.mk A610
            clear A610
            by_cases c62 : t205.toList = ([] : List UInt8)
            ·rw [if_pos c62] at H
             have c62b0 : (t205.toList == ([] : List UInt8)) = true := beq_iff_eq.mpr c62
             have c62b1 : (t205.toList != ([] : List UInt8)) = false := bne_eq_false_iff_eq.mpr c62
             clear c62
             obtain rfl := Option.some.inj H
             have hcz63_0 := bc_ BK196.out 0
             have hcz63_1 := bc_ BK196.out 1
             have hcz63_2 := bc_ BK196.out 2
             have hcz63_3 := bc_ BK196.out 3
             have hcz63_4 := bc_ BK196.out 4
             have hcz63_5 := bc_ BK196.out 5
             have hfz63_0 := blk_frozen BK196.out 0
             have hfz63_1 := blk_frozen BK196.out 1
             have hfz63_2 := blk_frozen BK196.out 2
             have hfz63_3 := blk_frozen BK196.out 3
             have hfz63_4 := blk_frozen BK196.out 4
             have hfz63_5 := blk_frozen BK196.out 5
             try go_wp2
             have z_ := p_ (blk_drew BK196.out) <| a_ (below_drew1 HB.out)
             clear BK196 HB
             obtain ⟨BK196, HB⟩ := z_
             have p204 : 0 ≤ (x5_2 : Int) := of_decide_eq_true tq_3
             have q204 : x5_2 < (l0_5.length : Int) := of_decide_eq_true tq_3
             obtain ⟨ad204, e204, hx204_0, hx204_1⟩ := at_T59 HR0_5.out x5_2 p204 q204
             have hw204_1 := hx204_1
             have hw204_0 := hx204_0
             cases e204
             replace hx204_0 := hx_ HB.out hx204_0
             replace hx204_1 := hx_ HB.out hx204_1
             replace p204 := eq_true p204
             replace q204 := eq_true q204
             refine start_ (n := 27) (S := fun w' => w'.cell? ⟨gb196, 0, none⟩ = some (.int .i64 a0_0) ∧ w'.cell? ⟨gb196, 1, none⟩ = some (.int .i64 a0_1) ∧ w'.cell? ⟨gb196, 2, none⟩ = some (.int .i64 a0_2) ∧ w'.cell? ⟨gb196, 3, none⟩ = some (.string a0_3) ∧ w'.cell? ⟨gb196, 4, none⟩ = some (.slice A0_4 l0_4.length c0_4) ∧ w'.cell? ⟨gb196, 5, none⟩ = some (.slice (some ad204) l0_5.length c0_5) ∧ w'.cell? (ad204.add ((x5_2).toNat * 2)) = some (.int .i64 ((rd_T59 l0_5 x5_2).f0)) ∧ w'.cell? ⟨(ad204.add ((x5_2).toNat * 2)).block, (ad204.add ((x5_2).toNat * 2)).off + 1, none⟩ = some (.string ((rd_T59 l0_5 x5_2).f1))) (ds := []) bq_35 (by kernel_rfl) rfl rfl (bc6_ BK196.out ⟨((HB.out.cell (World.block_lt_of_cell? w _ hw204_0)).trans hw204_0), ((HB.out.cell (World.block_lt_of_cell? w _ hw204_1)).trans hw204_1)⟩) (fun hHeld => ?_); refine with_tabW spec_InodeOk.tab26 spec_InodeOk.bits26 (fun HT_ HW_ => ?_)
             generalize wr.drew = w64 at BK196 HB hx204_0 hx204_1 hHeld ⊢
             refine yq_ (i := 0) (N := some 122) bq_36 (any_of HT_.out (by kernel_rfl)) ?_
             refine yq_ (i := 2) (N := some 124) bq_37 (any_of HT_.out (by kernel_rfl)) ?_
             refine tk_ (i := 1) (N := some 123) bq_38 (take_ofW HT_.out HW_.out (by kernel_rfl)) hHeld ?_
             refine yq_ (i := 3) (N := some 125) bq_39 (any_of HT_.out (by kernel_rfl)) ?_
             refine tk_ (i := 4) (N := some 126) bq_40 (take_ofW HT_.out HW_.out (by kernel_rfl)) hHeld ?_
             refine one_ (i := 5) (N := some 127) bq_41 rfl rfl (one_of HT_.out (by kernel_rfl)) (by decide) (fun K hK => ?_)
             refine goes_ Try.func151 (by kernel_rfl) rfl #[.agg #[.int .i64 ((rd_T59 l0_5 x5_2).f0), .string ((rd_T59 l0_5 x5_2).f1)]] (by rfl) rfl rfl tq_1 ?_
             with_reducible refine (spec_EntryWord.calls k2 ((rd_T59 l0_5 x5_2).f0) ((rd_T59 l0_5 x5_2).f1) t205 _ A61.out).mono ?_
             rintro e w65 ⟨rfl, hb⟩
             refine ⟨_, rfl, ?_⟩
             have z_ := p_ (blk_below tq_22 hb) <| a_ (below_step tq_6 hb)
             clear BK196 HB
             obtain ⟨BK196, HB⟩ := z_
             (try clear hb)
             (try clear hb2)
             (try clear hk)
             (try clear hi)
             refine hK.out _ _ (bc6_ BK196.out ⟨((HB.out.cell (World.block_lt_of_cell? w _ hw204_0)).trans hw204_0), ((HB.out.cell (World.block_lt_of_cell? w _ hw204_1)).trans hw204_1)⟩) (fun hHeld => ?_)
             clear hK K
             refine nm_ (some 127) ?_
             refine yq_ (i := 6) (N := some 128) bq_42 (any_of HT_.out (by kernel_rfl)) ?_
             refine yq_ (i := 7) (N := some 129) bq_43 (any_of HT_.out (by kernel_rfl)) ?_
             refine uq_ (i := 8) (N := some 130) bq_44 (any_of HT_.out (by kernel_rfl)) ?_
             refine uq_ (i := 9) (N := some 131) bq_45 (any_of HT_.out (by kernel_rfl)) ?_
             refine uq_ (i := 10) (N := some 132) bq_46 (any_of HT_.out (by kernel_rfl)) ?_
             refine uq_ (i := 11) (N := some 133) bq_47 (any_of HT_.out (by kernel_rfl)) ?_
             refine uq_ (i := 12) (N := some 134) bq_106 (any_of HT_.out (by kernel_rfl)) ?_
             refine uq_ (i := 13) (N := some 135) bq_107 (any_of HT_.out (by kernel_rfl)) ?_
             refine uq_ (i := 14) (N := some 136) bq_108 (any_of HT_.out (by kernel_rfl)) ?_
             refine uq_ (i := 15) (N := some 137) bq_109 (any_of HT_.out (by kernel_rfl)) ?_
             refine uq_ (i := 16) (N := some 138) bq_110 (any_of HT_.out (by kernel_rfl)) ?_
             refine uq_ (i := 17) (N := some 139) bq_111 (any_of HT_.out (by kernel_rfl)) ?_
             refine uq_ (i := 18) (N := some 140) bq_112 (any_of HT_.out (by kernel_rfl)) ?_
             refine uq_ (i := 19) (N := some 141) bq_113 (any_of HT_.out (by kernel_rfl)) ?_
             refine uq_ (i := 20) (N := some 142) bq_48 (any_of HT_.out (by kernel_rfl)) ?_
             refine uq_ (i := 21) (N := some 143) bq_49 (any_of HT_.out (by kernel_rfl)) ?_
             refine uq_ (i := 22) (N := some 144) bq_50 (any_of HT_.out (by kernel_rfl)) ?_
             refine uq_ (i := 23) (N := some 145) bq_51 (any_of HT_.out (by kernel_rfl)) ?_
             refine uq_ (i := 24) (N := some 146) bq_52 (any_of HT_.out (by kernel_rfl)) ?_
             refine uq_ (i := 25) (N := some 147) bq_53 (any_of HT_.out (by kernel_rfl)) ?_
             refine yq_ (i := 26) (N := some 148) bq_54 (any_of HT_.out (by kernel_rfl)) ?_
             refine done_ (done_of HT_.out (by kernel_rfl)) ?_
             try go_wp2
             go_ret
             exact ⟨tq_2, tq_6⟩
            ·rw [if_neg c62] at H
             have c62b0 : (t205.toList == ([] : List UInt8)) = false := beq_eq_false_iff_ne.mpr c62
             have c62b1 : (t205.toList != ([] : List UInt8)) = true := bne_iff_ne.mpr c62
             by_cases c66 : x5_2 > 0
             ·rw [if_pos c66] at H
              have c66b0 : decide (0 < x5_2) = true := decide_eq_true c66
              clear c66
              obtain ⟨ji67, hji67⟩ : ∃ j_ : Int, (wrap64 (x5_2 - 1)) = j_ := ⟨_, rfl⟩
              replace H : (if 0 ≤ (ji67) then (if (ji67) < (l0_5.length : Int) then (if ((Op.bytesLess (((rd_T59 l0_5 (ji67)).f1).toList) (((rd_T59 l0_5 x5_2).f1).toList)) = true) then (spec_InodeOk.l2 k2 (wrap64 (x5_2 + 1)) a0_0 a0_1 a0_2 a0_3 l0_4 l0_5) else (some false)) else (none)) else (none)) = some r := by first | (rw [hji67] at H; exact H) | (simp only [hji67] at H ⊢; exact H)
              (try rw [hji67] at A61)
              have hji67w : (IntKind.i64.wrap (x5_2 - 1)) = ji67 := (i64_w _).trans hji67
              by_cases c68 : 0 ≤ (ji67)
              ·rw [if_pos c68] at H
               have c68b0 : decide (0 ≤ (ji67)) = true := decide_eq_true c68
               clear c68
               by_cases c69 : (ji67) < (l0_5.length : Int)
               ·rw [if_pos c69] at H
                have c69b0 : decide ((ji67) < (l0_5.length : Int)) = true := decide_eq_true c69
                clear c69
                by_cases c70 : ((Op.bytesLess (((rd_T59 l0_5 (ji67)).f1).toList) (((rd_T59 l0_5 x5_2).f1).toList)) = true)
                ·rw [if_pos c70] at H
                 have c70b0 : (Op.bytesLess (((rd_T59 l0_5 (ji67)).f1).toList) (((rd_T59 l0_5 x5_2).f1).toList)) = true := c70
                 have c70b0q : (Op.bytesLess (((rd_T59 l0_5 x5_2).f1).toList) (((rd_T59 l0_5 (ji67)).f1).toList) || ((((rd_T59 l0_5 x5_2).f1).toList) == (((rd_T59 l0_5 (ji67)).f1).toList))) = false := by rw [bl_leq, c70b0]; rfl
                 clear c70
                 have H' := Aside0.mk H
                 clear H
                 have hcz71_0 := bc_ BK196.out 0
                 have hcz71_1 := bc_ BK196.out 1
                 have hcz71_2 := bc_ BK196.out 2
                 have hcz71_3 := bc_ BK196.out 3
                 have hcz71_4 := bc_ BK196.out 4
                 have hcz71_5 := bc_ BK196.out 5
                 have hfz71_0 := blk_frozen BK196.out 0
                 have hfz71_1 := blk_frozen BK196.out 1
                 have hfz71_2 := blk_frozen BK196.out 2
                 have hfz71_3 := blk_frozen BK196.out 3
                 have hfz71_4 := blk_frozen BK196.out 4
                 have hfz71_5 := blk_frozen BK196.out 5
                 try go_wp2
                 have z_ := p_ (blk_drew BK196.out) <| a_ (below_drew1 HB.out)
                 clear BK196 HB
                 obtain ⟨BK196, HB⟩ := z_
                 have p204 : 0 ≤ (x5_2 : Int) := of_decide_eq_true tq_3
                 have q204 : x5_2 < (l0_5.length : Int) := of_decide_eq_true tq_3
                 obtain ⟨ad204, e204, hx204_0, hx204_1⟩ := at_T59 HR0_5.out x5_2 p204 q204
                 have hw204_1 := hx204_1
                 have hw204_0 := hx204_0
                 cases e204
                 replace hx204_0 := hx_ HB.out hx204_0
                 replace hx204_1 := hx_ HB.out hx204_1
                 replace p204 := eq_true p204
                 replace q204 := eq_true q204
                 have p206 : 0 ≤ ((ji67) : Int) := of_decide_eq_true tq_3
                 have q206 : (ji67) < (l0_5.length : Int) := of_decide_eq_true tq_3
                 obtain ⟨ad206, e206, hx206_0, hx206_1⟩ := at_T59 HR0_5.out (ji67) p206 q206
                 have hw206_1 := hx206_1
                 have hw206_0 := hx206_0
                 obtain rfl : ad204 = ad206 := (by injection e206)
                 replace hx206_0 := hx_ HB.out hx206_0
                 replace hx206_1 := hx_ HB.out hx206_1
                 replace p206 := eq_true p206
                 replace q206 := eq_true q206
                 have p207 : 0 ≤ (x5_2 : Int) := of_decide_eq_true tq_3
                 have q207 : x5_2 < (l0_5.length : Int) := of_decide_eq_true tq_3
                 obtain ⟨ad207, e207, hx207_0, hx207_1⟩ := at_T59 HR0_5.out x5_2 p207 q207
                 have hw207_1 := hx207_1
                 have hw207_0 := hx207_0
                 obtain rfl : ad204 = ad207 := (by injection e207)
                 replace hx207_0 := hx_ HB.out hx207_0
                 replace hx207_1 := hx_ HB.out hx207_1
                 replace p207 := eq_true p207
                 replace q207 := eq_true q207
                 refine start_ (n := 27) (S := fun w' => w'.cell? ⟨gb196, 0, none⟩ = some (.int .i64 a0_0) ∧ w'.cell? ⟨gb196, 1, none⟩ = some (.int .i64 a0_1) ∧ w'.cell? ⟨gb196, 2, none⟩ = some (.int .i64 a0_2) ∧ w'.cell? ⟨gb196, 3, none⟩ = some (.string a0_3) ∧ w'.cell? ⟨gb196, 4, none⟩ = some (.slice A0_4 l0_4.length c0_4) ∧ w'.cell? ⟨gb196, 5, none⟩ = some (.slice (some ad204) l0_5.length c0_5) ∧ w'.cell? (ad204.add ((x5_2).toNat * 2)) = some (.int .i64 ((rd_T59 l0_5 x5_2).f0)) ∧ w'.cell? ⟨(ad204.add ((x5_2).toNat * 2)).block, (ad204.add ((x5_2).toNat * 2)).off + 1, none⟩ = some (.string ((rd_T59 l0_5 x5_2).f1)) ∧ w'.cell? (ad204.add (((ji67)).toNat * 2)) = some (.int .i64 ((rd_T59 l0_5 (ji67)).f0)) ∧ w'.cell? ⟨(ad204.add (((ji67)).toNat * 2)).block, (ad204.add (((ji67)).toNat * 2)).off + 1, none⟩ = some (.string ((rd_T59 l0_5 (ji67)).f1)) ∧ w'.cell? (ad204.add ((x5_2).toNat * 2)) = some (.int .i64 ((rd_T59 l0_5 x5_2).f0)) ∧ w'.cell? ⟨(ad204.add ((x5_2).toNat * 2)).block, (ad204.add ((x5_2).toNat * 2)).off + 1, none⟩ = some (.string ((rd_T59 l0_5 x5_2).f1))) (ds := []) bq_35 (by kernel_rfl) rfl rfl (bc6_ BK196.out ⟨((HB.out.cell (World.block_lt_of_cell? w _ hw204_0)).trans hw204_0), ((HB.out.cell (World.block_lt_of_cell? w _ hw204_1)).trans hw204_1), ((HB.out.cell (World.block_lt_of_cell? w _ hw206_0)).trans hw206_0), ((HB.out.cell (World.block_lt_of_cell? w _ hw206_1)).trans hw206_1), ((HB.out.cell (World.block_lt_of_cell? w _ hw207_0)).trans hw207_0), ((HB.out.cell (World.block_lt_of_cell? w _ hw207_1)).trans hw207_1)⟩) (fun hHeld => ?_); refine with_tabW spec_InodeOk.tab26 spec_InodeOk.bits26 (fun HT_ HW_ => ?_)
                 generalize wr.drew = w72 at BK196 HB hx204_0 hx204_1 hx206_0 hx206_1 hx207_0 hx207_1 hHeld ⊢
                 refine yq_ (i := 0) (N := some 122) bq_36 (any_of HT_.out (by kernel_rfl)) ?_
                 refine yq_ (i := 2) (N := some 124) bq_37 (any_of HT_.out (by kernel_rfl)) ?_
                 refine tk_ (i := 1) (N := some 123) bq_38 (take_ofW HT_.out HW_.out (by kernel_rfl)) hHeld ?_
                 refine yq_ (i := 3) (N := some 125) bq_39 (any_of HT_.out (by kernel_rfl)) ?_
                 refine tk_ (i := 4) (N := some 126) bq_40 (take_ofW HT_.out HW_.out (by kernel_rfl)) hHeld ?_
                 refine one_ (i := 5) (N := some 127) bq_41 rfl rfl (one_of HT_.out (by kernel_rfl)) (by decide) (fun K hK => ?_)
                 refine goes_ Try.func151 (by kernel_rfl) rfl #[.agg #[.int .i64 ((rd_T59 l0_5 x5_2).f0), .string ((rd_T59 l0_5 x5_2).f1)]] (by rfl) rfl rfl tq_1 ?_
                 with_reducible refine (spec_EntryWord.calls k2 ((rd_T59 l0_5 x5_2).f0) ((rd_T59 l0_5 x5_2).f1) t205 _ A61.out).mono ?_
                 rintro e w73 ⟨rfl, hb⟩
                 refine ⟨_, rfl, ?_⟩
                 have z_ := p_ (blk_below tq_22 hb) <| a_ (below_step tq_6 hb)
                 clear BK196 HB
                 obtain ⟨BK196, HB⟩ := z_
                 (try clear hb)
                 (try clear hb2)
                 (try clear hk)
                 (try clear hi)
                 refine hK.out _ _ (bc6_ BK196.out ⟨((HB.out.cell (World.block_lt_of_cell? w _ hw204_0)).trans hw204_0), ((HB.out.cell (World.block_lt_of_cell? w _ hw204_1)).trans hw204_1), ((HB.out.cell (World.block_lt_of_cell? w _ hw206_0)).trans hw206_0), ((HB.out.cell (World.block_lt_of_cell? w _ hw206_1)).trans hw206_1), ((HB.out.cell (World.block_lt_of_cell? w _ hw207_0)).trans hw207_0), ((HB.out.cell (World.block_lt_of_cell? w _ hw207_1)).trans hw207_1)⟩) (fun hHeld => ?_)
                 clear hK K
                 refine nm_ (some 127) ?_
                 refine yq_ (i := 6) (N := some 128) bq_42 (any_of HT_.out (by kernel_rfl)) ?_
                 refine yq_ (i := 7) (N := some 129) bq_43 (any_of HT_.out (by kernel_rfl)) ?_
                 refine yq_ (i := 8) (N := some 130) bq_44 (any_of HT_.out (by kernel_rfl)) ?_
                 refine yq_ (i := 9) (N := some 131) bq_45 (any_of HT_.out (by kernel_rfl)) ?_
                 refine yq_ (i := 10) (N := some 132) bq_46 (any_of HT_.out (by kernel_rfl)) ?_
                 refine yq_ (i := 11) (N := some 133) bq_47 (any_of HT_.out (by kernel_rfl)) ?_
                 refine yq_ (i := 13) (N := some 135) bq_114 (any_of HT_.out (by kernel_rfl)) ?_
                 refine yq_ (i := 14) (N := some 136) bq_115 (any_of HT_.out (by kernel_rfl)) ?_
                 refine yq_ (i := 18) (N := some 140) bq_116 (any_of HT_.out (by kernel_rfl)) ?_
                 refine yq_ (i := 20) (N := some 142) bq_117 (any_of HT_.out (by kernel_rfl)) ?_
                 refine tk_ (i := 12) (N := some 134) bq_118 (take_ofW HT_.out HW_.out (by kernel_rfl)) hHeld ?_
                 refine yq_ (i := 15) (N := some 137) bq_119 (any_of HT_.out (by kernel_rfl)) ?_
                 refine yq_ (i := 16) (N := some 138) bq_120 (any_of HT_.out (by kernel_rfl)) ?_
                 refine tk_ (i := 17) (N := some 139) bq_121 (take_ofW HT_.out HW_.out (by kernel_rfl)) hHeld ?_
                 refine tk_ (i := 19) (N := some 141) bq_48 (take_ofW HT_.out HW_.out (by kernel_rfl)) hHeld ?_
                 refine yq_ (i := 21) (N := some 143) bq_49 (any_of HT_.out (by kernel_rfl)) ?_
                 refine yq_ (i := 22) (N := some 144) bq_50 (any_of HT_.out (by kernel_rfl)) ?_
                 refine tk_ (i := 23) (N := some 145) bq_51 (take_ofW HT_.out HW_.out (by kernel_rfl)) hHeld ?_
                 refine yq_ (i := 24) (N := some 146) bq_52 (any_of HT_.out (by kernel_rfl)) ?_
                 refine yq_ (i := 25) (N := some 147) bq_53 (any_of HT_.out (by kernel_rfl)) ?_
                 refine yq_ (i := 26) (N := some 148) bq_54 (any_of HT_.out (by kernel_rfl)) ?_
                 refine done_ (done_of HT_.out (by kernel_rfl)) ?_
                 try go_wp2
                 go_roundg k2
                 case measure => have := HJ47.out; have := HK2.out; omega
                 case rel => exact ⟨(wrap64 (x5_2 + 1)), tq_8, H', ⟨(by have := HJ47.out; have := HK2.out; omega)⟩, ⟨tq_22⟩, ⟨tq_6⟩⟩
                ·rw [if_neg c70] at H
                 have c70b0 : (Op.bytesLess (((rd_T59 l0_5 (ji67)).f1).toList) (((rd_T59 l0_5 x5_2).f1).toList)) = false := by simpa using c70
                 have c70b0q : (Op.bytesLess (((rd_T59 l0_5 x5_2).f1).toList) (((rd_T59 l0_5 (ji67)).f1).toList) || ((((rd_T59 l0_5 x5_2).f1).toList) == (((rd_T59 l0_5 (ji67)).f1).toList))) = true := by rw [bl_leq, c70b0]; rfl
                 clear c70
                 obtain rfl := Option.some.inj H
                 have hcz74_0 := bc_ BK196.out 0
                 have hcz74_1 := bc_ BK196.out 1
                 have hcz74_2 := bc_ BK196.out 2
                 have hcz74_3 := bc_ BK196.out 3
                 have hcz74_4 := bc_ BK196.out 4
                 have hcz74_5 := bc_ BK196.out 5
                 have hfz74_0 := blk_frozen BK196.out 0
                 have hfz74_1 := blk_frozen BK196.out 1
                 have hfz74_2 := blk_frozen BK196.out 2
                 have hfz74_3 := blk_frozen BK196.out 3
                 have hfz74_4 := blk_frozen BK196.out 4
                 have hfz74_5 := blk_frozen BK196.out 5
                 try go_wp2
                 have z_ := p_ (blk_drew BK196.out) <| a_ (below_drew1 HB.out)
                 clear BK196 HB
                 obtain ⟨BK196, HB⟩ := z_
                 have p204 : 0 ≤ (x5_2 : Int) := of_decide_eq_true tq_3
                 have q204 : x5_2 < (l0_5.length : Int) := of_decide_eq_true tq_3
                 obtain ⟨ad204, e204, hx204_0, hx204_1⟩ := at_T59 HR0_5.out x5_2 p204 q204
                 have hw204_1 := hx204_1
                 have hw204_0 := hx204_0
                 cases e204
                 replace hx204_0 := hx_ HB.out hx204_0
                 replace hx204_1 := hx_ HB.out hx204_1
                 replace p204 := eq_true p204
                 replace q204 := eq_true q204
                 have p206 : 0 ≤ ((ji67) : Int) := of_decide_eq_true tq_3
                 have q206 : (ji67) < (l0_5.length : Int) := of_decide_eq_true tq_3
                 obtain ⟨ad206, e206, hx206_0, hx206_1⟩ := at_T59 HR0_5.out (ji67) p206 q206
                 have hw206_1 := hx206_1
                 have hw206_0 := hx206_0
                 obtain rfl : ad204 = ad206 := (by injection e206)
                 replace hx206_0 := hx_ HB.out hx206_0
                 replace hx206_1 := hx_ HB.out hx206_1
                 replace p206 := eq_true p206
                 replace q206 := eq_true q206
                 have p207 : 0 ≤ (x5_2 : Int) := of_decide_eq_true tq_3
                 have q207 : x5_2 < (l0_5.length : Int) := of_decide_eq_true tq_3
                 obtain ⟨ad207, e207, hx207_0, hx207_1⟩ := at_T59 HR0_5.out x5_2 p207 q207
                 have hw207_1 := hx207_1
                 have hw207_0 := hx207_0
                 obtain rfl : ad204 = ad207 := (by injection e207)
                 replace hx207_0 := hx_ HB.out hx207_0
                 replace hx207_1 := hx_ HB.out hx207_1
                 replace p207 := eq_true p207
                 replace q207 := eq_true q207
                 refine start_ (n := 27) (S := fun w' => w'.cell? ⟨gb196, 0, none⟩ = some (.int .i64 a0_0) ∧ w'.cell? ⟨gb196, 1, none⟩ = some (.int .i64 a0_1) ∧ w'.cell? ⟨gb196, 2, none⟩ = some (.int .i64 a0_2) ∧ w'.cell? ⟨gb196, 3, none⟩ = some (.string a0_3) ∧ w'.cell? ⟨gb196, 4, none⟩ = some (.slice A0_4 l0_4.length c0_4) ∧ w'.cell? ⟨gb196, 5, none⟩ = some (.slice (some ad204) l0_5.length c0_5) ∧ w'.cell? (ad204.add ((x5_2).toNat * 2)) = some (.int .i64 ((rd_T59 l0_5 x5_2).f0)) ∧ w'.cell? ⟨(ad204.add ((x5_2).toNat * 2)).block, (ad204.add ((x5_2).toNat * 2)).off + 1, none⟩ = some (.string ((rd_T59 l0_5 x5_2).f1)) ∧ w'.cell? (ad204.add (((ji67)).toNat * 2)) = some (.int .i64 ((rd_T59 l0_5 (ji67)).f0)) ∧ w'.cell? ⟨(ad204.add (((ji67)).toNat * 2)).block, (ad204.add (((ji67)).toNat * 2)).off + 1, none⟩ = some (.string ((rd_T59 l0_5 (ji67)).f1)) ∧ w'.cell? (ad204.add ((x5_2).toNat * 2)) = some (.int .i64 ((rd_T59 l0_5 x5_2).f0)) ∧ w'.cell? ⟨(ad204.add ((x5_2).toNat * 2)).block, (ad204.add ((x5_2).toNat * 2)).off + 1, none⟩ = some (.string ((rd_T59 l0_5 x5_2).f1))) (ds := []) bq_35 (by kernel_rfl) rfl rfl (bc6_ BK196.out ⟨((HB.out.cell (World.block_lt_of_cell? w _ hw204_0)).trans hw204_0), ((HB.out.cell (World.block_lt_of_cell? w _ hw204_1)).trans hw204_1), ((HB.out.cell (World.block_lt_of_cell? w _ hw206_0)).trans hw206_0), ((HB.out.cell (World.block_lt_of_cell? w _ hw206_1)).trans hw206_1), ((HB.out.cell (World.block_lt_of_cell? w _ hw207_0)).trans hw207_0), ((HB.out.cell (World.block_lt_of_cell? w _ hw207_1)).trans hw207_1)⟩) (fun hHeld => ?_); refine with_tabW spec_InodeOk.tab26 spec_InodeOk.bits26 (fun HT_ HW_ => ?_)
                 generalize wr.drew = w75 at BK196 HB hx204_0 hx204_1 hx206_0 hx206_1 hx207_0 hx207_1 hHeld ⊢
                 refine yq_ (i := 0) (N := some 122) bq_36 (any_of HT_.out (by kernel_rfl)) ?_
                 refine yq_ (i := 2) (N := some 124) bq_37 (any_of HT_.out (by kernel_rfl)) ?_
                 refine tk_ (i := 1) (N := some 123) bq_38 (take_ofW HT_.out HW_.out (by kernel_rfl)) hHeld ?_
                 refine yq_ (i := 3) (N := some 125) bq_39 (any_of HT_.out (by kernel_rfl)) ?_
                 refine tk_ (i := 4) (N := some 126) bq_40 (take_ofW HT_.out HW_.out (by kernel_rfl)) hHeld ?_
                 refine one_ (i := 5) (N := some 127) bq_41 rfl rfl (one_of HT_.out (by kernel_rfl)) (by decide) (fun K hK => ?_)
                 refine goes_ Try.func151 (by kernel_rfl) rfl #[.agg #[.int .i64 ((rd_T59 l0_5 x5_2).f0), .string ((rd_T59 l0_5 x5_2).f1)]] (by rfl) rfl rfl tq_1 ?_
                 with_reducible refine (spec_EntryWord.calls k2 ((rd_T59 l0_5 x5_2).f0) ((rd_T59 l0_5 x5_2).f1) t205 _ A61.out).mono ?_
                 rintro e w76 ⟨rfl, hb⟩
                 refine ⟨_, rfl, ?_⟩
                 have z_ := p_ (blk_below tq_22 hb) <| a_ (below_step tq_6 hb)
                 clear BK196 HB
                 obtain ⟨BK196, HB⟩ := z_
                 (try clear hb)
                 (try clear hb2)
                 (try clear hk)
                 (try clear hi)
                 refine hK.out _ _ (bc6_ BK196.out ⟨((HB.out.cell (World.block_lt_of_cell? w _ hw204_0)).trans hw204_0), ((HB.out.cell (World.block_lt_of_cell? w _ hw204_1)).trans hw204_1), ((HB.out.cell (World.block_lt_of_cell? w _ hw206_0)).trans hw206_0), ((HB.out.cell (World.block_lt_of_cell? w _ hw206_1)).trans hw206_1), ((HB.out.cell (World.block_lt_of_cell? w _ hw207_0)).trans hw207_0), ((HB.out.cell (World.block_lt_of_cell? w _ hw207_1)).trans hw207_1)⟩) (fun hHeld => ?_)
                 clear hK K
                 refine nm_ (some 127) ?_
                 refine yq_ (i := 6) (N := some 128) bq_42 (any_of HT_.out (by kernel_rfl)) ?_
                 refine yq_ (i := 7) (N := some 129) bq_43 (any_of HT_.out (by kernel_rfl)) ?_
                 refine yq_ (i := 8) (N := some 130) bq_44 (any_of HT_.out (by kernel_rfl)) ?_
                 refine yq_ (i := 9) (N := some 131) bq_45 (any_of HT_.out (by kernel_rfl)) ?_
                 refine yq_ (i := 10) (N := some 132) bq_46 (any_of HT_.out (by kernel_rfl)) ?_
                 refine yq_ (i := 11) (N := some 133) bq_47 (any_of HT_.out (by kernel_rfl)) ?_
                 refine yq_ (i := 13) (N := some 135) bq_114 (any_of HT_.out (by kernel_rfl)) ?_
                 refine yq_ (i := 14) (N := some 136) bq_115 (any_of HT_.out (by kernel_rfl)) ?_
                 refine yq_ (i := 18) (N := some 140) bq_116 (any_of HT_.out (by kernel_rfl)) ?_
                 refine yq_ (i := 20) (N := some 142) bq_117 (any_of HT_.out (by kernel_rfl)) ?_
                 refine tk_ (i := 12) (N := some 134) bq_118 (take_ofW HT_.out HW_.out (by kernel_rfl)) hHeld ?_
                 refine yq_ (i := 15) (N := some 137) bq_119 (any_of HT_.out (by kernel_rfl)) ?_
                 refine yq_ (i := 16) (N := some 138) bq_120 (any_of HT_.out (by kernel_rfl)) ?_
                 refine tk_ (i := 17) (N := some 139) bq_121 (take_ofW HT_.out HW_.out (by kernel_rfl)) hHeld ?_
                 refine tk_ (i := 19) (N := some 141) bq_48 (take_ofW HT_.out HW_.out (by kernel_rfl)) hHeld ?_
                 refine yq_ (i := 21) (N := some 143) bq_49 (any_of HT_.out (by kernel_rfl)) ?_
                 refine yq_ (i := 22) (N := some 144) bq_50 (any_of HT_.out (by kernel_rfl)) ?_
                 refine tk_ (i := 23) (N := some 145) bq_51 (take_ofW HT_.out HW_.out (by kernel_rfl)) hHeld ?_
                 refine yq_ (i := 24) (N := some 146) bq_52 (any_of HT_.out (by kernel_rfl)) ?_
                 refine yq_ (i := 25) (N := some 147) bq_53 (any_of HT_.out (by kernel_rfl)) ?_
                 refine yq_ (i := 26) (N := some 148) bq_54 (any_of HT_.out (by kernel_rfl)) ?_
                 refine done_ (done_of HT_.out (by kernel_rfl)) ?_
                 try go_wp2
                 go_ret
                 exact ⟨(by first | rfl | (simp [errW_none, errW_some] <;> rfl) | (simp only [← hji67]; first | rfl | (simp [errW_none, errW_some] <;> rfl)) | (simp [*, errW_none, errW_some] <;> rfl)), tq_6⟩
               ·rw [if_neg c69] at H
                exact absurd H (by simp)
              ·rw [if_neg c68] at H
               exact absurd H (by simp)
             ·rw [if_neg c66] at H
              have c66b0 : decide (0 < x5_2) = false := decide_eq_false c66
              clear c66
              have H' := Aside0.mk H
              clear H
              have hcz77_0 := bc_ BK196.out 0
              have hcz77_1 := bc_ BK196.out 1
              have hcz77_2 := bc_ BK196.out 2
              have hcz77_3 := bc_ BK196.out 3
              have hcz77_4 := bc_ BK196.out 4
              have hcz77_5 := bc_ BK196.out 5
              have hfz77_0 := blk_frozen BK196.out 0
              have hfz77_1 := blk_frozen BK196.out 1
              have hfz77_2 := blk_frozen BK196.out 2
              have hfz77_3 := blk_frozen BK196.out 3
              have hfz77_4 := blk_frozen BK196.out 4
              have hfz77_5 := blk_frozen BK196.out 5
              try go_wp2
              have z_ := p_ (blk_drew BK196.out) <| a_ (below_drew1 HB.out)
              clear BK196 HB
              obtain ⟨BK196, HB⟩ := z_
              have p204 : 0 ≤ (x5_2 : Int) := of_decide_eq_true tq_3
              have q204 : x5_2 < (l0_5.length : Int) := of_decide_eq_true tq_3
              obtain ⟨ad204, e204, hx204_0, hx204_1⟩ := at_T59 HR0_5.out x5_2 p204 q204
              have hw204_1 := hx204_1
              have hw204_0 := hx204_0
              cases e204
              replace hx204_0 := hx_ HB.out hx204_0
              replace hx204_1 := hx_ HB.out hx204_1
              replace p204 := eq_true p204
              replace q204 := eq_true q204
              refine start_ (n := 27) (S := fun w' => w'.cell? ⟨gb196, 0, none⟩ = some (.int .i64 a0_0) ∧ w'.cell? ⟨gb196, 1, none⟩ = some (.int .i64 a0_1) ∧ w'.cell? ⟨gb196, 2, none⟩ = some (.int .i64 a0_2) ∧ w'.cell? ⟨gb196, 3, none⟩ = some (.string a0_3) ∧ w'.cell? ⟨gb196, 4, none⟩ = some (.slice A0_4 l0_4.length c0_4) ∧ w'.cell? ⟨gb196, 5, none⟩ = some (.slice (some ad204) l0_5.length c0_5) ∧ w'.cell? (ad204.add ((x5_2).toNat * 2)) = some (.int .i64 ((rd_T59 l0_5 x5_2).f0)) ∧ w'.cell? ⟨(ad204.add ((x5_2).toNat * 2)).block, (ad204.add ((x5_2).toNat * 2)).off + 1, none⟩ = some (.string ((rd_T59 l0_5 x5_2).f1))) (ds := []) bq_35 (by kernel_rfl) rfl rfl (bc6_ BK196.out ⟨((HB.out.cell (World.block_lt_of_cell? w _ hw204_0)).trans hw204_0), ((HB.out.cell (World.block_lt_of_cell? w _ hw204_1)).trans hw204_1)⟩) (fun hHeld => ?_); refine with_tabW spec_InodeOk.tab26 spec_InodeOk.bits26 (fun HT_ HW_ => ?_)
              generalize wr.drew = w78 at BK196 HB hx204_0 hx204_1 hHeld ⊢
              refine yq_ (i := 0) (N := some 122) bq_36 (any_of HT_.out (by kernel_rfl)) ?_
              refine yq_ (i := 2) (N := some 124) bq_37 (any_of HT_.out (by kernel_rfl)) ?_
              refine tk_ (i := 1) (N := some 123) bq_38 (take_ofW HT_.out HW_.out (by kernel_rfl)) hHeld ?_
              refine yq_ (i := 3) (N := some 125) bq_39 (any_of HT_.out (by kernel_rfl)) ?_
              refine tk_ (i := 4) (N := some 126) bq_40 (take_ofW HT_.out HW_.out (by kernel_rfl)) hHeld ?_
              refine one_ (i := 5) (N := some 127) bq_41 rfl rfl (one_of HT_.out (by kernel_rfl)) (by decide) (fun K hK => ?_)
              refine goes_ Try.func151 (by kernel_rfl) rfl #[.agg #[.int .i64 ((rd_T59 l0_5 x5_2).f0), .string ((rd_T59 l0_5 x5_2).f1)]] (by rfl) rfl rfl tq_1 ?_
              with_reducible refine (spec_EntryWord.calls k2 ((rd_T59 l0_5 x5_2).f0) ((rd_T59 l0_5 x5_2).f1) t205 _ A61.out).mono ?_
              rintro e w79 ⟨rfl, hb⟩
              refine ⟨_, rfl, ?_⟩
              have z_ := p_ (blk_below tq_22 hb) <| a_ (below_step tq_6 hb)
              clear BK196 HB
              obtain ⟨BK196, HB⟩ := z_
              (try clear hb)
              (try clear hb2)
              (try clear hk)
              (try clear hi)
              refine hK.out _ _ (bc6_ BK196.out ⟨((HB.out.cell (World.block_lt_of_cell? w _ hw204_0)).trans hw204_0), ((HB.out.cell (World.block_lt_of_cell? w _ hw204_1)).trans hw204_1)⟩) (fun hHeld => ?_)
              clear hK K
              refine nm_ (some 127) ?_
              refine yq_ (i := 6) (N := some 128) bq_42 (any_of HT_.out (by kernel_rfl)) ?_
              refine yq_ (i := 7) (N := some 129) bq_43 (any_of HT_.out (by kernel_rfl)) ?_
              refine yq_ (i := 8) (N := some 130) bq_44 (any_of HT_.out (by kernel_rfl)) ?_
              refine yq_ (i := 9) (N := some 131) bq_45 (any_of HT_.out (by kernel_rfl)) ?_
              refine yq_ (i := 10) (N := some 132) bq_46 (any_of HT_.out (by kernel_rfl)) ?_
              refine uq_ (i := 11) (N := some 133) bq_47 (any_of HT_.out (by kernel_rfl)) ?_
              refine uq_ (i := 12) (N := some 134) bq_106 (any_of HT_.out (by kernel_rfl)) ?_
              refine uq_ (i := 13) (N := some 135) bq_107 (any_of HT_.out (by kernel_rfl)) ?_
              refine uq_ (i := 14) (N := some 136) bq_108 (any_of HT_.out (by kernel_rfl)) ?_
              refine uq_ (i := 15) (N := some 137) bq_109 (any_of HT_.out (by kernel_rfl)) ?_
              refine uq_ (i := 16) (N := some 138) bq_110 (any_of HT_.out (by kernel_rfl)) ?_
              refine uq_ (i := 17) (N := some 139) bq_111 (any_of HT_.out (by kernel_rfl)) ?_
              refine uq_ (i := 18) (N := some 140) bq_112 (any_of HT_.out (by kernel_rfl)) ?_
              refine uq_ (i := 19) (N := some 141) bq_113 (any_of HT_.out (by kernel_rfl)) ?_
              refine uq_ (i := 20) (N := some 142) bq_48 (any_of HT_.out (by kernel_rfl)) ?_
              refine uq_ (i := 21) (N := some 143) bq_49 (any_of HT_.out (by kernel_rfl)) ?_
              refine uq_ (i := 22) (N := some 144) bq_50 (any_of HT_.out (by kernel_rfl)) ?_
              refine uq_ (i := 23) (N := some 145) bq_51 (any_of HT_.out (by kernel_rfl)) ?_
              refine uq_ (i := 24) (N := some 146) bq_52 (any_of HT_.out (by kernel_rfl)) ?_
              refine yq_ (i := 25) (N := some 147) bq_53 (any_of HT_.out (by kernel_rfl)) ?_
              refine yq_ (i := 26) (N := some 148) bq_54 (any_of HT_.out (by kernel_rfl)) ?_
              refine done_ (done_of HT_.out (by kernel_rfl)) ?_
              try go_wp2
              go_roundg k2
              case measure => have := HJ47.out; have := HK2.out; omega
              case rel => exact ⟨(wrap64 (x5_2 + 1)), tq_8, H', ⟨(by have := HJ47.out; have := HK2.out; omega)⟩, ⟨tq_22⟩, ⟨tq_6⟩⟩
           ·rw [if_neg c60] at H
            exact absurd H (by simp)
          ·rw [if_neg c59] at H
           have c59b0 : decide (x5_2 < (l0_5.length : Int)) = false := decide_eq_false c59
           clear c59
           obtain rfl := Option.some.inj H
           have hcz80_0 := bc_ BK196.out 0
           have hcz80_1 := bc_ BK196.out 1
           have hcz80_2 := bc_ BK196.out 2
           have hcz80_3 := bc_ BK196.out 3
           have hcz80_4 := bc_ BK196.out 4
           have hcz80_5 := bc_ BK196.out 5
           have hfz80_0 := blk_frozen BK196.out 0
           have hfz80_1 := blk_frozen BK196.out 1
           have hfz80_2 := blk_frozen BK196.out 2
           have hfz80_3 := blk_frozen BK196.out 3
           have hfz80_4 := blk_frozen BK196.out 4
           have hfz80_5 := blk_frozen BK196.out 5
           go_wp2
           go_ret
           exact ⟨tq_2, tq_6⟩
    ·rw [if_neg c47] at H
     have c47b0 : (a0_0 == 2) = false := beq_eq_false_iff_ne.mpr c47
     have c47b1 : (a0_0 != 2) = true := bne_iff_ne.mpr c47
     obtain rfl := Option.some.inj H
     go_enter Try.func147, Try.ntmps147
     go_wp2_with (first | ((with_reducible refine gate_dst (N := 1) rfl ?_); (try (refine gate_guard (by rfl) ?_; dsimp only)); refine box_event ?hg (N := 1) ?hd (cs := #[.int .i64 a0_0, .int .i64 a0_1, .int .i64 a0_2, .string a0_3, .slice A0_4 l0_4.length c0_4, .slice A0_5 l0_5.length c0_5]) (t := 49) ?hr ?_; (case hd => rfl); (case hg => rfl); (case hr => first | (go_simp; done) | (go_simp; rfl)); intro gb196 hg w81 hbox hb; have z_ := p_ (below_step tq_0 hb) <| p_ (hbox) <| p_ (gb_ hg tq_0) <| a_ (gb_ hg tq_0); clear HB; obtain ⟨HB, BK196, GW196, GE196⟩ := z_; clear hb hbox hg; have hcz82_0 := bc_ BK196.out 0; have hcz82_1 := bc_ BK196.out 1; have hcz82_2 := bc_ BK196.out 2; have hcz82_3 := bc_ BK196.out 3; have hcz82_4 := bc_ BK196.out 4; have hcz82_5 := bc_ BK196.out 5; have hfz82_0 := blk_frozen BK196.out 0; have hfz82_1 := blk_frozen BK196.out 1; have hfz82_2 := blk_frozen BK196.out 2; have hfz82_3 := blk_frozen BK196.out 3; have hfz82_4 := blk_frozen BK196.out 4; have hfz82_5 := blk_frozen BK196.out 5) | ((with_reducible refine gate_callee (f := 141) rfl ?_); refine goesL_ (some 8) rfl rfl Try.func141 (by kernel_rfl) rfl #[.int .i64 a0_2, .int .i64 0, .int .i64 65535] rfl tq_1 ?_; (with_reducible refine (spec_l01In.calls a0_2 0 65535 true _ A2.out).mono ?_); rintro e w' ⟨rfl, ⟨nd, rfl⟩⟩; refine ⟨_, rfl, ?_⟩))
     go_ret
     exact ⟨tq_2, tq_6⟩
 ·replace c3 := Bool.eq_false_iff.mpr c3
  subst c3
  have H1 : (some false) = some r := by rw [if_neg (show ¬ (false = true) by decide)] at H; exact H
  clear H
  have H := H1
  clear H1
  obtain rfl := Option.some.inj H
  go_enter Try.func147, Try.ntmps147
  go_wp2_with (first | ((with_reducible refine gate_dst (N := 1) rfl ?_); (try (refine gate_guard (by rfl) ?_; dsimp only)); refine box_event ?hg (N := 1) ?hd (cs := #[.int .i64 a0_0, .int .i64 a0_1, .int .i64 a0_2, .string a0_3, .slice A0_4 l0_4.length c0_4, .slice A0_5 l0_5.length c0_5]) (t := 49) ?hr ?_; (case hd => rfl); (case hg => rfl); (case hr => first | (go_simp; done) | (go_simp; rfl)); intro gb196 hg w83 hbox hb; have z_ := p_ (below_step tq_0 hb) <| p_ (hbox) <| p_ (gb_ hg tq_0) <| a_ (gb_ hg tq_0); clear HB; obtain ⟨HB, BK196, GW196, GE196⟩ := z_; clear hb hbox hg; have hcz84_0 := bc_ BK196.out 0; have hcz84_1 := bc_ BK196.out 1; have hcz84_2 := bc_ BK196.out 2; have hcz84_3 := bc_ BK196.out 3; have hcz84_4 := bc_ BK196.out 4; have hcz84_5 := bc_ BK196.out 5; have hfz84_0 := blk_frozen BK196.out 0; have hfz84_1 := blk_frozen BK196.out 1; have hfz84_2 := blk_frozen BK196.out 2; have hfz84_3 := blk_frozen BK196.out 3; have hfz84_4 := blk_frozen BK196.out 4; have hfz84_5 := blk_frozen BK196.out 5) | ((with_reducible refine gate_callee (f := 141) rfl ?_); refine goesL_ (some 8) rfl rfl Try.func141 (by kernel_rfl) rfl #[.int .i64 a0_2, .int .i64 0, .int .i64 65535] rfl tq_1 ?_; (with_reducible refine (spec_l01In.calls a0_2 0 65535 false _ A2.out).mono ?_); rintro e w' ⟨rfl, ⟨nd, rfl⟩⟩; refine ⟨_, rfl, ?_⟩))
  go_ret
  exact ⟨tq_2, tq_6⟩

end Go.Proofs.Ytcdnfkoahajhhaa.PFnExactInodeWords
