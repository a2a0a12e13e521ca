/- Contracts of Go functions, written by a program of ours over the print of the kit: each says that the call returns what the Lean function beside it computes. Conditions: as each theorem states them. -/
import Derived.Test.YtljnnmpfeningaaPkFnExactPartOk
import Derived.Test.YtljnnmpfeningaaPFnExactPartOkx0
import Derived.Test.YtljnnmpfeningaaPFnExactPartOkx1
import Derived.Test.YtljnnmpfeningaaPFnExactPartOkx2
import Derived.Test.YtljnnmpfeningaaPFnExactPartOkx5
import Derived.Test.YtljnnmpfeningaaPFnExactPartOkx6
import Derived.Test.YtljnnmpfeningaaPFnExactPartOkx7
namespace Go.Proofs.Ytljnnmpfeningaa.PFnExactPartOk
open Go.RowKit Go.Proofs.YtljnnmpfeningaaW.PrintWords Go.Proofs.YtljnnmpfeningaaW.PrintLast Go.Proofs.YtljnnmpfeningaaW.PrintMore
attribute [local go_sem] max2_int min2_int max_two min_two max_three min_three max_four min_four   -- for this text's walks alone
set_option linter.unusedVariables false
set_option linter.unusedSimpArgs false

/-! ### spec_PartOk: function 7 -/
mutual
def spec_PartOk.j0 : Nat → Bool → Int → Int → Int → Int → Int → List Int → List (S64) → Option (Bool)
 | 0, _, _, _, _, _, _, _, _ => none
 | k + 1, x49, x187000, x187001, x187002, x187003, x188000, x188001, x188002 => if x49 = true then (some false) else (spec_PartOk.l0 k 0 0 x187000 x187001 x187002 x187003 x188000 x188001 x188002)
def spec_PartOk.l0 : Nat → Int → Int → Int → Int → Int → Int → Int → List Int → List (S64) → Option (Bool)
 | 0, _, _, _, _, _, _, _, _, _ => none
 | k + 1, x5, x6, x187000, x187001, x187002, x187003, x188000, x188001, x188002 => if x6 < (x188002.length : Int) then (if 0 ≤ x6 then ((spec_InodeOk.f k ((rd_T64 x188002 x6).f0) ((rd_T64 x188002 x6).f1) ((rd_T64 x188002 x6).f2) ((rd_T64 x188002 x6).f3) ((rd_T64 x188002 x6).f4) ((rd_T64 x188002 x6).f5)).bind fun t195 => (if t195 = true then (if x6 = 0 then (spec_PartOk.j2 k x5 x6 1 true x187000 x187001 x187002 x187003 x188000 x188001 x188002 ((rd_T64 x188002 x6).f0) ((rd_T64 x188002 x6).f1) ((rd_T64 x188002 x6).f2) ((rd_T64 x188002 x6).f3) ((rd_T64 x188002 x6).f4) ((rd_T64 x188002 x6).f5)) else (spec_PartOk.j2 k x5 x6 1 (((rd_T64 x188002 x6).f0) == 0) x187000 x187001 x187002 x187003 x188000 x188001 x188002 ((rd_T64 x188002 x6).f0) ((rd_T64 x188002 x6).f1) ((rd_T64 x188002 x6).f2) ((rd_T64 x188002 x6).f3) ((rd_T64 x188002 x6).f4) ((rd_T64 x188002 x6).f5))) else (some false))) else (none)) else ((spec_PagesWith.f k x188001 2).bind fun t199 => (spec_PartOk.l2 k x5 t199 0 x187000 x187001 x187002 x187003 x188000 x188001 x188002))
def spec_PartOk.j2 : Nat → Int → Int → Int → Bool → Int → Int → Int → Int → Int → List Int → List (S64) → Int → Int → Int → ByteArray → List (S96) → List (S67) → Option (Bool)
 | 0, _, _, _, _, _, _, _, _, _, _, _, _, _, _, _, _, _ => none
 | k + 1, x5, x6, x8, x71, x187000, x187001, x187002, x187003, x188000, x188001, x188002, x195000, x195001, x195002, x195003, x195004, x195005 => if x71 = true then (spec_PartOk.j3 k x5 x6 0 x187000 x187001 x187002 x187003 x188000 x188001 x188002 x195000 x195001 x195002 x195003 x195004 x195005) else (spec_PartOk.j3 k x5 x6 x8 x187000 x187001 x187002 x187003 x188000 x188001 x188002 x195000 x195001 x195002 x195003 x195004 x195005)
def spec_PartOk.j3 : Nat → Int → Int → Int → Int → Int → Int → Int → Int → List Int → List (S64) → Int → Int → Int → ByteArray → List (S96) → List (S67) → Option (Bool)
 | 0, _, _, _, _, _, _, _, _, _, _, _, _, _, _, _, _ => none
 | k + 1, x5, x6, x8, x187000, x187001, x187002, x187003, x188000, x188001, x188002, x195000, x195001, x195002, x195003, x195004, x195005 => (spec_LinksTo.f k x188000 x188001 x188002 x6).bind fun t196 => (if t196 = x8 then (if x8 = 1 then ((spec_DepthOf.f k x188000 x188001 x188002 x6).bind fun t197 => (spec_PartOk.j4 k x5 x6 (decide (t197 < 0)) x187000 x187001 x187002 x187003 x188000 x188001 x188002 x195000 x195001 x195002 x195003 x195004 x195005)) else (spec_PartOk.j4 k x5 x6 false x187000 x187001 x187002 x187003 x188000 x188001 x188002 x195000 x195001 x195002 x195003 x195004 x195005)) else (spec_PartOk.j4 k x5 x6 true x187000 x187001 x187002 x187003 x188000 x188001 x188002 x195000 x195001 x195002 x195003 x195004 x195005))
def spec_PartOk.j4 : Nat → Int → Int → Bool → Int → Int → Int → Int → Int → List Int → List (S64) → Int → Int → Int → ByteArray → List (S96) → List (S67) → Option (Bool)
 | 0, _, _, _, _, _, _, _, _, _, _, _, _, _, _, _, _ => none
 | k + 1, x5, x6, x86, x187000, x187001, x187002, x187003, x188000, x188001, x188002, x195000, x195001, x195002, x195003, x195004, x195005 => if x86 = true then (some false) else (spec_PartOk.l1 k x5 x6 0 x187000 x187001 x187002 x187003 x188000 x188001 x188002 x195000 x195001 x195002 x195003 x195004 x195005)
def spec_PartOk.l1 : Nat → Int → Int → Int → Int → Int → Int → Int → Int → List Int → List (S64) → Int → Int → Int → ByteArray → List (S96) → List (S67) → Option (Bool)
 | 0, _, _, _, _, _, _, _, _, _, _, _, _, _, _, _, _ => none
 | k + 1, x5, x6, x9, x187000, x187001, x187002, x187003, x188000, x188001, x188002, x195000, x195001, x195002, x195003, x195004, x195005 => if x9 < (x195005.length : Int) then (if 0 ≤ x9 then (if ((rd_T67 x195005 x9).f0) ≥ x187002 then (some false) else (spec_PartOk.l1 k x5 x6 (wrap64 (x9 + 1)) x187000 x187001 x187002 x187003 x188000 x188001 x188002 x195000 x195001 x195002 x195003 x195004 x195005)) else (none)) else (spec_PartOk.l0 k (wrap64 (x5 + (x195004.length : Int))) (wrap64 (x6 + 1)) x187000 x187001 x187002 x187003 x188000 x188001 x188002)
def spec_PartOk.l2 : Nat → Int → List Int → Int → Int → Int → Int → Int → Int → List Int → List (S64) → Option (Bool)
 | 0, _, _, _, _, _, _, _, _, _, _ => none
 | k + 1, x5, x10, x11, x187000, x187001, x187002, x187003, x188000, x188001, x188002 => if x11 < (x10.length : Int) then (if 0 ≤ x11 then ((spec_UsersOf.f k x188000 x188001 x188002 (rd x10 x11)).bind fun t203 => (if t203 = 1 then (spec_PartOk.l2 k x5 x10 (wrap64 (x11 + 1)) x187000 x187001 x187002 x187003 x188000 x188001 x188002) else (some false))) else (none)) else (if (x10.length : Int) = x5 then (some (decide ((x10.length : Int) ≤ x187003))) else (some false))
end
def spec_PartOk.f (k : Nat) (a0_0 : Int) (a0_1 : Int) (a0_2 : Int) (a0_3 : Int) (a1_0 : Int) (l1_1 : List Int) (l1_2 : List (S64)) : Option (Bool) := (spec_GeoOk.f a0_0 a0_1 a0_2 a0_3).bind fun t188 => (if t188 = true then ((spec_l01In.f a1_0 0 16777215).bind fun t189 => (if t189 = true then ((spec_StatesOk.f k l1_1 a0_1).bind fun t190 => (if t190 = true then (if (l1_2.length : Int) = a0_2 then (if 0 < (l1_2.length : Int) then (if ((rd_T64 l1_2 0).f0) = 2 then ((spec_LinksTo.f k a1_0 l1_1 l1_2 0).bind fun t192 => (spec_PartOk.j0 k (decide (t192 > 0)) a0_0 a0_1 a0_2 a0_3 a1_0 l1_1 l1_2)) else (spec_PartOk.j0 k true a0_0 a0_1 a0_2 a0_3 a1_0 l1_1 l1_2)) else (none)) else (spec_PartOk.j0 k true a0_0 a0_1 a0_2 a0_3 a1_0 l1_1 l1_2)) else (spec_PartOk.j0 k true a0_0 a0_1 a0_2 a0_3 a1_0 l1_1 l1_2))) else (spec_PartOk.j0 k true a0_0 a0_1 a0_2 a0_3 a1_0 l1_1 l1_2))) else (spec_PartOk.j0 k true a0_0 a0_1 a0_2 a0_3 a1_0 l1_1 l1_2))
theorem spec_PartOk.mono_l : ∀ k, (∀ y0 y1 y2 y3 y4 y5 y6 y7, LeO (spec_PartOk.j0 k y0 y1 y2 y3 y4 y5 y6 y7) (spec_PartOk.j0 (k + 1) y0 y1 y2 y3 y4 y5 y6 y7)) ∧ (∀ y0 y1 y2 y3 y4 y5 y6 y7 y8, LeO (spec_PartOk.l0 k y0 y1 y2 y3 y4 y5 y6 y7 y8) (spec_PartOk.l0 (k + 1) y0 y1 y2 y3 y4 y5 y6 y7 y8)) ∧ (∀ y0 y1 y2 y3 y4 y5 y6 y7 y8 y9 y10 y11 y12 y13 y14 y15 y16, LeO (spec_PartOk.j2 k y0 y1 y2 y3 y4 y5 y6 y7 y8 y9 y10 y11 y12 y13 y14 y15 y16) (spec_PartOk.j2 (k + 1) y0 y1 y2 y3 y4 y5 y6 y7 y8 y9 y10 y11 y12 y13 y14 y15 y16)) ∧ (∀ y0 y1 y2 y3 y4 y5 y6 y7 y8 y9 y10 y11 y12 y13 y14 y15, LeO (spec_PartOk.j3 k y0 y1 y2 y3 y4 y5 y6 y7 y8 y9 y10 y11 y12 y13 y14 y15) (spec_PartOk.j3 (k + 1) y0 y1 y2 y3 y4 y5 y6 y7 y8 y9 y10 y11 y12 y13 y14 y15)) ∧ (∀ y0 y1 y2 y3 y4 y5 y6 y7 y8 y9 y10 y11 y12 y13 y14 y15, LeO (spec_PartOk.j4 k y0 y1 y2 y3 y4 y5 y6 y7 y8 y9 y10 y11 y12 y13 y14 y15) (spec_PartOk.j4 (k + 1) y0 y1 y2 y3 y4 y5 y6 y7 y8 y9 y10 y11 y12 y13 y14 y15)) ∧ (∀ y0 y1 y2 y3 y4 y5 y6 y7 y8 y9 y10 y11 y12 y13 y14 y15, LeO (spec_PartOk.l1 k y0 y1 y2 y3 y4 y5 y6 y7 y8 y9 y10 y11 y12 y13 y14 y15) (spec_PartOk.l1 (k + 1) y0 y1 y2 y3 y4 y5 y6 y7 y8 y9 y10 y11 y12 y13 y14 y15)) ∧ (∀ y0 y1 y2 y3 y4 y5 y6 y7 y8 y9, LeO (spec_PartOk.l2 k y0 y1 y2 y3 y4 y5 y6 y7 y8 y9) (spec_PartOk.l2 (k + 1) y0 y1 y2 y3 y4 y5 y6 y7 y8 y9))
 | 0 => ⟨fun _ _ _ _ _ _ _ _ r h => by simp [spec_PartOk.j0] at h, fun _ _ _ _ _ _ _ _ _ r h => by simp [spec_PartOk.l0] at h, fun _ _ _ _ _ _ _ _ _ _ _ _ _ _ _ _ _ r h => by simp [spec_PartOk.j2] at h, fun _ _ _ _ _ _ _ _ _ _ _ _ _ _ _ _ r h => by simp [spec_PartOk.j3] at h, fun _ _ _ _ _ _ _ _ _ _ _ _ _ _ _ _ r h => by simp [spec_PartOk.j4] at h, fun _ _ _ _ _ _ _ _ _ _ _ _ _ _ _ _ r h => by simp [spec_PartOk.l1] at h, fun _ _ _ _ _ _ _ _ _ _ r h => by simp [spec_PartOk.l2] at h⟩
 | k + 1 => by
  obtain ⟨ih0, ih1, ih2, ih3, ih4, ih5, ih6⟩ := spec_PartOk.mono_l k
  refine ⟨?_, ?_, ?_, ?_, ?_, ?_, ?_⟩
  ·intro y0 y1 y2 y3 y4 y5 y6 y7
   unfold spec_PartOk.j0
   exact mo_4
  ·intro y0 y1 y2 y3 y4 y5 y6 y7 y8
   unfold spec_PartOk.l0
   exact mo_4
  ·intro y0 y1 y2 y3 y4 y5 y6 y7 y8 y9 y10 y11 y12 y13 y14 y15 y16
   unfold spec_PartOk.j2
   exact mo_4
  ·intro y0 y1 y2 y3 y4 y5 y6 y7 y8 y9 y10 y11 y12 y13 y14 y15
   unfold spec_PartOk.j3
   exact mo_4
  ·intro y0 y1 y2 y3 y4 y5 y6 y7 y8 y9 y10 y11 y12 y13 y14 y15
   unfold spec_PartOk.j4
   exact mo_4
  ·intro y0 y1 y2 y3 y4 y5 y6 y7 y8 y9 y10 y11 y12 y13 y14 y15
   unfold spec_PartOk.l1
   exact mo_4
  ·intro y0 y1 y2 y3 y4 y5 y6 y7 y8 y9
   unfold spec_PartOk.l2
   exact mo_4
theorem spec_PartOk.mono : ∀ a0 a1 a2 a3 a4 a5 a6 k, LeO (spec_PartOk.f k a0 a1 a2 a3 a4 a5 a6) (spec_PartOk.f (k + 1) a0 a1 a2 a3 a4 a5 a6) := by
 intro a0 a1 a2 a3 a4 a5 a6 k
 obtain ⟨ih0, ih1, ih2, ih3, ih4, ih5, ih6⟩ := spec_PartOk.mono_l k
 unfold spec_PartOk.f
 repeat' first
   | (with_reducible exact ih0 ..)
   | (with_reducible exact ih1 ..)
   | (with_reducible exact ih2 ..)
   | (with_reducible exact ih3 ..)
   | (with_reducible exact ih4 ..)
   | (with_reducible exact ih5 ..)
   | (with_reducible exact ih6 ..)
   | (with_reducible exact spec_DepthOf.mono ..)
   | (with_reducible exact spec_InodeOk.mono ..)
   | (with_reducible exact spec_LinksTo.mono ..)
   | (with_reducible exact spec_PagesWith.mono ..)
   | (with_reducible exact spec_StatesOk.mono ..)
   | (with_reducible exact spec_UsersOf.mono ..)
   | (with_reducible exact LeO.refl _)
   | (with_reducible exact LeO.none _)
   | (with_reducible refine LeO.ite ?_ ?_)
   | (with_reducible refine LeO.bind ?_ (fun _ => ?_))
   | exact ih0 ..
   | exact ih1 ..
   | exact ih2 ..
   | exact ih3 ..
   | exact ih4 ..
   | exact ih5 ..
   | exact ih6 ..
   | exact spec_DepthOf.mono ..
   | exact spec_InodeOk.mono ..
   | exact spec_LinksTo.mono ..
   | exact spec_PagesWith.mono ..
   | exact spec_StatesOk.mono ..
   | exact spec_UsersOf.mono ..
   | exact LeO.none _
   | refine LeO.ite ?_ ?_
   | refine LeO.bind ?_ (fun _ => ?_)
def spec_PartOk.T18 : Bool × List (List Nat × List Nat) := (true, [([], []), ([0], [0]), ([], []), ([1, 2], [1, 2]), ([3], [3]), ([4], [4]), ([], []), ([6], [6]), ([5, 7], [5, 7])])
def spec_PartOk.B18 : List Nat := [0, 1, 0, 7, 15, 31, 0, 64, 255]
theorem spec_PartOk.tab18 : rtab .any (opsOf Try.f7 18) = spec_PartOk.T18 := by kernel_rfl
theorem spec_PartOk.bits18 : waitsOk spec_PartOk.T18.2 spec_PartOk.B18 = true := by kernel_rfl
set_option maxHeartbeats 8000000 in
set_option maxRecDepth 100000 in
theorem spec_PartOk.calls (k : Nat) (a0_0 : Int) (a0_1 : Int) (a0_2 : Int) (a0_3 : Int) (a1_0 : Int) (A1_1 : Option Addr) (c1_1 : Nat) (l1_1 : List Int) (A1_2 : Option Addr) (c1_2 : Nat) (l1_2 : List (S64)) (r : Bool) (w : World) (hr1_1 : Kd.C (Kd.int .i64) w A1_1 l1_1.length l1_1) (hc1_1 : l1_1.length ≤ c1_1) (hr1_2 : Kd.C k64 w A1_2 l1_2.length l1_2) (hc1_2 : l1_2.length ≤ c1_2) (h : spec_PartOk.f k a0_0 a0_1 a0_2 a0_3 a1_0 l1_1 l1_2 = some r) :
  Calls Try.prog 7 #[.agg #[.int .i64 a0_0, .int .i64 a0_1, .int .i64 a0_2, .int .i64 a0_3], .agg #[.int .i64 a1_0, .slice A1_1 l1_1.length c1_1, .slice A1_2 l1_2.length c1_2]] w fun e w' => e = .returned (.bool r) ∧ Below w.heap.size w w' := by
 have hu30 := Try.underlying30
 have hu34 := Try.underlying34
 have hu64 := Try.underlying64
 have HR1_1 := Aside0.mk hr1_1
 have HC1_1 := Aside0.mk hc1_1
 clear hr1_1 hc1_1
 have HR1_2 := Aside0.mk hr1_2
 have HC1_2 := Aside0.mk hc1_2
 clear hr1_2 hc1_2
 have HB := Aside0.mk (Below.refl w.heap.size w)
 have H : ((spec_GeoOk.f a0_0 a0_1 a0_2 a0_3).bind fun t188 => (if t188 = true then ((spec_l01In.f a1_0 0 16777215).bind fun t189 => (if t189 = true then ((spec_StatesOk.f k l1_1 a0_1).bind fun t190 => (if t190 = true then (if (l1_2.length : Int) = a0_2 then (if 0 < (l1_2.length : Int) then (if ((rd_T64 l1_2 0).f0) = 2 then ((spec_LinksTo.f k a1_0 l1_1 l1_2 0).bind fun t192 => (spec_PartOk.j0 k (decide (t192 > 0)) a0_0 a0_1 a0_2 a0_3 a1_0 l1_1 l1_2)) else (spec_PartOk.j0 k true a0_0 a0_1 a0_2 a0_3 a1_0 l1_1 l1_2)) else (none)) else (spec_PartOk.j0 k true a0_0 a0_1 a0_2 a0_3 a1_0 l1_1 l1_2)) else (spec_PartOk.j0 k true a0_0 a0_1 a0_2 a0_3 a1_0 l1_1 l1_2))) else (spec_PartOk.j0 k true a0_0 a0_1 a0_2 a0_3 a1_0 l1_1 l1_2))) else (spec_PartOk.j0 k true a0_0 a0_1 a0_2 a0_3 a1_0 l1_1 l1_2))) = some r := h
 clear h
 have HC3 := Aside0.mk H
 clear H
 go_enter Try.func7, Try.ntmps7
 go_upto_region 1 with (first | ((with_reducible refine gate_dst (N := 2) rfl ?_); (try (refine gate_guard (by rfl) ?_; dsimp only)); refine box_event ?hg (N := 2) ?hd (cs := #[.int .i64 a0_0, .int .i64 a0_1, .int .i64 a0_2, .int .i64 a0_3]) (t := 30) ?hr ?_; (case hd => rfl); (case hg => rfl); (case hr => first | (go_simp; done) | (go_simp; rfl)); intro gb186 hg w4 hbox hb; have z_ := p_ (below_step tq_0 hb) <| p_ (hbox) <| p_ (gb_ hg tq_0) <| a_ (gb_ hg tq_0); clear HB; obtain ⟨HB, BK186, GW186, GE186⟩ := z_; clear hb hbox hg) | ((with_reducible refine gate_dst (N := 3) rfl ?_); (try (refine gate_guard (by rfl) ?_; dsimp only)); refine box_event ?hg (N := 3) ?hd (cs := #[.int .i64 a1_0, .slice A1_1 l1_1.length c1_1, .slice A1_2 l1_2.length c1_2]) (t := 34) ?hr ?_; (case hd => rfl); (case hg => rfl); (case hr => first | (go_simp; done) | (go_simp; rfl)); intro gb187 hg w5 hbox hb; have z_ := p_ (blk_below tq_11 hb) <| p_ (below_step tq_137 hb) <| p_ (hbox) <| p_ (gb_ hg tq_137) <| p_ (gb_ hg tq_137) <| p_ (ltne_ hg (blk_lt tq_11)) <| a_ (gtne_ hg (blk_lt tq_11)); clear BK186 HB; obtain ⟨BK186, HB, BK187, GW187, GE187, NB186_187, NB187_186⟩ := z_; clear hb hbox hg))
 (try simp only [Act.put, List.setIfInBounds_toArray, List.set_cons_zero, List.set_cons_succ])
 go_cut [49] (fun v49 wc => ∃ (kq : Nat) (x49_2 : Bool), v49 = .bool x49_2 ∧ Aside0 (spec_PartOk.j0 kq x49_2 a0_0 a0_1 a0_2 a0_3 a1_0 l1_1 l1_2 = some r) ∧ Aside0 (kq ≤ k) ∧ Aside0 (wc.heap[gb186]? = some (.cells #[.int .i64 a0_0, .int .i64 a0_1, .int .i64 a0_2, .int .i64 a0_3] 30 (0, 0))) ∧ Aside0 (wc.heap[gb187]? = some (.cells #[.int .i64 a1_0, (.slice A1_1 l1_1.length c1_1), (.slice A1_2 l1_2.length c1_2)] 34 (0, 0))) ∧ Aside0 (Below w.heap.size w wc))
 case first =>
  have H := HC3.out
  clear HC3
  replace H := Option.bind_eq_some_iff.mp H
  obtain ⟨t188, A60, H⟩ := H
  replace H : (if t188 = true then ((spec_l01In.f a1_0 0 16777215).bind fun t189 => (if t189 = true then ((spec_StatesOk.f k l1_1 a0_1).bind fun t190 => (if t190 = true then (if (l1_2.length : Int) = a0_2 then (if 0 < (l1_2.length : Int) then (if ((rd_T64 l1_2 0).f0) = 2 then ((spec_LinksTo.f k a1_0 l1_1 l1_2 0).bind fun t192 => (spec_PartOk.j0 k (decide (t192 > 0)) a0_0 a0_1 a0_2 a0_3 a1_0 l1_1 l1_2)) else (spec_PartOk.j0 k true a0_0 a0_1 a0_2 a0_3 a1_0 l1_1 l1_2)) else (none)) else (spec_PartOk.j0 k true a0_0 a0_1 a0_2 a0_3 a1_0 l1_1 l1_2)) else (spec_PartOk.j0 k true a0_0 a0_1 a0_2 a0_3 a1_0 l1_1 l1_2))) else (spec_PartOk.j0 k true a0_0 a0_1 a0_2 a0_3 a1_0 l1_1 l1_2))) else (spec_PartOk.j0 k true a0_0 a0_1 a0_2 a0_3 a1_0 l1_1 l1_2)) = some r := H
  have A6 := Aside0.mk A60
  clear A60
  by_cases c7 : t188 = true
  rotate_left
  ·replace c7 := Bool.eq_false_iff.mpr c7
   subst c7
   have H1 : (spec_PartOk.j0 k true a0_0 a0_1 a0_2 a0_3 a1_0 l1_1 l1_2) = some r := by rw [if_neg (show ¬ (false = true) by decide)] at H; exact H
   clear H
   have H := H1
   clear H1
   have H' := Aside0.mk H
   clear H
   have hnb41 := NB186_187.out
   have hnc41 := NB187_186.out
   obtain ⟨hcz42_0, hcz42_1, hcz42_2, hcz42_3⟩ := bk4_ BK186.out
   obtain ⟨hfz42_0, hfz42_1, hfz42_2, hfz42_3⟩ := bf4_ BK186.out
   go_wp2_with (first | ((with_reducible refine gate_callee (f := 29) rfl ?_); refine goesL_ (some 13) rfl rfl Try.func29 (by kernel_rfl) rfl #[.agg #[.int .i64 a0_0, .int .i64 a0_1, .int .i64 a0_2, .int .i64 a0_3]] rfl tq_1 ?_; (with_reducible refine (spec_GeoOk.calls a0_0 a0_1 a0_2 a0_3 false _ A6.out).mono ?_); rintro e w43 ⟨rfl, hb⟩; refine ⟨_, rfl, ?_⟩; have z_ := p_ (blk_below tq_11 hb) <| p_ (blk_below tq_12 hb) <| a_ (below_step tq_5 hb); clear BK186 BK187 HB; obtain ⟨BK186, BK187, HB⟩ := z_; (try clear hb); (try clear hb2); (try clear hk); (try clear hi)))
   go_meet
   case rel => exact ⟨_, (true), tq_4, H', ⟨tq_59⟩, ⟨tq_11⟩, ⟨tq_12⟩, ⟨tq_5⟩⟩
  subst c7
  have H1 : ((spec_l01In.f a1_0 0 16777215).bind fun t189 => (if t189 = true then ((spec_StatesOk.f k l1_1 a0_1).bind fun t190 => (if t190 = true then (if (l1_2.length : Int) = a0_2 then (if 0 < (l1_2.length : Int) then (if ((rd_T64 l1_2 0).f0) = 2 then ((spec_LinksTo.f k a1_0 l1_1 l1_2 0).bind fun t192 => (spec_PartOk.j0 k (decide (t192 > 0)) a0_0 a0_1 a0_2 a0_3 a1_0 l1_1 l1_2)) else (spec_PartOk.j0 k true a0_0 a0_1 a0_2 a0_3 a1_0 l1_1 l1_2)) else (none)) else (spec_PartOk.j0 k true a0_0 a0_1 a0_2 a0_3 a1_0 l1_1 l1_2)) else (spec_PartOk.j0 k true a0_0 a0_1 a0_2 a0_3 a1_0 l1_1 l1_2))) else (spec_PartOk.j0 k true a0_0 a0_1 a0_2 a0_3 a1_0 l1_1 l1_2))) = some r := by rw [if_pos rfl] at H; exact H
  clear H
  have H := H1
  clear H1
  replace H := Option.bind_eq_some_iff.mp H
  obtain ⟨t189, A80, H⟩ := H
  replace H : (if t189 = true then ((spec_StatesOk.f k l1_1 a0_1).bind fun t190 => (if t190 = true then (if (l1_2.length : Int) = a0_2 then (if 0 < (l1_2.length : Int) then (if ((rd_T64 l1_2 0).f0) = 2 then ((spec_LinksTo.f k a1_0 l1_1 l1_2 0).bind fun t192 => (spec_PartOk.j0 k (decide (t192 > 0)) a0_0 a0_1 a0_2 a0_3 a1_0 l1_1 l1_2)) else (spec_PartOk.j0 k true a0_0 a0_1 a0_2 a0_3 a1_0 l1_1 l1_2)) else (none)) else (spec_PartOk.j0 k true a0_0 a0_1 a0_2 a0_3 a1_0 l1_1 l1_2)) else (spec_PartOk.j0 k true a0_0 a0_1 a0_2 a0_3 a1_0 l1_1 l1_2))) else (spec_PartOk.j0 k true a0_0 a0_1 a0_2 a0_3 a1_0 l1_1 l1_2)) = some r := H
  have A8 := Aside0.mk A80
  clear A80
  by_cases c9 : t189 = true
  rotate_left
  ·replace c9 := Bool.eq_false_iff.mpr c9
   subst c9
   have H1 : (spec_PartOk.j0 k true a0_0 a0_1 a0_2 a0_3 a1_0 l1_1 l1_2) = some r := by rw [if_neg (show ¬ (false = true) by decide)] at H; exact H
   clear H
   have H := H1
   clear H1
   have H' := Aside0.mk H
   clear H
   have hnb37 := NB186_187.out
   have hnc37 := NB187_186.out
   obtain ⟨hcz38_0, hcz38_1, hcz38_2, hcz38_3⟩ := bk4_ BK186.out
   obtain ⟨hfz38_0, hfz38_1, hfz38_2, hfz38_3⟩ := bf4_ BK186.out
   go_wp2_with (first | ((with_reducible refine gate_callee (f := 29) rfl ?_); refine goesL_ (some 13) rfl rfl Try.func29 (by kernel_rfl) rfl #[.agg #[.int .i64 a0_0, .int .i64 a0_1, .int .i64 a0_2, .int .i64 a0_3]] rfl tq_1 ?_; (with_reducible refine (spec_GeoOk.calls a0_0 a0_1 a0_2 a0_3 true _ A6.out).mono ?_); rintro e w39 ⟨rfl, hb⟩; refine ⟨_, rfl, ?_⟩; have z_ := p_ (blk_below tq_11 hb) <| p_ (blk_below tq_12 hb) <| a_ (below_step tq_5 hb); clear BK186 BK187 HB; obtain ⟨BK186, BK187, HB⟩ := z_; (try clear hb); (try clear hb2); (try clear hk); (try clear hi); obtain ⟨hcz40_0, hcz40_1, hcz40_2⟩ := bk3_ BK187.out; obtain ⟨hfz40_0, hfz40_1, hfz40_2⟩ := bf3_ BK187.out) | (go_at_call 30; (with_reducible refine (spec_l01In.calls a1_0 0 16777215 false _ A8.out).mono ?_); rintro e w' ⟨rfl, ⟨nd, rfl⟩⟩))
   go_meet
   case rel => exact ⟨_, (true), tq_4, H', ⟨tq_59⟩, ⟨tq_11⟩, ⟨tq_12⟩, ⟨tq_5⟩⟩
  subst c9
  have H1 : ((spec_StatesOk.f k l1_1 a0_1).bind fun t190 => (if t190 = true then (if (l1_2.length : Int) = a0_2 then (if 0 < (l1_2.length : Int) then (if ((rd_T64 l1_2 0).f0) = 2 then ((spec_LinksTo.f k a1_0 l1_1 l1_2 0).bind fun t192 => (spec_PartOk.j0 k (decide (t192 > 0)) a0_0 a0_1 a0_2 a0_3 a1_0 l1_1 l1_2)) else (spec_PartOk.j0 k true a0_0 a0_1 a0_2 a0_3 a1_0 l1_1 l1_2)) else (none)) else (spec_PartOk.j0 k true a0_0 a0_1 a0_2 a0_3 a1_0 l1_1 l1_2)) else (spec_PartOk.j0 k true a0_0 a0_1 a0_2 a0_3 a1_0 l1_1 l1_2))) = some r := by rw [if_pos rfl] at H; exact H
  clear H
  have H := H1
  clear H1
  replace H := Option.bind_eq_some_iff.mp H
  obtain ⟨t190, A100, H⟩ := H
  replace H : (if t190 = true then (if (l1_2.length : Int) = a0_2 then (if 0 < (l1_2.length : Int) then (if ((rd_T64 l1_2 0).f0) = 2 then ((spec_LinksTo.f k a1_0 l1_1 l1_2 0).bind fun t192 => (spec_PartOk.j0 k (decide (t192 > 0)) a0_0 a0_1 a0_2 a0_3 a1_0 l1_1 l1_2)) else (spec_PartOk.j0 k true a0_0 a0_1 a0_2 a0_3 a1_0 l1_1 l1_2)) else (none)) else (spec_PartOk.j0 k true a0_0 a0_1 a0_2 a0_3 a1_0 l1_1 l1_2)) else (spec_PartOk.j0 k true a0_0 a0_1 a0_2 a0_3 a1_0 l1_1 l1_2)) = some r := H
  have A10 := Aside0.mk A100
  clear A100
  by_cases c11 : t190 = true
  rotate_left
  ·replace c11 := Bool.eq_false_iff.mpr c11
   subst c11
   have H1 : (spec_PartOk.j0 k true a0_0 a0_1 a0_2 a0_3 a1_0 l1_1 l1_2) = some r := by rw [if_neg (show ¬ (false = true) by decide)] at H; exact H
   clear H
   have H := H1
   clear H1
   have H' := Aside0.mk H
   clear H
   have hnb32 := NB186_187.out
   have hnc32 := NB187_186.out
   obtain ⟨hcz33_0, hcz33_1, hcz33_2, hcz33_3⟩ := bk4_ BK186.out
   obtain ⟨hfz33_0, hfz33_1, hfz33_2, hfz33_3⟩ := bf4_ BK186.out
   go_wp2_with (first | ((with_reducible refine gate_callee (f := 29) rfl ?_); refine goesL_ (some 13) rfl rfl Try.func29 (by kernel_rfl) rfl #[.agg #[.int .i64 a0_0, .int .i64 a0_1, .int .i64 a0_2, .int .i64 a0_3]] rfl tq_1 ?_; (with_reducible refine (spec_GeoOk.calls a0_0 a0_1 a0_2 a0_3 true _ A6.out).mono ?_); rintro e w34 ⟨rfl, hb⟩; refine ⟨_, rfl, ?_⟩; have z_ := p_ (blk_below tq_11 hb) <| p_ (blk_below tq_12 hb) <| a_ (below_step tq_5 hb); clear BK186 BK187 HB; obtain ⟨BK186, BK187, HB⟩ := z_; (try clear hb); (try clear hb2); (try clear hk); (try clear hi); obtain ⟨hcz35_0, hcz35_1, hcz35_2⟩ := bk3_ BK187.out; obtain ⟨hfz35_0, hfz35_1, hfz35_2⟩ := bf3_ BK187.out) | (go_at_call 30; (with_reducible refine (spec_l01In.calls a1_0 0 16777215 true _ A8.out).mono ?_); rintro e w' ⟨rfl, ⟨nd, rfl⟩⟩; obtain ⟨hcz36_0, hcz36_1, hcz36_2, hcz36_3⟩ := bk4_ BK186.out; obtain ⟨hfz36_0, hfz36_1, hfz36_2, hfz36_3⟩ := bf4_ BK186.out) | (go_at_call 31; (with_reducible refine (spec_StatesOk.calls k _ _ l1_1 a0_1 false _ ?side1 ?side2 A10.out).mono ?_); (case side1 => exact tq_91); (case side2 => exact HC1_1.out); rintro e w' ⟨rfl, ⟨nd, rfl⟩⟩))
   go_meet
   case rel => exact ⟨_, (true), tq_4, H', ⟨tq_59⟩, ⟨tq_11⟩, ⟨tq_12⟩, ⟨tq_5⟩⟩
  subst c11
  have H1 : (if (l1_2.length : Int) = a0_2 then (if 0 < (l1_2.length : Int) then (if ((rd_T64 l1_2 0).f0) = 2 then ((spec_LinksTo.f k a1_0 l1_1 l1_2 0).bind fun t192 => (spec_PartOk.j0 k (decide (t192 > 0)) a0_0 a0_1 a0_2 a0_3 a1_0 l1_1 l1_2)) else (spec_PartOk.j0 k true a0_0 a0_1 a0_2 a0_3 a1_0 l1_1 l1_2)) else (none)) else (spec_PartOk.j0 k true a0_0 a0_1 a0_2 a0_3 a1_0 l1_1 l1_2)) = some r := by rw [if_pos rfl] at H; exact H
  clear H
  have H := H1
  clear H1
  by_cases c12 : (l1_2.length : Int) = a0_2
  rotate_left
  ·rw [if_neg c12] at H
   have c12b0 := beq_eq_false_iff_ne.mpr c12
   have c12b1 := bne_iff_ne.mpr c12
   (first | rw [c12b0] | (simp only [i64_w, i32_w]; rw [c12b0]) | skip)
   have H' := Aside0.mk H
   clear H
   have hnb27 := NB186_187.out
   have hnc27 := NB187_186.out
   obtain ⟨hcz28_0, hcz28_1, hcz28_2, hcz28_3⟩ := bk4_ BK186.out
   obtain ⟨hfz28_0, hfz28_1, hfz28_2, hfz28_3⟩ := bf4_ BK186.out
   go_wp2_with (first | ((with_reducible refine gate_callee (f := 29) rfl ?_); refine goesL_ (some 13) rfl rfl Try.func29 (by kernel_rfl) rfl #[.agg #[.int .i64 a0_0, .int .i64 a0_1, .int .i64 a0_2, .int .i64 a0_3]] rfl tq_1 ?_; (with_reducible refine (spec_GeoOk.calls a0_0 a0_1 a0_2 a0_3 true _ A6.out).mono ?_); rintro e w29 ⟨rfl, hb⟩; refine ⟨_, rfl, ?_⟩; have z_ := p_ (blk_below tq_11 hb) <| p_ (blk_below tq_12 hb) <| a_ (below_step tq_5 hb); clear BK186 BK187 HB; obtain ⟨BK186, BK187, HB⟩ := z_; (try clear hb); (try clear hb2); (try clear hk); (try clear hi); obtain ⟨hcz30_0, hcz30_1, hcz30_2⟩ := bk3_ BK187.out; obtain ⟨hfz30_0, hfz30_1, hfz30_2⟩ := bf3_ BK187.out) | (go_at_call 30; (with_reducible refine (spec_l01In.calls a1_0 0 16777215 true _ A8.out).mono ?_); rintro e w' ⟨rfl, ⟨nd, rfl⟩⟩; obtain ⟨hcz31_0, hcz31_1, hcz31_2, hcz31_3⟩ := bk4_ BK186.out; obtain ⟨hfz31_0, hfz31_1, hfz31_2, hfz31_3⟩ := bf4_ BK186.out) | (go_at_call 31; (with_reducible refine (spec_StatesOk.calls k _ _ l1_1 a0_1 true _ ?side1 ?side2 A10.out).mono ?_); (case side1 => exact tq_91); (case side2 => exact HC1_1.out); rintro e w' ⟨rfl, ⟨nd, rfl⟩⟩))
   go_meet
   case rel => exact ⟨_, (true), tq_4, H', ⟨tq_59⟩, ⟨tq_11⟩, ⟨tq_12⟩, ⟨tq_5⟩⟩
  rw [if_pos c12] at H
  have c12b0 := beq_iff_eq.mpr c12
  have c12b1 := bne_eq_false_iff_eq.mpr c12
  clear c12
  (first | rw [c12b0] | (simp only [i64_w, i32_w]; rw [c12b0]) | skip)
  by_cases c13 : 0 < (l1_2.length : Int)
  rotate_left
  ·rw [if_neg c13] at H
   exact absurd H (by simp)
  rw [if_pos c13] at H
  have c13b0 := decide_eq_true c13
  have c13b1 : decide (0 < l1_2.length) = true := decide_eq_true (by omega)
  clear c13
  by_cases c14 : ((rd_T64 l1_2 0).f0) = 2
  rotate_left
  ·rw [if_neg c14] at H
   have c14b0 := beq_eq_false_iff_ne.mpr c14
   have c14b1 := bne_iff_ne.mpr c14
   have H' := Aside0.mk H
   clear H
   have hnb22 := NB186_187.out
   have hnc22 := NB187_186.out
   obtain ⟨hcz23_0, hcz23_1, hcz23_2, hcz23_3⟩ := bk4_ BK186.out
   obtain ⟨hfz23_0, hfz23_1, hfz23_2, hfz23_3⟩ := bf4_ BK186.out
   go_wp2_with (first | ((with_reducible refine gate_callee (f := 29) rfl ?_); refine goesL_ (some 13) rfl rfl Try.func29 (by kernel_rfl) rfl #[.agg #[.int .i64 a0_0, .int .i64 a0_1, .int .i64 a0_2, .int .i64 a0_3]] rfl tq_1 ?_; (with_reducible refine (spec_GeoOk.calls a0_0 a0_1 a0_2 a0_3 true _ A6.out).mono ?_); rintro e w24 ⟨rfl, hb⟩; refine ⟨_, rfl, ?_⟩; have z_ := p_ (blk_below tq_11 hb) <| p_ (blk_below tq_12 hb) <| a_ (below_step tq_5 hb); clear BK186 BK187 HB; obtain ⟨BK186, BK187, HB⟩ := z_; (try clear hb); (try clear hb2); (try clear hk); (try clear hi); obtain ⟨hcz25_0, hcz25_1, hcz25_2⟩ := bk3_ BK187.out; obtain ⟨hfz25_0, hfz25_1, hfz25_2⟩ := bf3_ BK187.out) | (go_at_call 30; (with_reducible refine (spec_l01In.calls a1_0 0 16777215 true _ A8.out).mono ?_); rintro e w' ⟨rfl, ⟨nd, rfl⟩⟩; obtain ⟨hcz26_0, hcz26_1, hcz26_2, hcz26_3⟩ := bk4_ BK186.out; obtain ⟨hfz26_0, hfz26_1, hfz26_2, hfz26_3⟩ := bf4_ BK186.out) | (go_at_call 31; (with_reducible refine (spec_StatesOk.calls k _ _ l1_1 a0_1 true _ ?side1 ?side2 A10.out).mono ?_); (case side1 => exact tq_91); (case side2 => exact HC1_1.out); rintro e w' ⟨rfl, ⟨nd, rfl⟩⟩; have p191 : 0 ≤ (0 : Int) := (by omega); have q191 : 0 < (l1_2.length : Int) := of_decide_eq_true tq_3; obtain ⟨ad191, A191_4, c191_4, A191_5, c191_5, e191, hx191_0, hx191_1, hx191_2, hx191_3, hx191_4, hx191_5, hl191_4, hi191_4, hl191_5, hi191_5⟩ := at_T64 HR1_2.out 0 p191 q191; cases e191; have qi191 : (0 < l1_2.length) = True := eq_true (by omega); (try rw [show ((0 : Int)).toNat = 0 from rfl] at hx191_0); (try rw [show 0 * 6 = 0 from rfl] at hx191_0); (try rw [Addr.add_zero'] at hx191_0); (try rw [show ((0 : Int)).toNat = 0 from rfl] at hx191_1); (try rw [show 0 * 6 = 0 from rfl] at hx191_1); (try rw [Addr.add_zero'] at hx191_1); (try rw [show ((0 : Int)).toNat = 0 from rfl] at hx191_2); (try rw [show 0 * 6 = 0 from rfl] at hx191_2); (try rw [Addr.add_zero'] at hx191_2); (try rw [show ((0 : Int)).toNat = 0 from rfl] at hx191_3); (try rw [show 0 * 6 = 0 from rfl] at hx191_3); (try rw [Addr.add_zero'] at hx191_3); (try rw [show ((0 : Int)).toNat = 0 from rfl] at hx191_4); (try rw [show 0 * 6 = 0 from rfl] at hx191_4); (try rw [Addr.add_zero'] at hx191_4); (try rw [show ((0 : Int)).toNat = 0 from rfl] at hx191_5); (try rw [show 0 * 6 = 0 from rfl] at hx191_5); (try rw [Addr.add_zero'] at hx191_5); replace hx191_0 := hx_ HB.out hx191_0; replace hx191_1 := hx_ HB.out hx191_1; replace hx191_2 := hx_ HB.out hx191_2; replace hx191_3 := hx_ HB.out hx191_3; replace hx191_4 := hx_ HB.out hx191_4; replace hx191_5 := hx_ HB.out hx191_5; have HR191_4 := Aside0.mk hi191_4; have HC191_4 := Aside0.mk hl191_4; clear hi191_4 hl191_4; have HR191_5 := Aside0.mk hi191_5; have HC191_5 := Aside0.mk hl191_5; clear hi191_5 hl191_5; replace p191 := eq_true p191; replace q191 := eq_true q191))
   go_meet
   case rel => exact ⟨_, (true), tq_4, H', ⟨tq_59⟩, ⟨tq_11⟩, ⟨tq_12⟩, ⟨tq_5⟩⟩
  rw [if_pos c14] at H
  have c14b0 := beq_iff_eq.mpr c14
  have c14b1 := bne_eq_false_iff_eq.mpr c14
  clear c14
  replace H := Option.bind_eq_some_iff.mp H
  obtain ⟨t192, A150, H⟩ := H
  replace H : (spec_PartOk.j0 k (decide (t192 > 0)) a0_0 a0_1 a0_2 a0_3 a1_0 l1_1 l1_2) = some r := H
  have A15 := Aside0.mk A150
  clear A150
  have H' := Aside0.mk H
  clear H
  have hnb16 := NB186_187.out
  have hnc16 := NB187_186.out
  obtain ⟨hcz17_0, hcz17_1, hcz17_2, hcz17_3⟩ := bk4_ BK186.out
  obtain ⟨hfz17_0, hfz17_1, hfz17_2, hfz17_3⟩ := bf4_ BK186.out
  go_wp2_with (first | ((with_reducible refine gate_callee (f := 29) rfl ?_); refine goesL_ (some 13) rfl rfl Try.func29 (by kernel_rfl) rfl #[.agg #[.int .i64 a0_0, .int .i64 a0_1, .int .i64 a0_2, .int .i64 a0_3]] rfl tq_1 ?_; (with_reducible refine (spec_GeoOk.calls a0_0 a0_1 a0_2 a0_3 true _ A6.out).mono ?_); rintro e w18 ⟨rfl, hb⟩; refine ⟨_, rfl, ?_⟩; have z_ := p_ (blk_below tq_11 hb) <| p_ (blk_below tq_12 hb) <| a_ (below_step tq_5 hb); clear BK186 BK187 HB; obtain ⟨BK186, BK187, HB⟩ := z_; (try clear hb); (try clear hb2); (try clear hk); (try clear hi); obtain ⟨hcz19_0, hcz19_1, hcz19_2⟩ := bk3_ BK187.out; obtain ⟨hfz19_0, hfz19_1, hfz19_2⟩ := bf3_ BK187.out) | (go_at_call 30; (with_reducible refine (spec_l01In.calls a1_0 0 16777215 true _ A8.out).mono ?_); rintro e w' ⟨rfl, ⟨nd, rfl⟩⟩; obtain ⟨hcz20_0, hcz20_1, hcz20_2, hcz20_3⟩ := bk4_ BK186.out; obtain ⟨hfz20_0, hfz20_1, hfz20_2, hfz20_3⟩ := bf4_ BK186.out) | (go_at_call 31; (with_reducible refine (spec_StatesOk.calls k _ _ l1_1 a0_1 true _ ?side1 ?side2 A10.out).mono ?_); (case side1 => exact tq_91); (case side2 => exact HC1_1.out); rintro e w' ⟨rfl, ⟨nd, rfl⟩⟩; have p191 : 0 ≤ (0 : Int) := (by omega); have q191 : 0 < (l1_2.length : Int) := of_decide_eq_true tq_3; obtain ⟨ad191, A191_4, c191_4, A191_5, c191_5, e191, hx191_0, hx191_1, hx191_2, hx191_3, hx191_4, hx191_5, hl191_4, hi191_4, hl191_5, hi191_5⟩ := at_T64 HR1_2.out 0 p191 q191; cases e191; have qi191 : (0 < l1_2.length) = True := eq_true (by omega); (try rw [show ((0 : Int)).toNat = 0 from rfl] at hx191_0); (try rw [show 0 * 6 = 0 from rfl] at hx191_0); (try rw [Addr.add_zero'] at hx191_0); (try rw [show ((0 : Int)).toNat = 0 from rfl] at hx191_1); (try rw [show 0 * 6 = 0 from rfl] at hx191_1); (try rw [Addr.add_zero'] at hx191_1); (try rw [show ((0 : Int)).toNat = 0 from rfl] at hx191_2); (try rw [show 0 * 6 = 0 from rfl] at hx191_2); (try rw [Addr.add_zero'] at hx191_2); (try rw [show ((0 : Int)).toNat = 0 from rfl] at hx191_3); (try rw [show 0 * 6 = 0 from rfl] at hx191_3); (try rw [Addr.add_zero'] at hx191_3); (try rw [show ((0 : Int)).toNat = 0 from rfl] at hx191_4); (try rw [show 0 * 6 = 0 from rfl] at hx191_4); (try rw [Addr.add_zero'] at hx191_4); (try rw [show ((0 : Int)).toNat = 0 from rfl] at hx191_5); (try rw [show 0 * 6 = 0 from rfl] at hx191_5); (try rw [Addr.add_zero'] at hx191_5); replace hx191_0 := hx_ HB.out hx191_0; replace hx191_1 := hx_ HB.out hx191_1; replace hx191_2 := hx_ HB.out hx191_2; replace hx191_3 := hx_ HB.out hx191_3; replace hx191_4 := hx_ HB.out hx191_4; replace hx191_5 := hx_ HB.out hx191_5; have HR191_4 := Aside0.mk hi191_4; have HC191_4 := Aside0.mk hl191_4; clear hi191_4 hl191_4; have HR191_5 := Aside0.mk hi191_5; have HC191_5 := Aside0.mk hl191_5; clear hi191_5 hl191_5; replace p191 := eq_true p191; replace q191 := eq_true q191) | (go_at_call 32; (with_reducible refine (spec_LinksTo.calls k a1_0 _ _ l1_1 _ _ l1_2 0 t192 _ ?side1 ?side2 ?side3 ?side4 A15.out).mono ?_); (case side1 => exact tq_91); (case side2 => exact HC1_1.out); (case side3 => repeat (first | exact (Kd.C_below HR1_2.out tq_5) | (with_reducible refine Kd.C_alloc ?_ _) | (with_reducible refine Kd.C_drewN ?_ _) | (with_reducible refine Kd.C_drew ?_))); (case side4 => exact HC1_2.out); rintro e w21 ⟨rfl, hb⟩; have z_ := p_ (blk_below tq_11 hb) <| p_ (blk_below tq_12 hb) <| a_ (below_step tq_5 hb); clear BK186 BK187 HB; obtain ⟨BK186, BK187, HB⟩ := z_; (try clear hb); (try clear hb2); (try clear hk); (try clear hi)))
  go_meet
  case rel => exact ⟨_, (decide (t192 > 0)), tq_4, H', ⟨tq_59⟩, ⟨tq_11⟩, ⟨tq_12⟩, ⟨tq_5⟩⟩
 case rest =>
 clear HC3
 try clear c1; try clear p1; try clear q1; try clear hx1; try clear qi1; try clear c2; try clear p2; try clear c3; try clear c4; try clear c7; try clear c9; try clear c11; try clear c12; try clear c12b0; try clear c12b1; try clear c13; try clear c13b0; try clear c13b1; try clear c14; try clear c14b0; try clear c14b1; try clear c16; try clear c19; try clear p19; try clear q19; try clear hx19; try clear qi19; try clear c22; try clear c27; try clear c29; try clear c32; try clear c37; try clear c41; try clear hcz17_0 hcz17_1 hcz17_2 hcz17_3; try clear hcz19_0 hcz19_1 hcz19_2; try clear hcz20_0 hcz20_1 hcz20_2 hcz20_3; try clear hcz23_0 hcz23_1 hcz23_2 hcz23_3; try clear hcz25_0 hcz25_1 hcz25_2; try clear hcz26_0 hcz26_1 hcz26_2 hcz26_3; try clear hcz28_0 hcz28_1 hcz28_2 hcz28_3; try clear hcz30_0 hcz30_1 hcz30_2; try clear hcz31_0 hcz31_1 hcz31_2 hcz31_3; try clear hcz33_0 hcz33_1 hcz33_2 hcz33_3; try clear hcz35_0 hcz35_1 hcz35_2; try clear hcz36_0 hcz36_1 hcz36_2 hcz36_3; try clear hcz38_0 hcz38_1 hcz38_2 hcz38_3; try clear hcz40_0 hcz40_1 hcz40_2; try clear hcz42_0 hcz42_1 hcz42_2 hcz42_3; try clear hfz17_0 hfz17_1 hfz17_2 hfz17_3; try clear hfz19_0 hfz19_1 hfz19_2; try clear hfz20_0 hfz20_1 hfz20_2 hfz20_3; try clear hfz23_0 hfz23_1 hfz23_2 hfz23_3; try clear hfz25_0 hfz25_1 hfz25_2; try clear hfz26_0 hfz26_1 hfz26_2 hfz26_3; try clear hfz28_0 hfz28_1 hfz28_2 hfz28_3; try clear hfz30_0 hfz30_1 hfz30_2; try clear hfz31_0 hfz31_1 hfz31_2 hfz31_3; try clear hfz33_0 hfz33_1 hfz33_2 hfz33_3; try clear hfz35_0 hfz35_1 hfz35_2; try clear hfz36_0 hfz36_1 hfz36_2 hfz36_3; try clear hfz38_0 hfz38_1 hfz38_2 hfz38_3; try clear hfz40_0 hfz40_1 hfz40_2; try clear hfz42_0 hfz42_1 hfz42_2 hfz42_3; try clear hx191_0; try clear hx191_1; try clear hx191_2; try clear hx191_3; try clear hx191_4; try clear hx191_5; try clear p191; try clear q191
 obtain ⟨kq, x49_2, rfl, HA, HJ2, BK186, BK187, HB⟩ := hcut
 cases kq with
 | zero => exact absurd HA.out (by simp [spec_PartOk.j0])
 | succ kj2 =>
 have H := HA.out
 clear HA
 simp only [spec_PartOk.j0] at H
 by_cases c44 : x49_2 = true
 ·subst c44
  have H1 : (some false) = some r := by rw [if_pos rfl] at H; exact H
  clear H
  have H := H1
  clear H1
  obtain rfl := Option.some.inj H
  go_wp2
  go_ret
  exact ⟨tq_2, tq_5⟩
 replace c44 := Bool.eq_false_iff.mpr c44
 subst c44
 have H1 : (spec_PartOk.l0 kj2 0 0 a0_0 a0_1 a0_2 a0_3 a1_0 l1_1 l1_2) = some r := by rw [if_neg (show ¬ (false = true) by decide)] at H; exact H
 clear H
 have H := H1
 clear H1
 have H' := Aside0.mk H
 clear H
 go_wp2
 go_loopg [5, 6] kj2 (fun kq v5 v6 w' => ∃ (x5_2 : Int) (x6_2 : Int), v5 = .int .i64 x5_2 ∧ v6 = .int .i64 x6_2 ∧ Aside0 (spec_PartOk.l0 kq x5_2 x6_2 a0_0 a0_1 a0_2 a0_3 a1_0 l1_1 l1_2 = some r) ∧ Aside0 (kq ≤ kj2) ∧ Aside0 (w'.heap[gb186]? = some (.cells #[.int .i64 a0_0, .int .i64 a0_1, .int .i64 a0_2, .int .i64 a0_3] 30 (0, 0))) ∧ Aside0 (w'.heap[gb187]? = some (.cells #[.int .i64 a1_0, (.slice A1_1 l1_1.length c1_1), (.slice A1_2 l1_2.length c1_2)] 34 (0, 0))) ∧ Aside0 (Below w.heap.size w w'))
 case atStart => exact ⟨(0), (0), tq_4, tq_4, H', ⟨Nat.le_refl _⟩, ⟨tq_11⟩, ⟨tq_12⟩, ⟨tq_5⟩⟩
 case round =>
 clear H'
 try clear c1; try clear p1; try clear q1; try clear hx1; try clear qi1; try clear c2; try clear p2; try clear c3; try clear c4; try clear c7; try clear c9; try clear c11; try clear c12; try clear c12b0; try clear c12b1; try clear c13; try clear c13b0; try clear c13b1; try clear c14; try clear c14b0; try clear c14b1; try clear c16; try clear c19; try clear p19; try clear q19; try clear hx19; try clear qi19; try clear c22; try clear c27; try clear c29; try clear c32; try clear c37; try clear c41; try clear c44; try clear hcz17_0 hcz17_1 hcz17_2 hcz17_3; try clear hcz19_0 hcz19_1 hcz19_2; try clear hcz20_0 hcz20_1 hcz20_2 hcz20_3; try clear hcz23_0 hcz23_1 hcz23_2 hcz23_3; try clear hcz25_0 hcz25_1 hcz25_2; try clear hcz26_0 hcz26_1 hcz26_2 hcz26_3; try clear hcz28_0 hcz28_1 hcz28_2 hcz28_3; try clear hcz30_0 hcz30_1 hcz30_2; try clear hcz31_0 hcz31_1 hcz31_2 hcz31_3; try clear hcz33_0 hcz33_1 hcz33_2 hcz33_3; try clear hcz35_0 hcz35_1 hcz35_2; try clear hcz36_0 hcz36_1 hcz36_2 hcz36_3; try clear hcz38_0 hcz38_1 hcz38_2 hcz38_3; try clear hcz40_0 hcz40_1 hcz40_2; try clear hcz42_0 hcz42_1 hcz42_2 hcz42_3; try clear hfz17_0 hfz17_1 hfz17_2 hfz17_3; try clear hfz19_0 hfz19_1 hfz19_2; try clear hfz20_0 hfz20_1 hfz20_2 hfz20_3; try clear hfz23_0 hfz23_1 hfz23_2 hfz23_3; try clear hfz25_0 hfz25_1 hfz25_2; try clear hfz26_0 hfz26_1 hfz26_2 hfz26_3; try clear hfz28_0 hfz28_1 hfz28_2 hfz28_3; try clear hfz30_0 hfz30_1 hfz30_2; try clear hfz31_0 hfz31_1 hfz31_2 hfz31_3; try clear hfz33_0 hfz33_1 hfz33_2 hfz33_3; try clear hfz35_0 hfz35_1 hfz35_2; try clear hfz36_0 hfz36_1 hfz36_2 hfz36_3; try clear hfz38_0 hfz38_1 hfz38_2 hfz38_3; try clear hfz40_0 hfz40_1 hfz40_2; try clear hfz42_0 hfz42_1 hfz42_2 hfz42_3; try clear hx191_0; try clear hx191_1; try clear hx191_2; try clear hx191_3; try clear hx191_4; try clear hx191_5; try clear p1; try clear p19; try clear p191; try clear p2; try clear q1; try clear q19; try clear q191
 obtain ⟨x5_2, x6_2, rfl, rfl, HA, HK2, BK186, BK187, HB⟩ := hrel
 cases gk with
 | zero => exact absurd HA.out (by simp [spec_PartOk.l0])
 | succ k2 =>
 have H := HA.out
 clear HA
 simp only [spec_PartOk.l0] at H
 by_cases c45 : x6_2 < (l1_2.length : Int)
 rotate_left
 ·rw [if_neg c45] at H
  have c45b0 := decide_eq_false c45
  clear c45
  replace H := Option.bind_eq_some_iff.mp H
  obtain ⟨t199, A1040, H⟩ := H
  replace H : (spec_PartOk.l2 k2 x5_2 t199 0 a0_0 a0_1 a0_2 a0_3 a1_0 l1_1 l1_2) = some r := H
  have A104 := Aside0.mk A1040
  clear A1040
  have H' := Aside0.mk H
  clear H
  have hnb105 := NB187_186.out
  have hnc105 := NB186_187.out
  obtain ⟨hcz106_0, hcz106_1, hcz106_2⟩ := bk3_ BK187.out
  obtain ⟨hfz106_0, hfz106_1, hfz106_2⟩ := bf3_ BK187.out
  go_wp2_with (first | ((with_reducible refine gate_callee (f := 35) rfl ?_); refine goesL_ (some 110) rfl rfl Try.func35 (by kernel_rfl) rfl #[.slice A1_1 l1_1.length c1_1, .int .i64 2] rfl tq_1 ?_; (with_reducible refine (spec_PagesWith.calls k2 _ _ l1_1 2 t199 _ ?side1 ?side2 A104.out).mono ?_); (case side1 => exact tq_21); (case side2 => exact HC1_1.out); rintro e w107 ⟨v200, rfl, ho0, hb⟩; refine ⟨_, rfl, ?_⟩; have z_ := p_ (Kd.R_lower ho0 (below_size tq_5)) <| p_ (blk_below tq_11 hb) <| p_ (blk_below tq_12 hb) <| a_ (below_step tq_5 hb); clear BK186 BK187 HB; obtain ⟨HO201, BK186, BK187, HB⟩ := z_; (try clear hb); (try clear hb2); (try clear hk); (try clear hi); (try clear ho0)))
  go_loopg [11] k2 (fun kq v11 w' => ∃ (x11_3 : Int), v11 = .int .i64 x11_3 ∧ Aside0 (spec_PartOk.l2 kq x5_2 t199 x11_3 a0_0 a0_1 a0_2 a0_3 a1_0 l1_1 l1_2 = some r) ∧ Aside0 (kq ≤ k2) ∧ Aside0 (Kd.R (Kd.int .i64) 3 w' w.heap.size (fun _ => True) v200 t199) ∧ Aside0 (w'.heap[gb186]? = some (.cells #[.int .i64 a0_0, .int .i64 a0_1, .int .i64 a0_2, .int .i64 a0_3] 30 (0, 0))) ∧ Aside0 (w'.heap[gb187]? = some (.cells #[.int .i64 a1_0, (.slice A1_1 l1_1.length c1_1), (.slice A1_2 l1_2.length c1_2)] 34 (0, 0))) ∧ Aside0 (Below w.heap.size w w'))
  case atStart => exact ⟨(0), tq_4, H', ⟨Nat.le_refl _⟩, ⟨(by (with_reducible repeat (first | apply Kd.R_alloc | apply Kd.R_drewN | apply Kd.R_drew)); exact HO201.out)⟩, ⟨tq_11⟩, ⟨tq_12⟩, ⟨tq_5⟩⟩
  case round =>
  clear H'
  try clear c1; try clear p1; try clear q1; try clear hx1; try clear qi1; try clear c2; try clear p2; try clear c3; try clear c4; try clear c5; try clear c6; try clear p6; try clear c7; try clear c8; try clear c9; try clear c10; try clear c11; try clear c12; try clear c12b0; try clear c12b1; try clear c13; try clear c13b0; try clear c13b1; try clear c14; try clear c14b0; try clear c14b1; try clear c16; try clear c19; try clear p19; try clear q19; try clear hx19; try clear qi19; try clear c22; try clear c27; try clear c29; try clear c32; try clear c33; try clear c35; try clear c37; try clear c41; try clear c44; try clear c45; try clear c45b0; try clear c46; try clear c46b0; try clear c48; try clear c50; try clear c53; try clear c54; try clear c57; try clear c57b0; try clear c57b1; try clear c58; try clear c59; try clear c62; try clear p64; try clear c65; try clear c65b0; try clear c65b1; try clear c66; try clear c66b0; try clear c66b1; try clear c68; try clear c69; try clear c74; try clear c75; try clear c78; try clear c79; try clear c82; try clear c83; try clear c83b0; try clear c84; try clear c84b0; try clear c85; try clear c85b0; try clear c86; try clear c87; try clear c90; try clear c91; try clear c94; try clear c95; try clear c97; try clear c100; try clear c101; try clear c105; try clear hcz102_0 hcz102_1 hcz102_2 hcz102_3 hcz102_4 hcz102_5; try clear hcz106_0 hcz106_1 hcz106_2; try clear hcz17_0 hcz17_1 hcz17_2 hcz17_3; try clear hcz19_0 hcz19_1 hcz19_2; try clear hcz20_0 hcz20_1 hcz20_2 hcz20_3; try clear hcz23_0 hcz23_1 hcz23_2 hcz23_3; try clear hcz25_0 hcz25_1 hcz25_2; try clear hcz26_0 hcz26_1 hcz26_2 hcz26_3; try clear hcz28_0 hcz28_1 hcz28_2 hcz28_3; try clear hcz30_0 hcz30_1 hcz30_2; try clear hcz31_0 hcz31_1 hcz31_2 hcz31_3; try clear hcz33_0 hcz33_1 hcz33_2 hcz33_3; try clear hcz35_0 hcz35_1 hcz35_2; try clear hcz36_0 hcz36_1 hcz36_2 hcz36_3; try clear hcz38_0 hcz38_1 hcz38_2 hcz38_3; try clear hcz40_0 hcz40_1 hcz40_2; try clear hcz42_0 hcz42_1 hcz42_2 hcz42_3; try clear hcz51_0 hcz51_1 hcz51_2; try clear hcz55_0 hcz55_1 hcz55_2 hcz55_3 hcz55_4 hcz55_5; try clear hcz60_0 hcz60_1 hcz60_2 hcz60_3 hcz60_4 hcz60_5; try clear hcz70_0 hcz70_1 hcz70_2; try clear hcz72_0 hcz72_1 hcz72_2; try clear hcz76_0 hcz76_1 hcz76_2; try clear hcz80_0 hcz80_1 hcz80_2; try clear hcz88_0 hcz88_1 hcz88_2 hcz88_3 hcz88_4 hcz88_5; try clear hcz92_0 hcz92_1 hcz92_2 hcz92_3 hcz92_4 hcz92_5; try clear hcz96_0 hcz96_1 hcz96_2 hcz96_3 hcz96_4 hcz96_5; try clear hcz98_0 hcz98_1 hcz98_2; try clear hfz102_0 hfz102_1 hfz102_2 hfz102_3 hfz102_4 hfz102_5; try clear hfz106_0 hfz106_1 hfz106_2; try clear hfz17_0 hfz17_1 hfz17_2 hfz17_3; try clear hfz19_0 hfz19_1 hfz19_2; try clear hfz20_0 hfz20_1 hfz20_2 hfz20_3; try clear hfz23_0 hfz23_1 hfz23_2 hfz23_3; try clear hfz25_0 hfz25_1 hfz25_2; try clear hfz26_0 hfz26_1 hfz26_2 hfz26_3; try clear hfz28_0 hfz28_1 hfz28_2 hfz28_3; try clear hfz30_0 hfz30_1 hfz30_2; try clear hfz31_0 hfz31_1 hfz31_2 hfz31_3; try clear hfz33_0 hfz33_1 hfz33_2 hfz33_3; try clear hfz35_0 hfz35_1 hfz35_2; try clear hfz36_0 hfz36_1 hfz36_2 hfz36_3; try clear hfz38_0 hfz38_1 hfz38_2 hfz38_3; try clear hfz40_0 hfz40_1 hfz40_2; try clear hfz42_0 hfz42_1 hfz42_2 hfz42_3; try clear hfz51_0 hfz51_1 hfz51_2; try clear hfz55_0 hfz55_1 hfz55_2 hfz55_3 hfz55_4 hfz55_5; try clear hfz60_0 hfz60_1 hfz60_2 hfz60_3 hfz60_4 hfz60_5; try clear hfz70_0 hfz70_1 hfz70_2; try clear hfz72_0 hfz72_1 hfz72_2; try clear hfz76_0 hfz76_1 hfz76_2; try clear hfz80_0 hfz80_1 hfz80_2; try clear hfz88_0 hfz88_1 hfz88_2 hfz88_3 hfz88_4 hfz88_5; try clear hfz92_0 hfz92_1 hfz92_2 hfz92_3 hfz92_4 hfz92_5; try clear hfz96_0 hfz96_1 hfz96_2 hfz96_3 hfz96_4 hfz96_5; try clear hfz98_0 hfz98_1 hfz98_2; try clear hx191_0; try clear hx191_1; try clear hx191_2; try clear hx191_3; try clear hx191_4; try clear hx191_5; try clear hx193_0; try clear hx193_1; try clear hx193_2; try clear hx193_3; try clear hx193_4; try clear hx193_5; try clear hx198_0; try clear hx198_1; try clear p1; try clear p19; try clear p191; try clear p193; try clear p198; try clear p2; try clear q1; try clear q19; try clear q191; try clear q193; try clear q198
  obtain ⟨x11_3, rfl, HA, HK3, HO_10, BK186, BK187, HB⟩ := hrel
  cases gk with
  | zero => exact absurd HA.out (by simp [spec_PartOk.l2])
  | succ k3 =>
  have H := HA.out
  clear HA
  simp only [spec_PartOk.l2] at H
  by_cases c108 : x11_3 < (t199.length : Int)
  rotate_left
  ·rw [if_neg c108] at H
   have c108b0 := decide_eq_false c108
   clear c108
   by_cases c118 : (t199.length : Int) = x5_2
   rotate_left
   ·rw [if_neg c118] at H
    have c118b0 := beq_eq_false_iff_ne.mpr c118
    have c118b1 := bne_iff_ne.mpr c118
    obtain rfl := Option.some.inj H
    obtain ⟨Ao122, co122, eo122⟩ := Kd.R_slice HO_10.out
    subst eo122
    go_wp2
    go_ret
    exact ⟨tq_2, tq_5⟩
   rw [if_pos c118] at H
   have c118b0 := beq_iff_eq.mpr c118
   have c118b1 := bne_eq_false_iff_eq.mpr c118
   clear c118
   obtain rfl := Option.some.inj H
   obtain ⟨Ao119, co119, eo119⟩ := Kd.R_slice HO_10.out
   subst eo119
   have hnb120 := NB186_187.out
   have hnc120 := NB187_186.out
   obtain ⟨hcz121_0, hcz121_1, hcz121_2, hcz121_3⟩ := bk4_ BK186.out
   obtain ⟨hfz121_0, hfz121_1, hfz121_2, hfz121_3⟩ := bf4_ BK186.out
   go_wp2
   go_ret
   exact ⟨tq_2, tq_5⟩
  rw [if_pos c108] at H
  have c108b0 := decide_eq_true c108
  clear c108
  by_cases c109 : 0 ≤ x11_3
  rotate_left
  ·rw [if_neg c109] at H
   exact absurd H (by simp)
  rw [if_pos c109] at H
  have c109b0 := decide_eq_true c109
  clear c109
  replace H := Option.bind_eq_some_iff.mp H
  obtain ⟨t203, A1100, H⟩ := H
  replace H : (if t203 = 1 then (spec_PartOk.l2 k3 x5_2 t199 (wrap64 (x11_3 + 1)) a0_0 a0_1 a0_2 a0_3 a1_0 l1_1 l1_2) else (some false)) = some r := H
  have A110 := Aside0.mk A1100
  clear A1100
  by_cases c111 : t203 = 1
  rotate_left
  ·rw [if_neg c111] at H
   have c111b0 := beq_eq_false_iff_ne.mpr c111
   have c111b1 := bne_iff_ne.mpr c111
   obtain rfl := Option.some.inj H
   obtain ⟨Ao115, co115, eo115⟩ := Kd.R_slice HO_10.out
   subst eo115
   try go_wp2
   have z_ := p_ (Kd.R_drew HO_10.out) <| p_ (blk_drew BK186.out) <| p_ (blk_drew BK187.out) <| a_ (below_drew1 HB.out)
   clear HO_10 BK186 BK187 HB
   obtain ⟨HO_10, BK186, BK187, HB⟩ := z_
   have p202 : 0 ≤ (x11_3 : Int) := of_decide_eq_true tq_3
   have q202 : x11_3 < (t199.length : Int) := of_decide_eq_true tq_3
   obtain ⟨ad202, e202, hx202_0⟩ := Kd.at_int (Kd.R_reads' HO_10.out).2.2 x11_3 p202 q202
   cases e202
   replace p202 := eq_true p202
   replace q202 := eq_true q202
   refine start_ (n := 7) (S := fun w' => w'.cell? ⟨gb187, 0, none⟩ = some (.int .i64 a1_0) ∧ w'.cell? ⟨gb187, 1, none⟩ = some (.slice A1_1 l1_1.length c1_1) ∧ w'.cell? ⟨gb187, 2, none⟩ = some (.slice A1_2 l1_2.length c1_2) ∧ w'.cell? (ad202.add (x11_3).toNat) = some (.int .i64 (rd t199 x11_3))) (ds := []) #[false, false, false, false, false, false, false] (by kernel_rfl) rfl rfl (bc3_ BK187.out (hx202_0)) (fun hHeld => ?_)
   generalize wr.drew = w116 at HO_10 BK186 BK187 HB hx202_0 hHeld ⊢
   refine yq_ (i := 1) (N := some 118) #[false, true, false, false, false, false, false] (by kernel_rfl) ?_
   refine yq_ (i := 2) (N := some 119) #[false, true, true, false, false, false, false] (by kernel_rfl) ?_
   refine yq_ (i := 3) (N := some 120) #[false, true, true, true, false, false, false] (by kernel_rfl) ?_
   refine take_ (i := 0) (N := some 117) (v := ?_) (a' := ?_) #[true, true, true, true, false, false, false] rfl rfl (by kernel_rfl) (fun _ _ _ h => h) (Or.inl ⟨(by rfl), ?_⟩) hHeld ?_ ?_
   rotate_left
   ·rintro w' ⟨s0, s1, s2, s3⟩
    go_simp
    with_reducible rfl
   rotate_left
   ·simp only [Act.put, List.setIfInBounds_toArray, List.set_cons_zero, List.set_cons_succ, i64_w, i32_w]
    rfl
   refine take_ (i := 4) (N := some 121) (v := ?_) (a' := ?_) #[true, true, true, true, true, false, false] rfl rfl (by kernel_rfl) (fun _ _ _ h => h) (Or.inl ⟨(by rfl), ?_⟩) hHeld ?_ ?_
   rotate_left
   ·rintro w' ⟨s0, s1, s2, s3⟩
    go_simp
    with_reducible rfl
   rotate_left
   ·simp only [Act.put, List.setIfInBounds_toArray, List.set_cons_zero, List.set_cons_succ, i64_w, i32_w]
    rfl
   refine one_ (i := 5) (N := some 122) #[true, true, true, true, true, true, false] rfl rfl (by kernel_rfl) (by decide) (fun K hK => ?_)
   refine goes_ Try.func36 (by kernel_rfl) rfl #[.agg #[.int .i64 a1_0, .slice A1_1 l1_1.length c1_1, .slice A1_2 l1_2.length c1_2], .int .i64 (rd t199 x11_3)] (by rfl) rfl rfl tq_1 ?_
   with_reducible refine (spec_UsersOf.calls k3 a1_0 _ _ l1_1 _ _ l1_2 (rd t199 x11_3) t203 _ ?side1 ?side2 ?side3 ?side4 A110.out).mono ?_
   (case side1 => exact tq_21)
   (case side2 => exact HC1_1.out)
   (case side3 => exact tq_30)
   (case side4 => exact HC1_2.out)
   rintro e w117 ⟨rfl, hb⟩
   have HS3_ := (hb.cell (World.block_lt_of_cell? _ _ (hHeld.2.2.2))).trans (hHeld.2.2.2)
   refine ⟨_, rfl, ?_⟩
   have z_ := p_ (Kd.R_below tq_150 hb) <| p_ (blk_below tq_11 hb) <| p_ (blk_below tq_12 hb) <| a_ (below_step tq_5 hb)
   clear HO_10 BK186 BK187 HB
   obtain ⟨HO_10, BK186, BK187, HB⟩ := z_
   (try clear hb)
   (try clear hb2)
   (try clear hk)
   (try clear hi)
   refine hK.out _ _ (bc3_ BK187.out (HS3_)) (fun hHeld => ?_)
   clear hK K
   refine nm_ (some 122) ?_
   refine yq_ (i := 6) (N := some 123) #[true, true, true, true, true, true, true] (by kernel_rfl) ?_
   refine done_ (by kernel_rfl) ?_
   try go_wp2
   go_ret
   exact ⟨tq_2, tq_5⟩
  rw [if_pos c111] at H
  have c111b0 := beq_iff_eq.mpr c111
  have c111b1 := bne_eq_false_iff_eq.mpr c111
  clear c111
  have H' := Aside0.mk H
  clear H
  obtain ⟨Ao112, co112, eo112⟩ := Kd.R_slice HO_10.out
  subst eo112
  try go_wp2
  have z_ := p_ (Kd.R_drew HO_10.out) <| p_ (blk_drew BK186.out) <| p_ (blk_drew BK187.out) <| a_ (below_drew1 HB.out)
  clear HO_10 BK186 BK187 HB
  obtain ⟨HO_10, BK186, BK187, HB⟩ := z_
  have p202 : 0 ≤ (x11_3 : Int) := of_decide_eq_true tq_3
  have q202 : x11_3 < (t199.length : Int) := of_decide_eq_true tq_3
  obtain ⟨ad202, e202, hx202_0⟩ := Kd.at_int (Kd.R_reads' HO_10.out).2.2 x11_3 p202 q202
  cases e202
  replace p202 := eq_true p202
  replace q202 := eq_true q202
  refine start_ (n := 7) (S := fun w' => w'.cell? ⟨gb187, 0, none⟩ = some (.int .i64 a1_0) ∧ w'.cell? ⟨gb187, 1, none⟩ = some (.slice A1_1 l1_1.length c1_1) ∧ w'.cell? ⟨gb187, 2, none⟩ = some (.slice A1_2 l1_2.length c1_2) ∧ w'.cell? (ad202.add (x11_3).toNat) = some (.int .i64 (rd t199 x11_3))) (ds := []) #[false, false, false, false, false, false, false] (by kernel_rfl) rfl rfl (bc3_ BK187.out (hx202_0)) (fun hHeld => ?_)
  generalize wr.drew = w113 at HO_10 BK186 BK187 HB hx202_0 hHeld ⊢
  refine yq_ (i := 1) (N := some 118) #[false, true, false, false, false, false, false] (by kernel_rfl) ?_
  refine yq_ (i := 2) (N := some 119) #[false, true, true, false, false, false, false] (by kernel_rfl) ?_
  refine yq_ (i := 3) (N := some 120) #[false, true, true, true, false, false, false] (by kernel_rfl) ?_
  refine take_ (i := 0) (N := some 117) (v := ?_) (a' := ?_) #[true, true, true, true, false, false, false] rfl rfl (by kernel_rfl) (fun _ _ _ h => h) (Or.inl ⟨(by rfl), ?_⟩) hHeld ?_ ?_
  rotate_left
  ·rintro w' ⟨s0, s1, s2, s3⟩
   go_simp
   with_reducible rfl
  rotate_left
  ·simp only [Act.put, List.setIfInBounds_toArray, List.set_cons_zero, List.set_cons_succ, i64_w, i32_w]
   rfl
  refine take_ (i := 4) (N := some 121) (v := ?_) (a' := ?_) #[true, true, true, true, true, false, false] rfl rfl (by kernel_rfl) (fun _ _ _ h => h) (Or.inl ⟨(by rfl), ?_⟩) hHeld ?_ ?_
  rotate_left
  ·rintro w' ⟨s0, s1, s2, s3⟩
   go_simp
   with_reducible rfl
  rotate_left
  ·simp only [Act.put, List.setIfInBounds_toArray, List.set_cons_zero, List.set_cons_succ, i64_w, i32_w]
   rfl
  refine one_ (i := 5) (N := some 122) #[true, true, true, true, true, true, false] rfl rfl (by kernel_rfl) (by decide) (fun K hK => ?_)
  refine goes_ Try.func36 (by kernel_rfl) rfl #[.agg #[.int .i64 a1_0, .slice A1_1 l1_1.length c1_1, .slice A1_2 l1_2.length c1_2], .int .i64 (rd t199 x11_3)] (by rfl) rfl rfl tq_1 ?_
  with_reducible refine (spec_UsersOf.calls k3 a1_0 _ _ l1_1 _ _ l1_2 (rd t199 x11_3) t203 _ ?side1 ?side2 ?side3 ?side4 A110.out).mono ?_
  (case side1 => exact tq_21)
  (case side2 => exact HC1_1.out)
  (case side3 => exact tq_30)
  (case side4 => exact HC1_2.out)
  rintro e w114 ⟨rfl, hb⟩
  have HS3_ := (hb.cell (World.block_lt_of_cell? _ _ (hHeld.2.2.2))).trans (hHeld.2.2.2)
  refine ⟨_, rfl, ?_⟩
  have z_ := p_ (Kd.R_below tq_150 hb) <| p_ (blk_below tq_11 hb) <| p_ (blk_below tq_12 hb) <| a_ (below_step tq_5 hb)
  clear HO_10 BK186 BK187 HB
  obtain ⟨HO_10, BK186, BK187, HB⟩ := z_
  (try clear hb)
  (try clear hb2)
  (try clear hk)
  (try clear hi)
  refine hK.out _ _ (bc3_ BK187.out (HS3_)) (fun hHeld => ?_)
  clear hK K
  refine nm_ (some 122) ?_
  refine yq_ (i := 6) (N := some 123) #[true, true, true, true, true, true, true] (by kernel_rfl) ?_
  refine done_ (by kernel_rfl) ?_
  try go_wp2
  go_roundg k3
  case measure => have := HJ2.out; have := HK2.out; have := HK3.out; omega
  case rel => exact ⟨(wrap64 (x11_3 + 1)), tq_4, H', ⟨(by have := HJ2.out; have := HK2.out; have := HK3.out; omega)⟩, ⟨tq_150⟩, ⟨tq_11⟩, ⟨tq_12⟩, ⟨tq_5⟩⟩
 rw [if_pos c45] at H
 have c45b0 := decide_eq_true c45
 clear c45
 by_cases c46 : 0 ≤ x6_2
 rotate_left
 ·rw [if_neg c46] at H
  exact absurd H (by simp)
 rw [if_pos c46] at H
 have c46b0 := decide_eq_true c46
 clear c46
 replace H := Option.bind_eq_some_iff.mp H
 obtain ⟨t195, A470, H⟩ := H
 replace H : (if t195 = true then (if x6_2 = 0 then (spec_PartOk.j2 k2 x5_2 x6_2 1 true a0_0 a0_1 a0_2 a0_3 a1_0 l1_1 l1_2 ((rd_T64 l1_2 x6_2).f0) ((rd_T64 l1_2 x6_2).f1) ((rd_T64 l1_2 x6_2).f2) ((rd_T64 l1_2 x6_2).f3) ((rd_T64 l1_2 x6_2).f4) ((rd_T64 l1_2 x6_2).f5)) else (spec_PartOk.j2 k2 x5_2 x6_2 1 (((rd_T64 l1_2 x6_2).f0) == 0) a0_0 a0_1 a0_2 a0_3 a1_0 l1_1 l1_2 ((rd_T64 l1_2 x6_2).f0) ((rd_T64 l1_2 x6_2).f1) ((rd_T64 l1_2 x6_2).f2) ((rd_T64 l1_2 x6_2).f3) ((rd_T64 l1_2 x6_2).f4) ((rd_T64 l1_2 x6_2).f5))) else (some false)) = some r := H
 have A47 := Aside0.mk A470
 clear A470
 by_cases c48 : t195 = true
 rotate_left
 ·replace c48 := Bool.eq_false_iff.mpr c48
  subst c48
  have H1 : (some false) = some r := by rw [if_neg (show ¬ (false = true) by decide)] at H; exact H
  clear H
  have H := H1
  clear H1
  obtain rfl := Option.some.inj H
  have hnb97 := NB187_186.out
  have hnc97 := NB186_187.out
  obtain ⟨hcz98_0, hcz98_1, hcz98_2⟩ := bk3_ BK187.out
  obtain ⟨hfz98_0, hfz98_1, hfz98_2⟩ := bf3_ BK187.out
  have p193 : 0 ≤ (x6_2 : Int) := of_decide_eq_true tq_3
  have q193 : x6_2 < (l1_2.length : Int) := of_decide_eq_true tq_3
  obtain ⟨ad193, A193_4, c193_4, A193_5, c193_5, e193, hx193_0, hx193_1, hx193_2, hx193_3, hx193_4, hx193_5, hl193_4, hi193_4, hl193_5, hi193_5⟩ := at_T64 HR1_2.out x6_2 p193 q193
  cases e193
  replace hx193_0 := hx_ HB.out hx193_0
  replace hx193_1 := hx_ HB.out hx193_1
  replace hx193_2 := hx_ HB.out hx193_2
  replace hx193_3 := hx_ HB.out hx193_3
  replace hx193_4 := hx_ HB.out hx193_4
  replace hx193_5 := hx_ HB.out hx193_5
  have HR193_4 := Aside0.mk hi193_4
  have HC193_4 := Aside0.mk hl193_4
  clear hi193_4 hl193_4
  have HR193_5 := Aside0.mk hi193_5
  have HC193_5 := Aside0.mk hl193_5
  clear hi193_5 hl193_5
  replace p193 := eq_true p193
  replace q193 := eq_true q193
  go_wp2_with (first | ((with_reducible refine gate_dst (N := 7) rfl ?_); (try (refine gate_guard (by rfl) ?_; dsimp only)); refine box_event ?hg (N := 7) ?hd (cs := #[.int .i64 0, .int .i64 0, .int .i64 0, .string (⟨#[]⟩ : ByteArray), .slice none 0 0, .slice none 0 0]) (t := 64) ?hr ?_; (case hd => rfl); (case hg => rfl); (case hr => first | (go_simp; done) | (go_simp; rfl)); intro gb194 hg w99 hbox hb; have z_ := p_ (blk_below tq_11 hb) <| p_ (blk_below tq_12 hb) <| p_ (below_step tq_5 hb) <| p_ (hbox) <| p_ (gb_ hg tq_5) <| p_ (gb_ hg tq_5) <| p_ (ltne_ hg (blk_lt tq_11)) <| p_ (gtne_ hg (blk_lt tq_11)) <| p_ (ltne_ hg (blk_lt tq_12)) <| a_ (gtne_ hg (blk_lt tq_12)); clear BK186 BK187 HB; obtain ⟨BK186, BK187, HB, BK194, GW194, GE194, NB186_194, NB194_186, NB187_194, NB194_187⟩ := z_; clear hb hbox hg; have hnb100 := NB194_186.out; have hnc100 := NB186_194.out; have hnb101 := NB194_187.out; have hnc101 := NB187_194.out; obtain ⟨hcz102_0, hcz102_1, hcz102_2, hcz102_3, hcz102_4, hcz102_5⟩ := bk6_ BK194.out; obtain ⟨hfz102_0, hfz102_1, hfz102_2, hfz102_3, hfz102_4, hfz102_5⟩ := bf6_ BK194.out) | ((with_reducible refine gate_callee (f := 33) rfl ?_); refine goesL_ (some 63) rfl rfl Try.func33 (by kernel_rfl) rfl #[.agg #[.int .i64 ((rd_T64 l1_2 x6_2).f0), .int .i64 ((rd_T64 l1_2 x6_2).f1), .int .i64 ((rd_T64 l1_2 x6_2).f2), .string ((rd_T64 l1_2 x6_2).f3), .slice A193_4 ((rd_T64 l1_2 x6_2).f4).length c193_4, .slice A193_5 ((rd_T64 l1_2 x6_2).f5).length c193_5]] rfl tq_1 ?_; (with_reducible refine (spec_InodeOk.calls k2 ((rd_T64 l1_2 x6_2).f0) ((rd_T64 l1_2 x6_2).f1) ((rd_T64 l1_2 x6_2).f2) ((rd_T64 l1_2 x6_2).f3) _ _ ((rd_T64 l1_2 x6_2).f4) _ _ ((rd_T64 l1_2 x6_2).f5) false _ ?side1 ?side2 ?side3 ?side4 A47.out).mono ?_); (case side1 => exact Kd.C_below HR193_4.out tq_10); (case side2 => exact HC193_4.out); (case side3 => exact Kd.C_below HR193_5.out tq_10); (case side4 => exact HC193_5.out); rintro e w103 ⟨rfl, hb⟩; refine ⟨_, rfl, ?_⟩; have z_ := p_ (blk_below (g := gb186) (o := .cells #[.int .i64 a0_0, .int .i64 a0_1, .int .i64 a0_2, .int .i64 a0_3] 30 (0, 0)) tq_71 hb) <| p_ (blk_below (g := gb187) (o := .cells #[.int .i64 a1_0, .slice A1_1 l1_1.length c1_1, .slice (some ad193) l1_2.length c1_2] 34 (0, 0)) tq_70 hb) <| p_ (blk_below (g := gb194) (o := .cells #[.int .i64 ((rd_T64 l1_2 x6_2).f0), .int .i64 ((rd_T64 l1_2 x6_2).f1), .int .i64 ((rd_T64 l1_2 x6_2).f2), .string ((rd_T64 l1_2 x6_2).f3), .slice A193_4 ((rd_T64 l1_2 x6_2).f4).length c193_4, .slice A193_5 ((rd_T64 l1_2 x6_2).f5).length c193_5] 64 (0, 0)) tq_40 hb) <| a_ (below_step tq_10 hb); clear BK186 BK187 BK194 HB; obtain ⟨BK186, BK187, BK194, HB⟩ := z_; (try clear hb); (try clear hb2); (try clear hk); (try clear hi)))
  go_ret
  exact ⟨tq_2, tq_10⟩
 subst c48
 have H1 : (if x6_2 = 0 then (spec_PartOk.j2 k2 x5_2 x6_2 1 true a0_0 a0_1 a0_2 a0_3 a1_0 l1_1 l1_2 ((rd_T64 l1_2 x6_2).f0) ((rd_T64 l1_2 x6_2).f1) ((rd_T64 l1_2 x6_2).f2) ((rd_T64 l1_2 x6_2).f3) ((rd_T64 l1_2 x6_2).f4) ((rd_T64 l1_2 x6_2).f5)) else (spec_PartOk.j2 k2 x5_2 x6_2 1 (((rd_T64 l1_2 x6_2).f0) == 0) a0_0 a0_1 a0_2 a0_3 a1_0 l1_1 l1_2 ((rd_T64 l1_2 x6_2).f0) ((rd_T64 l1_2 x6_2).f1) ((rd_T64 l1_2 x6_2).f2) ((rd_T64 l1_2 x6_2).f3) ((rd_T64 l1_2 x6_2).f4) ((rd_T64 l1_2 x6_2).f5))) = some r := by rw [if_pos rfl] at H; exact H
 clear H
 have H := H1
 clear H1
 have HC49 := Aside0.mk H
 clear H
 have hnb50 := NB187_186.out
 have hnc50 := NB186_187.out
 obtain ⟨hcz51_0, hcz51_1, hcz51_2⟩ := bk3_ BK187.out
 obtain ⟨hfz51_0, hfz51_1, hfz51_2⟩ := bf3_ BK187.out
 have p193 : 0 ≤ (x6_2 : Int) := of_decide_eq_true tq_3
 have q193 : x6_2 < (l1_2.length : Int) := of_decide_eq_true tq_3
 obtain ⟨ad193, A193_4, c193_4, A193_5, c193_5, e193, hx193_0, hx193_1, hx193_2, hx193_3, hx193_4, hx193_5, hl193_4, hi193_4, hl193_5, hi193_5⟩ := at_T64 HR1_2.out x6_2 p193 q193
 cases e193
 replace hx193_0 := hx_ HB.out hx193_0
 replace hx193_1 := hx_ HB.out hx193_1
 replace hx193_2 := hx_ HB.out hx193_2
 replace hx193_3 := hx_ HB.out hx193_3
 replace hx193_4 := hx_ HB.out hx193_4
 replace hx193_5 := hx_ HB.out hx193_5
 have HR193_4 := Aside0.mk hi193_4
 have HC193_4 := Aside0.mk hl193_4
 clear hi193_4 hl193_4
 have HR193_5 := Aside0.mk hi193_5
 have HC193_5 := Aside0.mk hl193_5
 clear hi193_5 hl193_5
 replace p193 := eq_true p193
 replace q193 := eq_true q193
 go_upto_region 11 with (first | ((with_reducible refine gate_dst (N := 7) rfl ?_); (try (refine gate_guard (by rfl) ?_; dsimp only)); refine box_event ?hg (N := 7) ?hd (cs := #[.int .i64 0, .int .i64 0, .int .i64 0, .string (⟨#[]⟩ : ByteArray), .slice none 0 0, .slice none 0 0]) (t := 64) ?hr ?_; (case hd => rfl); (case hg => rfl); (case hr => first | (go_simp; done) | (go_simp; rfl)); intro gb194 hg w52 hbox hb; have z_ := p_ (blk_below tq_11 hb) <| p_ (blk_below tq_12 hb) <| p_ (below_step tq_5 hb) <| p_ (hbox) <| p_ (gb_ hg tq_5) <| p_ (gb_ hg tq_5) <| p_ (ltne_ hg (blk_lt tq_11)) <| p_ (gtne_ hg (blk_lt tq_11)) <| p_ (ltne_ hg (blk_lt tq_12)) <| a_ (gtne_ hg (blk_lt tq_12)); clear BK186 BK187 HB; obtain ⟨BK186, BK187, HB, BK194, GW194, GE194, NB186_194, NB194_186, NB187_194, NB194_187⟩ := z_; clear hb hbox hg; have hnb53 := NB194_186.out; have hnc53 := NB186_194.out; have hnb54 := NB194_187.out; have hnc54 := NB187_194.out; obtain ⟨hcz55_0, hcz55_1, hcz55_2, hcz55_3, hcz55_4, hcz55_5⟩ := bk6_ BK194.out; obtain ⟨hfz55_0, hfz55_1, hfz55_2, hfz55_3, hfz55_4, hfz55_5⟩ := bf6_ BK194.out) | ((with_reducible refine gate_callee (f := 33) rfl ?_); refine goesL_ (some 63) rfl rfl Try.func33 (by kernel_rfl) rfl #[.agg #[.int .i64 ((rd_T64 l1_2 x6_2).f0), .int .i64 ((rd_T64 l1_2 x6_2).f1), .int .i64 ((rd_T64 l1_2 x6_2).f2), .string ((rd_T64 l1_2 x6_2).f3), .slice A193_4 ((rd_T64 l1_2 x6_2).f4).length c193_4, .slice A193_5 ((rd_T64 l1_2 x6_2).f5).length c193_5]] rfl tq_1 ?_; (with_reducible refine (spec_InodeOk.calls k2 ((rd_T64 l1_2 x6_2).f0) ((rd_T64 l1_2 x6_2).f1) ((rd_T64 l1_2 x6_2).f2) ((rd_T64 l1_2 x6_2).f3) _ _ ((rd_T64 l1_2 x6_2).f4) _ _ ((rd_T64 l1_2 x6_2).f5) true _ ?side1 ?side2 ?side3 ?side4 A47.out).mono ?_); (case side1 => exact Kd.C_below HR193_4.out tq_10); (case side2 => exact HC193_4.out); (case side3 => exact Kd.C_below HR193_5.out tq_10); (case side4 => exact HC193_5.out); rintro e w56 ⟨rfl, hb⟩; refine ⟨_, rfl, ?_⟩; have z_ := p_ (blk_below (g := gb186) (o := .cells #[.int .i64 a0_0, .int .i64 a0_1, .int .i64 a0_2, .int .i64 a0_3] 30 (0, 0)) tq_71 hb) <| p_ (blk_below (g := gb187) (o := .cells #[.int .i64 a1_0, .slice A1_1 l1_1.length c1_1, .slice (some ad193) l1_2.length c1_2] 34 (0, 0)) tq_70 hb) <| p_ (blk_below (g := gb194) (o := .cells #[.int .i64 ((rd_T64 l1_2 x6_2).f0), .int .i64 ((rd_T64 l1_2 x6_2).f1), .int .i64 ((rd_T64 l1_2 x6_2).f2), .string ((rd_T64 l1_2 x6_2).f3), .slice A193_4 ((rd_T64 l1_2 x6_2).f4).length c193_4, .slice A193_5 ((rd_T64 l1_2 x6_2).f5).length c193_5] 64 (0, 0)) tq_40 hb) <| a_ (below_step tq_10 hb); clear BK186 BK187 BK194 HB; obtain ⟨BK186, BK187, BK194, HB⟩ := z_; (try clear hb); (try clear hb2); (try clear hk); (try clear hi)))
 (try simp only [Act.put, List.setIfInBounds_toArray, List.set_cons_zero, List.set_cons_succ])
 go_cut [71] (fun v71 wc => ∃ (kq : Nat) (x71_48 : Bool), v71 = .bool x71_48 ∧ Aside0 (spec_PartOk.j2 kq x5_2 x6_2 1 x71_48 a0_0 a0_1 a0_2 a0_3 a1_0 l1_1 l1_2 ((rd_T64 l1_2 x6_2).f0) ((rd_T64 l1_2 x6_2).f1) ((rd_T64 l1_2 x6_2).f2) ((rd_T64 l1_2 x6_2).f3) ((rd_T64 l1_2 x6_2).f4) ((rd_T64 l1_2 x6_2).f5) = some r) ∧ Aside0 (kq ≤ k2) ∧ Aside0 (wc.heap[gb186]? = some (.cells #[.int .i64 a0_0, .int .i64 a0_1, .int .i64 a0_2, .int .i64 a0_3] 30 (0, 0))) ∧ Aside0 (wc.heap[gb187]? = some (.cells #[.int .i64 a1_0, (.slice A1_1 l1_1.length c1_1), (.slice (some ad193) l1_2.length c1_2)] 34 (0, 0))) ∧ Aside0 (wc.heap[gb194]? = some (.cells #[.int .i64 ((rd_T64 l1_2 x6_2).f0), .int .i64 ((rd_T64 l1_2 x6_2).f1), .int .i64 ((rd_T64 l1_2 x6_2).f2), .string ((rd_T64 l1_2 x6_2).f3), (.slice A193_4 ((rd_T64 l1_2 x6_2).f4).length c193_4), (.slice A193_5 ((rd_T64 l1_2 x6_2).f5).length c193_5)] 64 (0, 0))) ∧ Aside0 (Below w.heap.size w wc))
 case first =>
  have H := HC49.out
  clear HC49
  by_cases c57 : x6_2 = 0
  ·rw [if_pos c57] at H
   have c57b0 := beq_iff_eq.mpr c57
   have c57b1 := bne_eq_false_iff_eq.mpr c57
   clear c57
   (first | rw [c57b0] | (simp only [i64_w, i32_w]; rw [c57b0]) | skip)
   have H' := Aside0.mk H
   clear H
   go_wp2
   go_meet
   case rel => exact ⟨_, (true), tq_4, H', ⟨tq_153⟩, ⟨tq_11⟩, ⟨tq_12⟩, ⟨tq_51⟩, ⟨tq_10⟩⟩
  rw [if_neg c57] at H
  have c57b0 := beq_eq_false_iff_ne.mpr c57
  have c57b1 := bne_iff_ne.mpr c57
  (first | rw [c57b0] | (simp only [i64_w, i32_w]; rw [c57b0]) | skip)
  have H' := Aside0.mk H
  clear H
  have hnb58 := NB194_186.out
  have hnc58 := NB186_194.out
  have hnb59 := NB194_187.out
  have hnc59 := NB187_194.out
  obtain ⟨hcz60_0, hcz60_1, hcz60_2, hcz60_3, hcz60_4, hcz60_5⟩ := bk6_ BK194.out
  obtain ⟨hfz60_0, hfz60_1, hfz60_2, hfz60_3, hfz60_4, hfz60_5⟩ := bf6_ BK194.out
  go_wp2
  go_meet
  case rel => exact ⟨_, ((((rd_T64 l1_2 x6_2).f0) == 0)), tq_4, H', ⟨tq_153⟩, ⟨tq_11⟩, ⟨tq_12⟩, ⟨tq_51⟩, ⟨tq_10⟩⟩
 case rest =>
 clear HC49
 try clear c1; try clear p1; try clear q1; try clear hx1; try clear qi1; try clear c2; try clear p2; try clear c3; try clear c4; try clear c5; try clear c7; try clear c9; try clear c11; try clear c12; try clear c12b0; try clear c12b1; try clear c13; try clear c13b0; try clear c13b1; try clear c14; try clear c14b0; try clear c14b1; try clear c16; try clear c19; try clear p19; try clear q19; try clear hx19; try clear qi19; try clear c22; try clear c27; try clear c29; try clear c32; try clear c33; try clear c37; try clear c41; try clear c44; try clear c45; try clear c45b0; try clear c46; try clear c46b0; try clear c48; try clear c50; try clear c53; try clear c54; try clear c57; try clear c57b0; try clear c57b1; try clear c58; try clear c59; try clear hcz17_0 hcz17_1 hcz17_2 hcz17_3; try clear hcz19_0 hcz19_1 hcz19_2; try clear hcz20_0 hcz20_1 hcz20_2 hcz20_3; try clear hcz23_0 hcz23_1 hcz23_2 hcz23_3; try clear hcz25_0 hcz25_1 hcz25_2; try clear hcz26_0 hcz26_1 hcz26_2 hcz26_3; try clear hcz28_0 hcz28_1 hcz28_2 hcz28_3; try clear hcz30_0 hcz30_1 hcz30_2; try clear hcz31_0 hcz31_1 hcz31_2 hcz31_3; try clear hcz33_0 hcz33_1 hcz33_2 hcz33_3; try clear hcz35_0 hcz35_1 hcz35_2; try clear hcz36_0 hcz36_1 hcz36_2 hcz36_3; try clear hcz38_0 hcz38_1 hcz38_2 hcz38_3; try clear hcz40_0 hcz40_1 hcz40_2; try clear hcz42_0 hcz42_1 hcz42_2 hcz42_3; try clear hcz51_0 hcz51_1 hcz51_2; try clear hcz55_0 hcz55_1 hcz55_2 hcz55_3 hcz55_4 hcz55_5; try clear hcz60_0 hcz60_1 hcz60_2 hcz60_3 hcz60_4 hcz60_5; try clear hfz17_0 hfz17_1 hfz17_2 hfz17_3; try clear hfz19_0 hfz19_1 hfz19_2; try clear hfz20_0 hfz20_1 hfz20_2 hfz20_3; try clear hfz23_0 hfz23_1 hfz23_2 hfz23_3; try clear hfz25_0 hfz25_1 hfz25_2; try clear hfz26_0 hfz26_1 hfz26_2 hfz26_3; try clear hfz28_0 hfz28_1 hfz28_2 hfz28_3; try clear hfz30_0 hfz30_1 hfz30_2; try clear hfz31_0 hfz31_1 hfz31_2 hfz31_3; try clear hfz33_0 hfz33_1 hfz33_2 hfz33_3; try clear hfz35_0 hfz35_1 hfz35_2; try clear hfz36_0 hfz36_1 hfz36_2 hfz36_3; try clear hfz38_0 hfz38_1 hfz38_2 hfz38_3; try clear hfz40_0 hfz40_1 hfz40_2; try clear hfz42_0 hfz42_1 hfz42_2 hfz42_3; try clear hfz51_0 hfz51_1 hfz51_2; try clear hfz55_0 hfz55_1 hfz55_2 hfz55_3 hfz55_4 hfz55_5; try clear hfz60_0 hfz60_1 hfz60_2 hfz60_3 hfz60_4 hfz60_5; try clear hx191_0; try clear hx191_1; try clear hx191_2; try clear hx191_3; try clear hx191_4; try clear hx191_5; try clear hx193_0; try clear hx193_1; try clear hx193_2; try clear hx193_3; try clear hx193_4; try clear hx193_5; try clear p1; try clear p19; try clear p191; try clear p193; try clear p2; try clear q1; try clear q19; try clear q191; try clear q193
 obtain ⟨kq, x71_48, rfl, HA, HJ48, BK186, BK187, BK194, HB⟩ := hcut
 cases kq with
 | zero => exact absurd HA.out (by simp [spec_PartOk.j2])
 | succ kj48 =>
 have H := HA.out
 clear HA
 simp only [spec_PartOk.j2] at H
 have HC61 := Aside0.mk H
 clear H
 go_upto_if 71 with (fail)
 go_cut [8] (fun v8 wc => ∃ (kq : Nat) (x8_60 : Int), v8 = .int .i64 x8_60 ∧ Aside0 (spec_PartOk.j3 kq x5_2 x6_2 x8_60 a0_0 a0_1 a0_2 a0_3 a1_0 l1_1 l1_2 ((rd_T64 l1_2 x6_2).f0) ((rd_T64 l1_2 x6_2).f1) ((rd_T64 l1_2 x6_2).f2) ((rd_T64 l1_2 x6_2).f3) ((rd_T64 l1_2 x6_2).f4) ((rd_T64 l1_2 x6_2).f5) = some r) ∧ Aside0 (kq ≤ kj48) ∧ Aside0 (wc.heap[gb186]? = some (.cells #[.int .i64 a0_0, .int .i64 a0_1, .int .i64 a0_2, .int .i64 a0_3] 30 (0, 0))) ∧ Aside0 (wc.heap[gb187]? = some (.cells #[.int .i64 a1_0, (.slice A1_1 l1_1.length c1_1), (.slice (some ad193) l1_2.length c1_2)] 34 (0, 0))) ∧ Aside0 (wc.heap[gb194]? = some (.cells #[.int .i64 ((rd_T64 l1_2 x6_2).f0), .int .i64 ((rd_T64 l1_2 x6_2).f1), .int .i64 ((rd_T64 l1_2 x6_2).f2), .string ((rd_T64 l1_2 x6_2).f3), (.slice A193_4 ((rd_T64 l1_2 x6_2).f4).length c193_4), (.slice A193_5 ((rd_T64 l1_2 x6_2).f5).length c193_5)] 64 (0, 0))) ∧ Aside0 (Below w.heap.size w wc))
 case first =>
  have H := HC61.out
  clear HC61
  by_cases c62 : x71_48 = true
  ·subst c62
   have H1 : (spec_PartOk.j3 kj48 x5_2 x6_2 0 a0_0 a0_1 a0_2 a0_3 a1_0 l1_1 l1_2 ((rd_T64 l1_2 x6_2).f0) ((rd_T64 l1_2 x6_2).f1) ((rd_T64 l1_2 x6_2).f2) ((rd_T64 l1_2 x6_2).f3) ((rd_T64 l1_2 x6_2).f4) ((rd_T64 l1_2 x6_2).f5)) = some r := by rw [if_pos rfl] at H; exact H
   clear H
   have H := H1
   clear H1
   have H' := Aside0.mk H
   clear H
   go_wp2
   go_meet
   case rel => exact ⟨_, (0), tq_4, H', ⟨(by have := HJ2.out; have := HK2.out; have := HJ48.out; first | omega | exact Nat.le_refl _)⟩, ⟨tq_11⟩, ⟨tq_12⟩, ⟨tq_51⟩, ⟨tq_10⟩⟩
  replace c62 := Bool.eq_false_iff.mpr c62
  subst c62
  have H1 : (spec_PartOk.j3 kj48 x5_2 x6_2 1 a0_0 a0_1 a0_2 a0_3 a1_0 l1_1 l1_2 ((rd_T64 l1_2 x6_2).f0) ((rd_T64 l1_2 x6_2).f1) ((rd_T64 l1_2 x6_2).f2) ((rd_T64 l1_2 x6_2).f3) ((rd_T64 l1_2 x6_2).f4) ((rd_T64 l1_2 x6_2).f5)) = some r := by rw [if_neg (show ¬ (false = true) by decide)] at H; exact H
  clear H
  have H := H1
  clear H1
  have H' := Aside0.mk H
  clear H
  go_wp2
  go_meet
  case rel => exact ⟨_, (1), tq_4, H', ⟨(by have := HJ2.out; have := HK2.out; have := HJ48.out; first | omega | exact Nat.le_refl _)⟩, ⟨tq_11⟩, ⟨tq_12⟩, ⟨tq_51⟩, ⟨tq_10⟩⟩
 case rest =>
 clear HC61
 try clear c1; try clear p1; try clear q1; try clear hx1; try clear qi1; try clear c2; try clear p2; try clear c3; try clear c4; try clear c5; try clear c6; try clear c7; try clear c9; try clear c11; try clear c12; try clear c12b0; try clear c12b1; try clear c13; try clear c13b0; try clear c13b1; try clear c14; try clear c14b0; try clear c14b1; try clear c16; try clear c19; try clear p19; try clear q19; try clear hx19; try clear qi19; try clear c22; try clear c27; try clear c29; try clear c32; try clear c33; try clear c37; try clear c41; try clear c44; try clear c45; try clear c45b0; try clear c46; try clear c46b0; try clear c48; try clear c50; try clear c53; try clear c54; try clear c57; try clear c57b0; try clear c57b1; try clear c58; try clear c59; try clear c62; try clear hcz17_0 hcz17_1 hcz17_2 hcz17_3; try clear hcz19_0 hcz19_1 hcz19_2; try clear hcz20_0 hcz20_1 hcz20_2 hcz20_3; try clear hcz23_0 hcz23_1 hcz23_2 hcz23_3; try clear hcz25_0 hcz25_1 hcz25_2; try clear hcz26_0 hcz26_1 hcz26_2 hcz26_3; try clear hcz28_0 hcz28_1 hcz28_2 hcz28_3; try clear hcz30_0 hcz30_1 hcz30_2; try clear hcz31_0 hcz31_1 hcz31_2 hcz31_3; try clear hcz33_0 hcz33_1 hcz33_2 hcz33_3; try clear hcz35_0 hcz35_1 hcz35_2; try clear hcz36_0 hcz36_1 hcz36_2 hcz36_3; try clear hcz38_0 hcz38_1 hcz38_2 hcz38_3; try clear hcz40_0 hcz40_1 hcz40_2; try clear hcz42_0 hcz42_1 hcz42_2 hcz42_3; try clear hcz51_0 hcz51_1 hcz51_2; try clear hcz55_0 hcz55_1 hcz55_2 hcz55_3 hcz55_4 hcz55_5; try clear hcz60_0 hcz60_1 hcz60_2 hcz60_3 hcz60_4 hcz60_5; try clear hfz17_0 hfz17_1 hfz17_2 hfz17_3; try clear hfz19_0 hfz19_1 hfz19_2; try clear hfz20_0 hfz20_1 hfz20_2 hfz20_3; try clear hfz23_0 hfz23_1 hfz23_2 hfz23_3; try clear hfz25_0 hfz25_1 hfz25_2; try clear hfz26_0 hfz26_1 hfz26_2 hfz26_3; try clear hfz28_0 hfz28_1 hfz28_2 hfz28_3; try clear hfz30_0 hfz30_1 hfz30_2; try clear hfz31_0 hfz31_1 hfz31_2 hfz31_3; try clear hfz33_0 hfz33_1 hfz33_2 hfz33_3; try clear hfz35_0 hfz35_1 hfz35_2; try clear hfz36_0 hfz36_1 hfz36_2 hfz36_3; try clear hfz38_0 hfz38_1 hfz38_2 hfz38_3; try clear hfz40_0 hfz40_1 hfz40_2; try clear hfz42_0 hfz42_1 hfz42_2 hfz42_3; try clear hfz51_0 hfz51_1 hfz51_2; try clear hfz55_0 hfz55_1 hfz55_2 hfz55_3 hfz55_4 hfz55_5; try clear hfz60_0 hfz60_1 hfz60_2 hfz60_3 hfz60_4 hfz60_5; try clear hx191_0; try clear hx191_1; try clear hx191_2; try clear hx191_3; try clear hx191_4; try clear hx191_5; try clear hx193_0; try clear hx193_1; try clear hx193_2; try clear hx193_3; try clear hx193_4; try clear hx193_5; try clear p1; try clear p19; try clear p191; try clear p193; try clear p2; try clear q1; try clear q19; try clear q191; try clear q193
 obtain ⟨kq, x8_60, rfl, HA, HJ60, BK186, BK187, BK194, HB⟩ := hcut
 cases kq with
 | zero => exact absurd HA.out (by simp [spec_PartOk.j3])
 | succ kj60 =>
 have H := HA.out
 clear HA
 simp only [spec_PartOk.j3] at H
 have HC63 := Aside0.mk H
 clear H
 go_upto_region 13 with (fail)
 go_cut [86] (fun v86 wc => ∃ (kq : Nat) (x86_62 : Bool), v86 = .bool x86_62 ∧ Aside0 (spec_PartOk.j4 kq x5_2 x6_2 x86_62 a0_0 a0_1 a0_2 a0_3 a1_0 l1_1 l1_2 ((rd_T64 l1_2 x6_2).f0) ((rd_T64 l1_2 x6_2).f1) ((rd_T64 l1_2 x6_2).f2) ((rd_T64 l1_2 x6_2).f3) ((rd_T64 l1_2 x6_2).f4) ((rd_T64 l1_2 x6_2).f5) = some r) ∧ Aside0 (kq ≤ kj60) ∧ Aside0 (wc.heap[gb186]? = some (.cells #[.int .i64 a0_0, .int .i64 a0_1, .int .i64 a0_2, .int .i64 a0_3] 30 (0, 0))) ∧ Aside0 (wc.heap[gb187]? = some (.cells #[.int .i64 a1_0, (.slice A1_1 l1_1.length c1_1), (.slice (some ad193) l1_2.length c1_2)] 34 (0, 0))) ∧ Aside0 (wc.heap[gb194]? = some (.cells #[.int .i64 ((rd_T64 l1_2 x6_2).f0), .int .i64 ((rd_T64 l1_2 x6_2).f1), .int .i64 ((rd_T64 l1_2 x6_2).f2), .string ((rd_T64 l1_2 x6_2).f3), (.slice A193_4 ((rd_T64 l1_2 x6_2).f4).length c193_4), (.slice A193_5 ((rd_T64 l1_2 x6_2).f5).length c193_5)] 64 (0, 0))) ∧ Aside0 (Below w.heap.size w wc))
 case first =>
  have H := HC63.out
  clear HC63
  replace H := Option.bind_eq_some_iff.mp H
  obtain ⟨t196, A640, H⟩ := H
  replace H : (if t196 = x8_60 then (if x8_60 = 1 then ((spec_DepthOf.f kj60 a1_0 l1_1 l1_2 x6_2).bind fun t197 => (spec_PartOk.j4 kj60 x5_2 x6_2 (decide (t197 < 0)) a0_0 a0_1 a0_2 a0_3 a1_0 l1_1 l1_2 ((rd_T64 l1_2 x6_2).f0) ((rd_T64 l1_2 x6_2).f1) ((rd_T64 l1_2 x6_2).f2) ((rd_T64 l1_2 x6_2).f3) ((rd_T64 l1_2 x6_2).f4) ((rd_T64 l1_2 x6_2).f5))) else (spec_PartOk.j4 kj60 x5_2 x6_2 false a0_0 a0_1 a0_2 a0_3 a1_0 l1_1 l1_2 ((rd_T64 l1_2 x6_2).f0) ((rd_T64 l1_2 x6_2).f1) ((rd_T64 l1_2 x6_2).f2) ((rd_T64 l1_2 x6_2).f3) ((rd_T64 l1_2 x6_2).f4) ((rd_T64 l1_2 x6_2).f5))) else (spec_PartOk.j4 kj60 x5_2 x6_2 true a0_0 a0_1 a0_2 a0_3 a1_0 l1_1 l1_2 ((rd_T64 l1_2 x6_2).f0) ((rd_T64 l1_2 x6_2).f1) ((rd_T64 l1_2 x6_2).f2) ((rd_T64 l1_2 x6_2).f3) ((rd_T64 l1_2 x6_2).f4) ((rd_T64 l1_2 x6_2).f5))) = some r := H
  have A64 := Aside0.mk A640
  clear A640
  by_cases c65 : t196 = x8_60
  rotate_left
  ·rw [if_neg c65] at H
   have c65b0 := beq_eq_false_iff_ne.mpr c65
   have c65b1 := bne_iff_ne.mpr c65
   (first | rw [c65b0] | (simp only [i64_w, i32_w]; rw [c65b0]) | skip)
   have H' := Aside0.mk H
   clear H
   have hnb78 := NB187_186.out
   have hnc78 := NB186_187.out
   have hnb79 := NB187_194.out
   have hnc79 := NB194_187.out
   obtain ⟨hcz80_0, hcz80_1, hcz80_2⟩ := bk3_ BK187.out
   obtain ⟨hfz80_0, hfz80_1, hfz80_2⟩ := bf3_ BK187.out
   go_wp2_with (first | ((with_reducible refine gate_callee (f := 32) rfl ?_); refine goesL_ (some 74) rfl rfl Try.func32 (by kernel_rfl) rfl #[.agg #[.int .i64 a1_0, .slice A1_1 l1_1.length c1_1, .slice (some ad193) l1_2.length c1_2], .int .i64 x6_2] rfl tq_1 ?_; (with_reducible refine (spec_LinksTo.calls kj60 a1_0 _ _ l1_1 _ _ l1_2 x6_2 t196 _ ?side1 ?side2 ?side3 ?side4 A64.out).mono ?_); (case side1 => exact tq_21); (case side2 => exact HC1_1.out); (case side3 => exact tq_30); (case side4 => exact HC1_2.out); rintro e w81 ⟨rfl, hb⟩; refine ⟨_, rfl, ?_⟩; have z_ := p_ (blk_below tq_11 hb) <| p_ (blk_below tq_12 hb) <| p_ (blk_below tq_51 hb) <| a_ (below_step tq_10 hb); clear BK186 BK187 BK194 HB; obtain ⟨BK186, BK187, BK194, HB⟩ := z_; (try clear hb); (try clear hb2); (try clear hk); (try clear hi)))
   go_meet
   case rel => exact ⟨_, (true), tq_4, H', ⟨tq_148⟩, ⟨tq_11⟩, ⟨tq_12⟩, ⟨tq_51⟩, ⟨tq_10⟩⟩
  rw [if_pos c65] at H
  have c65b0 := beq_iff_eq.mpr c65
  have c65b1 := bne_eq_false_iff_eq.mpr c65
  clear c65
  (first | rw [c65b0] | (simp only [i64_w, i32_w]; rw [c65b0]) | skip)
  by_cases c66 : x8_60 = 1
  rotate_left
  ·rw [if_neg c66] at H
   have c66b0 := beq_eq_false_iff_ne.mpr c66
   have c66b1 := bne_iff_ne.mpr c66
   have H' := Aside0.mk H
   clear H
   have hnb74 := NB187_186.out
   have hnc74 := NB186_187.out
   have hnb75 := NB187_194.out
   have hnc75 := NB194_187.out
   obtain ⟨hcz76_0, hcz76_1, hcz76_2⟩ := bk3_ BK187.out
   obtain ⟨hfz76_0, hfz76_1, hfz76_2⟩ := bf3_ BK187.out
   go_wp2_with (first | ((with_reducible refine gate_callee (f := 32) rfl ?_); refine goesL_ (some 74) rfl rfl Try.func32 (by kernel_rfl) rfl #[.agg #[.int .i64 a1_0, .slice A1_1 l1_1.length c1_1, .slice (some ad193) l1_2.length c1_2], .int .i64 x6_2] rfl tq_1 ?_; (with_reducible refine (spec_LinksTo.calls kj60 a1_0 _ _ l1_1 _ _ l1_2 x6_2 t196 _ ?side1 ?side2 ?side3 ?side4 A64.out).mono ?_); (case side1 => exact tq_21); (case side2 => exact HC1_1.out); (case side3 => exact tq_30); (case side4 => exact HC1_2.out); rintro e w77 ⟨rfl, hb⟩; refine ⟨_, rfl, ?_⟩; have z_ := p_ (blk_below tq_11 hb) <| p_ (blk_below tq_12 hb) <| p_ (blk_below tq_51 hb) <| a_ (below_step tq_10 hb); clear BK186 BK187 BK194 HB; obtain ⟨BK186, BK187, BK194, HB⟩ := z_; (try clear hb); (try clear hb2); (try clear hk); (try clear hi)))
   go_meet
   case rel => exact ⟨_, (false), tq_4, H', ⟨tq_148⟩, ⟨tq_11⟩, ⟨tq_12⟩, ⟨tq_51⟩, ⟨tq_10⟩⟩
  rw [if_pos c66] at H
  have c66b0 := beq_iff_eq.mpr c66
  have c66b1 := bne_eq_false_iff_eq.mpr c66
  clear c66
  replace H := Option.bind_eq_some_iff.mp H
  obtain ⟨t197, A670, H⟩ := H
  replace H : (spec_PartOk.j4 kj60 x5_2 x6_2 (decide (t197 < 0)) a0_0 a0_1 a0_2 a0_3 a1_0 l1_1 l1_2 ((rd_T64 l1_2 x6_2).f0) ((rd_T64 l1_2 x6_2).f1) ((rd_T64 l1_2 x6_2).f2) ((rd_T64 l1_2 x6_2).f3) ((rd_T64 l1_2 x6_2).f4) ((rd_T64 l1_2 x6_2).f5)) = some r := H
  have A67 := Aside0.mk A670
  clear A670
  have H' := Aside0.mk H
  clear H
  have hnb68 := NB187_186.out
  have hnc68 := NB186_187.out
  have hnb69 := NB187_194.out
  have hnc69 := NB194_187.out
  obtain ⟨hcz70_0, hcz70_1, hcz70_2⟩ := bk3_ BK187.out
  obtain ⟨hfz70_0, hfz70_1, hfz70_2⟩ := bf3_ BK187.out
  go_wp2_with (first | ((with_reducible refine gate_callee (f := 32) rfl ?_); refine goesL_ (some 74) rfl rfl Try.func32 (by kernel_rfl) rfl #[.agg #[.int .i64 a1_0, .slice A1_1 l1_1.length c1_1, .slice (some ad193) l1_2.length c1_2], .int .i64 x6_2] rfl tq_1 ?_; (with_reducible refine (spec_LinksTo.calls kj60 a1_0 _ _ l1_1 _ _ l1_2 x6_2 t196 _ ?side1 ?side2 ?side3 ?side4 A64.out).mono ?_); (case side1 => exact tq_21); (case side2 => exact HC1_1.out); (case side3 => exact tq_30); (case side4 => exact HC1_2.out); rintro e w71 ⟨rfl, hb⟩; refine ⟨_, rfl, ?_⟩; have z_ := p_ (blk_below tq_11 hb) <| p_ (blk_below tq_12 hb) <| p_ (blk_below tq_51 hb) <| a_ (below_step tq_10 hb); clear BK186 BK187 BK194 HB; obtain ⟨BK186, BK187, BK194, HB⟩ := z_; (try clear hb); (try clear hb2); (try clear hk); (try clear hi); obtain ⟨hcz72_0, hcz72_1, hcz72_2⟩ := bk3_ BK187.out; obtain ⟨hfz72_0, hfz72_1, hfz72_2⟩ := bf3_ BK187.out) | (go_at_call 34; (with_reducible refine (spec_DepthOf.calls kj60 a1_0 _ _ l1_1 _ _ l1_2 x6_2 t197 _ ?side1 ?side2 ?side3 ?side4 A67.out).mono ?_); (case side1 => exact tq_21); (case side2 => exact HC1_1.out); (case side3 => exact tq_30); (case side4 => exact HC1_2.out); rintro e w73 ⟨rfl, hb⟩; have z_ := p_ (blk_below tq_11 hb) <| p_ (blk_below tq_12 hb) <| p_ (blk_below tq_51 hb) <| a_ (below_step tq_10 hb); clear BK186 BK187 BK194 HB; obtain ⟨BK186, BK187, BK194, HB⟩ := z_; (try clear hb); (try clear hb2); (try clear hk); (try clear hi)))
  go_meet
  case rel => exact ⟨_, (decide (t197 < 0)), tq_4, H', ⟨tq_148⟩, ⟨tq_11⟩, ⟨tq_12⟩, ⟨tq_51⟩, ⟨tq_10⟩⟩
 case rest =>
 clear HC63
 try clear c1; try clear p1; try clear q1; try clear hx1; try clear qi1; try clear c2; try clear p2; try clear c3; try clear c4; try clear c5; try clear c6; try clear c7; try clear c9; try clear c11; try clear c12; try clear c12b0; try clear c12b1; try clear c13; try clear c13b0; try clear c13b1; try clear c14; try clear c14b0; try clear c14b1; try clear c16; try clear c19; try clear p19; try clear q19; try clear hx19; try clear qi19; try clear c22; try clear c27; try clear c29; try clear c32; try clear c33; try clear c37; try clear c41; try clear c44; try clear c45; try clear c45b0; try clear c46; try clear c46b0; try clear c48; try clear c50; try clear c53; try clear c54; try clear c57; try clear c57b0; try clear c57b1; try clear c58; try clear c59; try clear c62; try clear c65; try clear c65b0; try clear c65b1; try clear c66; try clear c66b0; try clear c66b1; try clear c68; try clear c69; try clear c74; try clear c75; try clear c78; try clear c79; try clear hcz17_0 hcz17_1 hcz17_2 hcz17_3; try clear hcz19_0 hcz19_1 hcz19_2; try clear hcz20_0 hcz20_1 hcz20_2 hcz20_3; try clear hcz23_0 hcz23_1 hcz23_2 hcz23_3; try clear hcz25_0 hcz25_1 hcz25_2; try clear hcz26_0 hcz26_1 hcz26_2 hcz26_3; try clear hcz28_0 hcz28_1 hcz28_2 hcz28_3; try clear hcz30_0 hcz30_1 hcz30_2; try clear hcz31_0 hcz31_1 hcz31_2 hcz31_3; try clear hcz33_0 hcz33_1 hcz33_2 hcz33_3; try clear hcz35_0 hcz35_1 hcz35_2; try clear hcz36_0 hcz36_1 hcz36_2 hcz36_3; try clear hcz38_0 hcz38_1 hcz38_2 hcz38_3; try clear hcz40_0 hcz40_1 hcz40_2; try clear hcz42_0 hcz42_1 hcz42_2 hcz42_3; try clear hcz51_0 hcz51_1 hcz51_2; try clear hcz55_0 hcz55_1 hcz55_2 hcz55_3 hcz55_4 hcz55_5; try clear hcz60_0 hcz60_1 hcz60_2 hcz60_3 hcz60_4 hcz60_5; try clear hcz70_0 hcz70_1 hcz70_2; try clear hcz72_0 hcz72_1 hcz72_2; try clear hcz76_0 hcz76_1 hcz76_2; try clear hcz80_0 hcz80_1 hcz80_2; try clear hfz17_0 hfz17_1 hfz17_2 hfz17_3; try clear hfz19_0 hfz19_1 hfz19_2; try clear hfz20_0 hfz20_1 hfz20_2 hfz20_3; try clear hfz23_0 hfz23_1 hfz23_2 hfz23_3; try clear hfz25_0 hfz25_1 hfz25_2; try clear hfz26_0 hfz26_1 hfz26_2 hfz26_3; try clear hfz28_0 hfz28_1 hfz28_2 hfz28_3; try clear hfz30_0 hfz30_1 hfz30_2; try clear hfz31_0 hfz31_1 hfz31_2 hfz31_3; try clear hfz33_0 hfz33_1 hfz33_2 hfz33_3; try clear hfz35_0 hfz35_1 hfz35_2; try clear hfz36_0 hfz36_1 hfz36_2 hfz36_3; try clear hfz38_0 hfz38_1 hfz38_2 hfz38_3; try clear hfz40_0 hfz40_1 hfz40_2; try clear hfz42_0 hfz42_1 hfz42_2 hfz42_3; try clear hfz51_0 hfz51_1 hfz51_2; try clear hfz55_0 hfz55_1 hfz55_2 hfz55_3 hfz55_4 hfz55_5; try clear hfz60_0 hfz60_1 hfz60_2 hfz60_3 hfz60_4 hfz60_5; try clear hfz70_0 hfz70_1 hfz70_2; try clear hfz72_0 hfz72_1 hfz72_2; try clear hfz76_0 hfz76_1 hfz76_2; try clear hfz80_0 hfz80_1 hfz80_2; try clear hx191_0; try clear hx191_1; try clear hx191_2; try clear hx191_3; try clear hx191_4; try clear hx191_5; try clear hx193_0; try clear hx193_1; try clear hx193_2; try clear hx193_3; try clear hx193_4; try clear hx193_5; try clear p1; try clear p19; try clear p191; try clear p193; try clear p2; try clear q1; try clear q19; try clear q191; try clear q193
 obtain ⟨kq, x86_62, rfl, HA, HJ62, BK186, BK187, BK194, HB⟩ := hcut
 cases kq with
 | zero => exact absurd HA.out (by simp [spec_PartOk.j4])
 | succ kj62 =>
 have H := HA.out
 clear HA
 simp only [spec_PartOk.j4] at H
 by_cases c82 : x86_62 = true
 ·subst c82
  have H1 : (some false) = some r := by rw [if_pos rfl] at H; exact H
  clear H
  have H := H1
  clear H1
  obtain rfl := Option.some.inj H
  go_wp2
  go_ret
  exact ⟨tq_2, tq_10⟩
 replace c82 := Bool.eq_false_iff.mpr c82
 subst c82
 have H1 : (spec_PartOk.l1 kj62 x5_2 x6_2 0 a0_0 a0_1 a0_2 a0_3 a1_0 l1_1 l1_2 ((rd_T64 l1_2 x6_2).f0) ((rd_T64 l1_2 x6_2).f1) ((rd_T64 l1_2 x6_2).f2) ((rd_T64 l1_2 x6_2).f3) ((rd_T64 l1_2 x6_2).f4) ((rd_T64 l1_2 x6_2).f5)) = some r := by rw [if_neg (show ¬ (false = true) by decide)] at H; exact H
 clear H
 have H := H1
 clear H1
 have H' := Aside0.mk H
 clear H
 go_wp2
 go_loopg [9] kj62 (fun kq v9 w' => ∃ (x9_6 : Int), v9 = .int .i64 x9_6 ∧ Aside0 (spec_PartOk.l1 kq x5_2 x6_2 x9_6 a0_0 a0_1 a0_2 a0_3 a1_0 l1_1 l1_2 ((rd_T64 l1_2 x6_2).f0) ((rd_T64 l1_2 x6_2).f1) ((rd_T64 l1_2 x6_2).f2) ((rd_T64 l1_2 x6_2).f3) ((rd_T64 l1_2 x6_2).f4) ((rd_T64 l1_2 x6_2).f5) = some r) ∧ Aside0 (kq ≤ kj62) ∧ Aside0 (w'.heap[gb186]? = some (.cells #[.int .i64 a0_0, .int .i64 a0_1, .int .i64 a0_2, .int .i64 a0_3] 30 (0, 0))) ∧ Aside0 (w'.heap[gb187]? = some (.cells #[.int .i64 a1_0, (.slice A1_1 l1_1.length c1_1), (.slice (some ad193) l1_2.length c1_2)] 34 (0, 0))) ∧ Aside0 (w'.heap[gb194]? = some (.cells #[.int .i64 ((rd_T64 l1_2 x6_2).f0), .int .i64 ((rd_T64 l1_2 x6_2).f1), .int .i64 ((rd_T64 l1_2 x6_2).f2), .string ((rd_T64 l1_2 x6_2).f3), (.slice A193_4 ((rd_T64 l1_2 x6_2).f4).length c193_4), (.slice A193_5 ((rd_T64 l1_2 x6_2).f5).length c193_5)] 64 (0, 0))) ∧ Aside0 (Below w.heap.size w w'))
 case atStart => exact ⟨(0), tq_4, H', ⟨Nat.le_refl _⟩, ⟨tq_11⟩, ⟨tq_12⟩, ⟨tq_51⟩, ⟨tq_10⟩⟩
 case round =>
 clear H'
 try clear c1; try clear p1; try clear q1; try clear hx1; try clear qi1; try clear c2; try clear p2; try clear c3; try clear c4; try clear c5; try clear c6; try clear c7; try clear c8; try clear c9; try clear c11; try clear c12; try clear c12b0; try clear c12b1; try clear c13; try clear c13b0; try clear c13b1; try clear c14; try clear c14b0; try clear c14b1; try clear c16; try clear c19; try clear p19; try clear q19; try clear hx19; try clear qi19; try clear c22; try clear c27; try clear c29; try clear c32; try clear c33; try clear c37; try clear c41; try clear c44; try clear c45; try clear c45b0; try clear c46; try clear c46b0; try clear c48; try clear c50; try clear c53; try clear c54; try clear c57; try clear c57b0; try clear c57b1; try clear c58; try clear c59; try clear c62; try clear c65; try clear c65b0; try clear c65b1; try clear c66; try clear c66b0; try clear c66b1; try clear c68; try clear c69; try clear c74; try clear c75; try clear c78; try clear c79; try clear c82; try clear hcz17_0 hcz17_1 hcz17_2 hcz17_3; try clear hcz19_0 hcz19_1 hcz19_2; try clear hcz20_0 hcz20_1 hcz20_2 hcz20_3; try clear hcz23_0 hcz23_1 hcz23_2 hcz23_3; try clear hcz25_0 hcz25_1 hcz25_2; try clear hcz26_0 hcz26_1 hcz26_2 hcz26_3; try clear hcz28_0 hcz28_1 hcz28_2 hcz28_3; try clear hcz30_0 hcz30_1 hcz30_2; try clear hcz31_0 hcz31_1 hcz31_2 hcz31_3; try clear hcz33_0 hcz33_1 hcz33_2 hcz33_3; try clear hcz35_0 hcz35_1 hcz35_2; try clear hcz36_0 hcz36_1 hcz36_2 hcz36_3; try clear hcz38_0 hcz38_1 hcz38_2 hcz38_3; try clear hcz40_0 hcz40_1 hcz40_2; try clear hcz42_0 hcz42_1 hcz42_2 hcz42_3; try clear hcz51_0 hcz51_1 hcz51_2; try clear hcz55_0 hcz55_1 hcz55_2 hcz55_3 hcz55_4 hcz55_5; try clear hcz60_0 hcz60_1 hcz60_2 hcz60_3 hcz60_4 hcz60_5; try clear hcz70_0 hcz70_1 hcz70_2; try clear hcz72_0 hcz72_1 hcz72_2; try clear hcz76_0 hcz76_1 hcz76_2; try clear hcz80_0 hcz80_1 hcz80_2; try clear hfz17_0 hfz17_1 hfz17_2 hfz17_3; try clear hfz19_0 hfz19_1 hfz19_2; try clear hfz20_0 hfz20_1 hfz20_2 hfz20_3; try clear hfz23_0 hfz23_1 hfz23_2 hfz23_3; try clear hfz25_0 hfz25_1 hfz25_2; try clear hfz26_0 hfz26_1 hfz26_2 hfz26_3; try clear hfz28_0 hfz28_1 hfz28_2 hfz28_3; try clear hfz30_0 hfz30_1 hfz30_2; try clear hfz31_0 hfz31_1 hfz31_2 hfz31_3; try clear hfz33_0 hfz33_1 hfz33_2 hfz33_3; try clear hfz35_0 hfz35_1 hfz35_2; try clear hfz36_0 hfz36_1 hfz36_2 hfz36_3; try clear hfz38_0 hfz38_1 hfz38_2 hfz38_3; try clear hfz40_0 hfz40_1 hfz40_2; try clear hfz42_0 hfz42_1 hfz42_2 hfz42_3; try clear hfz51_0 hfz51_1 hfz51_2; try clear hfz55_0 hfz55_1 hfz55_2 hfz55_3 hfz55_4 hfz55_5; try clear hfz60_0 hfz60_1 hfz60_2 hfz60_3 hfz60_4 hfz60_5; try clear hfz70_0 hfz70_1 hfz70_2; try clear hfz72_0 hfz72_1 hfz72_2; try clear hfz76_0 hfz76_1 hfz76_2; try clear hfz80_0 hfz80_1 hfz80_2; try clear hx191_0; try clear hx191_1; try clear hx191_2; try clear hx191_3; try clear hx191_4; try clear hx191_5; try clear hx193_0; try clear hx193_1; try clear hx193_2; try clear hx193_3; try clear hx193_4; try clear hx193_5; try clear p1; try clear p19; try clear p191; try clear p193; try clear p2; try clear q1; try clear q19; try clear q191; try clear q193
 obtain ⟨x9_6, rfl, HA, HK6, BK186, BK187, BK194, HB⟩ := hrel
 cases gk with
 | zero => exact absurd HA.out (by simp [spec_PartOk.l1])
 | succ k6 =>
 have H := HA.out
 clear HA
 simp only [spec_PartOk.l1] at H
 by_cases c83 : x9_6 < (((rd_T64 l1_2 x6_2).f5).length : Int)
 rotate_left
 ·rw [if_neg c83] at H
  have c83b0 := decide_eq_false c83
  clear c83
  have H' := Aside0.mk H
  clear H
  have hnb94 := NB194_186.out
  have hnc94 := NB186_194.out
  have hnb95 := NB194_187.out
  have hnc95 := NB187_194.out
  obtain ⟨hcz96_0, hcz96_1, hcz96_2, hcz96_3, hcz96_4, hcz96_5⟩ := bk6_ BK194.out
  obtain ⟨hfz96_0, hfz96_1, hfz96_2, hfz96_3, hfz96_4, hfz96_5⟩ := bf6_ BK194.out
  go_wp2
  go_roundg k6
  case measure => have := HJ2.out; have := HK2.out; have := HJ48.out; have := HJ60.out; have := HJ62.out; have := HK6.out; omega
  case rel => exact ⟨(wrap64 (x5_2 + (((rd_T64 l1_2 x6_2).f4).length : Int))), (wrap64 (x6_2 + 1)), tq_4, tq_4, H', ⟨(by have := HJ2.out; have := HK2.out; have := HJ48.out; have := HJ60.out; have := HJ62.out; have := HK6.out; omega)⟩, ⟨tq_11⟩, ⟨tq_12⟩, ⟨tq_10⟩⟩
 rw [if_pos c83] at H
 have c83b0 := decide_eq_true c83
 clear c83
 by_cases c84 : 0 ≤ x9_6
 rotate_left
 ·rw [if_neg c84] at H
  exact absurd H (by simp)
 rw [if_pos c84] at H
 have c84b0 := decide_eq_true c84
 clear c84
 by_cases c85 : ((rd_T67 ((rd_T64 l1_2 x6_2).f5) x9_6).f0) ≥ a0_2
 ·rw [if_pos c85] at H
  have c85b0 := decide_eq_true c85
  clear c85
  obtain rfl := Option.some.inj H
  have hnb86 := NB194_186.out
  have hnc86 := NB186_194.out
  have hnb87 := NB194_187.out
  have hnc87 := NB187_194.out
  obtain ⟨hcz88_0, hcz88_1, hcz88_2, hcz88_3, hcz88_4, hcz88_5⟩ := bk6_ BK194.out
  obtain ⟨hfz88_0, hfz88_1, hfz88_2, hfz88_3, hfz88_4, hfz88_5⟩ := bf6_ BK194.out
  try go_wp2
  have z_ := p_ (blk_drew BK186.out) <| p_ (blk_drew BK187.out) <| p_ (blk_drew BK194.out) <| a_ (below_drew1 HB.out)
  clear BK186 BK187 BK194 HB
  obtain ⟨BK186, BK187, BK194, HB⟩ := z_
  have p198 : 0 ≤ (x9_6 : Int) := of_decide_eq_true tq_3
  have q198 : x9_6 < (((rd_T64 l1_2 x6_2).f5).length : Int) := of_decide_eq_true tq_3
  obtain ⟨ad198, e198, hx198_0, hx198_1⟩ := at_T67 HR193_5.out x9_6 p198 q198
  have hw198_1 := hx198_1
  have hw198_0 := hx198_0
  cases e198
  replace hx198_0 := hx_ HB.out hx198_0
  replace hx198_1 := hx_ HB.out hx198_1
  replace p198 := eq_true p198
  replace q198 := eq_true q198
  refine start_ (n := 9) (S := fun w' => w'.cell? ⟨gb194, 0, none⟩ = some (.int .i64 ((rd_T64 l1_2 x6_2).f0)) ∧ w'.cell? ⟨gb194, 1, none⟩ = some (.int .i64 ((rd_T64 l1_2 x6_2).f1)) ∧ w'.cell? ⟨gb194, 2, none⟩ = some (.int .i64 ((rd_T64 l1_2 x6_2).f2)) ∧ w'.cell? ⟨gb194, 3, none⟩ = some (.string ((rd_T64 l1_2 x6_2).f3)) ∧ w'.cell? ⟨gb194, 4, none⟩ = some (.slice A193_4 ((rd_T64 l1_2 x6_2).f4).length c193_4) ∧ w'.cell? ⟨gb194, 5, none⟩ = some (.slice (some ad198) ((rd_T64 l1_2 x6_2).f5).length c193_5) ∧ w'.cell? ⟨gb186, 0, none⟩ = some (.int .i64 a0_0) ∧ w'.cell? ⟨gb186, 1, none⟩ = some (.int .i64 a0_1) ∧ w'.cell? ⟨gb186, 2, none⟩ = some (.int .i64 a0_2) ∧ w'.cell? ⟨gb186, 3, none⟩ = some (.int .i64 a0_3) ∧ w'.cell? (ad198.add ((x9_6).toNat * 2)) = some (.int .i64 ((rd_T67 ((rd_T64 l1_2 x6_2).f5) x9_6).f0)) ∧ w'.cell? ⟨(ad198.add ((x9_6).toNat * 2)).block, (ad198.add ((x9_6).toNat * 2)).off + 1, none⟩ = some (.string ((rd_T67 ((rd_T64 l1_2 x6_2).f5) x9_6).f1))) (ds := []) bq_130 (by kernel_rfl) rfl rfl (bc6_ BK194.out (bc4_ BK186.out ⟨((HB.out.cell (World.block_lt_of_cell? w _ hw198_0)).trans hw198_0), ((HB.out.cell (World.block_lt_of_cell? w _ hw198_1)).trans hw198_1)⟩)) (fun hHeld => ?_); refine with_tabW spec_PartOk.tab18 spec_PartOk.bits18 (fun HT_ HW_ => ?_)
  generalize wr.drew = w89 at BK186 BK187 BK194 HB hx198_0 hx198_1 hHeld ⊢
  refine yq_ (i := 0) (N := some 94) bq_131 (any_of HT_.out (by kernel_rfl)) ?_
  refine yq_ (i := 2) (N := some 96) bq_132 (any_of HT_.out (by kernel_rfl)) ?_
  refine yq_ (i := 6) (N := some 100) bq_133 (any_of HT_.out (by kernel_rfl)) ?_
  refine tk_ (i := 1) (N := some 95) bq_134 (take_ofW HT_.out HW_.out (by kernel_rfl)) hHeld ?_
  refine yq_ (i := 3) (N := some 97) bq_135 (any_of HT_.out (by kernel_rfl)) ?_
  refine yq_ (i := 4) (N := some 98) bq_136 (any_of HT_.out (by kernel_rfl)) ?_
  refine tk_ (i := 5) (N := some 99) bq_137 (take_ofW HT_.out HW_.out (by kernel_rfl)) hHeld ?_
  refine tk_ (i := 7) (N := some 101) bq_138 (take_ofW HT_.out HW_.out (by kernel_rfl)) hHeld ?_
  refine yq_ (i := 8) (N := some 102) bq_139 (any_of HT_.out (by kernel_rfl)) ?_
  refine done_ (done_of HT_.out (by kernel_rfl)) ?_
  try go_wp2
  go_ret
  exact ⟨tq_2, tq_10⟩
 rw [if_neg c85] at H
 have c85b0 := decide_eq_false c85
 clear c85
 have H' := Aside0.mk H
 clear H
 have hnb90 := NB194_186.out
 have hnc90 := NB186_194.out
 have hnb91 := NB194_187.out
 have hnc91 := NB187_194.out
 obtain ⟨hcz92_0, hcz92_1, hcz92_2, hcz92_3, hcz92_4, hcz92_5⟩ := bk6_ BK194.out
 obtain ⟨hfz92_0, hfz92_1, hfz92_2, hfz92_3, hfz92_4, hfz92_5⟩ := bf6_ BK194.out
 try go_wp2
 have z_ := p_ (blk_drew BK186.out) <| p_ (blk_drew BK187.out) <| p_ (blk_drew BK194.out) <| a_ (below_drew1 HB.out)
 clear BK186 BK187 BK194 HB
 obtain ⟨BK186, BK187, BK194, HB⟩ := z_
 have p198 : 0 ≤ (x9_6 : Int) := of_decide_eq_true tq_3
 have q198 : x9_6 < (((rd_T64 l1_2 x6_2).f5).length : Int) := of_decide_eq_true tq_3
 obtain ⟨ad198, e198, hx198_0, hx198_1⟩ := at_T67 HR193_5.out x9_6 p198 q198
 have hw198_1 := hx198_1
 have hw198_0 := hx198_0
 cases e198
 replace hx198_0 := hx_ HB.out hx198_0
 replace hx198_1 := hx_ HB.out hx198_1
 replace p198 := eq_true p198
 replace q198 := eq_true q198
 refine start_ (n := 9) (S := fun w' => w'.cell? ⟨gb194, 0, none⟩ = some (.int .i64 ((rd_T64 l1_2 x6_2).f0)) ∧ w'.cell? ⟨gb194, 1, none⟩ = some (.int .i64 ((rd_T64 l1_2 x6_2).f1)) ∧ w'.cell? ⟨gb194, 2, none⟩ = some (.int .i64 ((rd_T64 l1_2 x6_2).f2)) ∧ w'.cell? ⟨gb194, 3, none⟩ = some (.string ((rd_T64 l1_2 x6_2).f3)) ∧ w'.cell? ⟨gb194, 4, none⟩ = some (.slice A193_4 ((rd_T64 l1_2 x6_2).f4).length c193_4) ∧ w'.cell? ⟨gb194, 5, none⟩ = some (.slice (some ad198) ((rd_T64 l1_2 x6_2).f5).length c193_5) ∧ w'.cell? ⟨gb186, 0, none⟩ = some (.int .i64 a0_0) ∧ w'.cell? ⟨gb186, 1, none⟩ = some (.int .i64 a0_1) ∧ w'.cell? ⟨gb186, 2, none⟩ = some (.int .i64 a0_2) ∧ w'.cell? ⟨gb186, 3, none⟩ = some (.int .i64 a0_3) ∧ w'.cell? (ad198.add ((x9_6).toNat * 2)) = some (.int .i64 ((rd_T67 ((rd_T64 l1_2 x6_2).f5) x9_6).f0)) ∧ w'.cell? ⟨(ad198.add ((x9_6).toNat * 2)).block, (ad198.add ((x9_6).toNat * 2)).off + 1, none⟩ = some (.string ((rd_T67 ((rd_T64 l1_2 x6_2).f5) x9_6).f1))) (ds := []) bq_130 (by kernel_rfl) rfl rfl (bc6_ BK194.out (bc4_ BK186.out ⟨((HB.out.cell (World.block_lt_of_cell? w _ hw198_0)).trans hw198_0), ((HB.out.cell (World.block_lt_of_cell? w _ hw198_1)).trans hw198_1)⟩)) (fun hHeld => ?_); refine with_tabW spec_PartOk.tab18 spec_PartOk.bits18 (fun HT_ HW_ => ?_)
 generalize wr.drew = w93 at BK186 BK187 BK194 HB hx198_0 hx198_1 hHeld ⊢
 refine yq_ (i := 0) (N := some 94) bq_131 (any_of HT_.out (by kernel_rfl)) ?_
 refine yq_ (i := 2) (N := some 96) bq_132 (any_of HT_.out (by kernel_rfl)) ?_
 refine yq_ (i := 6) (N := some 100) bq_133 (any_of HT_.out (by kernel_rfl)) ?_
 refine tk_ (i := 1) (N := some 95) bq_134 (take_ofW HT_.out HW_.out (by kernel_rfl)) hHeld ?_
 refine yq_ (i := 3) (N := some 97) bq_135 (any_of HT_.out (by kernel_rfl)) ?_
 refine yq_ (i := 4) (N := some 98) bq_136 (any_of HT_.out (by kernel_rfl)) ?_
 refine tk_ (i := 5) (N := some 99) bq_137 (take_ofW HT_.out HW_.out (by kernel_rfl)) hHeld ?_
 refine tk_ (i := 7) (N := some 101) bq_138 (take_ofW HT_.out HW_.out (by kernel_rfl)) hHeld ?_
 refine yq_ (i := 8) (N := some 102) bq_139 (any_of HT_.out (by kernel_rfl)) ?_
 refine done_ (done_of HT_.out (by kernel_rfl)) ?_
 try go_wp2
 go_roundg k6
 case measure => have := HJ2.out; have := HK2.out; have := HJ48.out; have := HJ60.out; have := HJ62.out; have := HK6.out; omega
 case rel => exact ⟨(wrap64 (x9_6 + 1)), tq_4, H', ⟨(by have := HJ2.out; have := HK2.out; have := HJ48.out; have := HJ60.out; have := HJ62.out; have := HK6.out; omega)⟩, ⟨tq_11⟩, ⟨tq_12⟩, ⟨tq_51⟩, ⟨tq_10⟩⟩

end Go.Proofs.Ytljnnmpfeningaa.PFnExactPartOk
