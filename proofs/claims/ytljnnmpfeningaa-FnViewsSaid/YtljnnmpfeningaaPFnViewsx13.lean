/- Contracts of Go functions, written by a program of ours over the print of the kit: each says that the call returns what the Lean function beside it computes. Conditions: as each theorem states them. -/
import Derived.Test.YtljnnmpfeningaaPkFnViews
import Derived.Test.YtljnnmpfeningaaPFnViewsx0
import Derived.Test.YtljnnmpfeningaaPFnViewsx4
import Derived.Test.YtljnnmpfeningaaPFnViewsx6
import Derived.Test.YtljnnmpfeningaaPFnViewsx7
import Derived.Test.YtljnnmpfeningaaPFnViewsx9
import Derived.Test.YtljnnmpfeningaaPFnViewsx12
namespace Go.Proofs.Ytljnnmpfeningaa.PFnViews
open Go.RowKit Go.Proofs.YtljnnmpfeningaaW.PrintWords Go.Proofs.YtljnnmpfeningaaW.PrintLast Go.Proofs.YtljnnmpfeningaaW.PrintMore
attribute [local go_sem] max2_int min2_int max_two min_two max_three min_three max_four min_four   -- for this text's walks alone
set_option linter.unusedVariables false
set_option linter.unusedSimpArgs false

/-! ### spec_Asked: function 107 -/
mutual
def spec_Asked.j0 : Nat → Bool → Int → Int → Int → Int → List (S44) → Int → ByteArray → ByteArray → Int → Int → ByteArray → List (S44) → Option ((List (S44)) × Int × ByteArray × Int × Bool × List ByteArray)
 | 0, _, _, _, _, _, _, _, _, _, _, _, _, _ => none
 | k + 1, x26, x486000, x486001, x486002, x486003, x487000, x488000, x488001, x488002, x488003, x488004, x488005, x494000 => if x26 = true then ((spec_l17New.f k x486000 x486001 x486002 x486003 x487000 x488000 x488001 x488002 x488003 x488004 x488005).bind fun bt502 => (some (bt502.1, bt502.2.1, bt502.2.2.1, bt502.2.2.2.1, bt502.2.2.2.2.1, bt502.2.2.2.2.2))) else ((spec_LookUp.f k x487000 x488001).bind fun t512 => (if t512 = 0 then ((spec_l17Dir.f k x487000 x488001).bind fun t520 => ((spec_ItemAt.f k x487000 x488001).bind fun t521 => (if x488000 = 3 then (if t520 = true then ((spec_l17Fails.f 5).bind fun bt522 => (some (x494000, bt522.1, bt522.2.1, bt522.2.2.1, bt522.2.2.2.1, bt522.2.2.2.2))) else ((spec_DropItem.f k x487000 x488001).bind fun t529 => (some (t529, 0, (⟨#[]⟩ : ByteArray), 0, false, ([] : List ByteArray))))) else (if x488000 = 4 then (if x488001.toList = ([47] : List UInt8) then ((spec_l17Fails.f 9).bind fun bt532 => (some (x494000, bt532.1, bt532.2.1, bt532.2.2.1, bt532.2.2.2.1, bt532.2.2.2.2))) else (if t520 = true then ((spec_KidsOf.f k x487000 x488001).bind fun t539 => (if (t539.length : Int) > 0 then ((spec_l17Fails.f 10).bind fun bt542 => (some (x494000, bt542.1, bt542.2.1, bt542.2.2.1, bt542.2.2.2.1, bt542.2.2.2.2))) else ((spec_DropItem.f k x487000 x488001).bind fun t549 => (some (t549, 0, (⟨#[]⟩ : ByteArray), 0, false, ([] : List ByteArray)))))) else ((spec_l17Fails.f 4).bind fun bt552 => (some (x494000, bt552.1, bt552.2.1, bt552.2.2.1, bt552.2.2.2.1, bt552.2.2.2.2))))) else (if x488000 = 5 then ((spec_l17Rename.f k x487000 x488000 x488001 x488002 x488003 x488004 x488005).bind fun bt559 => (some (bt559.1, bt559.2.1, bt559.2.2.1, bt559.2.2.2.1, bt559.2.2.2.2.1, bt559.2.2.2.2.2))) else (if x488000 = 6 then (spec_Asked.j1 k t520 t521 x488000 (x488000 == 6) x486000 x486001 x486002 x486003 x487000 x488000 x488001 x488002 x488003 x488004 x488005 x494000) else (if x488000 = 7 then (spec_Asked.j1 k t520 t521 x488000 (x488000 == 7) x486000 x486001 x486002 x486003 x487000 x488000 x488001 x488002 x488003 x488004 x488005 x494000) else (spec_Asked.j1 k t520 t521 x488000 (x488000 == 8) x486000 x486001 x486002 x486003 x487000 x488000 x488001 x488002 x488003 x488004 x488005 x494000)))))))) else ((spec_l17Fails.f t512).bind fun bt513 => (some (x494000, bt513.1, bt513.2.1, bt513.2.2.1, bt513.2.2.2.1, bt513.2.2.2.2)))))
def spec_Asked.j1 : Nat → Bool → Int → Int → Bool → Int → Int → Int → Int → List (S44) → Int → ByteArray → ByteArray → Int → Int → ByteArray → List (S44) → Option ((List (S44)) × Int × ByteArray × Int × Bool × List ByteArray)
 | 0, _, _, _, _, _, _, _, _, _, _, _, _, _, _, _, _ => none
 | k + 1, x10, x11, x51, x96, x486000, x486001, x486002, x486003, x487000, x488000, x488001, x488002, x488003, x488004, x488005, x494000 => if x96 = true then (if x10 = true then ((spec_l17Fails.f 5).bind fun bt569 => (some (x494000, bt569.1, bt569.2.1, bt569.2.2.1, bt569.2.2.2.1, bt569.2.2.2.2))) else ((spec_l17File.f k x486000 x486001 x486002 x486003 x487000 x11 x488000 x488001 x488002 x488003 x488004 x488005).bind fun bt576 => (some (bt576.1, bt576.2.1, bt576.2.2.1, bt576.2.2.2.1, bt576.2.2.2.2.1, bt576.2.2.2.2.2)))) else (if x51 = 9 then (if x10 = true then (some (x494000, 0, (⟨#[]⟩ : ByteArray), 0, true, ([] : List ByteArray))) else (if 0 ≤ x11 then (if x11 < (x487000.length : Int) then (some (x494000, 0, (⟨#[]⟩ : ByteArray), (((rd_T44 x487000 x11).f2).size : Int), false, ([] : List ByteArray))) else (none)) else (none))) else (if x51 = 10 then (if x10 = true then ((spec_KidsOf.f k x487000 x488001).bind fun t587 => (some (x494000, 0, (⟨#[]⟩ : ByteArray), 0, false, t587))) else ((spec_l17Fails.f 4).bind fun bt590 => (some (x494000, bt590.1, bt590.2.1, bt590.2.2.1, bt590.2.2.2.1, bt590.2.2.2.2)))) else (some (x494000, 0, (⟨#[]⟩ : ByteArray), 0, false, ([] : List ByteArray)))))
end
def spec_Asked.f (k : Nat) (a0_0 : Int) (a0_1 : Int) (a0_2 : Int) (a0_3 : Int) (l1_0 : List (S44)) (a2_0 : Int) (a2_1 : ByteArray) (a2_2 : ByteArray) (a2_3 : Int) (a2_4 : Int) (a2_5 : ByteArray) : Option ((List (S44)) × Int × ByteArray × Int × Bool × List ByteArray) := (spec_l17Same.f l1_0).bind fun t490 => ((spec_AskOk.f a2_0 a2_1 a2_2 a2_3 a2_4 a2_5).bind fun t494 => (if t494 = true then (if a2_0 = 1 then (spec_Asked.j0 k true a0_0 a0_1 a0_2 a0_3 l1_0 a2_0 a2_1 a2_2 a2_3 a2_4 a2_5 t490) else (spec_Asked.j0 k (a2_0 == 2) a0_0 a0_1 a0_2 a0_3 l1_0 a2_0 a2_1 a2_2 a2_3 a2_4 a2_5 t490)) else ((spec_l17Fails.f 16).bind fun bt495 => (some (t490, bt495.1, bt495.2.1, bt495.2.2.1, bt495.2.2.2.1, bt495.2.2.2.2)))))
theorem spec_Asked.mono_l : ∀ k, (∀ y0 y1 y2 y3 y4 y5 y6 y7 y8 y9 y10 y11 y12, LeO (spec_Asked.j0 k y0 y1 y2 y3 y4 y5 y6 y7 y8 y9 y10 y11 y12) (spec_Asked.j0 (k + 1) y0 y1 y2 y3 y4 y5 y6 y7 y8 y9 y10 y11 y12)) ∧ (∀ y0 y1 y2 y3 y4 y5 y6 y7 y8 y9 y10 y11 y12 y13 y14 y15, LeO (spec_Asked.j1 k y0 y1 y2 y3 y4 y5 y6 y7 y8 y9 y10 y11 y12 y13 y14 y15) (spec_Asked.j1 (k + 1) y0 y1 y2 y3 y4 y5 y6 y7 y8 y9 y10 y11 y12 y13 y14 y15))
 | 0 => ⟨fun _ _ _ _ _ _ _ _ _ _ _ _ _ r h => by simp [spec_Asked.j0] at h, fun _ _ _ _ _ _ _ _ _ _ _ _ _ _ _ _ r h => by simp [spec_Asked.j1] at h⟩
 | k + 1 => by
  obtain ⟨ih0, ih1⟩ := spec_Asked.mono_l k
  refine ⟨?_, ?_⟩
  ·intro y0 y1 y2 y3 y4 y5 y6 y7 y8 y9 y10 y11 y12
   unfold spec_Asked.j0
   exact mo_8
  ·intro y0 y1 y2 y3 y4 y5 y6 y7 y8 y9 y10 y11 y12 y13 y14 y15
   unfold spec_Asked.j1
   exact mo_8
theorem spec_Asked.mono : ∀ a0 a1 a2 a3 a4 a5 a6 a7 a8 a9 a10 k, LeO (spec_Asked.f k a0 a1 a2 a3 a4 a5 a6 a7 a8 a9 a10) (spec_Asked.f (k + 1) a0 a1 a2 a3 a4 a5 a6 a7 a8 a9 a10) := by
 intro a0 a1 a2 a3 a4 a5 a6 a7 a8 a9 a10 k
 obtain ⟨ih0, ih1⟩ := spec_Asked.mono_l k
 unfold spec_Asked.f
 repeat' first
   | (with_reducible exact ih0 ..)
   | (with_reducible exact ih1 ..)
   | (with_reducible exact spec_DropItem.mono ..)
   | (with_reducible exact spec_ItemAt.mono ..)
   | (with_reducible exact spec_KidsOf.mono ..)
   | (with_reducible exact spec_LookUp.mono ..)
   | (with_reducible exact spec_l17Dir.mono ..)
   | (with_reducible exact spec_l17File.mono ..)
   | (with_reducible exact spec_l17New.mono ..)
   | (with_reducible exact spec_l17Rename.mono ..)
   | (with_reducible exact LeO.refl _)
   | (with_reducible exact LeO.none _)
   | (with_reducible refine LeO.ite ?_ ?_)
   | (with_reducible refine LeO.bind ?_ (fun _ => ?_))
   | exact ih0 ..
   | exact ih1 ..
   | exact spec_DropItem.mono ..
   | exact spec_ItemAt.mono ..
   | exact spec_KidsOf.mono ..
   | exact spec_LookUp.mono ..
   | exact spec_l17Dir.mono ..
   | exact spec_l17File.mono ..
   | exact spec_l17New.mono ..
   | exact spec_l17Rename.mono ..
   | exact LeO.none _
   | refine LeO.ite ?_ ?_
   | refine LeO.bind ?_ (fun _ => ?_)
def spec_Asked.T35 : Bool × List (List Nat × List Nat) := (true, [([], []), ([], []), ([1], [1]), ([], []), ([2, 3], [2, 3]), ([4], [4]), ([5], [5]), ([6], [6]), ([7], [7]), ([0, 0], [0]), ([8, 9, 0, 1, 2, 3, 4, 5, 6, 7, 8, 9], [8])])
def spec_Asked.B35 : List Nat := [0, 0, 2, 0, 14, 30, 62, 126, 254, 1, 1023]
theorem spec_Asked.tab35 : rtab .any (opsOf Try.f107 35) = spec_Asked.T35 := by kernel_rfl
theorem spec_Asked.bits35 : waitsOk spec_Asked.T35.2 spec_Asked.B35 = true := by kernel_rfl
def spec_Asked.T39 : Bool × List (List Nat × List Nat) := (true, [([], []), ([], []), ([], []), ([2], [2]), ([1, 3], [1, 3]), ([4], [4]), ([0, 4, 0], [0]), ([5, 6, 0, 1, 2, 3, 4, 5, 6], [5])])
def spec_Asked.B39 : List Nat := [0, 0, 0, 4, 14, 30, 31, 127]
theorem spec_Asked.tab39 : rtab .any (opsOf Try.f107 39) = spec_Asked.T39 := by kernel_rfl
theorem spec_Asked.bits39 : waitsOk spec_Asked.T39.2 spec_Asked.B39 = true := by kernel_rfl
set_option maxHeartbeats 8000000 in
set_option maxRecDepth 100000 in
theorem spec_Asked.calls (k : Nat) (a0_0 : Int) (a0_1 : Int) (a0_2 : Int) (a0_3 : Int) (A1_0 : Option Addr) (c1_0 : Nat) (l1_0 : List (S44)) (a2_0 : Int) (a2_1 : ByteArray) (a2_2 : ByteArray) (a2_3 : Int) (a2_4 : Int) (a2_5 : ByteArray) (r1 : List (S44)) (r2 : Int) (r3 : ByteArray) (r4 : Int) (r5 : Bool) (r6 : List ByteArray) (w : World) (hr1_0 : Kd.C k44 w A1_0 l1_0.length l1_0) (hc1_0 : l1_0.length ≤ c1_0) (h : spec_Asked.f k a0_0 a0_1 a0_2 a0_3 l1_0 a2_0 a2_1 a2_2 a2_3 a2_4 a2_5 = some (r1, r2, r3, r4, r5, r6)) :
  Calls Try.prog 107 #[.agg #[.int .i64 a0_0, .int .i64 a0_1, .int .i64 a0_2, .int .i64 a0_3], .agg #[.slice A1_0 l1_0.length c1_0], .agg #[.int .i64 a2_0, .string a2_1, .string a2_2, .int .i64 a2_3, .int .i64 a2_4, .string a2_5]] w fun e w' => ∃ v0_ v5_ : Value, e = .returned (.tuple #[.agg #[v0_], .agg #[.int .i64 r2, .string r3, .int .i64 r4, .bool r5, v5_]]) ∧ Kd.R k44 44 w' w.heap.size (fun _ => True) v0_ r1 ∧ Kd.R Kd.string 9 w' w.heap.size (fun _ => True) v5_ r6 ∧ Below w.heap.size w w' := by
 have hu30 := Try.underlying30
 have hu42 := Try.underlying42
 have hu133 := Try.underlying133
 have hu129 := Try.underlying129
 have HR1_0 := Aside0.mk hr1_0
 have HC1_0 := Aside0.mk hc1_0
 clear hr1_0 hc1_0
 have HB := Aside0.mk (Below.refl w.heap.size w)
 unfold spec_Asked.f at h
 have H := h
 clear h
 obtain ⟨t490, A4, H⟩ := bd_ H
 obtain ⟨t494, A5, H⟩ := bd_ H
 have HC6 := Aside0.mk H
 clear H
 go_enter Try.func107, Try.ntmps107
 go_upto_if 16 with (first | ((with_reducible refine gate_dst (N := 3) rfl ?_); refine be_ 3 (cs := #[.int .i64 a0_0, .int .i64 a0_1, .int .i64 a0_2, .int .i64 a0_3]) 30 ?_; intro gb485 hg w7 hbox hb; have z_ := bx0_ th_ hb hbox hg; clear HB; obtain ⟨HB, BK485, GW485, GE485⟩ := z_; clear hb hbox hg) | ((with_reducible refine gate_dst (N := 4) rfl ?_); refine be_ 4 (cs := #[.slice A1_0 l1_0.length c1_0]) 42 ?_; intro gb486 hg w8 hbox hb; have z_ := bx1_ (kb_ BK485) th_ hb hbox hg; clear BK485 HB; obtain ⟨BK485, HB, BK486, GW486, GE486, NB485_486, NB486_485⟩ := z_; clear hb hbox hg) | ((with_reducible refine gate_dst (N := 5) rfl ?_); refine be_ 5 (cs := #[.int .i64 a2_0, .string a2_1, .string a2_2, .int .i64 a2_3, .int .i64 a2_4, .string a2_5]) 133 ?_; intro gb487 hg w9 hbox hb; have z_ := bx2_ (kb_ BK485) (kb_ BK486) th_ hb hbox hg; clear BK485 BK486 HB; obtain ⟨BK485, BK486, HB, BK487, GW487, GE487, NB485_487, NB487_485, NB486_487, NB487_486⟩ := z_; clear hb hbox hg) | ((with_reducible refine gate_dst (N := 6) rfl ?_); refine be_ 6 (cs := #[.slice none 0 0]) 42 ?_; intro gb488 hg w10 hbox hb; have z_ := bx3_ (kb_ BK485) (kb_ BK486) (kb_ BK487) th_ hb hbox hg; clear BK485 BK486 BK487 HB; obtain ⟨BK485, BK486, BK487, HB, BK488, GW488, GE488, NB485_488, NB488_485, NB486_488, NB488_486, NB487_488, NB488_487⟩ := z_; clear hb hbox hg) | ((with_reducible refine gate_dst (N := 7) rfl ?_); refine be_ 7 (cs := #[.int .i64 0, .string (⟨#[]⟩ : ByteArray), .int .i64 0, .bool false, .slice none 0 0]) 129 ?_; intro gb489 hg w11 hbox hb; have z_ := bx4_ (kb_ BK485) (kb_ BK486) (kb_ BK487) (kb_ BK488) th_ hb hbox hg; clear BK485 BK486 BK487 BK488 HB; obtain ⟨BK485, BK486, BK487, BK488, HB, BK489, GW489, GE489, NB485_489, NB489_485, NB486_489, NB489_486, NB487_489, NB489_487, NB488_489, NB489_488⟩ := z_; clear hb hbox hg; obtain ⟨n486_485, n485_486, n486_487, n487_486, n486_488, n488_486, n486_489, n489_486⟩ := an8_ NB486_485 NB485_486 NB486_487 NB487_486 NB486_488 NB488_486 NB486_489 NB489_486; have hcz16_0 := bc_ BK486.out 0; have hfz16_0 := blk_frozen BK486.out 0) | ((with_reducible refine gate_callee (f := 123) rfl ?_); refine goesL_ (some 13) rfl rfl Try.func123 (by kernel_rfl) rfl #[.agg #[.slice A1_0 l1_0.length c1_0]] rfl tq_0 ?_; (with_reducible refine (spec_l17Same.calls _ _ l1_0 t490 _ ?side1 ?side2 A4.out).mono ?_); (case side1 => exact tq_11); (case side2 => exact HC1_0.out); rintro e w17 ⟨v491, rfl, ho0, hb⟩; refine ⟨_, rfl, ?_⟩; have z_ := p_ (Kd.R_lower ho0 (below_size th_)) <| bw5_ (kb_ BK485) (kb_ BK486) (kb_ BK487) (kb_ BK488) (kb_ BK489) th_ hb; clear BK485 BK486 BK487 BK488 BK489 HB; obtain ⟨HO492, BK485, BK486, BK487, BK488, BK489, HB⟩ := z_; (try clear hb); (try clear ho0)) | ((with_reducible refine gate_dst (N := 8) rfl ?_); refine be_ 8 (cs := #[.slice none 0 0]) 42 ?_; intro gb493 hg w18 hbox hb; have z_ := p_ (Kd.R_below (raR_ HO492) hb) <| bx5_ (kb_ BK485) (kb_ BK486) (kb_ BK487) (kb_ BK488) (kb_ BK489) th_ hb hbox hg; clear HO492 BK485 BK486 BK487 BK488 BK489 HB; obtain ⟨HO492, BK485, BK486, BK487, BK488, BK489, HB, BK493, GW493, GE493, NB485_493, NB493_485, NB486_493, NB493_486, NB487_493, NB493_487, NB488_493, NB493_488, NB489_493, NB493_489⟩ := z_; clear hb hbox hg; obtain ⟨Ao19, co19, eo19⟩ := Kd.R_slice HO492.out; subst eo19; obtain ⟨n493_485, n485_493, n493_486, n486_493, n493_487, n487_493, n493_488, n488_493⟩ := an8_ NB493_485 NB485_493 NB493_486 NB486_493 NB493_487 NB487_493 NB493_488 NB488_493; obtain ⟨n493_489, n489_493⟩ := an2_ NB493_489 NB489_493; have hcz25_0 := bc_ BK493.out 0; have hfz25_0 := blk_frozen BK493.out 0; obtain ⟨n487_485, n485_487, n487_488, n488_487, n487_489, n489_487⟩ := an6_ NB487_485 NB485_487 NB487_488 NB488_487 NB487_489 NB489_487; obtain ⟨hcz29_0, hcz29_1, hcz29_2, hcz29_3, hcz29_4, hcz29_5⟩ := bk6_ BK487.out; obtain ⟨hfz29_0, hfz29_1, hfz29_2, hfz29_3, hfz29_4, hfz29_5⟩ := bf6_ BK487.out) | ((with_reducible refine gate_callee (f := 124) rfl ?_); refine goesL_ (some 15) rfl rfl Try.func124 (by kernel_rfl) rfl #[.agg #[.int .i64 a2_0, .string a2_1, .string a2_2, .int .i64 a2_3, .int .i64 a2_4, .string a2_5]] rfl tq_0 ?_; (with_reducible refine (spec_AskOk.calls a2_0 a2_1 a2_2 a2_3 a2_4 a2_5 t494 _ A5.out).mono ?_); rintro e w30 ⟨rfl, hb⟩; refine ⟨_, rfl, ?_⟩; have z_ := p_ (Kd.R_below (by (with_reducible repeat (first | apply Kd.R_alloc | apply Kd.R_drewN | apply Kd.R_drew)); exact (Kd.R_mono (rR_ (Kd.R_types HO492.out BK493.out (by decide))) (fun _ h_ => h_.1))) hb) <| p_ (blk_below (g := gb485) (o := .cells #[.int .i64 a0_0, .int .i64 a0_1, .int .i64 a0_2, .int .i64 a0_3] 30 (0, 0)) (by (with_reducible repeat (first | refine blk_drewN ?_ _ | refine blk_drew ?_ | refine blk_alloc ?_ _)); refine blk_far ?_ NB485_493.out _; (with_reducible repeat (first | refine blk_drewN ?_ _ | refine blk_drew ?_ | refine blk_alloc ?_ _)); exact BK485.out) hb) <| p_ (blk_below (g := gb486) (o := .cells #[.slice A1_0 l1_0.length c1_0] 42 (0, 0)) (by (with_reducible repeat (first | refine blk_drewN ?_ _ | refine blk_drew ?_ | refine blk_alloc ?_ _)); refine blk_far ?_ NB486_493.out _; (with_reducible repeat (first | refine blk_drewN ?_ _ | refine blk_drew ?_ | refine blk_alloc ?_ _)); exact BK486.out) hb) <| p_ (blk_below (g := gb487) (o := .cells #[.int .i64 a2_0, .string a2_1, .string a2_2, .int .i64 a2_3, .int .i64 a2_4, .string a2_5] 133 (0, 0)) (by (with_reducible repeat (first | refine blk_drewN ?_ _ | refine blk_drew ?_ | refine blk_alloc ?_ _)); refine blk_far ?_ NB487_493.out _; (with_reducible repeat (first | refine blk_drewN ?_ _ | refine blk_drew ?_ | refine blk_alloc ?_ _)); exact BK487.out) hb) <| p_ (blk_below (g := gb488) (o := .cells #[.slice none 0 0] 42 (0, 0)) (by (with_reducible repeat (first | refine blk_drewN ?_ _ | refine blk_drew ?_ | refine blk_alloc ?_ _)); refine blk_far ?_ NB488_493.out _; (with_reducible repeat (first | refine blk_drewN ?_ _ | refine blk_drew ?_ | refine blk_alloc ?_ _)); exact BK488.out) hb) <| p_ (blk_below (g := gb489) (o := .cells #[.int .i64 0, .string (⟨#[]⟩ : ByteArray), .int .i64 0, .bool false, .slice none 0 0] 129 (0, 0)) (by (with_reducible repeat (first | refine blk_drewN ?_ _ | refine blk_drew ?_ | refine blk_alloc ?_ _)); refine blk_far ?_ NB489_493.out _; (with_reducible repeat (first | refine blk_drewN ?_ _ | refine blk_drew ?_ | refine blk_alloc ?_ _)); exact BK489.out) hb) <| p_ (blk_below (g := gb493) (o := .cells #[.slice Ao19 t490.length co19] 42 (0, 0)) (by (with_reducible repeat (first | refine blk_drewN ?_ _ | refine blk_drew ?_ | refine blk_alloc ?_ _)); refine blk_put (cs := #[.slice none 0 0]) ?_ 0 _ rfl; (with_reducible repeat (first | refine blk_drewN ?_ _ | refine blk_drew ?_ | refine blk_alloc ?_ _)); exact BK493.out) hb) <| a_ (below_step th_ hb); clear HO492 BK485 BK486 BK487 BK488 BK489 BK493 HB; obtain ⟨HO492, BK485, BK486, BK487, BK488, BK489, BK493, HB⟩ := z_; (try clear hb); (try clear hk)))
 (try simp only [Act.put, List.setIfInBounds_toArray, List.set_cons_zero, List.set_cons_succ])
 (try clear n485_486 n485_487 n485_493 n486_485 n486_487 n486_488 n486_489 n486_493 n487_485 n487_486 n487_488 n487_489 n487_493 n488_486 n488_487 n488_493 n489_486 n489_487 n489_493 n493_485 n493_486 n493_487 n493_488 n493_489)
 (try clear hcz16_0)
 (try clear hcz25_0)
 (try clear hcz29_0 hcz29_1 hcz29_2 hcz29_3 hcz29_4 hcz29_5)
 (try clear hfz16_0)
 (try clear hfz25_0)
 (try clear hfz29_0 hfz29_1 hfz29_2 hfz29_3 hfz29_4 hfz29_5)
 have H := HC6.out
 clear HC6
 by_cases c31 : t494 = true
 rotate_left
 ·replace c31 := Bool.eq_false_iff.mpr c31
  subst c31
  rw [if_neg nf_] at H
  obtain ⟨⟨t495, t496, t497, t498, t499⟩, A350, H⟩ := bd_ H
  try dsimp -simprocs only at H
  simp only [Option.some.injEq, Prod.mk.injEq] at H
  obtain ⟨rfl, rfl, rfl, rfl, rfl, rfl⟩ := H
  try go_wp2
  have z_ := p_ (Kd.R_drew HO492.out) <| dw6_ BK485 BK486 BK487 BK488 BK489 BK493 HB
  clear HO492 BK485 BK486 BK487 BK488 BK489 BK493 HB
  obtain ⟨HO492, BK485, BK486, BK487, BK488, BK489, BK493, HB⟩ := z_
  refine start_ (n := 4) (S := fun w' => w'.cell? ⟨gb493, 0, none⟩ = some (.slice Ao19 t490.length co19)) (ds := []) bq_1 (by kernel_rfl) rfl rfl ((blk_cell BK493.out 0).trans rfl) (fun hHeld => ?_)
  generalize w30.drew = w351 at HO492 BK485 BK486 BK487 BK488 BK489 BK493 HB hHeld ⊢
  refine take_ (i := 0) (N := some 17) (v := ?_) (a' := ?_) bq_2 rfl rfl (by kernel_rfl) (fun _ _ _ h => h) (Or.inl ⟨(by rfl), ?_⟩) hHeld ?_ ?_
  rotate_left
  ·intro w' s0
   go_simp
   with_reducible rfl
  rotate_left
  ·simp only [Act.put, List.setIfInBounds_toArray, List.set_cons_zero, List.set_cons_succ, i64_w, i32_w]
   rfl
  refine one_ (i := 1) (N := some 18) bq_3 rfl rfl (by kernel_rfl) (by decide) (fun K hK => ?_)
  refine goes_ Try.func125 (by kernel_rfl) rfl #[.int .i64 16] (by rfl) rfl rfl tq_0 ?_
  with_reducible refine (spec_l17Fails.calls 16 t495 t496 t497 t498 t499 _ A350.out).mono ?_
  rintro e w352 ⟨v500, rfl, ho0, hb⟩
  refine ⟨_, rfl, ?_⟩
  have z_ := p_ (Kd.R_below (raR_ HO492) hb) <| p_ (Kd.R_lower ho0 (below_size th_)) <| bw6_ (kb_ BK485) (kb_ BK486) (kb_ BK487) (kb_ BK488) (kb_ BK489) (kb_ BK493) th_ hb
  clear HO492 BK485 BK486 BK487 BK488 BK489 BK493 HB
  obtain ⟨HO492, HO501, BK485, BK486, BK487, BK488, BK489, BK493, HB⟩ := z_
  (try clear hb)
  (try clear ho0)
  obtain ⟨Ao358, co358, eo358⟩ := Kd.R_slice HO501.out
  (first | subst eo358 | (injection eo358 with f1_ f2_ f3_; have f4_ := f1_.symm; have f5_ := f3_.symm; clear f1_ f2_ f3_; subst f4_; subst f5_))
  refine hK.out _ _ ((blk_cell BK493.out 0).trans rfl) (fun hHeld => ?_)
  clear hK K
  refine nm_ (some 18) ?_
  refine one_ (i := 2) (N := none) bq_4 rfl rfl (by kernel_rfl) (by decide) (fun K hK => ?_)
  have hs353 : w352.cell? ⟨gb488, 0, none⟩ = some (.slice none 0 0) := (blk_cell BK488.out 0).trans rfl
  have hfs353 := blk_frozen BK488.out 0
  obtain ⟨n485_488, n486_488, n487_488, n489_488, n493_488, n488_485, n488_486, n488_487⟩ := an8_ NB485_488 NB486_488 NB487_488 NB489_488 NB493_488 NB488_485 NB488_486 NB488_487
  obtain ⟨n488_489, n488_493⟩ := an2_ NB488_489 NB488_493
  refine skip_ (w1 := ?_) (by rfl) rfl ?_ ?_
  rotate_left
  ·go_simp
   rfl
  refine hK.out _ _ ((cf_ NB493_488 hHeld)) (fun hHeld => ?_)
  clear hK K
  refine one_ (i := 3) (N := none) bq_5 rfl rfl (by kernel_rfl) (by decide) (fun K hK => ?_)
  have hs354 : w352.cell? ⟨gb489, 0, none⟩ = some (.int .i64 0) := (blk_cell BK489.out 0).trans rfl
  have hfs354 := blk_frozen BK489.out 0
  obtain ⟨n485_489, n486_489, n487_489, n493_489, n489_485, n489_486, n489_487, n489_493⟩ := an8_ NB485_489 NB486_489 NB487_489 NB493_489 NB489_485 NB489_486 NB489_487 NB489_493
  have hs355 : w352.cell? ⟨gb489, 1, none⟩ = some (.string (⟨#[]⟩ : ByteArray)) := (blk_cell BK489.out 1).trans rfl
  have hfs355 := blk_frozen BK489.out 1
  have hs356 : w352.cell? ⟨gb489, 2, none⟩ = some (.int .i64 0) := (blk_cell BK489.out 2).trans rfl
  have hfs356 := blk_frozen BK489.out 2
  have hs357 : w352.cell? ⟨gb489, 3, none⟩ = some (.bool false) := (blk_cell BK489.out 3).trans rfl
  have hfs357 := blk_frozen BK489.out 3
  have hs359 : w352.cell? ⟨gb489, 4, none⟩ = some (.slice none 0 0) := (blk_cell BK489.out 4).trans rfl
  have hfs359 := blk_frozen BK489.out 4
  refine skip_ (w1 := ?_) (by rfl) rfl ?_ ?_
  rotate_left
  ·go_simp
   rfl
  refine hK.out _ _ ((cf_ NB493_489 (cf_ NB493_489 (cf_ NB493_489 (cf_ NB493_489 (cf_ NB493_489 hHeld)))))) (fun hHeld => ?_)
  clear hK K
  refine done_ (by kernel_rfl) ?_
  try go_wp2
  refine bodyPost_ret (results_cc rfl _ _ gb488 gb489 42 129 #[.slice Ao19 t490.length co19] #[.int .i64 t495, .string t496, .int .i64 t497, .bool t498, .slice Ao358 t499.length co358] (0, 0) (0, 0) _ _ rfl tb_ Try.underlying42 rfl (by kernel_rfl) rfl tb_ Try.underlying129 rfl (by kernel_rfl)) rfl ?_
  exact ⟨_, _, tq_1, (by (with_reducible repeat (first | apply Kd.R_alloc | apply Kd.R_drewN | apply Kd.R_drew)); exact Kd.R_mono (rR_ (rR_ (rR_ (rR_ (rR_ (rR_ (Kd.R_types (Kd.R_types HO492.out BK488.out (by decide)) BK489.out (by decide)) (fun _ hk => hk.1.2))))))) (fun _ hk => trivial)), (by (with_reducible repeat (first | apply Kd.R_alloc | apply Kd.R_drewN | apply Kd.R_drew)); exact Kd.R_mono (rR_ (rR_ (rR_ (rR_ (rR_ (rR_ (Kd.R_types (Kd.R_types HO501.out BK488.out (by decide)) BK489.out (by decide)) (fun _ hk => hk.1.2))))))) (fun _ hk => trivial)), th_⟩
 subst c31
 rw [if_pos rfl] at H
 have HC32 := Aside0.mk H
 clear H
 go_upto_region 4 with (fail)
 go_cut [26] (fun v26 wc => ∃ (kq : Nat) (x26_31 : Bool), v26 = .bool x26_31 ∧ Aside0 (spec_Asked.j0 kq x26_31 a0_0 a0_1 a0_2 a0_3 l1_0 a2_0 a2_1 a2_2 a2_3 a2_4 a2_5 t490 = some (r1, r2, r3, r4, r5, r6)) ∧ Aside0 (kq ≤ k) ∧ Aside0 (Kd.R k44 44 wc w.heap.size (fun _ => True) (.slice Ao19 t490.length co19) t490) ∧ Aside0 (wc.heap[gb485]? = some (.cells #[.int .i64 a0_0, .int .i64 a0_1, .int .i64 a0_2, .int .i64 a0_3] 30 (0, 0))) ∧ Aside0 (wc.heap[gb486]? = some (.cells #[(.slice A1_0 l1_0.length c1_0)] 42 (0, 0))) ∧ Aside0 (wc.heap[gb487]? = some (.cells #[.int .i64 a2_0, .string a2_1, .string a2_2, .int .i64 a2_3, .int .i64 a2_4, .string a2_5] 133 (0, 0))) ∧ Aside0 (wc.heap[gb488]? = some (.cells #[(.slice none 0 0)] 42 (0, 0))) ∧ Aside0 (wc.heap[gb489]? = some (.cells #[.int .i64 0, .string (⟨#[]⟩ : ByteArray), .int .i64 0, .bool false, (.slice none 0 0)] 129 (0, 0))) ∧ Aside0 (wc.heap[gb493]? = some (.cells #[(.slice Ao19 t490.length co19)] 42 (0, 0))) ∧ Aside0 (Below w.heap.size w wc))
 case first =>
  have H := HC32.out
  clear HC32
  by_cases c33 : a2_0 = 1
  rotate_left
  ·rw [if_neg c33] at H
   have c33b0 := beq_eq_false_iff_ne.mpr c33
   have c33b1 := bne_iff_ne.mpr c33
   (first | rw [c33b0] | (simp only [i64_w, i32_w]; rw [c33b0]) | skip)
   have H' := Aside0.mk H
   clear H
   obtain ⟨n487_485, n485_487, n487_486, n486_487, n487_488, n488_487, n487_489, n489_487⟩ := an8_ NB487_485 NB485_487 NB487_486 NB486_487 NB487_488 NB488_487 NB487_489 NB489_487
   obtain ⟨n487_493, n493_487⟩ := an2_ NB487_493 NB493_487
   obtain ⟨hcz45_0, hcz45_1, hcz45_2, hcz45_3, hcz45_4, hcz45_5⟩ := bk6_ BK487.out
   obtain ⟨hfz45_0, hfz45_1, hfz45_2, hfz45_3, hfz45_4, hfz45_5⟩ := bf6_ BK487.out
   go_wp2
   go_meet
   case rel => exact ⟨_, ((a2_0 == 2)), tq_5, H', ⟨tq_38⟩, ⟨(raR_ HO492)⟩, ⟨(kb_ BK485)⟩, ⟨(kb_ BK486)⟩, ⟨(kb_ BK487)⟩, ⟨(kb_ BK488)⟩, ⟨(kb_ BK489)⟩, ⟨(kb_ BK493)⟩, ⟨th_⟩⟩
  rw [if_pos c33] at H
  have c33b0 := beq_iff_eq.mpr c33
  have c33b1 := bne_eq_false_iff_eq.mpr c33
  clear c33
  (first | rw [c33b0] | (simp only [i64_w, i32_w]; rw [c33b0]) | skip)
  have H' := Aside0.mk H
  clear H
  obtain ⟨n487_485, n485_487, n487_486, n486_487, n487_488, n488_487, n487_489, n489_487⟩ := an8_ NB487_485 NB485_487 NB487_486 NB486_487 NB487_488 NB488_487 NB487_489 NB489_487
  obtain ⟨n487_493, n493_487⟩ := an2_ NB487_493 NB493_487
  obtain ⟨hcz39_0, hcz39_1, hcz39_2, hcz39_3, hcz39_4, hcz39_5⟩ := bk6_ BK487.out
  obtain ⟨hfz39_0, hfz39_1, hfz39_2, hfz39_3, hfz39_4, hfz39_5⟩ := bf6_ BK487.out
  go_wp2
  go_meet
  case rel => exact ⟨_, (true), tq_5, H', ⟨tq_38⟩, ⟨(raR_ HO492)⟩, ⟨(kb_ BK485)⟩, ⟨(kb_ BK486)⟩, ⟨(kb_ BK487)⟩, ⟨(kb_ BK488)⟩, ⟨(kb_ BK489)⟩, ⟨(kb_ BK493)⟩, ⟨th_⟩⟩
 case rest =>
 clear HC32
 try clear c1; try clear c2; try clear p2; try clear c3; try clear c4; try clear c10; try clear c12; try clear c13; try clear c14; try clear c15; try clear c20; try clear c21; try clear c22; try clear c23; try clear c24; try clear c26; try clear c27; try clear c28; try clear c31; try clear c33; try clear c33b0; try clear c33b1; try clear c34; try clear c35; try clear c36; try clear c37; try clear c38; try clear c40; try clear c41; try clear c42; try clear c43; try clear c44; try clear hcz16_0; try clear hcz25_0; try clear hcz29_0 hcz29_1 hcz29_2 hcz29_3 hcz29_4 hcz29_5; try clear hcz39_0 hcz39_1 hcz39_2 hcz39_3 hcz39_4 hcz39_5; try clear hcz45_0 hcz45_1 hcz45_2 hcz45_3 hcz45_4 hcz45_5; try clear hfz16_0; try clear hfz25_0; try clear hfz29_0 hfz29_1 hfz29_2 hfz29_3 hfz29_4 hfz29_5; try clear hfz39_0 hfz39_1 hfz39_2 hfz39_3 hfz39_4 hfz39_5; try clear hfz45_0 hfz45_1 hfz45_2 hfz45_3 hfz45_4 hfz45_5
 obtain ⟨kq, x26_31, rfl, HA, HJ31, HO_494000, BK485, BK486, BK487, BK488, BK489, BK493, HB⟩ := hcut
 cases kq with
 | zero => exact absurd HA.out (by simp [spec_Asked.j0])
 | succ kj31 =>
 have H := HA.out
 clear HA
 simp only [spec_Asked.j0] at H
 by_cases c46 : x26_31 = true
 ·subst c46
  rw [if_pos rfl] at H
  obtain ⟨⟨t502, t505, t506, t507, t508, t509⟩, A47, H⟩ := bd_ H
  try dsimp -simprocs only at H
  simp only [Option.some.injEq, Prod.mk.injEq] at H
  obtain ⟨rfl, rfl, rfl, rfl, rfl, rfl⟩ := H
  obtain ⟨n485_486, n486_485, n485_487, n487_485, n485_488, n488_485, n485_489, n489_485⟩ := an8_ NB485_486 NB486_485 NB485_487 NB487_485 NB485_488 NB488_485 NB485_489 NB489_485
  obtain ⟨n485_493, n493_485⟩ := an2_ NB485_493 NB493_485
  obtain ⟨hcz53_0, hcz53_1, hcz53_2, hcz53_3⟩ := bk4_ BK485.out
  obtain ⟨hfz53_0, hfz53_1, hfz53_2, hfz53_3⟩ := bf4_ BK485.out
  obtain ⟨n486_487, n487_486, n486_488, n488_486, n486_489, n489_486, n486_493, n493_486⟩ := an8_ NB486_487 NB487_486 NB486_488 NB488_486 NB486_489 NB489_486 NB486_493 NB493_486
  have hcz58_0 := bc_ BK486.out 0
  have hfz58_0 := blk_frozen BK486.out 0
  obtain ⟨n487_488, n488_487, n487_489, n489_487, n487_493, n493_487⟩ := an6_ NB487_488 NB488_487 NB487_489 NB489_487 NB487_493 NB493_487
  obtain ⟨hcz62_0, hcz62_1, hcz62_2, hcz62_3, hcz62_4, hcz62_5⟩ := bk6_ BK487.out
  obtain ⟨hfz62_0, hfz62_1, hfz62_2, hfz62_3, hfz62_4, hfz62_5⟩ := bf6_ BK487.out
  go_wp2_with (first | ((with_reducible refine gate_callee (f := 126) rfl ?_); refine goesL_ (some 30) rfl rfl Try.func126 (by kernel_rfl) rfl #[.agg #[.int .i64 a0_0, .int .i64 a0_1, .int .i64 a0_2, .int .i64 a0_3], .agg #[.slice A1_0 l1_0.length c1_0], .agg #[.int .i64 a2_0, .string a2_1, .string a2_2, .int .i64 a2_3, .int .i64 a2_4, .string a2_5]] rfl tq_0 ?_; (with_reducible refine (spec_l17New.calls kj31 a0_0 a0_1 a0_2 a0_3 _ _ l1_0 a2_0 a2_1 a2_2 a2_3 a2_4 a2_5 t502 t505 t506 t507 t508 t509 _ ?side1 ?side2 A47.out).mono ?_); (case side1 => exact tq_11); (case side2 => exact HC1_0.out); rintro e w63 ⟨v503, v510, rfl, ho0, ho1, hb⟩; refine ⟨_, rfl, ?_⟩; have z_ := p_ (Kd.R_elder' (raR_ HO_494000) (Kd.R_base ho0) hb) <| p_ (Kd.R_lower (Kd.R_new' ho0 (Kd.R_lt (raR_ HO_494000))) (below_size th_)) <| p_ (Kd.R_lower ho1 (below_size th_)) <| bw6_ (kb_ BK485) (kb_ BK486) (kb_ BK487) (kb_ BK488) (kb_ BK489) (kb_ BK493) th_ hb; clear HO_494000 BK485 BK486 BK487 BK488 BK489 BK493 HB; obtain ⟨HO_494000, HO504, HO511, BK485, BK486, BK487, BK488, BK489, BK493, HB⟩ := z_; (try clear hb); (try clear ho0); (try clear ho1); obtain ⟨Ao64, co64, eo64⟩ := Kd.R_slice HO504.out; subst eo64; obtain ⟨n488_489, n489_488, n488_493, n493_488⟩ := an4_ NB488_489 NB489_488 NB488_493 NB493_488; have hcz67_0 := bc_ BK488.out 0; have hfz67_0 := blk_frozen BK488.out 0; obtain ⟨n489_493, n493_489⟩ := an2_ NB489_493 NB493_489; obtain ⟨hcz69_0, hcz69_1, hcz69_2, hcz69_3, hcz69_4⟩ := bk5_ BK489.out; obtain ⟨hfz69_0, hfz69_1, hfz69_2, hfz69_3, hfz69_4⟩ := bf5_ BK489.out; obtain ⟨Ao70, co70, eo70⟩ := Kd.R_slice HO511.out; subst eo70))
  refine bodyPost_ret (results_cc rfl _ _ gb488 gb489 42 129 #[.slice Ao64 t502.length co64] #[.int .i64 t505, .string t506, .int .i64 t507, .bool t508, .slice Ao70 t509.length co70] (0, 0) (0, 0) _ _ rfl tb_ Try.underlying42 rfl (by kernel_rfl) rfl tb_ Try.underlying129 rfl (by kernel_rfl)) rfl ?_
  exact ⟨_, _, tq_1, (by (with_reducible repeat (first | apply Kd.R_alloc | apply Kd.R_drewN | apply Kd.R_drew)); exact Kd.R_mono (rR_ (rR_ (rR_ (rR_ (rR_ (rR_ (Kd.R_types (Kd.R_types HO504.out BK488.out (by decide)) BK489.out (by decide)) (fun _ hk => hk.1.2))))))) (fun _ hk => trivial)), (by (with_reducible repeat (first | apply Kd.R_alloc | apply Kd.R_drewN | apply Kd.R_drew)); exact Kd.R_mono (rR_ (rR_ (rR_ (rR_ (rR_ (rR_ (Kd.R_types (Kd.R_types HO511.out BK488.out (by decide)) BK489.out (by decide)) (fun _ hk => hk.1.2))))))) (fun _ hk => trivial)), th_⟩
 replace c46 := Bool.eq_false_iff.mpr c46
 subst c46
 rw [if_neg nf_] at H
 obtain ⟨t512, A71, H⟩ := bd_ H
 have HC72 := Aside0.mk H
 clear H
 obtain ⟨n486_485, n485_486, n486_487, n487_486, n486_488, n488_486, n486_489, n489_486⟩ := an8_ NB486_485 NB485_486 NB486_487 NB487_486 NB486_488 NB488_486 NB486_489 NB489_486
 obtain ⟨n486_493, n493_486⟩ := an2_ NB486_493 NB493_486
 have hcz78_0 := bc_ BK486.out 0
 have hfz78_0 := blk_frozen BK486.out 0
 obtain ⟨n487_485, n485_487, n487_488, n488_487, n487_489, n489_487, n487_493, n493_487⟩ := an8_ NB487_485 NB485_487 NB487_488 NB488_487 NB487_489 NB489_487 NB487_493 NB493_487
 obtain ⟨hcz83_0, hcz83_1, hcz83_2, hcz83_3, hcz83_4, hcz83_5⟩ := bk6_ BK487.out
 obtain ⟨hfz83_0, hfz83_1, hfz83_2, hfz83_3, hfz83_4, hfz83_5⟩ := bf6_ BK487.out
 go_upto_if 38 with (first | ((with_reducible refine gate_callee (f := 127) rfl ?_); refine goesL_ (some 36) rfl rfl Try.func127 (by kernel_rfl) rfl #[.agg #[.slice A1_0 l1_0.length c1_0], .string a2_1] rfl tq_0 ?_; (with_reducible refine (spec_LookUp.calls kj31 _ _ l1_0 a2_1 t512 _ ?side1 ?side2 A71.out).mono ?_); (case side1 => exact tq_11); (case side2 => exact HC1_0.out); rintro e w84 ⟨rfl, hb⟩; refine ⟨_, rfl, ?_⟩; have z_ := p_ (Kd.R_below (raR_ HO_494000) hb) <| bw6_ (kb_ BK485) (kb_ BK486) (kb_ BK487) (kb_ BK488) (kb_ BK489) (kb_ BK493) th_ hb; clear HO_494000 BK485 BK486 BK487 BK488 BK489 BK493 HB; obtain ⟨HO_494000, BK485, BK486, BK487, BK488, BK489, BK493, HB⟩ := z_; (try clear hb)))
 (try simp only [Act.put, List.setIfInBounds_toArray, List.set_cons_zero, List.set_cons_succ])
 (try clear n485_486 n485_487 n486_485 n486_487 n486_488 n486_489 n486_493 n487_485 n487_486 n487_488 n487_489 n487_493 n488_486 n488_487 n489_486 n489_487 n493_486 n493_487)
 (try clear hcz83_0 hcz83_1 hcz83_2 hcz83_3 hcz83_4 hcz83_5)
 (try clear hfz83_0 hfz83_1 hfz83_2 hfz83_3 hfz83_4 hfz83_5)
 have H := HC72.out
 clear HC72
 by_cases c85 : t512 = 0
 rotate_left
 ·rw [if_neg c85] at H
  have c85b0 := beq_eq_false_iff_ne.mpr c85
  have c85b1 := bne_iff_ne.mpr c85
  (first | rw [c85b0] | (simp only [i64_w, i32_w]; rw [c85b0]) | skip)
  obtain ⟨⟨t513, t514, t515, t516, t517⟩, A340, H⟩ := bd_ H
  try dsimp -simprocs only at H
  simp only [Option.some.injEq, Prod.mk.injEq] at H
  obtain ⟨rfl, rfl, rfl, rfl, rfl, rfl⟩ := H
  try go_wp2
  have z_ := p_ (Kd.R_drew HO_494000.out) <| dw6_ BK485 BK486 BK487 BK488 BK489 BK493 HB
  clear HO_494000 BK485 BK486 BK487 BK488 BK489 BK493 HB
  obtain ⟨HO_494000, BK485, BK486, BK487, BK488, BK489, BK493, HB⟩ := z_
  refine start_ (n := 5) (S := fun w' => w'.cell? ⟨gb493, 0, none⟩ = some (.slice Ao19 t490.length co19)) (ds := []) bq_66 (by kernel_rfl) rfl rfl ((blk_cell BK493.out 0).trans rfl) (fun hHeld => ?_)
  generalize w84.drew = w341 at HO_494000 BK485 BK486 BK487 BK488 BK489 BK493 HB hHeld ⊢
  refine yq_ (i := 1) (N := some 40) bq_75 (by kernel_rfl) ?_
  refine take_ (i := 0) (N := some 39) (v := ?_) (a' := ?_) bq_76 rfl rfl (by kernel_rfl) (fun _ _ _ h => h) (Or.inl ⟨(by rfl), ?_⟩) hHeld ?_ ?_
  rotate_left
  ·intro w' s0
   go_simp
   with_reducible rfl
  rotate_left
  ·simp only [Act.put, List.setIfInBounds_toArray, List.set_cons_zero, List.set_cons_succ, i64_w, i32_w]
   rfl
  refine one_ (i := 2) (N := some 41) bq_77 rfl rfl (by kernel_rfl) (by decide) (fun K hK => ?_)
  refine goes_ Try.func125 (by kernel_rfl) rfl #[.int .i64 t512] (by rfl) rfl rfl tq_0 ?_
  with_reducible refine (spec_l17Fails.calls t512 t513 t514 t515 t516 t517 _ A340.out).mono ?_
  rintro e w342 ⟨v518, rfl, ho0, hb⟩
  refine ⟨_, rfl, ?_⟩
  have z_ := p_ (Kd.R_below (raR_ HO_494000) hb) <| p_ (Kd.R_lower ho0 (below_size th_)) <| bw6_ (kb_ BK485) (kb_ BK486) (kb_ BK487) (kb_ BK488) (kb_ BK489) (kb_ BK493) th_ hb
  clear HO_494000 BK485 BK486 BK487 BK488 BK489 BK493 HB
  obtain ⟨HO_494000, HO519, BK485, BK486, BK487, BK488, BK489, BK493, HB⟩ := z_
  (try clear hb)
  (try clear ho0)
  obtain ⟨Ao348, co348, eo348⟩ := Kd.R_slice HO519.out
  (first | subst eo348 | (injection eo348 with f1_ f2_ f3_; have f4_ := f1_.symm; have f5_ := f3_.symm; clear f1_ f2_ f3_; subst f4_; subst f5_))
  refine hK.out _ _ ((blk_cell BK493.out 0).trans rfl) (fun hHeld => ?_)
  clear hK K
  refine nm_ (some 41) ?_
  refine one_ (i := 3) (N := none) bq_67 rfl rfl (by kernel_rfl) (by decide) (fun K hK => ?_)
  have hs343 : w342.cell? ⟨gb488, 0, none⟩ = some (.slice none 0 0) := (blk_cell BK488.out 0).trans rfl
  have hfs343 := blk_frozen BK488.out 0
  obtain ⟨n485_488, n486_488, n487_488, n489_488, n493_488, n488_485, n488_486, n488_487⟩ := an8_ NB485_488 NB486_488 NB487_488 NB489_488 NB493_488 NB488_485 NB488_486 NB488_487
  obtain ⟨n488_489, n488_493⟩ := an2_ NB488_489 NB488_493
  refine skip_ (w1 := ?_) (by rfl) rfl ?_ ?_
  rotate_left
  ·go_simp
   rfl
  refine hK.out _ _ ((cf_ NB493_488 hHeld)) (fun hHeld => ?_)
  clear hK K
  refine one_ (i := 4) (N := none) bq_68 rfl rfl (by kernel_rfl) (by decide) (fun K hK => ?_)
  have hs344 : w342.cell? ⟨gb489, 0, none⟩ = some (.int .i64 0) := (blk_cell BK489.out 0).trans rfl
  have hfs344 := blk_frozen BK489.out 0
  obtain ⟨n485_489, n486_489, n487_489, n493_489, n489_485, n489_486, n489_487, n489_493⟩ := an8_ NB485_489 NB486_489 NB487_489 NB493_489 NB489_485 NB489_486 NB489_487 NB489_493
  have hs345 : w342.cell? ⟨gb489, 1, none⟩ = some (.string (⟨#[]⟩ : ByteArray)) := (blk_cell BK489.out 1).trans rfl
  have hfs345 := blk_frozen BK489.out 1
  have hs346 : w342.cell? ⟨gb489, 2, none⟩ = some (.int .i64 0) := (blk_cell BK489.out 2).trans rfl
  have hfs346 := blk_frozen BK489.out 2
  have hs347 : w342.cell? ⟨gb489, 3, none⟩ = some (.bool false) := (blk_cell BK489.out 3).trans rfl
  have hfs347 := blk_frozen BK489.out 3
  have hs349 : w342.cell? ⟨gb489, 4, none⟩ = some (.slice none 0 0) := (blk_cell BK489.out 4).trans rfl
  have hfs349 := blk_frozen BK489.out 4
  refine skip_ (w1 := ?_) (by rfl) rfl ?_ ?_
  rotate_left
  ·go_simp
   rfl
  refine hK.out _ _ ((cf_ NB493_489 (cf_ NB493_489 (cf_ NB493_489 (cf_ NB493_489 (cf_ NB493_489 hHeld)))))) (fun hHeld => ?_)
  clear hK K
  refine done_ (by kernel_rfl) ?_
  try go_wp2
  refine bodyPost_ret (results_cc rfl _ _ gb488 gb489 42 129 #[.slice Ao19 t490.length co19] #[.int .i64 t513, .string t514, .int .i64 t515, .bool t516, .slice Ao348 t517.length co348] (0, 0) (0, 0) _ _ rfl tb_ Try.underlying42 rfl (by kernel_rfl) rfl tb_ Try.underlying129 rfl (by kernel_rfl)) rfl ?_
  exact ⟨_, _, tq_1, tq_17, (by (with_reducible repeat (first | apply Kd.R_alloc | apply Kd.R_drewN | apply Kd.R_drew)); exact Kd.R_mono (rR_ (rR_ (rR_ (rR_ (rR_ (rR_ (Kd.R_types (Kd.R_types HO519.out BK488.out (by decide)) BK489.out (by decide)) (fun _ hk => hk.1.2))))))) (fun _ hk => trivial)), th_⟩
 rw [if_pos c85] at H
 have c85b0 := beq_iff_eq.mpr c85
 have c85b1 := bne_eq_false_iff_eq.mpr c85
 clear c85
 (first | rw [c85b0] | (simp only [i64_w, i32_w]; rw [c85b0]) | skip)
 obtain ⟨t520, A86, H⟩ := bd_ H
 obtain ⟨t521, A87, H⟩ := bd_ H
 have HC88 := Aside0.mk H
 clear H
 obtain ⟨n486_485, n485_486, n486_487, n487_486, n486_488, n488_486, n486_489, n489_486⟩ := an8_ NB486_485 NB485_486 NB486_487 NB487_486 NB486_488 NB488_486 NB486_489 NB489_486
 obtain ⟨n486_493, n493_486⟩ := an2_ NB486_493 NB493_486
 have hcz94_0 := bc_ BK486.out 0
 have hfz94_0 := blk_frozen BK486.out 0
 obtain ⟨n487_485, n485_487, n487_488, n488_487, n487_489, n489_487, n487_493, n493_487⟩ := an8_ NB487_485 NB485_487 NB487_488 NB488_487 NB487_489 NB489_487 NB487_493 NB493_487
 obtain ⟨hcz99_0, hcz99_1, hcz99_2, hcz99_3, hcz99_4, hcz99_5⟩ := bk6_ BK487.out
 obtain ⟨hfz99_0, hfz99_1, hfz99_2, hfz99_3, hfz99_4, hfz99_5⟩ := bf6_ BK487.out
 go_upto_if 52 with (first | ((with_reducible refine gate_callee (f := 128) rfl ?_); refine goesL_ (some 45) rfl rfl Try.func128 (by kernel_rfl) rfl #[.agg #[.slice A1_0 l1_0.length c1_0], .string a2_1] rfl tq_0 ?_; (with_reducible refine (spec_l17Dir.calls kj31 _ _ l1_0 a2_1 t520 _ ?side1 ?side2 A86.out).mono ?_); (case side1 => exact tq_11); (case side2 => exact HC1_0.out); rintro e w100 ⟨rfl, hb⟩; refine ⟨_, rfl, ?_⟩; have z_ := p_ (Kd.R_below (raR_ HO_494000) hb) <| bw6_ (kb_ BK485) (kb_ BK486) (kb_ BK487) (kb_ BK488) (kb_ BK489) (kb_ BK493) th_ hb; clear HO_494000 BK485 BK486 BK487 BK488 BK489 BK493 HB; obtain ⟨HO_494000, BK485, BK486, BK487, BK488, BK489, BK493, HB⟩ := z_; (try clear hb); have hcz101_0 := bc_ BK486.out 0; have hfz101_0 := blk_frozen BK486.out 0; obtain ⟨hcz102_0, hcz102_1, hcz102_2, hcz102_3, hcz102_4, hcz102_5⟩ := bk6_ BK487.out; obtain ⟨hfz102_0, hfz102_1, hfz102_2, hfz102_3, hfz102_4, hfz102_5⟩ := bf6_ BK487.out) | ((with_reducible refine gate_callee (f := 129) rfl ?_); refine goesL_ (some 49) rfl rfl Try.func129 (by kernel_rfl) rfl #[.agg #[.slice A1_0 l1_0.length c1_0], .string a2_1] rfl tq_0 ?_; (with_reducible refine (spec_ItemAt.calls kj31 _ _ l1_0 a2_1 t521 _ ?side1 ?side2 A87.out).mono ?_); (case side1 => exact tq_11); (case side2 => exact HC1_0.out); rintro e w103 ⟨rfl, hb⟩; refine ⟨_, rfl, ?_⟩; have z_ := p_ (Kd.R_below (raR_ HO_494000) hb) <| bw6_ (kb_ BK485) (kb_ BK486) (kb_ BK487) (kb_ BK488) (kb_ BK489) (kb_ BK493) th_ hb; clear HO_494000 BK485 BK486 BK487 BK488 BK489 BK493 HB; obtain ⟨HO_494000, BK485, BK486, BK487, BK488, BK489, BK493, HB⟩ := z_; (try clear hb); obtain ⟨hcz104_0, hcz104_1, hcz104_2, hcz104_3, hcz104_4, hcz104_5⟩ := bk6_ BK487.out; obtain ⟨hfz104_0, hfz104_1, hfz104_2, hfz104_3, hfz104_4, hfz104_5⟩ := bf6_ BK487.out))
 (try simp only [Act.put, List.setIfInBounds_toArray, List.set_cons_zero, List.set_cons_succ])
 (try clear n485_486 n485_487 n486_485 n486_487 n486_488 n486_489 n486_493 n487_485 n487_486 n487_488 n487_489 n487_493 n488_486 n488_487 n489_486 n489_487 n493_486 n493_487)
 (try clear hcz101_0)
 (try clear hcz102_0 hcz102_1 hcz102_2 hcz102_3 hcz102_4 hcz102_5)
 (try clear hcz104_0 hcz104_1 hcz104_2 hcz104_3 hcz104_4 hcz104_5)
 (try clear hcz99_0 hcz99_1 hcz99_2 hcz99_3 hcz99_4 hcz99_5)
 (try clear hfz101_0)
 (try clear hfz102_0 hfz102_1 hfz102_2 hfz102_3 hfz102_4 hfz102_5)
 (try clear hfz104_0 hfz104_1 hfz104_2 hfz104_3 hfz104_4 hfz104_5)
 (try clear hfz99_0 hfz99_1 hfz99_2 hfz99_3 hfz99_4 hfz99_5)
 have H := HC88.out
 clear HC88
 by_cases c105 : a2_0 = 3
 ·rw [if_pos c105] at H
  have c105b0 := beq_iff_eq.mpr c105
  have c105b1 := bne_eq_false_iff_eq.mpr c105
  clear c105
  (first | rw [c105b0] | (simp only [i64_w, i32_w]; rw [c105b0]) | skip)
  by_cases c106 : t520 = true
  rotate_left
  ·replace c106 := Bool.eq_false_iff.mpr c106
   subst c106
   rw [if_neg nf_] at H
   obtain ⟨t529, A117, H⟩ := bd_ H
   simp only [Option.some.injEq, Prod.mk.injEq] at H
   obtain ⟨rfl, rfl, rfl, rfl, rfl, rfl⟩ := H
   obtain ⟨n486_485, n485_486, n486_487, n487_486, n486_488, n488_486, n486_489, n489_486⟩ := an8_ NB486_485 NB485_486 NB486_487 NB487_486 NB486_488 NB488_486 NB486_489 NB489_486
   obtain ⟨n486_493, n493_486⟩ := an2_ NB486_493 NB493_486
   have hcz123_0 := bc_ BK486.out 0
   have hfz123_0 := blk_frozen BK486.out 0
   obtain ⟨n487_485, n485_487, n487_488, n488_487, n487_489, n489_487, n487_493, n493_487⟩ := an8_ NB487_485 NB485_487 NB487_488 NB488_487 NB487_489 NB489_487 NB487_493 NB493_487
   obtain ⟨hcz128_0, hcz128_1, hcz128_2, hcz128_3, hcz128_4, hcz128_5⟩ := bk6_ BK487.out
   obtain ⟨hfz128_0, hfz128_1, hfz128_2, hfz128_3, hfz128_4, hfz128_5⟩ := bf6_ BK487.out
   go_wp2_with (first | ((with_reducible refine gate_callee (f := 18) rfl ?_); refine goesL_ (some 60) rfl rfl Try.func18 (by kernel_rfl) rfl #[.agg #[.slice A1_0 l1_0.length c1_0], .string a2_1] rfl tq_0 ?_; (with_reducible refine (spec_DropItem.calls kj31 _ _ l1_0 a2_1 t529 _ ?side1 ?side2 A117.out).mono ?_); (case side1 => exact tq_11); (case side2 => exact HC1_0.out); rintro e w129 ⟨v530, rfl, ho0, hb⟩; refine ⟨_, rfl, ?_⟩; have z_ := p_ (Kd.R_elder' (raR_ HO_494000) (Kd.R_base ho0) hb) <| p_ (Kd.R_lower (Kd.R_new' ho0 (Kd.R_lt (raR_ HO_494000))) (below_size th_)) <| bw6_ (kb_ BK485) (kb_ BK486) (kb_ BK487) (kb_ BK488) (kb_ BK489) (kb_ BK493) th_ hb; clear HO_494000 BK485 BK486 BK487 BK488 BK489 BK493 HB; obtain ⟨HO_494000, HO531, BK485, BK486, BK487, BK488, BK489, BK493, HB⟩ := z_; (try clear hb); (try clear ho0); obtain ⟨Ao130, co130, eo130⟩ := Kd.R_slice HO531.out; subst eo130; obtain ⟨n488_485, n485_488, n488_489, n489_488, n488_493, n493_488⟩ := an6_ NB488_485 NB485_488 NB488_489 NB489_488 NB488_493 NB493_488; have hcz134_0 := bc_ BK488.out 0; have hfz134_0 := blk_frozen BK488.out 0; obtain ⟨n489_485, n485_489, n489_493, n493_489⟩ := an4_ NB489_485 NB485_489 NB489_493 NB493_489; obtain ⟨hcz137_0, hcz137_1, hcz137_2, hcz137_3, hcz137_4⟩ := bk5_ BK489.out; obtain ⟨hfz137_0, hfz137_1, hfz137_2, hfz137_3, hfz137_4⟩ := bf5_ BK489.out))
   refine bodyPost_ret (results_cc rfl _ _ gb488 gb489 42 129 #[.slice Ao130 t529.length co130] #[.int .i64 0, .string (⟨#[]⟩ : ByteArray), .int .i64 0, .bool false, .slice none 0 0] (0, 0) (0, 0) _ _ rfl tb_ Try.underlying42 rfl (by kernel_rfl) rfl tb_ Try.underlying129 rfl (by kernel_rfl)) rfl ?_
   exact ⟨_, _, tq_1, (by (with_reducible repeat (first | apply Kd.R_alloc | apply Kd.R_drewN | apply Kd.R_drew)); exact Kd.R_mono (rR_ (rR_ (rR_ (rR_ (rR_ (rR_ (Kd.R_types (Kd.R_types HO531.out BK488.out (by decide)) BK489.out (by decide)) (fun _ hk => hk.1.2))))))) (fun _ hk => trivial)), tq_22, th_⟩
  subst c106
  rw [if_pos rfl] at H
  obtain ⟨⟨t522, t523, t524, t525, t526⟩, A107, H⟩ := bd_ H
  try dsimp -simprocs only at H
  simp only [Option.some.injEq, Prod.mk.injEq] at H
  obtain ⟨rfl, rfl, rfl, rfl, rfl, rfl⟩ := H
  try go_wp2
  have z_ := p_ (Kd.R_drew HO_494000.out) <| dw6_ BK485 BK486 BK487 BK488 BK489 BK493 HB
  clear HO_494000 BK485 BK486 BK487 BK488 BK489 BK493 HB
  obtain ⟨HO_494000, BK485, BK486, BK487, BK488, BK489, BK493, HB⟩ := z_
  refine start_ (n := 4) (S := fun w' => w'.cell? ⟨gb493, 0, none⟩ = some (.slice Ao19 t490.length co19)) (ds := []) bq_1 (by kernel_rfl) rfl rfl ((blk_cell BK493.out 0).trans rfl) (fun hHeld => ?_)
  generalize w103.drew = w108 at HO_494000 BK485 BK486 BK487 BK488 BK489 BK493 HB hHeld ⊢
  refine take_ (i := 0) (N := some 55) (v := ?_) (a' := ?_) bq_2 rfl rfl (by kernel_rfl) (fun _ _ _ h => h) (Or.inl ⟨(by rfl), ?_⟩) hHeld ?_ ?_
  rotate_left
  ·intro w' s0
   go_simp
   with_reducible rfl
  rotate_left
  ·simp only [Act.put, List.setIfInBounds_toArray, List.set_cons_zero, List.set_cons_succ, i64_w, i32_w]
   rfl
  refine one_ (i := 1) (N := some 56) bq_3 rfl rfl (by kernel_rfl) (by decide) (fun K hK => ?_)
  refine goes_ Try.func125 (by kernel_rfl) rfl #[.int .i64 5] (by rfl) rfl rfl tq_0 ?_
  with_reducible refine (spec_l17Fails.calls 5 t522 t523 t524 t525 t526 _ A107.out).mono ?_
  rintro e w109 ⟨v527, rfl, ho0, hb⟩
  refine ⟨_, rfl, ?_⟩
  have z_ := p_ (Kd.R_below (raR_ HO_494000) hb) <| p_ (Kd.R_lower ho0 (below_size th_)) <| bw6_ (kb_ BK485) (kb_ BK486) (kb_ BK487) (kb_ BK488) (kb_ BK489) (kb_ BK493) th_ hb
  clear HO_494000 BK485 BK486 BK487 BK488 BK489 BK493 HB
  obtain ⟨HO_494000, HO528, BK485, BK486, BK487, BK488, BK489, BK493, HB⟩ := z_
  (try clear hb)
  (try clear ho0)
  obtain ⟨Ao115, co115, eo115⟩ := Kd.R_slice HO528.out
  (first | subst eo115 | (injection eo115 with f1_ f2_ f3_; have f4_ := f1_.symm; have f5_ := f3_.symm; clear f1_ f2_ f3_; subst f4_; subst f5_))
  refine hK.out _ _ ((blk_cell BK493.out 0).trans rfl) (fun hHeld => ?_)
  clear hK K
  refine nm_ (some 56) ?_
  refine one_ (i := 2) (N := none) bq_4 rfl rfl (by kernel_rfl) (by decide) (fun K hK => ?_)
  have hs110 : w109.cell? ⟨gb488, 0, none⟩ = some (.slice none 0 0) := (blk_cell BK488.out 0).trans rfl
  have hfs110 := blk_frozen BK488.out 0
  obtain ⟨n485_488, n486_488, n487_488, n489_488, n493_488, n488_485, n488_486, n488_487⟩ := an8_ NB485_488 NB486_488 NB487_488 NB489_488 NB493_488 NB488_485 NB488_486 NB488_487
  obtain ⟨n488_489, n488_493⟩ := an2_ NB488_489 NB488_493
  refine skip_ (w1 := ?_) (by rfl) rfl ?_ ?_
  rotate_left
  ·go_simp
   rfl
  refine hK.out _ _ ((cf_ NB493_488 hHeld)) (fun hHeld => ?_)
  clear hK K
  refine one_ (i := 3) (N := none) bq_5 rfl rfl (by kernel_rfl) (by decide) (fun K hK => ?_)
  have hs111 : w109.cell? ⟨gb489, 0, none⟩ = some (.int .i64 0) := (blk_cell BK489.out 0).trans rfl
  have hfs111 := blk_frozen BK489.out 0
  obtain ⟨n485_489, n486_489, n487_489, n493_489, n489_485, n489_486, n489_487, n489_493⟩ := an8_ NB485_489 NB486_489 NB487_489 NB493_489 NB489_485 NB489_486 NB489_487 NB489_493
  have hs112 : w109.cell? ⟨gb489, 1, none⟩ = some (.string (⟨#[]⟩ : ByteArray)) := (blk_cell BK489.out 1).trans rfl
  have hfs112 := blk_frozen BK489.out 1
  have hs113 : w109.cell? ⟨gb489, 2, none⟩ = some (.int .i64 0) := (blk_cell BK489.out 2).trans rfl
  have hfs113 := blk_frozen BK489.out 2
  have hs114 : w109.cell? ⟨gb489, 3, none⟩ = some (.bool false) := (blk_cell BK489.out 3).trans rfl
  have hfs114 := blk_frozen BK489.out 3
  have hs116 : w109.cell? ⟨gb489, 4, none⟩ = some (.slice none 0 0) := (blk_cell BK489.out 4).trans rfl
  have hfs116 := blk_frozen BK489.out 4
  refine skip_ (w1 := ?_) (by rfl) rfl ?_ ?_
  rotate_left
  ·go_simp
   rfl
  refine hK.out _ _ ((cf_ NB493_489 (cf_ NB493_489 (cf_ NB493_489 (cf_ NB493_489 (cf_ NB493_489 hHeld)))))) (fun hHeld => ?_)
  clear hK K
  refine done_ (by kernel_rfl) ?_
  try go_wp2
  refine bodyPost_ret (results_cc rfl _ _ gb488 gb489 42 129 #[.slice Ao19 t490.length co19] #[.int .i64 t522, .string t523, .int .i64 t524, .bool t525, .slice Ao115 t526.length co115] (0, 0) (0, 0) _ _ rfl tb_ Try.underlying42 rfl (by kernel_rfl) rfl tb_ Try.underlying129 rfl (by kernel_rfl)) rfl ?_
  exact ⟨_, _, tq_1, tq_17, (by (with_reducible repeat (first | apply Kd.R_alloc | apply Kd.R_drewN | apply Kd.R_drew)); exact Kd.R_mono (rR_ (rR_ (rR_ (rR_ (rR_ (rR_ (Kd.R_types (Kd.R_types HO528.out BK488.out (by decide)) BK489.out (by decide)) (fun _ hk => hk.1.2))))))) (fun _ hk => trivial)), th_⟩
 rw [if_neg c105] at H
 have c105b0 := beq_eq_false_iff_ne.mpr c105
 have c105b1 := bne_iff_ne.mpr c105
 (first | rw [c105b0] | (simp only [i64_w, i32_w]; rw [c105b0]) | skip)
 by_cases c138 : a2_0 = 4
 ·rw [if_pos c138] at H
  have c138b0 := beq_iff_eq.mpr c138
  have c138b1 := bne_eq_false_iff_eq.mpr c138
  clear c138
  have HC139 := Aside0.mk H
  clear H
  obtain ⟨n487_485, n485_487, n487_486, n486_487, n487_488, n488_487, n487_489, n489_487⟩ := an8_ NB487_485 NB485_487 NB487_486 NB486_487 NB487_488 NB488_487 NB487_489 NB489_487
  obtain ⟨n487_493, n493_487⟩ := an2_ NB487_493 NB493_487
  obtain ⟨hcz145_0, hcz145_1, hcz145_2, hcz145_3, hcz145_4, hcz145_5⟩ := bk6_ BK487.out
  obtain ⟨hfz145_0, hfz145_1, hfz145_2, hfz145_3, hfz145_4, hfz145_5⟩ := bf6_ BK487.out
  go_upto_if 64 with (fail)
  (try clear n485_487 n486_487 n487_485 n487_486 n487_488 n487_489 n487_493 n488_487 n489_487 n493_487)
  (try clear hcz145_0 hcz145_1 hcz145_2 hcz145_3 hcz145_4 hcz145_5)
  (try clear hfz145_0 hfz145_1 hfz145_2 hfz145_3 hfz145_4 hfz145_5)
  have H := HC139.out
  clear HC139
  by_cases c146 : a2_1.toList = ([47] : List UInt8)
  ·rw [if_pos c146] at H
   have c146b0 := beq_iff_eq.mpr c146
   have c146b1 := bne_eq_false_iff_eq.mpr c146
   clear c146
   (first | rw [c146b0] | (simp only [i64_w, i32_w]; rw [c146b0]) | skip)
   obtain ⟨⟨t532, t533, t534, t535, t536⟩, A147, H⟩ := bd_ H
   try dsimp -simprocs only at H
   simp only [Option.some.injEq, Prod.mk.injEq] at H
   obtain ⟨rfl, rfl, rfl, rfl, rfl, rfl⟩ := H
   try go_wp2
   have z_ := p_ (Kd.R_drew HO_494000.out) <| dw6_ BK485 BK486 BK487 BK488 BK489 BK493 HB
   clear HO_494000 BK485 BK486 BK487 BK488 BK489 BK493 HB
   obtain ⟨HO_494000, BK485, BK486, BK487, BK488, BK489, BK493, HB⟩ := z_
   refine start_ (n := 4) (S := fun w' => w'.cell? ⟨gb493, 0, none⟩ = some (.slice Ao19 t490.length co19)) (ds := []) bq_1 (by kernel_rfl) rfl rfl ((blk_cell BK493.out 0).trans rfl) (fun hHeld => ?_)
   generalize w103.drew = w148 at HO_494000 BK485 BK486 BK487 BK488 BK489 BK493 HB hHeld ⊢
   refine take_ (i := 0) (N := some 68) (v := ?_) (a' := ?_) bq_2 rfl rfl (by kernel_rfl) (fun _ _ _ h => h) (Or.inl ⟨(by rfl), ?_⟩) hHeld ?_ ?_
   rotate_left
   ·intro w' s0
    go_simp
    with_reducible rfl
   rotate_left
   ·simp only [Act.put, List.setIfInBounds_toArray, List.set_cons_zero, List.set_cons_succ, i64_w, i32_w]
    rfl
   refine one_ (i := 1) (N := some 69) bq_3 rfl rfl (by kernel_rfl) (by decide) (fun K hK => ?_)
   refine goes_ Try.func125 (by kernel_rfl) rfl #[.int .i64 9] (by rfl) rfl rfl tq_0 ?_
   with_reducible refine (spec_l17Fails.calls 9 t532 t533 t534 t535 t536 _ A147.out).mono ?_
   rintro e w149 ⟨v537, rfl, ho0, hb⟩
   refine ⟨_, rfl, ?_⟩
   have z_ := p_ (Kd.R_below (raR_ HO_494000) hb) <| p_ (Kd.R_lower ho0 (below_size th_)) <| bw6_ (kb_ BK485) (kb_ BK486) (kb_ BK487) (kb_ BK488) (kb_ BK489) (kb_ BK493) th_ hb
   clear HO_494000 BK485 BK486 BK487 BK488 BK489 BK493 HB
   obtain ⟨HO_494000, HO538, BK485, BK486, BK487, BK488, BK489, BK493, HB⟩ := z_
   (try clear hb)
   (try clear ho0)
   obtain ⟨Ao155, co155, eo155⟩ := Kd.R_slice HO538.out
   (first | subst eo155 | (injection eo155 with f1_ f2_ f3_; have f4_ := f1_.symm; have f5_ := f3_.symm; clear f1_ f2_ f3_; subst f4_; subst f5_))
   refine hK.out _ _ ((blk_cell BK493.out 0).trans rfl) (fun hHeld => ?_)
   clear hK K
   refine nm_ (some 69) ?_
   refine one_ (i := 2) (N := none) bq_4 rfl rfl (by kernel_rfl) (by decide) (fun K hK => ?_)
   have hs150 : w149.cell? ⟨gb488, 0, none⟩ = some (.slice none 0 0) := (blk_cell BK488.out 0).trans rfl
   have hfs150 := blk_frozen BK488.out 0
   obtain ⟨n485_488, n486_488, n487_488, n489_488, n493_488, n488_485, n488_486, n488_487⟩ := an8_ NB485_488 NB486_488 NB487_488 NB489_488 NB493_488 NB488_485 NB488_486 NB488_487
   obtain ⟨n488_489, n488_493⟩ := an2_ NB488_489 NB488_493
   refine skip_ (w1 := ?_) (by rfl) rfl ?_ ?_
   rotate_left
   ·go_simp
    rfl
   refine hK.out _ _ ((cf_ NB493_488 hHeld)) (fun hHeld => ?_)
   clear hK K
   refine one_ (i := 3) (N := none) bq_5 rfl rfl (by kernel_rfl) (by decide) (fun K hK => ?_)
   have hs151 : w149.cell? ⟨gb489, 0, none⟩ = some (.int .i64 0) := (blk_cell BK489.out 0).trans rfl
   have hfs151 := blk_frozen BK489.out 0
   obtain ⟨n485_489, n486_489, n487_489, n493_489, n489_485, n489_486, n489_487, n489_493⟩ := an8_ NB485_489 NB486_489 NB487_489 NB493_489 NB489_485 NB489_486 NB489_487 NB489_493
   have hs152 : w149.cell? ⟨gb489, 1, none⟩ = some (.string (⟨#[]⟩ : ByteArray)) := (blk_cell BK489.out 1).trans rfl
   have hfs152 := blk_frozen BK489.out 1
   have hs153 : w149.cell? ⟨gb489, 2, none⟩ = some (.int .i64 0) := (blk_cell BK489.out 2).trans rfl
   have hfs153 := blk_frozen BK489.out 2
   have hs154 : w149.cell? ⟨gb489, 3, none⟩ = some (.bool false) := (blk_cell BK489.out 3).trans rfl
   have hfs154 := blk_frozen BK489.out 3
   have hs156 : w149.cell? ⟨gb489, 4, none⟩ = some (.slice none 0 0) := (blk_cell BK489.out 4).trans rfl
   have hfs156 := blk_frozen BK489.out 4
   refine skip_ (w1 := ?_) (by rfl) rfl ?_ ?_
   rotate_left
   ·go_simp
    rfl
   refine hK.out _ _ ((cf_ NB493_489 (cf_ NB493_489 (cf_ NB493_489 (cf_ NB493_489 (cf_ NB493_489 hHeld)))))) (fun hHeld => ?_)
   clear hK K
   refine done_ (by kernel_rfl) ?_
   try go_wp2
   refine bodyPost_ret (results_cc rfl _ _ gb488 gb489 42 129 #[.slice Ao19 t490.length co19] #[.int .i64 t532, .string t533, .int .i64 t534, .bool t535, .slice Ao155 t536.length co155] (0, 0) (0, 0) _ _ rfl tb_ Try.underlying42 rfl (by kernel_rfl) rfl tb_ Try.underlying129 rfl (by kernel_rfl)) rfl ?_
   exact ⟨_, _, tq_1, tq_17, (by (with_reducible repeat (first | apply Kd.R_alloc | apply Kd.R_drewN | apply Kd.R_drew)); exact Kd.R_mono (rR_ (rR_ (rR_ (rR_ (rR_ (rR_ (Kd.R_types (Kd.R_types HO538.out BK488.out (by decide)) BK489.out (by decide)) (fun _ hk => hk.1.2))))))) (fun _ hk => trivial)), th_⟩
  rw [if_neg c146] at H
  have c146b0 := beq_eq_false_iff_ne.mpr c146
  have c146b1 := bne_iff_ne.mpr c146
  (first | rw [c146b0] | (simp only [i64_w, i32_w]; rw [c146b0]) | skip)
  by_cases c157 : t520 = true
  rotate_left
  ·replace c157 := Bool.eq_false_iff.mpr c157
   subst c157
   rw [if_neg nf_] at H
   obtain ⟨⟨t552, t553, t554, t555, t556⟩, A205, H⟩ := bd_ H
   try dsimp -simprocs only at H
   simp only [Option.some.injEq, Prod.mk.injEq] at H
   obtain ⟨rfl, rfl, rfl, rfl, rfl, rfl⟩ := H
   try go_wp2
   have z_ := p_ (Kd.R_drew HO_494000.out) <| dw6_ BK485 BK486 BK487 BK488 BK489 BK493 HB
   clear HO_494000 BK485 BK486 BK487 BK488 BK489 BK493 HB
   obtain ⟨HO_494000, BK485, BK486, BK487, BK488, BK489, BK493, HB⟩ := z_
   refine start_ (n := 4) (S := fun w' => w'.cell? ⟨gb493, 0, none⟩ = some (.slice Ao19 t490.length co19)) (ds := []) bq_1 (by kernel_rfl) rfl rfl ((blk_cell BK493.out 0).trans rfl) (fun hHeld => ?_)
   generalize w103.drew = w206 at HO_494000 BK485 BK486 BK487 BK488 BK489 BK493 HB hHeld ⊢
   refine take_ (i := 0) (N := some 73) (v := ?_) (a' := ?_) bq_2 rfl rfl (by kernel_rfl) (fun _ _ _ h => h) (Or.inl ⟨(by rfl), ?_⟩) hHeld ?_ ?_
   rotate_left
   ·intro w' s0
    go_simp
    with_reducible rfl
   rotate_left
   ·simp only [Act.put, List.setIfInBounds_toArray, List.set_cons_zero, List.set_cons_succ, i64_w, i32_w]
    rfl
   refine one_ (i := 1) (N := some 74) bq_3 rfl rfl (by kernel_rfl) (by decide) (fun K hK => ?_)
   refine goes_ Try.func125 (by kernel_rfl) rfl #[.int .i64 4] (by rfl) rfl rfl tq_0 ?_
   with_reducible refine (spec_l17Fails.calls 4 t552 t553 t554 t555 t556 _ A205.out).mono ?_
   rintro e w207 ⟨v557, rfl, ho0, hb⟩
   refine ⟨_, rfl, ?_⟩
   have z_ := p_ (Kd.R_below (raR_ HO_494000) hb) <| p_ (Kd.R_lower ho0 (below_size th_)) <| bw6_ (kb_ BK485) (kb_ BK486) (kb_ BK487) (kb_ BK488) (kb_ BK489) (kb_ BK493) th_ hb
   clear HO_494000 BK485 BK486 BK487 BK488 BK489 BK493 HB
   obtain ⟨HO_494000, HO558, BK485, BK486, BK487, BK488, BK489, BK493, HB⟩ := z_
   (try clear hb)
   (try clear ho0)
   obtain ⟨Ao213, co213, eo213⟩ := Kd.R_slice HO558.out
   (first | subst eo213 | (injection eo213 with f1_ f2_ f3_; have f4_ := f1_.symm; have f5_ := f3_.symm; clear f1_ f2_ f3_; subst f4_; subst f5_))
   refine hK.out _ _ ((blk_cell BK493.out 0).trans rfl) (fun hHeld => ?_)
   clear hK K
   refine nm_ (some 74) ?_
   refine one_ (i := 2) (N := none) bq_4 rfl rfl (by kernel_rfl) (by decide) (fun K hK => ?_)
   have hs208 : w207.cell? ⟨gb488, 0, none⟩ = some (.slice none 0 0) := (blk_cell BK488.out 0).trans rfl
   have hfs208 := blk_frozen BK488.out 0
   obtain ⟨n485_488, n486_488, n487_488, n489_488, n493_488, n488_485, n488_486, n488_487⟩ := an8_ NB485_488 NB486_488 NB487_488 NB489_488 NB493_488 NB488_485 NB488_486 NB488_487
   obtain ⟨n488_489, n488_493⟩ := an2_ NB488_489 NB488_493
   refine skip_ (w1 := ?_) (by rfl) rfl ?_ ?_
   rotate_left
   ·go_simp
    rfl
   refine hK.out _ _ ((cf_ NB493_488 hHeld)) (fun hHeld => ?_)
   clear hK K
   refine one_ (i := 3) (N := none) bq_5 rfl rfl (by kernel_rfl) (by decide) (fun K hK => ?_)
   have hs209 : w207.cell? ⟨gb489, 0, none⟩ = some (.int .i64 0) := (blk_cell BK489.out 0).trans rfl
   have hfs209 := blk_frozen BK489.out 0
   obtain ⟨n485_489, n486_489, n487_489, n493_489, n489_485, n489_486, n489_487, n489_493⟩ := an8_ NB485_489 NB486_489 NB487_489 NB493_489 NB489_485 NB489_486 NB489_487 NB489_493
   have hs210 : w207.cell? ⟨gb489, 1, none⟩ = some (.string (⟨#[]⟩ : ByteArray)) := (blk_cell BK489.out 1).trans rfl
   have hfs210 := blk_frozen BK489.out 1
   have hs211 : w207.cell? ⟨gb489, 2, none⟩ = some (.int .i64 0) := (blk_cell BK489.out 2).trans rfl
   have hfs211 := blk_frozen BK489.out 2
   have hs212 : w207.cell? ⟨gb489, 3, none⟩ = some (.bool false) := (blk_cell BK489.out 3).trans rfl
   have hfs212 := blk_frozen BK489.out 3
   have hs214 : w207.cell? ⟨gb489, 4, none⟩ = some (.slice none 0 0) := (blk_cell BK489.out 4).trans rfl
   have hfs214 := blk_frozen BK489.out 4
   refine skip_ (w1 := ?_) (by rfl) rfl ?_ ?_
   rotate_left
   ·go_simp
    rfl
   refine hK.out _ _ ((cf_ NB493_489 (cf_ NB493_489 (cf_ NB493_489 (cf_ NB493_489 (cf_ NB493_489 hHeld)))))) (fun hHeld => ?_)
   clear hK K
   refine done_ (by kernel_rfl) ?_
   try go_wp2
   refine bodyPost_ret (results_cc rfl _ _ gb488 gb489 42 129 #[.slice Ao19 t490.length co19] #[.int .i64 t552, .string t553, .int .i64 t554, .bool t555, .slice Ao213 t556.length co213] (0, 0) (0, 0) _ _ rfl tb_ Try.underlying42 rfl (by kernel_rfl) rfl tb_ Try.underlying129 rfl (by kernel_rfl)) rfl ?_
   exact ⟨_, _, tq_1, tq_17, (by (with_reducible repeat (first | apply Kd.R_alloc | apply Kd.R_drewN | apply Kd.R_drew)); exact Kd.R_mono (rR_ (rR_ (rR_ (rR_ (rR_ (rR_ (Kd.R_types (Kd.R_types HO558.out BK488.out (by decide)) BK489.out (by decide)) (fun _ hk => hk.1.2))))))) (fun _ hk => trivial)), th_⟩
  subst c157
  rw [if_pos rfl] at H
  obtain ⟨t539, A158, H⟩ := bd_ H
  have HC159 := Aside0.mk H
  clear H
  obtain ⟨n486_485, n485_486, n486_487, n487_486, n486_488, n488_486, n486_489, n489_486⟩ := an8_ NB486_485 NB485_486 NB486_487 NB487_486 NB486_488 NB488_486 NB486_489 NB489_486
  obtain ⟨n486_493, n493_486⟩ := an2_ NB486_493 NB493_486
  have hcz165_0 := bc_ BK486.out 0
  have hfz165_0 := blk_frozen BK486.out 0
  obtain ⟨n487_485, n485_487, n487_488, n488_487, n487_489, n489_487, n487_493, n493_487⟩ := an8_ NB487_485 NB485_487 NB487_488 NB488_487 NB487_489 NB489_487 NB487_493 NB493_487
  obtain ⟨hcz170_0, hcz170_1, hcz170_2, hcz170_3, hcz170_4, hcz170_5⟩ := bk6_ BK487.out
  obtain ⟨hfz170_0, hfz170_1, hfz170_2, hfz170_3, hfz170_4, hfz170_5⟩ := bf6_ BK487.out
  go_upto_if 75 with (first | ((with_reducible refine gate_callee (f := 130) rfl ?_); refine goesL_ (some 79) rfl rfl Try.func130 (by kernel_rfl) rfl #[.agg #[.slice A1_0 l1_0.length c1_0], .string a2_1] rfl tq_0 ?_; (with_reducible refine (spec_KidsOf.calls kj31 _ _ l1_0 a2_1 t539 _ ?side1 ?side2 A158.out).mono ?_); (case side1 => exact tq_11); (case side2 => exact HC1_0.out); rintro e w171 ⟨v540, rfl, ho0, hb⟩; refine ⟨_, rfl, ?_⟩; have z_ := p_ (Kd.R_below (raR_ HO_494000) hb) <| p_ (Kd.R_lower ho0 (below_size th_)) <| bw6_ (kb_ BK485) (kb_ BK486) (kb_ BK487) (kb_ BK488) (kb_ BK489) (kb_ BK493) th_ hb; clear HO_494000 BK485 BK486 BK487 BK488 BK489 BK493 HB; obtain ⟨HO_494000, HO541, BK485, BK486, BK487, BK488, BK489, BK493, HB⟩ := z_; (try clear hb); (try clear ho0); obtain ⟨Ao172, co172, eo172⟩ := Kd.R_slice HO541.out; subst eo172))
  (try simp only [Act.put, List.setIfInBounds_toArray, List.set_cons_zero, List.set_cons_succ])
  (try clear n485_486 n485_487 n486_485 n486_487 n486_488 n486_489 n486_493 n487_485 n487_486 n487_488 n487_489 n487_493 n488_486 n488_487 n489_486 n489_487 n493_486 n493_487)
  (try clear hcz170_0 hcz170_1 hcz170_2 hcz170_3 hcz170_4 hcz170_5)
  (try clear hfz170_0 hfz170_1 hfz170_2 hfz170_3 hfz170_4 hfz170_5)
  have H := HC159.out
  clear HC159
  by_cases c173 : (t539.length : Int) > 0
  rotate_left
  ·rw [if_neg c173] at H
   have c173b0 := decide_eq_false c173
   have c173b1 : decide (0 < t539.length) = false := decide_eq_false (by omega)
   clear c173
   (first | rw [c173b0] | rw [c173b1] | (simp only [i64_w, i32_w]; rw [c173b0]) | skip)
   obtain ⟨t549, A184, H⟩ := bd_ H
   simp only [Option.some.injEq, Prod.mk.injEq] at H
   obtain ⟨rfl, rfl, rfl, rfl, rfl, rfl⟩ := H
   obtain ⟨n486_485, n485_486, n486_487, n487_486, n486_488, n488_486, n486_489, n489_486⟩ := an8_ NB486_485 NB485_486 NB486_487 NB487_486 NB486_488 NB488_486 NB486_489 NB489_486
   obtain ⟨n486_493, n493_486⟩ := an2_ NB486_493 NB493_486
   have hcz190_0 := bc_ BK486.out 0
   have hfz190_0 := blk_frozen BK486.out 0
   obtain ⟨n487_485, n485_487, n487_488, n488_487, n487_489, n489_487, n487_493, n493_487⟩ := an8_ NB487_485 NB485_487 NB487_488 NB488_487 NB487_489 NB489_487 NB487_493 NB493_487
   obtain ⟨hcz195_0, hcz195_1, hcz195_2, hcz195_3, hcz195_4, hcz195_5⟩ := bk6_ BK487.out
   obtain ⟨hfz195_0, hfz195_1, hfz195_2, hfz195_3, hfz195_4, hfz195_5⟩ := bf6_ BK487.out
   go_wp2_with (first | ((with_reducible refine gate_callee (f := 18) rfl ?_); refine goesL_ (some 87) rfl rfl Try.func18 (by kernel_rfl) rfl #[.agg #[.slice A1_0 l1_0.length c1_0], .string a2_1] rfl tq_0 ?_; (with_reducible refine (spec_DropItem.calls kj31 _ _ l1_0 a2_1 t549 _ ?side1 ?side2 A184.out).mono ?_); (case side1 => exact tq_11); (case side2 => exact HC1_0.out); rintro e w196 ⟨v550, rfl, ho0, hb⟩; refine ⟨_, rfl, ?_⟩; have z_ := p_ (Kd.R_elder' (raR_ HO_494000) (Kd.R_base ho0) hb) <| p_ (Kd.R_below (raR_ HO541) hb) <| p_ (Kd.R_lower (Kd.R_new' ho0 (Kd.R_lt (raR_ HO_494000))) (below_size th_)) <| bw6_ (kb_ BK485) (kb_ BK486) (kb_ BK487) (kb_ BK488) (kb_ BK489) (kb_ BK493) th_ hb; clear HO_494000 HO541 BK485 BK486 BK487 BK488 BK489 BK493 HB; obtain ⟨HO_494000, HO541, HO551, BK485, BK486, BK487, BK488, BK489, BK493, HB⟩ := z_; (try clear hb); (try clear ho0); obtain ⟨Ao197, co197, eo197⟩ := Kd.R_slice HO551.out; subst eo197; obtain ⟨n488_485, n485_488, n488_489, n489_488, n488_493, n493_488⟩ := an6_ NB488_485 NB485_488 NB488_489 NB489_488 NB488_493 NB493_488; have hcz201_0 := bc_ BK488.out 0; have hfz201_0 := blk_frozen BK488.out 0; obtain ⟨n489_485, n485_489, n489_493, n493_489⟩ := an4_ NB489_485 NB485_489 NB489_493 NB493_489; obtain ⟨hcz204_0, hcz204_1, hcz204_2, hcz204_3, hcz204_4⟩ := bk5_ BK489.out; obtain ⟨hfz204_0, hfz204_1, hfz204_2, hfz204_3, hfz204_4⟩ := bf5_ BK489.out))
   refine bodyPost_ret (results_cc rfl _ _ gb488 gb489 42 129 #[.slice Ao197 t549.length co197] #[.int .i64 0, .string (⟨#[]⟩ : ByteArray), .int .i64 0, .bool false, .slice none 0 0] (0, 0) (0, 0) _ _ rfl tb_ Try.underlying42 rfl (by kernel_rfl) rfl tb_ Try.underlying129 rfl (by kernel_rfl)) rfl ?_
   exact ⟨_, _, tq_1, (by (with_reducible repeat (first | apply Kd.R_alloc | apply Kd.R_drewN | apply Kd.R_drew)); exact Kd.R_mono (rR_ (rR_ (rR_ (rR_ (rR_ (rR_ (Kd.R_types (Kd.R_types HO551.out BK488.out (by decide)) BK489.out (by decide)) (fun _ hk => hk.1.2))))))) (fun _ hk => trivial)), tq_22, th_⟩
  rw [if_pos c173] at H
  have c173b0 := decide_eq_true c173
  have c173b1 : decide (0 < t539.length) = true := decide_eq_true (by omega)
  clear c173
  (first | rw [c173b0] | rw [c173b1] | (simp only [i64_w, i32_w]; rw [c173b0]) | skip)
  obtain ⟨⟨t542, t543, t544, t545, t546⟩, A174, H⟩ := bd_ H
  try dsimp -simprocs only at H
  simp only [Option.some.injEq, Prod.mk.injEq] at H
  obtain ⟨rfl, rfl, rfl, rfl, rfl, rfl⟩ := H
  try go_wp2
  have z_ := p_ (Kd.R_drew HO_494000.out) <| p_ (Kd.R_drew HO541.out) <| dw6_ BK485 BK486 BK487 BK488 BK489 BK493 HB
  clear HO_494000 HO541 BK485 BK486 BK487 BK488 BK489 BK493 HB
  obtain ⟨HO_494000, HO541, BK485, BK486, BK487, BK488, BK489, BK493, HB⟩ := z_
  refine start_ (n := 4) (S := fun w' => w'.cell? ⟨gb493, 0, none⟩ = some (.slice Ao19 t490.length co19)) (ds := []) bq_1 (by kernel_rfl) rfl rfl ((blk_cell BK493.out 0).trans rfl) (fun hHeld => ?_)
  generalize w171.drew = w175 at HO_494000 HO541 BK485 BK486 BK487 BK488 BK489 BK493 HB hHeld ⊢
  refine take_ (i := 0) (N := some 82) (v := ?_) (a' := ?_) bq_2 rfl rfl (by kernel_rfl) (fun _ _ _ h => h) (Or.inl ⟨(by rfl), ?_⟩) hHeld ?_ ?_
  rotate_left
  ·intro w' s0
   go_simp
   with_reducible rfl
  rotate_left
  ·simp only [Act.put, List.setIfInBounds_toArray, List.set_cons_zero, List.set_cons_succ, i64_w, i32_w]
   rfl
  refine one_ (i := 1) (N := some 83) bq_3 rfl rfl (by kernel_rfl) (by decide) (fun K hK => ?_)
  refine goes_ Try.func125 (by kernel_rfl) rfl #[.int .i64 10] (by rfl) rfl rfl tq_0 ?_
  with_reducible refine (spec_l17Fails.calls 10 t542 t543 t544 t545 t546 _ A174.out).mono ?_
  rintro e w176 ⟨v547, rfl, ho0, hb⟩
  refine ⟨_, rfl, ?_⟩
  have z_ := p_ (Kd.R_below (raR_ HO_494000) hb) <| p_ (Kd.R_elder' (raR_ HO541) (Kd.R_base ho0) hb) <| p_ (Kd.R_lower (Kd.R_new' ho0 (Kd.R_lt (raR_ HO541))) (below_size th_)) <| bw6_ (kb_ BK485) (kb_ BK486) (kb_ BK487) (kb_ BK488) (kb_ BK489) (kb_ BK493) th_ hb
  clear HO_494000 HO541 BK485 BK486 BK487 BK488 BK489 BK493 HB
  obtain ⟨HO_494000, HO541, HO548, BK485, BK486, BK487, BK488, BK489, BK493, HB⟩ := z_
  (try clear hb)
  (try clear ho0)
  obtain ⟨Ao182, co182, eo182⟩ := Kd.R_slice HO548.out
  (first | subst eo182 | (injection eo182 with f1_ f2_ f3_; have f4_ := f1_.symm; have f5_ := f3_.symm; clear f1_ f2_ f3_; subst f4_; subst f5_))
  refine hK.out _ _ ((blk_cell BK493.out 0).trans rfl) (fun hHeld => ?_)
  clear hK K
  refine nm_ (some 83) ?_
  refine one_ (i := 2) (N := none) bq_4 rfl rfl (by kernel_rfl) (by decide) (fun K hK => ?_)
  have hs177 : w176.cell? ⟨gb488, 0, none⟩ = some (.slice none 0 0) := (blk_cell BK488.out 0).trans rfl
  have hfs177 := blk_frozen BK488.out 0
  obtain ⟨n485_488, n486_488, n487_488, n489_488, n493_488, n488_485, n488_486, n488_487⟩ := an8_ NB485_488 NB486_488 NB487_488 NB489_488 NB493_488 NB488_485 NB488_486 NB488_487
  obtain ⟨n488_489, n488_493⟩ := an2_ NB488_489 NB488_493
  refine skip_ (w1 := ?_) (by rfl) rfl ?_ ?_
  rotate_left
  ·go_simp
   rfl
  refine hK.out _ _ ((cf_ NB493_488 hHeld)) (fun hHeld => ?_)
  clear hK K
  refine one_ (i := 3) (N := none) bq_5 rfl rfl (by kernel_rfl) (by decide) (fun K hK => ?_)
  have hs178 : w176.cell? ⟨gb489, 0, none⟩ = some (.int .i64 0) := (blk_cell BK489.out 0).trans rfl
  have hfs178 := blk_frozen BK489.out 0
  obtain ⟨n485_489, n486_489, n487_489, n493_489, n489_485, n489_486, n489_487, n489_493⟩ := an8_ NB485_489 NB486_489 NB487_489 NB493_489 NB489_485 NB489_486 NB489_487 NB489_493
  have hs179 : w176.cell? ⟨gb489, 1, none⟩ = some (.string (⟨#[]⟩ : ByteArray)) := (blk_cell BK489.out 1).trans rfl
  have hfs179 := blk_frozen BK489.out 1
  have hs180 : w176.cell? ⟨gb489, 2, none⟩ = some (.int .i64 0) := (blk_cell BK489.out 2).trans rfl
  have hfs180 := blk_frozen BK489.out 2
  have hs181 : w176.cell? ⟨gb489, 3, none⟩ = some (.bool false) := (blk_cell BK489.out 3).trans rfl
  have hfs181 := blk_frozen BK489.out 3
  have hs183 : w176.cell? ⟨gb489, 4, none⟩ = some (.slice none 0 0) := (blk_cell BK489.out 4).trans rfl
  have hfs183 := blk_frozen BK489.out 4
  refine skip_ (w1 := ?_) (by rfl) rfl ?_ ?_
  rotate_left
  ·go_simp
   rfl
  refine hK.out _ _ ((cf_ NB493_489 (cf_ NB493_489 (cf_ NB493_489 (cf_ NB493_489 (cf_ NB493_489 hHeld)))))) (fun hHeld => ?_)
  clear hK K
  refine done_ (by kernel_rfl) ?_
  try go_wp2
  refine bodyPost_ret (results_cc rfl _ _ gb488 gb489 42 129 #[.slice Ao19 t490.length co19] #[.int .i64 t542, .string t543, .int .i64 t544, .bool t545, .slice Ao182 t546.length co182] (0, 0) (0, 0) _ _ rfl tb_ Try.underlying42 rfl (by kernel_rfl) rfl tb_ Try.underlying129 rfl (by kernel_rfl)) rfl ?_
  exact ⟨_, _, tq_1, tq_17, (by (with_reducible repeat (first | apply Kd.R_alloc | apply Kd.R_drewN | apply Kd.R_drew)); exact Kd.R_mono (rR_ (rR_ (rR_ (rR_ (rR_ (rR_ (Kd.R_types (Kd.R_types HO548.out BK488.out (by decide)) BK489.out (by decide)) (fun _ hk => hk.1.2))))))) (fun _ hk => trivial)), th_⟩
 rw [if_neg c138] at H
 have c138b0 := beq_eq_false_iff_ne.mpr c138
 have c138b1 := bne_iff_ne.mpr c138
 by_cases c215 : a2_0 = 5
 ·rw [if_pos c215] at H
  have c215b0 := beq_iff_eq.mpr c215
  have c215b1 := bne_eq_false_iff_eq.mpr c215
  clear c215
  obtain ⟨⟨t559, t562, t563, t564, t565, t566⟩, A216, H⟩ := bd_ H
  try dsimp -simprocs only at H
  simp only [Option.some.injEq, Prod.mk.injEq] at H
  obtain ⟨rfl, rfl, rfl, rfl, rfl, rfl⟩ := H
  obtain ⟨n486_485, n485_486, n486_487, n487_486, n486_488, n488_486, n486_489, n489_486⟩ := an8_ NB486_485 NB485_486 NB486_487 NB487_486 NB486_488 NB488_486 NB486_489 NB489_486
  obtain ⟨n486_493, n493_486⟩ := an2_ NB486_493 NB493_486
  have hcz222_0 := bc_ BK486.out 0
  have hfz222_0 := blk_frozen BK486.out 0
  obtain ⟨n487_485, n485_487, n487_488, n488_487, n487_489, n489_487, n487_493, n493_487⟩ := an8_ NB487_485 NB485_487 NB487_488 NB488_487 NB487_489 NB489_487 NB487_493 NB493_487
  obtain ⟨hcz227_0, hcz227_1, hcz227_2, hcz227_3, hcz227_4, hcz227_5⟩ := bk6_ BK487.out
  obtain ⟨hfz227_0, hfz227_1, hfz227_2, hfz227_3, hfz227_4, hfz227_5⟩ := bf6_ BK487.out
  go_wp2_with (first | ((with_reducible refine gate_callee (f := 131) rfl ?_); refine goesL_ (some 93) rfl rfl Try.func131 (by kernel_rfl) rfl #[.agg #[.slice A1_0 l1_0.length c1_0], .agg #[.int .i64 a2_0, .string a2_1, .string a2_2, .int .i64 a2_3, .int .i64 a2_4, .string a2_5]] rfl tq_0 ?_; (with_reducible refine (spec_l17Rename.calls kj31 _ _ l1_0 a2_0 a2_1 a2_2 a2_3 a2_4 a2_5 t559 t562 t563 t564 t565 t566 _ ?side1 ?side2 A216.out).mono ?_); (case side1 => exact tq_11); (case side2 => exact HC1_0.out); rintro e w228 ⟨v560, v567, rfl, ho0, ho1, hb⟩; refine ⟨_, rfl, ?_⟩; have z_ := p_ (Kd.R_elder' (raR_ HO_494000) (Kd.R_base ho0) hb) <| p_ (Kd.R_lower (Kd.R_new' ho0 (Kd.R_lt (raR_ HO_494000))) (below_size th_)) <| p_ (Kd.R_lower ho1 (below_size th_)) <| bw6_ (kb_ BK485) (kb_ BK486) (kb_ BK487) (kb_ BK488) (kb_ BK489) (kb_ BK493) th_ hb; clear HO_494000 BK485 BK486 BK487 BK488 BK489 BK493 HB; obtain ⟨HO_494000, HO561, HO568, BK485, BK486, BK487, BK488, BK489, BK493, HB⟩ := z_; (try clear hb); (try clear ho0); (try clear ho1); obtain ⟨Ao229, co229, eo229⟩ := Kd.R_slice HO561.out; subst eo229; obtain ⟨n488_485, n485_488, n488_489, n489_488, n488_493, n493_488⟩ := an6_ NB488_485 NB485_488 NB488_489 NB489_488 NB488_493 NB493_488; have hcz233_0 := bc_ BK488.out 0; have hfz233_0 := blk_frozen BK488.out 0; obtain ⟨n489_485, n485_489, n489_493, n493_489⟩ := an4_ NB489_485 NB485_489 NB489_493 NB493_489; obtain ⟨hcz236_0, hcz236_1, hcz236_2, hcz236_3, hcz236_4⟩ := bk5_ BK489.out; obtain ⟨hfz236_0, hfz236_1, hfz236_2, hfz236_3, hfz236_4⟩ := bf5_ BK489.out; obtain ⟨Ao237, co237, eo237⟩ := Kd.R_slice HO568.out; subst eo237))
  refine bodyPost_ret (results_cc rfl _ _ gb488 gb489 42 129 #[.slice Ao229 t559.length co229] #[.int .i64 t562, .string t563, .int .i64 t564, .bool t565, .slice Ao237 t566.length co237] (0, 0) (0, 0) _ _ rfl tb_ Try.underlying42 rfl (by kernel_rfl) rfl tb_ Try.underlying129 rfl (by kernel_rfl)) rfl ?_
  exact ⟨_, _, tq_1, (by (with_reducible repeat (first | apply Kd.R_alloc | apply Kd.R_drewN | apply Kd.R_drew)); exact Kd.R_mono (rR_ (rR_ (rR_ (rR_ (rR_ (rR_ (Kd.R_types (Kd.R_types HO561.out BK488.out (by decide)) BK489.out (by decide)) (fun _ hk => hk.1.2))))))) (fun _ hk => trivial)), (by (with_reducible repeat (first | apply Kd.R_alloc | apply Kd.R_drewN | apply Kd.R_drew)); exact Kd.R_mono (rR_ (rR_ (rR_ (rR_ (rR_ (rR_ (Kd.R_types (Kd.R_types HO568.out BK488.out (by decide)) BK489.out (by decide)) (fun _ hk => hk.1.2))))))) (fun _ hk => trivial)), th_⟩
 rw [if_neg c215] at H
 have c215b0 := beq_eq_false_iff_ne.mpr c215
 have c215b1 := bne_iff_ne.mpr c215
 have HC238 := Aside0.mk H
 clear H
 go_upto_if 96 with (fail)
 go_cut [96] (fun v96 wc => ∃ (kq : Nat) (x96_237 : Bool), v96 = .bool x96_237 ∧ Aside0 (spec_Asked.j1 kq t520 t521 a2_0 x96_237 a0_0 a0_1 a0_2 a0_3 l1_0 a2_0 a2_1 a2_2 a2_3 a2_4 a2_5 t490 = some (r1, r2, r3, r4, r5, r6)) ∧ Aside0 (kq ≤ kj31) ∧ Aside0 (Kd.R k44 44 wc w.heap.size (fun _ => True) (.slice Ao19 t490.length co19) t490) ∧ Aside0 (wc.heap[gb485]? = some (.cells #[.int .i64 a0_0, .int .i64 a0_1, .int .i64 a0_2, .int .i64 a0_3] 30 (0, 0))) ∧ Aside0 (wc.heap[gb486]? = some (.cells #[(.slice A1_0 l1_0.length c1_0)] 42 (0, 0))) ∧ Aside0 (wc.heap[gb487]? = some (.cells #[.int .i64 a2_0, .string a2_1, .string a2_2, .int .i64 a2_3, .int .i64 a2_4, .string a2_5] 133 (0, 0))) ∧ Aside0 (wc.heap[gb488]? = some (.cells #[(.slice none 0 0)] 42 (0, 0))) ∧ Aside0 (wc.heap[gb489]? = some (.cells #[.int .i64 0, .string (⟨#[]⟩ : ByteArray), .int .i64 0, .bool false, (.slice none 0 0)] 129 (0, 0))) ∧ Aside0 (wc.heap[gb493]? = some (.cells #[(.slice Ao19 t490.length co19)] 42 (0, 0))) ∧ Aside0 (Below w.heap.size w wc))
 case first =>
  have H := HC238.out
  clear HC238
  by_cases c239 : a2_0 = 6
  ·rw [if_pos c239] at H
   have c239b0 := beq_iff_eq.mpr c239
   have c239b1 := bne_eq_false_iff_eq.mpr c239
   clear c239
   (first | rw [c239b0] | (simp only [i64_w, i32_w]; rw [c239b0]) | skip)
   have H' := Aside0.mk H
   clear H
   go_wp2
   go_meet
   case rel => exact ⟨_, ((a2_0 == 6)), tq_5, H', ⟨(by have := HJ31.out; first | omega | exact Nat.le_refl _)⟩, ⟨(raR_ HO_494000)⟩, ⟨(kb_ BK485)⟩, ⟨(kb_ BK486)⟩, ⟨(kb_ BK487)⟩, ⟨(kb_ BK488)⟩, ⟨(kb_ BK489)⟩, ⟨(kb_ BK493)⟩, ⟨th_⟩⟩
  rw [if_neg c239] at H
  have c239b0 := beq_eq_false_iff_ne.mpr c239
  have c239b1 := bne_iff_ne.mpr c239
  (first | rw [c239b0] | (simp only [i64_w, i32_w]; rw [c239b0]) | skip)
  by_cases c240 : a2_0 = 7
  rotate_left
  ·rw [if_neg c240] at H
   have c240b0 := beq_eq_false_iff_ne.mpr c240
   have c240b1 := bne_iff_ne.mpr c240
   have H' := Aside0.mk H
   clear H
   go_wp2
   go_meet
   case rel => exact ⟨_, ((a2_0 == 8)), tq_5, H', ⟨(by have := HJ31.out; first | omega | exact Nat.le_refl _)⟩, ⟨(raR_ HO_494000)⟩, ⟨(kb_ BK485)⟩, ⟨(kb_ BK486)⟩, ⟨(kb_ BK487)⟩, ⟨(kb_ BK488)⟩, ⟨(kb_ BK489)⟩, ⟨(kb_ BK493)⟩, ⟨th_⟩⟩
  rw [if_pos c240] at H
  have c240b0 := beq_iff_eq.mpr c240
  have c240b1 := bne_eq_false_iff_eq.mpr c240
  clear c240
  have H' := Aside0.mk H
  clear H
  go_wp2
  go_meet
  case rel => exact ⟨_, ((a2_0 == 7)), tq_5, H', ⟨(by have := HJ31.out; first | omega | exact Nat.le_refl _)⟩, ⟨(raR_ HO_494000)⟩, ⟨(kb_ BK485)⟩, ⟨(kb_ BK486)⟩, ⟨(kb_ BK487)⟩, ⟨(kb_ BK488)⟩, ⟨(kb_ BK489)⟩, ⟨(kb_ BK493)⟩, ⟨th_⟩⟩
 case rest =>
 clear HC238
 try clear c1; try clear c2; try clear p2; try clear c12; try clear c13; try clear c14; try clear c15; try clear c16; try clear c17; try clear c18; try clear c19; try clear c20; try clear c21; try clear c22; try clear c23; try clear c24; try clear c125; try clear c130; try clear c131; try clear c138; try clear c138b0; try clear c138b1; try clear c146; try clear c146b0; try clear c146b1; try clear c157; try clear c160; try clear c161; try clear c162; try clear c163; try clear c164; try clear c166; try clear c167; try clear c168; try clear c169; try clear c173; try clear c173b0; try clear c173b1; try clear c185; try clear c186; try clear c187; try clear c188; try clear c189; try clear c191; try clear c192; try clear c193; try clear c194; try clear c198; try clear c199; try clear c200; try clear c202; try clear c203; try clear c215; try clear c215b0; try clear c215b1; try clear c217; try clear c218; try clear c219; try clear c220; try clear c221; try clear c223; try clear c224; try clear c225; try clear c226; try clear c230; try clear c231; try clear c232; try clear c234; try clear c235; try clear c239; try clear c239b0; try clear c239b1; try clear c240; try clear c240b0; try clear c240b1; try clear hcz165_0; try clear hcz170_0 hcz170_1 hcz170_2 hcz170_3 hcz170_4 hcz170_5; try clear hcz190_0; try clear hcz195_0 hcz195_1 hcz195_2 hcz195_3 hcz195_4 hcz195_5; try clear hcz201_0; try clear hcz204_0 hcz204_1 hcz204_2 hcz204_3 hcz204_4; try clear hcz222_0; try clear hcz227_0 hcz227_1 hcz227_2 hcz227_3 hcz227_4 hcz227_5; try clear hcz233_0; try clear hcz236_0 hcz236_1 hcz236_2 hcz236_3 hcz236_4; try clear hfz165_0; try clear hfz170_0 hfz170_1 hfz170_2 hfz170_3 hfz170_4 hfz170_5; try clear hfz190_0; try clear hfz195_0 hfz195_1 hfz195_2 hfz195_3 hfz195_4 hfz195_5; try clear hfz201_0; try clear hfz204_0 hfz204_1 hfz204_2 hfz204_3 hfz204_4; try clear hfz222_0; try clear hfz227_0 hfz227_1 hfz227_2 hfz227_3 hfz227_4 hfz227_5; try clear hfz233_0; try clear hfz236_0 hfz236_1 hfz236_2 hfz236_3 hfz236_4
 obtain ⟨kq, x96_237, rfl, HA, HJ237, HO_494000, BK485, BK486, BK487, BK488, BK489, BK493, HB⟩ := hcut
 cases kq with
 | zero => exact absurd HA.out (by simp [spec_Asked.j1])
 | succ kj237 =>
 have H := HA.out
 clear HA
 simp only [spec_Asked.j1] at H
 by_cases c241 : x96_237 = true
 ·subst c241
  rw [if_pos rfl] at H
  by_cases c242 : t520 = true
  rotate_left
  ·replace c242 := Bool.eq_false_iff.mpr c242
   subst c242
   rw [if_neg nf_] at H
   obtain ⟨⟨t576, t579, t580, t581, t582, t583⟩, A253, H⟩ := bd_ H
   try dsimp -simprocs only at H
   simp only [Option.some.injEq, Prod.mk.injEq] at H
   obtain ⟨rfl, rfl, rfl, rfl, rfl, rfl⟩ := H
   obtain ⟨n485_486, n486_485, n485_487, n487_485, n485_488, n488_485, n485_489, n489_485⟩ := an8_ NB485_486 NB486_485 NB485_487 NB487_485 NB485_488 NB488_485 NB485_489 NB489_485
   obtain ⟨n485_493, n493_485⟩ := an2_ NB485_493 NB493_485
   obtain ⟨hcz259_0, hcz259_1, hcz259_2, hcz259_3⟩ := bk4_ BK485.out
   obtain ⟨hfz259_0, hfz259_1, hfz259_2, hfz259_3⟩ := bf4_ BK485.out
   obtain ⟨n486_487, n487_486, n486_488, n488_486, n486_489, n489_486, n486_493, n493_486⟩ := an8_ NB486_487 NB487_486 NB486_488 NB488_486 NB486_489 NB489_486 NB486_493 NB493_486
   have hcz264_0 := bc_ BK486.out 0
   have hfz264_0 := blk_frozen BK486.out 0
   obtain ⟨n487_488, n488_487, n487_489, n489_487, n487_493, n493_487⟩ := an6_ NB487_488 NB488_487 NB487_489 NB489_487 NB487_493 NB493_487
   obtain ⟨hcz268_0, hcz268_1, hcz268_2, hcz268_3, hcz268_4, hcz268_5⟩ := bk6_ BK487.out
   obtain ⟨hfz268_0, hfz268_1, hfz268_2, hfz268_3, hfz268_4, hfz268_5⟩ := bf6_ BK487.out
   go_wp2_with (first | ((with_reducible refine gate_callee (f := 132) rfl ?_); refine goesL_ (some 107) rfl rfl Try.func132 (by kernel_rfl) rfl #[.agg #[.int .i64 a0_0, .int .i64 a0_1, .int .i64 a0_2, .int .i64 a0_3], .agg #[.slice A1_0 l1_0.length c1_0], .int .i64 t521, .agg #[.int .i64 a2_0, .string a2_1, .string a2_2, .int .i64 a2_3, .int .i64 a2_4, .string a2_5]] rfl tq_0 ?_; (with_reducible refine (spec_l17File.calls kj237 a0_0 a0_1 a0_2 a0_3 _ _ l1_0 t521 a2_0 a2_1 a2_2 a2_3 a2_4 a2_5 t576 t579 t580 t581 t582 t583 _ ?side1 ?side2 A253.out).mono ?_); (case side1 => exact tq_11); (case side2 => exact HC1_0.out); rintro e w269 ⟨v577, v584, rfl, ho0, ho1, hb⟩; refine ⟨_, rfl, ?_⟩; have z_ := p_ (Kd.R_elder' (raR_ HO_494000) (Kd.R_base ho0) hb) <| p_ (Kd.R_lower (Kd.R_new' ho0 (Kd.R_lt (raR_ HO_494000))) (below_size th_)) <| p_ (Kd.R_lower ho1 (below_size th_)) <| bw6_ (kb_ BK485) (kb_ BK486) (kb_ BK487) (kb_ BK488) (kb_ BK489) (kb_ BK493) th_ hb; clear HO_494000 BK485 BK486 BK487 BK488 BK489 BK493 HB; obtain ⟨HO_494000, HO578, HO585, BK485, BK486, BK487, BK488, BK489, BK493, HB⟩ := z_; (try clear hb); (try clear ho0); (try clear ho1); obtain ⟨Ao270, co270, eo270⟩ := Kd.R_slice HO578.out; subst eo270; obtain ⟨n488_489, n489_488, n488_493, n493_488⟩ := an4_ NB488_489 NB489_488 NB488_493 NB493_488; have hcz273_0 := bc_ BK488.out 0; have hfz273_0 := blk_frozen BK488.out 0; obtain ⟨n489_493, n493_489⟩ := an2_ NB489_493 NB493_489; obtain ⟨hcz275_0, hcz275_1, hcz275_2, hcz275_3, hcz275_4⟩ := bk5_ BK489.out; obtain ⟨hfz275_0, hfz275_1, hfz275_2, hfz275_3, hfz275_4⟩ := bf5_ BK489.out; obtain ⟨Ao276, co276, eo276⟩ := Kd.R_slice HO585.out; subst eo276))
   refine bodyPost_ret (results_cc rfl _ _ gb488 gb489 42 129 #[.slice Ao270 t576.length co270] #[.int .i64 t579, .string t580, .int .i64 t581, .bool t582, .slice Ao276 t583.length co276] (0, 0) (0, 0) _ _ rfl tb_ Try.underlying42 rfl (by kernel_rfl) rfl tb_ Try.underlying129 rfl (by kernel_rfl)) rfl ?_
   exact ⟨_, _, tq_1, (by (with_reducible repeat (first | apply Kd.R_alloc | apply Kd.R_drewN | apply Kd.R_drew)); exact Kd.R_mono (rR_ (rR_ (rR_ (rR_ (rR_ (rR_ (Kd.R_types (Kd.R_types HO578.out BK488.out (by decide)) BK489.out (by decide)) (fun _ hk => hk.1.2))))))) (fun _ hk => trivial)), (by (with_reducible repeat (first | apply Kd.R_alloc | apply Kd.R_drewN | apply Kd.R_drew)); exact Kd.R_mono (rR_ (rR_ (rR_ (rR_ (rR_ (rR_ (Kd.R_types (Kd.R_types HO585.out BK488.out (by decide)) BK489.out (by decide)) (fun _ hk => hk.1.2))))))) (fun _ hk => trivial)), th_⟩
  subst c242
  rw [if_pos rfl] at H
  obtain ⟨⟨t569, t570, t571, t572, t573⟩, A243, H⟩ := bd_ H
  try dsimp -simprocs only at H
  simp only [Option.some.injEq, Prod.mk.injEq] at H
  obtain ⟨rfl, rfl, rfl, rfl, rfl, rfl⟩ := H
  try go_wp2
  have z_ := p_ (Kd.R_drew HO_494000.out) <| dw6_ BK485 BK486 BK487 BK488 BK489 BK493 HB
  clear HO_494000 BK485 BK486 BK487 BK488 BK489 BK493 HB
  obtain ⟨HO_494000, BK485, BK486, BK487, BK488, BK489, BK493, HB⟩ := z_
  refine start_ (n := 4) (S := fun w' => w'.cell? ⟨gb493, 0, none⟩ = some (.slice Ao19 t490.length co19)) (ds := []) bq_1 (by kernel_rfl) rfl rfl ((blk_cell BK493.out 0).trans rfl) (fun hHeld => ?_)
  generalize wc.drew = w244 at HO_494000 BK485 BK486 BK487 BK488 BK489 BK493 HB hHeld ⊢
  refine take_ (i := 0) (N := some 101) (v := ?_) (a' := ?_) bq_2 rfl rfl (by kernel_rfl) (fun _ _ _ h => h) (Or.inl ⟨(by rfl), ?_⟩) hHeld ?_ ?_
  rotate_left
  ·intro w' s0
   go_simp
   with_reducible rfl
  rotate_left
  ·simp only [Act.put, List.setIfInBounds_toArray, List.set_cons_zero, List.set_cons_succ, i64_w, i32_w]
   rfl
  refine one_ (i := 1) (N := some 102) bq_3 rfl rfl (by kernel_rfl) (by decide) (fun K hK => ?_)
  refine goes_ Try.func125 (by kernel_rfl) rfl #[.int .i64 5] (by rfl) rfl rfl tq_0 ?_
  with_reducible refine (spec_l17Fails.calls 5 t569 t570 t571 t572 t573 _ A243.out).mono ?_
  rintro e w245 ⟨v574, rfl, ho0, hb⟩
  refine ⟨_, rfl, ?_⟩
  have z_ := p_ (Kd.R_below (raR_ HO_494000) hb) <| p_ (Kd.R_lower ho0 (below_size th_)) <| bw6_ (kb_ BK485) (kb_ BK486) (kb_ BK487) (kb_ BK488) (kb_ BK489) (kb_ BK493) th_ hb
  clear HO_494000 BK485 BK486 BK487 BK488 BK489 BK493 HB
  obtain ⟨HO_494000, HO575, BK485, BK486, BK487, BK488, BK489, BK493, HB⟩ := z_
  (try clear hb)
  (try clear ho0)
  obtain ⟨Ao251, co251, eo251⟩ := Kd.R_slice HO575.out
  (first | subst eo251 | (injection eo251 with f1_ f2_ f3_; have f4_ := f1_.symm; have f5_ := f3_.symm; clear f1_ f2_ f3_; subst f4_; subst f5_))
  refine hK.out _ _ ((blk_cell BK493.out 0).trans rfl) (fun hHeld => ?_)
  clear hK K
  refine nm_ (some 102) ?_
  refine one_ (i := 2) (N := none) bq_4 rfl rfl (by kernel_rfl) (by decide) (fun K hK => ?_)
  have hs246 : w245.cell? ⟨gb488, 0, none⟩ = some (.slice none 0 0) := (blk_cell BK488.out 0).trans rfl
  have hfs246 := blk_frozen BK488.out 0
  obtain ⟨n485_488, n486_488, n487_488, n489_488, n493_488, n488_485, n488_486, n488_487⟩ := an8_ NB485_488 NB486_488 NB487_488 NB489_488 NB493_488 NB488_485 NB488_486 NB488_487
  obtain ⟨n488_489, n488_493⟩ := an2_ NB488_489 NB488_493
  refine skip_ (w1 := ?_) (by rfl) rfl ?_ ?_
  rotate_left
  ·go_simp
   rfl
  refine hK.out _ _ ((cf_ NB493_488 hHeld)) (fun hHeld => ?_)
  clear hK K
  refine one_ (i := 3) (N := none) bq_5 rfl rfl (by kernel_rfl) (by decide) (fun K hK => ?_)
  have hs247 : w245.cell? ⟨gb489, 0, none⟩ = some (.int .i64 0) := (blk_cell BK489.out 0).trans rfl
  have hfs247 := blk_frozen BK489.out 0
  obtain ⟨n485_489, n486_489, n487_489, n493_489, n489_485, n489_486, n489_487, n489_493⟩ := an8_ NB485_489 NB486_489 NB487_489 NB493_489 NB489_485 NB489_486 NB489_487 NB489_493
  have hs248 : w245.cell? ⟨gb489, 1, none⟩ = some (.string (⟨#[]⟩ : ByteArray)) := (blk_cell BK489.out 1).trans rfl
  have hfs248 := blk_frozen BK489.out 1
  have hs249 : w245.cell? ⟨gb489, 2, none⟩ = some (.int .i64 0) := (blk_cell BK489.out 2).trans rfl
  have hfs249 := blk_frozen BK489.out 2
  have hs250 : w245.cell? ⟨gb489, 3, none⟩ = some (.bool false) := (blk_cell BK489.out 3).trans rfl
  have hfs250 := blk_frozen BK489.out 3
  have hs252 : w245.cell? ⟨gb489, 4, none⟩ = some (.slice none 0 0) := (blk_cell BK489.out 4).trans rfl
  have hfs252 := blk_frozen BK489.out 4
  refine skip_ (w1 := ?_) (by rfl) rfl ?_ ?_
  rotate_left
  ·go_simp
   rfl
  refine hK.out _ _ ((cf_ NB493_489 (cf_ NB493_489 (cf_ NB493_489 (cf_ NB493_489 (cf_ NB493_489 hHeld)))))) (fun hHeld => ?_)
  clear hK K
  refine done_ (by kernel_rfl) ?_
  try go_wp2
  refine bodyPost_ret (results_cc rfl _ _ gb488 gb489 42 129 #[.slice Ao19 t490.length co19] #[.int .i64 t569, .string t570, .int .i64 t571, .bool t572, .slice Ao251 t573.length co251] (0, 0) (0, 0) _ _ rfl tb_ Try.underlying42 rfl (by kernel_rfl) rfl tb_ Try.underlying129 rfl (by kernel_rfl)) rfl ?_
  exact ⟨_, _, tq_1, tq_17, (by (with_reducible repeat (first | apply Kd.R_alloc | apply Kd.R_drewN | apply Kd.R_drew)); exact Kd.R_mono (rR_ (rR_ (rR_ (rR_ (rR_ (rR_ (Kd.R_types (Kd.R_types HO575.out BK488.out (by decide)) BK489.out (by decide)) (fun _ hk => hk.1.2))))))) (fun _ hk => trivial)), th_⟩
 replace c241 := Bool.eq_false_iff.mpr c241
 subst c241
 rw [if_neg nf_] at H
 by_cases c277 : a2_0 = 9
 rotate_left
 ·rw [if_neg c277] at H
  have c277b0 := beq_eq_false_iff_ne.mpr c277
  have c277b1 := bne_iff_ne.mpr c277
  by_cases c303 : a2_0 = 10
  rotate_left
  ·rw [if_neg c303] at H
   have c303b0 := beq_eq_false_iff_ne.mpr c303
   have c303b1 := bne_iff_ne.mpr c303
   simp only [Option.some.injEq, Prod.mk.injEq] at H
   obtain ⟨rfl, rfl, rfl, rfl, rfl, rfl⟩ := H
   obtain ⟨n493_485, n485_493, n493_486, n486_493, n493_487, n487_493, n493_488, n488_493⟩ := an8_ NB493_485 NB485_493 NB493_486 NB486_493 NB493_487 NB487_493 NB493_488 NB488_493
   obtain ⟨n493_489, n489_493⟩ := an2_ NB493_489 NB489_493
   have hcz330_0 := bc_ BK493.out 0
   have hfz330_0 := blk_frozen BK493.out 0
   obtain ⟨n488_485, n485_488, n488_486, n486_488, n488_487, n487_488, n488_489, n489_488⟩ := an8_ NB488_485 NB485_488 NB488_486 NB486_488 NB488_487 NB487_488 NB488_489 NB489_488
   have hcz335_0 := bc_ BK488.out 0
   have hfz335_0 := blk_frozen BK488.out 0
   obtain ⟨n489_485, n485_489, n489_486, n486_489, n489_487, n487_489⟩ := an6_ NB489_485 NB485_489 NB489_486 NB486_489 NB489_487 NB487_489
   obtain ⟨hcz339_0, hcz339_1, hcz339_2, hcz339_3, hcz339_4⟩ := bk5_ BK489.out
   obtain ⟨hfz339_0, hfz339_1, hfz339_2, hfz339_3, hfz339_4⟩ := bf5_ BK489.out
   go_wp2
   refine bodyPost_ret (results_cc rfl _ _ gb488 gb489 42 129 #[.slice Ao19 t490.length co19] #[.int .i64 0, .string (⟨#[]⟩ : ByteArray), .int .i64 0, .bool false, .slice none 0 0] (0, 0) (0, 0) _ _ rfl tb_ Try.underlying42 rfl (by kernel_rfl) rfl tb_ Try.underlying129 rfl (by kernel_rfl)) rfl ?_
   exact ⟨_, _, tq_1, tq_17, tq_22, th_⟩
  rw [if_pos c303] at H
  have c303b0 := beq_iff_eq.mpr c303
  have c303b1 := bne_eq_false_iff_eq.mpr c303
  clear c303
  by_cases c304 : t520 = true
  rotate_left
  ·replace c304 := Bool.eq_false_iff.mpr c304
   subst c304
   rw [if_neg nf_] at H
   obtain ⟨⟨t590, t591, t592, t593, t594⟩, A315, H⟩ := bd_ H
   try dsimp -simprocs only at H
   simp only [Option.some.injEq, Prod.mk.injEq] at H
   obtain ⟨rfl, rfl, rfl, rfl, rfl, rfl⟩ := H
   try go_wp2
   have z_ := p_ (Kd.R_drew HO_494000.out) <| dw6_ BK485 BK486 BK487 BK488 BK489 BK493 HB
   clear HO_494000 BK485 BK486 BK487 BK488 BK489 BK493 HB
   obtain ⟨HO_494000, BK485, BK486, BK487, BK488, BK489, BK493, HB⟩ := z_
   refine start_ (n := 4) (S := fun w' => w'.cell? ⟨gb493, 0, none⟩ = some (.slice Ao19 t490.length co19)) (ds := []) bq_1 (by kernel_rfl) rfl rfl ((blk_cell BK493.out 0).trans rfl) (fun hHeld => ?_)
   generalize wc.drew = w316 at HO_494000 BK485 BK486 BK487 BK488 BK489 BK493 HB hHeld ⊢
   refine take_ (i := 0) (N := some 128) (v := ?_) (a' := ?_) bq_2 rfl rfl (by kernel_rfl) (fun _ _ _ h => h) (Or.inl ⟨(by rfl), ?_⟩) hHeld ?_ ?_
   rotate_left
   ·intro w' s0
    go_simp
    with_reducible rfl
   rotate_left
   ·simp only [Act.put, List.setIfInBounds_toArray, List.set_cons_zero, List.set_cons_succ, i64_w, i32_w]
    rfl
   refine one_ (i := 1) (N := some 129) bq_3 rfl rfl (by kernel_rfl) (by decide) (fun K hK => ?_)
   refine goes_ Try.func125 (by kernel_rfl) rfl #[.int .i64 4] (by rfl) rfl rfl tq_0 ?_
   with_reducible refine (spec_l17Fails.calls 4 t590 t591 t592 t593 t594 _ A315.out).mono ?_
   rintro e w317 ⟨v595, rfl, ho0, hb⟩
   refine ⟨_, rfl, ?_⟩
   have z_ := p_ (Kd.R_below (raR_ HO_494000) hb) <| p_ (Kd.R_lower ho0 (below_size th_)) <| bw6_ (kb_ BK485) (kb_ BK486) (kb_ BK487) (kb_ BK488) (kb_ BK489) (kb_ BK493) th_ hb
   clear HO_494000 BK485 BK486 BK487 BK488 BK489 BK493 HB
   obtain ⟨HO_494000, HO596, BK485, BK486, BK487, BK488, BK489, BK493, HB⟩ := z_
   (try clear hb)
   (try clear ho0)
   obtain ⟨Ao323, co323, eo323⟩ := Kd.R_slice HO596.out
   (first | subst eo323 | (injection eo323 with f1_ f2_ f3_; have f4_ := f1_.symm; have f5_ := f3_.symm; clear f1_ f2_ f3_; subst f4_; subst f5_))
   refine hK.out _ _ ((blk_cell BK493.out 0).trans rfl) (fun hHeld => ?_)
   clear hK K
   refine nm_ (some 129) ?_
   refine one_ (i := 2) (N := none) bq_4 rfl rfl (by kernel_rfl) (by decide) (fun K hK => ?_)
   have hs318 : w317.cell? ⟨gb488, 0, none⟩ = some (.slice none 0 0) := (blk_cell BK488.out 0).trans rfl
   have hfs318 := blk_frozen BK488.out 0
   obtain ⟨n485_488, n486_488, n487_488, n489_488, n493_488, n488_485, n488_486, n488_487⟩ := an8_ NB485_488 NB486_488 NB487_488 NB489_488 NB493_488 NB488_485 NB488_486 NB488_487
   obtain ⟨n488_489, n488_493⟩ := an2_ NB488_489 NB488_493
   refine skip_ (w1 := ?_) (by rfl) rfl ?_ ?_
   rotate_left
   ·go_simp
    rfl
   refine hK.out _ _ ((cf_ NB493_488 hHeld)) (fun hHeld => ?_)
   clear hK K
   refine one_ (i := 3) (N := none) bq_5 rfl rfl (by kernel_rfl) (by decide) (fun K hK => ?_)
   have hs319 : w317.cell? ⟨gb489, 0, none⟩ = some (.int .i64 0) := (blk_cell BK489.out 0).trans rfl
   have hfs319 := blk_frozen BK489.out 0
   obtain ⟨n485_489, n486_489, n487_489, n493_489, n489_485, n489_486, n489_487, n489_493⟩ := an8_ NB485_489 NB486_489 NB487_489 NB493_489 NB489_485 NB489_486 NB489_487 NB489_493
   have hs320 : w317.cell? ⟨gb489, 1, none⟩ = some (.string (⟨#[]⟩ : ByteArray)) := (blk_cell BK489.out 1).trans rfl
   have hfs320 := blk_frozen BK489.out 1
   have hs321 : w317.cell? ⟨gb489, 2, none⟩ = some (.int .i64 0) := (blk_cell BK489.out 2).trans rfl
   have hfs321 := blk_frozen BK489.out 2
   have hs322 : w317.cell? ⟨gb489, 3, none⟩ = some (.bool false) := (blk_cell BK489.out 3).trans rfl
   have hfs322 := blk_frozen BK489.out 3
   have hs324 : w317.cell? ⟨gb489, 4, none⟩ = some (.slice none 0 0) := (blk_cell BK489.out 4).trans rfl
   have hfs324 := blk_frozen BK489.out 4
   refine skip_ (w1 := ?_) (by rfl) rfl ?_ ?_
   rotate_left
   ·go_simp
    rfl
   refine hK.out _ _ ((cf_ NB493_489 (cf_ NB493_489 (cf_ NB493_489 (cf_ NB493_489 (cf_ NB493_489 hHeld)))))) (fun hHeld => ?_)
   clear hK K
   refine done_ (by kernel_rfl) ?_
   try go_wp2
   refine bodyPost_ret (results_cc rfl _ _ gb488 gb489 42 129 #[.slice Ao19 t490.length co19] #[.int .i64 t590, .string t591, .int .i64 t592, .bool t593, .slice Ao323 t594.length co323] (0, 0) (0, 0) _ _ rfl tb_ Try.underlying42 rfl (by kernel_rfl) rfl tb_ Try.underlying129 rfl (by kernel_rfl)) rfl ?_
   exact ⟨_, _, tq_1, tq_17, (by (with_reducible repeat (first | apply Kd.R_alloc | apply Kd.R_drewN | apply Kd.R_drew)); exact Kd.R_mono (rR_ (rR_ (rR_ (rR_ (rR_ (rR_ (Kd.R_types (Kd.R_types HO596.out BK488.out (by decide)) BK489.out (by decide)) (fun _ hk => hk.1.2))))))) (fun _ hk => trivial)), th_⟩
  subst c304
  rw [if_pos rfl] at H
  obtain ⟨t587, A305, H⟩ := bd_ H
  simp only [Option.some.injEq, Prod.mk.injEq] at H
  obtain ⟨rfl, rfl, rfl, rfl, rfl, rfl⟩ := H
  try go_wp2
  have z_ := p_ (Kd.R_drew HO_494000.out) <| dw6_ BK485 BK486 BK487 BK488 BK489 BK493 HB
  clear HO_494000 BK485 BK486 BK487 BK488 BK489 BK493 HB
  obtain ⟨HO_494000, BK485, BK486, BK487, BK488, BK489, BK493, HB⟩ := z_
  refine start_ (n := 8) (S := fun w' => w'.cell? ⟨gb493, 0, none⟩ = some (.slice Ao19 t490.length co19) ∧ w'.cell? ⟨gb486, 0, none⟩ = some (.slice A1_0 l1_0.length c1_0) ∧ w'.cell? ⟨gb487, 0, none⟩ = some (.int .i64 a2_0) ∧ w'.cell? ⟨gb487, 1, none⟩ = some (.string a2_1) ∧ w'.cell? ⟨gb487, 2, none⟩ = some (.string a2_2) ∧ w'.cell? ⟨gb487, 3, none⟩ = some (.int .i64 a2_3) ∧ w'.cell? ⟨gb487, 4, none⟩ = some (.int .i64 a2_4) ∧ w'.cell? ⟨gb487, 5, none⟩ = some (.string a2_5)) (ds := []) #[false, false, false, false, false, false, false, false] (by kernel_rfl) rfl rfl ⟨(blk_cell BK493.out 0).trans rfl, (blk_cell BK486.out 0).trans rfl, bk6_ BK487.out⟩ (fun hHeld => ?_); refine with_tabW spec_Asked.tab39 spec_Asked.bits39 (fun HT_ HW_ => ?_)
  generalize wc.drew = w306 at HO_494000 BK485 BK486 BK487 BK488 BK489 BK493 HB hHeld ⊢
  refine yr_ 2 132 #[false, false, true, false, false, false, false, false] HT_ ?_
  refine tr_ 0 130 #[true, false, true, false, false, false, false, false] HT_ HW_ hHeld ?_
  refine tr_ 1 131 #[true, true, true, false, false, false, false, false] HT_ HW_ hHeld ?_
  refine tr_ 3 133 #[true, true, true, true, false, false, false, false] HT_ HW_ hHeld ?_
  refine one_ (i := 4) (N := some 134) #[true, true, true, true, true, false, false, false] rfl rfl (one_of HT_.out (by kernel_rfl)) (by decide) (fun K hK => ?_)
  refine goes_ Try.func130 (by kernel_rfl) rfl #[.agg #[.slice A1_0 l1_0.length c1_0], .string a2_1] (by rfl) rfl rfl tq_0 ?_
  with_reducible refine (spec_KidsOf.calls kj237 _ _ l1_0 a2_1 t587 _ ?side1 ?side2 A305.out).mono ?_
  (case side1 => exact tq_11)
  (case side2 => exact HC1_0.out)
  rintro e w307 ⟨v588, rfl, ho0, hb⟩
  refine ⟨_, rfl, ?_⟩
  have z_ := p_ (Kd.R_below (raR_ HO_494000) hb) <| p_ (Kd.R_lower ho0 (below_size th_)) <| bw6_ (kb_ BK485) (kb_ BK486) (kb_ BK487) (kb_ BK488) (kb_ BK489) (kb_ BK493) th_ hb
  clear HO_494000 BK485 BK486 BK487 BK488 BK489 BK493 HB
  obtain ⟨HO_494000, HO589, BK485, BK486, BK487, BK488, BK489, BK493, HB⟩ := z_
  (try clear hb)
  (try clear ho0)
  obtain ⟨Ao308, co308, eo308⟩ := Kd.R_slice HO589.out
  (first | subst eo308 | (injection eo308 with f1_ f2_ f3_; have f4_ := f1_.symm; have f5_ := f3_.symm; clear f1_ f2_ f3_; subst f4_; subst f5_))
  refine hK.out _ _ ⟨(blk_cell BK493.out 0).trans rfl, (blk_cell BK486.out 0).trans rfl, bk6_ BK487.out⟩ (fun hHeld => ?_)
  clear hK K
  refine nm_ (some 134) ?_
  refine yr_ 5 135 #[true, true, true, true, true, true, false, false] HT_ ?_
  refine one_ (i := 6) (N := none) #[true, true, true, true, true, true, true, false] rfl rfl (one_of HT_.out (by kernel_rfl)) (by decide) (fun K hK => ?_)
  have hs309 : w307.cell? ⟨gb488, 0, none⟩ = some (.slice none 0 0) := (blk_cell BK488.out 0).trans rfl
  have hfs309 := blk_frozen BK488.out 0
  obtain ⟨n485_488, n486_488, n487_488, n489_488, n493_488, n488_485, n488_486, n488_487⟩ := an8_ NB485_488 NB486_488 NB487_488 NB489_488 NB493_488 NB488_485 NB488_486 NB488_487
  obtain ⟨n488_489, n488_493⟩ := an2_ NB488_489 NB488_493
  refine skip_ (w1 := ?_) (by rfl) rfl ?_ ?_
  rotate_left
  ·go_simp
   rfl
  refine hK.out _ _ ⟨(cf_ NB493_488 hHeld.1), (cf_ NB486_488 hHeld.2.1), (cf_ NB487_488 hHeld.2.2.1), (cf_ NB487_488 hHeld.2.2.2.1), (cf_ NB487_488 hHeld.2.2.2.2.1), (cf_ NB487_488 hHeld.2.2.2.2.2.1), (cf_ NB487_488 hHeld.2.2.2.2.2.2.1), (cf_ NB487_488 hHeld.2.2.2.2.2.2.2)⟩ (fun hHeld => ?_)
  clear hK K
  refine one_ (i := 7) (N := none) #[true, true, true, true, true, true, true, true] rfl rfl (one_of HT_.out (by kernel_rfl)) (by decide) (fun K hK => ?_)
  have hs310 : w307.cell? ⟨gb489, 0, none⟩ = some (.int .i64 0) := (blk_cell BK489.out 0).trans rfl
  have hfs310 := blk_frozen BK489.out 0
  obtain ⟨n485_489, n486_489, n487_489, n493_489, n489_485, n489_486, n489_487, n489_493⟩ := an8_ NB485_489 NB486_489 NB487_489 NB493_489 NB489_485 NB489_486 NB489_487 NB489_493
  have hs311 : w307.cell? ⟨gb489, 1, none⟩ = some (.string (⟨#[]⟩ : ByteArray)) := (blk_cell BK489.out 1).trans rfl
  have hfs311 := blk_frozen BK489.out 1
  have hs312 : w307.cell? ⟨gb489, 2, none⟩ = some (.int .i64 0) := (blk_cell BK489.out 2).trans rfl
  have hfs312 := blk_frozen BK489.out 2
  have hs313 : w307.cell? ⟨gb489, 3, none⟩ = some (.bool false) := (blk_cell BK489.out 3).trans rfl
  have hfs313 := blk_frozen BK489.out 3
  have hs314 : w307.cell? ⟨gb489, 4, none⟩ = some (.slice none 0 0) := (blk_cell BK489.out 4).trans rfl
  have hfs314 := blk_frozen BK489.out 4
  refine skip_ (w1 := ?_) (by rfl) rfl ?_ ?_
  rotate_left
  ·go_simp
   rfl
  refine hK.out _ _ ⟨(cf_ NB493_489 (cf_ NB493_489 (cf_ NB493_489 (cf_ NB493_489 (cf_ NB493_489 hHeld.1))))), (cf_ NB486_489 (cf_ NB486_489 (cf_ NB486_489 (cf_ NB486_489 (cf_ NB486_489 hHeld.2.1))))), (cf_ NB487_489 (cf_ NB487_489 (cf_ NB487_489 (cf_ NB487_489 (cf_ NB487_489 hHeld.2.2.1))))), (cf_ NB487_489 (cf_ NB487_489 (cf_ NB487_489 (cf_ NB487_489 (cf_ NB487_489 hHeld.2.2.2.1))))), (cf_ NB487_489 (cf_ NB487_489 (cf_ NB487_489 (cf_ NB487_489 (cf_ NB487_489 hHeld.2.2.2.2.1))))), (cf_ NB487_489 (cf_ NB487_489 (cf_ NB487_489 (cf_ NB487_489 (cf_ NB487_489 hHeld.2.2.2.2.2.1))))), (cf_ NB487_489 (cf_ NB487_489 (cf_ NB487_489 (cf_ NB487_489 (cf_ NB487_489 hHeld.2.2.2.2.2.2.1))))), (cf_ NB487_489 (cf_ NB487_489 (cf_ NB487_489 (cf_ NB487_489 (cf_ NB487_489 hHeld.2.2.2.2.2.2.2)))))⟩ (fun hHeld => ?_)
  clear hK K
  refine done_ (done_of HT_.out (by kernel_rfl)) ?_
  try go_wp2
  refine bodyPost_ret (results_cc rfl _ _ gb488 gb489 42 129 #[.slice Ao19 t490.length co19] #[.int .i64 0, .string (⟨#[]⟩ : ByteArray), .int .i64 0, .bool false, .slice Ao308 t587.length co308] (0, 0) (0, 0) _ _ rfl tb_ Try.underlying42 rfl (by kernel_rfl) rfl tb_ Try.underlying129 rfl (by kernel_rfl)) rfl ?_
  exact ⟨_, _, tq_1, tq_17, (by (with_reducible repeat (first | apply Kd.R_alloc | apply Kd.R_drewN | apply Kd.R_drew)); exact Kd.R_mono (rR_ (rR_ (rR_ (rR_ (rR_ (rR_ (Kd.R_types (Kd.R_types HO589.out BK488.out (by decide)) BK489.out (by decide)) (fun _ hk => hk.1.2))))))) (fun _ hk => trivial)), th_⟩
 rw [if_pos c277] at H
 have c277b0 := beq_iff_eq.mpr c277
 have c277b1 := bne_eq_false_iff_eq.mpr c277
 clear c277
 by_cases c278 : t520 = true
 ·subst c278
  rw [if_pos rfl] at H
  simp only [Option.some.injEq, Prod.mk.injEq] at H
  obtain ⟨rfl, rfl, rfl, rfl, rfl, rfl⟩ := H
  obtain ⟨n493_485, n485_493, n493_486, n486_493, n493_487, n487_493, n493_488, n488_493⟩ := an8_ NB493_485 NB485_493 NB493_486 NB486_493 NB493_487 NB487_493 NB493_488 NB488_493
  obtain ⟨n493_489, n489_493⟩ := an2_ NB493_489 NB489_493
  have hcz284_0 := bc_ BK493.out 0
  have hfz284_0 := blk_frozen BK493.out 0
  obtain ⟨n488_485, n485_488, n488_486, n486_488, n488_487, n487_488, n488_489, n489_488⟩ := an8_ NB488_485 NB485_488 NB488_486 NB486_488 NB488_487 NB487_488 NB488_489 NB489_488
  have hcz289_0 := bc_ BK488.out 0
  have hfz289_0 := blk_frozen BK488.out 0
  obtain ⟨n489_485, n485_489, n489_486, n486_489, n489_487, n487_489⟩ := an6_ NB489_485 NB485_489 NB489_486 NB486_489 NB489_487 NB487_489
  obtain ⟨hcz293_0, hcz293_1, hcz293_2, hcz293_3, hcz293_4⟩ := bk5_ BK489.out
  obtain ⟨hfz293_0, hfz293_1, hfz293_2, hfz293_3, hfz293_4⟩ := bf5_ BK489.out
  go_wp2
  refine bodyPost_ret (results_cc rfl _ _ gb488 gb489 42 129 #[.slice Ao19 t490.length co19] #[.int .i64 0, .string (⟨#[]⟩ : ByteArray), .int .i64 0, .bool true, .slice none 0 0] (0, 0) (0, 0) _ _ rfl tb_ Try.underlying42 rfl (by kernel_rfl) rfl tb_ Try.underlying129 rfl (by kernel_rfl)) rfl ?_
  exact ⟨_, _, tq_1, tq_17, tq_22, th_⟩
 replace c278 := Bool.eq_false_iff.mpr c278
 subst c278
 rw [if_neg nf_] at H
 obtain ⟨c294, H⟩ := fc_ H
 have c294b0 := decide_eq_true c294
 clear c294
 obtain ⟨c295, H⟩ := fc_ H
 have c295b0 := decide_eq_true c295
 clear c295
 simp only [Option.some.injEq, Prod.mk.injEq] at H
 obtain ⟨rfl, rfl, rfl, rfl, rfl, rfl⟩ := H
 try go_wp2
 have z_ := p_ (Kd.R_drew HO_494000.out) <| dw6_ BK485 BK486 BK487 BK488 BK489 BK493 HB
 clear HO_494000 BK485 BK486 BK487 BK488 BK489 BK493 HB
 obtain ⟨HO_494000, BK485, BK486, BK487, BK488, BK489, BK493, HB⟩ := z_
 have p586 : 0 ≤ (t521 : Int) := of_decide_eq_true tq_3
 have q586 : t521 < (l1_0.length : Int) := of_decide_eq_true tq_3
 obtain ⟨ad586, e586, hx586_0, hx586_1, hx586_2⟩ := at_T44 HR1_0.out t521 p586 q586
 have hw586_2 := hx586_2
 have hw586_1 := hx586_1
 have hw586_0 := hx586_0
 cases e586
 replace hx586_0 := hx_ HB.out hx586_0
 replace hx586_1 := hx_ HB.out hx586_1
 replace hx586_2 := hx_ HB.out hx586_2
 replace p586 := eq_true p586
 replace q586 := eq_true q586
 refine start_ (n := 11) (S := fun w' => w'.cell? ⟨gb493, 0, none⟩ = some (.slice Ao19 t490.length co19) ∧ w'.cell? ⟨gb486, 0, none⟩ = some (.slice (some ad586) l1_0.length c1_0) ∧ w'.cell? (ad586.add ((t521).toNat * 3)) = some (.string ((rd_T44 l1_0 t521).f0)) ∧ w'.cell? ⟨(ad586.add ((t521).toNat * 3)).block, (ad586.add ((t521).toNat * 3)).off + 1, none⟩ = some (.bool ((rd_T44 l1_0 t521).f1)) ∧ w'.cell? ⟨(ad586.add ((t521).toNat * 3)).block, (ad586.add ((t521).toNat * 3)).off + 2, none⟩ = some (.string ((rd_T44 l1_0 t521).f2))) (ds := []) bq_45 (by kernel_rfl) rfl rfl ⟨(blk_cell BK493.out 0).trans rfl, (blk_cell BK486.out 0).trans rfl, ((HB.out.cell (World.block_lt_of_cell? w _ hw586_0)).trans hw586_0), ((HB.out.cell (World.block_lt_of_cell? w _ hw586_1)).trans hw586_1), ((HB.out.cell (World.block_lt_of_cell? w _ hw586_2)).trans hw586_2)⟩ (fun hHeld => ?_); refine with_tabW spec_Asked.tab35 spec_Asked.bits35 (fun HT_ HW_ => ?_)
 generalize wc.drew = w296 at HO_494000 BK485 BK486 BK487 BK488 BK489 BK493 HB hx586_0 hx586_1 hx586_2 hHeld ⊢
 refine yr_ 1 116 #[false, true, false, false, false, false, false, false, false, false, false] HT_ ?_
 refine yr_ 3 118 #[false, true, false, true, false, false, false, false, false, false, false] HT_ ?_
 refine tr_ 0 115 #[true, true, false, true, false, false, false, false, false, false, false] HT_ HW_ hHeld ?_
 refine tr_ 2 117 #[true, true, true, true, false, false, false, false, false, false, false] HT_ HW_ hHeld ?_
 refine yr_ 4 119 bq_46 HT_ ?_
 refine yr_ 5 120 bq_47 HT_ ?_
 refine tr_ 6 121 bq_48 HT_ HW_ hHeld ?_
 refine yr_ 7 122 bq_49 HT_ ?_
 refine yr_ 8 123 bq_50 HT_ ?_
 refine one_ (i := 9) (N := none) bq_51 rfl rfl (one_of HT_.out (by kernel_rfl)) (by decide) (fun K hK => ?_)
 have hs297 : w296.cell? ⟨gb488, 0, none⟩ = some (.slice none 0 0) := (blk_cell BK488.out 0).trans rfl
 have hfs297 := blk_frozen BK488.out 0
 obtain ⟨n485_488, n486_488, n487_488, n489_488, n493_488, n488_485, n488_486, n488_487⟩ := an8_ NB485_488 NB486_488 NB487_488 NB489_488 NB493_488 NB488_485 NB488_486 NB488_487
 obtain ⟨n488_489, n488_493⟩ := an2_ NB488_489 NB488_493
 refine skip_ (w1 := ?_) (by rfl) rfl ?_ ?_
 rotate_left
 ·go_simp
  rfl
 refine hK.out _ _ ⟨(cf_ NB493_488 hHeld.1), (cf_ NB486_488 hHeld.2.1), ((cell_far (p := ⟨gb488, _, none⟩) (by first | exact Nat.ne_of_lt (Nat.lt_of_lt_of_le tq_52 GW488.out) | (rw [add_block]; exact Nat.ne_of_lt (Nat.lt_of_lt_of_le tq_52 GW488.out)) | (show (Addr.add _ _).block ≠ _; rw [add_block]; exact Nat.ne_of_lt (Nat.lt_of_lt_of_le tq_52 GW488.out)) | (dsimp only; exact Nat.ne_of_lt (Nat.lt_of_lt_of_le tq_52 GW488.out))) _).trans (hHeld.2.2.1)), ((cell_far (p := ⟨gb488, _, none⟩) (by first | exact Nat.ne_of_lt (Nat.lt_of_lt_of_le tq_51 GW488.out) | (rw [add_block]; exact Nat.ne_of_lt (Nat.lt_of_lt_of_le tq_51 GW488.out)) | (show (Addr.add _ _).block ≠ _; rw [add_block]; exact Nat.ne_of_lt (Nat.lt_of_lt_of_le tq_51 GW488.out)) | (dsimp only; exact Nat.ne_of_lt (Nat.lt_of_lt_of_le tq_51 GW488.out))) _).trans (hHeld.2.2.2.1)), ((cell_far (p := ⟨gb488, _, none⟩) (by first | exact Nat.ne_of_lt (Nat.lt_of_lt_of_le tq_50 GW488.out) | (rw [add_block]; exact Nat.ne_of_lt (Nat.lt_of_lt_of_le tq_50 GW488.out)) | (show (Addr.add _ _).block ≠ _; rw [add_block]; exact Nat.ne_of_lt (Nat.lt_of_lt_of_le tq_50 GW488.out)) | (dsimp only; exact Nat.ne_of_lt (Nat.lt_of_lt_of_le tq_50 GW488.out))) _).trans (hHeld.2.2.2.2))⟩ (fun hHeld => ?_)
 clear hK K
 refine one_ (i := 10) (N := none) bq_52 rfl rfl (one_of HT_.out (by kernel_rfl)) (by decide) (fun K hK => ?_)
 have hs298 : w296.cell? ⟨gb489, 0, none⟩ = some (.int .i64 0) := (blk_cell BK489.out 0).trans rfl
 have hfs298 := blk_frozen BK489.out 0
 obtain ⟨n485_489, n486_489, n487_489, n493_489, n489_485, n489_486, n489_487, n489_493⟩ := an8_ NB485_489 NB486_489 NB487_489 NB493_489 NB489_485 NB489_486 NB489_487 NB489_493
 have hs299 : w296.cell? ⟨gb489, 1, none⟩ = some (.string (⟨#[]⟩ : ByteArray)) := (blk_cell BK489.out 1).trans rfl
 have hfs299 := blk_frozen BK489.out 1
 have hs300 : w296.cell? ⟨gb489, 2, none⟩ = some (.int .i64 0) := (blk_cell BK489.out 2).trans rfl
 have hfs300 := blk_frozen BK489.out 2
 have hs301 : w296.cell? ⟨gb489, 3, none⟩ = some (.bool false) := (blk_cell BK489.out 3).trans rfl
 have hfs301 := blk_frozen BK489.out 3
 have hs302 : w296.cell? ⟨gb489, 4, none⟩ = some (.slice none 0 0) := (blk_cell BK489.out 4).trans rfl
 have hfs302 := blk_frozen BK489.out 4
 refine skip_ (w1 := ?_) (by rfl) rfl ?_ ?_
 rotate_left
 ·go_simp
  rfl
 refine hK.out _ _ ⟨(cf_ NB493_489 (cf_ NB493_489 (cf_ NB493_489 (cf_ NB493_489 (cf_ NB493_489 hHeld.1))))), (cf_ NB486_489 (cf_ NB486_489 (cf_ NB486_489 (cf_ NB486_489 (cf_ NB486_489 hHeld.2.1))))), ((cell_far (p := ⟨gb489, _, none⟩) tq_16 _).trans (((cell_far (p := ⟨gb489, _, none⟩) tq_16 _).trans (((cell_far (p := ⟨gb489, _, none⟩) tq_16 _).trans (((cell_far (p := ⟨gb489, _, none⟩) tq_16 _).trans (((cell_far (p := ⟨gb489, _, none⟩) tq_16 _).trans (hHeld.2.2.1)))))))))), ((cell_far (p := ⟨gb489, _, none⟩) tq_15 _).trans (((cell_far (p := ⟨gb489, _, none⟩) tq_15 _).trans (((cell_far (p := ⟨gb489, _, none⟩) tq_15 _).trans (((cell_far (p := ⟨gb489, _, none⟩) tq_15 _).trans (((cell_far (p := ⟨gb489, _, none⟩) tq_15 _).trans (hHeld.2.2.2.1)))))))))), ((cell_far (p := ⟨gb489, _, none⟩) tq_14 _).trans (((cell_far (p := ⟨gb489, _, none⟩) tq_14 _).trans (((cell_far (p := ⟨gb489, _, none⟩) tq_14 _).trans (((cell_far (p := ⟨gb489, _, none⟩) tq_14 _).trans (((cell_far (p := ⟨gb489, _, none⟩) tq_14 _).trans (hHeld.2.2.2.2))))))))))⟩ (fun hHeld => ?_)
 clear hK K
 refine done_ (done_of HT_.out (by kernel_rfl)) ?_
 try go_wp2
 refine bodyPost_ret (results_cc rfl _ _ gb488 gb489 42 129 #[.slice Ao19 t490.length co19] #[.int .i64 0, .string (⟨#[]⟩ : ByteArray), .int .i64 (((rd_T44 l1_0 t521).f2).size : Int), .bool false, .slice none 0 0] (0, 0) (0, 0) _ _ rfl tb_ Try.underlying42 rfl (by kernel_rfl) rfl tb_ Try.underlying129 rfl (by kernel_rfl)) rfl ?_
 exact ⟨_, _, tq_1, tq_17, tq_22, th_⟩

end Go.Proofs.Ytljnnmpfeningaa.PFnViews
