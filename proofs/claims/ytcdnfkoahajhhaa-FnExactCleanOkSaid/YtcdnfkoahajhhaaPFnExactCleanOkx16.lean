/- Contracts of Go functions, written by a program of ours over the print of the kit: each says that the call returns what the Lean function beside it computes. Conditions: as each theorem states them. -/
import Derived.Test.YtcdnfkoahajhhaaPkFnExactCleanOk
import Derived.Test.YtcdnfkoahajhhaaPFnExactCleanOkx0
import Derived.Test.YtcdnfkoahajhhaaPFnExactCleanOkx1
import Derived.Test.YtcdnfkoahajhhaaPFnExactCleanOkx3
import Derived.Test.YtcdnfkoahajhhaaPFnExactCleanOkx4
import Derived.Test.YtcdnfkoahajhhaaPFnExactCleanOkx5
import Derived.Test.YtcdnfkoahajhhaaPFnExactCleanOkx9
import Derived.Test.YtcdnfkoahajhhaaPFnExactCleanOkx10
import Derived.Test.YtcdnfkoahajhhaaPFnExactCleanOkx14
import Derived.Test.YtcdnfkoahajhhaaPFnExactCleanOkx15
namespace Go.Proofs.Ytcdnfkoahajhhaa.PFnExactCleanOk
open Go.RowKit Go.Proofs.YtcdnfkoahajhhaaW.PrintWords Go.Proofs.YtcdnfkoahajhhaaW.PrintLast Go.Proofs.YtcdnfkoahajhhaaW.PrintMore
attribute [local go_sem] max2_int min2_int max_two min_two max_three min_three max_four min_four   -- for this text's walks alone
set_option linter.unusedVariables false
set_option linter.unusedSimpArgs false

/-! ### laws_FnExactCleanOk: function 13 -/
mutual
def laws_FnExactCleanOk.j0 : Nat → Int → Int → ByteArray → List (S204) → Int → Int → Int → Int → Int → List Int → List (S44) → Option (Bool)
 | 0, _, _, _, _, _, _, _, _, _, _, _ => none
 | k + 1, x2, x9, x392000, x392001, x393000, x393001, x393002, x393003, x394000, x394001, x394002 => (laws_szPart.f k x394000 x394001 x394002 x9).bind fun t395 => (if t395 < 0 then (some true) else (laws_FnExactCleanOk.j1 k x2 x392000 x392001 x393000 x393001 x393002 x393003 x394000 x394001 x394002))
def laws_FnExactCleanOk.j1 : Nat → Int → ByteArray → List (S204) → Int → Int → Int → Int → Int → List Int → List (S44) → Option (Bool)
 | 0, _, _, _, _, _, _, _, _, _, _ => none
 | k + 1, x2, x392000, x392001, x393000, x393001, x393002, x393003, x394000, x394001, x394002 => (laws_toMemory.f k x392000 x392001).bind fun bt396 => ((laws_toGeo.f x393000 x393001 x393002 x393003).bind fun bt400 => ((laws_toPart.f k x394000 x394001 x394002).bind fun bt404 => ((spec_CleanOk.f k bt396.1 bt396.2 bt400.1 bt400.2.1 bt400.2.2.1 bt400.2.2.2 x2 bt404.1 bt404.2.1 bt404.2.2).bind fun t411 => ((laws_toMemory.f k x392000 x392001).bind fun bt412 => ((laws_toPart.f k x394000 x394001 x394002).bind fun bt417 => ((laws_toGeo.f x393000 x393001 x393002 x393003).bind fun bt425 => ((impl_CleanOk.f k bt412.1 bt412.2 bt425.1 bt425.2.1 bt425.2.2.1 bt425.2.2.2 x2 bt417.1 bt417.2.1 bt417.2.2).bind fun t429 => (if (t429 != t411) = true then (some false) else (laws_FnExactCleanOk.j2 k x392000 x392001 x394000 x394001 x394002 bt412.1 bt412.2 bt417.1 bt417.2.1 bt417.2.2)))))))))
def laws_FnExactCleanOk.j2 : Nat → ByteArray → List (S204) → Int → List Int → List (S44) → ByteArray → List (S206) → Int → List Int → List (S49) → Option (Bool)
 | 0, _, _, _, _, _, _, _, _, _, _ => none
 | k + 1, x392000, x392001, x394000, x394001, x394002, x417000, x417001, x425000, x425001, x425002 => (laws_toMemory.f k x392000 x392001).bind fun bt430 => ((laws_eqMemory.f k x417000 x417001 bt430.1 bt430.2).bind fun t434 => (if t434 = true then (laws_FnExactCleanOk.j3 k x394000 x394001 x394002 x425000 x425001 x425002) else (some false)))
def laws_FnExactCleanOk.j3 : Nat → Int → List Int → List (S44) → Int → List Int → List (S49) → Option (Bool)
 | 0, _, _, _, _, _, _ => none
 | k + 1, x394000, x394001, x394002, x425000, x425001, x425002 => (laws_toPart.f k x394000 x394001 x394002).bind fun bt435 => ((laws_eqPart.f k x425000 x425001 x425002 bt435.1 bt435.2.1 bt435.2.2).bind fun t442 => (if t442 = true then (some true) else (some false)))
end
def laws_FnExactCleanOk.f (k : Nat) (a0_0 : ByteArray) (l0_1 : List (S204)) (a1_0 : Int) (a1_1 : Int) (a1_2 : Int) (a1_3 : Int) (a2 : Int) (a3_0 : Int) (l3_1 : List Int) (l3_2 : List (S44)) : Option (Bool) := (laws_szMemory.f k a0_0 l0_1 1048576).bind fun t394 => (if t394 < 0 then (some true) else (laws_FnExactCleanOk.j0 k a2 t394 a0_0 l0_1 a1_0 a1_1 a1_2 a1_3 a3_0 l3_1 l3_2))
theorem laws_FnExactCleanOk.mono_l : ∀ k, (∀ y0 y1 y2 y3 y4 y5 y6 y7 y8 y9 y10, LeO (laws_FnExactCleanOk.j0 k y0 y1 y2 y3 y4 y5 y6 y7 y8 y9 y10) (laws_FnExactCleanOk.j0 (k + 1) y0 y1 y2 y3 y4 y5 y6 y7 y8 y9 y10)) ∧ (∀ y0 y1 y2 y3 y4 y5 y6 y7 y8 y9, LeO (laws_FnExactCleanOk.j1 k y0 y1 y2 y3 y4 y5 y6 y7 y8 y9) (laws_FnExactCleanOk.j1 (k + 1) y0 y1 y2 y3 y4 y5 y6 y7 y8 y9)) ∧ (∀ y0 y1 y2 y3 y4 y5 y6 y7 y8 y9, LeO (laws_FnExactCleanOk.j2 k y0 y1 y2 y3 y4 y5 y6 y7 y8 y9) (laws_FnExactCleanOk.j2 (k + 1) y0 y1 y2 y3 y4 y5 y6 y7 y8 y9)) ∧ (∀ y0 y1 y2 y3 y4 y5, LeO (laws_FnExactCleanOk.j3 k y0 y1 y2 y3 y4 y5) (laws_FnExactCleanOk.j3 (k + 1) y0 y1 y2 y3 y4 y5))
 | 0 => ⟨fun _ _ _ _ _ _ _ _ _ _ _ r h => by simp [laws_FnExactCleanOk.j0] at h, fun _ _ _ _ _ _ _ _ _ _ r h => by simp [laws_FnExactCleanOk.j1] at h, fun _ _ _ _ _ _ _ _ _ _ r h => by simp [laws_FnExactCleanOk.j2] at h, fun _ _ _ _ _ _ r h => by simp [laws_FnExactCleanOk.j3] at h⟩
 | k + 1 => by
  obtain ⟨ih0, ih1, ih2, ih3⟩ := laws_FnExactCleanOk.mono_l k
  refine ⟨?_, ?_, ?_, ?_⟩
  ·intro y0 y1 y2 y3 y4 y5 y6 y7 y8 y9 y10
   unfold laws_FnExactCleanOk.j0
   repeat' first
   | (with_reducible exact ih0 ..)
   | (with_reducible exact ih1 ..)
   | (with_reducible exact ih2 ..)
   | (with_reducible exact ih3 ..)
   | (with_reducible exact impl_CleanOk.mono ..)
   | (with_reducible exact laws_eqMemory.mono ..)
   | (with_reducible exact laws_eqPart.mono ..)
   | (with_reducible exact laws_szMemory.mono ..)
   | (with_reducible exact laws_szPart.mono ..)
   | (with_reducible exact laws_toMemory.mono ..)
   | (with_reducible exact laws_toPart.mono ..)
   | (with_reducible exact spec_CleanOk.mono ..)
   | (with_reducible exact LeO.refl _)
   | (with_reducible exact LeO.none _)
   | (with_reducible refine LeO.ite ?_ ?_)
   | (with_reducible refine LeO.bind ?_ (fun _ => ?_))
   | exact ih0 ..
   | exact ih1 ..
   | exact ih2 ..
   | exact ih3 ..
   | exact impl_CleanOk.mono ..
   | exact laws_eqMemory.mono ..
   | exact laws_eqPart.mono ..
   | exact laws_szMemory.mono ..
   | exact laws_szPart.mono ..
   | exact laws_toMemory.mono ..
   | exact laws_toPart.mono ..
   | exact spec_CleanOk.mono ..
   | exact LeO.none _
   | refine LeO.ite ?_ ?_
   | refine LeO.bind ?_ (fun _ => ?_)
  ·intro y0 y1 y2 y3 y4 y5 y6 y7 y8 y9
   unfold laws_FnExactCleanOk.j1
   repeat' first
   | (with_reducible exact ih0 ..)
   | (with_reducible exact ih1 ..)
   | (with_reducible exact ih2 ..)
   | (with_reducible exact ih3 ..)
   | (with_reducible exact impl_CleanOk.mono ..)
   | (with_reducible exact laws_eqMemory.mono ..)
   | (with_reducible exact laws_eqPart.mono ..)
   | (with_reducible exact laws_szMemory.mono ..)
   | (with_reducible exact laws_szPart.mono ..)
   | (with_reducible exact laws_toMemory.mono ..)
   | (with_reducible exact laws_toPart.mono ..)
   | (with_reducible exact spec_CleanOk.mono ..)
   | (with_reducible exact LeO.refl _)
   | (with_reducible exact LeO.none _)
   | (with_reducible refine LeO.ite ?_ ?_)
   | (with_reducible refine LeO.bind ?_ (fun _ => ?_))
   | exact ih0 ..
   | exact ih1 ..
   | exact ih2 ..
   | exact ih3 ..
   | exact impl_CleanOk.mono ..
   | exact laws_eqMemory.mono ..
   | exact laws_eqPart.mono ..
   | exact laws_szMemory.mono ..
   | exact laws_szPart.mono ..
   | exact laws_toMemory.mono ..
   | exact laws_toPart.mono ..
   | exact spec_CleanOk.mono ..
   | exact LeO.none _
   | refine LeO.ite ?_ ?_
   | refine LeO.bind ?_ (fun _ => ?_)
  ·intro y0 y1 y2 y3 y4 y5 y6 y7 y8 y9
   unfold laws_FnExactCleanOk.j2
   repeat' first
   | (with_reducible exact ih0 ..)
   | (with_reducible exact ih1 ..)
   | (with_reducible exact ih2 ..)
   | (with_reducible exact ih3 ..)
   | (with_reducible exact impl_CleanOk.mono ..)
   | (with_reducible exact laws_eqMemory.mono ..)
   | (with_reducible exact laws_eqPart.mono ..)
   | (with_reducible exact laws_szMemory.mono ..)
   | (with_reducible exact laws_szPart.mono ..)
   | (with_reducible exact laws_toMemory.mono ..)
   | (with_reducible exact laws_toPart.mono ..)
   | (with_reducible exact spec_CleanOk.mono ..)
   | (with_reducible exact LeO.refl _)
   | (with_reducible exact LeO.none _)
   | (with_reducible refine LeO.ite ?_ ?_)
   | (with_reducible refine LeO.bind ?_ (fun _ => ?_))
   | exact ih0 ..
   | exact ih1 ..
   | exact ih2 ..
   | exact ih3 ..
   | exact impl_CleanOk.mono ..
   | exact laws_eqMemory.mono ..
   | exact laws_eqPart.mono ..
   | exact laws_szMemory.mono ..
   | exact laws_szPart.mono ..
   | exact laws_toMemory.mono ..
   | exact laws_toPart.mono ..
   | exact spec_CleanOk.mono ..
   | exact LeO.none _
   | refine LeO.ite ?_ ?_
   | refine LeO.bind ?_ (fun _ => ?_)
  ·intro y0 y1 y2 y3 y4 y5
   unfold laws_FnExactCleanOk.j3
   repeat' first
   | (with_reducible exact ih0 ..)
   | (with_reducible exact ih1 ..)
   | (with_reducible exact ih2 ..)
   | (with_reducible exact ih3 ..)
   | (with_reducible exact impl_CleanOk.mono ..)
   | (with_reducible exact laws_eqMemory.mono ..)
   | (with_reducible exact laws_eqPart.mono ..)
   | (with_reducible exact laws_szMemory.mono ..)
   | (with_reducible exact laws_szPart.mono ..)
   | (with_reducible exact laws_toMemory.mono ..)
   | (with_reducible exact laws_toPart.mono ..)
   | (with_reducible exact spec_CleanOk.mono ..)
   | (with_reducible exact LeO.refl _)
   | (with_reducible exact LeO.none _)
   | (with_reducible refine LeO.ite ?_ ?_)
   | (with_reducible refine LeO.bind ?_ (fun _ => ?_))
   | exact ih0 ..
   | exact ih1 ..
   | exact ih2 ..
   | exact ih3 ..
   | exact impl_CleanOk.mono ..
   | exact laws_eqMemory.mono ..
   | exact laws_eqPart.mono ..
   | exact laws_szMemory.mono ..
   | exact laws_szPart.mono ..
   | exact laws_toMemory.mono ..
   | exact laws_toPart.mono ..
   | exact spec_CleanOk.mono ..
   | exact LeO.none _
   | refine LeO.ite ?_ ?_
   | refine LeO.bind ?_ (fun _ => ?_)
theorem laws_FnExactCleanOk.mono : ∀ a0 a1 a2 a3 a4 a5 a6 a7 a8 a9 k, LeO (laws_FnExactCleanOk.f k a0 a1 a2 a3 a4 a5 a6 a7 a8 a9) (laws_FnExactCleanOk.f (k + 1) a0 a1 a2 a3 a4 a5 a6 a7 a8 a9) := by
 intro a0 a1 a2 a3 a4 a5 a6 a7 a8 a9 k
 obtain ⟨ih0, ih1, ih2, ih3⟩ := laws_FnExactCleanOk.mono_l k
 unfold laws_FnExactCleanOk.f
 repeat' first
   | (with_reducible exact ih0 ..)
   | (with_reducible exact ih1 ..)
   | (with_reducible exact ih2 ..)
   | (with_reducible exact ih3 ..)
   | (with_reducible exact impl_CleanOk.mono ..)
   | (with_reducible exact laws_eqMemory.mono ..)
   | (with_reducible exact laws_eqPart.mono ..)
   | (with_reducible exact laws_szMemory.mono ..)
   | (with_reducible exact laws_szPart.mono ..)
   | (with_reducible exact laws_toMemory.mono ..)
   | (with_reducible exact laws_toPart.mono ..)
   | (with_reducible exact spec_CleanOk.mono ..)
   | (with_reducible exact LeO.refl _)
   | (with_reducible exact LeO.none _)
   | (with_reducible refine LeO.ite ?_ ?_)
   | (with_reducible refine LeO.bind ?_ (fun _ => ?_))
   | exact ih0 ..
   | exact ih1 ..
   | exact ih2 ..
   | exact ih3 ..
   | exact impl_CleanOk.mono ..
   | exact laws_eqMemory.mono ..
   | exact laws_eqPart.mono ..
   | exact laws_szMemory.mono ..
   | exact laws_szPart.mono ..
   | exact laws_toMemory.mono ..
   | exact laws_toPart.mono ..
   | exact spec_CleanOk.mono ..
   | exact LeO.none _
   | refine LeO.ite ?_ ?_
   | refine LeO.bind ?_ (fun _ => ?_)
def laws_FnExactCleanOk.T8 : Bool × List (List Nat × List Nat) := (true, [([], []), ([0], [0]), ([], []), ([2, 1], [2]), ([], []), ([], []), ([5, 3], [5]), ([1, 3, 4, 6, 6], [1, 3, 4, 6]), ([7, 7, 0, 1, 2, 3, 4, 5, 6, 7], [7])])
def laws_FnExactCleanOk.B8 : List Nat := [0, 1, 0, 7, 0, 0, 47, 127, 255]
theorem laws_FnExactCleanOk.tab8 : rtab .any (opsOf Try.f13 8) = laws_FnExactCleanOk.T8 := by kernel_rfl
theorem laws_FnExactCleanOk.bits8 : waitsOk laws_FnExactCleanOk.T8.2 laws_FnExactCleanOk.B8 = true := by kernel_rfl
set_option maxHeartbeats 8000000 in
set_option maxRecDepth 100000 in
theorem laws_FnExactCleanOk.calls (k : Nat) (a0_0 : ByteArray) (A0_1 : Option Addr) (c0_1 : Nat) (l0_1 : List (S204)) (a1_0 : Int) (a1_1 : Int) (a1_2 : Int) (a1_3 : Int) (a2 : Int) (a3_0 : Int) (A3_1 : Option Addr) (c3_1 : Nat) (l3_1 : List Int) (A3_2 : Option Addr) (c3_2 : Nat) (l3_2 : List (S44)) (r : Bool) (w : World) (hr0_1 : Kd.C k204 w A0_1 l0_1.length l0_1) (hc0_1 : l0_1.length ≤ c0_1) (hr3_1 : Kd.C (Kd.int .i64) w A3_1 l3_1.length l3_1) (hc3_1 : l3_1.length ≤ c3_1) (hr3_2 : Kd.C k44 w A3_2 l3_2.length l3_2) (hc3_2 : l3_2.length ≤ c3_2) (h : laws_FnExactCleanOk.f k a0_0 l0_1 a1_0 a1_1 a1_2 a1_3 a2 a3_0 l3_1 l3_2 = some r) :
  Calls Try.prog 13 #[.agg #[.string a0_0, .slice A0_1 l0_1.length c0_1], .agg #[.int .i64 a1_0, .int .i64 a1_1, .int .i64 a1_2, .int .i64 a1_3], .int .i64 a2, .agg #[.int .i64 a3_0, .slice A3_1 l3_1.length c3_1, .slice A3_2 l3_2.length c3_2]] w fun e w' => e = .returned (.bool r) ∧ Below w.heap.size w w' := by
 have hu108 := Try.underlying108
 have hu79 := Try.underlying79
 have hu86 := Try.underlying86
 have hu113 := Try.underlying113
 have hu69 := Try.underlying69
 have HR0_1 := Aside0.mk hr0_1
 have HC0_1 := Aside0.mk hc0_1
 clear hr0_1 hc0_1
 have HR3_1 := Aside0.mk hr3_1
 have HC3_1 := Aside0.mk hc3_1
 clear hr3_1 hc3_1
 have HR3_2 := Aside0.mk hr3_2
 have HC3_2 := Aside0.mk hc3_2
 clear hr3_2 hc3_2
 have HB := Aside0.mk (Below.refl w.heap.size w)
 have H : ((laws_szMemory.f k a0_0 l0_1 1048576).bind fun t394 => (if t394 < 0 then (some true) else (laws_FnExactCleanOk.j0 k a2 t394 a0_0 l0_1 a1_0 a1_1 a1_2 a1_3 a3_0 l3_1 l3_2))) = some r := h
 clear h
 replace H := Option.bind_eq_some_iff.mp H
 obtain ⟨t394, A50, H⟩ := H
 replace H : (if t394 < 0 then (some true) else (laws_FnExactCleanOk.j0 k a2 t394 a0_0 l0_1 a1_0 a1_1 a1_2 a1_3 a3_0 l3_1 l3_2)) = some r := H
 have A5 := Aside0.mk A50
 clear A50
 have HC6 := Aside0.mk H
 clear H
 go_enter Try.func13, Try.ntmps13
 go_upto_if 18 with (first | ((with_reducible refine gate_dst (N := 4) rfl ?_); refine box_event ?hg (N := 4) ?hd (cs := #[.string a0_0, .slice A0_1 l0_1.length c0_1]) (t := 108) ?hr ?_; (case hd => rfl); (case hg => rfl); (case hr => first | (go_simp; done) | (go_simp; rfl)); intro gb391 hg w7 hbox hb; have z_ := p_ (below_step tq_0 hb) <| p_ (hbox) <| p_ (gb_ hg tq_0) <| a_ (gb_ hg tq_0); clear HB; obtain ⟨HB, BK391, GW391, GE391⟩ := z_; clear hb hbox hg) | ((with_reducible refine gate_dst (N := 5) rfl ?_); refine box_event ?hg (N := 5) ?hd (cs := #[.int .i64 a1_0, .int .i64 a1_1, .int .i64 a1_2, .int .i64 a1_3]) (t := 79) ?hr ?_; (case hd => rfl); (case hg => rfl); (case hr => first | (go_simp; done) | (go_simp; rfl)); intro gb392 hg w8 hbox hb; have z_ := p_ (blk_below tq_8 hb) <| p_ (below_step tq_129 hb) <| p_ (hbox) <| p_ (gb_ hg tq_129) <| p_ (gb_ hg tq_129) <| p_ (ltne_ hg (blk_lt tq_8)) <| a_ (gtne_ hg (blk_lt tq_8)); clear BK391 HB; obtain ⟨BK391, HB, BK392, GW392, GE392, NB391_392, NB392_391⟩ := z_; clear hb hbox hg) | ((with_reducible refine gate_dst (N := 7) rfl ?_); refine box_event ?hg (N := 7) ?hd (cs := #[.int .i64 a3_0, .slice A3_1 l3_1.length c3_1, .slice A3_2 l3_2.length c3_2]) (t := 86) ?hr ?_; (case hd => rfl); (case hg => rfl); (case hr => first | (go_simp; done) | (go_simp; rfl)); intro gb393 hg w9 hbox hb; have z_ := p_ (blk_below tq_8 hb) <| p_ (blk_below tq_10 hb) <| p_ (below_step tq_112 hb) <| p_ (hbox) <| p_ (gb_ hg tq_112) <| p_ (gb_ hg tq_112) <| p_ (ltne_ hg (blk_lt tq_8)) <| p_ (gtne_ hg (blk_lt tq_8)) <| p_ (ltne_ hg (blk_lt tq_10)) <| a_ (gtne_ hg (blk_lt tq_10)); clear BK391 BK392 HB; obtain ⟨BK391, BK392, HB, BK393, GW393, GE393, NB391_393, NB393_391, NB392_393, NB393_392⟩ := z_; clear hb hbox hg; have hnb10 := NB391_392.out; have hnc10 := NB392_391.out; have hnb11 := NB391_393.out; have hnc11 := NB393_391.out; have hcz12_0 := bc_ BK391.out 0; have hcz12_1 := bc_ BK391.out 1; have hfz12_0 := blk_frozen BK391.out 0; have hfz12_1 := blk_frozen BK391.out 1) | ((with_reducible refine gate_callee (f := 73) rfl ?_); refine goesL_ (some 16) rfl rfl Try.func73 (by kernel_rfl) rfl #[.agg #[.string a0_0, .slice A0_1 l0_1.length c0_1], .int .i64 1048576] rfl tq_1 ?_; (with_reducible refine (laws_szMemory.calls k a0_0 _ _ l0_1 1048576 t394 _ ?side1 ?side2 A5.out).mono ?_); (case side1 => exact tq_4); (case side2 => exact HC0_1.out); rintro e w13 ⟨rfl, hb⟩; refine ⟨_, rfl, ?_⟩; have z_ := p_ (blk_below tq_8 hb) <| p_ (blk_below tq_10 hb) <| p_ (blk_below tq_15 hb) <| a_ (below_step tq_6 hb); clear BK391 BK392 BK393 HB; obtain ⟨BK391, BK392, BK393, HB⟩ := z_; (try clear hb); (try clear hb2); (try clear hk); (try clear hi)))
 (try simp only [Act.put, List.setIfInBounds_toArray, List.set_cons_zero, List.set_cons_succ])
 go_cut [] (fun wc => ∃ (kq : Nat), Aside0 (laws_FnExactCleanOk.j0 kq a2 t394 a0_0 l0_1 a1_0 a1_1 a1_2 a1_3 a3_0 l3_1 l3_2 = some r) ∧ Aside0 (kq ≤ k) ∧ Aside0 (wc.heap[gb391]? = some (.cells #[.string a0_0, (.slice A0_1 l0_1.length c0_1)] 108 (0, 0))) ∧ Aside0 (wc.heap[gb392]? = some (.cells #[.int .i64 a1_0, .int .i64 a1_1, .int .i64 a1_2, .int .i64 a1_3] 79 (0, 0))) ∧ Aside0 (wc.heap[gb393]? = some (.cells #[.int .i64 a3_0, (.slice A3_1 l3_1.length c3_1), (.slice A3_2 l3_2.length c3_2)] 86 (0, 0))) ∧ Aside0 (Below w.heap.size w wc))
 case first =>
  have H := HC6.out
  clear HC6
  by_cases c14 : t394 < 0
  ·rw [if_pos c14] at H
   have c14b0 : decide (t394 < 0) = true := decide_eq_true c14
   clear c14
   (first | rw [c14b0] | (simp only [i64_w, i32_w]; rw [c14b0]) | skip)
   obtain rfl := Option.some.inj H
   go_wp2
   go_ret
   exact ⟨tq_2, tq_6⟩
  ·rw [if_neg c14] at H
   have c14b0 : decide (t394 < 0) = false := decide_eq_false c14
   clear c14
   (first | rw [c14b0] | (simp only [i64_w, i32_w]; rw [c14b0]) | skip)
   have H' := Aside0.mk H
   clear H
   go_wp2
   go_meet
   case rel => exact ⟨_, H', ⟨tq_189⟩, ⟨tq_8⟩, ⟨tq_10⟩, ⟨tq_15⟩, ⟨tq_6⟩⟩
 case rest =>
  clear HC6
  try clear c1
  try clear p2
  try clear c3
  try clear c7
  try clear c10
  try clear c11
  try clear c13
  try clear c14
  try clear c14b0
  try clear hcz12_0 hcz12_1 hfz12_0 hfz12_1
  obtain ⟨kq, HA, HJ5, BK391, BK392, BK393, HB⟩ := hcut
  cases kq with
  | zero => exact absurd HA.out (by simp [laws_FnExactCleanOk.j0])
  | succ kj5 =>
   have H := HA.out
   clear HA
   simp only [laws_FnExactCleanOk.j0] at H
   replace H := Option.bind_eq_some_iff.mp H
   obtain ⟨t395, A150, H⟩ := H
   replace H : (if t395 < 0 then (some true) else (laws_FnExactCleanOk.j1 kj5 a2 a0_0 l0_1 a1_0 a1_1 a1_2 a1_3 a3_0 l3_1 l3_2)) = some r := H
   have A15 := Aside0.mk A150
   clear A150
   have HC16 := Aside0.mk H
   clear H
   have hnb17 := NB393_391.out
   have hnc17 := NB391_393.out
   have hnb18 := NB393_392.out
   have hnc18 := NB392_393.out
   have hcz19_0 := bc_ BK393.out 0
   have hcz19_1 := bc_ BK393.out 1
   have hcz19_2 := bc_ BK393.out 2
   have hfz19_0 := blk_frozen BK393.out 0
   have hfz19_1 := blk_frozen BK393.out 1
   have hfz19_2 := blk_frozen BK393.out 2
   go_upto_if 23 with (first | ((with_reducible refine gate_callee (f := 53) rfl ?_); refine goesL_ (some 21) rfl rfl Try.func53 (by kernel_rfl) rfl #[.agg #[.int .i64 a3_0, .slice A3_1 l3_1.length c3_1, .slice A3_2 l3_2.length c3_2], .int .i64 t394] rfl tq_1 ?_; (with_reducible refine (laws_szPart.calls kj5 a3_0 _ _ l3_1 _ _ l3_2 t394 t395 _ ?side1 ?side2 ?side3 ?side4 A15.out).mono ?_); (case side1 => exact tq_66); (case side2 => exact HC3_1.out); (case side3 => exact tq_103); (case side4 => exact HC3_2.out); rintro e w20 ⟨rfl, hb⟩; refine ⟨_, rfl, ?_⟩; have z_ := p_ (blk_below tq_8 hb) <| p_ (blk_below tq_10 hb) <| p_ (blk_below tq_15 hb) <| a_ (below_step tq_6 hb); clear BK391 BK392 BK393 HB; obtain ⟨BK391, BK392, BK393, HB⟩ := z_; (try clear hb); (try clear hb2); (try clear hk); (try clear hi)))
   (try simp only [Act.put, List.setIfInBounds_toArray, List.set_cons_zero, List.set_cons_succ])
   go_cut [] (fun wc => ∃ (kq : Nat), Aside0 (laws_FnExactCleanOk.j1 kq a2 a0_0 l0_1 a1_0 a1_1 a1_2 a1_3 a3_0 l3_1 l3_2 = some r) ∧ Aside0 (kq ≤ kj5) ∧ Aside0 (wc.heap[gb391]? = some (.cells #[.string a0_0, (.slice A0_1 l0_1.length c0_1)] 108 (0, 0))) ∧ Aside0 (wc.heap[gb392]? = some (.cells #[.int .i64 a1_0, .int .i64 a1_1, .int .i64 a1_2, .int .i64 a1_3] 79 (0, 0))) ∧ Aside0 (wc.heap[gb393]? = some (.cells #[.int .i64 a3_0, (.slice A3_1 l3_1.length c3_1), (.slice A3_2 l3_2.length c3_2)] 86 (0, 0))) ∧ Aside0 (Below w.heap.size w wc))
   case first =>
    have H := HC16.out
    clear HC16
    by_cases c21 : t395 < 0
    ·rw [if_pos c21] at H
     have c21b0 : decide (t395 < 0) = true := decide_eq_true c21
     clear c21
     (first | rw [c21b0] | (simp only [i64_w, i32_w]; rw [c21b0]) | skip)
     obtain rfl := Option.some.inj H
     go_wp2
     go_ret
     exact ⟨tq_2, tq_6⟩
    ·rw [if_neg c21] at H
     have c21b0 : decide (t395 < 0) = false := decide_eq_false c21
     clear c21
     (first | rw [c21b0] | (simp only [i64_w, i32_w]; rw [c21b0]) | skip)
     have H' := Aside0.mk H
     clear H
     go_wp2
     go_meet
     case rel => exact ⟨_, H', ⟨(by have := HJ5.out; first | omega | exact Nat.le_refl _)⟩, ⟨tq_8⟩, ⟨tq_10⟩, ⟨tq_15⟩, ⟨tq_6⟩⟩
   case rest =>
    clear HC16
    try clear c1
    try clear c2
    try clear p2
    try clear c3
    try clear c5
    try clear c7
    try clear c10
    try clear c11
    try clear c13
    try clear c14
    try clear c14b0
    try clear c17
    try clear c18
    try clear c21
    try clear c21b0
    try clear hcz12_0 hcz12_1
    try clear hcz19_0 hcz19_1 hcz19_2
    try clear hfz12_0 hfz12_1
    try clear hfz19_0 hfz19_1 hfz19_2
    try clear p2
    obtain ⟨kq, HA, HJ15, BK391, BK392, BK393, HB⟩ := hcut
    cases kq with
    | zero => exact absurd HA.out (by simp [laws_FnExactCleanOk.j1])
    | succ kj15 =>
     have H := HA.out
     clear HA
     simp only [laws_FnExactCleanOk.j1] at H
     replace H := Option.bind_eq_some_iff.mp H
     obtain ⟨⟨t396, t397⟩, A220, H⟩ := H
     replace H : ((laws_toGeo.f a1_0 a1_1 a1_2 a1_3).bind fun bt400 => ((laws_toPart.f kj15 a3_0 l3_1 l3_2).bind fun bt404 => ((spec_CleanOk.f kj15 t396 t397 bt400.1 bt400.2.1 bt400.2.2.1 bt400.2.2.2 a2 bt404.1 bt404.2.1 bt404.2.2).bind fun t411 => ((laws_toMemory.f kj15 a0_0 l0_1).bind fun bt412 => ((laws_toPart.f kj15 a3_0 l3_1 l3_2).bind fun bt417 => ((laws_toGeo.f a1_0 a1_1 a1_2 a1_3).bind fun bt425 => ((impl_CleanOk.f kj15 bt412.1 bt412.2 bt425.1 bt425.2.1 bt425.2.2.1 bt425.2.2.2 a2 bt417.1 bt417.2.1 bt417.2.2).bind fun t429 => (if (t429 != t411) = true then (some false) else (laws_FnExactCleanOk.j2 kj15 a0_0 l0_1 a3_0 l3_1 l3_2 bt412.1 bt412.2 bt417.1 bt417.2.1 bt417.2.2))))))))) = some r := H
     have A22 := Aside0.mk A220
     clear A220
     replace H := Option.bind_eq_some_iff.mp H
     obtain ⟨⟨t400, t401, t402, t403⟩, A230, H⟩ := H
     replace H : ((laws_toPart.f kj15 a3_0 l3_1 l3_2).bind fun bt404 => ((spec_CleanOk.f kj15 t396 t397 t400 t401 t402 t403 a2 bt404.1 bt404.2.1 bt404.2.2).bind fun t411 => ((laws_toMemory.f kj15 a0_0 l0_1).bind fun bt412 => ((laws_toPart.f kj15 a3_0 l3_1 l3_2).bind fun bt417 => ((laws_toGeo.f a1_0 a1_1 a1_2 a1_3).bind fun bt425 => ((impl_CleanOk.f kj15 bt412.1 bt412.2 bt425.1 bt425.2.1 bt425.2.2.1 bt425.2.2.2 a2 bt417.1 bt417.2.1 bt417.2.2).bind fun t429 => (if (t429 != t411) = true then (some false) else (laws_FnExactCleanOk.j2 kj15 a0_0 l0_1 a3_0 l3_1 l3_2 bt412.1 bt412.2 bt417.1 bt417.2.1 bt417.2.2)))))))) = some r := H
     have A23 := Aside0.mk A230
     clear A230
     replace H := Option.bind_eq_some_iff.mp H
     obtain ⟨⟨t404, t405, t408⟩, A240, H⟩ := H
     replace H : ((spec_CleanOk.f kj15 t396 t397 t400 t401 t402 t403 a2 t404 t405 t408).bind fun t411 => ((laws_toMemory.f kj15 a0_0 l0_1).bind fun bt412 => ((laws_toPart.f kj15 a3_0 l3_1 l3_2).bind fun bt417 => ((laws_toGeo.f a1_0 a1_1 a1_2 a1_3).bind fun bt425 => ((impl_CleanOk.f kj15 bt412.1 bt412.2 bt425.1 bt425.2.1 bt425.2.2.1 bt425.2.2.2 a2 bt417.1 bt417.2.1 bt417.2.2).bind fun t429 => (if (t429 != t411) = true then (some false) else (laws_FnExactCleanOk.j2 kj15 a0_0 l0_1 a3_0 l3_1 l3_2 bt412.1 bt412.2 bt417.1 bt417.2.1 bt417.2.2))))))) = some r := H
     have A24 := Aside0.mk A240
     clear A240
     replace H := Option.bind_eq_some_iff.mp H
     obtain ⟨t411, A250, H⟩ := H
     replace H : ((laws_toMemory.f kj15 a0_0 l0_1).bind fun bt412 => ((laws_toPart.f kj15 a3_0 l3_1 l3_2).bind fun bt417 => ((laws_toGeo.f a1_0 a1_1 a1_2 a1_3).bind fun bt425 => ((impl_CleanOk.f kj15 bt412.1 bt412.2 bt425.1 bt425.2.1 bt425.2.2.1 bt425.2.2.2 a2 bt417.1 bt417.2.1 bt417.2.2).bind fun t429 => (if (t429 != t411) = true then (some false) else (laws_FnExactCleanOk.j2 kj15 a0_0 l0_1 a3_0 l3_1 l3_2 bt412.1 bt412.2 bt417.1 bt417.2.1 bt417.2.2)))))) = some r := H
     have A25 := Aside0.mk A250
     clear A250
     replace H := Option.bind_eq_some_iff.mp H
     obtain ⟨⟨t412, t413⟩, A260, H⟩ := H
     replace H : ((laws_toPart.f kj15 a3_0 l3_1 l3_2).bind fun bt417 => ((laws_toGeo.f a1_0 a1_1 a1_2 a1_3).bind fun bt425 => ((impl_CleanOk.f kj15 t412 t413 bt425.1 bt425.2.1 bt425.2.2.1 bt425.2.2.2 a2 bt417.1 bt417.2.1 bt417.2.2).bind fun t429 => (if (t429 != t411) = true then (some false) else (laws_FnExactCleanOk.j2 kj15 a0_0 l0_1 a3_0 l3_1 l3_2 t412 t413 bt417.1 bt417.2.1 bt417.2.2))))) = some r := H
     have A26 := Aside0.mk A260
     clear A260
     replace H := Option.bind_eq_some_iff.mp H
     obtain ⟨⟨t417, t418, t421⟩, A270, H⟩ := H
     replace H : ((laws_toGeo.f a1_0 a1_1 a1_2 a1_3).bind fun bt425 => ((impl_CleanOk.f kj15 t412 t413 bt425.1 bt425.2.1 bt425.2.2.1 bt425.2.2.2 a2 t417 t418 t421).bind fun t429 => (if (t429 != t411) = true then (some false) else (laws_FnExactCleanOk.j2 kj15 a0_0 l0_1 a3_0 l3_1 l3_2 t412 t413 t417 t418 t421)))) = some r := H
     have A27 := Aside0.mk A270
     clear A270
     replace H := Option.bind_eq_some_iff.mp H
     obtain ⟨⟨t425, t426, t427, t428⟩, A280, H⟩ := H
     replace H : ((impl_CleanOk.f kj15 t412 t413 t425 t426 t427 t428 a2 t417 t418 t421).bind fun t429 => (if (t429 != t411) = true then (some false) else (laws_FnExactCleanOk.j2 kj15 a0_0 l0_1 a3_0 l3_1 l3_2 t412 t413 t417 t418 t421))) = some r := H
     have A28 := Aside0.mk A280
     clear A280
     replace H := Option.bind_eq_some_iff.mp H
     obtain ⟨t429, A290, H⟩ := H
     replace H : (if (t429 != t411) = true then (some false) else (laws_FnExactCleanOk.j2 kj15 a0_0 l0_1 a3_0 l3_1 l3_2 t412 t413 t417 t418 t421)) = some r := H
     have A29 := Aside0.mk A290
     clear A290
     have HC30 := Aside0.mk H
     clear H
     try go_wp2
     have z_ := p_ (blk_drew BK391.out) <| p_ (blk_drew BK392.out) <| p_ (blk_drew BK393.out) <| a_ (below_drew1 HB.out)
     clear BK391 BK392 BK393 HB
     obtain ⟨BK391, BK392, BK393, HB⟩ := z_
     refine start_ (n := 9) (S := fun w' => w'.cell? ⟨gb391, 0, none⟩ = some (.string a0_0) ∧ w'.cell? ⟨gb391, 1, none⟩ = some (.slice A0_1 l0_1.length c0_1) ∧ w'.cell? ⟨gb392, 0, none⟩ = some (.int .i64 a1_0) ∧ w'.cell? ⟨gb392, 1, none⟩ = some (.int .i64 a1_1) ∧ w'.cell? ⟨gb392, 2, none⟩ = some (.int .i64 a1_2) ∧ w'.cell? ⟨gb392, 3, none⟩ = some (.int .i64 a1_3) ∧ w'.cell? ⟨gb393, 0, none⟩ = some (.int .i64 a3_0) ∧ w'.cell? ⟨gb393, 1, none⟩ = some (.slice A3_1 l3_1.length c3_1) ∧ w'.cell? ⟨gb393, 2, none⟩ = some (.slice A3_2 l3_2.length c3_2)) (ds := []) bq_96 (by kernel_rfl) rfl rfl (bc2_ BK391.out (bc4_ BK392.out (bk3_ BK393.out))) (fun hHeld => ?_); refine with_tabW laws_FnExactCleanOk.tab8 laws_FnExactCleanOk.bits8 (fun HT_ HW_ => ?_)
     generalize wc.drew = w31 at BK391 BK392 BK393 HB hHeld ⊢
     refine yq_ (i := 4) (N := some 28) #[false, false, false, false, true, false, false, false, false] (any_of HT_.out (by kernel_rfl)) ?_
     refine tk_ (i := 0) (N := some 24) #[true, false, false, false, true, false, false, false, false] (take_ofW HT_.out HW_.out (by kernel_rfl)) hHeld ?_
     refine tk_ (i := 2) (N := some 26) #[true, false, true, false, true, false, false, false, false] (take_ofW HT_.out HW_.out (by kernel_rfl)) hHeld ?_
     refine tk_ (i := 5) (N := some 29) #[true, false, true, false, true, true, false, false, false] (take_ofW HT_.out HW_.out (by kernel_rfl)) hHeld ?_
     refine one_ (i := 1) (N := some 25) #[true, true, true, false, true, true, false, false, false] rfl rfl (one_of HT_.out (by kernel_rfl)) (by decide) (fun K hK => ?_)
     refine goes_ Try.func75 (by kernel_rfl) rfl #[.agg #[.string a0_0, .slice A0_1 l0_1.length c0_1]] (by rfl) rfl rfl tq_1 ?_
     with_reducible refine (laws_toMemory.calls kj15 a0_0 _ _ l0_1 t396 t397 _ ?side1 ?side2 A22.out).mono ?_
     (case side1 => exact tq_4)
     (case side2 => exact HC0_1.out)
     rintro e w32 ⟨v398, rfl, ho0, hb⟩
     refine ⟨_, rfl, ?_⟩
     have z_ := p_ (Kd.R_lower ho0 (below_size tq_6)) <| p_ (blk_below tq_8 hb) <| p_ (blk_below tq_10 hb) <| p_ (blk_below tq_15 hb) <| a_ (below_step tq_6 hb)
     clear BK391 BK392 BK393 HB
     obtain ⟨HO399, BK391, BK392, BK393, HB⟩ := z_
     (try clear hb)
     (try clear hb2)
     (try clear hk)
     (try clear hi)
     (try clear ho0)
     refine hK.out _ _ (bc2_ BK391.out (bc4_ BK392.out (bk3_ BK393.out))) (fun hHeld => ?_)
     clear hK K
     refine nm_ (some 25) ?_
     refine one_ (i := 3) (N := some 27) bq_97 rfl rfl (one_of HT_.out (by kernel_rfl)) (by decide) (fun K hK => ?_)
     refine goes_ Try.func48 (by kernel_rfl) rfl #[.agg #[.int .i64 a1_0, .int .i64 a1_1, .int .i64 a1_2, .int .i64 a1_3]] (by rfl) rfl rfl tq_1 ?_
     with_reducible refine (laws_toGeo.calls a1_0 a1_1 a1_2 a1_3 t400 t401 t402 t403 _ A23.out).mono ?_
     rintro e w33 ⟨rfl, hb⟩
     refine ⟨_, rfl, ?_⟩
     have z_ := p_ (Kd.R_below tq_65 hb) <| p_ (blk_below tq_8 hb) <| p_ (blk_below tq_10 hb) <| p_ (blk_below tq_15 hb) <| a_ (below_step tq_6 hb)
     clear HO399 BK391 BK392 BK393 HB
     obtain ⟨HO399, BK391, BK392, BK393, HB⟩ := z_
     (try clear hb)
     (try clear hb2)
     (try clear hk)
     (try clear hi)
     refine hK.out _ _ (bc2_ BK391.out (bc4_ BK392.out (bk3_ BK393.out))) (fun hHeld => ?_)
     clear hK K
     refine nm_ (some 27) ?_
     refine one_ (i := 6) (N := some 30) bq_98 rfl rfl (one_of HT_.out (by kernel_rfl)) (by decide) (fun K hK => ?_)
     refine goes_ Try.func55 (by kernel_rfl) rfl #[.agg #[.int .i64 a3_0, .slice A3_1 l3_1.length c3_1, .slice A3_2 l3_2.length c3_2]] (by rfl) rfl rfl tq_1 ?_
     with_reducible refine (laws_toPart.calls kj15 a3_0 _ _ l3_1 _ _ l3_2 t404 t405 t408 _ ?side1 ?side2 ?side3 ?side4 A24.out).mono ?_
     (case side1 => exact tq_66)
     (case side2 => exact HC3_1.out)
     (case side3 => exact tq_103)
     (case side4 => exact HC3_2.out)
     rintro e w34 ⟨v406, v409, rfl, ho0, ho1, hb⟩
     refine ⟨_, rfl, ?_⟩
     have z_ := p_ (Kd.R_below tq_65 hb) <| p_ (Kd.R_lower ho0 (below_size tq_6)) <| p_ (Kd.S_lower ho1 (below_size tq_6)) <| p_ (blk_below tq_8 hb) <| p_ (blk_below tq_10 hb) <| p_ (blk_below tq_15 hb) <| a_ (below_step tq_6 hb)
     clear HO399 BK391 BK392 BK393 HB
     obtain ⟨HO399, HO407, HO410, BK391, BK392, BK393, HB⟩ := z_
     (try clear hb)
     (try clear hb2)
     (try clear hk)
     (try clear hi)
     (try clear ho0)
     (try clear ho1)
     obtain ⟨Ao35, co35, eo35⟩ := Kd.R_slice HO399.out
     (first | subst eo35 | (injection eo35 with f1_ f2_ f3_; have f4_ := f1_.symm; have f5_ := f3_.symm; clear f1_ f2_ f3_; subst f4_; subst f5_))
     obtain ⟨Ao36, co36, eo36⟩ := Kd.R_slice HO407.out
     (first | subst eo36 | (injection eo36 with f1_ f2_ f3_; have f4_ := f1_.symm; have f5_ := f3_.symm; clear f1_ f2_ f3_; subst f4_; subst f5_))
     obtain ⟨Ao37, co37, eo37⟩ := Kd.S_slice HO410.out
     (first | subst eo37 | (injection eo37 with f1_ f2_ f3_; have f4_ := f1_.symm; have f5_ := f3_.symm; clear f1_ f2_ f3_; subst f4_; subst f5_))
     refine hK.out _ _ (bc2_ BK391.out (bc4_ BK392.out (bk3_ BK393.out))) (fun hHeld => ?_)
     clear hK K
     refine nm_ (some 30) ?_
     refine one_ (i := 7) (N := some 31) bq_99 rfl rfl (one_of HT_.out (by kernel_rfl)) (by decide) (fun K hK => ?_)
     refine goes_ Try.func74 (by kernel_rfl) rfl #[.agg #[.string t396, .slice Ao35 t397.length co35], .agg #[.int .i64 t400, .int .i64 t401, .int .i64 t402, .int .i64 t403], .int .i64 a2, .agg #[.int .i64 t404, .slice Ao36 t405.length co36, .slice Ao37 t408.length co37]] (by rfl) rfl rfl tq_1 ?_
     with_reducible refine (spec_CleanOk.calls kj15 t396 _ _ t397 t400 t401 t402 t403 a2 t404 _ _ t405 _ _ t408 t411 _ ?side1 ?side2 ?side3 ?side4 ?side5 ?side6 A25.out).mono ?_
     (case side1 => repeat (first | exact (Kd.R_reads' HO399.out).2.2 | (with_reducible refine Kd.C_alloc ?_ _) | (with_reducible refine Kd.C_drewN ?_ _) | (with_reducible refine Kd.C_drew ?_)))
     (case side2 => exact (Kd.R_reads' HO399.out).2.1)
     (case side3 => repeat (first | exact (Kd.R_reads' HO407.out).2.2 | (with_reducible refine Kd.C_alloc ?_ _) | (with_reducible refine Kd.C_drewN ?_ _) | (with_reducible refine Kd.C_drew ?_)))
     (case side4 => exact (Kd.R_reads' HO407.out).2.1)
     (case side5 => repeat (first | exact (Kd.S_reads' HO410.out).2.2 | (with_reducible refine Kd.C_alloc ?_ _) | (with_reducible refine Kd.C_drewN ?_ _) | (with_reducible refine Kd.C_drew ?_)))
     (case side6 => exact (Kd.S_reads' HO410.out).2.1)
     rintro e w38 ⟨rfl, hb⟩
     refine ⟨_, rfl, ?_⟩
     have z_ := p_ (Kd.R_below tq_65 hb) <| p_ (Kd.R_below tq_95 hb) <| p_ (Kd.S_below tq_94 hb) <| p_ (blk_below tq_8 hb) <| p_ (blk_below tq_10 hb) <| p_ (blk_below tq_15 hb) <| a_ (below_step tq_6 hb)
     clear HO399 HO407 HO410 BK391 BK392 BK393 HB
     obtain ⟨HO399, HO407, HO410, BK391, BK392, BK393, HB⟩ := z_
     (try clear hb)
     (try clear hb2)
     (try clear hk)
     (try clear hi)
     refine hK.out _ _ (bc2_ BK391.out (bc4_ BK392.out (bk3_ BK393.out))) (fun hHeld => ?_)
     clear hK K
     refine nm_ (some 31) ?_
     refine yq_ (i := 8) (N := some 10) bq_100 (any_of HT_.out (by kernel_rfl)) ?_
     refine done_ (done_of HT_.out (by kernel_rfl)) ?_
     have hnb39 := NB391_392.out
     have hnc39 := NB392_391.out
     have hnb40 := NB391_393.out
     have hnc40 := NB393_391.out
     have hcz41_0 := bc_ BK391.out 0
     have hcz41_1 := bc_ BK391.out 1
     have hfz41_0 := blk_frozen BK391.out 0
     have hfz41_1 := blk_frozen BK391.out 1
     try go_wp2_with (first | ((with_reducible refine gate_callee (f := 75) rfl ?_); refine goesL_ (some 33) rfl rfl Try.func75 (by kernel_rfl) rfl #[.agg #[.string a0_0, .slice A0_1 l0_1.length c0_1]] rfl tq_1 ?_; (with_reducible refine (laws_toMemory.calls kj15 a0_0 _ _ l0_1 t412 t413 _ ?side1 ?side2 A26.out).mono ?_); (case side1 => exact tq_4); (case side2 => exact HC0_1.out); rintro e w42 ⟨v414, rfl, ho0, hb⟩; refine ⟨_, rfl, ?_⟩; have z_ := p_ (Kd.R_elder' tq_65 (Kd.R_base ho0) hb) <| p_ (Kd.R_below tq_95 hb) <| p_ (Kd.S_below tq_94 hb) <| p_ (Kd.R_lower (Kd.R_new' ho0 (Kd.R_lt tq_65)) (below_size tq_6)) <| p_ (blk_below tq_8 hb) <| p_ (blk_below tq_10 hb) <| p_ (blk_below tq_15 hb) <| a_ (below_step tq_6 hb); clear HO399 HO407 HO410 BK391 BK392 BK393 HB; obtain ⟨HO399, HO407, HO410, HO415, BK391, BK392, BK393, HB⟩ := z_; (try clear hb); (try clear hb2); (try clear hk); (try clear hi); (try clear ho0)) | ((with_reducible refine gate_dst (N := 11) rfl ?_); refine box_event ?hg (N := 11) ?hd (cs := #[.string (⟨#[]⟩ : ByteArray), .slice none 0 0]) (t := 113) ?hr ?_; (case hd => rfl); (case hg => rfl); (case hr => first | (go_simp; done) | (go_simp; rfl)); intro gb416 hg w43 hbox hb; have z_ := p_ (Kd.R_below tq_65 hb) <| p_ (Kd.R_below tq_95 hb) <| p_ (Kd.S_below tq_94 hb) <| p_ (Kd.R_below tq_146 hb) <| p_ (blk_below tq_8 hb) <| p_ (blk_below tq_10 hb) <| p_ (blk_below tq_15 hb) <| p_ (below_step tq_6 hb) <| p_ (hbox) <| p_ (gb_ hg tq_6) <| p_ (gb_ hg tq_6) <| p_ (ltne_ hg (blk_lt tq_8)) <| p_ (gtne_ hg (blk_lt tq_8)) <| p_ (ltne_ hg (blk_lt tq_10)) <| p_ (gtne_ hg (blk_lt tq_10)) <| p_ (ltne_ hg (blk_lt tq_15)) <| a_ (gtne_ hg (blk_lt tq_15)); clear HO399 HO407 HO410 HO415 BK391 BK392 BK393 HB; obtain ⟨HO399, HO407, HO410, HO415, BK391, BK392, BK393, HB, BK416, GW416, GE416, NB391_416, NB416_391, NB392_416, NB416_392, NB393_416, NB416_393⟩ := z_; clear hb hbox hg; have hnb44 := NB416_391.out; have hnc44 := NB391_416.out; have hnb45 := NB416_392.out; have hnc45 := NB392_416.out; have hnb46 := NB416_393.out; have hnc46 := NB393_416.out; have hcz47_0 := bc_ BK416.out 0; have hcz47_1 := bc_ BK416.out 1; have hfz47_0 := blk_frozen BK416.out 0; have hfz47_1 := blk_frozen BK416.out 1; obtain ⟨Ao48, co48, eo48⟩ := Kd.R_slice HO415.out; subst eo48; have hnb49 := NB393_392.out; have hnc49 := NB392_393.out; have hcz50_0 := bc_ BK393.out 0; have hcz50_1 := bc_ BK393.out 1; have hcz50_2 := bc_ BK393.out 2; have hfz50_0 := blk_frozen BK393.out 0; have hfz50_1 := blk_frozen BK393.out 1; have hfz50_2 := blk_frozen BK393.out 2) | ((with_reducible refine gate_callee (f := 55) rfl ?_); refine goesL_ (some 35) rfl rfl Try.func55 (by kernel_rfl) rfl #[.agg #[.int .i64 a3_0, .slice A3_1 l3_1.length c3_1, .slice A3_2 l3_2.length c3_2]] rfl tq_1 ?_; (with_reducible refine (laws_toPart.calls kj15 a3_0 _ _ l3_1 _ _ l3_2 t417 t418 t421 _ ?side1 ?side2 ?side3 ?side4 A27.out).mono ?_); (case side1 => exact Kd.C_below HR3_1.out tq_22); (case side2 => exact HC3_1.out); (case side3 => exact Kd.C_below HR3_2.out tq_22); (case side4 => exact HC3_2.out); rintro e w51 ⟨v419, v422, rfl, ho0, ho1, hb⟩; refine ⟨_, rfl, ?_⟩; have z_ := p_ (Kd.R_below (by (with_reducible repeat (first | apply Kd.R_alloc | apply Kd.R_drewN | apply Kd.R_drew)); exact (Kd.R_mono (Kd.R_far (p := ⟨gb416, 1, none⟩) (Kd.R_far (p := ⟨gb416, 0, none⟩) (Kd.R_types HO399.out BK416.out (by decide)) (fun _ hk => hk.2) (.string t412)) (fun _ hk => hk.2) (.slice Ao48 t413.length co48)) (fun _ h_ => h_.1))) hb) <| p_ (Kd.R_elder' tq_144 (Kd.R_base ho0) hb) <| p_ (Kd.S_elder' tq_143 (Kd.S_base ho1) hb) <| p_ (Kd.R_below (by (with_reducible repeat (first | apply Kd.R_alloc | apply Kd.R_drewN | apply Kd.R_drew)); exact (Kd.R_mono (Kd.R_far (p := ⟨gb416, 1, none⟩) (Kd.R_far (p := ⟨gb416, 0, none⟩) (Kd.R_types HO415.out BK416.out (by decide)) (fun _ hk => hk.2) (.string t412)) (fun _ hk => hk.2) (.slice Ao48 t413.length co48)) (fun _ h_ => h_.1))) hb) <| p_ (Kd.R_lower (Kd.R_new' ho0 (Kd.R_lt tq_144)) (below_size tq_22)) <| p_ (Kd.S_lower (Kd.S_new' ho1 (Kd.S_lt tq_143)) (below_size tq_22)) <| p_ (blk_below (g := gb391) (o := .cells #[.string a0_0, .slice A0_1 l0_1.length c0_1] 108 (0, 0)) (by (with_reducible repeat (first | refine blk_drewN ?_ _ | refine blk_drew ?_ | refine blk_alloc ?_ _)); refine blk_far ?_ NB391_416.out _; (with_reducible repeat (first | refine blk_drewN ?_ _ | refine blk_drew ?_ | refine blk_alloc ?_ _)); refine blk_far ?_ NB391_416.out _; (with_reducible repeat (first | refine blk_drewN ?_ _ | refine blk_drew ?_ | refine blk_alloc ?_ _)); exact BK391.out) hb) <| p_ (blk_below (g := gb392) (o := .cells #[.int .i64 a1_0, .int .i64 a1_1, .int .i64 a1_2, .int .i64 a1_3] 79 (0, 0)) (by (with_reducible repeat (first | refine blk_drewN ?_ _ | refine blk_drew ?_ | refine blk_alloc ?_ _)); refine blk_far ?_ NB392_416.out _; (with_reducible repeat (first | refine blk_drewN ?_ _ | refine blk_drew ?_ | refine blk_alloc ?_ _)); refine blk_far ?_ NB392_416.out _; (with_reducible repeat (first | refine blk_drewN ?_ _ | refine blk_drew ?_ | refine blk_alloc ?_ _)); exact BK392.out) hb) <| p_ (blk_below (g := gb393) (o := .cells #[.int .i64 a3_0, .slice A3_1 l3_1.length c3_1, .slice A3_2 l3_2.length c3_2] 86 (0, 0)) (by (with_reducible repeat (first | refine blk_drewN ?_ _ | refine blk_drew ?_ | refine blk_alloc ?_ _)); refine blk_far ?_ NB393_416.out _; (with_reducible repeat (first | refine blk_drewN ?_ _ | refine blk_drew ?_ | refine blk_alloc ?_ _)); refine blk_far ?_ NB393_416.out _; (with_reducible repeat (first | refine blk_drewN ?_ _ | refine blk_drew ?_ | refine blk_alloc ?_ _)); exact BK393.out) hb) <| p_ (blk_below (g := gb416) (o := .cells #[.string t412, .slice Ao48 t413.length co48] 113 (0, 0)) (by (with_reducible repeat (first | refine blk_drewN ?_ _ | refine blk_drew ?_ | refine blk_alloc ?_ _)); refine blk_put (cs := #[.string t412, .slice none 0 0]) ?_ 1 _ rfl; (with_reducible repeat (first | refine blk_drewN ?_ _ | refine blk_drew ?_ | refine blk_alloc ?_ _)); refine blk_put (cs := #[.string (⟨#[]⟩ : ByteArray), .slice none 0 0]) ?_ 0 _ rfl; (with_reducible repeat (first | refine blk_drewN ?_ _ | refine blk_drew ?_ | refine blk_alloc ?_ _)); exact BK416.out) hb) <| a_ (below_step tq_22 hb); clear HO399 HO407 HO410 HO415 BK391 BK392 BK393 BK416 HB; obtain ⟨HO399, HO407, HO410, HO415, HO420, HO423, BK391, BK392, BK393, BK416, HB⟩ := z_; (try clear hb); (try clear hb2); (try clear hk); (try clear hi); (try clear ho0); (try clear ho1)) | ((with_reducible refine gate_dst (N := 12) rfl ?_); refine box_event ?hg (N := 12) ?hd (cs := #[.int .i64 0, .slice none 0 0, .slice none 0 0]) (t := 69) ?hr ?_; (case hd => rfl); (case hg => rfl); (case hr => first | (go_simp; done) | (go_simp; rfl)); intro gb424 hg w52 hbox hb; have z_ := p_ (Kd.R_below tq_65 hb) <| p_ (Kd.R_below tq_95 hb) <| p_ (Kd.S_below tq_94 hb) <| p_ (Kd.R_below tq_146 hb) <| p_ (Kd.R_below tq_159 hb) <| p_ (Kd.S_below tq_158 hb) <| p_ (blk_below tq_8 hb) <| p_ (blk_below tq_10 hb) <| p_ (blk_below tq_15 hb) <| p_ (blk_below tq_38 hb) <| p_ (below_step tq_22 hb) <| p_ (hbox) <| p_ (gb_ hg tq_22) <| p_ (gb_ hg tq_22) <| p_ (ltne_ hg (blk_lt tq_8)) <| p_ (gtne_ hg (blk_lt tq_8)) <| p_ (ltne_ hg (blk_lt tq_10)) <| p_ (gtne_ hg (blk_lt tq_10)) <| p_ (ltne_ hg (blk_lt tq_15)) <| p_ (gtne_ hg (blk_lt tq_15)) <| p_ (ltne_ hg (blk_lt tq_38)) <| a_ (gtne_ hg (blk_lt tq_38)); clear HO399 HO407 HO410 HO415 HO420 HO423 BK391 BK392 BK393 BK416 HB; obtain ⟨HO399, HO407, HO410, HO415, HO420, HO423, BK391, BK392, BK393, BK416, HB, BK424, GW424, GE424, NB391_424, NB424_391, NB392_424, NB424_392, NB393_424, NB424_393, NB416_424, NB424_416⟩ := z_; clear hb hbox hg; have hnb53 := NB424_391.out; have hnc53 := NB391_424.out; have hnb54 := NB424_392.out; have hnc54 := NB392_424.out; have hnb55 := NB424_393.out; have hnc55 := NB393_424.out; have hnb56 := NB424_416.out; have hnc56 := NB416_424.out; have hcz57_0 := bc_ BK424.out 0; have hcz57_1 := bc_ BK424.out 1; have hcz57_2 := bc_ BK424.out 2; have hfz57_0 := blk_frozen BK424.out 0; have hfz57_1 := blk_frozen BK424.out 1; have hfz57_2 := blk_frozen BK424.out 2; obtain ⟨Ao58, co58, eo58⟩ := Kd.R_slice HO420.out; subst eo58; obtain ⟨Ao59, co59, eo59⟩ := Kd.S_slice HO423.out; subst eo59))
     have n0_ : Aside0 (Kd.R k206 206 (((w52.setCell ⟨gb424, 0, none⟩ (.int .i64 t417)).setCell ⟨gb424, 1, none⟩ (.slice Ao58 t418.length co58)).setCell ⟨gb424, 2, none⟩ (.slice Ao59 t421.length co59)) w.heap.size (fun k_ => some k_ ≠ (.slice Ao48 t413.length co48 : Value).ownBlock) (.slice Ao35 t397.length co35) t397) := ⟨(by (with_reducible repeat (first | apply Kd.R_alloc | apply Kd.R_drewN | apply Kd.R_drew)); exact Kd.R_mono (Kd.R_far (p := ⟨gb424, 2, none⟩) (Kd.R_far (p := ⟨gb424, 1, none⟩) (Kd.R_far (p := ⟨gb424, 0, none⟩) (Kd.R_types HO399.out BK424.out (by decide)) (fun _ hk => hk.2) (.int .i64 t417)) (fun _ hk => hk.2) (.slice Ao58 t418.length co58)) (fun _ hk => hk.2) (.slice Ao59 t421.length co59)) (fun _ hk => hk.1.2))⟩
     have n1_ : Aside0 (Kd.R (Kd.int .i64) 3 (((w52.setCell ⟨gb424, 0, none⟩ (.int .i64 t417)).setCell ⟨gb424, 1, none⟩ (.slice Ao58 t418.length co58)).setCell ⟨gb424, 2, none⟩ (.slice Ao59 t421.length co59)) w.heap.size (fun k_ => some k_ ≠ (.slice Ao58 t418.length co58 : Value).ownBlock) (.slice Ao36 t405.length co36) t405) := ⟨(by (with_reducible repeat (first | apply Kd.R_alloc | apply Kd.R_drewN | apply Kd.R_drew)); exact Kd.R_mono (Kd.R_far (p := ⟨gb424, 2, none⟩) (Kd.R_far (p := ⟨gb424, 1, none⟩) (Kd.R_far (p := ⟨gb424, 0, none⟩) (Kd.R_types HO407.out BK424.out (by decide)) (fun _ hk => hk.2) (.int .i64 t417)) (fun _ hk => hk.2) (.slice Ao58 t418.length co58)) (fun _ hk => hk.2) (.slice Ao59 t421.length co59)) (fun _ hk => hk.1.2))⟩
     have n2_ : Aside0 (Kd.S k49 49 (((w52.setCell ⟨gb424, 0, none⟩ (.int .i64 t417)).setCell ⟨gb424, 1, none⟩ (.slice Ao58 t418.length co58)).setCell ⟨gb424, 2, none⟩ (.slice Ao59 t421.length co59)) w.heap.size (fun k_ => some k_ ≠ (.slice Ao59 t421.length co59 : Value).ownBlock) (.slice Ao37 t408.length co37) t408) := ⟨(by (with_reducible repeat (first | apply Kd.S_alloc | apply Kd.S_drewN | apply Kd.S_drew)); exact Kd.S_mono (Kd.S_far (p := ⟨gb424, 2, none⟩) (Kd.S_far (p := ⟨gb424, 1, none⟩) (Kd.S_far (p := ⟨gb424, 0, none⟩) (Kd.S_types HO410.out BK424.out (by decide)) (fun _ hk => hk.2) (.int .i64 t417)) (fun _ hk => hk.2) (.slice Ao58 t418.length co58)) (fun _ hk => hk.2) (.slice Ao59 t421.length co59)) (fun _ hk => hk.1.2))⟩
     have n3_ : Aside0 (Kd.R k206 206 (((w52.setCell ⟨gb424, 0, none⟩ (.int .i64 t417)).setCell ⟨gb424, 1, none⟩ (.slice Ao58 t418.length co58)).setCell ⟨gb424, 2, none⟩ (.slice Ao59 t421.length co59)) w.heap.size (fun k_ => some k_ ≠ (.slice Ao35 t397.length co35 : Value).ownBlock) (.slice Ao48 t413.length co48) t413) := ⟨(by (with_reducible repeat (first | apply Kd.R_alloc | apply Kd.R_drewN | apply Kd.R_drew)); exact Kd.R_mono (Kd.R_far (p := ⟨gb424, 2, none⟩) (Kd.R_far (p := ⟨gb424, 1, none⟩) (Kd.R_far (p := ⟨gb424, 0, none⟩) (Kd.R_types HO415.out BK424.out (by decide)) (fun _ hk => hk.2) (.int .i64 t417)) (fun _ hk => hk.2) (.slice Ao58 t418.length co58)) (fun _ hk => hk.2) (.slice Ao59 t421.length co59)) (fun _ hk => hk.1.2))⟩
     have n4_ : Aside0 (Kd.R (Kd.int .i64) 3 (((w52.setCell ⟨gb424, 0, none⟩ (.int .i64 t417)).setCell ⟨gb424, 1, none⟩ (.slice Ao58 t418.length co58)).setCell ⟨gb424, 2, none⟩ (.slice Ao59 t421.length co59)) w.heap.size (fun k_ => some k_ ≠ (.slice Ao36 t405.length co36 : Value).ownBlock) (.slice Ao58 t418.length co58) t418) := ⟨(by (with_reducible repeat (first | apply Kd.R_alloc | apply Kd.R_drewN | apply Kd.R_drew)); exact Kd.R_mono (Kd.R_far (p := ⟨gb424, 2, none⟩) (Kd.R_far (p := ⟨gb424, 1, none⟩) (Kd.R_far (p := ⟨gb424, 0, none⟩) (Kd.R_types HO420.out BK424.out (by decide)) (fun _ hk => hk.2) (.int .i64 t417)) (fun _ hk => hk.2) (.slice Ao58 t418.length co58)) (fun _ hk => hk.2) (.slice Ao59 t421.length co59)) (fun _ hk => hk.1.2))⟩
     have n5_ : Aside0 (Kd.S k49 49 (((w52.setCell ⟨gb424, 0, none⟩ (.int .i64 t417)).setCell ⟨gb424, 1, none⟩ (.slice Ao58 t418.length co58)).setCell ⟨gb424, 2, none⟩ (.slice Ao59 t421.length co59)) w.heap.size (fun k_ => some k_ ≠ (.slice Ao37 t408.length co37 : Value).ownBlock) (.slice Ao59 t421.length co59) t421) := ⟨(by (with_reducible repeat (first | apply Kd.S_alloc | apply Kd.S_drewN | apply Kd.S_drew)); exact Kd.S_mono (Kd.S_far (p := ⟨gb424, 2, none⟩) (Kd.S_far (p := ⟨gb424, 1, none⟩) (Kd.S_far (p := ⟨gb424, 0, none⟩) (Kd.S_types HO423.out BK424.out (by decide)) (fun _ hk => hk.2) (.int .i64 t417)) (fun _ hk => hk.2) (.slice Ao58 t418.length co58)) (fun _ hk => hk.2) (.slice Ao59 t421.length co59)) (fun _ hk => hk.1.2))⟩
     have n6_ : Aside0 ((((w52.setCell ⟨gb424, 0, none⟩ (.int .i64 t417)).setCell ⟨gb424, 1, none⟩ (.slice Ao58 t418.length co58)).setCell ⟨gb424, 2, none⟩ (.slice Ao59 t421.length co59)).heap[gb391]? = some (.cells #[.string a0_0, .slice A0_1 l0_1.length c0_1] 108 (0, 0))) := ⟨(by (with_reducible repeat (first | refine blk_drewN ?_ _ | refine blk_drew ?_ | refine blk_alloc ?_ _)); refine blk_far ?_ NB391_424.out _; (with_reducible repeat (first | refine blk_drewN ?_ _ | refine blk_drew ?_ | refine blk_alloc ?_ _)); refine blk_far ?_ NB391_424.out _; (with_reducible repeat (first | refine blk_drewN ?_ _ | refine blk_drew ?_ | refine blk_alloc ?_ _)); refine blk_far ?_ NB391_424.out _; (with_reducible repeat (first | refine blk_drewN ?_ _ | refine blk_drew ?_ | refine blk_alloc ?_ _)); exact BK391.out)⟩
     have n7_ : Aside0 ((((w52.setCell ⟨gb424, 0, none⟩ (.int .i64 t417)).setCell ⟨gb424, 1, none⟩ (.slice Ao58 t418.length co58)).setCell ⟨gb424, 2, none⟩ (.slice Ao59 t421.length co59)).heap[gb392]? = some (.cells #[.int .i64 a1_0, .int .i64 a1_1, .int .i64 a1_2, .int .i64 a1_3] 79 (0, 0))) := ⟨(by (with_reducible repeat (first | refine blk_drewN ?_ _ | refine blk_drew ?_ | refine blk_alloc ?_ _)); refine blk_far ?_ NB392_424.out _; (with_reducible repeat (first | refine blk_drewN ?_ _ | refine blk_drew ?_ | refine blk_alloc ?_ _)); refine blk_far ?_ NB392_424.out _; (with_reducible repeat (first | refine blk_drewN ?_ _ | refine blk_drew ?_ | refine blk_alloc ?_ _)); refine blk_far ?_ NB392_424.out _; (with_reducible repeat (first | refine blk_drewN ?_ _ | refine blk_drew ?_ | refine blk_alloc ?_ _)); exact BK392.out)⟩
     have n8_ : Aside0 ((((w52.setCell ⟨gb424, 0, none⟩ (.int .i64 t417)).setCell ⟨gb424, 1, none⟩ (.slice Ao58 t418.length co58)).setCell ⟨gb424, 2, none⟩ (.slice Ao59 t421.length co59)).heap[gb393]? = some (.cells #[.int .i64 a3_0, .slice A3_1 l3_1.length c3_1, .slice A3_2 l3_2.length c3_2] 86 (0, 0))) := ⟨(by (with_reducible repeat (first | refine blk_drewN ?_ _ | refine blk_drew ?_ | refine blk_alloc ?_ _)); refine blk_far ?_ NB393_424.out _; (with_reducible repeat (first | refine blk_drewN ?_ _ | refine blk_drew ?_ | refine blk_alloc ?_ _)); refine blk_far ?_ NB393_424.out _; (with_reducible repeat (first | refine blk_drewN ?_ _ | refine blk_drew ?_ | refine blk_alloc ?_ _)); refine blk_far ?_ NB393_424.out _; (with_reducible repeat (first | refine blk_drewN ?_ _ | refine blk_drew ?_ | refine blk_alloc ?_ _)); exact BK393.out)⟩
     have n9_ : Aside0 ((((w52.setCell ⟨gb424, 0, none⟩ (.int .i64 t417)).setCell ⟨gb424, 1, none⟩ (.slice Ao58 t418.length co58)).setCell ⟨gb424, 2, none⟩ (.slice Ao59 t421.length co59)).heap[gb416]? = some (.cells #[.string t412, .slice Ao48 t413.length co48] 113 (0, 0))) := ⟨(by (with_reducible repeat (first | refine blk_drewN ?_ _ | refine blk_drew ?_ | refine blk_alloc ?_ _)); refine blk_far ?_ NB416_424.out _; (with_reducible repeat (first | refine blk_drewN ?_ _ | refine blk_drew ?_ | refine blk_alloc ?_ _)); refine blk_far ?_ NB416_424.out _; (with_reducible repeat (first | refine blk_drewN ?_ _ | refine blk_drew ?_ | refine blk_alloc ?_ _)); refine blk_far ?_ NB416_424.out _; (with_reducible repeat (first | refine blk_drewN ?_ _ | refine blk_drew ?_ | refine blk_alloc ?_ _)); exact BK416.out)⟩
     have n10_ : Aside0 ((((w52.setCell ⟨gb424, 0, none⟩ (.int .i64 t417)).setCell ⟨gb424, 1, none⟩ (.slice Ao58 t418.length co58)).setCell ⟨gb424, 2, none⟩ (.slice Ao59 t421.length co59)).heap[gb424]? = some (.cells #[.int .i64 t417, .slice Ao58 t418.length co58, .slice Ao59 t421.length co59] 69 (0, 0))) := ⟨(by (with_reducible repeat (first | refine blk_drewN ?_ _ | refine blk_drew ?_ | refine blk_alloc ?_ _)); refine blk_put (cs := #[.int .i64 t417, .slice Ao58 t418.length co58, .slice none 0 0]) ?_ 2 _ rfl; (with_reducible repeat (first | refine blk_drewN ?_ _ | refine blk_drew ?_ | refine blk_alloc ?_ _)); refine blk_put (cs := #[.int .i64 t417, .slice none 0 0, .slice none 0 0]) ?_ 1 _ rfl; (with_reducible repeat (first | refine blk_drewN ?_ _ | refine blk_drew ?_ | refine blk_alloc ?_ _)); refine blk_put (cs := #[.int .i64 0, .slice none 0 0, .slice none 0 0]) ?_ 0 _ rfl; (with_reducible repeat (first | refine blk_drewN ?_ _ | refine blk_drew ?_ | refine blk_alloc ?_ _)); exact BK424.out)⟩
     have n11_ : Aside0 (Below w.heap.size w (((w52.setCell ⟨gb424, 0, none⟩ (.int .i64 t417)).setCell ⟨gb424, 1, none⟩ (.slice Ao58 t418.length co58)).setCell ⟨gb424, 2, none⟩ (.slice Ao59 t421.length co59))) := ⟨tq_5⟩
     (try clear HO399)
     (try clear HO407)
     (try clear HO410)
     (try clear HO415)
     (try clear HO420)
     (try clear HO423)
     (try clear BK391)
     (try clear BK392)
     (try clear BK393)
     (try clear BK416)
     (try clear BK424)
     (try clear HB)
     generalize (((w52.setCell ⟨gb424, 0, none⟩ (.int .i64 t417)).setCell ⟨gb424, 1, none⟩ (.slice Ao58 t418.length co58)).setCell ⟨gb424, 2, none⟩ (.slice Ao59 t421.length co59)) = w60 at n0_ n1_ n2_ n3_ n4_ n5_ n6_ n7_ n8_ n9_ n10_ n11_ ⊢
     have HO399 := n0_
     have HO407 := n1_
     have HO410 := n2_
     have HO415 := n3_
     have HO420 := n4_
     have HO423 := n5_
     have BK391 := n6_
     have BK392 := n7_
     have BK393 := n8_
     have BK416 := n9_
     have BK424 := n10_
     have HB := n11_
     clear n0_ n1_ n2_ n3_ n4_ n5_ n6_ n7_ n8_ n9_ n10_ n11_
     have z_ := p_ (Kd.R_drew HO399.out) <| p_ (Kd.R_drew HO407.out) <| p_ (Kd.S_drew HO410.out) <| p_ (Kd.R_drew HO415.out) <| p_ (Kd.R_drew HO420.out) <| p_ (Kd.S_drew HO423.out) <| p_ (blk_drew BK391.out) <| p_ (blk_drew BK392.out) <| p_ (blk_drew BK393.out) <| p_ (blk_drew BK416.out) <| p_ (blk_drew BK424.out) <| a_ (below_drew1 HB.out)
     clear HO399 HO407 HO410 HO415 HO420 HO423 BK391 BK392 BK393 BK416 BK424 HB
     obtain ⟨HO399, HO407, HO410, HO415, HO420, HO423, BK391, BK392, BK393, BK416, BK424, HB⟩ := z_
     refine start_ (n := 7) (S := fun w' => w'.cell? ⟨gb416, 0, none⟩ = some (.string t412) ∧ w'.cell? ⟨gb416, 1, none⟩ = some (.slice Ao48 t413.length co48) ∧ w'.cell? ⟨gb392, 0, none⟩ = some (.int .i64 a1_0) ∧ w'.cell? ⟨gb392, 1, none⟩ = some (.int .i64 a1_1) ∧ w'.cell? ⟨gb392, 2, none⟩ = some (.int .i64 a1_2) ∧ w'.cell? ⟨gb392, 3, none⟩ = some (.int .i64 a1_3) ∧ w'.cell? ⟨gb424, 0, none⟩ = some (.int .i64 t417) ∧ w'.cell? ⟨gb424, 1, none⟩ = some (.slice Ao58 t418.length co58) ∧ w'.cell? ⟨gb424, 2, none⟩ = some (.slice Ao59 t421.length co59)) (ds := []) bq_77 (by kernel_rfl) rfl rfl (bc2_ BK416.out (bc4_ BK392.out (bk3_ BK424.out))) (fun hHeld => ?_)
     generalize w60.drew = w61 at HO399 HO407 HO410 HO415 HO420 HO423 BK391 BK392 BK393 BK416 BK424 HB hHeld ⊢
     refine yq_ (i := 3) (N := some 39) #[false, false, false, true, false, false, false] (by kernel_rfl) ?_
     refine take_ (i := 0) (N := some 36) (v := ?_) (a' := ?_) #[true, false, false, true, false, false, false] rfl rfl (by kernel_rfl) (fun _ _ _ h => h) (Or.inl ⟨(by rfl), ?_⟩) hHeld ?_ ?_
     rotate_left
     ·rintro w' ⟨s0, s1, s2, s3, s4, s5, s6, s7, s8⟩
      go_simp
      with_reducible rfl
     rotate_left
     ·simp only [Act.put, List.setIfInBounds_toArray, List.set_cons_zero, List.set_cons_succ, i64_w, i32_w]
      rfl
     refine take_ (i := 1) (N := some 37) (v := ?_) (a' := ?_) #[true, true, false, true, false, false, false] rfl rfl (by kernel_rfl) (fun _ _ _ h => h) (Or.inl ⟨(by rfl), ?_⟩) hHeld ?_ ?_
     rotate_left
     ·rintro w' ⟨s0, s1, s2, s3, s4, s5, s6, s7, s8⟩
      go_simp
      with_reducible rfl
     rotate_left
     ·simp only [Act.put, List.setIfInBounds_toArray, List.set_cons_zero, List.set_cons_succ, i64_w, i32_w]
      rfl
     refine take_ (i := 4) (N := some 40) (v := ?_) (a' := ?_) #[true, true, false, true, true, false, false] rfl rfl (by kernel_rfl) (fun _ _ _ h => h) (Or.inl ⟨(by rfl), ?_⟩) hHeld ?_ ?_
     rotate_left
     ·rintro w' ⟨s0, s1, s2, s3, s4, s5, s6, s7, s8⟩
      go_simp
      with_reducible rfl
     rotate_left
     ·simp only [Act.put, List.setIfInBounds_toArray, List.set_cons_zero, List.set_cons_succ, i64_w, i32_w]
      rfl
     refine one_ (i := 2) (N := some 38) bq_78 rfl rfl (by kernel_rfl) (by decide) (fun K hK => ?_)
     refine goes_ Try.func48 (by kernel_rfl) rfl #[.agg #[.int .i64 a1_0, .int .i64 a1_1, .int .i64 a1_2, .int .i64 a1_3]] (by rfl) rfl rfl tq_1 ?_
     with_reducible refine (laws_toGeo.calls a1_0 a1_1 a1_2 a1_3 t425 t426 t427 t428 _ A28.out).mono ?_
     rintro e w62 ⟨rfl, hb⟩
     refine ⟨_, rfl, ?_⟩
     have z_ := p_ (Kd.R_below tq_65 hb) <| p_ (Kd.R_below tq_95 hb) <| p_ (Kd.S_below tq_94 hb) <| p_ (Kd.R_below tq_146 hb) <| p_ (Kd.R_below tq_159 hb) <| p_ (Kd.S_below tq_158 hb) <| p_ (blk_below tq_8 hb) <| p_ (blk_below tq_10 hb) <| p_ (blk_below tq_15 hb) <| p_ (blk_below tq_38 hb) <| p_ (blk_below tq_55 hb) <| a_ (below_step tq_5 hb)
     clear HO399 HO407 HO410 HO415 HO420 HO423 BK391 BK392 BK393 BK416 BK424 HB
     obtain ⟨HO399, HO407, HO410, HO415, HO420, HO423, BK391, BK392, BK393, BK416, BK424, HB⟩ := z_
     (try clear hb)
     (try clear hb2)
     (try clear hk)
     (try clear hi)
     refine hK.out _ _ (bc2_ BK416.out (bc4_ BK392.out (bk3_ BK424.out))) (fun hHeld => ?_)
     clear hK K
     refine nm_ (some 38) ?_
     refine one_ (i := 5) (N := some 41) bq_79 rfl rfl (by kernel_rfl) (by decide) (fun K hK => ?_)
     refine goes_ Try.func76 (by kernel_rfl) rfl #[.agg #[.string t412, .slice Ao48 t413.length co48], .agg #[.int .i64 t425, .int .i64 t426, .int .i64 t427, .int .i64 t428], .int .i64 a2, .agg #[.int .i64 t417, .slice Ao58 t418.length co58, .slice Ao59 t421.length co59]] (by rfl) rfl rfl tq_1 ?_
     with_reducible refine (impl_CleanOk.calls kj15 t412 _ _ t413 t425 t426 t427 t428 a2 t417 _ _ t418 _ _ t421 t429 _ ?side1 ?side2 ?side3 ?side4 ?side5 ?side6 A29.out).mono ?_
     (case side1 => repeat (first | exact (Kd.R_reads' HO415.out).2.2 | (with_reducible refine Kd.C_alloc ?_ _) | (with_reducible refine Kd.C_drewN ?_ _) | (with_reducible refine Kd.C_drew ?_)))
     (case side2 => exact (Kd.R_reads' HO415.out).2.1)
     (case side3 => repeat (first | exact (Kd.R_reads' HO420.out).2.2 | (with_reducible refine Kd.C_alloc ?_ _) | (with_reducible refine Kd.C_drewN ?_ _) | (with_reducible refine Kd.C_drew ?_)))
     (case side4 => exact (Kd.R_reads' HO420.out).2.1)
     (case side5 => repeat (first | exact (Kd.S_reads' HO423.out).2.2 | (with_reducible refine Kd.C_alloc ?_ _) | (with_reducible refine Kd.C_drewN ?_ _) | (with_reducible refine Kd.C_drew ?_)))
     (case side6 => exact (Kd.S_reads' HO423.out).2.1)
     rintro e w63 ⟨rfl, hb⟩
     refine ⟨_, rfl, ?_⟩
     have z_ := p_ (Kd.R_below tq_65 hb) <| p_ (Kd.R_below tq_95 hb) <| p_ (Kd.S_below tq_94 hb) <| p_ (Kd.R_below tq_146 hb) <| p_ (Kd.R_below tq_159 hb) <| p_ (Kd.S_below tq_158 hb) <| p_ (blk_below tq_8 hb) <| p_ (blk_below tq_10 hb) <| p_ (blk_below tq_15 hb) <| p_ (blk_below tq_38 hb) <| p_ (blk_below tq_55 hb) <| a_ (below_step tq_5 hb)
     clear HO399 HO407 HO410 HO415 HO420 HO423 BK391 BK392 BK393 BK416 BK424 HB
     obtain ⟨HO399, HO407, HO410, HO415, HO420, HO423, BK391, BK392, BK393, BK416, BK424, HB⟩ := z_
     (try clear hb)
     (try clear hb2)
     (try clear hk)
     (try clear hi)
     refine hK.out _ _ (bc2_ BK416.out (bc4_ BK392.out (bk3_ BK424.out))) (fun hHeld => ?_)
     clear hK K
     refine nm_ (some 41) ?_
     refine yq_ (i := 6) (N := some 13) bq_80 (by kernel_rfl) ?_
     refine done_ (by kernel_rfl) ?_
     go_upto_if 44 with (fail)
     go_cut [] (fun wc => ∃ (kq : Nat), Aside0 (laws_FnExactCleanOk.j2 kq a0_0 l0_1 a3_0 l3_1 l3_2 t412 t413 t417 t418 t421 = some r) ∧ Aside0 (kq ≤ kj15) ∧ Aside0 (Kd.R k206 206 wc w.heap.size (fun _ => True) (.slice Ao48 t413.length co48) t413) ∧ Aside0 (Kd.R (Kd.int .i64) 3 wc w.heap.size (fun _ => True) (.slice Ao58 t418.length co58) t418) ∧ Aside0 (Kd.S k49 49 wc w.heap.size (fun _ => True) (.slice Ao59 t421.length co59) t421) ∧ Aside0 (wc.heap[gb391]? = some (.cells #[.string a0_0, (.slice A0_1 l0_1.length c0_1)] 108 (0, 0))) ∧ Aside0 (wc.heap[gb392]? = some (.cells #[.int .i64 a1_0, .int .i64 a1_1, .int .i64 a1_2, .int .i64 a1_3] 79 (0, 0))) ∧ Aside0 (wc.heap[gb393]? = some (.cells #[.int .i64 a3_0, (.slice A3_1 l3_1.length c3_1), (.slice A3_2 l3_2.length c3_2)] 86 (0, 0))) ∧ Aside0 (wc.heap[gb416]? = some (.cells #[.string t412, (.slice Ao48 t413.length co48)] 113 (0, 0))) ∧ Aside0 (wc.heap[gb424]? = some (.cells #[.int .i64 t417, (.slice Ao58 t418.length co58), (.slice Ao59 t421.length co59)] 69 (0, 0))) ∧ Aside0 (Below w.heap.size w wc))
     case first =>
      have H := HC30.out
      clear HC30
      by_cases c64 : (t429 != t411) = true
      ·rw [if_pos c64] at H
       have c64b0 : (t429 != t411) = true := c64
       (try (have c64b1 : decide (t429 = t411) = false := by simpa using c64))
       (try (have c64b2 : (t429 == t411) = false := by simpa using c64))
       (try (have c64b3 : ¬ (t429 = t411) := by simpa using c64))
       clear c64
       (first | rw [c64b0] | (simp only [i64_w, i32_w]; rw [c64b0]) | rw [show (!(t429 == t411)) = true from c64b0] | skip)
       obtain rfl := Option.some.inj H
       go_wp2
       go_ret
       exact ⟨tq_2, tq_5⟩
      ·rw [if_neg c64] at H
       have c64b0 : (t429 != t411) = false := by simpa using c64
       (try (have c64b1 : decide (t429 = t411) = true := by simpa using c64))
       (try (have c64b2 : (t429 == t411) = true := by simpa using c64))
       clear c64
       (first | rw [c64b0] | (simp only [i64_w, i32_w]; rw [c64b0]) | rw [show (!(t429 == t411)) = false from c64b0] | skip)
       have H' := Aside0.mk H
       clear H
       go_wp2
       go_meet
       case rel => exact ⟨_, H', ⟨(by have := HJ5.out; have := HJ15.out; first | omega | exact Nat.le_refl _)⟩, ⟨(by (with_reducible repeat (first | apply Kd.R_alloc | apply Kd.R_drewN | apply Kd.R_drew)); exact Kd.R_mono HO415.out (fun _ hk => trivial))⟩, ⟨(by (with_reducible repeat (first | apply Kd.R_alloc | apply Kd.R_drewN | apply Kd.R_drew)); exact Kd.R_mono HO420.out (fun _ hk => trivial))⟩, ⟨(by (with_reducible repeat (first | apply Kd.S_alloc | apply Kd.S_drewN | apply Kd.S_drew)); exact Kd.S_mono HO423.out (fun _ hk => trivial))⟩, ⟨tq_8⟩, ⟨tq_10⟩, ⟨tq_15⟩, ⟨tq_38⟩, ⟨tq_55⟩, ⟨tq_5⟩⟩
     case rest =>
      clear HC30
      try clear c1
      try clear c2
      try clear p2
      try clear c3
      try clear c4
      try clear c5
      try clear c6
      try clear c7
      try clear c10
      try clear c11
      try clear c13
      try clear c14
      try clear c14b0
      try clear c17
      try clear c18
      try clear c21
      try clear c21b0
      try clear c39
      try clear c40
      try clear c44
      try clear c45
      try clear c46
      try clear c48
      try clear c49
      try clear c53
      try clear c54
      try clear c55
      try clear c56
      try clear c64
      try clear c64b0
      try clear c64b1
      try clear c64b2
      try clear hcz12_0 hcz12_1
      try clear hcz19_0 hcz19_1 hcz19_2
      try clear hcz41_0 hcz41_1
      try clear hcz47_0 hcz47_1
      try clear hcz50_0 hcz50_1 hcz50_2
      try clear hcz57_0 hcz57_1 hcz57_2
      try clear hfz12_0 hfz12_1
      try clear hfz19_0 hfz19_1 hfz19_2
      try clear hfz41_0 hfz41_1
      try clear hfz47_0 hfz47_1
      try clear hfz50_0 hfz50_1 hfz50_2
      try clear hfz57_0 hfz57_1 hfz57_2
      try clear p2
      obtain ⟨kq, HA, HJ29, HO_417001, HO_425001, HO_425002, BK391, BK392, BK393, BK416, BK424, HB⟩ := hcut
      cases kq with
      | zero => exact absurd HA.out (by simp [laws_FnExactCleanOk.j2])
      | succ kj29 =>
       have H := HA.out
       clear HA
       simp only [laws_FnExactCleanOk.j2] at H
       replace H := Option.bind_eq_some_iff.mp H
       obtain ⟨⟨t430, t431⟩, A650, H⟩ := H
       replace H : ((laws_eqMemory.f kj29 t412 t413 t430 t431).bind fun t434 => (if t434 = true then (laws_FnExactCleanOk.j3 kj29 a3_0 l3_1 l3_2 t417 t418 t421) else (some false))) = some r := H
       have A65 := Aside0.mk A650
       clear A650
       replace H := Option.bind_eq_some_iff.mp H
       obtain ⟨t434, A660, H⟩ := H
       replace H : (if t434 = true then (laws_FnExactCleanOk.j3 kj29 a3_0 l3_1 l3_2 t417 t418 t421) else (some false)) = some r := H
       have A66 := Aside0.mk A660
       clear A660
       have HC67 := Aside0.mk H
       clear H
       try go_wp2
       have z_ := p_ (Kd.R_drew HO_417001.out) <| p_ (Kd.R_drew HO_425001.out) <| p_ (Kd.S_drew HO_425002.out) <| p_ (blk_drew BK391.out) <| p_ (blk_drew BK392.out) <| p_ (blk_drew BK393.out) <| p_ (blk_drew BK416.out) <| p_ (blk_drew BK424.out) <| a_ (below_drew1 HB.out)
       clear HO_417001 HO_425001 HO_425002 BK391 BK392 BK393 BK416 BK424 HB
       obtain ⟨HO_417001, HO_425001, HO_425002, BK391, BK392, BK393, BK416, BK424, HB⟩ := z_
       refine start_ (n := 5) (S := fun w' => w'.cell? ⟨gb416, 0, none⟩ = some (.string t412) ∧ w'.cell? ⟨gb416, 1, none⟩ = some (.slice Ao48 t413.length co48) ∧ w'.cell? ⟨gb391, 0, none⟩ = some (.string a0_0) ∧ w'.cell? ⟨gb391, 1, none⟩ = some (.slice A0_1 l0_1.length c0_1)) (ds := []) bq_118 (by kernel_rfl) rfl rfl (bc2_ BK416.out (bk2_ BK391.out)) (fun hHeld => ?_)
       generalize wc.drew = w68 at HO_417001 HO_425001 HO_425002 BK391 BK392 BK393 BK416 BK424 HB hHeld ⊢
       refine take_ (i := 0) (N := some 45) (v := ?_) (a' := ?_) bq_119 rfl rfl (by kernel_rfl) (fun _ _ _ h => h) (Or.inl ⟨(by rfl), ?_⟩) hHeld ?_ ?_
       rotate_left
       ·rintro w' ⟨s0, s1, s2, s3⟩
        go_simp
        with_reducible rfl
       rotate_left
       ·simp only [Act.put, List.setIfInBounds_toArray, List.set_cons_zero, List.set_cons_succ, i64_w, i32_w]
        rfl
       refine take_ (i := 1) (N := some 46) (v := ?_) (a' := ?_) bq_120 rfl rfl (by kernel_rfl) (fun _ _ _ h => h) (Or.inl ⟨(by rfl), ?_⟩) hHeld ?_ ?_
       rotate_left
       ·rintro w' ⟨s0, s1, s2, s3⟩
        go_simp
        with_reducible rfl
       rotate_left
       ·simp only [Act.put, List.setIfInBounds_toArray, List.set_cons_zero, List.set_cons_succ, i64_w, i32_w]
        rfl
       refine one_ (i := 2) (N := some 47) bq_121 rfl rfl (by kernel_rfl) (by decide) (fun K hK => ?_)
       refine goes_ Try.func75 (by kernel_rfl) rfl #[.agg #[.string a0_0, .slice A0_1 l0_1.length c0_1]] (by rfl) rfl rfl tq_1 ?_
       with_reducible refine (laws_toMemory.calls kj29 a0_0 _ _ l0_1 t430 t431 _ ?side1 ?side2 A65.out).mono ?_
       (case side1 => exact tq_4)
       (case side2 => exact HC0_1.out)
       rintro e w69 ⟨v432, rfl, ho0, hb⟩
       refine ⟨_, rfl, ?_⟩
       have z_ := p_ (Kd.R_elder' tq_78 (Kd.R_base ho0) hb) <| p_ (Kd.R_below tq_64 hb) <| p_ (Kd.S_below tq_63 hb) <| p_ (Kd.R_lower (Kd.R_new' ho0 (Kd.R_lt tq_78)) (below_size tq_5)) <| p_ (blk_below tq_8 hb) <| p_ (blk_below tq_10 hb) <| p_ (blk_below tq_15 hb) <| p_ (blk_below tq_38 hb) <| p_ (blk_below tq_55 hb) <| a_ (below_step tq_5 hb)
       clear HO_417001 HO_425001 HO_425002 BK391 BK392 BK393 BK416 BK424 HB
       obtain ⟨HO_417001, HO_425001, HO_425002, HO433, BK391, BK392, BK393, BK416, BK424, HB⟩ := z_
       (try clear hb)
       (try clear hb2)
       (try clear hk)
       (try clear hi)
       (try clear ho0)
       obtain ⟨Ao70, co70, eo70⟩ := Kd.R_slice HO433.out
       (first | subst eo70 | (injection eo70 with f1_ f2_ f3_; have f4_ := f1_.symm; have f5_ := f3_.symm; clear f1_ f2_ f3_; subst f4_; subst f5_))
       refine hK.out _ _ (bc2_ BK416.out (bk2_ BK391.out)) (fun hHeld => ?_)
       clear hK K
       refine nm_ (some 47) ?_
       refine one_ (i := 3) (N := some 48) bq_122 rfl rfl (by kernel_rfl) (by decide) (fun K hK => ?_)
       refine goes_ Try.func77 (by kernel_rfl) rfl #[.agg #[.string t412, .slice Ao48 t413.length co48], .agg #[.string t430, .slice Ao70 t431.length co70]] (by rfl) rfl rfl tq_1 ?_
       with_reducible refine (laws_eqMemory.calls kj29 t412 _ _ t413 t430 _ _ t431 t434 _ ?side1 ?side2 ?side3 ?side4 A66.out).mono ?_
       (case side1 => repeat (first | exact (Kd.R_reads' HO_417001.out).2.2 | (with_reducible refine Kd.C_alloc ?_ _) | (with_reducible refine Kd.C_drewN ?_ _) | (with_reducible refine Kd.C_drew ?_)))
       (case side2 => exact (Kd.R_reads' HO_417001.out).2.1)
       (case side3 => repeat (first | exact (Kd.R_reads' HO433.out).2.2 | (with_reducible refine Kd.C_alloc ?_ _) | (with_reducible refine Kd.C_drewN ?_ _) | (with_reducible refine Kd.C_drew ?_)))
       (case side4 => exact (Kd.R_reads' HO433.out).2.1)
       rintro e w71 ⟨rfl, hb⟩
       refine ⟨_, rfl, ?_⟩
       have z_ := p_ (Kd.R_below tq_78 hb) <| p_ (Kd.R_below tq_64 hb) <| p_ (Kd.S_below tq_63 hb) <| p_ (Kd.R_below (by (with_reducible repeat (first | apply Kd.R_alloc | apply Kd.R_drewN | apply Kd.R_drew)); exact HO433.out) hb) <| p_ (blk_below tq_8 hb) <| p_ (blk_below tq_10 hb) <| p_ (blk_below tq_15 hb) <| p_ (blk_below tq_38 hb) <| p_ (blk_below tq_55 hb) <| a_ (below_step tq_5 hb)
       clear HO_417001 HO_425001 HO_425002 HO433 BK391 BK392 BK393 BK416 BK424 HB
       obtain ⟨HO_417001, HO_425001, HO_425002, HO433, BK391, BK392, BK393, BK416, BK424, HB⟩ := z_
       (try clear hb)
       (try clear hb2)
       (try clear hk)
       (try clear hi)
       refine hK.out _ _ (bc2_ BK416.out (bk2_ BK391.out)) (fun hHeld => ?_)
       clear hK K
       refine nm_ (some 48) ?_
       refine yq_ (i := 4) (N := some 49) bq_123 (by kernel_rfl) ?_
       refine done_ (by kernel_rfl) ?_
       go_upto_if 49 with (fail)
       go_cut [] (fun wc => ∃ (kq : Nat), Aside0 (laws_FnExactCleanOk.j3 kq a3_0 l3_1 l3_2 t417 t418 t421 = some r) ∧ Aside0 (kq ≤ kj29) ∧ Aside0 (Kd.R k206 206 wc w.heap.size (fun _ => True) (.slice Ao48 t413.length co48) t413) ∧ Aside0 (Kd.R (Kd.int .i64) 3 wc w.heap.size (fun _ => True) (.slice Ao58 t418.length co58) t418) ∧ Aside0 (Kd.S k49 49 wc w.heap.size (fun _ => True) (.slice Ao59 t421.length co59) t421) ∧ Aside0 (wc.heap[gb391]? = some (.cells #[.string a0_0, (.slice A0_1 l0_1.length c0_1)] 108 (0, 0))) ∧ Aside0 (wc.heap[gb392]? = some (.cells #[.int .i64 a1_0, .int .i64 a1_1, .int .i64 a1_2, .int .i64 a1_3] 79 (0, 0))) ∧ Aside0 (wc.heap[gb393]? = some (.cells #[.int .i64 a3_0, (.slice A3_1 l3_1.length c3_1), (.slice A3_2 l3_2.length c3_2)] 86 (0, 0))) ∧ Aside0 (wc.heap[gb416]? = some (.cells #[.string t412, (.slice Ao48 t413.length co48)] 113 (0, 0))) ∧ Aside0 (wc.heap[gb424]? = some (.cells #[.int .i64 t417, (.slice Ao58 t418.length co58), (.slice Ao59 t421.length co59)] 69 (0, 0))) ∧ Aside0 (Below w.heap.size w wc))
       case first =>
        have H := HC67.out
        clear HC67
        by_cases c72 : t434 = true
        ·subst c72
         have H1 : (laws_FnExactCleanOk.j3 kj29 a3_0 l3_1 l3_2 t417 t418 t421) = some r := by rw [if_pos rfl] at H; exact H
         clear H
         have H := H1
         clear H1
         have H' := Aside0.mk H
         clear H
         go_wp2
         go_meet
         case rel => exact ⟨_, H', ⟨(by have := HJ5.out; have := HJ15.out; have := HJ29.out; first | omega | exact Nat.le_refl _)⟩, ⟨(by (with_reducible repeat (first | apply Kd.R_alloc | apply Kd.R_drewN | apply Kd.R_drew)); exact Kd.R_mono HO_417001.out (fun _ hk => trivial))⟩, ⟨tq_64⟩, ⟨tq_63⟩, ⟨tq_8⟩, ⟨tq_10⟩, ⟨tq_15⟩, ⟨tq_38⟩, ⟨tq_55⟩, ⟨tq_5⟩⟩
        ·replace c72 := Bool.eq_false_iff.mpr c72
         subst c72
         have H1 : (some false) = some r := by rw [if_neg (show ¬ (false = true) by decide)] at H; exact H
         clear H
         have H := H1
         clear H1
         obtain rfl := Option.some.inj H
         go_wp2
         go_ret
         exact ⟨tq_2, tq_5⟩
       case rest =>
        clear HC67
        try clear c1
        try clear c2
        try clear p2
        try clear c3
        try clear c4
        try clear c5
        try clear c6
        try clear c7
        try clear c10
        try clear c11
        try clear c13
        try clear c14
        try clear c14b0
        try clear c17
        try clear c18
        try clear c21
        try clear c21b0
        try clear c39
        try clear c40
        try clear c44
        try clear c45
        try clear c46
        try clear c48
        try clear c49
        try clear c53
        try clear c54
        try clear c55
        try clear c56
        try clear c64
        try clear c64b0
        try clear c64b1
        try clear c64b2
        try clear c72
        try clear hcz12_0 hcz12_1
        try clear hcz19_0 hcz19_1 hcz19_2
        try clear hcz41_0 hcz41_1
        try clear hcz47_0 hcz47_1
        try clear hcz50_0 hcz50_1 hcz50_2
        try clear hcz57_0 hcz57_1 hcz57_2
        try clear hfz12_0 hfz12_1
        try clear hfz19_0 hfz19_1 hfz19_2
        try clear hfz41_0 hfz41_1
        try clear hfz47_0 hfz47_1
        try clear hfz50_0 hfz50_1 hfz50_2
        try clear hfz57_0 hfz57_1 hfz57_2
        try clear p2
        obtain ⟨kq, HA, HJ66, HO_417001, HO_425001, HO_425002, BK391, BK392, BK393, BK416, BK424, HB⟩ := hcut
        cases kq with
        | zero => exact absurd HA.out (by simp [laws_FnExactCleanOk.j3])
        | succ kj66 =>
         have H := HA.out
         clear HA
         simp only [laws_FnExactCleanOk.j3] at H
         replace H := Option.bind_eq_some_iff.mp H
         obtain ⟨⟨t435, t436, t439⟩, A730, H⟩ := H
         replace H : ((laws_eqPart.f kj66 t417 t418 t421 t435 t436 t439).bind fun t442 => (if t442 = true then (some true) else (some false))) = some r := H
         have A73 := Aside0.mk A730
         clear A730
         replace H := Option.bind_eq_some_iff.mp H
         obtain ⟨t442, A740, H⟩ := H
         replace H : (if t442 = true then (some true) else (some false)) = some r := H
         have A74 := Aside0.mk A740
         clear A740
         by_cases c75 : t442 = true
         ·subst c75
          have H1 : (some true) = some r := by rw [if_pos rfl] at H; exact H
          clear H
          have H := H1
          clear H1
          obtain rfl := Option.some.inj H
          try go_wp2
          have z_ := p_ (Kd.R_drew HO_417001.out) <| p_ (Kd.R_drew HO_425001.out) <| p_ (Kd.S_drew HO_425002.out) <| p_ (blk_drew BK391.out) <| p_ (blk_drew BK392.out) <| p_ (blk_drew BK393.out) <| p_ (blk_drew BK416.out) <| p_ (blk_drew BK424.out) <| a_ (below_drew1 HB.out)
          clear HO_417001 HO_425001 HO_425002 BK391 BK392 BK393 BK416 BK424 HB
          obtain ⟨HO_417001, HO_425001, HO_425002, BK391, BK392, BK393, BK416, BK424, HB⟩ := z_
          refine start_ (n := 5) (S := fun w' => w'.cell? ⟨gb424, 0, none⟩ = some (.int .i64 t417) ∧ w'.cell? ⟨gb424, 1, none⟩ = some (.slice Ao58 t418.length co58) ∧ w'.cell? ⟨gb424, 2, none⟩ = some (.slice Ao59 t421.length co59) ∧ w'.cell? ⟨gb393, 0, none⟩ = some (.int .i64 a3_0) ∧ w'.cell? ⟨gb393, 1, none⟩ = some (.slice A3_1 l3_1.length c3_1) ∧ w'.cell? ⟨gb393, 2, none⟩ = some (.slice A3_2 l3_2.length c3_2)) (ds := []) bq_118 (by kernel_rfl) rfl rfl (bc3_ BK424.out (bk3_ BK393.out)) (fun hHeld => ?_)
          generalize wc.drew = w76 at HO_417001 HO_425001 HO_425002 BK391 BK392 BK393 BK416 BK424 HB hHeld ⊢
          refine take_ (i := 0) (N := some 50) (v := ?_) (a' := ?_) bq_119 rfl rfl (by kernel_rfl) (fun _ _ _ h => h) (Or.inl ⟨(by rfl), ?_⟩) hHeld ?_ ?_
          rotate_left
          ·rintro w' ⟨s0, s1, s2, s3, s4, s5⟩
           go_simp
           with_reducible rfl
          rotate_left
          ·simp only [Act.put, List.setIfInBounds_toArray, List.set_cons_zero, List.set_cons_succ, i64_w, i32_w]
           rfl
          refine take_ (i := 1) (N := some 51) (v := ?_) (a' := ?_) bq_120 rfl rfl (by kernel_rfl) (fun _ _ _ h => h) (Or.inl ⟨(by rfl), ?_⟩) hHeld ?_ ?_
          rotate_left
          ·rintro w' ⟨s0, s1, s2, s3, s4, s5⟩
           go_simp
           with_reducible rfl
          rotate_left
          ·simp only [Act.put, List.setIfInBounds_toArray, List.set_cons_zero, List.set_cons_succ, i64_w, i32_w]
           rfl
          refine one_ (i := 2) (N := some 52) bq_121 rfl rfl (by kernel_rfl) (by decide) (fun K hK => ?_)
          refine goes_ Try.func55 (by kernel_rfl) rfl #[.agg #[.int .i64 a3_0, .slice A3_1 l3_1.length c3_1, .slice A3_2 l3_2.length c3_2]] (by rfl) rfl rfl tq_1 ?_
          with_reducible refine (laws_toPart.calls kj66 a3_0 _ _ l3_1 _ _ l3_2 t435 t436 t439 _ ?side1 ?side2 ?side3 ?side4 A73.out).mono ?_
          (case side1 => exact tq_66)
          (case side2 => exact HC3_1.out)
          (case side3 => exact tq_103)
          (case side4 => exact HC3_2.out)
          rintro e w77 ⟨v437, v440, rfl, ho0, ho1, hb⟩
          refine ⟨_, rfl, ?_⟩
          have z_ := p_ (Kd.R_below tq_78 hb) <| p_ (Kd.R_elder' tq_64 (Kd.R_base ho0) hb) <| p_ (Kd.S_elder' tq_63 (Kd.S_base ho1) hb) <| p_ (Kd.R_lower (Kd.R_new' ho0 (Kd.R_lt tq_64)) (below_size tq_5)) <| p_ (Kd.S_lower (Kd.S_new' ho1 (Kd.S_lt tq_63)) (below_size tq_5)) <| p_ (blk_below tq_8 hb) <| p_ (blk_below tq_10 hb) <| p_ (blk_below tq_15 hb) <| p_ (blk_below tq_38 hb) <| p_ (blk_below tq_55 hb) <| a_ (below_step tq_5 hb)
          clear HO_417001 HO_425001 HO_425002 BK391 BK392 BK393 BK416 BK424 HB
          obtain ⟨HO_417001, HO_425001, HO_425002, HO438, HO441, BK391, BK392, BK393, BK416, BK424, HB⟩ := z_
          (try clear hb)
          (try clear hb2)
          (try clear hk)
          (try clear hi)
          (try clear ho0)
          (try clear ho1)
          obtain ⟨Ao78, co78, eo78⟩ := Kd.R_slice HO438.out
          (first | subst eo78 | (injection eo78 with f1_ f2_ f3_; have f4_ := f1_.symm; have f5_ := f3_.symm; clear f1_ f2_ f3_; subst f4_; subst f5_))
          obtain ⟨Ao79, co79, eo79⟩ := Kd.S_slice HO441.out
          (first | subst eo79 | (injection eo79 with f1_ f2_ f3_; have f4_ := f1_.symm; have f5_ := f3_.symm; clear f1_ f2_ f3_; subst f4_; subst f5_))
          refine hK.out _ _ (bc3_ BK424.out (bk3_ BK393.out)) (fun hHeld => ?_)
          clear hK K
          refine nm_ (some 52) ?_
          refine one_ (i := 3) (N := some 53) bq_122 rfl rfl (by kernel_rfl) (by decide) (fun K hK => ?_)
          refine goes_ Try.func50 (by kernel_rfl) rfl #[.agg #[.int .i64 t417, .slice Ao58 t418.length co58, .slice Ao59 t421.length co59], .agg #[.int .i64 t435, .slice Ao78 t436.length co78, .slice Ao79 t439.length co79]] (by rfl) rfl rfl tq_1 ?_
          with_reducible refine (laws_eqPart.calls kj66 t417 _ _ t418 _ _ t421 t435 _ _ t436 _ _ t439 true _ ?side1 ?side2 ?side3 ?side4 ?side5 ?side6 ?side7 ?side8 A74.out).mono ?_
          (case side1 => exact tq_176)
          (case side2 => exact (Kd.R_reads' HO_425001.out).2.1)
          (case side3 => exact tq_175)
          (case side4 => exact (Kd.S_reads' HO_425002.out).2.1)
          (case side5 => exact tq_188)
          (case side6 => exact (Kd.R_reads' HO438.out).2.1)
          (case side7 => exact tq_187)
          (case side8 => exact (Kd.S_reads' HO441.out).2.1)
          rintro e w80 ⟨rfl, hb⟩
          refine ⟨_, rfl, ?_⟩
          have z_ := p_ (Kd.R_below tq_78 hb) <| p_ (Kd.R_below tq_64 hb) <| p_ (Kd.S_below tq_63 hb) <| p_ (Kd.R_below (by (with_reducible repeat (first | apply Kd.R_alloc | apply Kd.R_drewN | apply Kd.R_drew)); exact HO438.out) hb) <| p_ (Kd.S_below (by (with_reducible repeat (first | apply Kd.S_alloc | apply Kd.S_drewN | apply Kd.S_drew)); exact HO441.out) hb) <| p_ (blk_below tq_8 hb) <| p_ (blk_below tq_10 hb) <| p_ (blk_below tq_15 hb) <| p_ (blk_below tq_38 hb) <| p_ (blk_below tq_55 hb) <| a_ (below_step tq_5 hb)
          clear HO_417001 HO_425001 HO_425002 HO438 HO441 BK391 BK392 BK393 BK416 BK424 HB
          obtain ⟨HO_417001, HO_425001, HO_425002, HO438, HO441, BK391, BK392, BK393, BK416, BK424, HB⟩ := z_
          (try clear hb)
          (try clear hb2)
          (try clear hk)
          (try clear hi)
          refine hK.out _ _ (bc3_ BK424.out (bk3_ BK393.out)) (fun hHeld => ?_)
          clear hK K
          refine nm_ (some 53) ?_
          refine yq_ (i := 4) (N := some 54) bq_123 (by kernel_rfl) ?_
          refine done_ (by kernel_rfl) ?_
          try go_wp2
          go_ret
          exact ⟨tq_2, tq_5⟩
         ·replace c75 := Bool.eq_false_iff.mpr c75
          subst c75
          have H1 : (some false) = some r := by rw [if_neg (show ¬ (false = true) by decide)] at H; exact H
          clear H
          have H := H1
          clear H1
          obtain rfl := Option.some.inj H
          try go_wp2
          have z_ := p_ (Kd.R_drew HO_417001.out) <| p_ (Kd.R_drew HO_425001.out) <| p_ (Kd.S_drew HO_425002.out) <| p_ (blk_drew BK391.out) <| p_ (blk_drew BK392.out) <| p_ (blk_drew BK393.out) <| p_ (blk_drew BK416.out) <| p_ (blk_drew BK424.out) <| a_ (below_drew1 HB.out)
          clear HO_417001 HO_425001 HO_425002 BK391 BK392 BK393 BK416 BK424 HB
          obtain ⟨HO_417001, HO_425001, HO_425002, BK391, BK392, BK393, BK416, BK424, HB⟩ := z_
          refine start_ (n := 5) (S := fun w' => w'.cell? ⟨gb424, 0, none⟩ = some (.int .i64 t417) ∧ w'.cell? ⟨gb424, 1, none⟩ = some (.slice Ao58 t418.length co58) ∧ w'.cell? ⟨gb424, 2, none⟩ = some (.slice Ao59 t421.length co59) ∧ w'.cell? ⟨gb393, 0, none⟩ = some (.int .i64 a3_0) ∧ w'.cell? ⟨gb393, 1, none⟩ = some (.slice A3_1 l3_1.length c3_1) ∧ w'.cell? ⟨gb393, 2, none⟩ = some (.slice A3_2 l3_2.length c3_2)) (ds := []) bq_118 (by kernel_rfl) rfl rfl (bc3_ BK424.out (bk3_ BK393.out)) (fun hHeld => ?_)
          generalize wc.drew = w81 at HO_417001 HO_425001 HO_425002 BK391 BK392 BK393 BK416 BK424 HB hHeld ⊢
          refine take_ (i := 0) (N := some 50) (v := ?_) (a' := ?_) bq_119 rfl rfl (by kernel_rfl) (fun _ _ _ h => h) (Or.inl ⟨(by rfl), ?_⟩) hHeld ?_ ?_
          rotate_left
          ·rintro w' ⟨s0, s1, s2, s3, s4, s5⟩
           go_simp
           with_reducible rfl
          rotate_left
          ·simp only [Act.put, List.setIfInBounds_toArray, List.set_cons_zero, List.set_cons_succ, i64_w, i32_w]
           rfl
          refine take_ (i := 1) (N := some 51) (v := ?_) (a' := ?_) bq_120 rfl rfl (by kernel_rfl) (fun _ _ _ h => h) (Or.inl ⟨(by rfl), ?_⟩) hHeld ?_ ?_
          rotate_left
          ·rintro w' ⟨s0, s1, s2, s3, s4, s5⟩
           go_simp
           with_reducible rfl
          rotate_left
          ·simp only [Act.put, List.setIfInBounds_toArray, List.set_cons_zero, List.set_cons_succ, i64_w, i32_w]
           rfl
          refine one_ (i := 2) (N := some 52) bq_121 rfl rfl (by kernel_rfl) (by decide) (fun K hK => ?_)
          refine goes_ Try.func55 (by kernel_rfl) rfl #[.agg #[.int .i64 a3_0, .slice A3_1 l3_1.length c3_1, .slice A3_2 l3_2.length c3_2]] (by rfl) rfl rfl tq_1 ?_
          with_reducible refine (laws_toPart.calls kj66 a3_0 _ _ l3_1 _ _ l3_2 t435 t436 t439 _ ?side1 ?side2 ?side3 ?side4 A73.out).mono ?_
          (case side1 => exact tq_66)
          (case side2 => exact HC3_1.out)
          (case side3 => exact tq_103)
          (case side4 => exact HC3_2.out)
          rintro e w82 ⟨v437, v440, rfl, ho0, ho1, hb⟩
          refine ⟨_, rfl, ?_⟩
          have z_ := p_ (Kd.R_below tq_78 hb) <| p_ (Kd.R_elder' tq_64 (Kd.R_base ho0) hb) <| p_ (Kd.S_elder' tq_63 (Kd.S_base ho1) hb) <| p_ (Kd.R_lower (Kd.R_new' ho0 (Kd.R_lt tq_64)) (below_size tq_5)) <| p_ (Kd.S_lower (Kd.S_new' ho1 (Kd.S_lt tq_63)) (below_size tq_5)) <| p_ (blk_below tq_8 hb) <| p_ (blk_below tq_10 hb) <| p_ (blk_below tq_15 hb) <| p_ (blk_below tq_38 hb) <| p_ (blk_below tq_55 hb) <| a_ (below_step tq_5 hb)
          clear HO_417001 HO_425001 HO_425002 BK391 BK392 BK393 BK416 BK424 HB
          obtain ⟨HO_417001, HO_425001, HO_425002, HO438, HO441, BK391, BK392, BK393, BK416, BK424, HB⟩ := z_
          (try clear hb)
          (try clear hb2)
          (try clear hk)
          (try clear hi)
          (try clear ho0)
          (try clear ho1)
          obtain ⟨Ao83, co83, eo83⟩ := Kd.R_slice HO438.out
          (first | subst eo83 | (injection eo83 with f1_ f2_ f3_; have f4_ := f1_.symm; have f5_ := f3_.symm; clear f1_ f2_ f3_; subst f4_; subst f5_))
          obtain ⟨Ao84, co84, eo84⟩ := Kd.S_slice HO441.out
          (first | subst eo84 | (injection eo84 with f1_ f2_ f3_; have f4_ := f1_.symm; have f5_ := f3_.symm; clear f1_ f2_ f3_; subst f4_; subst f5_))
          refine hK.out _ _ (bc3_ BK424.out (bk3_ BK393.out)) (fun hHeld => ?_)
          clear hK K
          refine nm_ (some 52) ?_
          refine one_ (i := 3) (N := some 53) bq_122 rfl rfl (by kernel_rfl) (by decide) (fun K hK => ?_)
          refine goes_ Try.func50 (by kernel_rfl) rfl #[.agg #[.int .i64 t417, .slice Ao58 t418.length co58, .slice Ao59 t421.length co59], .agg #[.int .i64 t435, .slice Ao83 t436.length co83, .slice Ao84 t439.length co84]] (by rfl) rfl rfl tq_1 ?_
          with_reducible refine (laws_eqPart.calls kj66 t417 _ _ t418 _ _ t421 t435 _ _ t436 _ _ t439 false _ ?side1 ?side2 ?side3 ?side4 ?side5 ?side6 ?side7 ?side8 A74.out).mono ?_
          (case side1 => exact tq_176)
          (case side2 => exact (Kd.R_reads' HO_425001.out).2.1)
          (case side3 => exact tq_175)
          (case side4 => exact (Kd.S_reads' HO_425002.out).2.1)
          (case side5 => exact tq_188)
          (case side6 => exact (Kd.R_reads' HO438.out).2.1)
          (case side7 => exact tq_187)
          (case side8 => exact (Kd.S_reads' HO441.out).2.1)
          rintro e w85 ⟨rfl, hb⟩
          refine ⟨_, rfl, ?_⟩
          have z_ := p_ (Kd.R_below tq_78 hb) <| p_ (Kd.R_below tq_64 hb) <| p_ (Kd.S_below tq_63 hb) <| p_ (Kd.R_below (by (with_reducible repeat (first | apply Kd.R_alloc | apply Kd.R_drewN | apply Kd.R_drew)); exact HO438.out) hb) <| p_ (Kd.S_below (by (with_reducible repeat (first | apply Kd.S_alloc | apply Kd.S_drewN | apply Kd.S_drew)); exact HO441.out) hb) <| p_ (blk_below tq_8 hb) <| p_ (blk_below tq_10 hb) <| p_ (blk_below tq_15 hb) <| p_ (blk_below tq_38 hb) <| p_ (blk_below tq_55 hb) <| a_ (below_step tq_5 hb)
          clear HO_417001 HO_425001 HO_425002 HO438 HO441 BK391 BK392 BK393 BK416 BK424 HB
          obtain ⟨HO_417001, HO_425001, HO_425002, HO438, HO441, BK391, BK392, BK393, BK416, BK424, HB⟩ := z_
          (try clear hb)
          (try clear hb2)
          (try clear hk)
          (try clear hi)
          refine hK.out _ _ (bc3_ BK424.out (bk3_ BK393.out)) (fun hHeld => ?_)
          clear hK K
          refine nm_ (some 53) ?_
          refine yq_ (i := 4) (N := some 54) bq_123 (by kernel_rfl) ?_
          refine done_ (by kernel_rfl) ?_
          try go_wp2
          go_ret
          exact ⟨tq_2, tq_5⟩

end Go.Proofs.Ytcdnfkoahajhhaa.PFnExactCleanOk
