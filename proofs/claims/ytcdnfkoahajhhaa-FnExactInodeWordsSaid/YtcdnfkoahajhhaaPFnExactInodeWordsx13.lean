/- Contracts of Go functions, written by a program of ours over the print of the kit: each says that the call returns what the Lean function beside it computes. Conditions: as each theorem states them. -/
import Derived.Test.YtcdnfkoahajhhaaPkFnExactInodeWords
import Derived.Test.YtcdnfkoahajhhaaPFnExactInodeWordsx0
import Derived.Test.YtcdnfkoahajhhaaPFnExactInodeWordsx8
import Derived.Test.YtcdnfkoahajhhaaPFnExactInodeWordsx9
import Derived.Test.YtcdnfkoahajhhaaPFnExactInodeWordsx10
import Derived.Test.YtcdnfkoahajhhaaPFnExactInodeWordsx12
namespace Go.Proofs.Ytcdnfkoahajhhaa.PFnExactInodeWords
open Go.RowKit Go.Proofs.YtcdnfkoahajhhaaW.PrintWords Go.Proofs.YtcdnfkoahajhhaaW.PrintLast Go.Proofs.YtcdnfkoahajhhaaW.PrintMore
attribute [local go_sem] max2_int min2_int max_two min_two max_three min_three max_four min_four   -- for this text's walks alone
set_option linter.unusedVariables false
set_option linter.unusedSimpArgs false

/-! ### impl_inodeText: function 154 -/
mutual
def impl_inodeText.l0 : Nat → List ByteArray → List (S170) → Int → Int → Int → Int → Int → ByteArray → List (S170) → List (S59) → Option (List ByteArray)
 | 0, _, _, _, _, _, _, _, _, _, _ => none
 | k + 1, x3, x25, x26, x27, x275000, x275001, x275002, x275003, x275004, x275005 => if x27 < x26 then (if 0 ≤ x27 then (if x27 < (x25.length : Int) then ((impl_RecWord.f k ((rd_T170 x25 x27).f0) ((rd_T170 x25 x27).f1) ((rd_T170 x25 x27).f2)).bind fun t285 => (if x3.length < 8796093022208 then (impl_inodeText.l0 k (x3 ++ [t285]) x25 x26 (wrap64 (x27 + 1)) x275000 x275001 x275002 x275003 x275004 x275005) else (none))) else (none)) else (none)) else (impl_inodeText.l1 k x3 x275005 (x275005.length : Int) 0)
def impl_inodeText.l1 : Nat → List ByteArray → List (S59) → Int → Int → Option (List ByteArray)
 | 0, _, _, _, _ => none
 | k + 1, x3, x38, x39, x40 => if x40 < x39 then (if 0 ≤ x40 then (if x40 < (x38.length : Int) then ((impl_EntryWord.f k ((rd_T59 x38 x40).f0) ((rd_T59 x38 x40).f1)).bind fun t291 => (if x3.length < 8796093022208 then (impl_inodeText.l1 k (x3 ++ [t291]) x38 x39 (wrap64 (x40 + 1))) else (none))) else (none)) else (none)) else (impl_inodeText.l2 k x3)
def impl_inodeText.l2 : Nat → List ByteArray → Option (List ByteArray)
 | 0, _ => none
 | k + 1, x3 => if (x3.length : Int) < 8 then ((impl_zeroWord.f).bind fun t295 => (if x3.length < 8796093022208 then (impl_inodeText.l2 k (x3 ++ [t295])) else (none))) else (some x3)
end
def impl_inodeText.f (k : Nat) (a0_0 : Int) (a0_1 : Int) (a0_2 : Int) (a0_3 : ByteArray) (l0_4 : List (S170)) (l0_5 : List (S59)) : Option (List ByteArray) := (impl_NumText.f k a0_0 1).bind fun t275 => ((impl_NumText.f k a0_1 2).bind fun t276 => (if t275.size + t276.size ≤ 9223372036854775807 then ((impl_NumText.f k a0_2 2).bind fun t277 => (if (t275 ++ t276).size + t277.size ≤ 9223372036854775807 then ((impl_WordText.f ((t275 ++ t276) ++ t277)).bind fun t278 => ((impl_WordText.f a0_3).bind fun t279 => (impl_inodeText.l0 k (([t278, t279] : List ByteArray)) l0_4 (l0_4.length : Int) 0 a0_0 a0_1 a0_2 a0_3 l0_4 l0_5))) else (none))) else (none)))
theorem impl_inodeText.mono_l : ∀ k, (∀ y0 y1 y2 y3 y4 y5 y6 y7 y8 y9, LeO (impl_inodeText.l0 k y0 y1 y2 y3 y4 y5 y6 y7 y8 y9) (impl_inodeText.l0 (k + 1) y0 y1 y2 y3 y4 y5 y6 y7 y8 y9)) ∧ (∀ y0 y1 y2 y3, LeO (impl_inodeText.l1 k y0 y1 y2 y3) (impl_inodeText.l1 (k + 1) y0 y1 y2 y3)) ∧ (∀ y0, LeO (impl_inodeText.l2 k y0) (impl_inodeText.l2 (k + 1) y0))
 | 0 => ⟨fun _ _ _ _ _ _ _ _ _ _ r h => by simp [impl_inodeText.l0] at h, fun _ _ _ _ r h => by simp [impl_inodeText.l1] at h, fun _ r h => by simp [impl_inodeText.l2] at h⟩
 | k + 1 => by
  obtain ⟨ih0, ih1, ih2⟩ := impl_inodeText.mono_l k
  refine ⟨?_, ?_, ?_⟩
  ·intro y0 y1 y2 y3 y4 y5 y6 y7 y8 y9
   unfold impl_inodeText.l0
   repeat' first
   | (with_reducible exact ih0 ..)
   | (with_reducible exact ih1 ..)
   | (with_reducible exact ih2 _)
   | (with_reducible exact impl_EntryWord.mono ..)
   | (with_reducible exact impl_NumText.mono ..)
   | (with_reducible exact impl_RecWord.mono ..)
   | (with_reducible exact LeO.refl _)
   | (with_reducible exact LeO.none _)
   | (with_reducible refine LeO.ite ?_ ?_)
   | (with_reducible refine LeO.bind ?_ (fun _ => ?_))
   | exact ih0 ..
   | exact ih1 ..
   | exact ih2 _
   | exact impl_EntryWord.mono ..
   | exact impl_NumText.mono ..
   | exact impl_RecWord.mono ..
   | exact LeO.none _
   | refine LeO.ite ?_ ?_
   | refine LeO.bind ?_ (fun _ => ?_)
  ·intro y0 y1 y2 y3
   unfold impl_inodeText.l1
   repeat' first
   | (with_reducible exact ih0 ..)
   | (with_reducible exact ih1 ..)
   | (with_reducible exact ih2 _)
   | (with_reducible exact impl_EntryWord.mono ..)
   | (with_reducible exact impl_NumText.mono ..)
   | (with_reducible exact impl_RecWord.mono ..)
   | (with_reducible exact LeO.refl _)
   | (with_reducible exact LeO.none _)
   | (with_reducible refine LeO.ite ?_ ?_)
   | (with_reducible refine LeO.bind ?_ (fun _ => ?_))
   | exact ih0 ..
   | exact ih1 ..
   | exact ih2 _
   | exact impl_EntryWord.mono ..
   | exact impl_NumText.mono ..
   | exact impl_RecWord.mono ..
   | exact LeO.none _
   | refine LeO.ite ?_ ?_
   | refine LeO.bind ?_ (fun _ => ?_)
  ·intro y0
   unfold impl_inodeText.l2
   repeat' first
   | (with_reducible exact ih0 ..)
   | (with_reducible exact ih1 ..)
   | (with_reducible exact ih2 _)
   | (with_reducible exact impl_EntryWord.mono ..)
   | (with_reducible exact impl_NumText.mono ..)
   | (with_reducible exact impl_RecWord.mono ..)
   | (with_reducible exact LeO.refl _)
   | (with_reducible exact LeO.none _)
   | (with_reducible refine LeO.ite ?_ ?_)
   | (with_reducible refine LeO.bind ?_ (fun _ => ?_))
   | exact ih0 ..
   | exact ih1 ..
   | exact ih2 _
   | exact impl_EntryWord.mono ..
   | exact impl_NumText.mono ..
   | exact impl_RecWord.mono ..
   | exact LeO.none _
   | refine LeO.ite ?_ ?_
   | refine LeO.bind ?_ (fun _ => ?_)
theorem impl_inodeText.mono : ∀ a0 a1 a2 a3 a4 a5 k, LeO (impl_inodeText.f k a0 a1 a2 a3 a4 a5) (impl_inodeText.f (k + 1) a0 a1 a2 a3 a4 a5) := by
 intro a0 a1 a2 a3 a4 a5 k
 obtain ⟨ih0, ih1, ih2⟩ := impl_inodeText.mono_l k
 unfold impl_inodeText.f
 repeat' first
   | (with_reducible exact ih0 ..)
   | (with_reducible exact ih1 ..)
   | (with_reducible exact ih2 _)
   | (with_reducible exact impl_EntryWord.mono ..)
   | (with_reducible exact impl_NumText.mono ..)
   | (with_reducible exact impl_RecWord.mono ..)
   | (with_reducible exact LeO.refl _)
   | (with_reducible exact LeO.none _)
   | (with_reducible refine LeO.ite ?_ ?_)
   | (with_reducible refine LeO.bind ?_ (fun _ => ?_))
   | exact ih0 ..
   | exact ih1 ..
   | exact ih2 _
   | exact impl_EntryWord.mono ..
   | exact impl_NumText.mono ..
   | exact impl_RecWord.mono ..
   | exact LeO.none _
   | refine LeO.ite ?_ ?_
   | refine LeO.bind ?_ (fun _ => ?_)
def impl_inodeText.T1 : Bool × List (List Nat × List Nat) := (true, [([], []), ([0], [0]), ([1], [1]), ([], []), ([3], [3]), ([4, 2], [4]), ([2, 5], [2, 5]), ([], []), ([7], [7]), ([8, 5], [8]), ([6, 9], [6, 9]), ([10, 9], [10]), ([], []), ([12], [12]), ([13, 11], [13]), ([11, 14], [11, 14]), ([15, 14, 0, 1, 2, 3, 4, 5, 6, 7, 8, 9, 10, 11, 12, 13, 14, 15], [15])])
def impl_inodeText.B1 : List Nat := [0, 1, 3, 0, 8, 31, 63, 0, 128, 447, 1023, 2047, 0, 4096, 16383, 32767, 65535]
theorem impl_inodeText.tab1 : rtab .any (opsOf Try.f154 1) = impl_inodeText.T1 := by kernel_rfl
theorem impl_inodeText.bits1 : waitsOk impl_inodeText.T1.2 impl_inodeText.B1 = true := by kernel_rfl
set_option maxHeartbeats 8000000 in
set_option maxRecDepth 100000 in
theorem impl_inodeText.calls (k : Nat) (a0_0 : Int) (a0_1 : Int) (a0_2 : Int) (a0_3 : ByteArray) (A0_4 : Option Addr) (c0_4 : Nat) (l0_4 : List (S170)) (A0_5 : Option Addr) (c0_5 : Nat) (l0_5 : List (S59)) (r : List ByteArray) (w : World) (hr0_4 : Kd.C k170 w A0_4 l0_4.length l0_4) (hc0_4 : l0_4.length ≤ c0_4) (hr0_5 : Kd.C k59 w A0_5 l0_5.length l0_5) (hc0_5 : l0_5.length ≤ c0_5) (h : impl_inodeText.f k a0_0 a0_1 a0_2 a0_3 l0_4 l0_5 = some r) :
  Calls Try.prog 154 #[.agg #[.int .i64 a0_0, .int .i64 a0_1, .int .i64 a0_2, .string a0_3, .slice A0_4 l0_4.length c0_4, .slice A0_5 l0_5.length c0_5]] w fun e w' => ∃ v0_ : Value, e = .returned (v0_) ∧ Kd.R Kd.string 9 w' w.heap.size (fun _ => True) v0_ r ∧ Below w.heap.size w w' := by
 have hu49 := Try.underlying49
 have hu170 := Try.underlying170
 have hu59 := Try.underlying59
 have HR0_4 := Aside0.mk hr0_4
 have HC0_4 := Aside0.mk hc0_4
 clear hr0_4 hc0_4
 have HR0_5 := Aside0.mk hr0_5
 have HC0_5 := Aside0.mk hc0_5
 clear hr0_5 hc0_5
 have HB := Aside0.mk (Below.refl w.heap.size w)
 have H : ((impl_NumText.f k a0_0 1).bind fun t275 => ((impl_NumText.f k a0_1 2).bind fun t276 => (if t275.size + t276.size ≤ 9223372036854775807 then ((impl_NumText.f k a0_2 2).bind fun t277 => (if (t275 ++ t276).size + t277.size ≤ 9223372036854775807 then ((impl_WordText.f ((t275 ++ t276) ++ t277)).bind fun t278 => ((impl_WordText.f a0_3).bind fun t279 => (impl_inodeText.l0 k (([t278, t279] : List ByteArray)) l0_4 (l0_4.length : Int) 0 a0_0 a0_1 a0_2 a0_3 l0_4 l0_5))) else (none))) else (none)))) = some r := h
 clear h
 replace H := Option.bind_eq_some_iff.mp H
 obtain ⟨t275, A20, H⟩ := H
 replace H : ((impl_NumText.f k a0_1 2).bind fun t276 => (if t275.size + t276.size ≤ 9223372036854775807 then ((impl_NumText.f k a0_2 2).bind fun t277 => (if (t275 ++ t276).size + t277.size ≤ 9223372036854775807 then ((impl_WordText.f ((t275 ++ t276) ++ t277)).bind fun t278 => ((impl_WordText.f a0_3).bind fun t279 => (impl_inodeText.l0 k (([t278, t279] : List ByteArray)) l0_4 (l0_4.length : Int) 0 a0_0 a0_1 a0_2 a0_3 l0_4 l0_5))) else (none))) else (none))) = some r := H
 have A2 := Aside0.mk A20
 clear A20
 replace H := Option.bind_eq_some_iff.mp H
 obtain ⟨t276, A30, H⟩ := H
 replace H : (if t275.size + t276.size ≤ 9223372036854775807 then ((impl_NumText.f k a0_2 2).bind fun t277 => (if (t275 ++ t276).size + t277.size ≤ 9223372036854775807 then ((impl_WordText.f ((t275 ++ t276) ++ t277)).bind fun t278 => ((impl_WordText.f a0_3).bind fun t279 => (impl_inodeText.l0 k (([t278, t279] : List ByteArray)) l0_4 (l0_4.length : Int) 0 a0_0 a0_1 a0_2 a0_3 l0_4 l0_5))) else (none))) else (none)) = some r := H
 have A3 := Aside0.mk A30
 clear A30
 by_cases c4 : t275.size + t276.size ≤ 9223372036854775807
 ·rw [if_pos c4] at H
  have c4b0 := eq_true c4
  have c4b1 : decide (t275.size + t276.size ≤ 9223372036854775807) = true := decide_eq_true c4
  try have c4b2 : (9223372036854775807 < t275.size + t276.size) = False := eq_false (Nat.not_lt.2 c4)
  replace H := Option.bind_eq_some_iff.mp H
  obtain ⟨t277, A50, H⟩ := H
  replace H : (if (t275 ++ t276).size + t277.size ≤ 9223372036854775807 then ((impl_WordText.f ((t275 ++ t276) ++ t277)).bind fun t278 => ((impl_WordText.f a0_3).bind fun t279 => (impl_inodeText.l0 k (([t278, t279] : List ByteArray)) l0_4 (l0_4.length : Int) 0 a0_0 a0_1 a0_2 a0_3 l0_4 l0_5))) else (none)) = some r := H
  have A5 := Aside0.mk A50
  clear A50
  by_cases c6 : (t275 ++ t276).size + t277.size ≤ 9223372036854775807
  ·rw [if_pos c6] at H
   have c6b0 := eq_true c6
   have c6b1 : decide ((t275 ++ t276).size + t277.size ≤ 9223372036854775807) = true := decide_eq_true c6
   try have c6b2 : (9223372036854775807 < (t275 ++ t276).size + t277.size) = False := eq_false (Nat.not_lt.2 c6)
   try have c6b2s : (9223372036854775807 < t275.size + t276.size + t277.size) = False := by rw [← ByteArray.size_append]; exact c6b2
   replace H := Option.bind_eq_some_iff.mp H
   obtain ⟨t278, A70, H⟩ := H
   replace H : ((impl_WordText.f a0_3).bind fun t279 => (impl_inodeText.l0 k (([t278, t279] : List ByteArray)) l0_4 (l0_4.length : Int) 0 a0_0 a0_1 a0_2 a0_3 l0_4 l0_5)) = some r := H
   have A7 := Aside0.mk A70
   clear A70
   replace H := Option.bind_eq_some_iff.mp H
   obtain ⟨t279, A80, H⟩ := H
   replace H : (impl_inodeText.l0 k (([t278, t279] : List ByteArray)) l0_4 (l0_4.length : Int) 0 a0_0 a0_1 a0_2 a0_3 l0_4 l0_5) = some r := H
   have A8 := Aside0.mk A80
   clear A80
   obtain ⟨y280, hy280⟩ : ∃ y_ : List ByteArray, y_ = (([t278, t279] : List ByteArray)) := ⟨_, rfl⟩
   replace H : (impl_inodeText.l0 k y280 l0_4 (l0_4.length : Int) 0 a0_0 a0_1 a0_2 a0_3 l0_4 l0_5) = some r := by first | (rw [hy280]; with_reducible exact H) | (have H2_ := (Option.bind_some _ _).symm.trans H; rw [hy280]; with_reducible exact H2_) | (have H2_ := (Option.bind_some _ _).symm.trans H; with_reducible exact H2_) | with_reducible exact H | (rw [hy280]; exact H) | exact H
   have Ny280 := Aside0.mk hy280
   clear hy280
   have H' := Aside0.mk H
   clear H
   go_enter Try.func154, Try.ntmps154
   try go_wp2_with (first | ((with_reducible refine gate_dst (N := 1) rfl ?_); refine box_event ?hg (N := 1) ?hd (cs := #[.int .i64 a0_0, .int .i64 a0_1, .int .i64 a0_2, .string a0_3, .slice A0_4 l0_4.length c0_4, .slice A0_5 l0_5.length c0_5]) (t := 49) ?hr ?_; (case hd => rfl); (case hg => rfl); (case hr => first | (go_simp; done) | (go_simp; rfl)); intro gb274 hg w9 hbox hb; have z_ := p_ (below_step tq_0 hb) <| p_ (hbox) <| p_ (gb_ hg tq_0) <| a_ (gb_ hg tq_0); clear HB; obtain ⟨HB, BK274, GW274, GE274⟩ := z_; clear hb hbox hg))
   have z_ := p_ (blk_drew BK274.out) <| a_ (below_drew1 HB.out)
   clear BK274 HB
   obtain ⟨BK274, HB⟩ := z_
   refine start_ (n := 17) (S := fun w' => w'.cell? ⟨gb274, 0, none⟩ = some (.int .i64 a0_0) ∧ w'.cell? ⟨gb274, 1, none⟩ = some (.int .i64 a0_1) ∧ w'.cell? ⟨gb274, 2, none⟩ = some (.int .i64 a0_2) ∧ w'.cell? ⟨gb274, 3, none⟩ = some (.string a0_3) ∧ w'.cell? ⟨gb274, 4, none⟩ = some (.slice A0_4 l0_4.length c0_4) ∧ w'.cell? ⟨gb274, 5, none⟩ = some (.slice A0_5 l0_5.length c0_5)) (ds := []) bq_122 (by kernel_rfl) rfl rfl (bk6_ BK274.out) (fun hHeld => ?_); refine with_tabW impl_inodeText.tab1 impl_inodeText.bits1 (fun HT_ HW_ => ?_)
   generalize w9.drew = w10 at BK274 HB hHeld ⊢
   refine yq_ (i := 0) (N := some 8) bq_123 (any_of HT_.out (by kernel_rfl)) ?_
   refine yq_ (i := 3) (N := some 11) bq_124 (any_of HT_.out (by kernel_rfl)) ?_
   refine yq_ (i := 7) (N := some 15) bq_125 (any_of HT_.out (by kernel_rfl)) ?_
   refine yq_ (i := 12) (N := some 20) bq_126 (any_of HT_.out (by kernel_rfl)) ?_
   refine tk_ (i := 1) (N := some 9) bq_127 (take_ofW HT_.out HW_.out (by kernel_rfl)) hHeld ?_
   refine tk_ (i := 4) (N := some 12) bq_128 (take_ofW HT_.out HW_.out (by kernel_rfl)) hHeld ?_
   refine tk_ (i := 8) (N := some 16) bq_129 (take_ofW HT_.out HW_.out (by kernel_rfl)) hHeld ?_
   refine tk_ (i := 13) (N := some 21) bq_130 (take_ofW HT_.out HW_.out (by kernel_rfl)) hHeld ?_
   refine one_ (i := 2) (N := some 10) bq_131 rfl rfl (one_of HT_.out (by kernel_rfl)) (by decide) (fun K hK => ?_)
   refine goes_ Try.func198 (by kernel_rfl) rfl #[.int .i64 a0_0, .int .i64 1] (by rfl) rfl rfl tq_1 ?_
   with_reducible refine (impl_NumText.calls k a0_0 1 t275 _ A2.out).mono ?_
   rintro e w11 ⟨rfl, hb⟩
   refine ⟨_, rfl, ?_⟩
   have z_ := p_ (blk_below tq_20 hb) <| a_ (below_step tq_13 hb)
   clear BK274 HB
   obtain ⟨BK274, HB⟩ := z_
   (try clear hb)
   (try clear hb2)
   (try clear hk)
   (try clear hi)
   refine hK.out _ _ (bk6_ BK274.out) (fun hHeld => ?_)
   clear hK K
   refine nm_ (some 10) ?_
   refine one_ (i := 5) (N := some 13) bq_132 rfl rfl (one_of HT_.out (by kernel_rfl)) (by decide) (fun K hK => ?_)
   refine goes_ Try.func198 (by kernel_rfl) rfl #[.int .i64 a0_1, .int .i64 2] (by rfl) rfl rfl tq_1 ?_
   with_reducible refine (impl_NumText.calls k a0_1 2 t276 _ A3.out).mono ?_
   rintro e w12 ⟨rfl, hb⟩
   refine ⟨_, rfl, ?_⟩
   have z_ := p_ (blk_below tq_20 hb) <| a_ (below_step tq_13 hb)
   clear BK274 HB
   obtain ⟨BK274, HB⟩ := z_
   (try clear hb)
   (try clear hb2)
   (try clear hk)
   (try clear hi)
   refine hK.out _ _ (bk6_ BK274.out) (fun hHeld => ?_)
   clear hK K
   refine nm_ (some 13) ?_
   refine yq_ (i := 6) (N := some 14) bq_133 (any_of HT_.out (by kernel_rfl)) ?_
   refine one_ (i := 9) (N := some 17) bq_134 rfl rfl (one_of HT_.out (by kernel_rfl)) (by decide) (fun K hK => ?_)
   refine goes_ Try.func198 (by kernel_rfl) rfl #[.int .i64 a0_2, .int .i64 2] (by rfl) rfl rfl tq_1 ?_
   with_reducible refine (impl_NumText.calls k a0_2 2 t277 _ A5.out).mono ?_
   rintro e w13 ⟨rfl, hb⟩
   refine ⟨_, rfl, ?_⟩
   have z_ := p_ (blk_below tq_20 hb) <| a_ (below_step tq_13 hb)
   clear BK274 HB
   obtain ⟨BK274, HB⟩ := z_
   (try clear hb)
   (try clear hb2)
   (try clear hk)
   (try clear hi)
   refine hK.out _ _ (bk6_ BK274.out) (fun hHeld => ?_)
   clear hK K
   refine nm_ (some 17) ?_
   refine yq_ (i := 10) (N := some 18) bq_135 (any_of HT_.out (by kernel_rfl)) ?_
   refine one_ (i := 11) (N := some 19) bq_136 rfl rfl (one_of HT_.out (by kernel_rfl)) (by decide) (fun K hK => ?_)
   refine goes_ Try.func197 (by kernel_rfl) rfl #[.string ((t275 ++ t276) ++ t277)] (by rfl) rfl rfl tq_1 ?_
   with_reducible refine (impl_WordText.calls ((t275 ++ t276) ++ t277) t278 _ A7.out).mono ?_
   rintro e w14 ⟨rfl, hb⟩
   refine ⟨_, rfl, ?_⟩
   have z_ := p_ (blk_below tq_20 hb) <| a_ (below_step tq_13 hb)
   clear BK274 HB
   obtain ⟨BK274, HB⟩ := z_
   (try clear hb)
   (try clear hb2)
   (try clear hk)
   (try clear hi)
   refine hK.out _ _ (bk6_ BK274.out) (fun hHeld => ?_)
   clear hK K
   refine nm_ (some 19) ?_
   refine one_ (i := 14) (N := some 22) bq_137 rfl rfl (one_of HT_.out (by kernel_rfl)) (by decide) (fun K hK => ?_)
   refine goes_ Try.func197 (by kernel_rfl) rfl #[.string a0_3] (by rfl) rfl rfl tq_1 ?_
   with_reducible refine (impl_WordText.calls a0_3 t279 _ A8.out).mono ?_
   rintro e w15 ⟨rfl, hb⟩
   refine ⟨_, rfl, ?_⟩
   have z_ := p_ (blk_below tq_20 hb) <| a_ (below_step tq_13 hb)
   clear BK274 HB
   obtain ⟨BK274, HB⟩ := z_
   (try clear hb)
   (try clear hb2)
   (try clear hk)
   (try clear hi)
   refine hK.out _ _ (bk6_ BK274.out) (fun hHeld => ?_)
   clear hK K
   refine nm_ (some 22) ?_
   refine one_ (i := 15) (N := some 23) bq_138 rfl rfl (one_of HT_.out (by kernel_rfl)) (by decide) (fun K hK => ?_)
   refine Kd.R_lit_step Kd.string _ 9 ?hg (N := 23) ?hd (xs := ([t278, t279] : List ByteArray)) (inner := [.string t278, .string t279]) (ok := fun _ => True) (okp := fun _ => True) ?hr ?hp (fun _ hk => hk) trivial (Below.refl _ _) (Nat.le_refl _) (by simp) ?_; (case hd => rfl); (case hg => rfl); (case hr => first | (go_simp; done) | (go_simp; rfl)); (case hp => exact (Reps.one (show Kd.M Kd.string _ _ _ t278 [.string t278] from rfl) (Reps.one (show Kd.M Kd.string _ _ _ t279 [.string t279] from rfl) (Reps.none _ _))))
   intro v281 w16 ho17 hb hg_ hnew_
   clear hg_ hnew_
   (first | rw [← Ny280.out] at ho17 | (simp only [Int.reduceToNat] at ho17; rw [← Ny280.out] at ho17))
   have z_ := p_ (Kd.R_lower ho17 (below_size tq_13)) <| p_ (blk_below tq_20 hb) <| a_ (below_step tq_13 hb)
   clear BK274 HB
   obtain ⟨HO282, BK274, HB⟩ := z_
   clear hb ho17
   refine hK.out _ _ (bk6_ BK274.out) (fun hHeld => ?_)
   clear hK K
   refine nm_ (some 23) ?_
   refine yq_ (i := 16) (N := some 3) bq_139 (any_of HT_.out (by kernel_rfl)) ?_
   refine done_ (done_of HT_.out (by kernel_rfl)) ?_
   have hcz18_0 := bc_ BK274.out 0
   have hcz18_1 := bc_ BK274.out 1
   have hcz18_2 := bc_ BK274.out 2
   have hcz18_3 := bc_ BK274.out 3
   have hcz18_4 := bc_ BK274.out 4
   have hcz18_5 := bc_ BK274.out 5
   have hfz18_0 := blk_frozen BK274.out 0
   have hfz18_1 := blk_frozen BK274.out 1
   have hfz18_2 := blk_frozen BK274.out 2
   have hfz18_3 := blk_frozen BK274.out 3
   have hfz18_4 := blk_frozen BK274.out 4
   have hfz18_5 := blk_frozen BK274.out 5
   try go_wp2
   go_loopg [3, 27] k (fun kq v3 v27 w' => ∃ (x3_1 : List ByteArray) (x27_1 : Int), v27 = .int .i64 x27_1 ∧ Aside0 (impl_inodeText.l0 kq x3_1 l0_4 (l0_4.length : Int) x27_1 a0_0 a0_1 a0_2 a0_3 l0_4 l0_5 = some r) ∧ Aside0 (kq ≤ k) ∧ Aside0 (Kd.R Kd.string 9 w' w.heap.size (fun _ => True) v3 x3_1) ∧ Aside0 (w'.heap[gb274]? = some (.cells #[.int .i64 a0_0, .int .i64 a0_1, .int .i64 a0_2, .string a0_3, (.slice A0_4 l0_4.length c0_4), (.slice A0_5 l0_5.length c0_5)] 49 (0, 0))) ∧ Aside0 (Below w.heap.size w w'))
   case atStart => exact ⟨(y280), (0), tq_8, H', ⟨Nat.le_refl _⟩, ⟨(by (with_reducible repeat (first | apply Kd.R_alloc | apply Kd.R_drewN | apply Kd.R_drew)); exact HO282.out)⟩, ⟨tq_20⟩, ⟨tq_13⟩⟩
   case round =>
    clear H'
    try clear c1
    try clear p2
    try clear c4
    try clear c4b0
    try clear c4b1
    try clear c4b2
    try clear c6
    try clear c6b0
    try clear c6b1
    try clear c6b2
    try clear c15
    try clear hcz18_0 hcz18_1 hcz18_2 hcz18_3 hcz18_4 hcz18_5 hfz18_0 hfz18_1 hfz18_2 hfz18_3 hfz18_4 hfz18_5
    obtain ⟨x3_1, x27_1, rfl, HA, HK1, HO_3, BK274, HB⟩ := hrel
    cases gk with
    | zero => exact absurd HA.out (by simp [impl_inodeText.l0])
    | succ k1 =>
     have H := HA.out
     clear HA
     simp only [impl_inodeText.l0] at H
     by_cases c19 : x27_1 < (l0_4.length : Int)
     ·rw [if_pos c19] at H
      have c19b0 : decide (x27_1 < (l0_4.length : Int)) = true := decide_eq_true c19
      clear c19
      by_cases c20 : 0 ≤ x27_1
      ·rw [if_pos c20] at H
       have c20b0 : decide (0 ≤ x27_1) = true := decide_eq_true c20
       clear c20
       by_cases c21 : x27_1 < (l0_4.length : Int)
       ·rw [if_pos c21] at H
        have c21b0 : decide (x27_1 < (l0_4.length : Int)) = true := decide_eq_true c21
        clear c21
        replace H := Option.bind_eq_some_iff.mp H
        obtain ⟨t285, A220, H⟩ := H
        replace H : (if x3_1.length < 8796093022208 then (impl_inodeText.l0 k1 (x3_1 ++ [t285]) l0_4 (l0_4.length : Int) (wrap64 (x27_1 + 1)) a0_0 a0_1 a0_2 a0_3 l0_4 l0_5) else (none)) = some r := H
        have A22 := Aside0.mk A220
        clear A220
        by_cases c23 : x3_1.length < 8796093022208
        ·rw [if_pos c23] at H
         have LMc23 := Aside0.mk c23
         clear c23
         obtain ⟨y286, hy286⟩ : ∃ y_ : List ByteArray, y_ = (x3_1 ++ [t285]) := ⟨_, rfl⟩
         replace H : (impl_inodeText.l0 k1 y286 l0_4 (l0_4.length : Int) (wrap64 (x27_1 + 1)) a0_0 a0_1 a0_2 a0_3 l0_4 l0_5) = some r := by first | (rw [hy286]; with_reducible exact H) | (have H2_ := (Option.bind_some _ _).symm.trans H; rw [hy286]; with_reducible exact H2_) | (have H2_ := (Option.bind_some _ _).symm.trans H; with_reducible exact H2_) | with_reducible exact H | (rw [hy286]; exact H) | exact H
         have Ny286 := Aside0.mk hy286
         clear hy286
         have H' := Aside0.mk H
         clear H
         have p283 : 0 ≤ (x27_1 : Int) := of_decide_eq_true tq_3
         have q283 : x27_1 < (l0_4.length : Int) := of_decide_eq_true tq_3
         obtain ⟨ad283, e283, hx283_0, hx283_1, hx283_2⟩ := at_T170 HR0_4.out x27_1 p283 q283
         cases e283
         replace hx283_0 := hx_ HB.out hx283_0
         replace hx283_1 := hx_ HB.out hx283_1
         replace hx283_2 := hx_ HB.out hx283_2
         replace p283 := eq_true p283
         replace q283 := eq_true q283
         go_wp2_with (first | ((with_reducible refine gate_dst (N := 5) rfl ?_); refine box_event ?hg (N := 5) ?hd (cs := #[.int .i64 0, .int .i64 0, .string (⟨#[]⟩ : ByteArray)]) (t := 170) ?hr ?_; (case hd => rfl); (case hg => rfl); (case hr => first | (go_simp; done) | (go_simp; rfl)); intro gb284 hg w24 hbox hb; have z_ := p_ (Kd.R_below tq_17 hb) <| p_ (blk_below tq_20 hb) <| p_ (below_step tq_13 hb) <| p_ (hbox) <| p_ (gb_ hg tq_13) <| p_ (gb_ hg tq_13) <| p_ (ltne_ hg (blk_lt tq_20)) <| a_ (gtne_ hg (blk_lt tq_20)); clear HO_3 BK274 HB; obtain ⟨HO_3, BK274, HB, BK284, GW284, GE284, NB274_284, NB284_274⟩ := z_; clear hb hbox hg; have hnb25 := NB284_274.out; have hnc25 := NB274_284.out; have hcz26_0 := bc_ BK284.out 0; have hcz26_1 := bc_ BK284.out 1; have hcz26_2 := bc_ BK284.out 2; have hfz26_0 := blk_frozen BK284.out 0; have hfz26_1 := blk_frozen BK284.out 1; have hfz26_2 := blk_frozen BK284.out 2) | ((with_reducible refine gate_callee (f := 199) rfl ?_); refine goesL_ (some 33) rfl rfl Try.func199 (by kernel_rfl) rfl #[.agg #[.int .i64 ((rd_T170 l0_4 x27_1).f0), .int .i64 ((rd_T170 l0_4 x27_1).f1), .string ((rd_T170 l0_4 x27_1).f2)]] rfl tq_1 ?_; (with_reducible refine (impl_RecWord.calls k1 ((rd_T170 l0_4 x27_1).f0) ((rd_T170 l0_4 x27_1).f1) ((rd_T170 l0_4 x27_1).f2) t285 _ A22.out).mono ?_); rintro e w27 ⟨rfl, hb⟩; refine ⟨_, rfl, ?_⟩; have z_ := p_ (Kd.R_below (by (with_reducible repeat (first | apply Kd.R_alloc | apply Kd.R_drewN | apply Kd.R_drew)); exact (Kd.R_mono (Kd.R_far (p := ⟨gb284, 2, none⟩) (Kd.R_far (p := ⟨gb284, 1, none⟩) (Kd.R_far (p := ⟨gb284, 0, none⟩) (Kd.R_types HO_3.out BK284.out (by decide)) (fun _ hk => hk.2) (.int .i64 ((rd_T170 l0_4 x27_1).f0))) (fun _ hk => hk.2) (.int .i64 ((rd_T170 l0_4 x27_1).f1))) (fun _ hk => hk.2) (.string ((rd_T170 l0_4 x27_1).f2))) (fun _ h_ => h_.1))) hb) <| p_ (blk_below (g := gb274) (o := .cells #[.int .i64 a0_0, .int .i64 a0_1, .int .i64 a0_2, .string a0_3, .slice (some ad283) l0_4.length c0_4, .slice A0_5 l0_5.length c0_5] 49 (0, 0)) (by (with_reducible repeat (first | refine blk_drewN ?_ _ | refine blk_drew ?_ | refine blk_alloc ?_ _)); refine blk_far ?_ NB274_284.out _; (with_reducible repeat (first | refine blk_drewN ?_ _ | refine blk_drew ?_ | refine blk_alloc ?_ _)); refine blk_far ?_ NB274_284.out _; (with_reducible repeat (first | refine blk_drewN ?_ _ | refine blk_drew ?_ | refine blk_alloc ?_ _)); refine blk_far ?_ NB274_284.out _; (with_reducible repeat (first | refine blk_drewN ?_ _ | refine blk_drew ?_ | refine blk_alloc ?_ _)); exact BK274.out) hb) <| p_ (blk_below (g := gb284) (o := .cells #[.int .i64 ((rd_T170 l0_4 x27_1).f0), .int .i64 ((rd_T170 l0_4 x27_1).f1), .string ((rd_T170 l0_4 x27_1).f2)] 170 (0, 0)) (by (with_reducible repeat (first | refine blk_drewN ?_ _ | refine blk_drew ?_ | refine blk_alloc ?_ _)); refine blk_put (cs := #[.int .i64 ((rd_T170 l0_4 x27_1).f0), .int .i64 ((rd_T170 l0_4 x27_1).f1), .string (⟨#[]⟩ : ByteArray)]) ?_ 2 _ rfl; (with_reducible repeat (first | refine blk_drewN ?_ _ | refine blk_drew ?_ | refine blk_alloc ?_ _)); refine blk_put (cs := #[.int .i64 ((rd_T170 l0_4 x27_1).f0), .int .i64 0, .string (⟨#[]⟩ : ByteArray)]) ?_ 1 _ rfl; (with_reducible repeat (first | refine blk_drewN ?_ _ | refine blk_drew ?_ | refine blk_alloc ?_ _)); refine blk_put (cs := #[.int .i64 0, .int .i64 0, .string (⟨#[]⟩ : ByteArray)]) ?_ 0 _ rfl; (with_reducible repeat (first | refine blk_drewN ?_ _ | refine blk_drew ?_ | refine blk_alloc ?_ _)); exact BK284.out) hb) <| a_ (below_step tq_57 hb); clear HO_3 BK274 BK284 HB; obtain ⟨HO_3, BK274, BK284, HB⟩ := z_; (try clear hb); (try clear hb2); (try clear hk); (try clear hi)) | ((with_reducible refine gate_builtin (b := .append) (xs := #[.tmp 31, .tmp 34]) rfl ?_); at_builtin; refine Kd.R_append Kd.string (w0 := w) w.heap.size rfl (.tmp 31) (.tmp 34) 96 9 (.string ⟨#[]⟩) 16 rfl Try.underlying96 info9 rfl (by decide) (by omega) u3 x3_1 t285 [.string t285] (fun _ => True) (fun _ => False) rfl rfl ?aP (fun _ hk => hk.elim) ?aF ?aO ?aB ?aS ?aL ?_; (case aP => exact rfl); (case aB => exact tq_57); (case aF => exact (fun _ _ => trivial)); (case aO => exact tq_17); (case aS => exact (below_size tq_57)); (case aL => have := LMc23.out; omega); intro v287 w28 ho hb hg hat; rw [← Ny286.out] at ho; have z_ := p_ (blk_grown (g := gb274) (o := .cells #[.int .i64 a0_0, .int .i64 a0_1, .int .i64 a0_2, .string a0_3, .slice (some ad283) l0_4.length c0_4, .slice A0_5 l0_5.length c0_5] 49 (0, 0)) tq_20 hg (Kd.R_ne HO_3.out BK274.out (by decide))) <| p_ (blk_grown (g := gb284) (o := .cells #[.int .i64 ((rd_T170 l0_4 x27_1).f0), .int .i64 ((rd_T170 l0_4 x27_1).f1), .string ((rd_T170 l0_4 x27_1).f2)] 170 (0, 0)) (by (with_reducible repeat (first | refine blk_drewN ?_ _ | refine blk_drew ?_ | refine blk_alloc ?_ _)); exact BK284.out) hg (Kd.R_ne HO_3.out BK284.out (by decide))) <| p_ (hb) <| a_ (ho); clear BK274 BK284 HB HO_3; obtain ⟨BK274, BK284, HB, HO288⟩ := z_; clear ho hb hg hat))
         go_roundg k1
         case measure => have := HK1.out; omega
         case rel => exact ⟨(y286), (wrap64 (x27_1 + 1)), tq_8, H', ⟨tq_67⟩, ⟨(by (with_reducible repeat (first | apply Kd.R_alloc | apply Kd.R_drewN | apply Kd.R_drew)); exact HO288.out)⟩, ⟨tq_20⟩, ⟨tq_57⟩⟩
        ·rw [if_neg c23] at H
         exact absurd H (by simp)
       ·rw [if_neg c21] at H
        exact absurd H (by simp)
      ·rw [if_neg c20] at H
       exact absurd H (by simp)
     ·rw [if_neg c19] at H
      have c19b0 : decide (x27_1 < (l0_4.length : Int)) = false := decide_eq_false c19
      clear c19
      have H' := Aside0.mk H
      clear H
      have hcz29_0 := bc_ BK274.out 0
      have hcz29_1 := bc_ BK274.out 1
      have hcz29_2 := bc_ BK274.out 2
      have hcz29_3 := bc_ BK274.out 3
      have hcz29_4 := bc_ BK274.out 4
      have hcz29_5 := bc_ BK274.out 5
      have hfz29_0 := blk_frozen BK274.out 0
      have hfz29_1 := blk_frozen BK274.out 1
      have hfz29_2 := blk_frozen BK274.out 2
      have hfz29_3 := blk_frozen BK274.out 3
      have hfz29_4 := blk_frozen BK274.out 4
      have hfz29_5 := blk_frozen BK274.out 5
      go_wp2
      go_loopg [3, 40] k1 (fun kq v3 v40 w' => ∃ (x3_2 : List ByteArray) (x40_2 : Int), v40 = .int .i64 x40_2 ∧ Aside0 (impl_inodeText.l1 kq x3_2 l0_5 (l0_5.length : Int) x40_2 = some r) ∧ Aside0 (kq ≤ k1) ∧ Aside0 (Kd.R Kd.string 9 w' w.heap.size (fun _ => True) v3 x3_2) ∧ Aside0 (w'.heap[gb274]? = some (.cells #[.int .i64 a0_0, .int .i64 a0_1, .int .i64 a0_2, .string a0_3, (.slice A0_4 l0_4.length c0_4), (.slice A0_5 l0_5.length c0_5)] 49 (0, 0))) ∧ Aside0 (Below w.heap.size w w'))
      case atStart => exact ⟨(x3_1), (0), tq_8, H', ⟨Nat.le_refl _⟩, ⟨tq_17⟩, ⟨tq_20⟩, ⟨tq_13⟩⟩
      case round =>
       clear H'
       try clear c1
       try clear c2
       try clear p2
       try clear q2
       try clear hx2
       try clear c4
       try clear c4b0
       try clear c4b1
       try clear c4b2
       try clear c6
       try clear c6b0
       try clear c6b1
       try clear c6b2
       try clear p6
       try clear c15
       try clear c19
       try clear c19b0
       try clear c20
       try clear c20b0
       try clear c21
       try clear c21b0
       try clear c23
       try clear c25
       try clear p28
       try clear q28
       try clear hx28
       try clear hcz18_0 hcz18_1 hcz18_2 hcz18_3 hcz18_4 hcz18_5
       try clear hcz26_0 hcz26_1 hcz26_2
       try clear hcz29_0 hcz29_1 hcz29_2 hcz29_3 hcz29_4 hcz29_5
       try clear hfz18_0 hfz18_1 hfz18_2 hfz18_3 hfz18_4 hfz18_5
       try clear hfz26_0 hfz26_1 hfz26_2
       try clear hfz29_0 hfz29_1 hfz29_2 hfz29_3 hfz29_4 hfz29_5
       try clear hx283_0
       try clear hx283_1
       try clear hx283_2
       try clear p2
       try clear p283
       try clear q283
       obtain ⟨x3_2, x40_2, rfl, HA, HK2, HO_3, BK274, HB⟩ := hrel
       cases gk with
       | zero => exact absurd HA.out (by simp [impl_inodeText.l1])
       | succ k2 =>
        have H := HA.out
        clear HA
        simp only [impl_inodeText.l1] at H
        by_cases c30 : x40_2 < (l0_5.length : Int)
        ·rw [if_pos c30] at H
         have c30b0 : decide (x40_2 < (l0_5.length : Int)) = true := decide_eq_true c30
         clear c30
         by_cases c31 : 0 ≤ x40_2
         ·rw [if_pos c31] at H
          have c31b0 : decide (0 ≤ x40_2) = true := decide_eq_true c31
          clear c31
          by_cases c32 : x40_2 < (l0_5.length : Int)
          ·rw [if_pos c32] at H
           have c32b0 : decide (x40_2 < (l0_5.length : Int)) = true := decide_eq_true c32
           clear c32
           replace H := Option.bind_eq_some_iff.mp H
           obtain ⟨t291, A330, H⟩ := H
           replace H : (if x3_2.length < 8796093022208 then (impl_inodeText.l1 k2 (x3_2 ++ [t291]) l0_5 (l0_5.length : Int) (wrap64 (x40_2 + 1))) else (none)) = some r := H
           have A33 := Aside0.mk A330
           clear A330
           by_cases c34 : x3_2.length < 8796093022208
           ·rw [if_pos c34] at H
            have LMc34 := Aside0.mk c34
            clear c34
            obtain ⟨y292, hy292⟩ : ∃ y_ : List ByteArray, y_ = (x3_2 ++ [t291]) := ⟨_, rfl⟩
            replace H : (impl_inodeText.l1 k2 y292 l0_5 (l0_5.length : Int) (wrap64 (x40_2 + 1))) = some r := by first | (rw [hy292]; with_reducible exact H) | (have H2_ := (Option.bind_some _ _).symm.trans H; rw [hy292]; with_reducible exact H2_) | (have H2_ := (Option.bind_some _ _).symm.trans H; with_reducible exact H2_) | with_reducible exact H | (rw [hy292]; exact H) | exact H
            have Ny292 := Aside0.mk hy292
            clear hy292
            have H' := Aside0.mk H
            clear H
            have p289 : 0 ≤ (x40_2 : Int) := of_decide_eq_true tq_3
            have q289 : x40_2 < (l0_5.length : Int) := of_decide_eq_true tq_3
            obtain ⟨ad289, e289, hx289_0, hx289_1⟩ := at_T59 HR0_5.out x40_2 p289 q289
            cases e289
            replace hx289_0 := hx_ HB.out hx289_0
            replace hx289_1 := hx_ HB.out hx289_1
            replace p289 := eq_true p289
            replace q289 := eq_true q289
            go_wp2_with (first | ((with_reducible refine gate_dst (N := 7) rfl ?_); refine box_event ?hg (N := 7) ?hd (cs := #[.int .i64 0, .string (⟨#[]⟩ : ByteArray)]) (t := 59) ?hr ?_; (case hd => rfl); (case hg => rfl); (case hr => first | (go_simp; done) | (go_simp; rfl)); intro gb290 hg w35 hbox hb; have z_ := p_ (Kd.R_below tq_17 hb) <| p_ (blk_below tq_20 hb) <| p_ (below_step tq_13 hb) <| p_ (hbox) <| p_ (gb_ hg tq_13) <| p_ (gb_ hg tq_13) <| p_ (ltne_ hg (blk_lt tq_20)) <| a_ (gtne_ hg (blk_lt tq_20)); clear HO_3 BK274 HB; obtain ⟨HO_3, BK274, HB, BK290, GW290, GE290, NB274_290, NB290_274⟩ := z_; clear hb hbox hg; have hnb36 := NB290_274.out; have hnc36 := NB274_290.out; have hcz37_0 := bc_ BK290.out 0; have hcz37_1 := bc_ BK290.out 1; have hfz37_0 := blk_frozen BK290.out 0; have hfz37_1 := blk_frozen BK290.out 1) | ((with_reducible refine gate_callee (f := 200) rfl ?_); refine goesL_ (some 46) rfl rfl Try.func200 (by kernel_rfl) rfl #[.agg #[.int .i64 ((rd_T59 l0_5 x40_2).f0), .string ((rd_T59 l0_5 x40_2).f1)]] rfl tq_1 ?_; (with_reducible refine (impl_EntryWord.calls k2 ((rd_T59 l0_5 x40_2).f0) ((rd_T59 l0_5 x40_2).f1) t291 _ A33.out).mono ?_); rintro e w38 ⟨rfl, hb⟩; refine ⟨_, rfl, ?_⟩; have z_ := p_ (Kd.R_below (by (with_reducible repeat (first | apply Kd.R_alloc | apply Kd.R_drewN | apply Kd.R_drew)); exact (Kd.R_mono (Kd.R_far (p := ⟨gb290, 1, none⟩) (Kd.R_far (p := ⟨gb290, 0, none⟩) (Kd.R_types HO_3.out BK290.out (by decide)) (fun _ hk => hk.2) (.int .i64 ((rd_T59 l0_5 x40_2).f0))) (fun _ hk => hk.2) (.string ((rd_T59 l0_5 x40_2).f1))) (fun _ h_ => h_.1))) hb) <| p_ (blk_below (g := gb274) (o := .cells #[.int .i64 a0_0, .int .i64 a0_1, .int .i64 a0_2, .string a0_3, .slice A0_4 l0_4.length c0_4, .slice (some ad289) l0_5.length c0_5] 49 (0, 0)) (by (with_reducible repeat (first | refine blk_drewN ?_ _ | refine blk_drew ?_ | refine blk_alloc ?_ _)); refine blk_far ?_ NB274_290.out _; (with_reducible repeat (first | refine blk_drewN ?_ _ | refine blk_drew ?_ | refine blk_alloc ?_ _)); refine blk_far ?_ NB274_290.out _; (with_reducible repeat (first | refine blk_drewN ?_ _ | refine blk_drew ?_ | refine blk_alloc ?_ _)); exact BK274.out) hb) <| p_ (blk_below (g := gb290) (o := .cells #[.int .i64 ((rd_T59 l0_5 x40_2).f0), .string ((rd_T59 l0_5 x40_2).f1)] 59 (0, 0)) (by (with_reducible repeat (first | refine blk_drewN ?_ _ | refine blk_drew ?_ | refine blk_alloc ?_ _)); refine blk_put (cs := #[.int .i64 ((rd_T59 l0_5 x40_2).f0), .string (⟨#[]⟩ : ByteArray)]) ?_ 1 _ rfl; (with_reducible repeat (first | refine blk_drewN ?_ _ | refine blk_drew ?_ | refine blk_alloc ?_ _)); refine blk_put (cs := #[.int .i64 0, .string (⟨#[]⟩ : ByteArray)]) ?_ 0 _ rfl; (with_reducible repeat (first | refine blk_drewN ?_ _ | refine blk_drew ?_ | refine blk_alloc ?_ _)); exact BK290.out) hb) <| a_ (below_step tq_56 hb); clear HO_3 BK274 BK290 HB; obtain ⟨HO_3, BK274, BK290, HB⟩ := z_; (try clear hb); (try clear hb2); (try clear hk); (try clear hi)) | ((with_reducible refine gate_builtin (b := .append) (xs := #[.tmp 44, .tmp 47]) rfl ?_); at_builtin; refine Kd.R_append Kd.string (w0 := w) w.heap.size rfl (.tmp 44) (.tmp 47) 96 9 (.string ⟨#[]⟩) 16 rfl Try.underlying96 info9 rfl (by decide) (by omega) u3 x3_2 t291 [.string t291] (fun _ => True) (fun _ => False) rfl rfl ?aP (fun _ hk => hk.elim) ?aF ?aO ?aB ?aS ?aL ?_; (case aP => exact rfl); (case aB => exact tq_56); (case aF => exact (fun _ _ => trivial)); (case aO => exact tq_17); (case aS => exact (below_size tq_56)); (case aL => have := LMc34.out; omega); intro v293 w39 ho hb hg hat; rw [← Ny292.out] at ho; have z_ := p_ (blk_grown (g := gb274) (o := .cells #[.int .i64 a0_0, .int .i64 a0_1, .int .i64 a0_2, .string a0_3, .slice A0_4 l0_4.length c0_4, .slice (some ad289) l0_5.length c0_5] 49 (0, 0)) tq_20 hg (Kd.R_ne HO_3.out BK274.out (by decide))) <| p_ (blk_grown (g := gb290) (o := .cells #[.int .i64 ((rd_T59 l0_5 x40_2).f0), .string ((rd_T59 l0_5 x40_2).f1)] 59 (0, 0)) (by (with_reducible repeat (first | refine blk_drewN ?_ _ | refine blk_drew ?_ | refine blk_alloc ?_ _)); exact BK290.out) hg (Kd.R_ne HO_3.out BK290.out (by decide))) <| p_ (hb) <| a_ (ho); clear BK274 BK290 HB HO_3; obtain ⟨BK274, BK290, HB, HO294⟩ := z_; clear ho hb hg hat))
            go_roundg k2
            case measure => have := HK1.out; have := HK2.out; omega
            case rel => exact ⟨(y292), (wrap64 (x40_2 + 1)), tq_8, H', ⟨(by have := HK1.out; have := HK2.out; omega)⟩, ⟨(by (with_reducible repeat (first | apply Kd.R_alloc | apply Kd.R_drewN | apply Kd.R_drew)); exact HO294.out)⟩, ⟨tq_20⟩, ⟨tq_56⟩⟩
           ·rw [if_neg c34] at H
            exact absurd H (by simp)
          ·rw [if_neg c32] at H
           exact absurd H (by simp)
         ·rw [if_neg c31] at H
          exact absurd H (by simp)
        ·rw [if_neg c30] at H
         have c30b0 : decide (x40_2 < (l0_5.length : Int)) = false := decide_eq_false c30
         clear c30
         have H' := Aside0.mk H
         clear H
         go_wp2
         go_loopg [3] k2 (fun kq v3 w' => ∃ (x3_3 : List ByteArray), Aside0 (impl_inodeText.l2 kq x3_3 = some r) ∧ Aside0 (kq ≤ k2) ∧ Aside0 (Kd.R Kd.string 9 w' w.heap.size (fun _ => True) v3 x3_3) ∧ Aside0 (w'.heap[gb274]? = some (.cells #[.int .i64 a0_0, .int .i64 a0_1, .int .i64 a0_2, .string a0_3, (.slice A0_4 l0_4.length c0_4), (.slice A0_5 l0_5.length c0_5)] 49 (0, 0))) ∧ Aside0 (Below w.heap.size w w'))
         case atStart => exact ⟨(x3_2), H', ⟨Nat.le_refl _⟩, ⟨tq_17⟩, ⟨tq_20⟩, ⟨tq_13⟩⟩
         case round =>
          clear H'
          try clear c1
          try clear c2
          try clear p2
          try clear q2
          try clear hx2
          try clear c3
          try clear c4
          try clear c4b0
          try clear c4b1
          try clear c4b2
          try clear c6
          try clear c6b0
          try clear c6b1
          try clear c6b2
          try clear p6
          try clear c15
          try clear c19
          try clear c19b0
          try clear c20
          try clear c20b0
          try clear c21
          try clear c21b0
          try clear c23
          try clear c25
          try clear p28
          try clear q28
          try clear hx28
          try clear c30
          try clear c30b0
          try clear c31
          try clear c31b0
          try clear c32
          try clear c32b0
          try clear c34
          try clear c36
          try clear hcz18_0 hcz18_1 hcz18_2 hcz18_3 hcz18_4 hcz18_5
          try clear hcz26_0 hcz26_1 hcz26_2
          try clear hcz29_0 hcz29_1 hcz29_2 hcz29_3 hcz29_4 hcz29_5
          try clear hcz37_0 hcz37_1
          try clear hfz18_0 hfz18_1 hfz18_2 hfz18_3 hfz18_4 hfz18_5
          try clear hfz26_0 hfz26_1 hfz26_2
          try clear hfz29_0 hfz29_1 hfz29_2 hfz29_3 hfz29_4 hfz29_5
          try clear hfz37_0 hfz37_1
          try clear hx283_0
          try clear hx283_1
          try clear hx283_2
          try clear hx289_0
          try clear hx289_1
          try clear p2
          try clear p28
          try clear p283
          try clear p289
          try clear p6
          try clear q2
          try clear q28
          try clear q283
          try clear q289
          obtain ⟨x3_3, HA, HK3, HO_3, BK274, HB⟩ := hrel
          cases gk with
          | zero => exact absurd HA.out (by simp [impl_inodeText.l2])
          | succ k3 =>
           have H := HA.out
           clear HA
           simp only [impl_inodeText.l2] at H
           by_cases c40 : (x3_3.length : Int) < 8
           ·rw [if_pos c40] at H
            have c40b0 : decide ((x3_3.length : Int) < 8) = true := decide_eq_true c40
            have c40b1 : decide (x3_3.length < 8) = true := decide_eq_true (by omega)
            clear c40
            replace H := Option.bind_eq_some_iff.mp H
            obtain ⟨t295, A410, H⟩ := H
            replace H : (if x3_3.length < 8796093022208 then (impl_inodeText.l2 k3 (x3_3 ++ [t295])) else (none)) = some r := H
            have A41 := Aside0.mk A410
            clear A410
            by_cases c42 : x3_3.length < 8796093022208
            ·rw [if_pos c42] at H
             have LMc42 := Aside0.mk c42
             clear c42
             obtain ⟨y296, hy296⟩ : ∃ y_ : List ByteArray, y_ = (x3_3 ++ [t295]) := ⟨_, rfl⟩
             replace H : (impl_inodeText.l2 k3 y296) = some r := by first | (rw [hy296]; with_reducible exact H) | (have H2_ := (Option.bind_some _ _).symm.trans H; rw [hy296]; with_reducible exact H2_) | (have H2_ := (Option.bind_some _ _).symm.trans H; with_reducible exact H2_) | with_reducible exact H | (rw [hy296]; exact H) | exact H
             have Ny296 := Aside0.mk hy296
             clear hy296
             have H' := Aside0.mk H
             clear H
             obtain ⟨Ao43, co43, eo43⟩ := Kd.R_slice HO_3.out
             subst eo43
             go_wp2_with (first | ((with_reducible refine gate_callee (f := 201) rfl ?_); refine goesL_ (some 54) rfl rfl Try.func201 (by kernel_rfl) rfl #[] rfl tq_1 ?_; (with_reducible refine (impl_zeroWord.calls  t295 _ A41.out).mono ?_); rintro e w44 ⟨rfl, hb⟩; refine ⟨_, rfl, ?_⟩; have z_ := p_ (Kd.R_below tq_17 hb) <| p_ (blk_below tq_20 hb) <| a_ (below_step tq_13 hb); clear HO_3 BK274 HB; obtain ⟨HO_3, BK274, HB⟩ := z_; (try clear hb); (try clear hb2); (try clear hk); (try clear hi)) | ((with_reducible refine gate_builtin (b := .append) (xs := #[.tmp 53, .tmp 55]) rfl ?_); at_builtin; refine Kd.R_append Kd.string (w0 := w) w.heap.size rfl (.tmp 53) (.tmp 55) 96 9 (.string ⟨#[]⟩) 16 rfl Try.underlying96 info9 rfl (by decide) (by omega) (.slice Ao43 x3_3.length co43) x3_3 t295 [.string t295] (fun _ => True) (fun _ => False) rfl rfl ?aP (fun _ hk => hk.elim) ?aF ?aO ?aB ?aS ?aL ?_; (case aP => exact rfl); (case aB => exact tq_13); (case aF => exact (fun _ _ => trivial)); (case aO => exact tq_17); (case aS => exact (below_size tq_13)); (case aL => have := LMc42.out; omega); intro v297 w45 ho hb hg hat; rw [← Ny296.out] at ho; have z_ := p_ (blk_grown (g := gb274) (o := .cells #[.int .i64 a0_0, .int .i64 a0_1, .int .i64 a0_2, .string a0_3, .slice A0_4 l0_4.length c0_4, .slice A0_5 l0_5.length c0_5] 49 (0, 0)) tq_20 hg (Kd.R_ne HO_3.out BK274.out (by decide))) <| p_ (hb) <| a_ (ho); clear BK274 HB HO_3; obtain ⟨BK274, HB, HO298⟩ := z_; clear ho hb hg hat))
             go_roundg k3
             case measure => have := HK1.out; have := HK2.out; have := HK3.out; omega
             case rel => exact ⟨(y296), H', ⟨(by have := HK1.out; have := HK2.out; have := HK3.out; omega)⟩, ⟨(by (with_reducible repeat (first | apply Kd.R_alloc | apply Kd.R_drewN | apply Kd.R_drew)); exact HO298.out)⟩, ⟨tq_20⟩, ⟨tq_13⟩⟩
            ·rw [if_neg c42] at H
             exact absurd H (by simp)
           ·rw [if_neg c40] at H
            have c40b0 : decide ((x3_3.length : Int) < 8) = false := decide_eq_false c40
            have c40b1 : decide (x3_3.length < 8) = false := decide_eq_false (by omega)
            clear c40
            obtain rfl := Option.some.inj H
            obtain ⟨Ao46, co46, eo46⟩ := Kd.R_slice HO_3.out
            subst eo46
            go_wp2
            go_ret
            exact ⟨_, tq_2, tq_17, tq_13⟩
  ·rw [if_neg c6] at H
   exact absurd H (by simp)
 ·rw [if_neg c4] at H
  exact absurd H (by simp)

/-! ### impl_InodeWords: function 69 -/
def impl_InodeWords.f (k : Nat) (a0_0 : Int) (a0_1 : Int) (a0_2 : Int) (a0_3 : ByteArray) (l0_4 : List (S170)) (l0_5 : List (S59)) : Option (List ByteArray) := (impl_InodeOk.f k a0_0 a0_1 a0_2 a0_3 l0_4 l0_5).bind fun t300 => (if t300 = true then ((impl_inodeText.f k a0_0 a0_1 a0_2 a0_3 l0_4 l0_5).bind fun t301 => (some t301)) else (some ([] : List ByteArray)))
theorem impl_InodeWords.mono : ∀ a0 a1 a2 a3 a4 a5 k, LeO (impl_InodeWords.f k a0 a1 a2 a3 a4 a5) (impl_InodeWords.f (k + 1) a0 a1 a2 a3 a4 a5) := by
 intro a0 a1 a2 a3 a4 a5 k
 unfold impl_InodeWords.f
 repeat' first
   | (with_reducible exact impl_InodeOk.mono ..)
   | (with_reducible exact impl_inodeText.mono ..)
   | (with_reducible exact LeO.refl _)
   | (with_reducible exact LeO.none _)
   | (with_reducible refine LeO.ite ?_ ?_)
   | (with_reducible refine LeO.bind ?_ (fun _ => ?_))
   | exact impl_InodeOk.mono ..
   | exact impl_inodeText.mono ..
   | exact LeO.none _
   | refine LeO.ite ?_ ?_
   | refine LeO.bind ?_ (fun _ => ?_)
set_option maxHeartbeats 8000000 in
set_option maxRecDepth 100000 in
theorem impl_InodeWords.calls (k : Nat) (a0_0 : Int) (a0_1 : Int) (a0_2 : Int) (a0_3 : ByteArray) (A0_4 : Option Addr) (c0_4 : Nat) (l0_4 : List (S170)) (A0_5 : Option Addr) (c0_5 : Nat) (l0_5 : List (S59)) (r : List ByteArray) (w : World) (hr0_4 : Kd.C k170 w A0_4 l0_4.length l0_4) (hc0_4 : l0_4.length ≤ c0_4) (hr0_5 : Kd.C k59 w A0_5 l0_5.length l0_5) (hc0_5 : l0_5.length ≤ c0_5) (h : impl_InodeWords.f k a0_0 a0_1 a0_2 a0_3 l0_4 l0_5 = some r) :
  Calls Try.prog 69 #[.agg #[.int .i64 a0_0, .int .i64 a0_1, .int .i64 a0_2, .string a0_3, .slice A0_4 l0_4.length c0_4, .slice A0_5 l0_5.length c0_5]] w fun e w' => ∃ v0_ : Value, e = .returned (v0_) ∧ Kd.R Kd.string 9 w' w.heap.size (fun _ => True) v0_ r ∧ Below w.heap.size w w' := by
 have hu49 := Try.underlying49
 have HR0_4 := Aside0.mk hr0_4
 have HC0_4 := Aside0.mk hc0_4
 clear hr0_4 hc0_4
 have HR0_5 := Aside0.mk hr0_5
 have HC0_5 := Aside0.mk hc0_5
 clear hr0_5 hc0_5
 have HB := Aside0.mk (Below.refl w.heap.size w)
 have H : ((impl_InodeOk.f k a0_0 a0_1 a0_2 a0_3 l0_4 l0_5).bind fun t300 => (if t300 = true then ((impl_inodeText.f k a0_0 a0_1 a0_2 a0_3 l0_4 l0_5).bind fun t301 => (some t301)) else (some ([] : List ByteArray)))) = some r := h
 clear h
 replace H := Option.bind_eq_some_iff.mp H
 obtain ⟨t300, A20, H⟩ := H
 replace H : (if t300 = true then ((impl_inodeText.f k a0_0 a0_1 a0_2 a0_3 l0_4 l0_5).bind fun t301 => (some t301)) else (some ([] : List ByteArray))) = some r := H
 have A2 := Aside0.mk A20
 clear A20
 by_cases c3 : t300 = true
 ·subst c3
  have H1 : ((impl_inodeText.f k a0_0 a0_1 a0_2 a0_3 l0_4 l0_5).bind fun t301 => (some t301)) = some r := by rw [if_pos rfl] at H; exact H
  clear H
  have H := H1
  clear H1
  replace H := Option.bind_eq_some_iff.mp H
  obtain ⟨t301, A40, H⟩ := H
  replace H : (some t301) = some r := H
  have A4 := Aside0.mk A40
  clear A40
  obtain rfl := Option.some.inj H
  go_enter Try.func69, Try.ntmps69
  go_wp2_with (first | ((with_reducible refine gate_dst (N := 1) rfl ?_); refine box_event ?hg (N := 1) ?hd (cs := #[.int .i64 a0_0, .int .i64 a0_1, .int .i64 a0_2, .string a0_3, .slice A0_4 l0_4.length c0_4, .slice A0_5 l0_5.length c0_5]) (t := 49) ?hr ?_; (case hd => rfl); (case hg => rfl); (case hr => first | (go_simp; done) | (go_simp; rfl)); intro gb299 hg w5 hbox hb; have z_ := p_ (below_step tq_0 hb) <| p_ (hbox) <| p_ (gb_ hg tq_0) <| a_ (gb_ hg tq_0); clear HB; obtain ⟨HB, BK299, GW299, GE299⟩ := z_; clear hb hbox hg; have hcz6_0 := bc_ BK299.out 0; have hcz6_1 := bc_ BK299.out 1; have hcz6_2 := bc_ BK299.out 2; have hcz6_3 := bc_ BK299.out 3; have hcz6_4 := bc_ BK299.out 4; have hcz6_5 := bc_ BK299.out 5; have hfz6_0 := blk_frozen BK299.out 0; have hfz6_1 := blk_frozen BK299.out 1; have hfz6_2 := blk_frozen BK299.out 2; have hfz6_3 := blk_frozen BK299.out 3; have hfz6_4 := blk_frozen BK299.out 4; have hfz6_5 := blk_frozen BK299.out 5) | ((with_reducible refine gate_callee (f := 153) rfl ?_); refine goesL_ (some 4) rfl rfl Try.func153 (by kernel_rfl) rfl #[.agg #[.int .i64 a0_0, .int .i64 a0_1, .int .i64 a0_2, .string a0_3, .slice A0_4 l0_4.length c0_4, .slice A0_5 l0_5.length c0_5]] rfl tq_1 ?_; (with_reducible refine (impl_InodeOk.calls k a0_0 a0_1 a0_2 a0_3 _ _ l0_4 _ _ l0_5 true _ ?side1 ?side2 ?side3 ?side4 A2.out).mono ?_); (case side1 => exact tq_18); (case side2 => exact HC0_4.out); (case side3 => exact tq_26); (case side4 => exact HC0_5.out); rintro e w7 ⟨rfl, hb⟩; refine ⟨_, rfl, ?_⟩; have z_ := p_ (blk_below tq_82 hb) <| a_ (below_step tq_47 hb); clear BK299 HB; obtain ⟨BK299, HB⟩ := z_; (try clear hb); (try clear hb2); (try clear hk); (try clear hi); have hcz8_0 := bc_ BK299.out 0; have hcz8_1 := bc_ BK299.out 1; have hcz8_2 := bc_ BK299.out 2; have hcz8_3 := bc_ BK299.out 3; have hcz8_4 := bc_ BK299.out 4; have hcz8_5 := bc_ BK299.out 5; have hfz8_0 := blk_frozen BK299.out 0; have hfz8_1 := blk_frozen BK299.out 1; have hfz8_2 := blk_frozen BK299.out 2; have hfz8_3 := blk_frozen BK299.out 3; have hfz8_4 := blk_frozen BK299.out 4; have hfz8_5 := blk_frozen BK299.out 5) | ((with_reducible refine gate_callee (f := 154) rfl ?_); refine goesL_ (some 7) rfl rfl Try.func154 (by kernel_rfl) rfl #[.agg #[.int .i64 a0_0, .int .i64 a0_1, .int .i64 a0_2, .string a0_3, .slice A0_4 l0_4.length c0_4, .slice A0_5 l0_5.length c0_5]] rfl tq_1 ?_; (with_reducible refine (impl_inodeText.calls k a0_0 a0_1 a0_2 a0_3 _ _ l0_4 _ _ l0_5 t301 _ ?side1 ?side2 ?side3 ?side4 A4.out).mono ?_); (case side1 => exact tq_18); (case side2 => exact HC0_4.out); (case side3 => exact tq_26); (case side4 => exact HC0_5.out); rintro e w9 ⟨v302, rfl, ho0, hb⟩; refine ⟨_, rfl, ?_⟩; have z_ := p_ (Kd.R_lower ho0 (below_size tq_47)) <| p_ (blk_below tq_82 hb) <| a_ (below_step tq_47 hb); clear BK299 HB; obtain ⟨HO303, BK299, HB⟩ := z_; (try clear hb); (try clear hb2); (try clear hk); (try clear hi); (try clear ho0)))
  go_ret
  exact ⟨_, tq_2, (by (with_reducible repeat (first | apply Kd.R_alloc | apply Kd.R_drewN | apply Kd.R_drew)); exact HO303.out), tq_47⟩
 ·replace c3 := Bool.eq_false_iff.mpr c3
  subst c3
  have H1 : (some ([] : List ByteArray)) = some r := by rw [if_neg (show ¬ (false = true) by decide)] at H; exact H
  clear H
  have H := H1
  clear H1
  obtain rfl := Option.some.inj H
  go_enter Try.func69, Try.ntmps69
  go_wp2_with (first | ((with_reducible refine gate_dst (N := 1) rfl ?_); refine box_event ?hg (N := 1) ?hd (cs := #[.int .i64 a0_0, .int .i64 a0_1, .int .i64 a0_2, .string a0_3, .slice A0_4 l0_4.length c0_4, .slice A0_5 l0_5.length c0_5]) (t := 49) ?hr ?_; (case hd => rfl); (case hg => rfl); (case hr => first | (go_simp; done) | (go_simp; rfl)); intro gb299 hg w10 hbox hb; have z_ := p_ (below_step tq_0 hb) <| p_ (hbox) <| p_ (gb_ hg tq_0) <| a_ (gb_ hg tq_0); clear HB; obtain ⟨HB, BK299, GW299, GE299⟩ := z_; clear hb hbox hg; have hcz11_0 := bc_ BK299.out 0; have hcz11_1 := bc_ BK299.out 1; have hcz11_2 := bc_ BK299.out 2; have hcz11_3 := bc_ BK299.out 3; have hcz11_4 := bc_ BK299.out 4; have hcz11_5 := bc_ BK299.out 5; have hfz11_0 := blk_frozen BK299.out 0; have hfz11_1 := blk_frozen BK299.out 1; have hfz11_2 := blk_frozen BK299.out 2; have hfz11_3 := blk_frozen BK299.out 3; have hfz11_4 := blk_frozen BK299.out 4; have hfz11_5 := blk_frozen BK299.out 5) | ((with_reducible refine gate_callee (f := 153) rfl ?_); refine goesL_ (some 4) rfl rfl Try.func153 (by kernel_rfl) rfl #[.agg #[.int .i64 a0_0, .int .i64 a0_1, .int .i64 a0_2, .string a0_3, .slice A0_4 l0_4.length c0_4, .slice A0_5 l0_5.length c0_5]] rfl tq_1 ?_; (with_reducible refine (impl_InodeOk.calls k a0_0 a0_1 a0_2 a0_3 _ _ l0_4 _ _ l0_5 false _ ?side1 ?side2 ?side3 ?side4 A2.out).mono ?_); (case side1 => exact tq_18); (case side2 => exact HC0_4.out); (case side3 => exact tq_26); (case side4 => exact HC0_5.out); rintro e w12 ⟨rfl, hb⟩; refine ⟨_, rfl, ?_⟩; have z_ := p_ (blk_below tq_82 hb) <| a_ (below_step tq_47 hb); clear BK299 HB; obtain ⟨BK299, HB⟩ := z_; (try clear hb); (try clear hb2); (try clear hk); (try clear hi)))
  go_ret
  exact ⟨_, tq_2, (by first | exact Kd.R_nil _ _ _ _ _ | exact Kd.N_nil _ _ _ _ _ | exact Kd.V_nil _ _ _ _ _ | exact Kd.Q_nil _ _ _ _ _ | exact Kd.S_nil _ _ _ _ _), tq_47⟩

end Go.Proofs.Ytcdnfkoahajhhaa.PFnExactInodeWords
