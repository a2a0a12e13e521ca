/- Contracts of Go functions, written by a program of ours over the print of the kit: each says that the call returns what the Lean function beside it computes. Conditions: as each theorem states them. -/
import Derived.Test.YtcdnfkoahajhhaaPkFnExactCleanOk
import Derived.Test.YtcdnfkoahajhhaaPFnExactCleanOkx0
import Derived.Test.YtcdnfkoahajhhaaPFnExactCleanOkx10
import Derived.Test.YtcdnfkoahajhhaaPFnExactCleanOkx11
namespace Go.Proofs.Ytcdnfkoahajhhaa.PFnExactCleanOk
open Go.RowKit Go.Proofs.YtcdnfkoahajhhaaW.PrintWords Go.Proofs.YtcdnfkoahajhhaaW.PrintLast Go.Proofs.YtcdnfkoahajhhaaW.PrintMore
attribute [local go_sem] max2_int min2_int max_two min_two max_three min_three max_four min_four   -- for this text's walks alone
set_option linter.unusedVariables false
set_option linter.unusedSimpArgs false

/-! ### impl_Geo_partWords: function 276 -/
def impl_Geo_partWords.f (a0_0 : Int) (a0_1 : Int) (a0_2 : Int) (a0_3 : Int) : Option (Int) := some (wrap64 ((wrap64 (38 + (wrap64 (8 * a0_2)))) + (wrap64 (4 * a0_1))))
set_option maxHeartbeats 8000000 in
set_option maxRecDepth 100000 in
theorem impl_Geo_partWords.calls (a0_0 : Int) (a0_1 : Int) (a0_2 : Int) (a0_3 : Int) (r : Int) (w : World) (h : impl_Geo_partWords.f a0_0 a0_1 a0_2 a0_3 = some r) :
  Calls Try.prog 276 #[.agg #[.int .i64 a0_0, .int .i64 a0_1, .int .i64 a0_2, .int .i64 a0_3]] w fun e w' => e = .returned (.int .i64 r) ∧ Below w.heap.size w w' := by
 have hu72 := Try.underlying72
 have HB := Aside0.mk (Below.refl w.heap.size w)
 have H : (some (wrap64 ((wrap64 (38 + (wrap64 (8 * a0_2)))) + (wrap64 (4 * a0_1))))) = some r := h
 clear h
 obtain rfl := Option.some.inj H
 go_enter Try.func276, Try.ntmps276
 go_wp2_with (first | ((with_reducible refine gate_dst (N := 1) rfl ?_); refine box_event ?hg (N := 1) ?hd (cs := #[.int .i64 a0_0, .int .i64 a0_1, .int .i64 a0_2, .int .i64 a0_3]) (t := 72) ?hr ?_; (case hd => rfl); (case hg => rfl); (case hr => first | (go_simp; done) | (go_simp; rfl)); intro gb315 hg w2 hbox hb; have z_ := p_ (below_step tq_0 hb) <| p_ (hbox) <| p_ (gb_ hg tq_0) <| a_ (gb_ hg tq_0); clear HB; obtain ⟨HB, BK315, GW315, GE315⟩ := z_; clear hb hbox hg; have hcz3_0 := bc_ BK315.out 0; have hcz3_1 := bc_ BK315.out 1; have hcz3_2 := bc_ BK315.out 2; have hcz3_3 := bc_ BK315.out 3; have hfz3_0 := blk_frozen BK315.out 0; have hfz3_1 := blk_frozen BK315.out 1; have hfz3_2 := blk_frozen BK315.out 2; have hfz3_3 := blk_frozen BK315.out 3))
 go_ret
 exact ⟨tq_2, (by repeat (first | (with_reducible first | exact HB.out | apply below_alloc | apply pw_below_drewN | apply below_drew1 | refine below_set ?_ GE315.out) | exact HB.out))⟩

/-! ### impl_Geo_lines: function 258 -/
def impl_Geo_lines.f (a0_0 : Int) (a0_1 : Int) (a0_2 : Int) (a0_3 : Int) : Option (Int) := (impl_Geo_partWords.f a0_0 a0_1 a0_2 a0_3).bind fun t317 => (some (wrap64 (Int.tdiv (wrap64 (a0_0 * t317)) 2)))
set_option maxHeartbeats 8000000 in
set_option maxRecDepth 100000 in
theorem impl_Geo_lines.calls (a0_0 : Int) (a0_1 : Int) (a0_2 : Int) (a0_3 : Int) (r : Int) (w : World) (h : impl_Geo_lines.f a0_0 a0_1 a0_2 a0_3 = some r) :
  Calls Try.prog 258 #[.agg #[.int .i64 a0_0, .int .i64 a0_1, .int .i64 a0_2, .int .i64 a0_3]] w fun e w' => e = .returned (.int .i64 r) ∧ Below w.heap.size w w' := by
 have hu72 := Try.underlying72
 have HB := Aside0.mk (Below.refl w.heap.size w)
 have H : ((impl_Geo_partWords.f a0_0 a0_1 a0_2 a0_3).bind fun t317 => (some (wrap64 (Int.tdiv (wrap64 (a0_0 * t317)) 2)))) = some r := h
 clear h
 replace H := Option.bind_eq_some_iff.mp H
 obtain ⟨t317, A20, H⟩ := H
 replace H : (some (wrap64 (Int.tdiv (wrap64 (a0_0 * t317)) 2))) = some r := H
 have A2 := Aside0.mk A20
 clear A20
 obtain rfl := Option.some.inj H
 go_enter Try.func258, Try.ntmps258
 try go_wp2_with (first | ((with_reducible refine gate_dst (N := 1) rfl ?_); refine box_event ?hg (N := 1) ?hd (cs := #[.int .i64 a0_0, .int .i64 a0_1, .int .i64 a0_2, .int .i64 a0_3]) (t := 72) ?hr ?_; (case hd => rfl); (case hg => rfl); (case hr => first | (go_simp; done) | (go_simp; rfl)); intro gb316 hg w3 hbox hb; have z_ := p_ (below_step tq_0 hb) <| p_ (hbox) <| p_ (gb_ hg tq_0) <| a_ (gb_ hg tq_0); clear HB; obtain ⟨HB, BK316, GW316, GE316⟩ := z_; clear hb hbox hg))
 have z_ := p_ (blk_drew BK316.out) <| a_ (below_drew1 HB.out)
 clear BK316 HB
 obtain ⟨BK316, HB⟩ := z_
 refine start_ (n := 7) (S := fun w' => w'.cell? ⟨gb316, 0, none⟩ = some (.int .i64 a0_0) ∧ w'.cell? ⟨gb316, 1, none⟩ = some (.int .i64 a0_1) ∧ w'.cell? ⟨gb316, 2, none⟩ = some (.int .i64 a0_2) ∧ w'.cell? ⟨gb316, 3, none⟩ = some (.int .i64 a0_3)) (ds := []) bq_77 (by kernel_rfl) rfl rfl (bk4_ BK316.out) (fun hHeld => ?_)
 generalize w3.drew = w4 at BK316 HB hHeld ⊢
 refine yq_ (i := 0) (N := some 3) #[true, false, false, false, false, false, false] (by kernel_rfl) ?_
 refine take_ (i := 1) (N := some 4) (v := ?_) (a' := ?_) #[true, true, false, false, false, false, false] rfl rfl (by kernel_rfl) (fun _ _ _ h => h) (Or.inl ⟨(by rfl), ?_⟩) hHeld ?_ ?_
 rotate_left
 ·rintro w' ⟨s0, s1, s2, s3⟩
  go_simp
  with_reducible rfl
 rotate_left
 ·simp only [Act.put, List.setIfInBounds_toArray, List.set_cons_zero, List.set_cons_succ, i64_w, i32_w]
  rfl
 refine take_ (i := 2) (N := some 5) (v := ?_) (a' := ?_) #[true, true, true, false, false, false, false] rfl rfl (by kernel_rfl) (fun _ _ _ h => h) (Or.inl ⟨(by rfl), ?_⟩) hHeld ?_ ?_
 rotate_left
 ·rintro w' ⟨s0, s1, s2, s3⟩
  go_simp
  with_reducible rfl
 rotate_left
 ·simp only [Act.put, List.setIfInBounds_toArray, List.set_cons_zero, List.set_cons_succ, i64_w, i32_w]
  rfl
 refine one_ (i := 3) (N := some 6) #[true, true, true, true, false, false, false] rfl rfl (by kernel_rfl) (by decide) (fun K hK => ?_)
 refine goes_ Try.func276 (by kernel_rfl) rfl #[.agg #[.int .i64 a0_0, .int .i64 a0_1, .int .i64 a0_2, .int .i64 a0_3]] (by rfl) rfl rfl tq_1 ?_
 with_reducible refine (impl_Geo_partWords.calls a0_0 a0_1 a0_2 a0_3 t317 _ A2.out).mono ?_
 rintro e w5 ⟨rfl, hb⟩
 refine ⟨_, rfl, ?_⟩
 have z_ := p_ (blk_below (by (with_reducible repeat (first | refine blk_drewN ?_ _ | refine blk_drew ?_ | refine blk_alloc ?_ _)); exact BK316.out) hb) <| a_ (below_step tq_169 hb)
 clear BK316 HB
 obtain ⟨BK316, HB⟩ := z_
 (try clear hb)
 (try clear hb2)
 (try clear hk)
 (try clear hi)
 refine hK.out _ _ (bk4_ BK316.out) (fun hHeld => ?_)
 clear hK K
 refine nm_ (some 6) ?_
 refine yq_ (i := 4) (N := some 7) bq_78 (by kernel_rfl) ?_
 refine yq_ (i := 5) (N := some 8) bq_79 (by kernel_rfl) ?_
 refine yq_ (i := 6) (N := some 2) bq_80 (by kernel_rfl) ?_
 refine done_ (by kernel_rfl) ?_
 try go_wp2
 go_ret
 exact ⟨tq_2, tq_169⟩

/-! ### impl_isPlaced: function 232 -/
def impl_isPlaced.f (k : Nat) (a0_0 : ByteArray) (l0_1 : List (S206)) (a1_0 : Int) (a1_1 : Int) (a1_2 : Int) (a1_3 : Int) : Option (Bool) := (impl_MemoryOk.f k a0_0 l0_1).bind fun t320 => (if t320 = true then ((impl_GeoOk.f a1_0 a1_1 a1_2 a1_3).bind fun t321 => (if t321 = true then ((impl_Geo_lines.f a1_0 a1_1 a1_2 a1_3).bind fun t322 => (some (decide ((wrap64 ((a0_0.size : Int) / 16)) ≥ t322)))) else (some false))) else (some false))
theorem impl_isPlaced.mono : ∀ a0 a1 a2 a3 a4 a5 k, LeO (impl_isPlaced.f k a0 a1 a2 a3 a4 a5) (impl_isPlaced.f (k + 1) a0 a1 a2 a3 a4 a5) := by
 intro a0 a1 a2 a3 a4 a5 k
 unfold impl_isPlaced.f
 repeat' first
   | (with_reducible exact impl_MemoryOk.mono ..)
   | (with_reducible exact LeO.refl _)
   | (with_reducible exact LeO.none _)
   | (with_reducible refine LeO.ite ?_ ?_)
   | (with_reducible refine LeO.bind ?_ (fun _ => ?_))
   | exact impl_MemoryOk.mono ..
   | exact LeO.none _
   | refine LeO.ite ?_ ?_
   | refine LeO.bind ?_ (fun _ => ?_)
def impl_isPlaced.T1 : Bool × List (List Nat × List Nat) := (true, [([], []), ([0], [0]), ([1, 1], [1]), ([2], [2]), ([3, 2, 2], [2, 3]), ([2, 4], [2, 4]), ([5, 4], [5]), ([6], [6]), ([7, 6], [6, 7]), ([8, 6], [6, 8]), ([9, 6], [6, 9]), ([6], [6]), ([11, 6, 6], [6, 11]), ([10, 12, 6], [6, 10, 12]), ([6, 13], [6, 13]), ([14, 12, 0, 1, 2, 3, 4, 5, 6, 7, 8, 9, 10, 11, 12, 13, 14], [14])])
def impl_isPlaced.B1 : List Nat := [0, 1, 3, 7, 15, 31, 63, 127, 255, 511, 1023, 127, 2175, 8191, 16383, 32767]
theorem impl_isPlaced.tab1 : rtab .any (opsOf Try.f232 1) = impl_isPlaced.T1 := by kernel_rfl
theorem impl_isPlaced.bits1 : waitsOk impl_isPlaced.T1.2 impl_isPlaced.B1 = true := by kernel_rfl
set_option maxHeartbeats 8000000 in
set_option maxRecDepth 100000 in
theorem impl_isPlaced.calls (k : Nat) (a0_0 : ByteArray) (A0_1 : Option Addr) (c0_1 : Nat) (l0_1 : List (S206)) (a1_0 : Int) (a1_1 : Int) (a1_2 : Int) (a1_3 : Int) (r : Bool) (w : World) (hr0_1 : Kd.C k206 w A0_1 l0_1.length l0_1) (hc0_1 : l0_1.length ≤ c0_1) (h : impl_isPlaced.f k a0_0 l0_1 a1_0 a1_1 a1_2 a1_3 = some r) :
  Calls Try.prog 232 #[.agg #[.string a0_0, .slice A0_1 l0_1.length c0_1], .agg #[.int .i64 a1_0, .int .i64 a1_1, .int .i64 a1_2, .int .i64 a1_3]] w fun e w' => e = .returned (.bool r) ∧ Below w.heap.size w w' := by
 have hu113 := Try.underlying113
 have hu72 := Try.underlying72
 have HR0_1 := Aside0.mk hr0_1
 have HC0_1 := Aside0.mk hc0_1
 clear hr0_1 hc0_1
 have HB := Aside0.mk (Below.refl w.heap.size w)
 have H : ((impl_MemoryOk.f k a0_0 l0_1).bind fun t320 => (if t320 = true then ((impl_GeoOk.f a1_0 a1_1 a1_2 a1_3).bind fun t321 => (if t321 = true then ((impl_Geo_lines.f a1_0 a1_1 a1_2 a1_3).bind fun t322 => (some (decide ((wrap64 ((a0_0.size : Int) / 16)) ≥ t322)))) else (some false))) else (some false))) = some r := h
 clear h
 replace H := Option.bind_eq_some_iff.mp H
 obtain ⟨t320, A30, H⟩ := H
 replace H : (if t320 = true then ((impl_GeoOk.f a1_0 a1_1 a1_2 a1_3).bind fun t321 => (if t321 = true then ((impl_Geo_lines.f a1_0 a1_1 a1_2 a1_3).bind fun t322 => (some (decide ((wrap64 ((a0_0.size : Int) / 16)) ≥ t322)))) else (some false))) else (some false)) = some r := H
 have A3 := Aside0.mk A30
 clear A30
 by_cases c4 : t320 = true
 ·subst c4
  have H1 : ((impl_GeoOk.f a1_0 a1_1 a1_2 a1_3).bind fun t321 => (if t321 = true then ((impl_Geo_lines.f a1_0 a1_1 a1_2 a1_3).bind fun t322 => (some (decide ((wrap64 ((a0_0.size : Int) / 16)) ≥ t322)))) else (some false))) = some r := by rw [if_pos rfl] at H; exact H
  clear H
  have H := H1
  clear H1
  replace H := Option.bind_eq_some_iff.mp H
  obtain ⟨t321, A50, H⟩ := H
  replace H : (if t321 = true then ((impl_Geo_lines.f a1_0 a1_1 a1_2 a1_3).bind fun t322 => (some (decide ((wrap64 ((a0_0.size : Int) / 16)) ≥ t322)))) else (some false)) = some r := H
  have A5 := Aside0.mk A50
  clear A50
  by_cases c6 : t321 = true
  ·subst c6
   have H1 : ((impl_Geo_lines.f a1_0 a1_1 a1_2 a1_3).bind fun t322 => (some (decide ((wrap64 ((a0_0.size : Int) / 16)) ≥ t322)))) = some r := by rw [if_pos rfl] at H; exact H
   clear H
   have H := H1
   clear H1
   replace H := Option.bind_eq_some_iff.mp H
   obtain ⟨t322, A70, H⟩ := H
   replace H : (some (decide ((wrap64 ((a0_0.size : Int) / 16)) ≥ t322))) = some r := H
   have A7 := Aside0.mk A70
   clear A70
   obtain rfl := Option.some.inj H
   go_enter Try.func232, Try.ntmps232
   try go_wp2_with (first | ((with_reducible refine gate_dst (N := 2) rfl ?_); (try (refine gate_guard (by rfl) ?_; dsimp only)); refine box_event ?hg (N := 2) ?hd (cs := #[.string a0_0, .slice A0_1 l0_1.length c0_1]) (t := 113) ?hr ?_; (case hd => rfl); (case hg => rfl); (case hr => first | (go_simp; done) | (go_simp; rfl)); intro gb318 hg w8 hbox hb; have z_ := p_ (below_step tq_0 hb) <| p_ (hbox) <| p_ (gb_ hg tq_0) <| a_ (gb_ hg tq_0); clear HB; obtain ⟨HB, BK318, GW318, GE318⟩ := z_; clear hb hbox hg) | ((with_reducible refine gate_dst (N := 3) rfl ?_); (try (refine gate_guard (by rfl) ?_; dsimp only)); refine box_event ?hg (N := 3) ?hd (cs := #[.int .i64 a1_0, .int .i64 a1_1, .int .i64 a1_2, .int .i64 a1_3]) (t := 72) ?hr ?_; (case hd => rfl); (case hg => rfl); (case hr => first | (go_simp; done) | (go_simp; rfl)); intro gb319 hg w9 hbox hb; have z_ := p_ (blk_below tq_32 hb) <| p_ (below_step tq_44 hb) <| p_ (hbox) <| p_ (gb_ hg tq_44) <| p_ (gb_ hg tq_44) <| p_ (ltne_ hg (blk_lt tq_32)) <| a_ (gtne_ hg (blk_lt tq_32)); clear BK318 HB; obtain ⟨BK318, HB, BK319, GW319, GE319, NB318_319, NB319_318⟩ := z_; clear hb hbox hg))
   have z_ := p_ (blk_drew BK318.out) <| p_ (blk_drew BK319.out) <| a_ (below_drew1 HB.out)
   clear BK318 BK319 HB
   obtain ⟨BK318, BK319, HB⟩ := z_
   refine start_ (n := 16) (S := fun w' => w'.cell? ⟨gb318, 0, none⟩ = some (.string a0_0) ∧ w'.cell? ⟨gb318, 1, none⟩ = some (.slice A0_1 l0_1.length c0_1) ∧ w'.cell? ⟨gb319, 0, none⟩ = some (.int .i64 a1_0) ∧ w'.cell? ⟨gb319, 1, none⟩ = some (.int .i64 a1_1) ∧ w'.cell? ⟨gb319, 2, none⟩ = some (.int .i64 a1_2) ∧ w'.cell? ⟨gb319, 3, none⟩ = some (.int .i64 a1_3)) (ds := []) bq_67 (by kernel_rfl) rfl rfl (bc2_ BK318.out (bk4_ BK319.out)) (fun hHeld => ?_); refine with_tabW impl_isPlaced.tab1 impl_isPlaced.bits1 (fun HT_ HW_ => ?_)
   generalize w9.drew = w10 at BK318 BK319 HB hHeld ⊢
   refine tk_ (i := 0) (N := some 5) bq_105 (take_ofW HT_.out HW_.out (by kernel_rfl)) hHeld ?_
   refine one_ (i := 1) (N := some 6) bq_106 rfl rfl (one_of HT_.out (by kernel_rfl)) (by decide) (fun K hK => ?_)
   refine goes_ Try.func257 (by kernel_rfl) rfl #[.agg #[.string a0_0, .slice A0_1 l0_1.length c0_1]] (by rfl) rfl rfl tq_1 ?_
   with_reducible refine (impl_MemoryOk.calls k a0_0 _ _ l0_1 true _ ?side1 ?side2 A3.out).mono ?_
   (case side1 => exact tq_4)
   (case side2 => exact HC0_1.out)
   rintro e w11 ⟨rfl, hb⟩
   refine ⟨_, rfl, ?_⟩
   have z_ := p_ (blk_below tq_32 hb) <| p_ (blk_below tq_85 hb) <| a_ (below_step tq_35 hb)
   clear BK318 BK319 HB
   obtain ⟨BK318, BK319, HB⟩ := z_
   (try clear hb)
   (try clear hb2)
   (try clear hk)
   (try clear hi)
   refine hK.out _ _ (bc2_ BK318.out (bk4_ BK319.out)) (fun hHeld => ?_)
   clear hK K
   refine nm_ (some 6) ?_
   refine yq_ (i := 2) (N := some 7) bq_107 (any_of HT_.out (by kernel_rfl)) ?_
   refine tk_ (i := 3) (N := some 8) bq_108 (take_ofW HT_.out HW_.out (by kernel_rfl)) hHeld ?_
   refine one_ (i := 4) (N := some 9) bq_109 rfl rfl (one_of HT_.out (by kernel_rfl)) (by decide) (fun K hK => ?_)
   refine goes_ Try.func123 (by kernel_rfl) rfl #[.agg #[.int .i64 a1_0, .int .i64 a1_1, .int .i64 a1_2, .int .i64 a1_3]] (by rfl) rfl rfl tq_1 ?_
   with_reducible refine (impl_GeoOk.calls a1_0 a1_1 a1_2 a1_3 true _ A5.out).mono ?_
   rintro e w12 ⟨rfl, hb⟩
   refine ⟨_, rfl, ?_⟩
   have z_ := p_ (blk_below tq_32 hb) <| p_ (blk_below tq_85 hb) <| a_ (below_step tq_35 hb)
   clear BK318 BK319 HB
   obtain ⟨BK318, BK319, HB⟩ := z_
   (try clear hb)
   (try clear hb2)
   (try clear hk)
   (try clear hi)
   refine hK.out _ _ (bc2_ BK318.out (bk4_ BK319.out)) (fun hHeld => ?_)
   clear hK K
   refine nm_ (some 9) ?_
   refine yq_ (i := 5) (N := some 10) bq_110 (any_of HT_.out (by kernel_rfl)) ?_
   refine yq_ (i := 6) (N := some 11) bq_111 (any_of HT_.out (by kernel_rfl)) ?_
   refine yq_ (i := 7) (N := some 12) bq_112 (any_of HT_.out (by kernel_rfl)) ?_
   refine tk_ (i := 8) (N := some 13) bq_113 (take_ofW HT_.out HW_.out (by kernel_rfl)) hHeld ?_
   refine yq_ (i := 9) (N := some 14) bq_114 (any_of HT_.out (by kernel_rfl)) ?_
   refine yq_ (i := 10) (N := some 15) bq_115 (any_of HT_.out (by kernel_rfl)) ?_
   refine tk_ (i := 11) (N := some 16) bq_116 (take_ofW HT_.out HW_.out (by kernel_rfl)) hHeld ?_
   refine one_ (i := 12) (N := some 17) bq_117 rfl rfl (one_of HT_.out (by kernel_rfl)) (by decide) (fun K hK => ?_)
   refine goes_ Try.func258 (by kernel_rfl) rfl #[.agg #[.int .i64 a1_0, .int .i64 a1_1, .int .i64 a1_2, .int .i64 a1_3]] (by rfl) rfl rfl tq_1 ?_
   with_reducible refine (impl_Geo_lines.calls a1_0 a1_1 a1_2 a1_3 t322 _ A7.out).mono ?_
   rintro e w13 ⟨rfl, hb⟩
   refine ⟨_, rfl, ?_⟩
   have z_ := p_ (blk_below tq_32 hb) <| p_ (blk_below tq_85 hb) <| a_ (below_step tq_35 hb)
   clear BK318 BK319 HB
   obtain ⟨BK318, BK319, HB⟩ := z_
   (try clear hb)
   (try clear hb2)
   (try clear hk)
   (try clear hi)
   refine hK.out _ _ (bc2_ BK318.out (bk4_ BK319.out)) (fun hHeld => ?_)
   clear hK K
   refine nm_ (some 17) ?_
   refine yq_ (i := 13) (N := some 18) bq_68 (any_of HT_.out (by kernel_rfl)) ?_
   refine yq_ (i := 14) (N := some 19) bq_69 (any_of HT_.out (by kernel_rfl)) ?_
   refine yq_ (i := 15) (N := some 4) bq_70 (any_of HT_.out (by kernel_rfl)) ?_
   refine done_ (done_of HT_.out (by kernel_rfl)) ?_
   try go_wp2
   go_ret
   exact ⟨tq_2, tq_35⟩
  ·replace c6 := Bool.eq_false_iff.mpr c6
   subst c6
   have H1 : (some false) = some r := by rw [if_neg (show ¬ (false = true) by decide)] at H; exact H
   clear H
   have H := H1
   clear H1
   obtain rfl := Option.some.inj H
   go_enter Try.func232, Try.ntmps232
   try go_wp2_with (first | ((with_reducible refine gate_dst (N := 2) rfl ?_); (try (refine gate_guard (by rfl) ?_; dsimp only)); refine box_event ?hg (N := 2) ?hd (cs := #[.string a0_0, .slice A0_1 l0_1.length c0_1]) (t := 113) ?hr ?_; (case hd => rfl); (case hg => rfl); (case hr => first | (go_simp; done) | (go_simp; rfl)); intro gb318 hg w14 hbox hb; have z_ := p_ (below_step tq_0 hb) <| p_ (hbox) <| p_ (gb_ hg tq_0) <| a_ (gb_ hg tq_0); clear HB; obtain ⟨HB, BK318, GW318, GE318⟩ := z_; clear hb hbox hg) | ((with_reducible refine gate_dst (N := 3) rfl ?_); (try (refine gate_guard (by rfl) ?_; dsimp only)); refine box_event ?hg (N := 3) ?hd (cs := #[.int .i64 a1_0, .int .i64 a1_1, .int .i64 a1_2, .int .i64 a1_3]) (t := 72) ?hr ?_; (case hd => rfl); (case hg => rfl); (case hr => first | (go_simp; done) | (go_simp; rfl)); intro gb319 hg w15 hbox hb; have z_ := p_ (blk_below tq_32 hb) <| p_ (below_step tq_44 hb) <| p_ (hbox) <| p_ (gb_ hg tq_44) <| p_ (gb_ hg tq_44) <| p_ (ltne_ hg (blk_lt tq_32)) <| a_ (gtne_ hg (blk_lt tq_32)); clear BK318 HB; obtain ⟨BK318, HB, BK319, GW319, GE319, NB318_319, NB319_318⟩ := z_; clear hb hbox hg))
   have z_ := p_ (blk_drew BK318.out) <| p_ (blk_drew BK319.out) <| a_ (below_drew1 HB.out)
   clear BK318 BK319 HB
   obtain ⟨BK318, BK319, HB⟩ := z_
   refine start_ (n := 16) (S := fun w' => w'.cell? ⟨gb318, 0, none⟩ = some (.string a0_0) ∧ w'.cell? ⟨gb318, 1, none⟩ = some (.slice A0_1 l0_1.length c0_1) ∧ w'.cell? ⟨gb319, 0, none⟩ = some (.int .i64 a1_0) ∧ w'.cell? ⟨gb319, 1, none⟩ = some (.int .i64 a1_1) ∧ w'.cell? ⟨gb319, 2, none⟩ = some (.int .i64 a1_2) ∧ w'.cell? ⟨gb319, 3, none⟩ = some (.int .i64 a1_3)) (ds := []) bq_67 (by kernel_rfl) rfl rfl (bc2_ BK318.out (bk4_ BK319.out)) (fun hHeld => ?_); refine with_tabW impl_isPlaced.tab1 impl_isPlaced.bits1 (fun HT_ HW_ => ?_)
   generalize w15.drew = w16 at BK318 BK319 HB hHeld ⊢
   refine tk_ (i := 0) (N := some 5) bq_105 (take_ofW HT_.out HW_.out (by kernel_rfl)) hHeld ?_
   refine one_ (i := 1) (N := some 6) bq_106 rfl rfl (one_of HT_.out (by kernel_rfl)) (by decide) (fun K hK => ?_)
   refine goes_ Try.func257 (by kernel_rfl) rfl #[.agg #[.string a0_0, .slice A0_1 l0_1.length c0_1]] (by rfl) rfl rfl tq_1 ?_
   with_reducible refine (impl_MemoryOk.calls k a0_0 _ _ l0_1 true _ ?side1 ?side2 A3.out).mono ?_
   (case side1 => exact tq_4)
   (case side2 => exact HC0_1.out)
   rintro e w17 ⟨rfl, hb⟩
   refine ⟨_, rfl, ?_⟩
   have z_ := p_ (blk_below tq_32 hb) <| p_ (blk_below tq_85 hb) <| a_ (below_step tq_35 hb)
   clear BK318 BK319 HB
   obtain ⟨BK318, BK319, HB⟩ := z_
   (try clear hb)
   (try clear hb2)
   (try clear hk)
   (try clear hi)
   refine hK.out _ _ (bc2_ BK318.out (bk4_ BK319.out)) (fun hHeld => ?_)
   clear hK K
   refine nm_ (some 6) ?_
   refine yq_ (i := 2) (N := some 7) bq_107 (any_of HT_.out (by kernel_rfl)) ?_
   refine tk_ (i := 3) (N := some 8) bq_108 (take_ofW HT_.out HW_.out (by kernel_rfl)) hHeld ?_
   refine one_ (i := 4) (N := some 9) bq_109 rfl rfl (one_of HT_.out (by kernel_rfl)) (by decide) (fun K hK => ?_)
   refine goes_ Try.func123 (by kernel_rfl) rfl #[.agg #[.int .i64 a1_0, .int .i64 a1_1, .int .i64 a1_2, .int .i64 a1_3]] (by rfl) rfl rfl tq_1 ?_
   with_reducible refine (impl_GeoOk.calls a1_0 a1_1 a1_2 a1_3 false _ A5.out).mono ?_
   rintro e w18 ⟨rfl, hb⟩
   refine ⟨_, rfl, ?_⟩
   have z_ := p_ (blk_below tq_32 hb) <| p_ (blk_below tq_85 hb) <| a_ (below_step tq_35 hb)
   clear BK318 BK319 HB
   obtain ⟨BK318, BK319, HB⟩ := z_
   (try clear hb)
   (try clear hb2)
   (try clear hk)
   (try clear hi)
   refine hK.out _ _ (bc2_ BK318.out (bk4_ BK319.out)) (fun hHeld => ?_)
   clear hK K
   refine nm_ (some 9) ?_
   refine yq_ (i := 5) (N := some 10) bq_110 (any_of HT_.out (by kernel_rfl)) ?_
   refine yq_ (i := 6) (N := some 11) bq_111 (any_of HT_.out (by kernel_rfl)) ?_
   refine uq_ (i := 7) (N := some 12) bq_112 (any_of HT_.out (by kernel_rfl)) ?_
   refine uq_ (i := 8) (N := some 13) bq_113 (any_of HT_.out (by kernel_rfl)) ?_
   refine uq_ (i := 9) (N := some 14) bq_114 (any_of HT_.out (by kernel_rfl)) ?_
   refine uq_ (i := 10) (N := some 15) bq_115 (any_of HT_.out (by kernel_rfl)) ?_
   refine uq_ (i := 11) (N := some 16) bq_116 (any_of HT_.out (by kernel_rfl)) ?_
   refine uq_ (i := 12) (N := some 17) bq_117 (any_of HT_.out (by kernel_rfl)) ?_
   refine uq_ (i := 13) (N := some 18) bq_68 (any_of HT_.out (by kernel_rfl)) ?_
   refine yq_ (i := 14) (N := some 19) bq_69 (any_of HT_.out (by kernel_rfl)) ?_
   refine yq_ (i := 15) (N := some 4) bq_70 (any_of HT_.out (by kernel_rfl)) ?_
   refine done_ (done_of HT_.out (by kernel_rfl)) ?_
   try go_wp2
   go_ret
   exact ⟨tq_2, tq_35⟩
 ·replace c4 := Bool.eq_false_iff.mpr c4
  subst c4
  have H1 : (some false) = some r := by rw [if_neg (show ¬ (false = true) by decide)] at H; exact H
  clear H
  have H := H1
  clear H1
  obtain rfl := Option.some.inj H
  go_enter Try.func232, Try.ntmps232
  try go_wp2_with (first | ((with_reducible refine gate_dst (N := 2) rfl ?_); (try (refine gate_guard (by rfl) ?_; dsimp only)); refine box_event ?hg (N := 2) ?hd (cs := #[.string a0_0, .slice A0_1 l0_1.length c0_1]) (t := 113) ?hr ?_; (case hd => rfl); (case hg => rfl); (case hr => first | (go_simp; done) | (go_simp; rfl)); intro gb318 hg w19 hbox hb; have z_ := p_ (below_step tq_0 hb) <| p_ (hbox) <| p_ (gb_ hg tq_0) <| a_ (gb_ hg tq_0); clear HB; obtain ⟨HB, BK318, GW318, GE318⟩ := z_; clear hb hbox hg) | ((with_reducible refine gate_dst (N := 3) rfl ?_); (try (refine gate_guard (by rfl) ?_; dsimp only)); refine box_event ?hg (N := 3) ?hd (cs := #[.int .i64 a1_0, .int .i64 a1_1, .int .i64 a1_2, .int .i64 a1_3]) (t := 72) ?hr ?_; (case hd => rfl); (case hg => rfl); (case hr => first | (go_simp; done) | (go_simp; rfl)); intro gb319 hg w20 hbox hb; have z_ := p_ (blk_below tq_32 hb) <| p_ (below_step tq_44 hb) <| p_ (hbox) <| p_ (gb_ hg tq_44) <| p_ (gb_ hg tq_44) <| p_ (ltne_ hg (blk_lt tq_32)) <| a_ (gtne_ hg (blk_lt tq_32)); clear BK318 HB; obtain ⟨BK318, HB, BK319, GW319, GE319, NB318_319, NB319_318⟩ := z_; clear hb hbox hg))
  have z_ := p_ (blk_drew BK318.out) <| p_ (blk_drew BK319.out) <| a_ (below_drew1 HB.out)
  clear BK318 BK319 HB
  obtain ⟨BK318, BK319, HB⟩ := z_
  refine start_ (n := 16) (S := fun w' => w'.cell? ⟨gb318, 0, none⟩ = some (.string a0_0) ∧ w'.cell? ⟨gb318, 1, none⟩ = some (.slice A0_1 l0_1.length c0_1)) (ds := []) bq_67 (by kernel_rfl) rfl rfl (bk2_ BK318.out) (fun hHeld => ?_); refine with_tabW impl_isPlaced.tab1 impl_isPlaced.bits1 (fun HT_ HW_ => ?_)
  generalize w20.drew = w21 at BK318 BK319 HB hHeld ⊢
  refine tk_ (i := 0) (N := some 5) bq_105 (take_ofW HT_.out HW_.out (by kernel_rfl)) hHeld ?_
  refine one_ (i := 1) (N := some 6) bq_106 rfl rfl (one_of HT_.out (by kernel_rfl)) (by decide) (fun K hK => ?_)
  refine goes_ Try.func257 (by kernel_rfl) rfl #[.agg #[.string a0_0, .slice A0_1 l0_1.length c0_1]] (by rfl) rfl rfl tq_1 ?_
  with_reducible refine (impl_MemoryOk.calls k a0_0 _ _ l0_1 false _ ?side1 ?side2 A3.out).mono ?_
  (case side1 => exact tq_4)
  (case side2 => exact HC0_1.out)
  rintro e w22 ⟨rfl, hb⟩
  refine ⟨_, rfl, ?_⟩
  have z_ := p_ (blk_below tq_32 hb) <| p_ (blk_below tq_85 hb) <| a_ (below_step tq_35 hb)
  clear BK318 BK319 HB
  obtain ⟨BK318, BK319, HB⟩ := z_
  (try clear hb)
  (try clear hb2)
  (try clear hk)
  (try clear hi)
  refine hK.out _ _ (bk2_ BK318.out) (fun hHeld => ?_)
  clear hK K
  refine nm_ (some 6) ?_
  refine yq_ (i := 2) (N := some 7) bq_107 (any_of HT_.out (by kernel_rfl)) ?_
  refine uq_ (i := 3) (N := some 8) bq_108 (any_of HT_.out (by kernel_rfl)) ?_
  refine uq_ (i := 4) (N := some 9) bq_109 (any_of HT_.out (by kernel_rfl)) ?_
  refine yq_ (i := 5) (N := some 10) bq_110 (any_of HT_.out (by kernel_rfl)) ?_
  refine yq_ (i := 6) (N := some 11) bq_111 (any_of HT_.out (by kernel_rfl)) ?_
  refine uq_ (i := 7) (N := some 12) bq_112 (any_of HT_.out (by kernel_rfl)) ?_
  refine uq_ (i := 8) (N := some 13) bq_113 (any_of HT_.out (by kernel_rfl)) ?_
  refine uq_ (i := 9) (N := some 14) bq_114 (any_of HT_.out (by kernel_rfl)) ?_
  refine uq_ (i := 10) (N := some 15) bq_115 (any_of HT_.out (by kernel_rfl)) ?_
  refine uq_ (i := 11) (N := some 16) bq_116 (any_of HT_.out (by kernel_rfl)) ?_
  refine uq_ (i := 12) (N := some 17) bq_117 (any_of HT_.out (by kernel_rfl)) ?_
  refine uq_ (i := 13) (N := some 18) bq_68 (any_of HT_.out (by kernel_rfl)) ?_
  refine yq_ (i := 14) (N := some 19) bq_69 (any_of HT_.out (by kernel_rfl)) ?_
  refine yq_ (i := 15) (N := some 4) bq_70 (any_of HT_.out (by kernel_rfl)) ?_
  refine done_ (done_of HT_.out (by kernel_rfl)) ?_
  try go_wp2
  go_ret
  exact ⟨tq_2, tq_35⟩

/-! ### impl_isTenant: function 277 -/
def impl_isTenant.f (a0_0 : Int) (a0_1 : Int) (a0_2 : Int) (a0_3 : Int) (a1 : Int) : Option (Bool) := (impl_GeoOk.f a0_0 a0_1 a0_2 a0_3).bind fun t324 => (if t324 = true then ((impl_within.f a1 0 (wrap64 (a0_0 - 1))).bind fun t325 => (some t325)) else (some false))
set_option maxHeartbeats 8000000 in
set_option maxRecDepth 100000 in
theorem impl_isTenant.calls (a0_0 : Int) (a0_1 : Int) (a0_2 : Int) (a0_3 : Int) (a1 : Int) (r : Bool) (w : World) (h : impl_isTenant.f a0_0 a0_1 a0_2 a0_3 a1 = some r) :
  Calls Try.prog 277 #[.agg #[.int .i64 a0_0, .int .i64 a0_1, .int .i64 a0_2, .int .i64 a0_3], .int .i64 a1] w fun e w' => e = .returned (.bool r) ∧ Below w.heap.size w w' := by
 have hu72 := Try.underlying72
 have HB := Aside0.mk (Below.refl w.heap.size w)
 have H : ((impl_GeoOk.f a0_0 a0_1 a0_2 a0_3).bind fun t324 => (if t324 = true then ((impl_within.f a1 0 (wrap64 (a0_0 - 1))).bind fun t325 => (some t325)) else (some false))) = some r := h
 clear h
 replace H := Option.bind_eq_some_iff.mp H
 obtain ⟨t324, A30, H⟩ := H
 replace H : (if t324 = true then ((impl_within.f a1 0 (wrap64 (a0_0 - 1))).bind fun t325 => (some t325)) else (some false)) = some r := H
 have A3 := Aside0.mk A30
 clear A30
 by_cases c4 : t324 = true
 ·subst c4
  have H1 : ((impl_within.f a1 0 (wrap64 (a0_0 - 1))).bind fun t325 => (some t325)) = some r := by rw [if_pos rfl] at H; exact H
  clear H
  have H := H1
  clear H1
  replace H := Option.bind_eq_some_iff.mp H
  obtain ⟨t325, A50, H⟩ := H
  replace H : (some t325) = some r := H
  have A5 := Aside0.mk A50
  clear A50
  obtain rfl := Option.some.inj H
  go_enter Try.func277, Try.ntmps277
  go_wp2_with (first | ((with_reducible refine gate_dst (N := 2) rfl ?_); refine box_event ?hg (N := 2) ?hd (cs := #[.int .i64 a0_0, .int .i64 a0_1, .int .i64 a0_2, .int .i64 a0_3]) (t := 72) ?hr ?_; (case hd => rfl); (case hg => rfl); (case hr => first | (go_simp; done) | (go_simp; rfl)); intro gb323 hg w6 hbox hb; have z_ := p_ (below_step tq_0 hb) <| p_ (hbox) <| p_ (gb_ hg tq_0) <| a_ (gb_ hg tq_0); clear HB; obtain ⟨HB, BK323, GW323, GE323⟩ := z_; clear hb hbox hg; have hcz7_0 := bc_ BK323.out 0; have hcz7_1 := bc_ BK323.out 1; have hcz7_2 := bc_ BK323.out 2; have hcz7_3 := bc_ BK323.out 3; have hfz7_0 := blk_frozen BK323.out 0; have hfz7_1 := blk_frozen BK323.out 1; have hfz7_2 := blk_frozen BK323.out 2; have hfz7_3 := blk_frozen BK323.out 3) | ((with_reducible refine gate_callee (f := 123) rfl ?_); refine goesL_ (some 6) rfl rfl Try.func123 (by kernel_rfl) rfl #[.agg #[.int .i64 a0_0, .int .i64 a0_1, .int .i64 a0_2, .int .i64 a0_3]] rfl tq_1 ?_; (with_reducible refine (impl_GeoOk.calls a0_0 a0_1 a0_2 a0_3 true _ A3.out).mono ?_); rintro e w8 ⟨rfl, hb⟩; refine ⟨_, rfl, ?_⟩; have z_ := p_ (blk_below (by (with_reducible repeat (first | refine blk_drewN ?_ _ | refine blk_drew ?_ | refine blk_alloc ?_ _)); exact BK323.out) hb) <| a_ (below_step tq_98 hb); clear BK323 HB; obtain ⟨BK323, HB⟩ := z_; (try clear hb); (try clear hb2); (try clear hk); (try clear hi); have hcz9_0 := bc_ BK323.out 0; have hcz9_1 := bc_ BK323.out 1; have hcz9_2 := bc_ BK323.out 2; have hcz9_3 := bc_ BK323.out 3; have hfz9_0 := blk_frozen BK323.out 0; have hfz9_1 := blk_frozen BK323.out 1; have hfz9_2 := blk_frozen BK323.out 2; have hfz9_3 := blk_frozen BK323.out 3) | (go_at_call 140; (with_reducible refine (impl_within.calls a1 0 (wrap64 (a0_0 - 1)) t325 _ A5.out).mono ?_); rintro e w' ⟨rfl, ⟨nd, rfl⟩⟩))
  go_ret
  exact ⟨tq_2, tq_98⟩
 ·replace c4 := Bool.eq_false_iff.mpr c4
  subst c4
  have H1 : (some false) = some r := by rw [if_neg (show ¬ (false = true) by decide)] at H; exact H
  clear H
  have H := H1
  clear H1
  obtain rfl := Option.some.inj H
  go_enter Try.func277, Try.ntmps277
  go_wp2_with (first | ((with_reducible refine gate_dst (N := 2) rfl ?_); refine box_event ?hg (N := 2) ?hd (cs := #[.int .i64 a0_0, .int .i64 a0_1, .int .i64 a0_2, .int .i64 a0_3]) (t := 72) ?hr ?_; (case hd => rfl); (case hg => rfl); (case hr => first | (go_simp; done) | (go_simp; rfl)); intro gb323 hg w10 hbox hb; have z_ := p_ (below_step tq_0 hb) <| p_ (hbox) <| p_ (gb_ hg tq_0) <| a_ (gb_ hg tq_0); clear HB; obtain ⟨HB, BK323, GW323, GE323⟩ := z_; clear hb hbox hg; have hcz11_0 := bc_ BK323.out 0; have hcz11_1 := bc_ BK323.out 1; have hcz11_2 := bc_ BK323.out 2; have hcz11_3 := bc_ BK323.out 3; have hfz11_0 := blk_frozen BK323.out 0; have hfz11_1 := blk_frozen BK323.out 1; have hfz11_2 := blk_frozen BK323.out 2; have hfz11_3 := blk_frozen BK323.out 3) | ((with_reducible refine gate_callee (f := 123) rfl ?_); refine goesL_ (some 6) rfl rfl Try.func123 (by kernel_rfl) rfl #[.agg #[.int .i64 a0_0, .int .i64 a0_1, .int .i64 a0_2, .int .i64 a0_3]] rfl tq_1 ?_; (with_reducible refine (impl_GeoOk.calls a0_0 a0_1 a0_2 a0_3 false _ A3.out).mono ?_); rintro e w12 ⟨rfl, hb⟩; refine ⟨_, rfl, ?_⟩; have z_ := p_ (blk_below (by (with_reducible repeat (first | refine blk_drewN ?_ _ | refine blk_drew ?_ | refine blk_alloc ?_ _)); exact BK323.out) hb) <| a_ (below_step tq_98 hb); clear BK323 HB; obtain ⟨BK323, HB⟩ := z_; (try clear hb); (try clear hb2); (try clear hk); (try clear hi)))
  go_ret
  exact ⟨tq_2, tq_98⟩

/-! ### impl_inPart: function 259 -/
def impl_inPart.f (a0_0 : Int) (a0_1 : Int) (a0_2 : Int) (a0_3 : Int) (a1 : Int) (a2 : Bool) (a3 : Int) : Option (Int) := (impl_isTenant.f a0_0 a0_1 a0_2 a0_3 a1).bind fun t327 => (if t327 = true then (if a2 = true then ((impl_Geo_partWords.f a0_0 a0_1 a0_2 a0_3).bind fun t328 => (some (wrap64 ((wrap64 (a1 * t328)) + a3)))) else (some (-1))) else (some (-1)))
set_option maxHeartbeats 8000000 in
set_option maxRecDepth 100000 in
theorem impl_inPart.calls (a0_0 : Int) (a0_1 : Int) (a0_2 : Int) (a0_3 : Int) (a1 : Int) (a2 : Bool) (a3 : Int) (r : Int) (w : World) (h : impl_inPart.f a0_0 a0_1 a0_2 a0_3 a1 a2 a3 = some r) :
  Calls Try.prog 259 #[.agg #[.int .i64 a0_0, .int .i64 a0_1, .int .i64 a0_2, .int .i64 a0_3], .int .i64 a1, .bool a2, .int .i64 a3] w fun e w' => e = .returned (.int .i64 r) ∧ Below w.heap.size w w' := by
 have hu72 := Try.underlying72
 have HB := Aside0.mk (Below.refl w.heap.size w)
 have H : ((impl_isTenant.f a0_0 a0_1 a0_2 a0_3 a1).bind fun t327 => (if t327 = true then (if a2 = true then ((impl_Geo_partWords.f a0_0 a0_1 a0_2 a0_3).bind fun t328 => (some (wrap64 ((wrap64 (a1 * t328)) + a3)))) else (some (-1))) else (some (-1)))) = some r := h
 clear h
 replace H := Option.bind_eq_some_iff.mp H
 obtain ⟨t327, A50, H⟩ := H
 replace H : (if t327 = true then (if a2 = true then ((impl_Geo_partWords.f a0_0 a0_1 a0_2 a0_3).bind fun t328 => (some (wrap64 ((wrap64 (a1 * t328)) + a3)))) else (some (-1))) else (some (-1))) = some r := H
 have A5 := Aside0.mk A50
 clear A50
 by_cases c6 : t327 = true
 ·subst c6
  have H1 : (if a2 = true then ((impl_Geo_partWords.f a0_0 a0_1 a0_2 a0_3).bind fun t328 => (some (wrap64 ((wrap64 (a1 * t328)) + a3)))) else (some (-1))) = some r := by rw [if_pos rfl] at H; exact H
  clear H
  have H := H1
  clear H1
  by_cases c7 : a2 = true
  ·subst c7
   have H1 : ((impl_Geo_partWords.f a0_0 a0_1 a0_2 a0_3).bind fun t328 => (some (wrap64 ((wrap64 (a1 * t328)) + a3)))) = some r := by rw [if_pos rfl] at H; exact H
   clear H
   have H := H1
   clear H1
   replace H := Option.bind_eq_some_iff.mp H
   obtain ⟨t328, A80, H⟩ := H
   replace H : (some (wrap64 ((wrap64 (a1 * t328)) + a3))) = some r := H
   have A8 := Aside0.mk A80
   clear A80
   obtain rfl := Option.some.inj H
   go_enter Try.func259, Try.ntmps259
   go_wp2_with (first | ((with_reducible refine gate_dst (N := 4) rfl ?_); refine box_event ?hg (N := 4) ?hd (cs := #[.int .i64 a0_0, .int .i64 a0_1, .int .i64 a0_2, .int .i64 a0_3]) (t := 72) ?hr ?_; (case hd => rfl); (case hg => rfl); (case hr => first | (go_simp; done) | (go_simp; rfl)); intro gb326 hg w9 hbox hb; have z_ := p_ (below_step tq_0 hb) <| p_ (hbox) <| p_ (gb_ hg tq_0) <| a_ (gb_ hg tq_0); clear HB; obtain ⟨HB, BK326, GW326, GE326⟩ := z_; clear hb hbox hg; have hcz10_0 := bc_ BK326.out 0; have hcz10_1 := bc_ BK326.out 1; have hcz10_2 := bc_ BK326.out 2; have hcz10_3 := bc_ BK326.out 3; have hfz10_0 := blk_frozen BK326.out 0; have hfz10_1 := blk_frozen BK326.out 1; have hfz10_2 := blk_frozen BK326.out 2; have hfz10_3 := blk_frozen BK326.out 3) | ((with_reducible refine gate_callee (f := 277) rfl ?_); refine goesL_ (some 11) rfl rfl Try.func277 (by kernel_rfl) rfl #[.agg #[.int .i64 a0_0, .int .i64 a0_1, .int .i64 a0_2, .int .i64 a0_3], .int .i64 a1] rfl tq_1 ?_; (with_reducible refine (impl_isTenant.calls a0_0 a0_1 a0_2 a0_3 a1 true _ A5.out).mono ?_); rintro e w11 ⟨rfl, hb⟩; refine ⟨_, rfl, ?_⟩; have z_ := p_ (blk_below tq_125 hb) <| a_ (below_step tq_58 hb); clear BK326 HB; obtain ⟨BK326, HB⟩ := z_; (try clear hb); (try clear hb2); (try clear hk); (try clear hi); have hcz12_0 := bc_ BK326.out 0; have hcz12_1 := bc_ BK326.out 1; have hcz12_2 := bc_ BK326.out 2; have hcz12_3 := bc_ BK326.out 3; have hfz12_0 := blk_frozen BK326.out 0; have hfz12_1 := blk_frozen BK326.out 1; have hfz12_2 := blk_frozen BK326.out 2; have hfz12_3 := blk_frozen BK326.out 3) | ((with_reducible refine gate_callee (f := 276) rfl ?_); refine goesL_ (some 19) rfl rfl Try.func276 (by kernel_rfl) rfl #[.agg #[.int .i64 a0_0, .int .i64 a0_1, .int .i64 a0_2, .int .i64 a0_3]] rfl tq_1 ?_; (with_reducible refine (impl_Geo_partWords.calls a0_0 a0_1 a0_2 a0_3 t328 _ A8.out).mono ?_); rintro e w13 ⟨rfl, hb⟩; refine ⟨_, rfl, ?_⟩; have z_ := p_ (blk_below tq_125 hb) <| a_ (below_step tq_58 hb); clear BK326 HB; obtain ⟨BK326, HB⟩ := z_; (try clear hb); (try clear hb2); (try clear hk); (try clear hi)))
   go_ret
   exact ⟨tq_2, tq_58⟩
  ·replace c7 := Bool.eq_false_iff.mpr c7
   subst c7
   have H1 : (some (-1)) = some r := by rw [if_neg (show ¬ (false = true) by decide)] at H; exact H
   clear H
   have H := H1
   clear H1
   obtain rfl := Option.some.inj H
   go_enter Try.func259, Try.ntmps259
   go_wp2_with (first | ((with_reducible refine gate_dst (N := 4) rfl ?_); refine box_event ?hg (N := 4) ?hd (cs := #[.int .i64 a0_0, .int .i64 a0_1, .int .i64 a0_2, .int .i64 a0_3]) (t := 72) ?hr ?_; (case hd => rfl); (case hg => rfl); (case hr => first | (go_simp; done) | (go_simp; rfl)); intro gb326 hg w14 hbox hb; have z_ := p_ (below_step tq_0 hb) <| p_ (hbox) <| p_ (gb_ hg tq_0) <| a_ (gb_ hg tq_0); clear HB; obtain ⟨HB, BK326, GW326, GE326⟩ := z_; clear hb hbox hg; have hcz15_0 := bc_ BK326.out 0; have hcz15_1 := bc_ BK326.out 1; have hcz15_2 := bc_ BK326.out 2; have hcz15_3 := bc_ BK326.out 3; have hfz15_0 := blk_frozen BK326.out 0; have hfz15_1 := blk_frozen BK326.out 1; have hfz15_2 := blk_frozen BK326.out 2; have hfz15_3 := blk_frozen BK326.out 3) | ((with_reducible refine gate_callee (f := 277) rfl ?_); refine goesL_ (some 11) rfl rfl Try.func277 (by kernel_rfl) rfl #[.agg #[.int .i64 a0_0, .int .i64 a0_1, .int .i64 a0_2, .int .i64 a0_3], .int .i64 a1] rfl tq_1 ?_; (with_reducible refine (impl_isTenant.calls a0_0 a0_1 a0_2 a0_3 a1 true _ A5.out).mono ?_); rintro e w16 ⟨rfl, hb⟩; refine ⟨_, rfl, ?_⟩; have z_ := p_ (blk_below tq_125 hb) <| a_ (below_step tq_58 hb); clear BK326 HB; obtain ⟨BK326, HB⟩ := z_; (try clear hb); (try clear hb2); (try clear hk); (try clear hi)))
   go_ret
   exact ⟨tq_2, tq_58⟩
 ·replace c6 := Bool.eq_false_iff.mpr c6
  subst c6
  have H1 : (some (-1)) = some r := by rw [if_neg (show ¬ (false = true) by decide)] at H; exact H
  clear H
  have H := H1
  clear H1
  obtain rfl := Option.some.inj H
  go_enter Try.func259, Try.ntmps259
  go_wp2_with (first | ((with_reducible refine gate_dst (N := 4) rfl ?_); refine box_event ?hg (N := 4) ?hd (cs := #[.int .i64 a0_0, .int .i64 a0_1, .int .i64 a0_2, .int .i64 a0_3]) (t := 72) ?hr ?_; (case hd => rfl); (case hg => rfl); (case hr => first | (go_simp; done) | (go_simp; rfl)); intro gb326 hg w17 hbox hb; have z_ := p_ (below_step tq_0 hb) <| p_ (hbox) <| p_ (gb_ hg tq_0) <| a_ (gb_ hg tq_0); clear HB; obtain ⟨HB, BK326, GW326, GE326⟩ := z_; clear hb hbox hg; have hcz18_0 := bc_ BK326.out 0; have hcz18_1 := bc_ BK326.out 1; have hcz18_2 := bc_ BK326.out 2; have hcz18_3 := bc_ BK326.out 3; have hfz18_0 := blk_frozen BK326.out 0; have hfz18_1 := blk_frozen BK326.out 1; have hfz18_2 := blk_frozen BK326.out 2; have hfz18_3 := blk_frozen BK326.out 3) | ((with_reducible refine gate_callee (f := 277) rfl ?_); refine goesL_ (some 11) rfl rfl Try.func277 (by kernel_rfl) rfl #[.agg #[.int .i64 a0_0, .int .i64 a0_1, .int .i64 a0_2, .int .i64 a0_3], .int .i64 a1] rfl tq_1 ?_; (with_reducible refine (impl_isTenant.calls a0_0 a0_1 a0_2 a0_3 a1 false _ A5.out).mono ?_); rintro e w19 ⟨rfl, hb⟩; refine ⟨_, rfl, ?_⟩; have z_ := p_ (blk_below tq_125 hb) <| a_ (below_step tq_58 hb); clear BK326 HB; obtain ⟨BK326, HB⟩ := z_; (try clear hb); (try clear hb2); (try clear hk); (try clear hi)))
  go_ret
  exact ⟨tq_2, tq_58⟩

end Go.Proofs.Ytcdnfkoahajhhaa.PFnExactCleanOk
