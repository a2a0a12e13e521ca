/- Contracts of Go functions, written by a program of ours over the print of the kit: each says that the call returns what the Lean function beside it computes. Conditions: as each theorem states them. -/
import Derived.Test.YtcdnfkoahajhhaaPkFnExactCleanOk
import Derived.Test.YtcdnfkoahajhhaaPFnExactCleanOkx0
import Derived.Test.YtcdnfkoahajhhaaPFnExactCleanOkx5
import Derived.Test.YtcdnfkoahajhhaaPFnExactCleanOkx7
namespace Go.Proofs.Ytcdnfkoahajhhaa.PFnExactCleanOk
open Go.RowKit Go.Proofs.YtcdnfkoahajhhaaW.PrintWords Go.Proofs.YtcdnfkoahajhhaaW.PrintLast Go.Proofs.YtcdnfkoahajhhaaW.PrintMore
attribute [local go_sem] max2_int min2_int max_two min_two max_three min_three max_four min_four   -- for this text's walks alone
set_option linter.unusedVariables false
set_option linter.unusedSimpArgs false

/-! ### spec_l10Words: function 254 -/
def spec_l10Words.f (a0_0 : ByteArray) (l0_1 : List (S206)) : Option (Int) := some (wrap64 ((a0_0.size : Int) / 8))
set_option maxHeartbeats 8000000 in
set_option maxRecDepth 100000 in
theorem spec_l10Words.calls (a0_0 : ByteArray) (A0_1 : Option Addr) (c0_1 : Nat) (l0_1 : List (S206)) (r : Int) (w : World) (hr0_1 : Kd.C k206 w A0_1 l0_1.length l0_1) (hc0_1 : l0_1.length ≤ c0_1) (h : spec_l10Words.f a0_0 l0_1 = some r) :
  Calls Try.prog 254 #[.agg #[.string a0_0, .slice A0_1 l0_1.length c0_1]] w fun e w' => e = .returned (.int .i64 r) ∧ Below w.heap.size w w' := by
 have hu113 := Try.underlying113
 have HR0_1 := Aside0.mk hr0_1
 have HC0_1 := Aside0.mk hc0_1
 clear hr0_1 hc0_1
 have HB := Aside0.mk (Below.refl w.heap.size w)
 have H : (some (wrap64 ((a0_0.size : Int) / 8))) = some r := h
 clear h
 obtain rfl := Option.some.inj H
 go_enter Try.func254, Try.ntmps254
 go_wp2_with (first | ((with_reducible refine gate_dst (N := 1) rfl ?_); refine box_event ?hg (N := 1) ?hd (cs := #[.string a0_0, .slice A0_1 l0_1.length c0_1]) (t := 113) ?hr ?_; (case hd => rfl); (case hg => rfl); (case hr => first | (go_simp; done) | (go_simp; rfl)); intro gb242 hg w2 hbox hb; have z_ := p_ (below_step tq_0 hb) <| p_ (hbox) <| p_ (gb_ hg tq_0) <| a_ (gb_ hg tq_0); clear HB; obtain ⟨HB, BK242, GW242, GE242⟩ := z_; clear hb hbox hg; have hcz3_0 := bc_ BK242.out 0; have hcz3_1 := bc_ BK242.out 1; have hfz3_0 := blk_frozen BK242.out 0; have hfz3_1 := blk_frozen BK242.out 1))
 go_ret
 exact ⟨tq_2, (by repeat (first | (with_reducible first | exact HB.out | apply below_alloc | apply pw_below_drewN | apply below_drew1 | refine below_set ?_ GE242.out) | exact HB.out))⟩

/-! ### spec_LinesIn: function 255 -/
def spec_LinesIn.f (a0_0 : Int) (a0_1 : Int) (a0_2 : Int) (a0_3 : Int) : Option (Int) := (spec_PartWords.f a0_0 a0_1 a0_2 a0_3).bind fun t244 => (some (wrap64 (Int.tdiv (wrap64 (a0_0 * t244)) 2)))
set_option maxHeartbeats 8000000 in
set_option maxRecDepth 100000 in
theorem spec_LinesIn.calls (a0_0 : Int) (a0_1 : Int) (a0_2 : Int) (a0_3 : Int) (r : Int) (w : World) (h : spec_LinesIn.f a0_0 a0_1 a0_2 a0_3 = some r) :
  Calls Try.prog 255 #[.agg #[.int .i64 a0_0, .int .i64 a0_1, .int .i64 a0_2, .int .i64 a0_3]] w fun e w' => e = .returned (.int .i64 r) ∧ Below w.heap.size w w' := by
 have hu72 := Try.underlying72
 have HB := Aside0.mk (Below.refl w.heap.size w)
 have H : ((spec_PartWords.f a0_0 a0_1 a0_2 a0_3).bind fun t244 => (some (wrap64 (Int.tdiv (wrap64 (a0_0 * t244)) 2)))) = some r := h
 clear h
 replace H := Option.bind_eq_some_iff.mp H
 obtain ⟨t244, A20, H⟩ := H
 replace H : (some (wrap64 (Int.tdiv (wrap64 (a0_0 * t244)) 2))) = some r := H
 have A2 := Aside0.mk A20
 clear A20
 obtain rfl := Option.some.inj H
 go_enter Try.func255, Try.ntmps255
 try go_wp2_with (first | ((with_reducible refine gate_dst (N := 1) rfl ?_); refine box_event ?hg (N := 1) ?hd (cs := #[.int .i64 a0_0, .int .i64 a0_1, .int .i64 a0_2, .int .i64 a0_3]) (t := 72) ?hr ?_; (case hd => rfl); (case hg => rfl); (case hr => first | (go_simp; done) | (go_simp; rfl)); intro gb243 hg w3 hbox hb; have z_ := p_ (below_step tq_0 hb) <| p_ (hbox) <| p_ (gb_ hg tq_0) <| a_ (gb_ hg tq_0); clear HB; obtain ⟨HB, BK243, GW243, GE243⟩ := z_; clear hb hbox hg))
 have z_ := p_ (blk_drew BK243.out) <| a_ (below_drew1 HB.out)
 clear BK243 HB
 obtain ⟨BK243, HB⟩ := z_
 refine start_ (n := 7) (S := fun w' => w'.cell? ⟨gb243, 0, none⟩ = some (.int .i64 a0_0) ∧ w'.cell? ⟨gb243, 1, none⟩ = some (.int .i64 a0_1) ∧ w'.cell? ⟨gb243, 2, none⟩ = some (.int .i64 a0_2) ∧ w'.cell? ⟨gb243, 3, none⟩ = some (.int .i64 a0_3)) (ds := []) bq_77 (by kernel_rfl) rfl rfl (bk4_ BK243.out) (fun hHeld => ?_)
 generalize w3.drew = w4 at BK243 HB hHeld ⊢
 refine yq_ (i := 0) (N := some 3) #[true, false, false, false, false, false, false] (by kernel_rfl) ?_
 refine take_ (i := 1) (N := some 4) (v := ?_) (a' := ?_) #[true, true, false, false, false, false, false] rfl rfl (by kernel_rfl) (fun _ _ _ h => h) (Or.inl ⟨(by rfl), ?_⟩) hHeld ?_ ?_
 rotate_left
 ·rintro w' ⟨s0, s1, s2, s3⟩
  go_simp
  with_reducible rfl
 rotate_left
 ·simp only [Act.put, List.setIfInBounds_toArray, List.set_cons_zero, List.set_cons_succ, i64_w, i32_w]
  rfl
 refine take_ (i := 2) (N := some 5) (v := ?_) (a' := ?_) #[true, true, true, false, false, false, false] rfl rfl (by kernel_rfl) (fun _ _ _ h => h) (Or.inl ⟨(by rfl), ?_⟩) hHeld ?_ ?_
 rotate_left
 ·rintro w' ⟨s0, s1, s2, s3⟩
  go_simp
  with_reducible rfl
 rotate_left
 ·simp only [Act.put, List.setIfInBounds_toArray, List.set_cons_zero, List.set_cons_succ, i64_w, i32_w]
  rfl
 refine one_ (i := 3) (N := some 6) #[true, true, true, true, false, false, false] rfl rfl (by kernel_rfl) (by decide) (fun K hK => ?_)
 refine goes_ Try.func273 (by kernel_rfl) rfl #[.agg #[.int .i64 a0_0, .int .i64 a0_1, .int .i64 a0_2, .int .i64 a0_3]] (by rfl) rfl rfl tq_1 ?_
 with_reducible refine (spec_PartWords.calls a0_0 a0_1 a0_2 a0_3 t244 _ A2.out).mono ?_
 rintro e w5 ⟨rfl, hb⟩
 refine ⟨_, rfl, ?_⟩
 have z_ := p_ (blk_below (by (with_reducible repeat (first | refine blk_drewN ?_ _ | refine blk_drew ?_ | refine blk_alloc ?_ _)); exact BK243.out) hb) <| a_ (below_step tq_171 hb)
 clear BK243 HB
 obtain ⟨BK243, HB⟩ := z_
 (try clear hb)
 (try clear hb2)
 (try clear hk)
 (try clear hi)
 refine hK.out _ _ (bk4_ BK243.out) (fun hHeld => ?_)
 clear hK K
 refine nm_ (some 6) ?_
 refine yq_ (i := 4) (N := some 7) bq_78 (by kernel_rfl) ?_
 refine yq_ (i := 5) (N := some 8) bq_79 (by kernel_rfl) ?_
 refine yq_ (i := 6) (N := some 2) bq_80 (by kernel_rfl) ?_
 refine done_ (by kernel_rfl) ?_
 try go_wp2
 go_ret
 exact ⟨tq_2, tq_171⟩

/-! ### spec_l19Has: function 230 -/
def spec_l19Has.f (k : Nat) (a0_0 : ByteArray) (l0_1 : List (S206)) (a1_0 : Int) (a1_1 : Int) (a1_2 : Int) (a1_3 : Int) : Option (Bool) := (spec_GeoOk.f a1_0 a1_1 a1_2 a1_3).bind fun t247 => (if t247 = true then ((spec_MemoryOk.f k a0_0 l0_1).bind fun t248 => (if t248 = true then ((spec_l10Words.f a0_0 l0_1).bind fun t249 => ((spec_LinesIn.f a1_0 a1_1 a1_2 a1_3).bind fun t250 => (some (decide (t249 ≥ (wrap64 (2 * t250))))))) else (some false))) else (some false))
theorem spec_l19Has.mono : ∀ a0 a1 a2 a3 a4 a5 k, LeO (spec_l19Has.f k a0 a1 a2 a3 a4 a5) (spec_l19Has.f (k + 1) a0 a1 a2 a3 a4 a5) := by
 intro a0 a1 a2 a3 a4 a5 k
 unfold spec_l19Has.f
 repeat' first
   | (with_reducible exact spec_MemoryOk.mono ..)
   | (with_reducible exact LeO.refl _)
   | (with_reducible exact LeO.none _)
   | (with_reducible refine LeO.ite ?_ ?_)
   | (with_reducible refine LeO.bind ?_ (fun _ => ?_))
   | exact spec_MemoryOk.mono ..
   | exact LeO.none _
   | refine LeO.ite ?_ ?_
   | refine LeO.bind ?_ (fun _ => ?_)
def spec_l19Has.T1 : Bool × List (List Nat × List Nat) := (true, [([], []), ([0], [0]), ([1, 1], [1]), ([2], [2]), ([3, 2, 2], [2, 3]), ([2, 4], [2, 4]), ([5, 4], [5]), ([6], [6]), ([7, 6, 6], [6, 7]), ([6], [6]), ([9, 8, 6], [6, 9]), ([10, 6], [6, 10]), ([8, 11, 6], [6, 8, 11]), ([6, 12], [6, 12]), ([13, 10, 0, 1, 2, 3, 4, 5, 6, 7, 8, 9, 10, 11, 12, 13], [13])])
def spec_l19Has.B1 : List Nat := [0, 1, 3, 7, 15, 31, 63, 127, 255, 127, 1023, 2047, 4095, 8191, 16383]
theorem spec_l19Has.tab1 : rtab .any (opsOf Try.f230 1) = spec_l19Has.T1 := by kernel_rfl
theorem spec_l19Has.bits1 : waitsOk spec_l19Has.T1.2 spec_l19Has.B1 = true := by kernel_rfl
set_option maxHeartbeats 8000000 in
set_option maxRecDepth 100000 in
theorem spec_l19Has.calls (k : Nat) (a0_0 : ByteArray) (A0_1 : Option Addr) (c0_1 : Nat) (l0_1 : List (S206)) (a1_0 : Int) (a1_1 : Int) (a1_2 : Int) (a1_3 : Int) (r : Bool) (w : World) (hr0_1 : Kd.C k206 w A0_1 l0_1.length l0_1) (hc0_1 : l0_1.length ≤ c0_1) (h : spec_l19Has.f k a0_0 l0_1 a1_0 a1_1 a1_2 a1_3 = some r) :
  Calls Try.prog 230 #[.agg #[.string a0_0, .slice A0_1 l0_1.length c0_1], .agg #[.int .i64 a1_0, .int .i64 a1_1, .int .i64 a1_2, .int .i64 a1_3]] w fun e w' => e = .returned (.bool r) ∧ Below w.heap.size w w' := by
 have hu113 := Try.underlying113
 have hu72 := Try.underlying72
 have HR0_1 := Aside0.mk hr0_1
 have HC0_1 := Aside0.mk hc0_1
 clear hr0_1 hc0_1
 have HB := Aside0.mk (Below.refl w.heap.size w)
 have H : ((spec_GeoOk.f a1_0 a1_1 a1_2 a1_3).bind fun t247 => (if t247 = true then ((spec_MemoryOk.f k a0_0 l0_1).bind fun t248 => (if t248 = true then ((spec_l10Words.f a0_0 l0_1).bind fun t249 => ((spec_LinesIn.f a1_0 a1_1 a1_2 a1_3).bind fun t250 => (some (decide (t249 ≥ (wrap64 (2 * t250))))))) else (some false))) else (some false))) = some r := h
 clear h
 replace H := Option.bind_eq_some_iff.mp H
 obtain ⟨t247, A30, H⟩ := H
 replace H : (if t247 = true then ((spec_MemoryOk.f k a0_0 l0_1).bind fun t248 => (if t248 = true then ((spec_l10Words.f a0_0 l0_1).bind fun t249 => ((spec_LinesIn.f a1_0 a1_1 a1_2 a1_3).bind fun t250 => (some (decide (t249 ≥ (wrap64 (2 * t250))))))) else (some false))) else (some false)) = some r := H
 have A3 := Aside0.mk A30
 clear A30
 by_cases c4 : t247 = true
 ·subst c4
  have H1 : ((spec_MemoryOk.f k a0_0 l0_1).bind fun t248 => (if t248 = true then ((spec_l10Words.f a0_0 l0_1).bind fun t249 => ((spec_LinesIn.f a1_0 a1_1 a1_2 a1_3).bind fun t250 => (some (decide (t249 ≥ (wrap64 (2 * t250))))))) else (some false))) = some r := by rw [if_pos rfl] at H; exact H
  clear H
  have H := H1
  clear H1
  replace H := Option.bind_eq_some_iff.mp H
  obtain ⟨t248, A50, H⟩ := H
  replace H : (if t248 = true then ((spec_l10Words.f a0_0 l0_1).bind fun t249 => ((spec_LinesIn.f a1_0 a1_1 a1_2 a1_3).bind fun t250 => (some (decide (t249 ≥ (wrap64 (2 * t250))))))) else (some false)) = some r := H
  have A5 := Aside0.mk A50
  clear A50
  by_cases c6 : t248 = true
  ·subst c6
   have H1 : ((spec_l10Words.f a0_0 l0_1).bind fun t249 => ((spec_LinesIn.f a1_0 a1_1 a1_2 a1_3).bind fun t250 => (some (decide (t249 ≥ (wrap64 (2 * t250))))))) = some r := by rw [if_pos rfl] at H; exact H
   clear H
   have H := H1
   clear H1
   replace H := Option.bind_eq_some_iff.mp H
   obtain ⟨t249, A70, H⟩ := H
   replace H : ((spec_LinesIn.f a1_0 a1_1 a1_2 a1_3).bind fun t250 => (some (decide (t249 ≥ (wrap64 (2 * t250)))))) = some r := H
   have A7 := Aside0.mk A70
   clear A70
   replace H := Option.bind_eq_some_iff.mp H
   obtain ⟨t250, A80, H⟩ := H
   replace H : (some (decide (t249 ≥ (wrap64 (2 * t250))))) = some r := H
   have A8 := Aside0.mk A80
   clear A80
   obtain rfl := Option.some.inj H
   go_enter Try.func230, Try.ntmps230
   try go_wp2_with (first | ((with_reducible refine gate_dst (N := 2) rfl ?_); refine box_event ?hg (N := 2) ?hd (cs := #[.string a0_0, .slice A0_1 l0_1.length c0_1]) (t := 113) ?hr ?_; (case hd => rfl); (case hg => rfl); (case hr => first | (go_simp; done) | (go_simp; rfl)); intro gb245 hg w9 hbox hb; have z_ := p_ (below_step tq_0 hb) <| p_ (hbox) <| p_ (gb_ hg tq_0) <| a_ (gb_ hg tq_0); clear HB; obtain ⟨HB, BK245, GW245, GE245⟩ := z_; clear hb hbox hg) | ((with_reducible refine gate_dst (N := 3) rfl ?_); refine box_event ?hg (N := 3) ?hd (cs := #[.int .i64 a1_0, .int .i64 a1_1, .int .i64 a1_2, .int .i64 a1_3]) (t := 72) ?hr ?_; (case hd => rfl); (case hg => rfl); (case hr => first | (go_simp; done) | (go_simp; rfl)); intro gb246 hg w10 hbox hb; have z_ := p_ (blk_below tq_30 hb) <| p_ (below_step tq_45 hb) <| p_ (hbox) <| p_ (gb_ hg tq_45) <| p_ (gb_ hg tq_45) <| p_ (ltne_ hg (blk_lt tq_30)) <| a_ (gtne_ hg (blk_lt tq_30)); clear BK245 HB; obtain ⟨BK245, HB, BK246, GW246, GE246, NB245_246, NB246_245⟩ := z_; clear hb hbox hg))
   have z_ := p_ (blk_drew BK245.out) <| p_ (blk_drew BK246.out) <| a_ (below_drew1 HB.out)
   clear BK245 BK246 HB
   obtain ⟨BK245, BK246, HB⟩ := z_
   refine start_ (n := 15) (S := fun w' => w'.cell? ⟨gb246, 0, none⟩ = some (.int .i64 a1_0) ∧ w'.cell? ⟨gb246, 1, none⟩ = some (.int .i64 a1_1) ∧ w'.cell? ⟨gb246, 2, none⟩ = some (.int .i64 a1_2) ∧ w'.cell? ⟨gb246, 3, none⟩ = some (.int .i64 a1_3) ∧ w'.cell? ⟨gb245, 0, none⟩ = some (.string a0_0) ∧ w'.cell? ⟨gb245, 1, none⟩ = some (.slice A0_1 l0_1.length c0_1)) (ds := []) bq_81 (by kernel_rfl) rfl rfl (bc4_ BK246.out (bk2_ BK245.out)) (fun hHeld => ?_); refine with_tabW spec_l19Has.tab1 spec_l19Has.bits1 (fun HT_ HW_ => ?_)
   generalize w10.drew = w11 at BK245 BK246 HB hHeld ⊢
   refine tk_ (i := 0) (N := some 5) bq_82 (take_ofW HT_.out HW_.out (by kernel_rfl)) hHeld ?_
   refine one_ (i := 1) (N := some 6) bq_83 rfl rfl (one_of HT_.out (by kernel_rfl)) (by decide) (fun K hK => ?_)
   refine goes_ Try.func113 (by kernel_rfl) rfl #[.agg #[.int .i64 a1_0, .int .i64 a1_1, .int .i64 a1_2, .int .i64 a1_3]] (by rfl) rfl rfl tq_1 ?_
   with_reducible refine (spec_GeoOk.calls a1_0 a1_1 a1_2 a1_3 true _ A3.out).mono ?_
   rintro e w12 ⟨rfl, hb⟩
   refine ⟨_, rfl, ?_⟩
   have z_ := p_ (blk_below tq_30 hb) <| p_ (blk_below tq_74 hb) <| a_ (below_step tq_27 hb)
   clear BK245 BK246 HB
   obtain ⟨BK245, BK246, HB⟩ := z_
   (try clear hb)
   (try clear hb2)
   (try clear hk)
   (try clear hi)
   refine hK.out _ _ (bc4_ BK246.out (bk2_ BK245.out)) (fun hHeld => ?_)
   clear hK K
   refine nm_ (some 6) ?_
   refine yq_ (i := 2) (N := some 7) bq_84 (any_of HT_.out (by kernel_rfl)) ?_
   refine tk_ (i := 3) (N := some 8) bq_85 (take_ofW HT_.out HW_.out (by kernel_rfl)) hHeld ?_
   refine one_ (i := 4) (N := some 9) bq_86 rfl rfl (one_of HT_.out (by kernel_rfl)) (by decide) (fun K hK => ?_)
   refine goes_ Try.func253 (by kernel_rfl) rfl #[.agg #[.string a0_0, .slice A0_1 l0_1.length c0_1]] (by rfl) rfl rfl tq_1 ?_
   with_reducible refine (spec_MemoryOk.calls k a0_0 _ _ l0_1 true _ ?side1 ?side2 A5.out).mono ?_
   (case side1 => exact tq_4)
   (case side2 => exact HC0_1.out)
   rintro e w13 ⟨rfl, hb⟩
   refine ⟨_, rfl, ?_⟩
   have z_ := p_ (blk_below tq_30 hb) <| p_ (blk_below tq_74 hb) <| a_ (below_step tq_27 hb)
   clear BK245 BK246 HB
   obtain ⟨BK245, BK246, HB⟩ := z_
   (try clear hb)
   (try clear hb2)
   (try clear hk)
   (try clear hi)
   refine hK.out _ _ (bc4_ BK246.out (bk2_ BK245.out)) (fun hHeld => ?_)
   clear hK K
   refine nm_ (some 9) ?_
   refine yq_ (i := 5) (N := some 10) bq_87 (any_of HT_.out (by kernel_rfl)) ?_
   refine yq_ (i := 6) (N := some 11) bq_88 (any_of HT_.out (by kernel_rfl)) ?_
   refine tk_ (i := 7) (N := some 12) bq_89 (take_ofW HT_.out HW_.out (by kernel_rfl)) hHeld ?_
   refine tk_ (i := 9) (N := some 14) #[true, true, true, true, true, true, true, true, false, true, false, false, false, false, false] (take_ofW HT_.out HW_.out (by kernel_rfl)) hHeld ?_
   refine one_ (i := 8) (N := some 13) bq_90 rfl rfl (one_of HT_.out (by kernel_rfl)) (by decide) (fun K hK => ?_)
   refine goes_ Try.func254 (by kernel_rfl) rfl #[.agg #[.string a0_0, .slice A0_1 l0_1.length c0_1]] (by rfl) rfl rfl tq_1 ?_
   with_reducible refine (spec_l10Words.calls a0_0 _ _ l0_1 t249 _ ?side1 ?side2 A7.out).mono ?_
   (case side1 => exact tq_4)
   (case side2 => exact HC0_1.out)
   rintro e w14 ⟨rfl, hb⟩
   refine ⟨_, rfl, ?_⟩
   have z_ := p_ (blk_below tq_30 hb) <| p_ (blk_below tq_74 hb) <| a_ (below_step tq_27 hb)
   clear BK245 BK246 HB
   obtain ⟨BK245, BK246, HB⟩ := z_
   (try clear hb)
   (try clear hb2)
   (try clear hk)
   (try clear hi)
   refine hK.out _ _ (bc4_ BK246.out (bk2_ BK245.out)) (fun hHeld => ?_)
   clear hK K
   refine nm_ (some 13) ?_
   refine one_ (i := 10) (N := some 15) bq_91 rfl rfl (one_of HT_.out (by kernel_rfl)) (by decide) (fun K hK => ?_)
   refine goes_ Try.func255 (by kernel_rfl) rfl #[.agg #[.int .i64 a1_0, .int .i64 a1_1, .int .i64 a1_2, .int .i64 a1_3]] (by rfl) rfl rfl tq_1 ?_
   with_reducible refine (spec_LinesIn.calls a1_0 a1_1 a1_2 a1_3 t250 _ A8.out).mono ?_
   rintro e w15 ⟨rfl, hb⟩
   refine ⟨_, rfl, ?_⟩
   have z_ := p_ (blk_below tq_30 hb) <| p_ (blk_below tq_74 hb) <| a_ (below_step tq_27 hb)
   clear BK245 BK246 HB
   obtain ⟨BK245, BK246, HB⟩ := z_
   (try clear hb)
   (try clear hb2)
   (try clear hk)
   (try clear hi)
   refine hK.out _ _ (bc4_ BK246.out (bk2_ BK245.out)) (fun hHeld => ?_)
   clear hK K
   refine nm_ (some 15) ?_
   refine yq_ (i := 11) (N := some 16) bq_92 (any_of HT_.out (by kernel_rfl)) ?_
   refine yq_ (i := 12) (N := some 17) bq_93 (any_of HT_.out (by kernel_rfl)) ?_
   refine yq_ (i := 13) (N := some 18) bq_94 (any_of HT_.out (by kernel_rfl)) ?_
   refine yq_ (i := 14) (N := some 4) bq_95 (any_of HT_.out (by kernel_rfl)) ?_
   refine done_ (done_of HT_.out (by kernel_rfl)) ?_
   try go_wp2
   go_ret
   exact ⟨tq_2, tq_27⟩
  ·replace c6 := Bool.eq_false_iff.mpr c6
   subst c6
   have H1 : (some false) = some r := by rw [if_neg (show ¬ (false = true) by decide)] at H; exact H
   clear H
   have H := H1
   clear H1
   obtain rfl := Option.some.inj H
   go_enter Try.func230, Try.ntmps230
   try go_wp2_with (first | ((with_reducible refine gate_dst (N := 2) rfl ?_); refine box_event ?hg (N := 2) ?hd (cs := #[.string a0_0, .slice A0_1 l0_1.length c0_1]) (t := 113) ?hr ?_; (case hd => rfl); (case hg => rfl); (case hr => first | (go_simp; done) | (go_simp; rfl)); intro gb245 hg w16 hbox hb; have z_ := p_ (below_step tq_0 hb) <| p_ (hbox) <| p_ (gb_ hg tq_0) <| a_ (gb_ hg tq_0); clear HB; obtain ⟨HB, BK245, GW245, GE245⟩ := z_; clear hb hbox hg) | ((with_reducible refine gate_dst (N := 3) rfl ?_); refine box_event ?hg (N := 3) ?hd (cs := #[.int .i64 a1_0, .int .i64 a1_1, .int .i64 a1_2, .int .i64 a1_3]) (t := 72) ?hr ?_; (case hd => rfl); (case hg => rfl); (case hr => first | (go_simp; done) | (go_simp; rfl)); intro gb246 hg w17 hbox hb; have z_ := p_ (blk_below tq_30 hb) <| p_ (below_step tq_45 hb) <| p_ (hbox) <| p_ (gb_ hg tq_45) <| p_ (gb_ hg tq_45) <| p_ (ltne_ hg (blk_lt tq_30)) <| a_ (gtne_ hg (blk_lt tq_30)); clear BK245 HB; obtain ⟨BK245, HB, BK246, GW246, GE246, NB245_246, NB246_245⟩ := z_; clear hb hbox hg))
   have z_ := p_ (blk_drew BK245.out) <| p_ (blk_drew BK246.out) <| a_ (below_drew1 HB.out)
   clear BK245 BK246 HB
   obtain ⟨BK245, BK246, HB⟩ := z_
   refine start_ (n := 15) (S := fun w' => w'.cell? ⟨gb246, 0, none⟩ = some (.int .i64 a1_0) ∧ w'.cell? ⟨gb246, 1, none⟩ = some (.int .i64 a1_1) ∧ w'.cell? ⟨gb246, 2, none⟩ = some (.int .i64 a1_2) ∧ w'.cell? ⟨gb246, 3, none⟩ = some (.int .i64 a1_3) ∧ w'.cell? ⟨gb245, 0, none⟩ = some (.string a0_0) ∧ w'.cell? ⟨gb245, 1, none⟩ = some (.slice A0_1 l0_1.length c0_1)) (ds := []) bq_81 (by kernel_rfl) rfl rfl (bc4_ BK246.out (bk2_ BK245.out)) (fun hHeld => ?_); refine with_tabW spec_l19Has.tab1 spec_l19Has.bits1 (fun HT_ HW_ => ?_)
   generalize w17.drew = w18 at BK245 BK246 HB hHeld ⊢
   refine tk_ (i := 0) (N := some 5) bq_82 (take_ofW HT_.out HW_.out (by kernel_rfl)) hHeld ?_
   refine one_ (i := 1) (N := some 6) bq_83 rfl rfl (one_of HT_.out (by kernel_rfl)) (by decide) (fun K hK => ?_)
   refine goes_ Try.func113 (by kernel_rfl) rfl #[.agg #[.int .i64 a1_0, .int .i64 a1_1, .int .i64 a1_2, .int .i64 a1_3]] (by rfl) rfl rfl tq_1 ?_
   with_reducible refine (spec_GeoOk.calls a1_0 a1_1 a1_2 a1_3 true _ A3.out).mono ?_
   rintro e w19 ⟨rfl, hb⟩
   refine ⟨_, rfl, ?_⟩
   have z_ := p_ (blk_below tq_30 hb) <| p_ (blk_below tq_74 hb) <| a_ (below_step tq_27 hb)
   clear BK245 BK246 HB
   obtain ⟨BK245, BK246, HB⟩ := z_
   (try clear hb)
   (try clear hb2)
   (try clear hk)
   (try clear hi)
   refine hK.out _ _ (bc4_ BK246.out (bk2_ BK245.out)) (fun hHeld => ?_)
   clear hK K
   refine nm_ (some 6) ?_
   refine yq_ (i := 2) (N := some 7) bq_84 (any_of HT_.out (by kernel_rfl)) ?_
   refine tk_ (i := 3) (N := some 8) bq_85 (take_ofW HT_.out HW_.out (by kernel_rfl)) hHeld ?_
   refine one_ (i := 4) (N := some 9) bq_86 rfl rfl (one_of HT_.out (by kernel_rfl)) (by decide) (fun K hK => ?_)
   refine goes_ Try.func253 (by kernel_rfl) rfl #[.agg #[.string a0_0, .slice A0_1 l0_1.length c0_1]] (by rfl) rfl rfl tq_1 ?_
   with_reducible refine (spec_MemoryOk.calls k a0_0 _ _ l0_1 false _ ?side1 ?side2 A5.out).mono ?_
   (case side1 => exact tq_4)
   (case side2 => exact HC0_1.out)
   rintro e w20 ⟨rfl, hb⟩
   refine ⟨_, rfl, ?_⟩
   have z_ := p_ (blk_below tq_30 hb) <| p_ (blk_below tq_74 hb) <| a_ (below_step tq_27 hb)
   clear BK245 BK246 HB
   obtain ⟨BK245, BK246, HB⟩ := z_
   (try clear hb)
   (try clear hb2)
   (try clear hk)
   (try clear hi)
   refine hK.out _ _ (bc4_ BK246.out (bk2_ BK245.out)) (fun hHeld => ?_)
   clear hK K
   refine nm_ (some 9) ?_
   refine yq_ (i := 5) (N := some 10) bq_87 (any_of HT_.out (by kernel_rfl)) ?_
   refine yq_ (i := 6) (N := some 11) bq_88 (any_of HT_.out (by kernel_rfl)) ?_
   refine uq_ (i := 7) (N := some 12) bq_89 (any_of HT_.out (by kernel_rfl)) ?_
   refine uq_ (i := 8) (N := some 13) bq_145 (any_of HT_.out (by kernel_rfl)) ?_
   refine uq_ (i := 9) (N := some 14) bq_90 (any_of HT_.out (by kernel_rfl)) ?_
   refine uq_ (i := 10) (N := some 15) bq_91 (any_of HT_.out (by kernel_rfl)) ?_
   refine uq_ (i := 11) (N := some 16) bq_92 (any_of HT_.out (by kernel_rfl)) ?_
   refine uq_ (i := 12) (N := some 17) bq_93 (any_of HT_.out (by kernel_rfl)) ?_
   refine yq_ (i := 13) (N := some 18) bq_94 (any_of HT_.out (by kernel_rfl)) ?_
   refine yq_ (i := 14) (N := some 4) bq_95 (any_of HT_.out (by kernel_rfl)) ?_
   refine done_ (done_of HT_.out (by kernel_rfl)) ?_
   try go_wp2
   go_ret
   exact ⟨tq_2, tq_27⟩
 ·replace c4 := Bool.eq_false_iff.mpr c4
  subst c4
  have H1 : (some false) = some r := by rw [if_neg (show ¬ (false = true) by decide)] at H; exact H
  clear H
  have H := H1
  clear H1
  obtain rfl := Option.some.inj H
  go_enter Try.func230, Try.ntmps230
  try go_wp2_with (first | ((with_reducible refine gate_dst (N := 2) rfl ?_); refine box_event ?hg (N := 2) ?hd (cs := #[.string a0_0, .slice A0_1 l0_1.length c0_1]) (t := 113) ?hr ?_; (case hd => rfl); (case hg => rfl); (case hr => first | (go_simp; done) | (go_simp; rfl)); intro gb245 hg w21 hbox hb; have z_ := p_ (below_step tq_0 hb) <| p_ (hbox) <| p_ (gb_ hg tq_0) <| a_ (gb_ hg tq_0); clear HB; obtain ⟨HB, BK245, GW245, GE245⟩ := z_; clear hb hbox hg) | ((with_reducible refine gate_dst (N := 3) rfl ?_); refine box_event ?hg (N := 3) ?hd (cs := #[.int .i64 a1_0, .int .i64 a1_1, .int .i64 a1_2, .int .i64 a1_3]) (t := 72) ?hr ?_; (case hd => rfl); (case hg => rfl); (case hr => first | (go_simp; done) | (go_simp; rfl)); intro gb246 hg w22 hbox hb; have z_ := p_ (blk_below tq_30 hb) <| p_ (below_step tq_45 hb) <| p_ (hbox) <| p_ (gb_ hg tq_45) <| p_ (gb_ hg tq_45) <| p_ (ltne_ hg (blk_lt tq_30)) <| a_ (gtne_ hg (blk_lt tq_30)); clear BK245 HB; obtain ⟨BK245, HB, BK246, GW246, GE246, NB245_246, NB246_245⟩ := z_; clear hb hbox hg))
  have z_ := p_ (blk_drew BK245.out) <| p_ (blk_drew BK246.out) <| a_ (below_drew1 HB.out)
  clear BK245 BK246 HB
  obtain ⟨BK245, BK246, HB⟩ := z_
  refine start_ (n := 15) (S := fun w' => w'.cell? ⟨gb246, 0, none⟩ = some (.int .i64 a1_0) ∧ w'.cell? ⟨gb246, 1, none⟩ = some (.int .i64 a1_1) ∧ w'.cell? ⟨gb246, 2, none⟩ = some (.int .i64 a1_2) ∧ w'.cell? ⟨gb246, 3, none⟩ = some (.int .i64 a1_3)) (ds := []) bq_81 (by kernel_rfl) rfl rfl (bk4_ BK246.out) (fun hHeld => ?_); refine with_tabW spec_l19Has.tab1 spec_l19Has.bits1 (fun HT_ HW_ => ?_)
  generalize w22.drew = w23 at BK245 BK246 HB hHeld ⊢
  refine tk_ (i := 0) (N := some 5) bq_82 (take_ofW HT_.out HW_.out (by kernel_rfl)) hHeld ?_
  refine one_ (i := 1) (N := some 6) bq_83 rfl rfl (one_of HT_.out (by kernel_rfl)) (by decide) (fun K hK => ?_)
  refine goes_ Try.func113 (by kernel_rfl) rfl #[.agg #[.int .i64 a1_0, .int .i64 a1_1, .int .i64 a1_2, .int .i64 a1_3]] (by rfl) rfl rfl tq_1 ?_
  with_reducible refine (spec_GeoOk.calls a1_0 a1_1 a1_2 a1_3 false _ A3.out).mono ?_
  rintro e w24 ⟨rfl, hb⟩
  refine ⟨_, rfl, ?_⟩
  have z_ := p_ (blk_below tq_30 hb) <| p_ (blk_below tq_74 hb) <| a_ (below_step tq_27 hb)
  clear BK245 BK246 HB
  obtain ⟨BK245, BK246, HB⟩ := z_
  (try clear hb)
  (try clear hb2)
  (try clear hk)
  (try clear hi)
  refine hK.out _ _ (bk4_ BK246.out) (fun hHeld => ?_)
  clear hK K
  refine nm_ (some 6) ?_
  refine yq_ (i := 2) (N := some 7) bq_84 (any_of HT_.out (by kernel_rfl)) ?_
  refine uq_ (i := 3) (N := some 8) bq_85 (any_of HT_.out (by kernel_rfl)) ?_
  refine uq_ (i := 4) (N := some 9) bq_86 (any_of HT_.out (by kernel_rfl)) ?_
  refine yq_ (i := 5) (N := some 10) bq_87 (any_of HT_.out (by kernel_rfl)) ?_
  refine yq_ (i := 6) (N := some 11) bq_88 (any_of HT_.out (by kernel_rfl)) ?_
  refine uq_ (i := 7) (N := some 12) bq_89 (any_of HT_.out (by kernel_rfl)) ?_
  refine uq_ (i := 8) (N := some 13) bq_145 (any_of HT_.out (by kernel_rfl)) ?_
  refine uq_ (i := 9) (N := some 14) bq_90 (any_of HT_.out (by kernel_rfl)) ?_
  refine uq_ (i := 10) (N := some 15) bq_91 (any_of HT_.out (by kernel_rfl)) ?_
  refine uq_ (i := 11) (N := some 16) bq_92 (any_of HT_.out (by kernel_rfl)) ?_
  refine uq_ (i := 12) (N := some 17) bq_93 (any_of HT_.out (by kernel_rfl)) ?_
  refine yq_ (i := 13) (N := some 18) bq_94 (any_of HT_.out (by kernel_rfl)) ?_
  refine yq_ (i := 14) (N := some 4) bq_95 (any_of HT_.out (by kernel_rfl)) ?_
  refine done_ (done_of HT_.out (by kernel_rfl)) ?_
  try go_wp2
  go_ret
  exact ⟨tq_2, tq_27⟩

/-! ### spec_l10Cell: function 275 -/
def spec_l10Cell.l0 : Nat → Int → Int → ByteArray → List (S206) → Option (Int)
 | 0, _, _, _, _ => none
 | k + 1, x1, x5, x252000, x252001 => if x5 < (x252001.length : Int) then (if 0 ≤ x5 then (if ((rd_T206 x252001 x5).f0) = x1 then (some x5) else (spec_l10Cell.l0 k x1 (wrap64 (x5 + 1)) x252000 x252001)) else (none)) else (some (-1))
def spec_l10Cell.f (k : Nat) (a0_0 : ByteArray) (l0_1 : List (S206)) (a1 : Int) : Option (Int) := spec_l10Cell.l0 k a1 0 a0_0 l0_1
theorem spec_l10Cell.mono_l : ∀ k, (∀ y0 y1 y2 y3, LeO (spec_l10Cell.l0 k y0 y1 y2 y3) (spec_l10Cell.l0 (k + 1) y0 y1 y2 y3))
 | 0 => fun _ _ _ _ r h => by simp [spec_l10Cell.l0] at h
 | k + 1 => by
  have ih0 := spec_l10Cell.mono_l k
  ·intro y0 y1 y2 y3
   unfold spec_l10Cell.l0
   repeat' first
   | (with_reducible exact ih0 ..)
   | (with_reducible exact LeO.refl _)
   | (with_reducible exact LeO.none _)
   | (with_reducible refine LeO.ite ?_ ?_)
   | (with_reducible refine LeO.bind ?_ (fun _ => ?_))
   | exact ih0 ..
   | exact LeO.none _
   | refine LeO.ite ?_ ?_
   | refine LeO.bind ?_ (fun _ => ?_)
theorem spec_l10Cell.mono : ∀ a0 a1 a2 k, LeO (spec_l10Cell.f k a0 a1 a2) (spec_l10Cell.f (k + 1) a0 a1 a2) := by
 intro a0 a1 a2 k
 have ih0 := spec_l10Cell.mono_l k
 unfold spec_l10Cell.f
 repeat' first
   | (with_reducible exact ih0 ..)
   | (with_reducible exact LeO.refl _)
   | (with_reducible exact LeO.none _)
   | (with_reducible refine LeO.ite ?_ ?_)
   | (with_reducible refine LeO.bind ?_ (fun _ => ?_))
   | exact ih0 ..
   | exact LeO.none _
   | refine LeO.ite ?_ ?_
   | refine LeO.bind ?_ (fun _ => ?_)
set_option maxHeartbeats 8000000 in
set_option maxRecDepth 100000 in
theorem spec_l10Cell.calls (k : Nat) (a0_0 : ByteArray) (A0_1 : Option Addr) (c0_1 : Nat) (l0_1 : List (S206)) (a1 : Int) (r : Int) (w : World) (hr0_1 : Kd.C k206 w A0_1 l0_1.length l0_1) (hc0_1 : l0_1.length ≤ c0_1) (h : spec_l10Cell.f k a0_0 l0_1 a1 = some r) :
  Calls Try.prog 275 #[.agg #[.string a0_0, .slice A0_1 l0_1.length c0_1], .int .i64 a1] w fun e w' => e = .returned (.int .i64 r) ∧ Below w.heap.size w w' := by
 have hu113 := Try.underlying113
 have HR0_1 := Aside0.mk hr0_1
 have HC0_1 := Aside0.mk hc0_1
 clear hr0_1 hc0_1
 have HB := Aside0.mk (Below.refl w.heap.size w)
 have H : (spec_l10Cell.l0 k a1 0 a0_0 l0_1) = some r := h
 clear h
 have H' := Aside0.mk H
 clear H
 go_enter Try.func275, Try.ntmps275
 go_wp2_with (first | ((with_reducible refine gate_dst (N := 2) rfl ?_); refine box_event ?hg (N := 2) ?hd (cs := #[.string a0_0, .slice A0_1 l0_1.length c0_1]) (t := 113) ?hr ?_; (case hd => rfl); (case hg => rfl); (case hr => first | (go_simp; done) | (go_simp; rfl)); intro gb251 hg w3 hbox hb; have z_ := p_ (below_step tq_0 hb) <| p_ (hbox) <| p_ (gb_ hg tq_0) <| a_ (gb_ hg tq_0); clear HB; obtain ⟨HB, BK251, GW251, GE251⟩ := z_; clear hb hbox hg))
 go_loopg [5] k (fun kq v5 w' => ∃ (x5_1 : Int), v5 = .int .i64 x5_1 ∧ Aside0 (spec_l10Cell.l0 kq a1 x5_1 a0_0 l0_1 = some r) ∧ Aside0 (kq ≤ k) ∧ Aside0 (w'.heap[gb251]? = some (.cells #[.string a0_0, (.slice A0_1 l0_1.length c0_1)] 113 (0, 0))) ∧ Aside0 (Below w.heap.size w w'))
 case atStart => exact ⟨(0), tq_7, H', ⟨Nat.le_refl _⟩, ⟨(by (with_reducible repeat (first | refine blk_drewN ?_ _ | refine blk_drew ?_ | refine blk_alloc ?_ _)); exact BK251.out)⟩, ⟨tq_100⟩⟩
 case round =>
  clear H'
  try clear c2
  try clear p2
  obtain ⟨x5_1, rfl, HA, HK1, BK251, HB⟩ := hrel
  cases gk with
  | zero => exact absurd HA.out (by simp [spec_l10Cell.l0])
  | succ k1 =>
   have H := HA.out
   clear HA
   simp only [spec_l10Cell.l0] at H
   by_cases c4 : x5_1 < (l0_1.length : Int)
   ·rw [if_pos c4] at H
    have c4b0 : decide (x5_1 < (l0_1.length : Int)) = true := decide_eq_true c4
    clear c4
    by_cases c5 : 0 ≤ x5_1
    ·rw [if_pos c5] at H
     have c5b0 : decide (0 ≤ x5_1) = true := decide_eq_true c5
     clear c5
     by_cases c6 : ((rd_T206 l0_1 x5_1).f0) = a1
     ·rw [if_pos c6] at H
      have c6b0 : (((rd_T206 l0_1 x5_1).f0) == a1) = true := beq_iff_eq.mpr c6
      have c6b1 : (((rd_T206 l0_1 x5_1).f0) != a1) = false := bne_eq_false_iff_eq.mpr c6
      clear c6
      obtain rfl := Option.some.inj H
      have hcz7_0 := bc_ BK251.out 0
      have hcz7_1 := bc_ BK251.out 1
      have hfz7_0 := blk_frozen BK251.out 0
      have hfz7_1 := blk_frozen BK251.out 1
      have p252 : 0 ≤ (x5_1 : Int) := of_decide_eq_true tq_3
      have q252 : x5_1 < (l0_1.length : Int) := of_decide_eq_true tq_3
      obtain ⟨ad252, e252, hx252_0, hx252_1, hx252_2⟩ := at_T206 HR0_1.out x5_1 p252 q252
      cases e252
      replace hx252_0 := hx_ HB.out hx252_0
      replace hx252_1 := hx_ HB.out hx252_1
      replace hx252_2 := hx_ HB.out hx252_2
      replace p252 := eq_true p252
      replace q252 := eq_true q252
      go_wp2
      go_ret
      exact ⟨tq_2, tq_100⟩
     ·rw [if_neg c6] at H
      have c6b0 : (((rd_T206 l0_1 x5_1).f0) == a1) = false := beq_eq_false_iff_ne.mpr c6
      have c6b1 : (((rd_T206 l0_1 x5_1).f0) != a1) = true := bne_iff_ne.mpr c6
      have H' := Aside0.mk H
      clear H
      have hcz8_0 := bc_ BK251.out 0
      have hcz8_1 := bc_ BK251.out 1
      have hfz8_0 := blk_frozen BK251.out 0
      have hfz8_1 := blk_frozen BK251.out 1
      have p252 : 0 ≤ (x5_1 : Int) := of_decide_eq_true tq_3
      have q252 : x5_1 < (l0_1.length : Int) := of_decide_eq_true tq_3
      obtain ⟨ad252, e252, hx252_0, hx252_1, hx252_2⟩ := at_T206 HR0_1.out x5_1 p252 q252
      cases e252
      replace hx252_0 := hx_ HB.out hx252_0
      replace hx252_1 := hx_ HB.out hx252_1
      replace hx252_2 := hx_ HB.out hx252_2
      replace p252 := eq_true p252
      replace q252 := eq_true q252
      go_wp2
      go_roundg k1
      case measure => have := HK1.out; omega
      case rel => exact ⟨(wrap64 (x5_1 + 1)), tq_7, H', ⟨tq_96⟩, ⟨(by (with_reducible repeat (first | refine blk_drewN ?_ _ | refine blk_drew ?_ | refine blk_alloc ?_ _)); exact BK251.out)⟩, ⟨tq_100⟩⟩
    ·rw [if_neg c5] at H
     exact absurd H (by simp)
   ·rw [if_neg c4] at H
    have c4b0 : decide (x5_1 < (l0_1.length : Int)) = false := decide_eq_false c4
    clear c4
    obtain rfl := Option.some.inj H
    have hcz9_0 := bc_ BK251.out 0
    have hcz9_1 := bc_ BK251.out 1
    have hfz9_0 := blk_frozen BK251.out 0
    have hfz9_1 := blk_frozen BK251.out 1
    go_wp2
    go_ret
    exact ⟨tq_2, tq_100⟩

end Go.Proofs.Ytcdnfkoahajhhaa.PFnExactCleanOk
