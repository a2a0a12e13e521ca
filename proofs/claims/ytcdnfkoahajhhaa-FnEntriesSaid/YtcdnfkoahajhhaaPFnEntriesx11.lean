/- Contracts of Go functions, written by a program of ours over the print of the kit: each says that the call returns what the Lean function beside it computes. Conditions: as each theorem states them. -/
import Derived.Test.YtcdnfkoahajhhaaPkFnEntries
import Derived.Test.YtcdnfkoahajhhaaPFnEntriesx0
import Derived.Test.YtcdnfkoahajhhaaPFnEntriesx10
namespace Go.Proofs.Ytcdnfkoahajhhaa.PFnEntries
open Go.RowKit Go.Proofs.YtcdnfkoahajhhaaW.PrintWords Go.Proofs.YtcdnfkoahajhhaaW.PrintLast Go.Proofs.YtcdnfkoahajhhaaW.PrintMore
attribute [local go_sem] max2_int min2_int max_two min_two max_three min_three max_four min_four   -- for this text's walks alone
set_option linter.unusedVariables false
set_option linter.unusedSimpArgs false

/-! ### spec_PartNew: function 40 -/
def spec_PartNew.f (a0_0 : Int) (a0_1 : Int) (a0_2 : Int) (a0_3 : Int) : Option (Int × List Int × (List (S49))) := (spec_GeoOk.f a0_0 a0_1 a0_2 a0_3).bind fun t463 => (if t463 = true then (if 0 ≤ a0_1 then (if (a0_1 : Int).toNat ≤ 35184372088832 then (if 0 ≤ a0_2 then (if (a0_2 : Int).toNat ≤ 3198579280802 then ((some (List.replicate (a0_2 : Int).toNat z49 : List (S49))).bind fun y467 => (if 0 < (y467.length : Int) then (some (0, (List.replicate (a0_1 : Int).toNat 0), (y467.set (0 : Int).toNat (⟨2, 0, 1, (⟨#[]⟩ : ByteArray), ([] : List (S170)), ([] : List (S59))⟩ : S49)))) else (none))) else (none)) else (none)) else (none)) else (none)) else (some (0, ([] : List Int), ([] : List (S49)))))
def spec_PartNew.T3 : Bool × List (List Nat × List Nat) := (true, [([], []), ([0], [0]), ([1, 1], [1]), ([], []), ([3], [3]), ([4, 4], [4]), ([2, 5], [2, 5]), ([], []), ([7, 6, 0, 1, 2, 3, 4, 5, 6, 7], [6, 7])])
def spec_PartNew.B3 : List Nat := [0, 1, 3, 0, 8, 24, 63, 0, 255]
theorem spec_PartNew.tab3 : rtab .any (opsOf Try.f40 3) = spec_PartNew.T3 := by kernel_rfl
theorem spec_PartNew.bits3 : waitsOk spec_PartNew.T3.2 spec_PartNew.B3 = true := by kernel_rfl
set_option maxHeartbeats 8000000 in
set_option maxRecDepth 100000 in
theorem spec_PartNew.calls (a0_0 : Int) (a0_1 : Int) (a0_2 : Int) (a0_3 : Int) (r1 : Int) (r2 : List Int) (r3 : List (S49)) (w : World) (h : spec_PartNew.f a0_0 a0_1 a0_2 a0_3 = some (r1, r2, r3)) :
  Calls Try.prog 40 #[.agg #[.int .i64 a0_0, .int .i64 a0_1, .int .i64 a0_2, .int .i64 a0_3]] w fun e w' => ∃ v1_ v2_ : Value, e = .returned (.agg #[.int .i64 r1, v1_, v2_]) ∧ Kd.R (Kd.int .i64) 3 w' w.heap.size (fun _ => True) v1_ r2 ∧ Kd.S k49 49 w' w.heap.size (fun _ => True) v2_ r3 ∧ Below w.heap.size w w' := by
 have hu72 := Try.underlying72
 have hu69 := Try.underlying69
 have hu49 := Try.underlying49
 have HB := Aside0.mk (Below.refl w.heap.size w)
 have H : ((spec_GeoOk.f a0_0 a0_1 a0_2 a0_3).bind fun t463 => (if t463 = true then (if 0 ≤ a0_1 then (if (a0_1 : Int).toNat ≤ 35184372088832 then (if 0 ≤ a0_2 then (if (a0_2 : Int).toNat ≤ 3198579280802 then ((some (List.replicate (a0_2 : Int).toNat z49 : List (S49))).bind fun y467 => (if 0 < (y467.length : Int) then (some (0, (List.replicate (a0_1 : Int).toNat 0), (y467.set (0 : Int).toNat (⟨2, 0, 1, (⟨#[]⟩ : ByteArray), ([] : List (S170)), ([] : List (S59))⟩ : S49)))) else (none))) else (none)) else (none)) else (none)) else (none)) else (some (0, ([] : List Int), ([] : List (S49)))))) = some (r1, r2, r3) := h
 clear h
 replace H := Option.bind_eq_some_iff.mp H
 obtain ⟨t463, A20, H⟩ := H
 replace H : (if t463 = true then (if 0 ≤ a0_1 then (if (a0_1 : Int).toNat ≤ 35184372088832 then (if 0 ≤ a0_2 then (if (a0_2 : Int).toNat ≤ 3198579280802 then ((some (List.replicate (a0_2 : Int).toNat z49 : List (S49))).bind fun y467 => (if 0 < (y467.length : Int) then (some (0, (List.replicate (a0_1 : Int).toNat 0), (y467.set (0 : Int).toNat (⟨2, 0, 1, (⟨#[]⟩ : ByteArray), ([] : List (S170)), ([] : List (S59))⟩ : S49)))) else (none))) else (none)) else (none)) else (none)) else (none)) else (some (0, ([] : List Int), ([] : List (S49))))) = some (r1, r2, r3) := H
 have A2 := Aside0.mk A20
 clear A20
 by_cases c3 : t463 = true
 rotate_left
 ·replace c3 := Bool.eq_false_iff.mpr c3
  subst c3
  have H1 : (some (0, ([] : List Int), ([] : List (S49)))) = some (r1, r2, r3) := by rw [if_neg (show ¬ (false = true) by decide)] at H; exact H
  clear H
  have H := H1
  clear H1
  simp only [Option.some.injEq, Prod.mk.injEq] at H
  obtain ⟨rfl, rfl, rfl⟩ := H
  go_enter Try.func40, Try.ntmps40
  go_wp2_with (first | ((with_reducible refine gate_dst (N := 1) rfl ?_); refine box_event ?hg (N := 1) ?hd (cs := #[.int .i64 a0_0, .int .i64 a0_1, .int .i64 a0_2, .int .i64 a0_3]) (t := 72) ?hr ?_; (case hd => rfl); (case hg => rfl); (case hr => first | (go_simp; done) | (go_simp; rfl)); intro gb461 hg w37 hbox hb; have z_ := p_ (below_step tq_3 hb) <| p_ (hbox) <| p_ (gb_ hg tq_3) <| a_ (gb_ hg tq_3); clear HB; obtain ⟨HB, BK461, GW461, GE461⟩ := z_; clear hb hbox hg) | ((with_reducible refine gate_dst (N := 2) rfl ?_); refine box_event ?hg (N := 2) ?hd (cs := #[.int .i64 0, .slice none 0 0, .slice none 0 0]) (t := 69) ?hr ?_; (case hd => rfl); (case hg => rfl); (case hr => first | (go_simp; done) | (go_simp; rfl)); intro gb462 hg w38 hbox hb; have z_ := p_ (blk_below tq_13 hb) <| p_ (below_step tq_123 hb) <| p_ (hbox) <| p_ (gb_ hg tq_123) <| p_ (gb_ hg tq_123) <| p_ (ltne_ hg (blk_lt tq_13)) <| a_ (gtne_ hg (blk_lt tq_13)); clear BK461 HB; obtain ⟨BK461, HB, BK462, GW462, GE462, NB461_462, NB462_461⟩ := z_; clear hb hbox hg; have hnb39 := NB461_462.out; have hnc39 := NB462_461.out; obtain ⟨hcz40_0, hcz40_1, hcz40_2, hcz40_3⟩ := bk4_ BK461.out; obtain ⟨hfz40_0, hfz40_1, hfz40_2, hfz40_3⟩ := bf4_ BK461.out) | ((with_reducible refine gate_callee (f := 113) rfl ?_); refine goesL_ (some 5) rfl rfl Try.func113 (by kernel_rfl) rfl #[.agg #[.int .i64 a0_0, .int .i64 a0_1, .int .i64 a0_2, .int .i64 a0_3]] rfl tq_0 ?_; (with_reducible refine (spec_GeoOk.calls a0_0 a0_1 a0_2 a0_3 false _ A2.out).mono ?_); rintro e w41 ⟨rfl, hb⟩; refine ⟨_, rfl, ?_⟩; have z_ := p_ (blk_below tq_13 hb) <| p_ (blk_below tq_17 hb) <| a_ (below_step tq_12 hb); clear BK461 BK462 HB; obtain ⟨BK461, BK462, HB⟩ := z_; (try clear hb); (try clear hb2); (try clear hk); (try clear hi); obtain ⟨hcz42_0, hcz42_1, hcz42_2⟩ := bk3_ BK462.out; obtain ⟨hfz42_0, hfz42_1, hfz42_2⟩ := bf3_ BK462.out))
  refine bodyPost_ret (results_cell_row rfl _ _ gb462 69 #[.int .i64 0, .slice none 0 0, .slice none 0 0] (0, 0) _ rfl (by (with_reducible repeat (first | refine blk_drewN ?_ _ | refine blk_drew ?_ | refine blk_alloc ?_ _)); refine blk_put (cs := #[.int .i64 0, .slice none 0 0, .slice none 0 0]) ?_ 2 _ rfl; (with_reducible repeat (first | refine blk_drewN ?_ _ | refine blk_drew ?_ | refine blk_alloc ?_ _)); refine blk_put (cs := #[.int .i64 0, .slice none 0 0, .slice none 0 0]) ?_ 1 _ rfl; (with_reducible repeat (first | refine blk_drewN ?_ _ | refine blk_drew ?_ | refine blk_alloc ?_ _)); refine blk_put (cs := #[.int .i64 0, .slice none 0 0, .slice none 0 0]) ?_ 0 _ rfl; (with_reducible repeat (first | refine blk_drewN ?_ _ | refine blk_drew ?_ | refine blk_alloc ?_ _)); exact BK462.out) Try.underlying69 rfl (by kernel_rfl)) rfl ?_
  exact ⟨_, _, tq_11, tq_122, (by first | exact Kd.S_nil _ _ _ _ _ | exact Kd.N_nil _ _ _ _ _ | exact Kd.V_nil _ _ _ _ _ | exact Kd.Q_nil _ _ _ _ _ | exact Kd.R_nil _ _ _ _ _), tq_12⟩
 subst c3
 have H1 : (if 0 ≤ a0_1 then (if (a0_1 : Int).toNat ≤ 35184372088832 then (if 0 ≤ a0_2 then (if (a0_2 : Int).toNat ≤ 3198579280802 then ((some (List.replicate (a0_2 : Int).toNat z49 : List (S49))).bind fun y467 => (if 0 < (y467.length : Int) then (some (0, (List.replicate (a0_1 : Int).toNat 0), (y467.set (0 : Int).toNat (⟨2, 0, 1, (⟨#[]⟩ : ByteArray), ([] : List (S170)), ([] : List (S59))⟩ : S49)))) else (none))) else (none)) else (none)) else (none)) else (none)) = some (r1, r2, r3) := by rw [if_pos rfl] at H; exact H
 clear H
 have H := H1
 clear H1
 by_cases c4 : 0 ≤ a0_1
 rotate_left
 ·rw [if_neg c4] at H
  exact absurd H (by simp)
 rw [if_pos c4] at H
 have c4b0 := eq_true c4
 have c4b1 := decide_eq_true c4
 clear c4
 by_cases c5 : (a0_1 : Int).toNat ≤ 35184372088832
 rotate_left
 ·rw [if_neg c5] at H
  exact absurd H (by simp)
 rw [if_pos c5] at H
 have c5b0 := eq_true c5
 have c5b1 := decide_eq_true c5
 clear c5
 obtain ⟨y464, hy464⟩ : ∃ y_ : List Int, y_ = (List.replicate (a0_1 : Int).toNat 0) := ⟨_, rfl⟩
 replace H : (if 0 ≤ a0_2 then (if (a0_2 : Int).toNat ≤ 3198579280802 then ((some (List.replicate (a0_2 : Int).toNat z49 : List (S49))).bind fun y467 => (if 0 < (y467.length : Int) then (some (0, y464, (y467.set (0 : Int).toNat (⟨2, 0, 1, (⟨#[]⟩ : ByteArray), ([] : List (S170)), ([] : List (S59))⟩ : S49)))) else (none))) else (none)) else (none)) = some (r1, r2, r3) := by first | (rw [hy464]; with_reducible exact H) | (have H2_ := (Option.bind_some _ _).symm.trans H; rw [hy464]; with_reducible exact H2_) | (have H2_ := (Option.bind_some _ _).symm.trans H; with_reducible exact H2_) | with_reducible exact H | (rw [hy464]; exact H) | exact H
 have Ny464 := Aside0.mk hy464
 clear hy464
 by_cases c6 : 0 ≤ a0_2
 rotate_left
 ·rw [if_neg c6] at H
  exact absurd H (by simp)
 rw [if_pos c6] at H
 have c6b0 := eq_true c6
 have c6b1 := decide_eq_true c6
 clear c6
 by_cases c7 : (a0_2 : Int).toNat ≤ 3198579280802
 rotate_left
 ·rw [if_neg c7] at H
  exact absurd H (by simp)
 rw [if_pos c7] at H
 have c7b0 := eq_true c7
 have c7b1 := decide_eq_true c7
 clear c7
 obtain ⟨y467, hy467⟩ : ∃ y_ : List (S49), y_ = (List.replicate (a0_2 : Int).toNat z49) := ⟨_, rfl⟩
 replace H : (if 0 < (y467.length : Int) then (some (0, y464, (y467.set (0 : Int).toNat (⟨2, 0, 1, (⟨#[]⟩ : ByteArray), ([] : List (S170)), ([] : List (S59))⟩ : S49)))) else (none)) = some (r1, r2, r3) := by first | (rw [hy467]; with_reducible exact H) | (have H2_ := (Option.bind_some _ _).symm.trans H; rw [hy467]; with_reducible exact H2_) | (have H2_ := (Option.bind_some _ _).symm.trans H; with_reducible exact H2_) | with_reducible exact H | (rw [hy467]; exact H) | exact H
 have Ny467 := Aside0.mk hy467
 clear hy467
 by_cases c8 : 0 < (y467.length : Int)
 rotate_left
 ·rw [if_neg c8] at H
  exact absurd H (by simp)
 rw [if_pos c8] at H
 have c8b0 := decide_eq_true c8
 have c8b1 : decide (0 < y467.length) = true := decide_eq_true (by omega)
 clear c8
 obtain ⟨y471, hy471⟩ : ∃ y_ : List (S49), y_ = (y467.set (0 : Int).toNat (⟨2, 0, 1, (⟨#[]⟩ : ByteArray), ([] : List (S170)), ([] : List (S59))⟩ : S49)) := ⟨_, rfl⟩
 replace H : (some (0, y464, y471)) = some (r1, r2, r3) := by first | (rw [hy471]; with_reducible exact H) | (have H2_ := (Option.bind_some _ _).symm.trans H; rw [hy471]; with_reducible exact H2_) | (have H2_ := (Option.bind_some _ _).symm.trans H; with_reducible exact H2_) | with_reducible exact H | (rw [hy471]; exact H) | exact H
 have Ny471 := Aside0.mk hy471
 clear hy471
 simp only [Option.some.injEq, Prod.mk.injEq] at H
 obtain ⟨rfl, rfl, rfl⟩ := H
 go_enter Try.func40, Try.ntmps40
 try go_wp2_with (first | ((with_reducible refine gate_dst (N := 1) rfl ?_); refine box_event ?hg (N := 1) ?hd (cs := #[.int .i64 a0_0, .int .i64 a0_1, .int .i64 a0_2, .int .i64 a0_3]) (t := 72) ?hr ?_; (case hd => rfl); (case hg => rfl); (case hr => first | (go_simp; done) | (go_simp; rfl)); intro gb461 hg w10 hbox hb; have z_ := p_ (below_step tq_3 hb) <| p_ (hbox) <| p_ (gb_ hg tq_3) <| a_ (gb_ hg tq_3); clear HB; obtain ⟨HB, BK461, GW461, GE461⟩ := z_; clear hb hbox hg) | ((with_reducible refine gate_dst (N := 2) rfl ?_); refine box_event ?hg (N := 2) ?hd (cs := #[.int .i64 0, .slice none 0 0, .slice none 0 0]) (t := 69) ?hr ?_; (case hd => rfl); (case hg => rfl); (case hr => first | (go_simp; done) | (go_simp; rfl)); intro gb462 hg w11 hbox hb; have z_ := p_ (blk_below tq_13 hb) <| p_ (below_step tq_123 hb) <| p_ (hbox) <| p_ (gb_ hg tq_123) <| p_ (gb_ hg tq_123) <| p_ (ltne_ hg (blk_lt tq_13)) <| a_ (gtne_ hg (blk_lt tq_13)); clear BK461 HB; obtain ⟨BK461, HB, BK462, GW462, GE462, NB461_462, NB462_461⟩ := z_; clear hb hbox hg; have hnb12 := NB461_462.out; have hnc12 := NB462_461.out; obtain ⟨hcz13_0, hcz13_1, hcz13_2, hcz13_3⟩ := bk4_ BK461.out; obtain ⟨hfz13_0, hfz13_1, hfz13_2, hfz13_3⟩ := bf4_ BK461.out) | ((with_reducible refine gate_callee (f := 113) rfl ?_); refine goesL_ (some 5) rfl rfl Try.func113 (by kernel_rfl) rfl #[.agg #[.int .i64 a0_0, .int .i64 a0_1, .int .i64 a0_2, .int .i64 a0_3]] rfl tq_0 ?_; (with_reducible refine (spec_GeoOk.calls a0_0 a0_1 a0_2 a0_3 true _ A2.out).mono ?_); rintro e w14 ⟨rfl, hb⟩; refine ⟨_, rfl, ?_⟩; have z_ := p_ (blk_below tq_13 hb) <| p_ (blk_below tq_17 hb) <| a_ (below_step tq_12 hb); clear BK461 BK462 HB; obtain ⟨BK461, BK462, HB⟩ := z_; (try clear hb); (try clear hb2); (try clear hk); (try clear hi)))
 have z_ := p_ (blk_drew BK461.out) <| p_ (blk_drew BK462.out) <| a_ (below_drew1 HB.out)
 clear BK461 BK462 HB
 obtain ⟨BK461, BK462, HB⟩ := z_
 refine start_ (n := 9) (S := fun w' => w'.cell? ⟨gb461, 0, none⟩ = some (.int .i64 a0_0) ∧ w'.cell? ⟨gb461, 1, none⟩ = some (.int .i64 a0_1) ∧ w'.cell? ⟨gb461, 2, none⟩ = some (.int .i64 a0_2) ∧ w'.cell? ⟨gb461, 3, none⟩ = some (.int .i64 a0_3)) (ds := []) bq_2 (by kernel_rfl) rfl rfl (bk4_ BK461.out) (fun hHeld => ?_); refine with_tabW spec_PartNew.tab3 spec_PartNew.bits3 (fun HT_ HW_ => ?_)
 generalize w14.drew = w15 at BK461 BK462 HB hHeld ⊢
 refine yq_ (i := 0) (N := some 8) bq_3 (any_of HT_.out (by kernel_rfl)) ?_
 refine yq_ (i := 3) (N := some 11) #[true, false, false, true, false, false, false, false, false] (any_of HT_.out (by kernel_rfl)) ?_
 refine tk_ (i := 1) (N := some 9) #[true, true, false, true, false, false, false, false, false] (take_ofW HT_.out HW_.out (by kernel_rfl)) hHeld ?_
 refine tk_ (i := 4) (N := some 12) #[true, true, false, true, true, false, false, false, false] (take_ofW HT_.out HW_.out (by kernel_rfl)) hHeld ?_
 refine join_ (σ := Value × Value × Nat) 1 bq_0 (fun s_ => [(10, s_.1), (13, s_.2.1), (3, .pointer (some ⟨s_.2.2, 0, none⟩)), (14, .agg #[.int .i64 0, s_.1, s_.2.1])]) (fun s_ w' => (w'.cell? ⟨gb461, 0, none⟩ = some (.int .i64 a0_0) ∧ w'.cell? ⟨gb461, 1, none⟩ = some (.int .i64 a0_1) ∧ w'.cell? ⟨gb461, 2, none⟩ = some (.int .i64 a0_2) ∧ w'.cell? ⟨gb461, 3, none⟩ = some (.int .i64 a0_3)) ∧ (Kd.R (Kd.int .i64) 3 w' w.heap.size (fun _ => True) s_.1 y464) ∧ (Kd.S k49 49 w' w.heap.size (fun _ => True) s_.2.1 y467) ∧ (w'.heap[gb461]? = some (.cells #[.int .i64 a0_0, .int .i64 a0_1, .int .i64 a0_2, .int .i64 a0_3] 72 (0, 0))) ∧ (w'.heap[gb462]? = some (.cells #[.int .i64 0, .slice none 0 0, .slice none 0 0] 69 (0, 0))) ∧ (w'.heap[s_.2.2]? = some (.cells #[.int .i64 0, .slice none 0 0, .slice none 0 0] 69 (0, 0))) ∧ (w.heap.size ≤ s_.2.2) ∧ (w.heap.size ≤ s_.2.2) ∧ (gb461 ≠ s_.2.2) ∧ (s_.2.2 ≠ gb461) ∧ (gb462 ≠ s_.2.2) ∧ (s_.2.2 ≠ gb462) ∧ (Below w.heap.size w w')) ?_ ?_
 rotate_left
 ·intro hJ2_5_7
  refine join_ (σ := Value × Value) 2 bq_1 (fun s_ => [(10, s_.1), (13, s_.2), (14, .agg #[.int .i64 0, s_.1, s_.2])]) (fun s_ w' => (w'.cell? ⟨gb461, 0, none⟩ = some (.int .i64 a0_0) ∧ w'.cell? ⟨gb461, 1, none⟩ = some (.int .i64 a0_1) ∧ w'.cell? ⟨gb461, 2, none⟩ = some (.int .i64 a0_2) ∧ w'.cell? ⟨gb461, 3, none⟩ = some (.int .i64 a0_3)) ∧ (Kd.R (Kd.int .i64) 3 w' w.heap.size (fun _ => True) s_.1 y464) ∧ (Kd.S k49 49 w' w.heap.size (fun _ => True) s_.2 y467) ∧ (w'.heap[gb461]? = some (.cells #[.int .i64 a0_0, .int .i64 a0_1, .int .i64 a0_2, .int .i64 a0_3] 72 (0, 0))) ∧ (w'.heap[gb462]? = some (.cells #[.int .i64 0, .slice none 0 0, .slice none 0 0] 69 (0, 0))) ∧ (Below w.heap.size w w')) ?_ ?_
  rotate_left
  ·intro hJ2_5
   refine join_ (σ := Value × Nat) 3 bq_22 (fun s_ => [(10, s_.1), (3, .pointer (some ⟨s_.2, 0, none⟩))]) (fun s_ w' => (w'.cell? ⟨gb461, 0, none⟩ = some (.int .i64 a0_0) ∧ w'.cell? ⟨gb461, 1, none⟩ = some (.int .i64 a0_1) ∧ w'.cell? ⟨gb461, 2, none⟩ = some (.int .i64 a0_2) ∧ w'.cell? ⟨gb461, 3, none⟩ = some (.int .i64 a0_3)) ∧ (Kd.R (Kd.int .i64) 3 w' w.heap.size (fun _ => True) s_.1 y464) ∧ (w'.heap[gb461]? = some (.cells #[.int .i64 a0_0, .int .i64 a0_1, .int .i64 a0_2, .int .i64 a0_3] 72 (0, 0))) ∧ (w'.heap[gb462]? = some (.cells #[.int .i64 0, .slice none 0 0, .slice none 0 0] 69 (0, 0))) ∧ (w'.heap[s_.2]? = some (.cells #[.int .i64 0, .slice none 0 0, .slice none 0 0] 69 (0, 0))) ∧ (w.heap.size ≤ s_.2) ∧ (w.heap.size ≤ s_.2) ∧ (gb461 ≠ s_.2) ∧ (s_.2 ≠ gb461) ∧ (gb462 ≠ s_.2) ∧ (s_.2 ≠ gb462) ∧ (Below w.heap.size w w')) ?_ ?_
   rotate_left
   ·intro hJ2_7
    refine join_ (σ := Value × Nat) 3 bq_23 (fun s_ => [(13, s_.1), (3, .pointer (some ⟨s_.2, 0, none⟩))]) (fun s_ w' => (w'.cell? ⟨gb461, 0, none⟩ = some (.int .i64 a0_0) ∧ w'.cell? ⟨gb461, 1, none⟩ = some (.int .i64 a0_1) ∧ w'.cell? ⟨gb461, 2, none⟩ = some (.int .i64 a0_2) ∧ w'.cell? ⟨gb461, 3, none⟩ = some (.int .i64 a0_3)) ∧ (Kd.S k49 49 w' w.heap.size (fun _ => True) s_.1 y467) ∧ (w'.heap[gb461]? = some (.cells #[.int .i64 a0_0, .int .i64 a0_1, .int .i64 a0_2, .int .i64 a0_3] 72 (0, 0))) ∧ (w'.heap[gb462]? = some (.cells #[.int .i64 0, .slice none 0 0, .slice none 0 0] 69 (0, 0))) ∧ (w'.heap[s_.2]? = some (.cells #[.int .i64 0, .slice none 0 0, .slice none 0 0] 69 (0, 0))) ∧ (w.heap.size ≤ s_.2) ∧ (w.heap.size ≤ s_.2) ∧ (gb461 ≠ s_.2) ∧ (s_.2 ≠ gb461) ∧ (gb462 ≠ s_.2) ∧ (s_.2 ≠ gb462) ∧ (Below w.heap.size w w')) ?_ ?_
    rotate_left
    ·intro hJ5_7
     refine join_ (σ := Value) 4 bq_38 (fun s_ => [(10, s_)]) (fun s_ w' => (w'.cell? ⟨gb461, 0, none⟩ = some (.int .i64 a0_0) ∧ w'.cell? ⟨gb461, 1, none⟩ = some (.int .i64 a0_1) ∧ w'.cell? ⟨gb461, 2, none⟩ = some (.int .i64 a0_2) ∧ w'.cell? ⟨gb461, 3, none⟩ = some (.int .i64 a0_3)) ∧ (Kd.R (Kd.int .i64) 3 w' w.heap.size (fun _ => True) s_ y464) ∧ (w'.heap[gb461]? = some (.cells #[.int .i64 a0_0, .int .i64 a0_1, .int .i64 a0_2, .int .i64 a0_3] 72 (0, 0))) ∧ (w'.heap[gb462]? = some (.cells #[.int .i64 0, .slice none 0 0, .slice none 0 0] 69 (0, 0))) ∧ (Below w.heap.size w w')) ?_ ?_
     rotate_left
     ·intro hJ2
      refine join_ (σ := Value) 4 bq_39 (fun s_ => [(13, s_)]) (fun s_ w' => (w'.cell? ⟨gb461, 0, none⟩ = some (.int .i64 a0_0) ∧ w'.cell? ⟨gb461, 1, none⟩ = some (.int .i64 a0_1) ∧ w'.cell? ⟨gb461, 2, none⟩ = some (.int .i64 a0_2) ∧ w'.cell? ⟨gb461, 3, none⟩ = some (.int .i64 a0_3)) ∧ (Kd.S k49 49 w' w.heap.size (fun _ => True) s_ y467) ∧ (w'.heap[gb461]? = some (.cells #[.int .i64 a0_0, .int .i64 a0_1, .int .i64 a0_2, .int .i64 a0_3] 72 (0, 0))) ∧ (w'.heap[gb462]? = some (.cells #[.int .i64 0, .slice none 0 0, .slice none 0 0] 69 (0, 0))) ∧ (Below w.heap.size w w')) ?_ ?_
      rotate_left
      ·intro hJ5
       refine join_ (σ := Nat) 4 bq_40 (fun s_ => [(3, .pointer (some ⟨s_, 0, none⟩))]) (fun s_ w' => (w'.cell? ⟨gb461, 0, none⟩ = some (.int .i64 a0_0) ∧ w'.cell? ⟨gb461, 1, none⟩ = some (.int .i64 a0_1) ∧ w'.cell? ⟨gb461, 2, none⟩ = some (.int .i64 a0_2) ∧ w'.cell? ⟨gb461, 3, none⟩ = some (.int .i64 a0_3)) ∧ (w'.heap[gb461]? = some (.cells #[.int .i64 a0_0, .int .i64 a0_1, .int .i64 a0_2, .int .i64 a0_3] 72 (0, 0))) ∧ (w'.heap[gb462]? = some (.cells #[.int .i64 0, .slice none 0 0, .slice none 0 0] 69 (0, 0))) ∧ (w'.heap[s_]? = some (.cells #[.int .i64 0, .slice none 0 0, .slice none 0 0] 69 (0, 0))) ∧ (w.heap.size ≤ s_) ∧ (w.heap.size ≤ s_) ∧ (gb461 ≠ s_) ∧ (s_ ≠ gb461) ∧ (gb462 ≠ s_) ∧ (s_ ≠ gb462) ∧ (Below w.heap.size w w')) ?_ ?_
       rotate_left
       ·intro hJ7
        refine three_ (i := 2) (j := 5) (k := 7) (Ni := some 10) (Nj := some 13) (Nk := some 3) bq_38 bq_39 bq_40 rfl rfl rfl rfl rfl rfl (three_of HT_.out (by kernel_rfl)) (by decide) (by decide) (by decide) (fun K hK => ?_) (fun K hK => ?_) (fun K hK => ?_)
        ·skip
         refine Kd.R_make_step (Kd.int .i64) _ 3 (by rfl) (N := 10) rfl 66 _ _ rfl a0_1 rfl rfl Try.underlying66 (.int .i64 0) 8 info3 rfl (by decide) (by omega) 0 (ok := fun _ => True) (okp := fun _ => True) rfl (fun _ hk => hk) trivial (of_decide_eq_true tq_20) (Nat.le_trans (Nat.mul_le_mul_right _ (of_decide_eq_true tq_20 : a0_1.toNat ≤ 35184372088832)) (by omega)) (Below.refl _ _) (Nat.le_refl _) ?_
         intro v465 w16 ho17 hb hg_ hnew_
         clear hg_ hnew_
         (first | rw [← Ny464.out] at ho17 | (simp only [Int.reduceToNat] at ho17; rw [← Ny464.out] at ho17))
         have z_ := p_ (Kd.R_lower ho17 (below_size tq_12)) <| p_ (blk_below tq_13 hb) <| p_ (blk_below tq_17 hb) <| a_ (below_step tq_12 hb)
         clear BK461 BK462 HB
         obtain ⟨HO466, BK461, BK462, HB⟩ := z_
         clear hb ho17
         refine hK.out _ _ (bk4_ BK461.out) (fun hHeld => ?_)
         clear hK K
         refine nm_ (some 10) ?_
         exact norm_ tq_39 (hJ2 (v465) _ ⟨hHeld, tq_84, tq_13, tq_17, tq_12⟩)
        ·skip
         refine Kd.S_make_step k49 _ 49 (by rfl) (N := 13) rfl 67 _ _ rfl a0_2 rfl rfl Try.underlying67 (.agg #[(.int .i64 0), (.int .i64 0), (.int .i64 0), (.string ⟨#[]⟩), (.slice none 0 0), (.slice none 0 0)]) 88 info49 rfl (by decide) (by omega) z49 (ok := fun _ => True) (okp := fun _ => True) (k49_mkM _ _ _ z49 (Kd.R_nil _ _ _ _ _) (Kd.R_nil _ _ _ _ _)) (fun _ hk => hk) trivial (of_decide_eq_true tq_20) (Nat.le_trans (Nat.mul_le_mul_right _ (of_decide_eq_true tq_20 : a0_2.toNat ≤ 3198579280802)) (by omega)) (Below.refl _ _) (Nat.le_refl _) ?_
         intro v468 w16 ho17 hb hg_ hnew_
         clear hg_ hnew_
         (first | rw [← Ny467.out] at ho17 | (simp only [Int.reduceToNat] at ho17; rw [← Ny467.out] at ho17))
         have z_ := p_ (Kd.S_lower ho17 (below_size tq_12)) <| p_ (blk_below tq_13 hb) <| p_ (blk_below tq_17 hb) <| a_ (below_step tq_12 hb)
         clear BK461 BK462 HB
         obtain ⟨HO469, BK461, BK462, HB⟩ := z_
         clear hb ho17
         refine hK.out _ _ (bk4_ BK461.out) (fun hHeld => ?_)
         clear hK K
         refine nm_ (some 13) ?_
         exact norm_ tq_39 (hJ5 (v468) _ ⟨hHeld, tq_93, tq_13, tq_17, tq_12⟩)
        ·skip
         refine box_step ?hg (N := 3) ?hd (cs := #[.int .i64 0, .slice none 0 0, .slice none 0 0]) (t := 69) ?hr ?_; (case hd => rfl); (case hg => rfl); (case hr => first | (go_simp; done) | (go_simp; rfl))
         intro gb470 hg w16 hbox hb
         have z_ := p_ (blk_below tq_13 hb) <| p_ (blk_below tq_17 hb) <| p_ (below_step tq_12 hb) <| p_ (hbox) <| p_ (gb_ hg tq_12) <| p_ (gb_ hg tq_12) <| p_ (ltne_ hg (blk_lt tq_13)) <| p_ (gtne_ hg (blk_lt tq_13)) <| p_ (ltne_ hg (blk_lt tq_17)) <| a_ (gtne_ hg (blk_lt tq_17))
         clear BK461 BK462 HB
         obtain ⟨BK461, BK462, HB, BK470, GW470, GE470, NB461_470, NB470_461, NB462_470, NB470_462⟩ := z_
         clear hb hbox hg
         refine hK.out _ _ (bk4_ BK461.out) (fun hHeld => ?_)
         clear hK K
         refine nm_ (some 3) ?_
         exact norm_ tq_39 (hJ7 (gb470) _ ⟨hHeld, tq_13, tq_17, tq_63, GW470.out, GE470.out, NB461_470.out, NB470_461.out, NB462_470.out, NB470_462.out, tq_18⟩)
       ·skip
        rintro gb470 w17 ⟨hS_, h0_, h1_, h2_, h3_, h4_, h5_, h6_, h7_, h8_, h9_⟩
        have z_ := q_ (⟨h0_⟩ : Aside0 (w17.heap[gb461]? = some (.cells #[.int .i64 a0_0, .int .i64 a0_1, .int .i64 a0_2, .int .i64 a0_3] 72 (0, 0)))) <| q_ (⟨h1_⟩ : Aside0 (w17.heap[gb462]? = some (.cells #[.int .i64 0, .slice none 0 0, .slice none 0 0] 69 (0, 0)))) <| q_ (⟨h2_⟩ : Aside0 (w17.heap[gb470]? = some (.cells #[.int .i64 0, .slice none 0 0, .slice none 0 0] 69 (0, 0)))) <| q_ (⟨h3_⟩ : Aside0 (w.heap.size ≤ gb470)) <| q_ (⟨h4_⟩ : Aside0 (w.heap.size ≤ gb470)) <| q_ (⟨h5_⟩ : Aside0 (gb461 ≠ gb470)) <| q_ (⟨h6_⟩ : Aside0 (gb470 ≠ gb461)) <| q_ (⟨h7_⟩ : Aside0 (gb462 ≠ gb470)) <| q_ (⟨h8_⟩ : Aside0 (gb470 ≠ gb462)) <| (⟨h9_⟩ : Aside0 (Below w.heap.size w w17))
        clear BK461 BK462 HB h0_ h1_ h2_ h3_ h4_ h5_ h6_ h7_ h8_ h9_
        obtain ⟨BK461, BK462, BK470, GW470, GE470, NB461_470, NB470_461, NB462_470, NB470_462, HB⟩ := z_
        have hHeld : w17.cell? ⟨gb461, 0, none⟩ = some (.int .i64 a0_0) ∧ w17.cell? ⟨gb461, 1, none⟩ = some (.int .i64 a0_1) ∧ w17.cell? ⟨gb461, 2, none⟩ = some (.int .i64 a0_2) ∧ w17.cell? ⟨gb461, 3, none⟩ = some (.int .i64 a0_3) := hS_
        refine norm_ (a' := ?_) ?_ ?_
        rotate_left
        ·simp only [putAll, Act.put, List.setIfInBounds_toArray, List.set_cons_zero, List.set_cons_succ]
         rfl
        refine two_ (i := 2) (j := 5) (Ni := some 10) (Nj := some 13) bq_22 bq_23 rfl rfl rfl rfl (two_of HT_.out (by kernel_rfl)) (by decide) (by decide) (fun K hK => ?_) (fun K hK => ?_)
        ·skip
         refine Kd.R_make_step (Kd.int .i64) _ 3 (by rfl) (N := 10) rfl 66 _ _ rfl a0_1 rfl rfl Try.underlying66 (.int .i64 0) 8 info3 rfl (by decide) (by omega) 0 (ok := fun _ => True) (okp := fun _ => True) rfl (fun _ hk => hk) trivial (of_decide_eq_true tq_20) (Nat.le_trans (Nat.mul_le_mul_right _ (of_decide_eq_true tq_20 : a0_1.toNat ≤ 35184372088832)) (by omega)) (Below.refl _ _) (Nat.le_refl _) ?_
         intro v465 w18 ho19 hb hg_ hnew_
         clear hg_ hnew_
         (first | rw [← Ny464.out] at ho19 | (simp only [Int.reduceToNat] at ho19; rw [← Ny464.out] at ho19))
         have z_ := p_ (Kd.R_lower ho19 (below_size tq_18)) <| p_ (blk_below tq_13 hb) <| p_ (blk_below tq_17 hb) <| p_ (blk_below tq_63 hb) <| a_ (below_step tq_18 hb)
         clear BK461 BK462 BK470 HB
         obtain ⟨HO466, BK461, BK462, BK470, HB⟩ := z_
         clear hb ho19
         refine hK.out _ _ (bk4_ BK461.out) (fun hHeld => ?_)
         clear hK K
         refine nm_ (some 10) ?_
         exact norm_ tq_39 (hJ2_7 (v465, gb470) _ ⟨hHeld, tq_84, tq_13, tq_17, tq_63, GW470.out, GE470.out, NB461_470.out, NB470_461.out, NB462_470.out, NB470_462.out, tq_18⟩)
        ·skip
         refine Kd.S_make_step k49 _ 49 (by rfl) (N := 13) rfl 67 _ _ rfl a0_2 rfl rfl Try.underlying67 (.agg #[(.int .i64 0), (.int .i64 0), (.int .i64 0), (.string ⟨#[]⟩), (.slice none 0 0), (.slice none 0 0)]) 88 info49 rfl (by decide) (by omega) z49 (ok := fun _ => True) (okp := fun _ => True) (k49_mkM _ _ _ z49 (Kd.R_nil _ _ _ _ _) (Kd.R_nil _ _ _ _ _)) (fun _ hk => hk) trivial (of_decide_eq_true tq_20) (Nat.le_trans (Nat.mul_le_mul_right _ (of_decide_eq_true tq_20 : a0_2.toNat ≤ 3198579280802)) (by omega)) (Below.refl _ _) (Nat.le_refl _) ?_
         intro v468 w18 ho19 hb hg_ hnew_
         clear hg_ hnew_
         (first | rw [← Ny467.out] at ho19 | (simp only [Int.reduceToNat] at ho19; rw [← Ny467.out] at ho19))
         have z_ := p_ (Kd.S_lower ho19 (below_size tq_18)) <| p_ (blk_below tq_13 hb) <| p_ (blk_below tq_17 hb) <| p_ (blk_below tq_63 hb) <| a_ (below_step tq_18 hb)
         clear BK461 BK462 BK470 HB
         obtain ⟨HO469, BK461, BK462, BK470, HB⟩ := z_
         clear hb ho19
         refine hK.out _ _ (bk4_ BK461.out) (fun hHeld => ?_)
         clear hK K
         refine nm_ (some 13) ?_
         exact norm_ tq_39 (hJ5_7 (v468, gb470) _ ⟨hHeld, tq_93, tq_13, tq_17, tq_63, GW470.out, GE470.out, NB461_470.out, NB470_461.out, NB462_470.out, NB470_462.out, tq_18⟩)
      ·skip
       rintro v468 w18 ⟨hS_, h0_, h1_, h2_, h3_⟩
       have z_ := q_ (⟨h0_⟩ : Aside0 (Kd.S k49 49 w18 w.heap.size (fun _ => True) v468 y467)) <| q_ (⟨h1_⟩ : Aside0 (w18.heap[gb461]? = some (.cells #[.int .i64 a0_0, .int .i64 a0_1, .int .i64 a0_2, .int .i64 a0_3] 72 (0, 0)))) <| q_ (⟨h2_⟩ : Aside0 (w18.heap[gb462]? = some (.cells #[.int .i64 0, .slice none 0 0, .slice none 0 0] 69 (0, 0)))) <| (⟨h3_⟩ : Aside0 (Below w.heap.size w w18))
       clear BK461 BK462 HB h0_ h1_ h2_ h3_
       obtain ⟨HO469, BK461, BK462, HB⟩ := z_
       have hHeld : w18.cell? ⟨gb461, 0, none⟩ = some (.int .i64 a0_0) ∧ w18.cell? ⟨gb461, 1, none⟩ = some (.int .i64 a0_1) ∧ w18.cell? ⟨gb461, 2, none⟩ = some (.int .i64 a0_2) ∧ w18.cell? ⟨gb461, 3, none⟩ = some (.int .i64 a0_3) := hS_
       refine norm_ (a' := ?_) ?_ ?_
       rotate_left
       ·simp only [putAll, Act.put, List.setIfInBounds_toArray, List.set_cons_zero, List.set_cons_succ]
        rfl
       refine two_ (i := 2) (j := 7) (Ni := some 10) (Nj := some 3) bq_41 bq_23 rfl rfl rfl rfl (two_of HT_.out (by kernel_rfl)) (by decide) (by decide) (fun K hK => ?_) (fun K hK => ?_)
       ·skip
        refine Kd.R_make_step (Kd.int .i64) _ 3 (by rfl) (N := 10) rfl 66 _ _ rfl a0_1 rfl rfl Try.underlying66 (.int .i64 0) 8 info3 rfl (by decide) (by omega) 0 (ok := fun _ => True) (okp := fun _ => True) rfl (fun _ hk => hk) trivial (of_decide_eq_true tq_20) (Nat.le_trans (Nat.mul_le_mul_right _ (of_decide_eq_true tq_20 : a0_1.toNat ≤ 35184372088832)) (by omega)) (Below.refl _ _) (Nat.le_refl _) ?_
        intro v465 w19 ho20 hb hg_ hnew_
        clear hg_ hnew_
        (first | rw [← Ny464.out] at ho20 | (simp only [Int.reduceToNat] at ho20; rw [← Ny464.out] at ho20))
        have z_ := p_ (Kd.S_below tq_93 hb) <| p_ (Kd.R_lower ho20 (below_size tq_12)) <| p_ (blk_below tq_13 hb) <| p_ (blk_below tq_17 hb) <| a_ (below_step tq_12 hb)
        clear HO469 BK461 BK462 HB
        obtain ⟨HO469, HO466, BK461, BK462, HB⟩ := z_
        clear hb ho20
        obtain ⟨Ao21, co21, eo21⟩ := Kd.S_slice HO469.out
        (first | subst eo21 | (injection eo21 with f1_ f2_ f3_; have f4_ := f1_.symm; have f5_ := f3_.symm; clear f1_ f2_ f3_; subst f4_; subst f5_))
        obtain ⟨Ao22, co22, eo22⟩ := Kd.R_slice HO466.out
        (first | subst eo22 | (injection eo22 with f1_ f2_ f3_; have f4_ := f1_.symm; have f5_ := f3_.symm; clear f1_ f2_ f3_; subst f4_; subst f5_))
        refine hK.out _ _ (bk4_ BK461.out) (fun hHeld => ?_)
        clear hK K
        refine nm_ (some 10) ?_
        refine yq_ (i := 6) (N := some 14) bq_1 (any_of HT_.out (by kernel_rfl)) ?_
        exact norm_ tq_39 (hJ2_5 (.slice Ao22 y464.length co22, .slice Ao21 y467.length co21) _ ⟨hHeld, tq_84, tq_93, tq_13, tq_17, tq_12⟩)
       ·skip
        refine box_step ?hg (N := 3) ?hd (cs := #[.int .i64 0, .slice none 0 0, .slice none 0 0]) (t := 69) ?hr ?_; (case hd => rfl); (case hg => rfl); (case hr => first | (go_simp; done) | (go_simp; rfl))
        intro gb470 hg w19 hbox hb
        have z_ := p_ (Kd.S_below tq_93 hb) <| p_ (blk_below tq_13 hb) <| p_ (blk_below tq_17 hb) <| p_ (below_step tq_12 hb) <| p_ (hbox) <| p_ (gb_ hg tq_12) <| p_ (gb_ hg tq_12) <| p_ (ltne_ hg (blk_lt tq_13)) <| p_ (gtne_ hg (blk_lt tq_13)) <| p_ (ltne_ hg (blk_lt tq_17)) <| a_ (gtne_ hg (blk_lt tq_17))
        clear HO469 BK461 BK462 HB
        obtain ⟨HO469, BK461, BK462, HB, BK470, GW470, GE470, NB461_470, NB470_461, NB462_470, NB470_462⟩ := z_
        clear hb hbox hg
        refine hK.out _ _ (bk4_ BK461.out) (fun hHeld => ?_)
        clear hK K
        refine nm_ (some 3) ?_
        exact norm_ tq_39 (hJ5_7 (v468, gb470) _ ⟨hHeld, tq_93, tq_13, tq_17, tq_63, GW470.out, GE470.out, NB461_470.out, NB470_461.out, NB462_470.out, NB470_462.out, tq_18⟩)
     ·skip
      rintro v465 w18 ⟨hS_, h0_, h1_, h2_, h3_⟩
      have z_ := q_ (⟨h0_⟩ : Aside0 (Kd.R (Kd.int .i64) 3 w18 w.heap.size (fun _ => True) v465 y464)) <| q_ (⟨h1_⟩ : Aside0 (w18.heap[gb461]? = some (.cells #[.int .i64 a0_0, .int .i64 a0_1, .int .i64 a0_2, .int .i64 a0_3] 72 (0, 0)))) <| q_ (⟨h2_⟩ : Aside0 (w18.heap[gb462]? = some (.cells #[.int .i64 0, .slice none 0 0, .slice none 0 0] 69 (0, 0)))) <| (⟨h3_⟩ : Aside0 (Below w.heap.size w w18))
      clear BK461 BK462 HB h0_ h1_ h2_ h3_
      obtain ⟨HO466, BK461, BK462, HB⟩ := z_
      have hHeld : w18.cell? ⟨gb461, 0, none⟩ = some (.int .i64 a0_0) ∧ w18.cell? ⟨gb461, 1, none⟩ = some (.int .i64 a0_1) ∧ w18.cell? ⟨gb461, 2, none⟩ = some (.int .i64 a0_2) ∧ w18.cell? ⟨gb461, 3, none⟩ = some (.int .i64 a0_3) := hS_
      refine norm_ (a' := ?_) ?_ ?_
      rotate_left
      ·simp only [putAll, Act.put, List.setIfInBounds_toArray, List.set_cons_zero, List.set_cons_succ]
       rfl
      refine two_ (i := 5) (j := 7) (Ni := some 13) (Nj := some 3) bq_41 bq_22 rfl rfl rfl rfl (two_of HT_.out (by kernel_rfl)) (by decide) (by decide) (fun K hK => ?_) (fun K hK => ?_)
      ·skip
       refine Kd.S_make_step k49 _ 49 (by rfl) (N := 13) rfl 67 _ _ rfl a0_2 rfl rfl Try.underlying67 (.agg #[(.int .i64 0), (.int .i64 0), (.int .i64 0), (.string ⟨#[]⟩), (.slice none 0 0), (.slice none 0 0)]) 88 info49 rfl (by decide) (by omega) z49 (ok := fun _ => True) (okp := fun _ => True) (k49_mkM _ _ _ z49 (Kd.R_nil _ _ _ _ _) (Kd.R_nil _ _ _ _ _)) (fun _ hk => hk) trivial (of_decide_eq_true tq_20) (Nat.le_trans (Nat.mul_le_mul_right _ (of_decide_eq_true tq_20 : a0_2.toNat ≤ 3198579280802)) (by omega)) (Below.refl _ _) (Nat.le_refl _) ?_
       intro v468 w19 ho20 hb hg_ hnew_
       clear hg_ hnew_
       (first | rw [← Ny467.out] at ho20 | (simp only [Int.reduceToNat] at ho20; rw [← Ny467.out] at ho20))
       have z_ := p_ (Kd.R_below tq_84 hb) <| p_ (Kd.S_lower ho20 (below_size tq_12)) <| p_ (blk_below tq_13 hb) <| p_ (blk_below tq_17 hb) <| a_ (below_step tq_12 hb)
       clear HO466 BK461 BK462 HB
       obtain ⟨HO466, HO469, BK461, BK462, HB⟩ := z_
       clear hb ho20
       obtain ⟨Ao21, co21, eo21⟩ := Kd.S_slice HO469.out
       (first | subst eo21 | (injection eo21 with f1_ f2_ f3_; have f4_ := f1_.symm; have f5_ := f3_.symm; clear f1_ f2_ f3_; subst f4_; subst f5_))
       obtain ⟨Ao22, co22, eo22⟩ := Kd.R_slice HO466.out
       (first | subst eo22 | (injection eo22 with f1_ f2_ f3_; have f4_ := f1_.symm; have f5_ := f3_.symm; clear f1_ f2_ f3_; subst f4_; subst f5_))
       refine hK.out _ _ (bk4_ BK461.out) (fun hHeld => ?_)
       clear hK K
       refine nm_ (some 13) ?_
       refine yq_ (i := 6) (N := some 14) bq_1 (any_of HT_.out (by kernel_rfl)) ?_
       exact norm_ tq_39 (hJ2_5 (.slice Ao22 y464.length co22, .slice Ao21 y467.length co21) _ ⟨hHeld, tq_84, tq_93, tq_13, tq_17, tq_12⟩)
      ·skip
       refine box_step ?hg (N := 3) ?hd (cs := #[.int .i64 0, .slice none 0 0, .slice none 0 0]) (t := 69) ?hr ?_; (case hd => rfl); (case hg => rfl); (case hr => first | (go_simp; done) | (go_simp; rfl))
       intro gb470 hg w19 hbox hb
       have z_ := p_ (Kd.R_below tq_84 hb) <| p_ (blk_below tq_13 hb) <| p_ (blk_below tq_17 hb) <| p_ (below_step tq_12 hb) <| p_ (hbox) <| p_ (gb_ hg tq_12) <| p_ (gb_ hg tq_12) <| p_ (ltne_ hg (blk_lt tq_13)) <| p_ (gtne_ hg (blk_lt tq_13)) <| p_ (ltne_ hg (blk_lt tq_17)) <| a_ (gtne_ hg (blk_lt tq_17))
       clear HO466 BK461 BK462 HB
       obtain ⟨HO466, BK461, BK462, HB, BK470, GW470, GE470, NB461_470, NB470_461, NB462_470, NB470_462⟩ := z_
       clear hb hbox hg
       refine hK.out _ _ (bk4_ BK461.out) (fun hHeld => ?_)
       clear hK K
       refine nm_ (some 3) ?_
       exact norm_ tq_39 (hJ2_7 (v465, gb470) _ ⟨hHeld, tq_84, tq_13, tq_17, tq_63, GW470.out, GE470.out, NB461_470.out, NB470_461.out, NB462_470.out, NB470_462.out, tq_18⟩)
    ·skip
     rintro ⟨v468, gb470⟩ w19 ⟨hS_, h0_, h1_, h2_, h3_, h4_, h5_, h6_, h7_, h8_, h9_, h10_⟩
     have z_ := q_ (⟨h0_⟩ : Aside0 (Kd.S k49 49 w19 w.heap.size (fun _ => True) v468 y467)) <| q_ (⟨h1_⟩ : Aside0 (w19.heap[gb461]? = some (.cells #[.int .i64 a0_0, .int .i64 a0_1, .int .i64 a0_2, .int .i64 a0_3] 72 (0, 0)))) <| q_ (⟨h2_⟩ : Aside0 (w19.heap[gb462]? = some (.cells #[.int .i64 0, .slice none 0 0, .slice none 0 0] 69 (0, 0)))) <| q_ (⟨h3_⟩ : Aside0 (w19.heap[gb470]? = some (.cells #[.int .i64 0, .slice none 0 0, .slice none 0 0] 69 (0, 0)))) <| q_ (⟨h4_⟩ : Aside0 (w.heap.size ≤ gb470)) <| q_ (⟨h5_⟩ : Aside0 (w.heap.size ≤ gb470)) <| q_ (⟨h6_⟩ : Aside0 (gb461 ≠ gb470)) <| q_ (⟨h7_⟩ : Aside0 (gb470 ≠ gb461)) <| q_ (⟨h8_⟩ : Aside0 (gb462 ≠ gb470)) <| q_ (⟨h9_⟩ : Aside0 (gb470 ≠ gb462)) <| (⟨h10_⟩ : Aside0 (Below w.heap.size w w19))
     clear BK461 BK462 HB h0_ h1_ h2_ h3_ h4_ h5_ h6_ h7_ h8_ h9_ h10_
     obtain ⟨HO469, BK461, BK462, BK470, GW470, GE470, NB461_470, NB470_461, NB462_470, NB470_462, HB⟩ := z_
     have hHeld : w19.cell? ⟨gb461, 0, none⟩ = some (.int .i64 a0_0) ∧ w19.cell? ⟨gb461, 1, none⟩ = some (.int .i64 a0_1) ∧ w19.cell? ⟨gb461, 2, none⟩ = some (.int .i64 a0_2) ∧ w19.cell? ⟨gb461, 3, none⟩ = some (.int .i64 a0_3) := hS_
     refine norm_ (a' := ?_) ?_ ?_
     rotate_left
     ·simp only [putAll, Act.put, List.setIfInBounds_toArray, List.set_cons_zero, List.set_cons_succ]
      rfl
     refine one_ (i := 2) (N := some 10) bq_42 rfl rfl (one_of HT_.out (by kernel_rfl)) (by decide) (fun K hK => ?_)
     refine Kd.R_make_step (Kd.int .i64) _ 3 (by rfl) (N := 10) rfl 66 _ _ rfl a0_1 rfl rfl Try.underlying66 (.int .i64 0) 8 info3 rfl (by decide) (by omega) 0 (ok := fun _ => True) (okp := fun _ => True) rfl (fun _ hk => hk) trivial (of_decide_eq_true tq_20) (Nat.le_trans (Nat.mul_le_mul_right _ (of_decide_eq_true tq_20 : a0_1.toNat ≤ 35184372088832)) (by omega)) (Below.refl _ _) (Nat.le_refl _) ?_
     intro v465 w20 ho21 hb hg_ hnew_
     clear hg_ hnew_
     (first | rw [← Ny464.out] at ho21 | (simp only [Int.reduceToNat] at ho21; rw [← Ny464.out] at ho21))
     have z_ := p_ (Kd.S_below tq_93 hb) <| p_ (Kd.R_lower ho21 (below_size tq_18)) <| p_ (blk_below tq_13 hb) <| p_ (blk_below tq_17 hb) <| p_ (blk_below tq_63 hb) <| a_ (below_step tq_18 hb)
     clear HO469 BK461 BK462 BK470 HB
     obtain ⟨HO469, HO466, BK461, BK462, BK470, HB⟩ := z_
     clear hb ho21
     obtain ⟨Ao22, co22, eo22⟩ := Kd.S_slice HO469.out
     (first | subst eo22 | (injection eo22 with f1_ f2_ f3_; have f4_ := f1_.symm; have f5_ := f3_.symm; clear f1_ f2_ f3_; subst f4_; subst f5_))
     obtain ⟨Ao23, co23, eo23⟩ := Kd.R_slice HO466.out
     (first | subst eo23 | (injection eo23 with f1_ f2_ f3_; have f4_ := f1_.symm; have f5_ := f3_.symm; clear f1_ f2_ f3_; subst f4_; subst f5_))
     refine hK.out _ _ (bk4_ BK461.out) (fun hHeld => ?_)
     clear hK K
     refine nm_ (some 10) ?_
     refine yq_ (i := 6) (N := some 14) bq_0 (any_of HT_.out (by kernel_rfl)) ?_
     exact norm_ tq_39 (hJ2_5_7 (.slice Ao23 y464.length co23, .slice Ao22 y467.length co22, gb470) _ ⟨hHeld, tq_84, tq_93, tq_13, tq_17, tq_63, GW470.out, GE470.out, NB461_470.out, NB470_461.out, NB462_470.out, NB470_462.out, tq_18⟩)
   ·skip
    rintro ⟨v465, gb470⟩ w19 ⟨hS_, h0_, h1_, h2_, h3_, h4_, h5_, h6_, h7_, h8_, h9_, h10_⟩
    have z_ := q_ (⟨h0_⟩ : Aside0 (Kd.R (Kd.int .i64) 3 w19 w.heap.size (fun _ => True) v465 y464)) <| q_ (⟨h1_⟩ : Aside0 (w19.heap[gb461]? = some (.cells #[.int .i64 a0_0, .int .i64 a0_1, .int .i64 a0_2, .int .i64 a0_3] 72 (0, 0)))) <| q_ (⟨h2_⟩ : Aside0 (w19.heap[gb462]? = some (.cells #[.int .i64 0, .slice none 0 0, .slice none 0 0] 69 (0, 0)))) <| q_ (⟨h3_⟩ : Aside0 (w19.heap[gb470]? = some (.cells #[.int .i64 0, .slice none 0 0, .slice none 0 0] 69 (0, 0)))) <| q_ (⟨h4_⟩ : Aside0 (w.heap.size ≤ gb470)) <| q_ (⟨h5_⟩ : Aside0 (w.heap.size ≤ gb470)) <| q_ (⟨h6_⟩ : Aside0 (gb461 ≠ gb470)) <| q_ (⟨h7_⟩ : Aside0 (gb470 ≠ gb461)) <| q_ (⟨h8_⟩ : Aside0 (gb462 ≠ gb470)) <| q_ (⟨h9_⟩ : Aside0 (gb470 ≠ gb462)) <| (⟨h10_⟩ : Aside0 (Below w.heap.size w w19))
    clear BK461 BK462 HB h0_ h1_ h2_ h3_ h4_ h5_ h6_ h7_ h8_ h9_ h10_
    obtain ⟨HO466, BK461, BK462, BK470, GW470, GE470, NB461_470, NB470_461, NB462_470, NB470_462, HB⟩ := z_
    have hHeld : w19.cell? ⟨gb461, 0, none⟩ = some (.int .i64 a0_0) ∧ w19.cell? ⟨gb461, 1, none⟩ = some (.int .i64 a0_1) ∧ w19.cell? ⟨gb461, 2, none⟩ = some (.int .i64 a0_2) ∧ w19.cell? ⟨gb461, 3, none⟩ = some (.int .i64 a0_3) := hS_
    refine norm_ (a' := ?_) ?_ ?_
    rotate_left
    ·simp only [putAll, Act.put, List.setIfInBounds_toArray, List.set_cons_zero, List.set_cons_succ]
     rfl
    refine one_ (i := 5) (N := some 13) bq_42 rfl rfl (one_of HT_.out (by kernel_rfl)) (by decide) (fun K hK => ?_)
    refine Kd.S_make_step k49 _ 49 (by rfl) (N := 13) rfl 67 _ _ rfl a0_2 rfl rfl Try.underlying67 (.agg #[(.int .i64 0), (.int .i64 0), (.int .i64 0), (.string ⟨#[]⟩), (.slice none 0 0), (.slice none 0 0)]) 88 info49 rfl (by decide) (by omega) z49 (ok := fun _ => True) (okp := fun _ => True) (k49_mkM _ _ _ z49 (Kd.R_nil _ _ _ _ _) (Kd.R_nil _ _ _ _ _)) (fun _ hk => hk) trivial (of_decide_eq_true tq_20) (Nat.le_trans (Nat.mul_le_mul_right _ (of_decide_eq_true tq_20 : a0_2.toNat ≤ 3198579280802)) (by omega)) (Below.refl _ _) (Nat.le_refl _) ?_
    intro v468 w20 ho21 hb hg_ hnew_
    clear hg_ hnew_
    (first | rw [← Ny467.out] at ho21 | (simp only [Int.reduceToNat] at ho21; rw [← Ny467.out] at ho21))
    have z_ := p_ (Kd.R_below tq_84 hb) <| p_ (Kd.S_lower ho21 (below_size tq_18)) <| p_ (blk_below tq_13 hb) <| p_ (blk_below tq_17 hb) <| p_ (blk_below tq_63 hb) <| a_ (below_step tq_18 hb)
    clear HO466 BK461 BK462 BK470 HB
    obtain ⟨HO466, HO469, BK461, BK462, BK470, HB⟩ := z_
    clear hb ho21
    obtain ⟨Ao22, co22, eo22⟩ := Kd.S_slice HO469.out
    (first | subst eo22 | (injection eo22 with f1_ f2_ f3_; have f4_ := f1_.symm; have f5_ := f3_.symm; clear f1_ f2_ f3_; subst f4_; subst f5_))
    obtain ⟨Ao23, co23, eo23⟩ := Kd.R_slice HO466.out
    (first | subst eo23 | (injection eo23 with f1_ f2_ f3_; have f4_ := f1_.symm; have f5_ := f3_.symm; clear f1_ f2_ f3_; subst f4_; subst f5_))
    refine hK.out _ _ (bk4_ BK461.out) (fun hHeld => ?_)
    clear hK K
    refine nm_ (some 13) ?_
    refine yq_ (i := 6) (N := some 14) bq_0 (any_of HT_.out (by kernel_rfl)) ?_
    exact norm_ tq_39 (hJ2_5_7 (.slice Ao23 y464.length co23, .slice Ao22 y467.length co22, gb470) _ ⟨hHeld, tq_84, tq_93, tq_13, tq_17, tq_63, GW470.out, GE470.out, NB461_470.out, NB470_461.out, NB462_470.out, NB470_462.out, tq_18⟩)
  ·skip
   rintro ⟨v465, v468⟩ w22 ⟨hS_, h0_, h1_, h2_, h3_, h4_⟩
   have z_ := q_ (⟨h0_⟩ : Aside0 (Kd.R (Kd.int .i64) 3 w22 w.heap.size (fun _ => True) v465 y464)) <| q_ (⟨h1_⟩ : Aside0 (Kd.S k49 49 w22 w.heap.size (fun _ => True) v468 y467)) <| q_ (⟨h2_⟩ : Aside0 (w22.heap[gb461]? = some (.cells #[.int .i64 a0_0, .int .i64 a0_1, .int .i64 a0_2, .int .i64 a0_3] 72 (0, 0)))) <| q_ (⟨h3_⟩ : Aside0 (w22.heap[gb462]? = some (.cells #[.int .i64 0, .slice none 0 0, .slice none 0 0] 69 (0, 0)))) <| (⟨h4_⟩ : Aside0 (Below w.heap.size w w22))
   clear BK461 BK462 HB h0_ h1_ h2_ h3_ h4_
   obtain ⟨HO466, HO469, BK461, BK462, HB⟩ := z_
   have hHeld : w22.cell? ⟨gb461, 0, none⟩ = some (.int .i64 a0_0) ∧ w22.cell? ⟨gb461, 1, none⟩ = some (.int .i64 a0_1) ∧ w22.cell? ⟨gb461, 2, none⟩ = some (.int .i64 a0_2) ∧ w22.cell? ⟨gb461, 3, none⟩ = some (.int .i64 a0_3) := hS_
   obtain ⟨Ao23, co23, eo23⟩ := Kd.S_slice HO469.out
   (first | subst eo23 | (injection eo23 with f1_ f2_ f3_; have f4_ := f1_.symm; have f5_ := f3_.symm; clear f1_ f2_ f3_; subst f4_; subst f5_))
   obtain ⟨Ao24, co24, eo24⟩ := Kd.R_slice HO466.out
   (first | subst eo24 | (injection eo24 with f1_ f2_ f3_; have f4_ := f1_.symm; have f5_ := f3_.symm; clear f1_ f2_ f3_; subst f4_; subst f5_))
   refine norm_ (a' := ?_) ?_ ?_
   rotate_left
   ·simp only [putAll, Act.put, List.setIfInBounds_toArray, List.set_cons_zero, List.set_cons_succ]
    rfl
   refine one_ (i := 7) (N := some 3) bq_0 rfl rfl (one_of HT_.out (by kernel_rfl)) (by decide) (fun K hK => ?_)
   refine box_step ?hg (N := 3) ?hd (cs := #[.int .i64 0, .slice none 0 0, .slice none 0 0]) (t := 69) ?hr ?_; (case hd => rfl); (case hg => rfl); (case hr => first | (go_simp; done) | (go_simp; rfl))
   intro gb470 hg w25 hbox hb
   have z_ := p_ (Kd.R_below tq_84 hb) <| p_ (Kd.S_below tq_93 hb) <| p_ (blk_below tq_13 hb) <| p_ (blk_below tq_17 hb) <| p_ (below_step tq_12 hb) <| p_ (hbox) <| p_ (gb_ hg tq_12) <| p_ (gb_ hg tq_12) <| p_ (ltne_ hg (blk_lt tq_13)) <| p_ (gtne_ hg (blk_lt tq_13)) <| p_ (ltne_ hg (blk_lt tq_17)) <| a_ (gtne_ hg (blk_lt tq_17))
   clear HO466 HO469 BK461 BK462 HB
   obtain ⟨HO466, HO469, BK461, BK462, HB, BK470, GW470, GE470, NB461_470, NB470_461, NB462_470, NB470_462⟩ := z_
   clear hb hbox hg
   refine hK.out _ _ (bk4_ BK461.out) (fun hHeld => ?_)
   clear hK K
   refine nm_ (some 3) ?_
   exact norm_ tq_39 (hJ2_5_7 (.slice Ao24 y464.length co24, .slice Ao23 y467.length co23, gb470) _ ⟨hHeld, tq_84, tq_93, tq_13, tq_17, tq_63, GW470.out, GE470.out, NB461_470.out, NB470_461.out, NB462_470.out, NB470_462.out, tq_18⟩)
 rintro ⟨v465, v468, gb470⟩ w23 ⟨hS_, h0_, h1_, h2_, h3_, h4_, h5_, h6_, h7_, h8_, h9_, h10_, h11_⟩
 have z_ := q_ (⟨h0_⟩ : Aside0 (Kd.R (Kd.int .i64) 3 w23 w.heap.size (fun _ => True) v465 y464)) <| q_ (⟨h1_⟩ : Aside0 (Kd.S k49 49 w23 w.heap.size (fun _ => True) v468 y467)) <| q_ (⟨h2_⟩ : Aside0 (w23.heap[gb461]? = some (.cells #[.int .i64 a0_0, .int .i64 a0_1, .int .i64 a0_2, .int .i64 a0_3] 72 (0, 0)))) <| q_ (⟨h3_⟩ : Aside0 (w23.heap[gb462]? = some (.cells #[.int .i64 0, .slice none 0 0, .slice none 0 0] 69 (0, 0)))) <| q_ (⟨h4_⟩ : Aside0 (w23.heap[gb470]? = some (.cells #[.int .i64 0, .slice none 0 0, .slice none 0 0] 69 (0, 0)))) <| q_ (⟨h5_⟩ : Aside0 (w.heap.size ≤ gb470)) <| q_ (⟨h6_⟩ : Aside0 (w.heap.size ≤ gb470)) <| q_ (⟨h7_⟩ : Aside0 (gb461 ≠ gb470)) <| q_ (⟨h8_⟩ : Aside0 (gb470 ≠ gb461)) <| q_ (⟨h9_⟩ : Aside0 (gb462 ≠ gb470)) <| q_ (⟨h10_⟩ : Aside0 (gb470 ≠ gb462)) <| (⟨h11_⟩ : Aside0 (Below w.heap.size w w23))
 clear BK461 BK462 HB h0_ h1_ h2_ h3_ h4_ h5_ h6_ h7_ h8_ h9_ h10_ h11_
 obtain ⟨HO466, HO469, BK461, BK462, BK470, GW470, GE470, NB461_470, NB470_461, NB462_470, NB470_462, HB⟩ := z_
 have hHeld : w23.cell? ⟨gb461, 0, none⟩ = some (.int .i64 a0_0) ∧ w23.cell? ⟨gb461, 1, none⟩ = some (.int .i64 a0_1) ∧ w23.cell? ⟨gb461, 2, none⟩ = some (.int .i64 a0_2) ∧ w23.cell? ⟨gb461, 3, none⟩ = some (.int .i64 a0_3) := hS_
 obtain ⟨Ao24, co24, eo24⟩ := Kd.S_slice HO469.out
 (first | subst eo24 | (injection eo24 with f1_ f2_ f3_; have f4_ := f1_.symm; have f5_ := f3_.symm; clear f1_ f2_ f3_; subst f4_; subst f5_))
 obtain ⟨Ao25, co25, eo25⟩ := Kd.R_slice HO466.out
 (first | subst eo25 | (injection eo25 with f1_ f2_ f3_; have f4_ := f1_.symm; have f5_ := f3_.symm; clear f1_ f2_ f3_; subst f4_; subst f5_))
 refine norm_ (a' := ?_) ?_ ?_
 rotate_left
 ·simp only [putAll, Act.put, List.setIfInBounds_toArray, List.set_cons_zero, List.set_cons_succ]
  rfl
 refine one_ (i := 8) (N := none) bq_4 rfl rfl (one_of HT_.out (by kernel_rfl)) (by decide) (fun K hK => ?_)
 have hs26 : w23.cell? ⟨gb470, 0, none⟩ = some (.int .i64 0) := (blk_cell BK470.out 0).trans rfl
 have hfs26 := blk_frozen BK470.out 0
 have hns26_0 := NB461_470.out
 have hns26_1 := NB462_470.out
 have hms26_0 := NB470_461.out
 have hms26_1 := NB470_462.out
 have hs27 : w23.cell? ⟨gb470, 1, none⟩ = some (.slice none 0 0) := (blk_cell BK470.out 1).trans rfl
 have hfs27 := blk_frozen BK470.out 1
 have hns27_0 := NB461_470.out
 have hns27_1 := NB462_470.out
 have hms27_0 := NB470_461.out
 have hms27_1 := NB470_462.out
 have hs28 : w23.cell? ⟨gb470, 2, none⟩ = some (.slice none 0 0) := (blk_cell BK470.out 2).trans rfl
 have hfs28 := blk_frozen BK470.out 2
 have hns28_0 := NB461_470.out
 have hns28_1 := NB462_470.out
 have hms28_0 := NB470_461.out
 have hms28_1 := NB470_462.out
 refine skip_ (w1 := ?_) (by rfl) rfl ?_ ?_
 rotate_left
 ·go_simp
  rfl
 refine hK.out _ _ ⟨((cell_far (p := ⟨gb470, _, none⟩) NB461_470.out _).trans (((cell_far (p := ⟨gb470, _, none⟩) NB461_470.out _).trans (((cell_far (p := ⟨gb470, _, none⟩) NB461_470.out _).trans (hHeld.1)))))), ((cell_far (p := ⟨gb470, _, none⟩) NB461_470.out _).trans (((cell_far (p := ⟨gb470, _, none⟩) NB461_470.out _).trans (((cell_far (p := ⟨gb470, _, none⟩) NB461_470.out _).trans (hHeld.2.1)))))), ((cell_far (p := ⟨gb470, _, none⟩) NB461_470.out _).trans (((cell_far (p := ⟨gb470, _, none⟩) NB461_470.out _).trans (((cell_far (p := ⟨gb470, _, none⟩) NB461_470.out _).trans (hHeld.2.2.1)))))), ((cell_far (p := ⟨gb470, _, none⟩) NB461_470.out _).trans (((cell_far (p := ⟨gb470, _, none⟩) NB461_470.out _).trans (((cell_far (p := ⟨gb470, _, none⟩) NB461_470.out _).trans (hHeld.2.2.2))))))⟩ (fun hHeld => ?_)
 clear hK K
 refine done_ (done_of HT_.out (by kernel_rfl)) ?_
 have n0_ : Aside0 (Kd.R (Kd.int .i64) 3 (((w23.setCell ⟨gb470, 0, none⟩ (.int .i64 0)).setCell ⟨gb470, 1, none⟩ (.slice Ao25 y464.length co25)).setCell ⟨gb470, 2, none⟩ (.slice Ao24 y467.length co24)) w.heap.size (fun _ => True) (.slice Ao25 y464.length co25) y464) := ⟨(by (with_reducible repeat (first | apply Kd.R_alloc | apply Kd.R_drewN | apply Kd.R_drew)); exact Kd.R_mono (Kd.R_far (p := ⟨gb470, 2, none⟩) (Kd.R_far (p := ⟨gb470, 1, none⟩) (Kd.R_far (p := ⟨gb470, 0, none⟩) (Kd.R_types HO466.out BK470.out (by decide)) (fun _ hk => hk.2) (.int .i64 0)) (fun _ hk => hk.2) (.slice Ao25 y464.length co25)) (fun _ hk => hk.2) (.slice Ao24 y467.length co24)) (fun _ hk => trivial))⟩
 have n1_ : Aside0 (Kd.S k49 49 (((w23.setCell ⟨gb470, 0, none⟩ (.int .i64 0)).setCell ⟨gb470, 1, none⟩ (.slice Ao25 y464.length co25)).setCell ⟨gb470, 2, none⟩ (.slice Ao24 y467.length co24)) w.heap.size (fun _ => True) (.slice Ao24 y467.length co24) y467) := ⟨(by (with_reducible repeat (first | apply Kd.S_alloc | apply Kd.S_drewN | apply Kd.S_drew)); exact Kd.S_mono (Kd.S_far (p := ⟨gb470, 2, none⟩) (Kd.S_far (p := ⟨gb470, 1, none⟩) (Kd.S_far (p := ⟨gb470, 0, none⟩) (Kd.S_types HO469.out BK470.out (by decide)) (fun _ hk => hk.2) (.int .i64 0)) (fun _ hk => hk.2) (.slice Ao25 y464.length co25)) (fun _ hk => hk.2) (.slice Ao24 y467.length co24)) (fun _ hk => trivial))⟩
 have n2_ : Aside0 ((((w23.setCell ⟨gb470, 0, none⟩ (.int .i64 0)).setCell ⟨gb470, 1, none⟩ (.slice Ao25 y464.length co25)).setCell ⟨gb470, 2, none⟩ (.slice Ao24 y467.length co24)).heap[gb461]? = some (.cells #[.int .i64 a0_0, .int .i64 a0_1, .int .i64 a0_2, .int .i64 a0_3] 72 (0, 0))) := ⟨(by (with_reducible repeat (first | refine blk_drewN ?_ _ | refine blk_drew ?_ | refine blk_alloc ?_ _)); refine blk_far ?_ NB461_470.out _; (with_reducible repeat (first | refine blk_drewN ?_ _ | refine blk_drew ?_ | refine blk_alloc ?_ _)); refine blk_far ?_ NB461_470.out _; (with_reducible repeat (first | refine blk_drewN ?_ _ | refine blk_drew ?_ | refine blk_alloc ?_ _)); refine blk_far ?_ NB461_470.out _; (with_reducible repeat (first | refine blk_drewN ?_ _ | refine blk_drew ?_ | refine blk_alloc ?_ _)); exact BK461.out)⟩
 have n3_ : Aside0 ((((w23.setCell ⟨gb470, 0, none⟩ (.int .i64 0)).setCell ⟨gb470, 1, none⟩ (.slice Ao25 y464.length co25)).setCell ⟨gb470, 2, none⟩ (.slice Ao24 y467.length co24)).heap[gb462]? = some (.cells #[.int .i64 0, .slice none 0 0, .slice none 0 0] 69 (0, 0))) := ⟨(by (with_reducible repeat (first | refine blk_drewN ?_ _ | refine blk_drew ?_ | refine blk_alloc ?_ _)); refine blk_far ?_ NB462_470.out _; (with_reducible repeat (first | refine blk_drewN ?_ _ | refine blk_drew ?_ | refine blk_alloc ?_ _)); refine blk_far ?_ NB462_470.out _; (with_reducible repeat (first | refine blk_drewN ?_ _ | refine blk_drew ?_ | refine blk_alloc ?_ _)); refine blk_far ?_ NB462_470.out _; (with_reducible repeat (first | refine blk_drewN ?_ _ | refine blk_drew ?_ | refine blk_alloc ?_ _)); exact BK462.out)⟩
 have n4_ : Aside0 ((((w23.setCell ⟨gb470, 0, none⟩ (.int .i64 0)).setCell ⟨gb470, 1, none⟩ (.slice Ao25 y464.length co25)).setCell ⟨gb470, 2, none⟩ (.slice Ao24 y467.length co24)).heap[gb470]? = some (.cells #[.int .i64 0, .slice Ao25 y464.length co25, .slice Ao24 y467.length co24] 69 (0, 0))) := ⟨(by (with_reducible repeat (first | refine blk_drewN ?_ _ | refine blk_drew ?_ | refine blk_alloc ?_ _)); refine blk_put (cs := #[.int .i64 0, .slice Ao25 y464.length co25, .slice none 0 0]) ?_ 2 _ rfl; (with_reducible repeat (first | refine blk_drewN ?_ _ | refine blk_drew ?_ | refine blk_alloc ?_ _)); refine blk_put (cs := #[.int .i64 0, .slice none 0 0, .slice none 0 0]) ?_ 1 _ rfl; (with_reducible repeat (first | refine blk_drewN ?_ _ | refine blk_drew ?_ | refine blk_alloc ?_ _)); refine blk_put (cs := #[.int .i64 0, .slice none 0 0, .slice none 0 0]) ?_ 0 _ rfl; (with_reducible repeat (first | refine blk_drewN ?_ _ | refine blk_drew ?_ | refine blk_alloc ?_ _)); exact BK470.out)⟩
 have n5_ : Aside0 (Below w.heap.size w (((w23.setCell ⟨gb470, 0, none⟩ (.int .i64 0)).setCell ⟨gb470, 1, none⟩ (.slice Ao25 y464.length co25)).setCell ⟨gb470, 2, none⟩ (.slice Ao24 y467.length co24))) := ⟨tq_18⟩
 (try clear HO466)
 (try clear HO469)
 (try clear BK461)
 (try clear BK462)
 (try clear BK470)
 (try clear HB)
 generalize (((w23.setCell ⟨gb470, 0, none⟩ (.int .i64 0)).setCell ⟨gb470, 1, none⟩ (.slice Ao25 y464.length co25)).setCell ⟨gb470, 2, none⟩ (.slice Ao24 y467.length co24)) = w29 at n0_ n1_ n2_ n3_ n4_ n5_ ⊢
 have HO466 := n0_
 have HO469 := n1_
 have BK461 := n2_
 have BK462 := n3_
 have BK470 := n4_
 have HB := n5_
 clear n0_ n1_ n2_ n3_ n4_ n5_
 have hnb30 := NB470_461.out
 have hnc30 := NB461_470.out
 have hnb31 := NB470_462.out
 have hnc31 := NB462_470.out
 obtain ⟨hcz32_0, hcz32_1, hcz32_2⟩ := bk3_ BK470.out
 obtain ⟨hfz32_0, hfz32_1, hfz32_2⟩ := bf3_ BK470.out
 have p9 : 0 ≤ (0 : Int) := (by omega)
 have q9 : (0 : Int) < ((y467.length : Int) : Int) := of_decide_eq_true tq_20
 have qi9 : (0 < y467.length) = True := eq_true (by omega)
 obtain ⟨go9, co9, eo9, gb9, gl9, cl9, HG9⟩ := Kd.S_form HO469.out (by omega)
 (first | cases eo9 | (injection eo9 with ea_ en_ ec_; (first | subst ea_ | (injection ea_ with ea_; subst ea_)); subst ec_; clear en_))
 have GB9 := Aside0.mk gb9
 have GG9 := Aside0.mk HG9
 clear gb9 gl9 HG9
 obtain ⟨_, ce9, hcl9, hM9, hcc9, hfr9, _, _⟩ := Kd.S_elem HO469.out z49 (0 : Int) p9 q9
 obtain ⟨ve9_4, ve9_5, rfl, ge9_4, ge9_5⟩ := k49_openM hM9
 have hx9_0 : w29.cell? ⟨go9, (0 : Int).toNat * 6, none⟩ = some (.int .i64 ((rd_T49 y467 0).f0)) := hcc9 0 _ rfl
 have hx9_1 : w29.cell? ⟨go9, (0 : Int).toNat * 6 + 1, none⟩ = some (.int .i64 ((rd_T49 y467 0).f1)) := hcc9 1 _ rfl
 have hx9_2 : w29.cell? ⟨go9, (0 : Int).toNat * 6 + 2, none⟩ = some (.int .i64 ((rd_T49 y467 0).f2)) := hcc9 2 _ rfl
 have hx9_3 : w29.cell? ⟨go9, (0 : Int).toNat * 6 + 3, none⟩ = some (.string ((rd_T49 y467 0).f3)) := hcc9 3 _ rfl
 have hx9_4 : w29.cell? ⟨go9, (0 : Int).toNat * 6 + 4, none⟩ = some (ve9_4) := hcc9 4 _ rfl
 have hx9_5 : w29.cell? ⟨go9, (0 : Int).toNat * 6 + 5, none⟩ = some (ve9_5) := hcc9 5 _ rfl
 have hf9_0 : w29.frozen? ⟨go9, (0 : Int).toNat * 6, none⟩ = false := hfr9 0
 have hf9_1 : w29.frozen? ⟨go9, (0 : Int).toNat * 6 + 1, none⟩ = false := hfr9 1
 have hf9_2 : w29.frozen? ⟨go9, (0 : Int).toNat * 6 + 2, none⟩ = false := hfr9 2
 have hf9_3 : w29.frozen? ⟨go9, (0 : Int).toNat * 6 + 3, none⟩ = false := hfr9 3
 have hf9_4 : w29.frozen? ⟨go9, (0 : Int).toNat * 6 + 4, none⟩ = false := hfr9 4
 have hf9_5 : w29.frozen? ⟨go9, (0 : Int).toNat * 6 + 5, none⟩ = false := hfr9 5
 clear hcl9 hcc9 hfr9 hM9
 (try rw [show ((0 : Int)).toNat = 0 from rfl] at hx9_0)
 (try simp only [Nat.reduceMul, Nat.zero_mul, Nat.zero_add, Nat.reduceAdd] at hx9_0)
 (try rw [show ((0 : Int)).toNat = 0 from rfl] at hf9_0)
 (try simp only [Nat.reduceMul, Nat.zero_mul, Nat.zero_add, Nat.reduceAdd] at hf9_0)
 (try rw [show ((0 : Int)).toNat = 0 from rfl] at hx9_1)
 (try simp only [Nat.reduceMul, Nat.zero_mul, Nat.zero_add, Nat.reduceAdd] at hx9_1)
 (try rw [show ((0 : Int)).toNat = 0 from rfl] at hf9_1)
 (try simp only [Nat.reduceMul, Nat.zero_mul, Nat.zero_add, Nat.reduceAdd] at hf9_1)
 (try rw [show ((0 : Int)).toNat = 0 from rfl] at hx9_2)
 (try simp only [Nat.reduceMul, Nat.zero_mul, Nat.zero_add, Nat.reduceAdd] at hx9_2)
 (try rw [show ((0 : Int)).toNat = 0 from rfl] at hf9_2)
 (try simp only [Nat.reduceMul, Nat.zero_mul, Nat.zero_add, Nat.reduceAdd] at hf9_2)
 (try rw [show ((0 : Int)).toNat = 0 from rfl] at hx9_3)
 (try simp only [Nat.reduceMul, Nat.zero_mul, Nat.zero_add, Nat.reduceAdd] at hx9_3)
 (try rw [show ((0 : Int)).toNat = 0 from rfl] at hf9_3)
 (try simp only [Nat.reduceMul, Nat.zero_mul, Nat.zero_add, Nat.reduceAdd] at hf9_3)
 (try rw [show ((0 : Int)).toNat = 0 from rfl] at hx9_4)
 (try simp only [Nat.reduceMul, Nat.zero_mul, Nat.zero_add, Nat.reduceAdd] at hx9_4)
 (try rw [show ((0 : Int)).toNat = 0 from rfl] at hf9_4)
 (try simp only [Nat.reduceMul, Nat.zero_mul, Nat.zero_add, Nat.reduceAdd] at hf9_4)
 (try rw [show ((0 : Int)).toNat = 0 from rfl] at hx9_5)
 (try simp only [Nat.reduceMul, Nat.zero_mul, Nat.zero_add, Nat.reduceAdd] at hx9_5)
 (try rw [show ((0 : Int)).toNat = 0 from rfl] at hf9_5)
 (try simp only [Nat.reduceMul, Nat.zero_mul, Nat.zero_add, Nat.reduceAdd] at hf9_5)
 replace p9 := eq_true p9
 replace q9 := eq_true q9
 have HX33 := Aside0.mk (show Kd.S k49 49 w29 w.heap.size (fun k_ => ((fun _ => True)) k_ ∧ ¬ ((fun _ => False)) k_) (.slice (some ⟨go9, 0, none⟩) y467.length co24) y467 from (by (with_reducible repeat (first | apply Kd.S_alloc | apply Kd.S_drewN | apply Kd.S_drew)); exact Kd.S_mono HO469.out (fun k_ hk => ⟨trivial, fun e_ => e_⟩)))
 obtain ⟨oki33, ce33, hcl33, hM33, hcc33, hfr33, hoki33, hH33⟩ := Kd.S_elem HX33.out z49 (0 : Int) (by omega) (by have h_ : (0 : Int) < ((y467.length : Int) : Int) := of_decide_eq_true tq_20; first | exact h_ | (have e_ := (Kd.S_reads' HO469.out).1; omega) | simpa using h_)
 obtain ⟨ve33_4, ve33_5, rfl, ge33_4, ge33_5⟩ := k49_openM hM33
 have HP33 := Kd.S_seg hH33 (by omega) (by have h_ : (0 : Int) < ((y467.length : Int) : Int) := of_decide_eq_true tq_20; first | exact h_ | (have e_ := (Kd.S_reads' HO469.out).1; omega) | simpa using h_) (seg := [.int .i64 2, .int .i64 0, .int .i64 1, .string (⟨#[]⟩ : ByteArray), .slice none 0 0, .slice none 0 0]) (j := 0) (show 6 ≤ 6 from by decide) (x' := (⟨2, 0, 1, (⟨#[]⟩ : ByteArray), ([] : List (S170)), ([] : List (S59))⟩ : S49)) (k49_mkM _ _ _ (⟨2, 0, 1, (⟨#[]⟩ : ByteArray), ([] : List (S170)), ([] : List (S59))⟩ : S49) (Kd.R_nil _ _ _ _ _) (Kd.R_nil _ _ _ _ _)) (fun _ hk => hk) (fun k_ hk_ => hk_.elim)
 have hx33_0 := hcc33 0 _ rfl
 (try simp only [show (k49).sz = 6 from rfl, Nat.mul_one, Nat.add_zero] at hx33_0)
 (try rw [show ((0 : Int)).toNat = 0 from rfl] at hx33_0)
 (try simp only [Nat.reduceMul, Nat.zero_mul, Nat.zero_add, Nat.reduceAdd] at hx33_0)
 have hf33_0 := hfr33 0
 (try simp only [show (k49).sz = 6 from rfl, Nat.mul_one, Nat.add_zero] at hf33_0)
 (try rw [show ((0 : Int)).toNat = 0 from rfl] at hf33_0)
 (try simp only [Nat.reduceMul, Nat.zero_mul, Nat.zero_add, Nat.reduceAdd] at hf33_0)
 have hx33_1 := hcc33 1 _ rfl
 (try simp only [show (k49).sz = 6 from rfl, Nat.mul_one, Nat.add_zero] at hx33_1)
 (try rw [show ((0 : Int)).toNat = 0 from rfl] at hx33_1)
 (try simp only [Nat.reduceMul, Nat.zero_mul, Nat.zero_add, Nat.reduceAdd] at hx33_1)
 have hf33_1 := hfr33 1
 (try simp only [show (k49).sz = 6 from rfl, Nat.mul_one, Nat.add_zero] at hf33_1)
 (try rw [show ((0 : Int)).toNat = 0 from rfl] at hf33_1)
 (try simp only [Nat.reduceMul, Nat.zero_mul, Nat.zero_add, Nat.reduceAdd] at hf33_1)
 have hx33_2 := hcc33 2 _ rfl
 (try simp only [show (k49).sz = 6 from rfl, Nat.mul_one, Nat.add_zero] at hx33_2)
 (try rw [show ((0 : Int)).toNat = 0 from rfl] at hx33_2)
 (try simp only [Nat.reduceMul, Nat.zero_mul, Nat.zero_add, Nat.reduceAdd] at hx33_2)
 have hf33_2 := hfr33 2
 (try simp only [show (k49).sz = 6 from rfl, Nat.mul_one, Nat.add_zero] at hf33_2)
 (try rw [show ((0 : Int)).toNat = 0 from rfl] at hf33_2)
 (try simp only [Nat.reduceMul, Nat.zero_mul, Nat.zero_add, Nat.reduceAdd] at hf33_2)
 have hx33_3 := hcc33 3 _ rfl
 (try simp only [show (k49).sz = 6 from rfl, Nat.mul_one, Nat.add_zero] at hx33_3)
 (try rw [show ((0 : Int)).toNat = 0 from rfl] at hx33_3)
 (try simp only [Nat.reduceMul, Nat.zero_mul, Nat.zero_add, Nat.reduceAdd] at hx33_3)
 have hf33_3 := hfr33 3
 (try simp only [show (k49).sz = 6 from rfl, Nat.mul_one, Nat.add_zero] at hf33_3)
 (try rw [show ((0 : Int)).toNat = 0 from rfl] at hf33_3)
 (try simp only [Nat.reduceMul, Nat.zero_mul, Nat.zero_add, Nat.reduceAdd] at hf33_3)
 have hx33_4 := hcc33 4 _ rfl
 (try simp only [show (k49).sz = 6 from rfl, Nat.mul_one, Nat.add_zero] at hx33_4)
 (try rw [show ((0 : Int)).toNat = 0 from rfl] at hx33_4)
 (try simp only [Nat.reduceMul, Nat.zero_mul, Nat.zero_add, Nat.reduceAdd] at hx33_4)
 have hf33_4 := hfr33 4
 (try simp only [show (k49).sz = 6 from rfl, Nat.mul_one, Nat.add_zero] at hf33_4)
 (try rw [show ((0 : Int)).toNat = 0 from rfl] at hf33_4)
 (try simp only [Nat.reduceMul, Nat.zero_mul, Nat.zero_add, Nat.reduceAdd] at hf33_4)
 have hx33_5 := hcc33 5 _ rfl
 (try simp only [show (k49).sz = 6 from rfl, Nat.mul_one, Nat.add_zero] at hx33_5)
 (try rw [show ((0 : Int)).toNat = 0 from rfl] at hx33_5)
 (try simp only [Nat.reduceMul, Nat.zero_mul, Nat.zero_add, Nat.reduceAdd] at hx33_5)
 have hf33_5 := hfr33 5
 (try simp only [show (k49).sz = 6 from rfl, Nat.mul_one, Nat.add_zero] at hf33_5)
 (try rw [show ((0 : Int)).toNat = 0 from rfl] at hf33_5)
 (try simp only [Nat.reduceMul, Nat.zero_mul, Nat.zero_add, Nat.reduceAdd] at hf33_5)
 clear hcl33 hcc33 hfr33 hM33 hoki33 hH33
 try go_wp2_with (first | ((with_reducible refine gate_store (t := 49) (p := 18) rfl ?_); refine store_event (t := 49) (p := 18) (v := ?vo_w34) (w1 := ((((((w29.setCell ⟨go9, 0, none⟩ (.int .i64 2)).setCell ⟨go9, 1, none⟩ (.int .i64 0)).setCell ⟨go9, 2, none⟩ (.int .i64 1)).setCell ⟨go9, 3, none⟩ (.string (⟨#[]⟩ : ByteArray))).setCell ⟨go9, 4, none⟩ (.slice none 0 0)).setCell ⟨go9, 5, none⟩ (.slice none 0 0))) ?hg ?ho ?hn ?hr ?_; (case ho => rfl); (case hg => rfl); (case hn => rfl); (case hr => first | (go_simp; done) | (go_simp; rfl)); intro w34 hw; have hg : w29.grownBy w34 (some go9) := (by rw [hw]; exact HP33.2); have hp_ : Kd.S k49 49 w34 w.heap.size (fun _ => True) (.slice (some ⟨go9, 0, none⟩) y467.length co24) y471 := (by rw [hw, Ny471.out]; exact HP33.1); clear HP33; have z_ := p_ (blk_grown (g := gb461) (o := .cells #[.int .i64 a0_0, .int .i64 a0_1, .int .i64 a0_2, .int .i64 a0_3] 72 (0, 0)) tq_13 hg (Kd.S_ne HO469.out BK461.out (by decide))) <| p_ (blk_grown (g := gb462) (o := .cells #[.int .i64 0, .slice none 0 0, .slice none 0 0] 69 (0, 0)) tq_17 hg (Kd.S_ne HO469.out BK462.out (by decide))) <| p_ (Kd.R_over' (v := (.slice (some ⟨go9, 0, none⟩) y467.length co24)) tq_84 (Kd.S_typed HO469.out) (by decide) hg) <| p_ (hp_) <| p_ (blk_grown (g := gb470) (o := .cells #[.int .i64 0, .slice Ao25 y464.length co25, .slice (some ⟨go9, 0, none⟩) y467.length co24] 69 (0, 0)) tq_63 hg (Kd.S_ne HO469.out BK470.out (by decide))) <| a_ ((by rw [hw]; exact below_set (below_set (below_set (below_set (below_set (below_set (HB.out) GB9.out) GB9.out) GB9.out) GB9.out) GB9.out) GB9.out : Below w.heap.size w w34)); clear BK461 BK462 HO466 HO469 BK470 HB; obtain ⟨BK461, BK462, HO466, HO469, BK470, HB⟩ := z_; clear hg hw hp_; obtain ⟨hcz35_0, hcz35_1, hcz35_2⟩ := bk3_ BK470.out; obtain ⟨hfz35_0, hfz35_1, hfz35_2⟩ := bf3_ BK470.out; obtain ⟨hcz36_0, hcz36_1, hcz36_2⟩ := bk3_ BK462.out; obtain ⟨hfz36_0, hfz36_1, hfz36_2⟩ := bf3_ BK462.out))
 refine bodyPost_ret (results_cell_row rfl _ _ gb462 69 #[.int .i64 0, .slice Ao25 y464.length co25, .slice (some ⟨go9, 0, none⟩) y467.length co24] (0, 0) _ rfl (by (with_reducible repeat (first | refine blk_drewN ?_ _ | refine blk_drew ?_ | refine blk_alloc ?_ _)); refine blk_put (cs := #[.int .i64 0, .slice Ao25 y464.length co25, .slice none 0 0]) ?_ 2 _ rfl; (with_reducible repeat (first | refine blk_drewN ?_ _ | refine blk_drew ?_ | refine blk_alloc ?_ _)); refine blk_put (cs := #[.int .i64 0, .slice none 0 0, .slice none 0 0]) ?_ 1 _ rfl; (with_reducible repeat (first | refine blk_drewN ?_ _ | refine blk_drew ?_ | refine blk_alloc ?_ _)); refine blk_put (cs := #[.int .i64 0, .slice none 0 0, .slice none 0 0]) ?_ 0 _ rfl; (with_reducible repeat (first | refine blk_drewN ?_ _ | refine blk_drew ?_ | refine blk_alloc ?_ _)); exact BK462.out) Try.underlying69 rfl (by kernel_rfl)) rfl ?_
 exact ⟨_, _, tq_11, (by (with_reducible repeat (first | apply Kd.R_alloc | apply Kd.R_drewN | apply Kd.R_drew)); exact Kd.R_mono (Kd.R_far (p := ⟨gb462, 2, none⟩) (Kd.R_far (p := ⟨gb462, 1, none⟩) (Kd.R_far (p := ⟨gb462, 0, none⟩) (Kd.R_types HO466.out BK462.out (by decide)) (fun _ hk => hk.2) (.int .i64 0)) (fun _ hk => hk.2) (.slice Ao25 y464.length co25)) (fun _ hk => hk.2) (.slice (some ⟨go9, 0, none⟩) y467.length co24)) (fun _ hk => trivial)), (by (with_reducible repeat (first | apply Kd.S_alloc | apply Kd.S_drewN | apply Kd.S_drew)); exact Kd.S_mono (Kd.S_far (p := ⟨gb462, 2, none⟩) (Kd.S_far (p := ⟨gb462, 1, none⟩) (Kd.S_far (p := ⟨gb462, 0, none⟩) (Kd.S_types HO469.out BK462.out (by decide)) (fun _ hk => hk.2) (.int .i64 0)) (fun _ hk => hk.2) (.slice Ao25 y464.length co25)) (fun _ hk => hk.2) (.slice (some ⟨go9, 0, none⟩) y467.length co24)) (fun _ hk => trivial)), tq_18⟩

end Go.Proofs.Ytcdnfkoahajhhaa.PFnEntries
