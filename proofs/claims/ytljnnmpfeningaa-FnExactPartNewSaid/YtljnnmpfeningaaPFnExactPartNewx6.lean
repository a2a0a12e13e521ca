/- Contracts of Go functions, written by a program of ours over the print of the kit: each says that the call returns what the Lean function beside it computes. Conditions: as each theorem states them. -/
import Derived.Test.YtljnnmpfeningaaPkFnExactPartNew
import Derived.Test.YtljnnmpfeningaaPFnExactPartNewx0
import Derived.Test.YtljnnmpfeningaaPFnExactPartNewx5
namespace Go.Proofs.Ytljnnmpfeningaa.PFnExactPartNew
open Go.RowKit Go.Proofs.YtljnnmpfeningaaW.PrintWords Go.Proofs.YtljnnmpfeningaaW.PrintLast Go.Proofs.YtljnnmpfeningaaW.PrintMore
attribute [local go_sem] max2_int min2_int max_two min_two max_three min_three max_four min_four   -- for this text's walks alone
set_option linter.unusedVariables false
set_option linter.unusedSimpArgs false

/-! ### impl_PartNew: function 24 -/
def impl_PartNew.f (a0_0 : Int) (a0_1 : Int) (a0_2 : Int) (a0_3 : Int) : Option (Int × List Int × (List (S64))) := (impl_GeoOk.f a0_0 a0_1 a0_2 a0_3).bind fun t150 => (if t150 = true then (if 0 ≤ a0_1 then (if (a0_1 : Int).toNat ≤ 35184372088832 then (if 0 ≤ a0_2 then (if (a0_2 : Int).toNat ≤ 3198579280802 then ((some (List.replicate (a0_2 : Int).toNat z64 : List (S64))).bind fun y154 => (if 0 < (y154.length : Int) then (some (0, (List.replicate (a0_1 : Int).toNat 0), (y154.set (0 : Int).toNat (⟨2, 0, 1, (⟨#[]⟩ : ByteArray), ([] : List (S96)), ([] : List (S67))⟩ : S64)))) else (none))) else (none)) else (none)) else (none)) else (none)) else (some (0, ([] : List Int), ([] : List (S64)))))
def impl_PartNew.T3 : Bool × List (List Nat × List Nat) := (true, [([], []), ([0], [0]), ([1, 1], [1]), ([], []), ([3], [3]), ([4, 4], [4]), ([2, 5], [2, 5]), ([], []), ([7, 6, 0, 1, 2, 3, 4, 5, 6, 7], [6, 7])])
def impl_PartNew.B3 : List Nat := [0, 1, 3, 0, 8, 24, 63, 0, 255]
theorem impl_PartNew.tab3 : rtab .any (opsOf Try.f24 3) = impl_PartNew.T3 := by kernel_rfl
theorem impl_PartNew.bits3 : waitsOk impl_PartNew.T3.2 impl_PartNew.B3 = true := by kernel_rfl
set_option maxHeartbeats 8000000 in
set_option maxRecDepth 100000 in
theorem impl_PartNew.calls (a0_0 : Int) (a0_1 : Int) (a0_2 : Int) (a0_3 : Int) (r1 : Int) (r2 : List Int) (r3 : List (S64)) (w : World) (h : impl_PartNew.f a0_0 a0_1 a0_2 a0_3 = some (r1, r2, r3)) :
  Calls Try.prog 24 #[.agg #[.int .i64 a0_0, .int .i64 a0_1, .int .i64 a0_2, .int .i64 a0_3]] w fun e w' => ∃ v1_ v2_ : Value, e = .returned (.agg #[.int .i64 r1, v1_, v2_]) ∧ Kd.R (Kd.int .i64) 3 w' w.heap.size (fun _ => True) v1_ r2 ∧ Kd.S k64 64 w' w.heap.size (fun _ => True) v2_ r3 ∧ Below w.heap.size w w' := by
 have hu30 := Try.underlying30
 have hu34 := Try.underlying34
 have hu64 := Try.underlying64
 have HB := Aside0.mk (Below.refl w.heap.size w)
 unfold impl_PartNew.f at h
 have H := h
 clear h
 obtain ⟨t150, A2, H⟩ := bd_ H
 by_cases c3 : t150 = true
 rotate_left
 ·replace c3 := Bool.eq_false_iff.mpr c3
  subst c3
  rw [if_neg nf_] at H
  simp only [Option.some.injEq, Prod.mk.injEq] at H
  obtain ⟨rfl, rfl, rfl⟩ := H
  go_enter Try.func24, Try.ntmps24
  go_wp2_with (first | ((with_reducible refine gate_dst (N := 1) rfl ?_); refine be_ 1 (cs := #[.int .i64 a0_0, .int .i64 a0_1, .int .i64 a0_2, .int .i64 a0_3]) 30 ?_; intro gb148 hg w37 hbox hb; have z_ := bx0_ th_ hb hbox hg; clear HB; obtain ⟨HB, BK148, GW148, GE148⟩ := z_; clear hb hbox hg) | ((with_reducible refine gate_dst (N := 2) rfl ?_); refine be_ 2 (cs := #[.int .i64 0, .slice none 0 0, .slice none 0 0]) 34 ?_; intro gb149 hg w38 hbox hb; have z_ := bx1_ (kb_ BK148) th_ hb hbox hg; clear BK148 HB; obtain ⟨BK148, HB, BK149, GW149, GE149, NB148_149, NB149_148⟩ := z_; clear hb hbox hg; obtain ⟨n148_149, n149_148⟩ := an2_ NB148_149 NB149_148; obtain ⟨hcz40_0, hcz40_1, hcz40_2, hcz40_3⟩ := bk4_ BK148.out; obtain ⟨hfz40_0, hfz40_1, hfz40_2, hfz40_3⟩ := bf4_ BK148.out) | ((with_reducible refine gate_callee (f := 39) rfl ?_); refine goesL_ (some 5) rfl rfl Try.func39 (by kernel_rfl) rfl #[.agg #[.int .i64 a0_0, .int .i64 a0_1, .int .i64 a0_2, .int .i64 a0_3]] rfl tq_0 ?_; (with_reducible refine (impl_GeoOk.calls a0_0 a0_1 a0_2 a0_3 false _ A2.out).mono ?_); rintro e w41 ⟨rfl, hb⟩; refine ⟨_, rfl, ?_⟩; have z_ := bw2_ (kb_ BK148) (kb_ BK149) th_ hb; clear BK148 BK149 HB; obtain ⟨BK148, BK149, HB⟩ := z_; (try clear hb); obtain ⟨hcz42_0, hcz42_1, hcz42_2⟩ := bk3_ BK149.out; obtain ⟨hfz42_0, hfz42_1, hfz42_2⟩ := bf3_ BK149.out))
  refine bodyPost_ret (results_cell_row rfl _ _ gb149 34 #[.int .i64 0, .slice none 0 0, .slice none 0 0] (0, 0) _ rfl tb_ Try.underlying34 rfl (by kernel_rfl)) rfl ?_
  exact ⟨_, _, tq_2, tq_51, tq_50, th_⟩
 subst c3
 rw [if_pos rfl] at H
 obtain ⟨c4, H⟩ := fc_ H
 have c4b0 := eq_true c4
 have c4b1 := decide_eq_true c4
 clear c4
 obtain ⟨c5, H⟩ := fc_ H
 have c5b0 := eq_true c5
 have c5b1 := decide_eq_true c5
 clear c5
 obtain ⟨y151, hy151⟩ : ∃ y_ : List Int, y_ = (List.replicate (a0_1 : Int).toNat 0) := ⟨_, rfl⟩
 replace H : (if 0 ≤ a0_2 then (if (a0_2 : Int).toNat ≤ 3198579280802 then ((some (List.replicate (a0_2 : Int).toNat z64 : List (S64))).bind fun y154 => (if 0 < (y154.length : Int) then (some (0, y151, (y154.set (0 : Int).toNat (⟨2, 0, 1, (⟨#[]⟩ : ByteArray), ([] : List (S96)), ([] : List (S67))⟩ : S64)))) else (none))) else (none)) else (none)) = some (r1, r2, r3) := by first | (rw [hy151]; with_reducible exact H) | (have H2_ := (Option.bind_some _ _).symm.trans H; rw [hy151]; with_reducible exact H2_) | (have H2_ := (Option.bind_some _ _).symm.trans H; with_reducible exact H2_) | with_reducible exact H | (rw [hy151]; exact H) | exact H
 have Ny151 := Aside0.mk hy151
 clear hy151
 obtain ⟨c6, H⟩ := fc_ H
 have c6b0 := eq_true c6
 have c6b1 := decide_eq_true c6
 clear c6
 obtain ⟨c7, H⟩ := fc_ H
 have c7b0 := eq_true c7
 have c7b1 := decide_eq_true c7
 clear c7
 obtain ⟨y154, Ny154, H⟩ := bs_ H
 obtain ⟨c8, H⟩ := fc_ H
 have c8b0 := decide_eq_true c8
 have c8b1 : decide (0 < y154.length) = true := decide_eq_true (by omega)
 clear c8
 obtain ⟨y158, hy158⟩ : ∃ y_ : List (S64), y_ = (y154.set (0 : Int).toNat (⟨2, 0, 1, (⟨#[]⟩ : ByteArray), ([] : List (S96)), ([] : List (S67))⟩ : S64)) := ⟨_, rfl⟩
 replace H : (some (0, y151, y158)) = some (r1, r2, r3) := by first | (rw [hy158]; with_reducible exact H) | (have H2_ := (Option.bind_some _ _).symm.trans H; rw [hy158]; with_reducible exact H2_) | (have H2_ := (Option.bind_some _ _).symm.trans H; with_reducible exact H2_) | with_reducible exact H | (rw [hy158]; exact H) | exact H
 have Ny158 := Aside0.mk hy158
 clear hy158
 simp only [Option.some.injEq, Prod.mk.injEq] at H
 obtain ⟨rfl, rfl, rfl⟩ := H
 go_enter Try.func24, Try.ntmps24
 try go_wp2_with (first | ((with_reducible refine gate_dst (N := 1) rfl ?_); refine be_ 1 (cs := #[.int .i64 a0_0, .int .i64 a0_1, .int .i64 a0_2, .int .i64 a0_3]) 30 ?_; intro gb148 hg w10 hbox hb; have z_ := bx0_ th_ hb hbox hg; clear HB; obtain ⟨HB, BK148, GW148, GE148⟩ := z_; clear hb hbox hg) | ((with_reducible refine gate_dst (N := 2) rfl ?_); refine be_ 2 (cs := #[.int .i64 0, .slice none 0 0, .slice none 0 0]) 34 ?_; intro gb149 hg w11 hbox hb; have z_ := bx1_ (kb_ BK148) th_ hb hbox hg; clear BK148 HB; obtain ⟨BK148, HB, BK149, GW149, GE149, NB148_149, NB149_148⟩ := z_; clear hb hbox hg; obtain ⟨n148_149, n149_148⟩ := an2_ NB148_149 NB149_148; obtain ⟨hcz13_0, hcz13_1, hcz13_2, hcz13_3⟩ := bk4_ BK148.out; obtain ⟨hfz13_0, hfz13_1, hfz13_2, hfz13_3⟩ := bf4_ BK148.out) | ((with_reducible refine gate_callee (f := 39) rfl ?_); refine goesL_ (some 5) rfl rfl Try.func39 (by kernel_rfl) rfl #[.agg #[.int .i64 a0_0, .int .i64 a0_1, .int .i64 a0_2, .int .i64 a0_3]] rfl tq_0 ?_; (with_reducible refine (impl_GeoOk.calls a0_0 a0_1 a0_2 a0_3 true _ A2.out).mono ?_); rintro e w14 ⟨rfl, hb⟩; refine ⟨_, rfl, ?_⟩; have z_ := bw2_ (kb_ BK148) (kb_ BK149) th_ hb; clear BK148 BK149 HB; obtain ⟨BK148, BK149, HB⟩ := z_; (try clear hb)))
 have z_ := dw2_ BK148 BK149 HB
 clear BK148 BK149 HB
 obtain ⟨BK148, BK149, HB⟩ := z_
 refine start_ (n := 9) (S := fun w' => w'.cell? ⟨gb148, 0, none⟩ = some (.int .i64 a0_0) ∧ w'.cell? ⟨gb148, 1, none⟩ = some (.int .i64 a0_1) ∧ w'.cell? ⟨gb148, 2, none⟩ = some (.int .i64 a0_2) ∧ w'.cell? ⟨gb148, 3, none⟩ = some (.int .i64 a0_3)) (ds := []) bq_29 (by kernel_rfl) rfl rfl (bk4_ BK148.out) (fun hHeld => ?_); refine with_tabW impl_PartNew.tab3 impl_PartNew.bits3 (fun HT_ HW_ => ?_)
 generalize w14.drew = w15 at BK148 BK149 HB hHeld ⊢
 refine yr_ 0 8 bq_30 HT_ ?_
 refine yr_ 3 11 bq_31 HT_ ?_
 refine tr_ 1 9 bq_32 HT_ HW_ hHeld ?_
 refine tr_ 4 12 bq_33 HT_ HW_ hHeld ?_
 refine join_ (σ := Value × Value × Nat) 1 bq_0 (fun s_ => [(10, s_.1), (13, s_.2.1), (3, .pointer (some ⟨s_.2.2, 0, none⟩)), (14, .agg #[.int .i64 0, s_.1, s_.2.1])]) (fun s_ w' => (w'.cell? ⟨gb148, 0, none⟩ = some (.int .i64 a0_0) ∧ w'.cell? ⟨gb148, 1, none⟩ = some (.int .i64 a0_1) ∧ w'.cell? ⟨gb148, 2, none⟩ = some (.int .i64 a0_2) ∧ w'.cell? ⟨gb148, 3, none⟩ = some (.int .i64 a0_3)) ∧ (Kd.R (Kd.int .i64) 3 w' w.heap.size (fun _ => True) s_.1 y151) ∧ (Kd.S k64 64 w' w.heap.size (fun _ => True) s_.2.1 y154) ∧ (w'.heap[gb148]? = some (.cells #[.int .i64 a0_0, .int .i64 a0_1, .int .i64 a0_2, .int .i64 a0_3] 30 (0, 0))) ∧ (w'.heap[gb149]? = some (.cells #[.int .i64 0, .slice none 0 0, .slice none 0 0] 34 (0, 0))) ∧ (w'.heap[s_.2.2]? = some (.cells #[.int .i64 0, .slice none 0 0, .slice none 0 0] 34 (0, 0))) ∧ (w.heap.size ≤ s_.2.2) ∧ (w.heap.size ≤ s_.2.2) ∧ (gb148 ≠ s_.2.2) ∧ (s_.2.2 ≠ gb148) ∧ (gb149 ≠ s_.2.2) ∧ (s_.2.2 ≠ gb149) ∧ (Below w.heap.size w w')) ?_ ?_
 rotate_left
 ·intro hJ2_5_7
  refine join_ (σ := Value × Value) 2 bq_21 (fun s_ => [(10, s_.1), (13, s_.2), (14, .agg #[.int .i64 0, s_.1, s_.2])]) (fun s_ w' => (w'.cell? ⟨gb148, 0, none⟩ = some (.int .i64 a0_0) ∧ w'.cell? ⟨gb148, 1, none⟩ = some (.int .i64 a0_1) ∧ w'.cell? ⟨gb148, 2, none⟩ = some (.int .i64 a0_2) ∧ w'.cell? ⟨gb148, 3, none⟩ = some (.int .i64 a0_3)) ∧ (Kd.R (Kd.int .i64) 3 w' w.heap.size (fun _ => True) s_.1 y151) ∧ (Kd.S k64 64 w' w.heap.size (fun _ => True) s_.2 y154) ∧ (w'.heap[gb148]? = some (.cells #[.int .i64 a0_0, .int .i64 a0_1, .int .i64 a0_2, .int .i64 a0_3] 30 (0, 0))) ∧ (w'.heap[gb149]? = some (.cells #[.int .i64 0, .slice none 0 0, .slice none 0 0] 34 (0, 0))) ∧ (Below w.heap.size w w')) ?_ ?_
  rotate_left
  ·intro hJ2_5
   refine join_ (σ := Value × Nat) 3 bq_22 (fun s_ => [(10, s_.1), (3, .pointer (some ⟨s_.2, 0, none⟩))]) (fun s_ w' => (w'.cell? ⟨gb148, 0, none⟩ = some (.int .i64 a0_0) ∧ w'.cell? ⟨gb148, 1, none⟩ = some (.int .i64 a0_1) ∧ w'.cell? ⟨gb148, 2, none⟩ = some (.int .i64 a0_2) ∧ w'.cell? ⟨gb148, 3, none⟩ = some (.int .i64 a0_3)) ∧ (Kd.R (Kd.int .i64) 3 w' w.heap.size (fun _ => True) s_.1 y151) ∧ (w'.heap[gb148]? = some (.cells #[.int .i64 a0_0, .int .i64 a0_1, .int .i64 a0_2, .int .i64 a0_3] 30 (0, 0))) ∧ (w'.heap[gb149]? = some (.cells #[.int .i64 0, .slice none 0 0, .slice none 0 0] 34 (0, 0))) ∧ (w'.heap[s_.2]? = some (.cells #[.int .i64 0, .slice none 0 0, .slice none 0 0] 34 (0, 0))) ∧ (w.heap.size ≤ s_.2) ∧ (w.heap.size ≤ s_.2) ∧ (gb148 ≠ s_.2) ∧ (s_.2 ≠ gb148) ∧ (gb149 ≠ s_.2) ∧ (s_.2 ≠ gb149) ∧ (Below w.heap.size w w')) ?_ ?_
   rotate_left
   ·intro hJ2_7
    refine join_ (σ := Value × Nat) 3 bq_23 (fun s_ => [(13, s_.1), (3, .pointer (some ⟨s_.2, 0, none⟩))]) (fun s_ w' => (w'.cell? ⟨gb148, 0, none⟩ = some (.int .i64 a0_0) ∧ w'.cell? ⟨gb148, 1, none⟩ = some (.int .i64 a0_1) ∧ w'.cell? ⟨gb148, 2, none⟩ = some (.int .i64 a0_2) ∧ w'.cell? ⟨gb148, 3, none⟩ = some (.int .i64 a0_3)) ∧ (Kd.S k64 64 w' w.heap.size (fun _ => True) s_.1 y154) ∧ (w'.heap[gb148]? = some (.cells #[.int .i64 a0_0, .int .i64 a0_1, .int .i64 a0_2, .int .i64 a0_3] 30 (0, 0))) ∧ (w'.heap[gb149]? = some (.cells #[.int .i64 0, .slice none 0 0, .slice none 0 0] 34 (0, 0))) ∧ (w'.heap[s_.2]? = some (.cells #[.int .i64 0, .slice none 0 0, .slice none 0 0] 34 (0, 0))) ∧ (w.heap.size ≤ s_.2) ∧ (w.heap.size ≤ s_.2) ∧ (gb148 ≠ s_.2) ∧ (s_.2 ≠ gb148) ∧ (gb149 ≠ s_.2) ∧ (s_.2 ≠ gb149) ∧ (Below w.heap.size w w')) ?_ ?_
    rotate_left
    ·intro hJ5_7
     refine join_ (σ := Value) 4 bq_24 (fun s_ => [(10, s_)]) (fun s_ w' => (w'.cell? ⟨gb148, 0, none⟩ = some (.int .i64 a0_0) ∧ w'.cell? ⟨gb148, 1, none⟩ = some (.int .i64 a0_1) ∧ w'.cell? ⟨gb148, 2, none⟩ = some (.int .i64 a0_2) ∧ w'.cell? ⟨gb148, 3, none⟩ = some (.int .i64 a0_3)) ∧ (Kd.R (Kd.int .i64) 3 w' w.heap.size (fun _ => True) s_ y151) ∧ (w'.heap[gb148]? = some (.cells #[.int .i64 a0_0, .int .i64 a0_1, .int .i64 a0_2, .int .i64 a0_3] 30 (0, 0))) ∧ (w'.heap[gb149]? = some (.cells #[.int .i64 0, .slice none 0 0, .slice none 0 0] 34 (0, 0))) ∧ (Below w.heap.size w w')) ?_ ?_
     rotate_left
     ·intro hJ2
      refine join_ (σ := Value) 4 bq_25 (fun s_ => [(13, s_)]) (fun s_ w' => (w'.cell? ⟨gb148, 0, none⟩ = some (.int .i64 a0_0) ∧ w'.cell? ⟨gb148, 1, none⟩ = some (.int .i64 a0_1) ∧ w'.cell? ⟨gb148, 2, none⟩ = some (.int .i64 a0_2) ∧ w'.cell? ⟨gb148, 3, none⟩ = some (.int .i64 a0_3)) ∧ (Kd.S k64 64 w' w.heap.size (fun _ => True) s_ y154) ∧ (w'.heap[gb148]? = some (.cells #[.int .i64 a0_0, .int .i64 a0_1, .int .i64 a0_2, .int .i64 a0_3] 30 (0, 0))) ∧ (w'.heap[gb149]? = some (.cells #[.int .i64 0, .slice none 0 0, .slice none 0 0] 34 (0, 0))) ∧ (Below w.heap.size w w')) ?_ ?_
      rotate_left
      ·intro hJ5
       refine join_ (σ := Nat) 4 bq_26 (fun s_ => [(3, .pointer (some ⟨s_, 0, none⟩))]) (fun s_ w' => (w'.cell? ⟨gb148, 0, none⟩ = some (.int .i64 a0_0) ∧ w'.cell? ⟨gb148, 1, none⟩ = some (.int .i64 a0_1) ∧ w'.cell? ⟨gb148, 2, none⟩ = some (.int .i64 a0_2) ∧ w'.cell? ⟨gb148, 3, none⟩ = some (.int .i64 a0_3)) ∧ (w'.heap[gb148]? = some (.cells #[.int .i64 a0_0, .int .i64 a0_1, .int .i64 a0_2, .int .i64 a0_3] 30 (0, 0))) ∧ (w'.heap[gb149]? = some (.cells #[.int .i64 0, .slice none 0 0, .slice none 0 0] 34 (0, 0))) ∧ (w'.heap[s_]? = some (.cells #[.int .i64 0, .slice none 0 0, .slice none 0 0] 34 (0, 0))) ∧ (w.heap.size ≤ s_) ∧ (w.heap.size ≤ s_) ∧ (gb148 ≠ s_) ∧ (s_ ≠ gb148) ∧ (gb149 ≠ s_) ∧ (s_ ≠ gb149) ∧ (Below w.heap.size w w')) ?_ ?_
       rotate_left
       ·intro hJ7
        refine three_ (i := 2) (j := 5) (k := 7) (Ni := some 10) (Nj := some 13) (Nk := some 3) bq_24 bq_25 bq_26 rfl rfl rfl rfl rfl rfl (three_of HT_.out (by kernel_rfl)) (by decide) (by decide) (by decide) (fun K hK => ?_) (fun K hK => ?_) (fun K hK => ?_)
        ·skip
         refine Kd.R_make_step (Kd.int .i64) _ 3 (by rfl) (N := 10) rfl 24 _ _ rfl a0_1 rfl rfl Try.underlying24 (.int .i64 0) 8 info3 rfl (by decide) (by omega) 0 (ok := fun _ => True) (okp := fun _ => True) rfl (fun _ hk => hk) trivial (of_decide_eq_true tq_1) (Nat.le_trans (Nat.mul_le_mul_right _ (of_decide_eq_true tq_1 : a0_1.toNat ≤ 35184372088832)) (by omega)) (Below.refl _ _) (Nat.le_refl _) ?_
         intro v152 w16 ho17 hb hg_ hnew_
         clear hg_ hnew_
         (first | rw [← Ny151.out] at ho17 | (simp only [Int.reduceToNat] at ho17; rw [← Ny151.out] at ho17))
         have z_ := p_ (Kd.R_lower ho17 (below_size th_)) <| bw2_ (kb_ BK148) (kb_ BK149) th_ hb
         clear BK148 BK149 HB
         obtain ⟨HO153, BK148, BK149, HB⟩ := z_
         clear hb ho17
         refine hK.out _ _ (bk4_ BK148.out) (fun hHeld => ?_)
         clear hK K
         refine nm_ (some 10) ?_
         exact norm_ tq_3 (hJ2 (v152) _ ⟨hHeld, (raR_ HO153), (kb_ BK148), (kb_ BK149), th_⟩)
        ·skip
         refine Kd.S_make_step k64 _ 64 (by rfl) (N := 13) rfl 32 _ _ rfl a0_2 rfl rfl Try.underlying32 (.agg #[(.int .i64 0), (.int .i64 0), (.int .i64 0), (.string ⟨#[]⟩), (.slice none 0 0), (.slice none 0 0)]) 88 info64 rfl (by decide) (by omega) z64 (ok := fun _ => True) (okp := fun _ => True) (k64_mkM _ _ _ z64 (Kd.R_nil _ _ _ _ _) (Kd.R_nil _ _ _ _ _)) (fun _ hk => hk) trivial (of_decide_eq_true tq_1) (Nat.le_trans (Nat.mul_le_mul_right _ (of_decide_eq_true tq_1 : a0_2.toNat ≤ 3198579280802)) (by omega)) (Below.refl _ _) (Nat.le_refl _) ?_
         intro v155 w16 ho17 hb hg_ hnew_
         clear hg_ hnew_
         (first | rw [← Ny154.out] at ho17 | (simp only [Int.reduceToNat] at ho17; rw [← Ny154.out] at ho17))
         have z_ := p_ (Kd.S_lower ho17 (below_size th_)) <| bw2_ (kb_ BK148) (kb_ BK149) th_ hb
         clear BK148 BK149 HB
         obtain ⟨HO156, BK148, BK149, HB⟩ := z_
         clear hb ho17
         refine hK.out _ _ (bk4_ BK148.out) (fun hHeld => ?_)
         clear hK K
         refine nm_ (some 13) ?_
         exact norm_ tq_3 (hJ5 (v155) _ ⟨hHeld, (raS_ HO156), (kb_ BK148), (kb_ BK149), th_⟩)
        ·skip
         refine box_step ?hg (N := 3) ?hd (cs := #[.int .i64 0, .slice none 0 0, .slice none 0 0]) (t := 34) ?hr ?_; (case hd => rfl); (case hg => rfl); (case hr => first | (go_simp; done) | (go_simp; rfl))
         intro gb157 hg w16 hbox hb
         have z_ := bx2_ (kb_ BK148) (kb_ BK149) th_ hb hbox hg
         clear BK148 BK149 HB
         obtain ⟨BK148, BK149, HB, BK157, GW157, GE157, NB148_157, NB157_148, NB149_157, NB157_149⟩ := z_
         clear hb hbox hg
         refine hK.out _ _ (bk4_ BK148.out) (fun hHeld => ?_)
         clear hK K
         refine nm_ (some 3) ?_
         exact norm_ tq_3 (hJ7 (gb157) _ ⟨hHeld, (kb_ BK148), (kb_ BK149), (kb_ BK157), GW157.out, GE157.out, NB148_157.out, NB157_148.out, NB149_157.out, NB157_149.out, th_⟩)
       ·skip
        rintro gb157 w17 ⟨hS_, h0_, h1_, h2_, h3_, h4_, h5_, h6_, h7_, h8_, h9_⟩
        have z_ := q_ (⟨h0_⟩ : Aside0 (w17.heap[gb148]? = some (.cells #[.int .i64 a0_0, .int .i64 a0_1, .int .i64 a0_2, .int .i64 a0_3] 30 (0, 0)))) <| q_ (⟨h1_⟩ : Aside0 (w17.heap[gb149]? = some (.cells #[.int .i64 0, .slice none 0 0, .slice none 0 0] 34 (0, 0)))) <| q_ (⟨h2_⟩ : Aside0 (w17.heap[gb157]? = some (.cells #[.int .i64 0, .slice none 0 0, .slice none 0 0] 34 (0, 0)))) <| q_ (⟨h3_⟩ : Aside0 (w.heap.size ≤ gb157)) <| q_ (⟨h4_⟩ : Aside0 (w.heap.size ≤ gb157)) <| q_ (⟨h5_⟩ : Aside0 (gb148 ≠ gb157)) <| q_ (⟨h6_⟩ : Aside0 (gb157 ≠ gb148)) <| q_ (⟨h7_⟩ : Aside0 (gb149 ≠ gb157)) <| q_ (⟨h8_⟩ : Aside0 (gb157 ≠ gb149)) <| (⟨h9_⟩ : Aside0 (Below w.heap.size w w17))
        clear BK148 BK149 HB h0_ h1_ h2_ h3_ h4_ h5_ h6_ h7_ h8_ h9_
        obtain ⟨BK148, BK149, BK157, GW157, GE157, NB148_157, NB157_148, NB149_157, NB157_149, HB⟩ := z_
        have hHeld : w17.cell? ⟨gb148, 0, none⟩ = some (.int .i64 a0_0) ∧ w17.cell? ⟨gb148, 1, none⟩ = some (.int .i64 a0_1) ∧ w17.cell? ⟨gb148, 2, none⟩ = some (.int .i64 a0_2) ∧ w17.cell? ⟨gb148, 3, none⟩ = some (.int .i64 a0_3) := hS_
        refine norm_ (a' := ?_) ?_ ?_
        rotate_left
        ·simp only [putAll, Act.put, List.setIfInBounds_toArray, List.set_cons_zero, List.set_cons_succ]
         rfl
        refine two_ (i := 2) (j := 5) (Ni := some 10) (Nj := some 13) bq_22 bq_23 rfl rfl rfl rfl (two_of HT_.out (by kernel_rfl)) (by decide) (by decide) (fun K hK => ?_) (fun K hK => ?_)
        ·skip
         refine Kd.R_make_step (Kd.int .i64) _ 3 (by rfl) (N := 10) rfl 24 _ _ rfl a0_1 rfl rfl Try.underlying24 (.int .i64 0) 8 info3 rfl (by decide) (by omega) 0 (ok := fun _ => True) (okp := fun _ => True) rfl (fun _ hk => hk) trivial (of_decide_eq_true tq_1) (Nat.le_trans (Nat.mul_le_mul_right _ (of_decide_eq_true tq_1 : a0_1.toNat ≤ 35184372088832)) (by omega)) (Below.refl _ _) (Nat.le_refl _) ?_
         intro v152 w18 ho19 hb hg_ hnew_
         clear hg_ hnew_
         (first | rw [← Ny151.out] at ho19 | (simp only [Int.reduceToNat] at ho19; rw [← Ny151.out] at ho19))
         have z_ := p_ (Kd.R_lower ho19 (below_size th_)) <| bw3_ (kb_ BK148) (kb_ BK149) (kb_ BK157) th_ hb
         clear BK148 BK149 BK157 HB
         obtain ⟨HO153, BK148, BK149, BK157, HB⟩ := z_
         clear hb ho19
         refine hK.out _ _ (bk4_ BK148.out) (fun hHeld => ?_)
         clear hK K
         refine nm_ (some 10) ?_
         exact norm_ tq_3 (hJ2_7 (v152, gb157) _ ⟨hHeld, (raR_ HO153), (kb_ BK148), (kb_ BK149), (kb_ BK157), GW157.out, GE157.out, NB148_157.out, NB157_148.out, NB149_157.out, NB157_149.out, th_⟩)
        ·skip
         refine Kd.S_make_step k64 _ 64 (by rfl) (N := 13) rfl 32 _ _ rfl a0_2 rfl rfl Try.underlying32 (.agg #[(.int .i64 0), (.int .i64 0), (.int .i64 0), (.string ⟨#[]⟩), (.slice none 0 0), (.slice none 0 0)]) 88 info64 rfl (by decide) (by omega) z64 (ok := fun _ => True) (okp := fun _ => True) (k64_mkM _ _ _ z64 (Kd.R_nil _ _ _ _ _) (Kd.R_nil _ _ _ _ _)) (fun _ hk => hk) trivial (of_decide_eq_true tq_1) (Nat.le_trans (Nat.mul_le_mul_right _ (of_decide_eq_true tq_1 : a0_2.toNat ≤ 3198579280802)) (by omega)) (Below.refl _ _) (Nat.le_refl _) ?_
         intro v155 w18 ho19 hb hg_ hnew_
         clear hg_ hnew_
         (first | rw [← Ny154.out] at ho19 | (simp only [Int.reduceToNat] at ho19; rw [← Ny154.out] at ho19))
         have z_ := p_ (Kd.S_lower ho19 (below_size th_)) <| bw3_ (kb_ BK148) (kb_ BK149) (kb_ BK157) th_ hb
         clear BK148 BK149 BK157 HB
         obtain ⟨HO156, BK148, BK149, BK157, HB⟩ := z_
         clear hb ho19
         refine hK.out _ _ (bk4_ BK148.out) (fun hHeld => ?_)
         clear hK K
         refine nm_ (some 13) ?_
         exact norm_ tq_3 (hJ5_7 (v155, gb157) _ ⟨hHeld, (raS_ HO156), (kb_ BK148), (kb_ BK149), (kb_ BK157), GW157.out, GE157.out, NB148_157.out, NB157_148.out, NB149_157.out, NB157_149.out, th_⟩)
      ·skip
       rintro v155 w18 ⟨hS_, h0_, h1_, h2_, h3_⟩
       have z_ := q_ (⟨h0_⟩ : Aside0 (Kd.S k64 64 w18 w.heap.size (fun _ => True) v155 y154)) <| q_ (⟨h1_⟩ : Aside0 (w18.heap[gb148]? = some (.cells #[.int .i64 a0_0, .int .i64 a0_1, .int .i64 a0_2, .int .i64 a0_3] 30 (0, 0)))) <| q_ (⟨h2_⟩ : Aside0 (w18.heap[gb149]? = some (.cells #[.int .i64 0, .slice none 0 0, .slice none 0 0] 34 (0, 0)))) <| (⟨h3_⟩ : Aside0 (Below w.heap.size w w18))
       clear BK148 BK149 HB h0_ h1_ h2_ h3_
       obtain ⟨HO156, BK148, BK149, HB⟩ := z_
       have hHeld : w18.cell? ⟨gb148, 0, none⟩ = some (.int .i64 a0_0) ∧ w18.cell? ⟨gb148, 1, none⟩ = some (.int .i64 a0_1) ∧ w18.cell? ⟨gb148, 2, none⟩ = some (.int .i64 a0_2) ∧ w18.cell? ⟨gb148, 3, none⟩ = some (.int .i64 a0_3) := hS_
       refine norm_ (a' := ?_) ?_ ?_
       rotate_left
       ·simp only [putAll, Act.put, List.setIfInBounds_toArray, List.set_cons_zero, List.set_cons_succ]
        rfl
       refine two_ (i := 2) (j := 7) (Ni := some 10) (Nj := some 3) bq_27 bq_23 rfl rfl rfl rfl (two_of HT_.out (by kernel_rfl)) (by decide) (by decide) (fun K hK => ?_) (fun K hK => ?_)
       ·skip
        refine Kd.R_make_step (Kd.int .i64) _ 3 (by rfl) (N := 10) rfl 24 _ _ rfl a0_1 rfl rfl Try.underlying24 (.int .i64 0) 8 info3 rfl (by decide) (by omega) 0 (ok := fun _ => True) (okp := fun _ => True) rfl (fun _ hk => hk) trivial (of_decide_eq_true tq_1) (Nat.le_trans (Nat.mul_le_mul_right _ (of_decide_eq_true tq_1 : a0_1.toNat ≤ 35184372088832)) (by omega)) (Below.refl _ _) (Nat.le_refl _) ?_
        intro v152 w19 ho20 hb hg_ hnew_
        clear hg_ hnew_
        (first | rw [← Ny151.out] at ho20 | (simp only [Int.reduceToNat] at ho20; rw [← Ny151.out] at ho20))
        have z_ := p_ (Kd.S_below (raS_ HO156) hb) <| p_ (Kd.R_lower ho20 (below_size th_)) <| bw2_ (kb_ BK148) (kb_ BK149) th_ hb
        clear HO156 BK148 BK149 HB
        obtain ⟨HO156, HO153, BK148, BK149, HB⟩ := z_
        clear hb ho20
        obtain ⟨Ao21, co21, eo21⟩ := Kd.S_slice HO156.out
        (first | subst eo21 | (injection eo21 with f1_ f2_ f3_; have f4_ := f1_.symm; have f5_ := f3_.symm; clear f1_ f2_ f3_; subst f4_; subst f5_))
        obtain ⟨Ao22, co22, eo22⟩ := Kd.R_slice HO153.out
        (first | subst eo22 | (injection eo22 with f1_ f2_ f3_; have f4_ := f1_.symm; have f5_ := f3_.symm; clear f1_ f2_ f3_; subst f4_; subst f5_))
        refine hK.out _ _ (bk4_ BK148.out) (fun hHeld => ?_)
        clear hK K
        refine nm_ (some 10) ?_
        refine yr_ 6 14 bq_21 HT_ ?_
        exact norm_ tq_3 (hJ2_5 (.slice Ao22 y151.length co22, .slice Ao21 y154.length co21) _ ⟨hHeld, (raR_ HO153), (raS_ HO156), (kb_ BK148), (kb_ BK149), th_⟩)
       ·skip
        refine box_step ?hg (N := 3) ?hd (cs := #[.int .i64 0, .slice none 0 0, .slice none 0 0]) (t := 34) ?hr ?_; (case hd => rfl); (case hg => rfl); (case hr => first | (go_simp; done) | (go_simp; rfl))
        intro gb157 hg w19 hbox hb
        have z_ := p_ (Kd.S_below (raS_ HO156) hb) <| bx2_ (kb_ BK148) (kb_ BK149) th_ hb hbox hg
        clear HO156 BK148 BK149 HB
        obtain ⟨HO156, BK148, BK149, HB, BK157, GW157, GE157, NB148_157, NB157_148, NB149_157, NB157_149⟩ := z_
        clear hb hbox hg
        refine hK.out _ _ (bk4_ BK148.out) (fun hHeld => ?_)
        clear hK K
        refine nm_ (some 3) ?_
        exact norm_ tq_3 (hJ5_7 (v155, gb157) _ ⟨hHeld, (raS_ HO156), (kb_ BK148), (kb_ BK149), (kb_ BK157), GW157.out, GE157.out, NB148_157.out, NB157_148.out, NB149_157.out, NB157_149.out, th_⟩)
     ·skip
      rintro v152 w18 ⟨hS_, h0_, h1_, h2_, h3_⟩
      have z_ := q_ (⟨h0_⟩ : Aside0 (Kd.R (Kd.int .i64) 3 w18 w.heap.size (fun _ => True) v152 y151)) <| q_ (⟨h1_⟩ : Aside0 (w18.heap[gb148]? = some (.cells #[.int .i64 a0_0, .int .i64 a0_1, .int .i64 a0_2, .int .i64 a0_3] 30 (0, 0)))) <| q_ (⟨h2_⟩ : Aside0 (w18.heap[gb149]? = some (.cells #[.int .i64 0, .slice none 0 0, .slice none 0 0] 34 (0, 0)))) <| (⟨h3_⟩ : Aside0 (Below w.heap.size w w18))
      clear BK148 BK149 HB h0_ h1_ h2_ h3_
      obtain ⟨HO153, BK148, BK149, HB⟩ := z_
      have hHeld : w18.cell? ⟨gb148, 0, none⟩ = some (.int .i64 a0_0) ∧ w18.cell? ⟨gb148, 1, none⟩ = some (.int .i64 a0_1) ∧ w18.cell? ⟨gb148, 2, none⟩ = some (.int .i64 a0_2) ∧ w18.cell? ⟨gb148, 3, none⟩ = some (.int .i64 a0_3) := hS_
      refine norm_ (a' := ?_) ?_ ?_
      rotate_left
      ·simp only [putAll, Act.put, List.setIfInBounds_toArray, List.set_cons_zero, List.set_cons_succ]
       rfl
      refine two_ (i := 5) (j := 7) (Ni := some 13) (Nj := some 3) bq_27 bq_22 rfl rfl rfl rfl (two_of HT_.out (by kernel_rfl)) (by decide) (by decide) (fun K hK => ?_) (fun K hK => ?_)
      ·skip
       refine Kd.S_make_step k64 _ 64 (by rfl) (N := 13) rfl 32 _ _ rfl a0_2 rfl rfl Try.underlying32 (.agg #[(.int .i64 0), (.int .i64 0), (.int .i64 0), (.string ⟨#[]⟩), (.slice none 0 0), (.slice none 0 0)]) 88 info64 rfl (by decide) (by omega) z64 (ok := fun _ => True) (okp := fun _ => True) (k64_mkM _ _ _ z64 (Kd.R_nil _ _ _ _ _) (Kd.R_nil _ _ _ _ _)) (fun _ hk => hk) trivial (of_decide_eq_true tq_1) (Nat.le_trans (Nat.mul_le_mul_right _ (of_decide_eq_true tq_1 : a0_2.toNat ≤ 3198579280802)) (by omega)) (Below.refl _ _) (Nat.le_refl _) ?_
       intro v155 w19 ho20 hb hg_ hnew_
       clear hg_ hnew_
       (first | rw [← Ny154.out] at ho20 | (simp only [Int.reduceToNat] at ho20; rw [← Ny154.out] at ho20))
       have z_ := p_ (Kd.R_below (raR_ HO153) hb) <| p_ (Kd.S_lower ho20 (below_size th_)) <| bw2_ (kb_ BK148) (kb_ BK149) th_ hb
       clear HO153 BK148 BK149 HB
       obtain ⟨HO153, HO156, BK148, BK149, HB⟩ := z_
       clear hb ho20
       obtain ⟨Ao21, co21, eo21⟩ := Kd.S_slice HO156.out
       (first | subst eo21 | (injection eo21 with f1_ f2_ f3_; have f4_ := f1_.symm; have f5_ := f3_.symm; clear f1_ f2_ f3_; subst f4_; subst f5_))
       obtain ⟨Ao22, co22, eo22⟩ := Kd.R_slice HO153.out
       (first | subst eo22 | (injection eo22 with f1_ f2_ f3_; have f4_ := f1_.symm; have f5_ := f3_.symm; clear f1_ f2_ f3_; subst f4_; subst f5_))
       refine hK.out _ _ (bk4_ BK148.out) (fun hHeld => ?_)
       clear hK K
       refine nm_ (some 13) ?_
       refine yr_ 6 14 bq_21 HT_ ?_
       exact norm_ tq_3 (hJ2_5 (.slice Ao22 y151.length co22, .slice Ao21 y154.length co21) _ ⟨hHeld, (raR_ HO153), (raS_ HO156), (kb_ BK148), (kb_ BK149), th_⟩)
      ·skip
       refine box_step ?hg (N := 3) ?hd (cs := #[.int .i64 0, .slice none 0 0, .slice none 0 0]) (t := 34) ?hr ?_; (case hd => rfl); (case hg => rfl); (case hr => first | (go_simp; done) | (go_simp; rfl))
       intro gb157 hg w19 hbox hb
       have z_ := p_ (Kd.R_below (raR_ HO153) hb) <| bx2_ (kb_ BK148) (kb_ BK149) th_ hb hbox hg
       clear HO153 BK148 BK149 HB
       obtain ⟨HO153, BK148, BK149, HB, BK157, GW157, GE157, NB148_157, NB157_148, NB149_157, NB157_149⟩ := z_
       clear hb hbox hg
       refine hK.out _ _ (bk4_ BK148.out) (fun hHeld => ?_)
       clear hK K
       refine nm_ (some 3) ?_
       exact norm_ tq_3 (hJ2_7 (v152, gb157) _ ⟨hHeld, (raR_ HO153), (kb_ BK148), (kb_ BK149), (kb_ BK157), GW157.out, GE157.out, NB148_157.out, NB157_148.out, NB149_157.out, NB157_149.out, th_⟩)
    ·skip
     rintro ⟨v155, gb157⟩ w19 ⟨hS_, h0_, h1_, h2_, h3_, h4_, h5_, h6_, h7_, h8_, h9_, h10_⟩
     have z_ := q_ (⟨h0_⟩ : Aside0 (Kd.S k64 64 w19 w.heap.size (fun _ => True) v155 y154)) <| q_ (⟨h1_⟩ : Aside0 (w19.heap[gb148]? = some (.cells #[.int .i64 a0_0, .int .i64 a0_1, .int .i64 a0_2, .int .i64 a0_3] 30 (0, 0)))) <| q_ (⟨h2_⟩ : Aside0 (w19.heap[gb149]? = some (.cells #[.int .i64 0, .slice none 0 0, .slice none 0 0] 34 (0, 0)))) <| q_ (⟨h3_⟩ : Aside0 (w19.heap[gb157]? = some (.cells #[.int .i64 0, .slice none 0 0, .slice none 0 0] 34 (0, 0)))) <| q_ (⟨h4_⟩ : Aside0 (w.heap.size ≤ gb157)) <| q_ (⟨h5_⟩ : Aside0 (w.heap.size ≤ gb157)) <| q_ (⟨h6_⟩ : Aside0 (gb148 ≠ gb157)) <| q_ (⟨h7_⟩ : Aside0 (gb157 ≠ gb148)) <| q_ (⟨h8_⟩ : Aside0 (gb149 ≠ gb157)) <| q_ (⟨h9_⟩ : Aside0 (gb157 ≠ gb149)) <| (⟨h10_⟩ : Aside0 (Below w.heap.size w w19))
     clear BK148 BK149 HB h0_ h1_ h2_ h3_ h4_ h5_ h6_ h7_ h8_ h9_ h10_
     obtain ⟨HO156, BK148, BK149, BK157, GW157, GE157, NB148_157, NB157_148, NB149_157, NB157_149, HB⟩ := z_
     have hHeld : w19.cell? ⟨gb148, 0, none⟩ = some (.int .i64 a0_0) ∧ w19.cell? ⟨gb148, 1, none⟩ = some (.int .i64 a0_1) ∧ w19.cell? ⟨gb148, 2, none⟩ = some (.int .i64 a0_2) ∧ w19.cell? ⟨gb148, 3, none⟩ = some (.int .i64 a0_3) := hS_
     refine norm_ (a' := ?_) ?_ ?_
     rotate_left
     ·simp only [putAll, Act.put, List.setIfInBounds_toArray, List.set_cons_zero, List.set_cons_succ]
      rfl
     refine one_ (i := 2) (N := some 10) bq_28 rfl rfl (one_of HT_.out (by kernel_rfl)) (by decide) (fun K hK => ?_)
     refine Kd.R_make_step (Kd.int .i64) _ 3 (by rfl) (N := 10) rfl 24 _ _ rfl a0_1 rfl rfl Try.underlying24 (.int .i64 0) 8 info3 rfl (by decide) (by omega) 0 (ok := fun _ => True) (okp := fun _ => True) rfl (fun _ hk => hk) trivial (of_decide_eq_true tq_1) (Nat.le_trans (Nat.mul_le_mul_right _ (of_decide_eq_true tq_1 : a0_1.toNat ≤ 35184372088832)) (by omega)) (Below.refl _ _) (Nat.le_refl _) ?_
     intro v152 w20 ho21 hb hg_ hnew_
     clear hg_ hnew_
     (first | rw [← Ny151.out] at ho21 | (simp only [Int.reduceToNat] at ho21; rw [← Ny151.out] at ho21))
     have z_ := p_ (Kd.S_below (raS_ HO156) hb) <| p_ (Kd.R_lower ho21 (below_size th_)) <| bw3_ (kb_ BK148) (kb_ BK149) (kb_ BK157) th_ hb
     clear HO156 BK148 BK149 BK157 HB
     obtain ⟨HO156, HO153, BK148, BK149, BK157, HB⟩ := z_
     clear hb ho21
     obtain ⟨Ao22, co22, eo22⟩ := Kd.S_slice HO156.out
     (first | subst eo22 | (injection eo22 with f1_ f2_ f3_; have f4_ := f1_.symm; have f5_ := f3_.symm; clear f1_ f2_ f3_; subst f4_; subst f5_))
     obtain ⟨Ao23, co23, eo23⟩ := Kd.R_slice HO153.out
     (first | subst eo23 | (injection eo23 with f1_ f2_ f3_; have f4_ := f1_.symm; have f5_ := f3_.symm; clear f1_ f2_ f3_; subst f4_; subst f5_))
     refine hK.out _ _ (bk4_ BK148.out) (fun hHeld => ?_)
     clear hK K
     refine nm_ (some 10) ?_
     refine yr_ 6 14 bq_0 HT_ ?_
     exact norm_ tq_3 (hJ2_5_7 (.slice Ao23 y151.length co23, .slice Ao22 y154.length co22, gb157) _ ⟨hHeld, (raR_ HO153), (raS_ HO156), (kb_ BK148), (kb_ BK149), (kb_ BK157), GW157.out, GE157.out, NB148_157.out, NB157_148.out, NB149_157.out, NB157_149.out, th_⟩)
   ·skip
    rintro ⟨v152, gb157⟩ w19 ⟨hS_, h0_, h1_, h2_, h3_, h4_, h5_, h6_, h7_, h8_, h9_, h10_⟩
    have z_ := q_ (⟨h0_⟩ : Aside0 (Kd.R (Kd.int .i64) 3 w19 w.heap.size (fun _ => True) v152 y151)) <| q_ (⟨h1_⟩ : Aside0 (w19.heap[gb148]? = some (.cells #[.int .i64 a0_0, .int .i64 a0_1, .int .i64 a0_2, .int .i64 a0_3] 30 (0, 0)))) <| q_ (⟨h2_⟩ : Aside0 (w19.heap[gb149]? = some (.cells #[.int .i64 0, .slice none 0 0, .slice none 0 0] 34 (0, 0)))) <| q_ (⟨h3_⟩ : Aside0 (w19.heap[gb157]? = some (.cells #[.int .i64 0, .slice none 0 0, .slice none 0 0] 34 (0, 0)))) <| q_ (⟨h4_⟩ : Aside0 (w.heap.size ≤ gb157)) <| q_ (⟨h5_⟩ : Aside0 (w.heap.size ≤ gb157)) <| q_ (⟨h6_⟩ : Aside0 (gb148 ≠ gb157)) <| q_ (⟨h7_⟩ : Aside0 (gb157 ≠ gb148)) <| q_ (⟨h8_⟩ : Aside0 (gb149 ≠ gb157)) <| q_ (⟨h9_⟩ : Aside0 (gb157 ≠ gb149)) <| (⟨h10_⟩ : Aside0 (Below w.heap.size w w19))
    clear BK148 BK149 HB h0_ h1_ h2_ h3_ h4_ h5_ h6_ h7_ h8_ h9_ h10_
    obtain ⟨HO153, BK148, BK149, BK157, GW157, GE157, NB148_157, NB157_148, NB149_157, NB157_149, HB⟩ := z_
    have hHeld : w19.cell? ⟨gb148, 0, none⟩ = some (.int .i64 a0_0) ∧ w19.cell? ⟨gb148, 1, none⟩ = some (.int .i64 a0_1) ∧ w19.cell? ⟨gb148, 2, none⟩ = some (.int .i64 a0_2) ∧ w19.cell? ⟨gb148, 3, none⟩ = some (.int .i64 a0_3) := hS_
    refine norm_ (a' := ?_) ?_ ?_
    rotate_left
    ·simp only [putAll, Act.put, List.setIfInBounds_toArray, List.set_cons_zero, List.set_cons_succ]
     rfl
    refine one_ (i := 5) (N := some 13) bq_28 rfl rfl (one_of HT_.out (by kernel_rfl)) (by decide) (fun K hK => ?_)
    refine Kd.S_make_step k64 _ 64 (by rfl) (N := 13) rfl 32 _ _ rfl a0_2 rfl rfl Try.underlying32 (.agg #[(.int .i64 0), (.int .i64 0), (.int .i64 0), (.string ⟨#[]⟩), (.slice none 0 0), (.slice none 0 0)]) 88 info64 rfl (by decide) (by omega) z64 (ok := fun _ => True) (okp := fun _ => True) (k64_mkM _ _ _ z64 (Kd.R_nil _ _ _ _ _) (Kd.R_nil _ _ _ _ _)) (fun _ hk => hk) trivial (of_decide_eq_true tq_1) (Nat.le_trans (Nat.mul_le_mul_right _ (of_decide_eq_true tq_1 : a0_2.toNat ≤ 3198579280802)) (by omega)) (Below.refl _ _) (Nat.le_refl _) ?_
    intro v155 w20 ho21 hb hg_ hnew_
    clear hg_ hnew_
    (first | rw [← Ny154.out] at ho21 | (simp only [Int.reduceToNat] at ho21; rw [← Ny154.out] at ho21))
    have z_ := p_ (Kd.R_below (raR_ HO153) hb) <| p_ (Kd.S_lower ho21 (below_size th_)) <| bw3_ (kb_ BK148) (kb_ BK149) (kb_ BK157) th_ hb
    clear HO153 BK148 BK149 BK157 HB
    obtain ⟨HO153, HO156, BK148, BK149, BK157, HB⟩ := z_
    clear hb ho21
    obtain ⟨Ao22, co22, eo22⟩ := Kd.S_slice HO156.out
    (first | subst eo22 | (injection eo22 with f1_ f2_ f3_; have f4_ := f1_.symm; have f5_ := f3_.symm; clear f1_ f2_ f3_; subst f4_; subst f5_))
    obtain ⟨Ao23, co23, eo23⟩ := Kd.R_slice HO153.out
    (first | subst eo23 | (injection eo23 with f1_ f2_ f3_; have f4_ := f1_.symm; have f5_ := f3_.symm; clear f1_ f2_ f3_; subst f4_; subst f5_))
    refine hK.out _ _ (bk4_ BK148.out) (fun hHeld => ?_)
    clear hK K
    refine nm_ (some 13) ?_
    refine yr_ 6 14 bq_0 HT_ ?_
    exact norm_ tq_3 (hJ2_5_7 (.slice Ao23 y151.length co23, .slice Ao22 y154.length co22, gb157) _ ⟨hHeld, (raR_ HO153), (raS_ HO156), (kb_ BK148), (kb_ BK149), (kb_ BK157), GW157.out, GE157.out, NB148_157.out, NB157_148.out, NB149_157.out, NB157_149.out, th_⟩)
  ·skip
   rintro ⟨v152, v155⟩ w22 ⟨hS_, h0_, h1_, h2_, h3_, h4_⟩
   have z_ := q_ (⟨h0_⟩ : Aside0 (Kd.R (Kd.int .i64) 3 w22 w.heap.size (fun _ => True) v152 y151)) <| q_ (⟨h1_⟩ : Aside0 (Kd.S k64 64 w22 w.heap.size (fun _ => True) v155 y154)) <| q_ (⟨h2_⟩ : Aside0 (w22.heap[gb148]? = some (.cells #[.int .i64 a0_0, .int .i64 a0_1, .int .i64 a0_2, .int .i64 a0_3] 30 (0, 0)))) <| q_ (⟨h3_⟩ : Aside0 (w22.heap[gb149]? = some (.cells #[.int .i64 0, .slice none 0 0, .slice none 0 0] 34 (0, 0)))) <| (⟨h4_⟩ : Aside0 (Below w.heap.size w w22))
   clear BK148 BK149 HB h0_ h1_ h2_ h3_ h4_
   obtain ⟨HO153, HO156, BK148, BK149, HB⟩ := z_
   have hHeld : w22.cell? ⟨gb148, 0, none⟩ = some (.int .i64 a0_0) ∧ w22.cell? ⟨gb148, 1, none⟩ = some (.int .i64 a0_1) ∧ w22.cell? ⟨gb148, 2, none⟩ = some (.int .i64 a0_2) ∧ w22.cell? ⟨gb148, 3, none⟩ = some (.int .i64 a0_3) := hS_
   obtain ⟨Ao23, co23, eo23⟩ := Kd.S_slice HO156.out
   (first | subst eo23 | (injection eo23 with f1_ f2_ f3_; have f4_ := f1_.symm; have f5_ := f3_.symm; clear f1_ f2_ f3_; subst f4_; subst f5_))
   obtain ⟨Ao24, co24, eo24⟩ := Kd.R_slice HO153.out
   (first | subst eo24 | (injection eo24 with f1_ f2_ f3_; have f4_ := f1_.symm; have f5_ := f3_.symm; clear f1_ f2_ f3_; subst f4_; subst f5_))
   refine norm_ (a' := ?_) ?_ ?_
   rotate_left
   ·simp only [putAll, Act.put, List.setIfInBounds_toArray, List.set_cons_zero, List.set_cons_succ]
    rfl
   refine one_ (i := 7) (N := some 3) bq_0 rfl rfl (one_of HT_.out (by kernel_rfl)) (by decide) (fun K hK => ?_)
   refine box_step ?hg (N := 3) ?hd (cs := #[.int .i64 0, .slice none 0 0, .slice none 0 0]) (t := 34) ?hr ?_; (case hd => rfl); (case hg => rfl); (case hr => first | (go_simp; done) | (go_simp; rfl))
   intro gb157 hg w25 hbox hb
   have z_ := p_ (Kd.R_below (raR_ HO153) hb) <| p_ (Kd.S_below (raS_ HO156) hb) <| bx2_ (kb_ BK148) (kb_ BK149) th_ hb hbox hg
   clear HO153 HO156 BK148 BK149 HB
   obtain ⟨HO153, HO156, BK148, BK149, HB, BK157, GW157, GE157, NB148_157, NB157_148, NB149_157, NB157_149⟩ := z_
   clear hb hbox hg
   refine hK.out _ _ (bk4_ BK148.out) (fun hHeld => ?_)
   clear hK K
   refine nm_ (some 3) ?_
   exact norm_ tq_3 (hJ2_5_7 (.slice Ao24 y151.length co24, .slice Ao23 y154.length co23, gb157) _ ⟨hHeld, (raR_ HO153), (raS_ HO156), (kb_ BK148), (kb_ BK149), (kb_ BK157), GW157.out, GE157.out, NB148_157.out, NB157_148.out, NB149_157.out, NB157_149.out, th_⟩)
 rintro ⟨v152, v155, gb157⟩ w23 ⟨hS_, h0_, h1_, h2_, h3_, h4_, h5_, h6_, h7_, h8_, h9_, h10_, h11_⟩
 have z_ := q_ (⟨h0_⟩ : Aside0 (Kd.R (Kd.int .i64) 3 w23 w.heap.size (fun _ => True) v152 y151)) <| q_ (⟨h1_⟩ : Aside0 (Kd.S k64 64 w23 w.heap.size (fun _ => True) v155 y154)) <| q_ (⟨h2_⟩ : Aside0 (w23.heap[gb148]? = some (.cells #[.int .i64 a0_0, .int .i64 a0_1, .int .i64 a0_2, .int .i64 a0_3] 30 (0, 0)))) <| q_ (⟨h3_⟩ : Aside0 (w23.heap[gb149]? = some (.cells #[.int .i64 0, .slice none 0 0, .slice none 0 0] 34 (0, 0)))) <| q_ (⟨h4_⟩ : Aside0 (w23.heap[gb157]? = some (.cells #[.int .i64 0, .slice none 0 0, .slice none 0 0] 34 (0, 0)))) <| q_ (⟨h5_⟩ : Aside0 (w.heap.size ≤ gb157)) <| q_ (⟨h6_⟩ : Aside0 (w.heap.size ≤ gb157)) <| q_ (⟨h7_⟩ : Aside0 (gb148 ≠ gb157)) <| q_ (⟨h8_⟩ : Aside0 (gb157 ≠ gb148)) <| q_ (⟨h9_⟩ : Aside0 (gb149 ≠ gb157)) <| q_ (⟨h10_⟩ : Aside0 (gb157 ≠ gb149)) <| (⟨h11_⟩ : Aside0 (Below w.heap.size w w23))
 clear BK148 BK149 HB h0_ h1_ h2_ h3_ h4_ h5_ h6_ h7_ h8_ h9_ h10_ h11_
 obtain ⟨HO153, HO156, BK148, BK149, BK157, GW157, GE157, NB148_157, NB157_148, NB149_157, NB157_149, HB⟩ := z_
 have hHeld : w23.cell? ⟨gb148, 0, none⟩ = some (.int .i64 a0_0) ∧ w23.cell? ⟨gb148, 1, none⟩ = some (.int .i64 a0_1) ∧ w23.cell? ⟨gb148, 2, none⟩ = some (.int .i64 a0_2) ∧ w23.cell? ⟨gb148, 3, none⟩ = some (.int .i64 a0_3) := hS_
 obtain ⟨Ao24, co24, eo24⟩ := Kd.S_slice HO156.out
 (first | subst eo24 | (injection eo24 with f1_ f2_ f3_; have f4_ := f1_.symm; have f5_ := f3_.symm; clear f1_ f2_ f3_; subst f4_; subst f5_))
 obtain ⟨Ao25, co25, eo25⟩ := Kd.R_slice HO153.out
 (first | subst eo25 | (injection eo25 with f1_ f2_ f3_; have f4_ := f1_.symm; have f5_ := f3_.symm; clear f1_ f2_ f3_; subst f4_; subst f5_))
 refine norm_ (a' := ?_) ?_ ?_
 rotate_left
 ·simp only [putAll, Act.put, List.setIfInBounds_toArray, List.set_cons_zero, List.set_cons_succ]
  rfl
 refine one_ (i := 8) (N := none) bq_34 rfl rfl (one_of HT_.out (by kernel_rfl)) (by decide) (fun K hK => ?_)
 have hs26 : w23.cell? ⟨gb157, 0, none⟩ = some (.int .i64 0) := (blk_cell BK157.out 0).trans rfl
 have hfs26 := blk_frozen BK157.out 0
 obtain ⟨n148_157, n149_157, n157_148, n157_149⟩ := an4_ NB148_157 NB149_157 NB157_148 NB157_149
 have hs27 : w23.cell? ⟨gb157, 1, none⟩ = some (.slice none 0 0) := (blk_cell BK157.out 1).trans rfl
 have hfs27 := blk_frozen BK157.out 1
 have hs28 : w23.cell? ⟨gb157, 2, none⟩ = some (.slice none 0 0) := (blk_cell BK157.out 2).trans rfl
 have hfs28 := blk_frozen BK157.out 2
 refine skip_ (w1 := ?_) (by rfl) rfl ?_ ?_
 rotate_left
 ·go_simp
  rfl
 refine hK.out _ _ ⟨(cf_ NB148_157 (cf_ NB148_157 (cf_ NB148_157 hHeld.1))), (cf_ NB148_157 (cf_ NB148_157 (cf_ NB148_157 hHeld.2.1))), (cf_ NB148_157 (cf_ NB148_157 (cf_ NB148_157 hHeld.2.2.1))), (cf_ NB148_157 (cf_ NB148_157 (cf_ NB148_157 hHeld.2.2.2)))⟩ (fun hHeld => ?_)
 clear hK K
 refine done_ (done_of HT_.out (by kernel_rfl)) ?_
 have n0_ : Aside0 (Kd.R (Kd.int .i64) 3 (((w23.setCell ⟨gb157, 0, none⟩ (.int .i64 0)).setCell ⟨gb157, 1, none⟩ (.slice Ao25 y151.length co25)).setCell ⟨gb157, 2, none⟩ (.slice Ao24 y154.length co24)) w.heap.size (fun _ => True) (.slice Ao25 y151.length co25) y151) := ⟨(by (with_reducible repeat (first | apply Kd.R_alloc | apply Kd.R_drewN | apply Kd.R_drew)); exact Kd.R_mono (rR_ (rR_ (rR_ (Kd.R_types HO153.out BK157.out (by decide))))) (fun _ hk => trivial))⟩
 have n1_ : Aside0 (Kd.S k64 64 (((w23.setCell ⟨gb157, 0, none⟩ (.int .i64 0)).setCell ⟨gb157, 1, none⟩ (.slice Ao25 y151.length co25)).setCell ⟨gb157, 2, none⟩ (.slice Ao24 y154.length co24)) w.heap.size (fun _ => True) (.slice Ao24 y154.length co24) y154) := ⟨(by (with_reducible repeat (first | apply Kd.S_alloc | apply Kd.S_drewN | apply Kd.S_drew)); exact Kd.S_mono (rS_ (rS_ (rS_ (Kd.S_types HO156.out BK157.out (by decide))))) (fun _ hk => trivial))⟩
 have n2_ : Aside0 ((((w23.setCell ⟨gb157, 0, none⟩ (.int .i64 0)).setCell ⟨gb157, 1, none⟩ (.slice Ao25 y151.length co25)).setCell ⟨gb157, 2, none⟩ (.slice Ao24 y154.length co24)).heap[gb148]? = some (.cells #[.int .i64 a0_0, .int .i64 a0_1, .int .i64 a0_2, .int .i64 a0_3] 30 (0, 0))) := ⟨tb_⟩
 have n3_ : Aside0 ((((w23.setCell ⟨gb157, 0, none⟩ (.int .i64 0)).setCell ⟨gb157, 1, none⟩ (.slice Ao25 y151.length co25)).setCell ⟨gb157, 2, none⟩ (.slice Ao24 y154.length co24)).heap[gb149]? = some (.cells #[.int .i64 0, .slice none 0 0, .slice none 0 0] 34 (0, 0))) := ⟨tb_⟩
 have n4_ : Aside0 ((((w23.setCell ⟨gb157, 0, none⟩ (.int .i64 0)).setCell ⟨gb157, 1, none⟩ (.slice Ao25 y151.length co25)).setCell ⟨gb157, 2, none⟩ (.slice Ao24 y154.length co24)).heap[gb157]? = some (.cells #[.int .i64 0, .slice Ao25 y151.length co25, .slice Ao24 y154.length co24] 34 (0, 0))) := ⟨tb_⟩
 have n5_ : Aside0 (Below w.heap.size w (((w23.setCell ⟨gb157, 0, none⟩ (.int .i64 0)).setCell ⟨gb157, 1, none⟩ (.slice Ao25 y151.length co25)).setCell ⟨gb157, 2, none⟩ (.slice Ao24 y154.length co24))) := ⟨th_⟩
 (try clear HO153)
 (try clear HO156)
 (try clear BK148)
 (try clear BK149)
 (try clear BK157)
 (try clear HB)
 generalize (((w23.setCell ⟨gb157, 0, none⟩ (.int .i64 0)).setCell ⟨gb157, 1, none⟩ (.slice Ao25 y151.length co25)).setCell ⟨gb157, 2, none⟩ (.slice Ao24 y154.length co24)) = w29 at n0_ n1_ n2_ n3_ n4_ n5_ ⊢
 have HO153 := n0_
 have HO156 := n1_
 have BK148 := n2_
 have BK149 := n3_
 have BK157 := n4_
 have HB := n5_
 clear n0_ n1_ n2_ n3_ n4_ n5_
 obtain ⟨hcz32_0, hcz32_1, hcz32_2⟩ := bk3_ BK157.out
 obtain ⟨hfz32_0, hfz32_1, hfz32_2⟩ := bf3_ BK157.out
 have p9 : 0 ≤ (0 : Int) := (by omega)
 have q9 : (0 : Int) < ((y154.length : Int) : Int) := of_decide_eq_true tq_1
 have qi9 : (0 < y154.length) = True := eq_true (by omega)
 obtain ⟨go9, co9, eo9, gb9, gl9, cl9, HG9⟩ := Kd.S_form HO156.out (by omega)
 (first | cases eo9 | (injection eo9 with ea_ en_ ec_; (first | subst ea_ | (injection ea_ with ea_; subst ea_)); subst ec_; clear en_))
 have GB9 := Aside0.mk gb9
 have GG9 := Aside0.mk HG9
 clear gb9 gl9 HG9
 obtain ⟨_, ce9, hcl9, hM9, hcc9, hfr9, _, _⟩ := Kd.S_elem HO156.out z64 (0 : Int) p9 q9
 obtain ⟨ve9_4, ve9_5, rfl, ge9_4, ge9_5⟩ := k64_openM hM9
 have hx9_0 : w29.cell? ⟨go9, (0 : Int).toNat * 6, none⟩ = some (.int .i64 ((rd_T64 y154 0).f0)) := hcc9 0 _ rfl
 have hx9_1 : w29.cell? ⟨go9, (0 : Int).toNat * 6 + 1, none⟩ = some (.int .i64 ((rd_T64 y154 0).f1)) := hcc9 1 _ rfl
 have hx9_2 : w29.cell? ⟨go9, (0 : Int).toNat * 6 + 2, none⟩ = some (.int .i64 ((rd_T64 y154 0).f2)) := hcc9 2 _ rfl
 have hx9_3 : w29.cell? ⟨go9, (0 : Int).toNat * 6 + 3, none⟩ = some (.string ((rd_T64 y154 0).f3)) := hcc9 3 _ rfl
 have hx9_4 : w29.cell? ⟨go9, (0 : Int).toNat * 6 + 4, none⟩ = some (ve9_4) := hcc9 4 _ rfl
 have hx9_5 : w29.cell? ⟨go9, (0 : Int).toNat * 6 + 5, none⟩ = some (ve9_5) := hcc9 5 _ rfl
 have hf9_0 : w29.frozen? ⟨go9, (0 : Int).toNat * 6, none⟩ = false := hfr9 0
 have hf9_1 : w29.frozen? ⟨go9, (0 : Int).toNat * 6 + 1, none⟩ = false := hfr9 1
 have hf9_2 : w29.frozen? ⟨go9, (0 : Int).toNat * 6 + 2, none⟩ = false := hfr9 2
 have hf9_3 : w29.frozen? ⟨go9, (0 : Int).toNat * 6 + 3, none⟩ = false := hfr9 3
 have hf9_4 : w29.frozen? ⟨go9, (0 : Int).toNat * 6 + 4, none⟩ = false := hfr9 4
 have hf9_5 : w29.frozen? ⟨go9, (0 : Int).toNat * 6 + 5, none⟩ = false := hfr9 5
 clear hcl9 hcc9 hfr9 hM9
 (try rw [show ((0 : Int)).toNat = 0 from rfl] at hx9_0)
 (try simp only [Nat.reduceMul, Nat.zero_mul, Nat.zero_add, Nat.reduceAdd] at hx9_0)
 (try rw [show ((0 : Int)).toNat = 0 from rfl] at hf9_0)
 (try simp only [Nat.reduceMul, Nat.zero_mul, Nat.zero_add, Nat.reduceAdd] at hf9_0)
 (try rw [show ((0 : Int)).toNat = 0 from rfl] at hx9_1)
 (try simp only [Nat.reduceMul, Nat.zero_mul, Nat.zero_add, Nat.reduceAdd] at hx9_1)
 (try rw [show ((0 : Int)).toNat = 0 from rfl] at hf9_1)
 (try simp only [Nat.reduceMul, Nat.zero_mul, Nat.zero_add, Nat.reduceAdd] at hf9_1)
 (try rw [show ((0 : Int)).toNat = 0 from rfl] at hx9_2)
 (try simp only [Nat.reduceMul, Nat.zero_mul, Nat.zero_add, Nat.reduceAdd] at hx9_2)
 (try rw [show ((0 : Int)).toNat = 0 from rfl] at hf9_2)
 (try simp only [Nat.reduceMul, Nat.zero_mul, Nat.zero_add, Nat.reduceAdd] at hf9_2)
 (try rw [show ((0 : Int)).toNat = 0 from rfl] at hx9_3)
 (try simp only [Nat.reduceMul, Nat.zero_mul, Nat.zero_add, Nat.reduceAdd] at hx9_3)
 (try rw [show ((0 : Int)).toNat = 0 from rfl] at hf9_3)
 (try simp only [Nat.reduceMul, Nat.zero_mul, Nat.zero_add, Nat.reduceAdd] at hf9_3)
 (try rw [show ((0 : Int)).toNat = 0 from rfl] at hx9_4)
 (try simp only [Nat.reduceMul, Nat.zero_mul, Nat.zero_add, Nat.reduceAdd] at hx9_4)
 (try rw [show ((0 : Int)).toNat = 0 from rfl] at hf9_4)
 (try simp only [Nat.reduceMul, Nat.zero_mul, Nat.zero_add, Nat.reduceAdd] at hf9_4)
 (try rw [show ((0 : Int)).toNat = 0 from rfl] at hx9_5)
 (try simp only [Nat.reduceMul, Nat.zero_mul, Nat.zero_add, Nat.reduceAdd] at hx9_5)
 (try rw [show ((0 : Int)).toNat = 0 from rfl] at hf9_5)
 (try simp only [Nat.reduceMul, Nat.zero_mul, Nat.zero_add, Nat.reduceAdd] at hf9_5)
 replace p9 := eq_true p9
 replace q9 := eq_true q9
 have HX33 := Aside0.mk (show Kd.S k64 64 w29 w.heap.size (fun k_ => ((fun _ => True)) k_ ∧ ¬ ((fun _ => False)) k_) (.slice (some ⟨go9, 0, none⟩) y154.length co24) y154 from (by (with_reducible repeat (first | apply Kd.S_alloc | apply Kd.S_drewN | apply Kd.S_drew)); exact Kd.S_mono HO156.out (fun k_ hk => ⟨trivial, fun e_ => e_⟩)))
 obtain ⟨oki33, ce33, hcl33, hM33, hcc33, hfr33, hoki33, hH33⟩ := Kd.S_elem HX33.out z64 (0 : Int) (by omega) (by have h_ : (0 : Int) < ((y154.length : Int) : Int) := of_decide_eq_true tq_1; first | exact h_ | (have e_ := (Kd.S_reads' HO156.out).1; omega) | simpa using h_)
 obtain ⟨ve33_4, ve33_5, rfl, ge33_4, ge33_5⟩ := k64_openM hM33
 have HP33 := Kd.S_seg hH33 (by omega) (by have h_ : (0 : Int) < ((y154.length : Int) : Int) := of_decide_eq_true tq_1; first | exact h_ | (have e_ := (Kd.S_reads' HO156.out).1; omega) | simpa using h_) (seg := [.int .i64 2, .int .i64 0, .int .i64 1, .string (⟨#[]⟩ : ByteArray), .slice none 0 0, .slice none 0 0]) (j := 0) (show 6 ≤ 6 from by decide) (x' := (⟨2, 0, 1, (⟨#[]⟩ : ByteArray), ([] : List (S96)), ([] : List (S67))⟩ : S64)) (k64_mkM _ _ _ (⟨2, 0, 1, (⟨#[]⟩ : ByteArray), ([] : List (S96)), ([] : List (S67))⟩ : S64) (Kd.R_nil _ _ _ _ _) (Kd.R_nil _ _ _ _ _)) (fun _ hk => hk) (fun k_ hk_ => hk_.elim)
 have hx33_0 := hcc33 0 _ rfl
 (try simp only [show (k64).sz = 6 from rfl, Nat.mul_one, Nat.add_zero] at hx33_0)
 (try rw [show ((0 : Int)).toNat = 0 from rfl] at hx33_0)
 (try simp only [Nat.reduceMul, Nat.zero_mul, Nat.zero_add, Nat.reduceAdd] at hx33_0)
 have hf33_0 := hfr33 0
 (try simp only [show (k64).sz = 6 from rfl, Nat.mul_one, Nat.add_zero] at hf33_0)
 (try rw [show ((0 : Int)).toNat = 0 from rfl] at hf33_0)
 (try simp only [Nat.reduceMul, Nat.zero_mul, Nat.zero_add, Nat.reduceAdd] at hf33_0)
 have hx33_1 := hcc33 1 _ rfl
 (try simp only [show (k64).sz = 6 from rfl, Nat.mul_one, Nat.add_zero] at hx33_1)
 (try rw [show ((0 : Int)).toNat = 0 from rfl] at hx33_1)
 (try simp only [Nat.reduceMul, Nat.zero_mul, Nat.zero_add, Nat.reduceAdd] at hx33_1)
 have hf33_1 := hfr33 1
 (try simp only [show (k64).sz = 6 from rfl, Nat.mul_one, Nat.add_zero] at hf33_1)
 (try rw [show ((0 : Int)).toNat = 0 from rfl] at hf33_1)
 (try simp only [Nat.reduceMul, Nat.zero_mul, Nat.zero_add, Nat.reduceAdd] at hf33_1)
 have hx33_2 := hcc33 2 _ rfl
 (try simp only [show (k64).sz = 6 from rfl, Nat.mul_one, Nat.add_zero] at hx33_2)
 (try rw [show ((0 : Int)).toNat = 0 from rfl] at hx33_2)
 (try simp only [Nat.reduceMul, Nat.zero_mul, Nat.zero_add, Nat.reduceAdd] at hx33_2)
 have hf33_2 := hfr33 2
 (try simp only [show (k64).sz = 6 from rfl, Nat.mul_one, Nat.add_zero] at hf33_2)
 (try rw [show ((0 : Int)).toNat = 0 from rfl] at hf33_2)
 (try simp only [Nat.reduceMul, Nat.zero_mul, Nat.zero_add, Nat.reduceAdd] at hf33_2)
 have hx33_3 := hcc33 3 _ rfl
 (try simp only [show (k64).sz = 6 from rfl, Nat.mul_one, Nat.add_zero] at hx33_3)
 (try rw [show ((0 : Int)).toNat = 0 from rfl] at hx33_3)
 (try simp only [Nat.reduceMul, Nat.zero_mul, Nat.zero_add, Nat.reduceAdd] at hx33_3)
 have hf33_3 := hfr33 3
 (try simp only [show (k64).sz = 6 from rfl, Nat.mul_one, Nat.add_zero] at hf33_3)
 (try rw [show ((0 : Int)).toNat = 0 from rfl] at hf33_3)
 (try simp only [Nat.reduceMul, Nat.zero_mul, Nat.zero_add, Nat.reduceAdd] at hf33_3)
 have hx33_4 := hcc33 4 _ rfl
 (try simp only [show (k64).sz = 6 from rfl, Nat.mul_one, Nat.add_zero] at hx33_4)
 (try rw [show ((0 : Int)).toNat = 0 from rfl] at hx33_4)
 (try simp only [Nat.reduceMul, Nat.zero_mul, Nat.zero_add, Nat.reduceAdd] at hx33_4)
 have hf33_4 := hfr33 4
 (try simp only [show (k64).sz = 6 from rfl, Nat.mul_one, Nat.add_zero] at hf33_4)
 (try rw [show ((0 : Int)).toNat = 0 from rfl] at hf33_4)
 (try simp only [Nat.reduceMul, Nat.zero_mul, Nat.zero_add, Nat.reduceAdd] at hf33_4)
 have hx33_5 := hcc33 5 _ rfl
 (try simp only [show (k64).sz = 6 from rfl, Nat.mul_one, Nat.add_zero] at hx33_5)
 (try rw [show ((0 : Int)).toNat = 0 from rfl] at hx33_5)
 (try simp only [Nat.reduceMul, Nat.zero_mul, Nat.zero_add, Nat.reduceAdd] at hx33_5)
 have hf33_5 := hfr33 5
 (try simp only [show (k64).sz = 6 from rfl, Nat.mul_one, Nat.add_zero] at hf33_5)
 (try rw [show ((0 : Int)).toNat = 0 from rfl] at hf33_5)
 (try simp only [Nat.reduceMul, Nat.zero_mul, Nat.zero_add, Nat.reduceAdd] at hf33_5)
 clear hcl33 hcc33 hfr33 hM33 hoki33 hH33
 try go_wp2_with (first | ((with_reducible refine gate_store (t := 64) (p := 18) rfl ?_); refine store_event (t := 64) (p := 18) (v := ?vo_w34) (w1 := ((((((w29.setCell ⟨go9, 0, none⟩ (.int .i64 2)).setCell ⟨go9, 1, none⟩ (.int .i64 0)).setCell ⟨go9, 2, none⟩ (.int .i64 1)).setCell ⟨go9, 3, none⟩ (.string (⟨#[]⟩ : ByteArray))).setCell ⟨go9, 4, none⟩ (.slice none 0 0)).setCell ⟨go9, 5, none⟩ (.slice none 0 0))) ?hg ?ho ?hn ?hr ?_; (case ho => rfl); (case hg => rfl); (case hn => rfl); (case hr => first | (go_simp; done) | (go_simp; rfl)); intro w34 hw; have hg : w29.grownBy w34 (some go9) := (by rw [hw]; exact HP33.2); have hp_ : Kd.S k64 64 w34 w.heap.size (fun _ => True) (.slice (some ⟨go9, 0, none⟩) y154.length co24) y158 := (by rw [hw, Ny158.out]; exact HP33.1); clear HP33; have z_ := p_ (blk_grown (g := gb148) (o := .cells #[.int .i64 a0_0, .int .i64 a0_1, .int .i64 a0_2, .int .i64 a0_3] 30 (0, 0)) (kb_ BK148) hg (Kd.S_ne HO156.out BK148.out (by decide))) <| p_ (blk_grown (g := gb149) (o := .cells #[.int .i64 0, .slice none 0 0, .slice none 0 0] 34 (0, 0)) (kb_ BK149) hg (Kd.S_ne HO156.out BK149.out (by decide))) <| p_ (Kd.R_over' (v := (.slice (some ⟨go9, 0, none⟩) y154.length co24)) (raR_ HO153) (Kd.S_typed HO156.out) (by decide) hg) <| p_ (hp_) <| p_ (blk_grown (g := gb157) (o := .cells #[.int .i64 0, .slice Ao25 y151.length co25, .slice (some ⟨go9, 0, none⟩) y154.length co24] 34 (0, 0)) (kb_ BK157) hg (Kd.S_ne HO156.out BK157.out (by decide))) <| a_ ((by rw [hw]; exact below_set (below_set (below_set (below_set (below_set (below_set (HB.out) GB9.out) GB9.out) GB9.out) GB9.out) GB9.out) GB9.out : Below w.heap.size w w34)); clear BK148 BK149 HO153 HO156 BK157 HB; obtain ⟨BK148, BK149, HO153, HO156, BK157, HB⟩ := z_; clear hg hw hp_; obtain ⟨hcz35_0, hcz35_1, hcz35_2⟩ := bk3_ BK157.out; obtain ⟨hfz35_0, hfz35_1, hfz35_2⟩ := bf3_ BK157.out; obtain ⟨hcz36_0, hcz36_1, hcz36_2⟩ := bk3_ BK149.out; obtain ⟨hfz36_0, hfz36_1, hfz36_2⟩ := bf3_ BK149.out))
 refine bodyPost_ret (results_cell_row rfl _ _ gb149 34 #[.int .i64 0, .slice Ao25 y151.length co25, .slice (some ⟨go9, 0, none⟩) y154.length co24] (0, 0) _ rfl tb_ Try.underlying34 rfl (by kernel_rfl)) rfl ?_
 exact ⟨_, _, tq_2, (by (with_reducible repeat (first | apply Kd.R_alloc | apply Kd.R_drewN | apply Kd.R_drew)); exact Kd.R_mono (rR_ (rR_ (rR_ (Kd.R_types HO153.out BK149.out (by decide))))) (fun _ hk => trivial)), (by (with_reducible repeat (first | apply Kd.S_alloc | apply Kd.S_drewN | apply Kd.S_drew)); exact Kd.S_mono (rS_ (rS_ (rS_ (Kd.S_types HO156.out BK149.out (by decide))))) (fun _ hk => trivial)), th_⟩

end Go.Proofs.Ytljnnmpfeningaa.PFnExactPartNew
