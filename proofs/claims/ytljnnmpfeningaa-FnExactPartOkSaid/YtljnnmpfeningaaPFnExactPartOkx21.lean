/- Contracts of Go functions, written by a program of ours over the print of the kit: each says that the call returns what the Lean function beside it computes. Conditions: as each theorem states them. -/
import Derived.Test.YtljnnmpfeningaaPkFnExactPartOk
import Derived.Test.YtljnnmpfeningaaPFnExactPartOkx0
import Derived.Test.YtljnnmpfeningaaPFnExactPartOkx1
import Derived.Test.YtljnnmpfeningaaPFnExactPartOkx8
import Derived.Test.YtljnnmpfeningaaPFnExactPartOkx9
import Derived.Test.YtljnnmpfeningaaPFnExactPartOkx17
import Derived.Test.YtljnnmpfeningaaPFnExactPartOkx20
namespace Go.Proofs.Ytljnnmpfeningaa.PFnExactPartOk
open Go.RowKit Go.Proofs.YtljnnmpfeningaaW.PrintWords Go.Proofs.YtljnnmpfeningaaW.PrintLast Go.Proofs.YtljnnmpfeningaaW.PrintMore
attribute [local go_sem] max2_int min2_int max_two min_two max_three min_three max_four min_four   -- for this text's walks alone
set_option linter.unusedVariables false
set_option linter.unusedSimpArgs false

/-! ### laws_FnExactPartOk: function 3 -/
mutual
def laws_FnExactPartOk.j0 : Nat → Int → Int → Int → Int → Int → List Int → List (S93) → Option (Bool)
 | 0, _, _, _, _, _, _, _ => none
 | k + 1, x400000, x400001, x400002, x400003, x401000, x401001, x401002 => (laws_toGeo.f x400000 x400001 x400002 x400003).bind fun bt402 => ((laws_toPart.f k x401000 x401001 x401002).bind fun bt406 => ((spec_PartOk.f k bt402.1 bt402.2.1 bt402.2.2.1 bt402.2.2.2 bt406.1 bt406.2.1 bt406.2.2).bind fun t413 => ((laws_toPart.f k x401000 x401001 x401002).bind fun bt414 => ((laws_toGeo.f x400000 x400001 x400002 x400003).bind fun bt422 => ((impl_PartOk.f k bt422.1 bt422.2.1 bt422.2.2.1 bt422.2.2.2 bt414.1 bt414.2.1 bt414.2.2).bind fun t426 => (if (t426 != t413) = true then (some false) else (laws_FnExactPartOk.j1 k x401000 x401001 x401002 bt414.1 bt414.2.1 bt414.2.2)))))))
def laws_FnExactPartOk.j1 : Nat → Int → List Int → List (S93) → Int → List Int → List (S64) → Option (Bool)
 | 0, _, _, _, _, _, _ => none
 | k + 1, x401000, x401001, x401002, x422000, x422001, x422002 => (laws_toPart.f k x401000 x401001 x401002).bind fun bt427 => ((laws_eqPart.f k x422000 x422001 x422002 bt427.1 bt427.2.1 bt427.2.2).bind fun t434 => (if t434 = true then (some true) else (some false)))
end
def laws_FnExactPartOk.f (k : Nat) (a0_0 : Int) (a0_1 : Int) (a0_2 : Int) (a0_3 : Int) (a1_0 : Int) (l1_1 : List Int) (l1_2 : List (S93)) : Option (Bool) := (laws_szPart.f k a1_0 l1_1 l1_2 1048576).bind fun t401 => (if t401 < 0 then (some true) else (laws_FnExactPartOk.j0 k a0_0 a0_1 a0_2 a0_3 a1_0 l1_1 l1_2))
theorem laws_FnExactPartOk.mono_l : ∀ k, (∀ y0 y1 y2 y3 y4 y5 y6, LeO (laws_FnExactPartOk.j0 k y0 y1 y2 y3 y4 y5 y6) (laws_FnExactPartOk.j0 (k + 1) y0 y1 y2 y3 y4 y5 y6)) ∧ (∀ y0 y1 y2 y3 y4 y5, LeO (laws_FnExactPartOk.j1 k y0 y1 y2 y3 y4 y5) (laws_FnExactPartOk.j1 (k + 1) y0 y1 y2 y3 y4 y5))
 | 0 => ⟨fun _ _ _ _ _ _ _ r h => by simp [laws_FnExactPartOk.j0] at h, fun _ _ _ _ _ _ r h => by simp [laws_FnExactPartOk.j1] at h⟩
 | k + 1 => by
  obtain ⟨ih0, ih1⟩ := laws_FnExactPartOk.mono_l k
  refine ⟨?_, ?_⟩
  ·intro y0 y1 y2 y3 y4 y5 y6
   unfold laws_FnExactPartOk.j0
   exact mo_7
  ·intro y0 y1 y2 y3 y4 y5
   unfold laws_FnExactPartOk.j1
   exact mo_7
theorem laws_FnExactPartOk.mono : ∀ a0 a1 a2 a3 a4 a5 a6 k, LeO (laws_FnExactPartOk.f k a0 a1 a2 a3 a4 a5 a6) (laws_FnExactPartOk.f (k + 1) a0 a1 a2 a3 a4 a5 a6) := by
 intro a0 a1 a2 a3 a4 a5 a6 k
 obtain ⟨ih0, ih1⟩ := laws_FnExactPartOk.mono_l k
 unfold laws_FnExactPartOk.f
 repeat' first
   | (with_reducible exact ih0 ..)
   | (with_reducible exact ih1 ..)
   | (with_reducible exact impl_PartOk.mono ..)
   | (with_reducible exact laws_eqPart.mono ..)
   | (with_reducible exact laws_szPart.mono ..)
   | (with_reducible exact laws_toPart.mono ..)
   | (with_reducible exact spec_PartOk.mono ..)
   | (with_reducible exact LeO.refl _)
   | (with_reducible exact LeO.none _)
   | (with_reducible refine LeO.ite ?_ ?_)
   | (with_reducible refine LeO.bind ?_ (fun _ => ?_))
   | exact ih0 ..
   | exact ih1 ..
   | exact impl_PartOk.mono ..
   | exact laws_eqPart.mono ..
   | exact laws_szPart.mono ..
   | exact laws_toPart.mono ..
   | exact spec_PartOk.mono ..
   | exact LeO.none _
   | refine LeO.ite ?_ ?_
   | refine LeO.bind ?_ (fun _ => ?_)
set_option maxHeartbeats 8000000 in
set_option maxRecDepth 100000 in
theorem laws_FnExactPartOk.calls (k : Nat) (a0_0 : Int) (a0_1 : Int) (a0_2 : Int) (a0_3 : Int) (a1_0 : Int) (A1_1 : Option Addr) (c1_1 : Nat) (l1_1 : List Int) (A1_2 : Option Addr) (c1_2 : Nat) (l1_2 : List (S93)) (r : Bool) (w : World) (hr1_1 : Kd.C (Kd.int .i64) w A1_1 l1_1.length l1_1) (hc1_1 : l1_1.length ≤ c1_1) (hr1_2 : Kd.C k93 w A1_2 l1_2.length l1_2) (hc1_2 : l1_2.length ≤ c1_2) (h : laws_FnExactPartOk.f k a0_0 a0_1 a0_2 a0_3 a1_0 l1_1 l1_2 = some r) :
  Calls Try.prog 3 #[.agg #[.int .i64 a0_0, .int .i64 a0_1, .int .i64 a0_2, .int .i64 a0_3], .agg #[.int .i64 a1_0, .slice A1_1 l1_1.length c1_1, .slice A1_2 l1_2.length c1_2]] w fun e w' => e = .returned (.bool r) ∧ Below w.heap.size w w' := by
 have hu23 := Try.underlying23
 have hu27 := Try.underlying27
 have hu34 := Try.underlying34
 have HR1_1 := Aside0.mk hr1_1
 have HC1_1 := Aside0.mk hc1_1
 clear hr1_1 hc1_1
 have HR1_2 := Aside0.mk hr1_2
 have HC1_2 := Aside0.mk hc1_2
 clear hr1_2 hc1_2
 have HB := Aside0.mk (Below.refl w.heap.size w)
 have H : ((laws_szPart.f k a1_0 l1_1 l1_2 1048576).bind fun t401 => (if t401 < 0 then (some true) else (laws_FnExactPartOk.j0 k a0_0 a0_1 a0_2 a0_3 a1_0 l1_1 l1_2))) = some r := h
 clear h
 replace H := Option.bind_eq_some_iff.mp H
 obtain ⟨t401, A30, H⟩ := H
 replace H : (if t401 < 0 then (some true) else (laws_FnExactPartOk.j0 k a0_0 a0_1 a0_2 a0_3 a1_0 l1_1 l1_2)) = some r := H
 have A3 := Aside0.mk A30
 clear A30
 have HC4 := Aside0.mk H
 clear H
 go_enter Try.func3, Try.ntmps3
 go_upto_if 13 with (first | ((with_reducible refine gate_dst (N := 2) rfl ?_); refine box_event ?hg (N := 2) ?hd (cs := #[.int .i64 a0_0, .int .i64 a0_1, .int .i64 a0_2, .int .i64 a0_3]) (t := 23) ?hr ?_; (case hd => rfl); (case hg => rfl); (case hr => first | (go_simp; done) | (go_simp; rfl)); intro gb399 hg w5 hbox hb; have z_ := p_ (below_step tq_0 hb) <| p_ (hbox) <| p_ (gb_ hg tq_0) <| a_ (gb_ hg tq_0); clear HB; obtain ⟨HB, BK399, GW399, GE399⟩ := z_; clear hb hbox hg) | ((with_reducible refine gate_dst (N := 3) rfl ?_); refine box_event ?hg (N := 3) ?hd (cs := #[.int .i64 a1_0, .slice A1_1 l1_1.length c1_1, .slice A1_2 l1_2.length c1_2]) (t := 27) ?hr ?_; (case hd => rfl); (case hg => rfl); (case hr => first | (go_simp; done) | (go_simp; rfl)); intro gb400 hg w6 hbox hb; have z_ := p_ (blk_below tq_35 hb) <| p_ (below_step tq_130 hb) <| p_ (hbox) <| p_ (gb_ hg tq_130) <| p_ (gb_ hg tq_130) <| p_ (ltne_ hg (blk_lt tq_35)) <| a_ (gtne_ hg (blk_lt tq_35)); clear BK399 HB; obtain ⟨BK399, HB, BK400, GW400, GE400, NB399_400, NB400_399⟩ := z_; clear hb hbox hg; have hnb7 := NB400_399.out; have hnc7 := NB399_400.out; obtain ⟨hcz8_0, hcz8_1, hcz8_2⟩ := bk3_ BK400.out; obtain ⟨hfz8_0, hfz8_1, hfz8_2⟩ := bf3_ BK400.out) | ((with_reducible refine gate_callee (f := 6) rfl ?_); refine goesL_ (some 11) rfl rfl Try.func6 (by kernel_rfl) rfl #[.agg #[.int .i64 a1_0, .slice A1_1 l1_1.length c1_1, .slice A1_2 l1_2.length c1_2], .int .i64 1048576] rfl tq_1 ?_; (with_reducible refine (laws_szPart.calls k a1_0 _ _ l1_1 _ _ l1_2 1048576 t401 _ ?side1 ?side2 ?side3 ?side4 A3.out).mono ?_); (case side1 => exact tq_21); (case side2 => exact HC1_1.out); (case side3 => exact tq_30); (case side4 => exact HC1_2.out); rintro e w9 ⟨rfl, hb⟩; refine ⟨_, rfl, ?_⟩; have z_ := p_ (blk_below tq_35 hb) <| p_ (blk_below tq_45 hb) <| a_ (below_step tq_26 hb); clear BK399 BK400 HB; obtain ⟨BK399, BK400, HB⟩ := z_; (try clear hb); (try clear hb2); (try clear hk); (try clear hi)))
 (try simp only [Act.put, List.setIfInBounds_toArray, List.set_cons_zero, List.set_cons_succ])
 go_cut [] (fun wc => ∃ (kq : Nat), Aside0 (laws_FnExactPartOk.j0 kq a0_0 a0_1 a0_2 a0_3 a1_0 l1_1 l1_2 = some r) ∧ Aside0 (kq ≤ k) ∧ Aside0 (wc.heap[gb399]? = some (.cells #[.int .i64 a0_0, .int .i64 a0_1, .int .i64 a0_2, .int .i64 a0_3] 23 (0, 0))) ∧ Aside0 (wc.heap[gb400]? = some (.cells #[.int .i64 a1_0, (.slice A1_1 l1_1.length c1_1), (.slice A1_2 l1_2.length c1_2)] 27 (0, 0))) ∧ Aside0 (Below w.heap.size w wc))
 case first =>
  have H := HC4.out
  clear HC4
  by_cases c10 : t401 < 0
  ·rw [if_pos c10] at H
   have c10b0 := decide_eq_true c10
   clear c10
   (first | rw [c10b0] | (simp only [i64_w, i32_w]; rw [c10b0]) | skip)
   obtain rfl := Option.some.inj H
   go_wp2
   go_ret
   exact ⟨tq_2, tq_26⟩
  rw [if_neg c10] at H
  have c10b0 := decide_eq_false c10
  clear c10
  (first | rw [c10b0] | (simp only [i64_w, i32_w]; rw [c10b0]) | skip)
  have H' := Aside0.mk H
  clear H
  go_wp2
  go_meet
  case rel => exact ⟨_, H', ⟨tq_59⟩, ⟨tq_35⟩, ⟨tq_45⟩, ⟨tq_26⟩⟩
 case rest =>
 clear HC4
 try clear c1; try clear p2; try clear c3; try clear c6; try clear c7; try clear c10; try clear c10b0; try clear hcz8_0 hcz8_1 hcz8_2 hfz8_0 hfz8_1 hfz8_2
 obtain ⟨kq, HA, HJ3, BK399, BK400, HB⟩ := hcut
 cases kq with
 | zero => exact absurd HA.out (by simp [laws_FnExactPartOk.j0])
 | succ kj3 =>
 have H := HA.out
 clear HA
 simp only [laws_FnExactPartOk.j0] at H
 replace H := Option.bind_eq_some_iff.mp H
 obtain ⟨⟨t402, t403, t404, t405⟩, A110, H⟩ := H
 replace H : ((laws_toPart.f kj3 a1_0 l1_1 l1_2).bind fun bt406 => ((spec_PartOk.f kj3 t402 t403 t404 t405 bt406.1 bt406.2.1 bt406.2.2).bind fun t413 => ((laws_toPart.f kj3 a1_0 l1_1 l1_2).bind fun bt414 => ((laws_toGeo.f a0_0 a0_1 a0_2 a0_3).bind fun bt422 => ((impl_PartOk.f kj3 bt422.1 bt422.2.1 bt422.2.2.1 bt422.2.2.2 bt414.1 bt414.2.1 bt414.2.2).bind fun t426 => (if (t426 != t413) = true then (some false) else (laws_FnExactPartOk.j1 kj3 a1_0 l1_1 l1_2 bt414.1 bt414.2.1 bt414.2.2))))))) = some r := H
 have A11 := Aside0.mk A110
 clear A110
 replace H := Option.bind_eq_some_iff.mp H
 obtain ⟨⟨t406, t407, t410⟩, A120, H⟩ := H
 replace H : ((spec_PartOk.f kj3 t402 t403 t404 t405 t406 t407 t410).bind fun t413 => ((laws_toPart.f kj3 a1_0 l1_1 l1_2).bind fun bt414 => ((laws_toGeo.f a0_0 a0_1 a0_2 a0_3).bind fun bt422 => ((impl_PartOk.f kj3 bt422.1 bt422.2.1 bt422.2.2.1 bt422.2.2.2 bt414.1 bt414.2.1 bt414.2.2).bind fun t426 => (if (t426 != t413) = true then (some false) else (laws_FnExactPartOk.j1 kj3 a1_0 l1_1 l1_2 bt414.1 bt414.2.1 bt414.2.2)))))) = some r := H
 have A12 := Aside0.mk A120
 clear A120
 replace H := Option.bind_eq_some_iff.mp H
 obtain ⟨t413, A130, H⟩ := H
 replace H : ((laws_toPart.f kj3 a1_0 l1_1 l1_2).bind fun bt414 => ((laws_toGeo.f a0_0 a0_1 a0_2 a0_3).bind fun bt422 => ((impl_PartOk.f kj3 bt422.1 bt422.2.1 bt422.2.2.1 bt422.2.2.2 bt414.1 bt414.2.1 bt414.2.2).bind fun t426 => (if (t426 != t413) = true then (some false) else (laws_FnExactPartOk.j1 kj3 a1_0 l1_1 l1_2 bt414.1 bt414.2.1 bt414.2.2))))) = some r := H
 have A13 := Aside0.mk A130
 clear A130
 replace H := Option.bind_eq_some_iff.mp H
 obtain ⟨⟨t414, t415, t418⟩, A140, H⟩ := H
 replace H : ((laws_toGeo.f a0_0 a0_1 a0_2 a0_3).bind fun bt422 => ((impl_PartOk.f kj3 bt422.1 bt422.2.1 bt422.2.2.1 bt422.2.2.2 t414 t415 t418).bind fun t426 => (if (t426 != t413) = true then (some false) else (laws_FnExactPartOk.j1 kj3 a1_0 l1_1 l1_2 t414 t415 t418)))) = some r := H
 have A14 := Aside0.mk A140
 clear A140
 replace H := Option.bind_eq_some_iff.mp H
 obtain ⟨⟨t422, t423, t424, t425⟩, A150, H⟩ := H
 replace H : ((impl_PartOk.f kj3 t422 t423 t424 t425 t414 t415 t418).bind fun t426 => (if (t426 != t413) = true then (some false) else (laws_FnExactPartOk.j1 kj3 a1_0 l1_1 l1_2 t414 t415 t418))) = some r := H
 have A15 := Aside0.mk A150
 clear A150
 replace H := Option.bind_eq_some_iff.mp H
 obtain ⟨t426, A160, H⟩ := H
 replace H : (if (t426 != t413) = true then (some false) else (laws_FnExactPartOk.j1 kj3 a1_0 l1_1 l1_2 t414 t415 t418)) = some r := H
 have A16 := Aside0.mk A160
 clear A160
 have HC17 := Aside0.mk H
 clear H
 try go_wp2
 have z_ := p_ (blk_drew BK399.out) <| p_ (blk_drew BK400.out) <| a_ (below_drew1 HB.out)
 clear BK399 BK400 HB
 obtain ⟨BK399, BK400, HB⟩ := z_
 refine start_ (n := 6) (S := fun w' => w'.cell? ⟨gb399, 0, none⟩ = some (.int .i64 a0_0) ∧ w'.cell? ⟨gb399, 1, none⟩ = some (.int .i64 a0_1) ∧ w'.cell? ⟨gb399, 2, none⟩ = some (.int .i64 a0_2) ∧ w'.cell? ⟨gb399, 3, none⟩ = some (.int .i64 a0_3) ∧ w'.cell? ⟨gb400, 0, none⟩ = some (.int .i64 a1_0) ∧ w'.cell? ⟨gb400, 1, none⟩ = some (.slice A1_1 l1_1.length c1_1) ∧ w'.cell? ⟨gb400, 2, none⟩ = some (.slice A1_2 l1_2.length c1_2)) (ds := []) #[false, false, false, false, false, false] (by kernel_rfl) rfl rfl (bc4_ BK399.out (bk3_ BK400.out)) (fun hHeld => ?_)
 generalize wc.drew = w18 at BK399 BK400 HB hHeld ⊢
 refine take_ (i := 0) (N := some 14) (v := ?_) (a' := ?_) #[true, false, false, false, false, false] rfl rfl (by kernel_rfl) (fun _ _ _ h => h) (Or.inl ⟨(by rfl), ?_⟩) hHeld ?_ ?_
 rotate_left
 ·rintro w' ⟨s0, s1, s2, s3, s4, s5, s6⟩
  go_simp
  with_reducible rfl
 rotate_left
 ·simp only [Act.put, List.setIfInBounds_toArray, List.set_cons_zero, List.set_cons_succ, i64_w, i32_w]
  rfl
 refine take_ (i := 2) (N := some 16) (v := ?_) (a' := ?_) #[true, false, true, false, false, false] rfl rfl (by kernel_rfl) (fun _ _ _ h => h) (Or.inl ⟨(by rfl), ?_⟩) hHeld ?_ ?_
 rotate_left
 ·rintro w' ⟨s0, s1, s2, s3, s4, s5, s6⟩
  go_simp
  with_reducible rfl
 rotate_left
 ·simp only [Act.put, List.setIfInBounds_toArray, List.set_cons_zero, List.set_cons_succ, i64_w, i32_w]
  rfl
 refine one_ (i := 1) (N := some 15) #[true, true, true, false, false, false] rfl rfl (by kernel_rfl) (by decide) (fun K hK => ?_)
 refine goes_ Try.func8 (by kernel_rfl) rfl #[.agg #[.int .i64 a0_0, .int .i64 a0_1, .int .i64 a0_2, .int .i64 a0_3]] (by rfl) rfl rfl tq_1 ?_
 with_reducible refine (laws_toGeo.calls a0_0 a0_1 a0_2 a0_3 t402 t403 t404 t405 _ A11.out).mono ?_
 rintro e w19 ⟨rfl, hb⟩
 refine ⟨_, rfl, ?_⟩
 have z_ := p_ (blk_below tq_35 hb) <| p_ (blk_below tq_45 hb) <| a_ (below_step tq_26 hb)
 clear BK399 BK400 HB
 obtain ⟨BK399, BK400, HB⟩ := z_
 (try clear hb)
 (try clear hb2)
 (try clear hk)
 (try clear hi)
 refine hK.out _ _ (bc4_ BK399.out (bk3_ BK400.out)) (fun hHeld => ?_)
 clear hK K
 refine nm_ (some 15) ?_
 refine one_ (i := 3) (N := some 17) #[true, true, true, true, false, false] rfl rfl (by kernel_rfl) (by decide) (fun K hK => ?_)
 refine goes_ Try.func9 (by kernel_rfl) rfl #[.agg #[.int .i64 a1_0, .slice A1_1 l1_1.length c1_1, .slice A1_2 l1_2.length c1_2]] (by rfl) rfl rfl tq_1 ?_
 with_reducible refine (laws_toPart.calls kj3 a1_0 _ _ l1_1 _ _ l1_2 t406 t407 t410 _ ?side1 ?side2 ?side3 ?side4 A12.out).mono ?_
 (case side1 => exact tq_21)
 (case side2 => exact HC1_1.out)
 (case side3 => exact tq_30)
 (case side4 => exact HC1_2.out)
 rintro e w20 ⟨v408, v411, rfl, ho0, ho1, hb⟩
 refine ⟨_, rfl, ?_⟩
 have z_ := p_ (Kd.R_lower ho0 (below_size tq_26)) <| p_ (Kd.S_lower ho1 (below_size tq_26)) <| p_ (blk_below tq_35 hb) <| p_ (blk_below tq_45 hb) <| a_ (below_step tq_26 hb)
 clear BK399 BK400 HB
 obtain ⟨HO409, HO412, BK399, BK400, HB⟩ := z_
 (try clear hb)
 (try clear hb2)
 (try clear hk)
 (try clear hi)
 (try clear ho0)
 (try clear ho1)
 obtain ⟨Ao21, co21, eo21⟩ := Kd.R_slice HO409.out
 (first | subst eo21 | (injection eo21 with f1_ f2_ f3_; have f4_ := f1_.symm; have f5_ := f3_.symm; clear f1_ f2_ f3_; subst f4_; subst f5_))
 obtain ⟨Ao22, co22, eo22⟩ := Kd.S_slice HO412.out
 (first | subst eo22 | (injection eo22 with f1_ f2_ f3_; have f4_ := f1_.symm; have f5_ := f3_.symm; clear f1_ f2_ f3_; subst f4_; subst f5_))
 refine hK.out _ _ (bc4_ BK399.out (bk3_ BK400.out)) (fun hHeld => ?_)
 clear hK K
 refine nm_ (some 17) ?_
 refine one_ (i := 4) (N := some 18) #[true, true, true, true, true, false] rfl rfl (by kernel_rfl) (by decide) (fun K hK => ?_)
 refine goes_ Try.func7 (by kernel_rfl) rfl #[.agg #[.int .i64 t402, .int .i64 t403, .int .i64 t404, .int .i64 t405], .agg #[.int .i64 t406, .slice Ao21 t407.length co21, .slice Ao22 t410.length co22]] (by rfl) rfl rfl tq_1 ?_
 with_reducible refine (spec_PartOk.calls kj3 t402 t403 t404 t405 t406 _ _ t407 _ _ t410 t413 _ ?side1 ?side2 ?side3 ?side4 A13.out).mono ?_
 (case side1 => repeat (first | exact (Kd.R_reads' HO409.out).2.2 | (with_reducible refine Kd.C_alloc ?_ _) | (with_reducible refine Kd.C_drewN ?_ _) | (with_reducible refine Kd.C_drew ?_)))
 (case side2 => exact (Kd.R_reads' HO409.out).2.1)
 (case side3 => repeat (first | exact (Kd.S_reads' HO412.out).2.2 | (with_reducible refine Kd.C_alloc ?_ _) | (with_reducible refine Kd.C_drewN ?_ _) | (with_reducible refine Kd.C_drew ?_)))
 (case side4 => exact (Kd.S_reads' HO412.out).2.1)
 rintro e w23 ⟨rfl, hb⟩
 refine ⟨_, rfl, ?_⟩
 have z_ := p_ (Kd.R_below tq_105 hb) <| p_ (Kd.S_below tq_104 hb) <| p_ (blk_below tq_35 hb) <| p_ (blk_below tq_45 hb) <| a_ (below_step tq_26 hb)
 clear HO409 HO412 BK399 BK400 HB
 obtain ⟨HO409, HO412, BK399, BK400, HB⟩ := z_
 (try clear hb)
 (try clear hb2)
 (try clear hk)
 (try clear hi)
 refine hK.out _ _ (bc4_ BK399.out (bk3_ BK400.out)) (fun hHeld => ?_)
 clear hK K
 refine nm_ (some 18) ?_
 refine yq_ (i := 5) (N := some 6) #[true, true, true, true, true, true] (by kernel_rfl) ?_
 refine done_ (by kernel_rfl) ?_
 have hnb24 := NB400_399.out
 have hnc24 := NB399_400.out
 obtain ⟨hcz25_0, hcz25_1, hcz25_2⟩ := bk3_ BK400.out
 obtain ⟨hfz25_0, hfz25_1, hfz25_2⟩ := bf3_ BK400.out
 try go_wp2_with (first | ((with_reducible refine gate_callee (f := 9) rfl ?_); refine goesL_ (some 20) rfl rfl Try.func9 (by kernel_rfl) rfl #[.agg #[.int .i64 a1_0, .slice A1_1 l1_1.length c1_1, .slice A1_2 l1_2.length c1_2]] rfl tq_1 ?_; (with_reducible refine (laws_toPart.calls kj3 a1_0 _ _ l1_1 _ _ l1_2 t414 t415 t418 _ ?side1 ?side2 ?side3 ?side4 A14.out).mono ?_); (case side1 => exact tq_21); (case side2 => exact HC1_1.out); (case side3 => exact tq_30); (case side4 => exact HC1_2.out); rintro e w26 ⟨v416, v419, rfl, ho0, ho1, hb⟩; refine ⟨_, rfl, ?_⟩; have z_ := p_ (Kd.R_elder' tq_105 (Kd.R_base ho0) hb) <| p_ (Kd.S_elder' tq_104 (Kd.S_base ho1) hb) <| p_ (Kd.R_lower (Kd.R_new' ho0 (Kd.R_lt tq_105)) (below_size tq_26)) <| p_ (Kd.S_lower (Kd.S_new' ho1 (Kd.S_lt tq_104)) (below_size tq_26)) <| p_ (blk_below tq_35 hb) <| p_ (blk_below tq_45 hb) <| a_ (below_step tq_26 hb); clear HO409 HO412 BK399 BK400 HB; obtain ⟨HO409, HO412, HO417, HO420, BK399, BK400, HB⟩ := z_; (try clear hb); (try clear hb2); (try clear hk); (try clear hi); (try clear ho0); (try clear ho1)) | ((with_reducible refine gate_dst (N := 7) rfl ?_); refine box_event ?hg (N := 7) ?hd (cs := #[.int .i64 0, .slice none 0 0, .slice none 0 0]) (t := 34) ?hr ?_; (case hd => rfl); (case hg => rfl); (case hr => first | (go_simp; done) | (go_simp; rfl)); intro gb421 hg w27 hbox hb; have z_ := p_ (Kd.R_below tq_105 hb) <| p_ (Kd.S_below tq_104 hb) <| p_ (Kd.R_below tq_151 hb) <| p_ (Kd.S_below tq_149 hb) <| p_ (blk_below tq_35 hb) <| p_ (blk_below tq_45 hb) <| p_ (below_step tq_26 hb) <| p_ (hbox) <| p_ (gb_ hg tq_26) <| p_ (gb_ hg tq_26) <| p_ (ltne_ hg (blk_lt tq_35)) <| p_ (gtne_ hg (blk_lt tq_35)) <| p_ (ltne_ hg (blk_lt tq_45)) <| a_ (gtne_ hg (blk_lt tq_45)); clear HO409 HO412 HO417 HO420 BK399 BK400 HB; obtain ⟨HO409, HO412, HO417, HO420, BK399, BK400, HB, BK421, GW421, GE421, NB399_421, NB421_399, NB400_421, NB421_400⟩ := z_; clear hb hbox hg; have hnb28 := NB421_399.out; have hnc28 := NB399_421.out; have hnb29 := NB421_400.out; have hnc29 := NB400_421.out; obtain ⟨hcz30_0, hcz30_1, hcz30_2⟩ := bk3_ BK421.out; obtain ⟨hfz30_0, hfz30_1, hfz30_2⟩ := bf3_ BK421.out; obtain ⟨Ao31, co31, eo31⟩ := Kd.R_slice HO417.out; subst eo31; obtain ⟨Ao32, co32, eo32⟩ := Kd.S_slice HO420.out; subst eo32))
 have n0_ : Aside0 (Kd.R (Kd.int .i64) 3 (((w27.setCell ⟨gb421, 0, none⟩ (.int .i64 t414)).setCell ⟨gb421, 1, none⟩ (.slice Ao31 t415.length co31)).setCell ⟨gb421, 2, none⟩ (.slice Ao32 t418.length co32)) w.heap.size (fun k_ => some k_ ≠ (.slice Ao31 t415.length co31 : Value).ownBlock) (.slice Ao21 t407.length co21) t407) := ⟨(by (with_reducible repeat (first | apply Kd.R_alloc | apply Kd.R_drewN | apply Kd.R_drew)); exact Kd.R_mono (Kd.R_far (p := ⟨gb421, 2, none⟩) (Kd.R_far (p := ⟨gb421, 1, none⟩) (Kd.R_far (p := ⟨gb421, 0, none⟩) (Kd.R_types HO409.out BK421.out (by decide)) (fun _ hk => hk.2) (.int .i64 t414)) (fun _ hk => hk.2) (.slice Ao31 t415.length co31)) (fun _ hk => hk.2) (.slice Ao32 t418.length co32)) (fun _ hk => hk.1.2))⟩
 have n1_ : Aside0 (Kd.S k64 64 (((w27.setCell ⟨gb421, 0, none⟩ (.int .i64 t414)).setCell ⟨gb421, 1, none⟩ (.slice Ao31 t415.length co31)).setCell ⟨gb421, 2, none⟩ (.slice Ao32 t418.length co32)) w.heap.size (fun k_ => some k_ ≠ (.slice Ao32 t418.length co32 : Value).ownBlock) (.slice Ao22 t410.length co22) t410) := ⟨(by (with_reducible repeat (first | apply Kd.S_alloc | apply Kd.S_drewN | apply Kd.S_drew)); exact Kd.S_mono (Kd.S_far (p := ⟨gb421, 2, none⟩) (Kd.S_far (p := ⟨gb421, 1, none⟩) (Kd.S_far (p := ⟨gb421, 0, none⟩) (Kd.S_types HO412.out BK421.out (by decide)) (fun _ hk => hk.2) (.int .i64 t414)) (fun _ hk => hk.2) (.slice Ao31 t415.length co31)) (fun _ hk => hk.2) (.slice Ao32 t418.length co32)) (fun _ hk => hk.1.2))⟩
 have n2_ : Aside0 (Kd.R (Kd.int .i64) 3 (((w27.setCell ⟨gb421, 0, none⟩ (.int .i64 t414)).setCell ⟨gb421, 1, none⟩ (.slice Ao31 t415.length co31)).setCell ⟨gb421, 2, none⟩ (.slice Ao32 t418.length co32)) w.heap.size (fun k_ => some k_ ≠ (.slice Ao21 t407.length co21 : Value).ownBlock) (.slice Ao31 t415.length co31) t415) := ⟨(by (with_reducible repeat (first | apply Kd.R_alloc | apply Kd.R_drewN | apply Kd.R_drew)); exact Kd.R_mono (Kd.R_far (p := ⟨gb421, 2, none⟩) (Kd.R_far (p := ⟨gb421, 1, none⟩) (Kd.R_far (p := ⟨gb421, 0, none⟩) (Kd.R_types HO417.out BK421.out (by decide)) (fun _ hk => hk.2) (.int .i64 t414)) (fun _ hk => hk.2) (.slice Ao31 t415.length co31)) (fun _ hk => hk.2) (.slice Ao32 t418.length co32)) (fun _ hk => hk.1.2))⟩
 have n3_ : Aside0 (Kd.S k64 64 (((w27.setCell ⟨gb421, 0, none⟩ (.int .i64 t414)).setCell ⟨gb421, 1, none⟩ (.slice Ao31 t415.length co31)).setCell ⟨gb421, 2, none⟩ (.slice Ao32 t418.length co32)) w.heap.size (fun k_ => some k_ ≠ (.slice Ao22 t410.length co22 : Value).ownBlock) (.slice Ao32 t418.length co32) t418) := ⟨(by (with_reducible repeat (first | apply Kd.S_alloc | apply Kd.S_drewN | apply Kd.S_drew)); exact Kd.S_mono (Kd.S_far (p := ⟨gb421, 2, none⟩) (Kd.S_far (p := ⟨gb421, 1, none⟩) (Kd.S_far (p := ⟨gb421, 0, none⟩) (Kd.S_types HO420.out BK421.out (by decide)) (fun _ hk => hk.2) (.int .i64 t414)) (fun _ hk => hk.2) (.slice Ao31 t415.length co31)) (fun _ hk => hk.2) (.slice Ao32 t418.length co32)) (fun _ hk => hk.1.2))⟩
 have n4_ : Aside0 ((((w27.setCell ⟨gb421, 0, none⟩ (.int .i64 t414)).setCell ⟨gb421, 1, none⟩ (.slice Ao31 t415.length co31)).setCell ⟨gb421, 2, none⟩ (.slice Ao32 t418.length co32)).heap[gb399]? = some (.cells #[.int .i64 a0_0, .int .i64 a0_1, .int .i64 a0_2, .int .i64 a0_3] 23 (0, 0))) := ⟨(by (with_reducible repeat (first | refine blk_drewN ?_ _ | refine blk_drew ?_ | refine blk_alloc ?_ _)); refine blk_far ?_ NB399_421.out _; (with_reducible repeat (first | refine blk_drewN ?_ _ | refine blk_drew ?_ | refine blk_alloc ?_ _)); refine blk_far ?_ NB399_421.out _; (with_reducible repeat (first | refine blk_drewN ?_ _ | refine blk_drew ?_ | refine blk_alloc ?_ _)); refine blk_far ?_ NB399_421.out _; (with_reducible repeat (first | refine blk_drewN ?_ _ | refine blk_drew ?_ | refine blk_alloc ?_ _)); exact BK399.out)⟩
 have n5_ : Aside0 ((((w27.setCell ⟨gb421, 0, none⟩ (.int .i64 t414)).setCell ⟨gb421, 1, none⟩ (.slice Ao31 t415.length co31)).setCell ⟨gb421, 2, none⟩ (.slice Ao32 t418.length co32)).heap[gb400]? = some (.cells #[.int .i64 a1_0, .slice A1_1 l1_1.length c1_1, .slice A1_2 l1_2.length c1_2] 27 (0, 0))) := ⟨(by (with_reducible repeat (first | refine blk_drewN ?_ _ | refine blk_drew ?_ | refine blk_alloc ?_ _)); refine blk_far ?_ NB400_421.out _; (with_reducible repeat (first | refine blk_drewN ?_ _ | refine blk_drew ?_ | refine blk_alloc ?_ _)); refine blk_far ?_ NB400_421.out _; (with_reducible repeat (first | refine blk_drewN ?_ _ | refine blk_drew ?_ | refine blk_alloc ?_ _)); refine blk_far ?_ NB400_421.out _; (with_reducible repeat (first | refine blk_drewN ?_ _ | refine blk_drew ?_ | refine blk_alloc ?_ _)); exact BK400.out)⟩
 have n6_ : Aside0 ((((w27.setCell ⟨gb421, 0, none⟩ (.int .i64 t414)).setCell ⟨gb421, 1, none⟩ (.slice Ao31 t415.length co31)).setCell ⟨gb421, 2, none⟩ (.slice Ao32 t418.length co32)).heap[gb421]? = some (.cells #[.int .i64 t414, .slice Ao31 t415.length co31, .slice Ao32 t418.length co32] 34 (0, 0))) := ⟨(by (with_reducible repeat (first | refine blk_drewN ?_ _ | refine blk_drew ?_ | refine blk_alloc ?_ _)); refine blk_put (cs := #[.int .i64 t414, .slice Ao31 t415.length co31, .slice none 0 0]) ?_ 2 _ rfl; (with_reducible repeat (first | refine blk_drewN ?_ _ | refine blk_drew ?_ | refine blk_alloc ?_ _)); refine blk_put (cs := #[.int .i64 t414, .slice none 0 0, .slice none 0 0]) ?_ 1 _ rfl; (with_reducible repeat (first | refine blk_drewN ?_ _ | refine blk_drew ?_ | refine blk_alloc ?_ _)); refine blk_put (cs := #[.int .i64 0, .slice none 0 0, .slice none 0 0]) ?_ 0 _ rfl; (with_reducible repeat (first | refine blk_drewN ?_ _ | refine blk_drew ?_ | refine blk_alloc ?_ _)); exact BK421.out)⟩
 have n7_ : Aside0 (Below w.heap.size w (((w27.setCell ⟨gb421, 0, none⟩ (.int .i64 t414)).setCell ⟨gb421, 1, none⟩ (.slice Ao31 t415.length co31)).setCell ⟨gb421, 2, none⟩ (.slice Ao32 t418.length co32))) := ⟨tq_20⟩
 (try clear HO409)
 (try clear HO412)
 (try clear HO417)
 (try clear HO420)
 (try clear BK399)
 (try clear BK400)
 (try clear BK421)
 (try clear HB)
 generalize (((w27.setCell ⟨gb421, 0, none⟩ (.int .i64 t414)).setCell ⟨gb421, 1, none⟩ (.slice Ao31 t415.length co31)).setCell ⟨gb421, 2, none⟩ (.slice Ao32 t418.length co32)) = w33 at n0_ n1_ n2_ n3_ n4_ n5_ n6_ n7_ ⊢
 have HO409 := n0_
 have HO412 := n1_
 have HO417 := n2_
 have HO420 := n3_
 have BK399 := n4_
 have BK400 := n5_
 have BK421 := n6_
 have HB := n7_
 clear n0_ n1_ n2_ n3_ n4_ n5_ n6_ n7_
 have z_ := p_ (Kd.R_drew HO409.out) <| p_ (Kd.S_drew HO412.out) <| p_ (Kd.R_drew HO417.out) <| p_ (Kd.S_drew HO420.out) <| p_ (blk_drew BK399.out) <| p_ (blk_drew BK400.out) <| p_ (blk_drew BK421.out) <| a_ (below_drew1 HB.out)
 clear HO409 HO412 HO417 HO420 BK399 BK400 BK421 HB
 obtain ⟨HO409, HO412, HO417, HO420, BK399, BK400, BK421, HB⟩ := z_
 refine start_ (n := 5) (S := fun w' => w'.cell? ⟨gb399, 0, none⟩ = some (.int .i64 a0_0) ∧ w'.cell? ⟨gb399, 1, none⟩ = some (.int .i64 a0_1) ∧ w'.cell? ⟨gb399, 2, none⟩ = some (.int .i64 a0_2) ∧ w'.cell? ⟨gb399, 3, none⟩ = some (.int .i64 a0_3) ∧ w'.cell? ⟨gb421, 0, none⟩ = some (.int .i64 t414) ∧ w'.cell? ⟨gb421, 1, none⟩ = some (.slice Ao31 t415.length co31) ∧ w'.cell? ⟨gb421, 2, none⟩ = some (.slice Ao32 t418.length co32)) (ds := []) bq_76 (by kernel_rfl) rfl rfl (bc4_ BK399.out (bk3_ BK421.out)) (fun hHeld => ?_)
 generalize w33.drew = w34 at HO409 HO412 HO417 HO420 BK399 BK400 BK421 HB hHeld ⊢
 refine take_ (i := 0) (N := some 21) (v := ?_) (a' := ?_) bq_77 rfl rfl (by kernel_rfl) (fun _ _ _ h => h) (Or.inl ⟨(by rfl), ?_⟩) hHeld ?_ ?_
 rotate_left
 ·rintro w' ⟨s0, s1, s2, s3, s4, s5, s6⟩
  go_simp
  with_reducible rfl
 rotate_left
 ·simp only [Act.put, List.setIfInBounds_toArray, List.set_cons_zero, List.set_cons_succ, i64_w, i32_w]
  rfl
 refine take_ (i := 2) (N := some 23) (v := ?_) (a' := ?_) #[true, false, true, false, false] rfl rfl (by kernel_rfl) (fun _ _ _ h => h) (Or.inl ⟨(by rfl), ?_⟩) hHeld ?_ ?_
 rotate_left
 ·rintro w' ⟨s0, s1, s2, s3, s4, s5, s6⟩
  go_simp
  with_reducible rfl
 rotate_left
 ·simp only [Act.put, List.setIfInBounds_toArray, List.set_cons_zero, List.set_cons_succ, i64_w, i32_w]
  rfl
 refine one_ (i := 1) (N := some 22) bq_78 rfl rfl (by kernel_rfl) (by decide) (fun K hK => ?_)
 refine goes_ Try.func8 (by kernel_rfl) rfl #[.agg #[.int .i64 a0_0, .int .i64 a0_1, .int .i64 a0_2, .int .i64 a0_3]] (by rfl) rfl rfl tq_1 ?_
 with_reducible refine (laws_toGeo.calls a0_0 a0_1 a0_2 a0_3 t422 t423 t424 t425 _ A15.out).mono ?_
 rintro e w35 ⟨rfl, hb⟩
 refine ⟨_, rfl, ?_⟩
 have z_ := p_ (Kd.R_below tq_105 hb) <| p_ (Kd.S_below tq_104 hb) <| p_ (Kd.R_below tq_151 hb) <| p_ (Kd.S_below tq_149 hb) <| p_ (blk_below tq_35 hb) <| p_ (blk_below tq_45 hb) <| p_ (blk_below tq_85 hb) <| a_ (below_step tq_20 hb)
 clear HO409 HO412 HO417 HO420 BK399 BK400 BK421 HB
 obtain ⟨HO409, HO412, HO417, HO420, BK399, BK400, BK421, HB⟩ := z_
 (try clear hb)
 (try clear hb2)
 (try clear hk)
 (try clear hi)
 refine hK.out _ _ (bc4_ BK399.out (bk3_ BK421.out)) (fun hHeld => ?_)
 clear hK K
 refine nm_ (some 22) ?_
 refine one_ (i := 3) (N := some 24) bq_79 rfl rfl (by kernel_rfl) (by decide) (fun K hK => ?_)
 refine goes_ Try.func10 (by kernel_rfl) rfl #[.agg #[.int .i64 t422, .int .i64 t423, .int .i64 t424, .int .i64 t425], .agg #[.int .i64 t414, .slice Ao31 t415.length co31, .slice Ao32 t418.length co32]] (by rfl) rfl rfl tq_1 ?_
 with_reducible refine (impl_PartOk.calls kj3 t422 t423 t424 t425 t414 _ _ t415 _ _ t418 t426 _ ?side1 ?side2 ?side3 ?side4 A16.out).mono ?_
 (case side1 => repeat (first | exact (Kd.R_reads' HO417.out).2.2 | (with_reducible refine Kd.C_alloc ?_ _) | (with_reducible refine Kd.C_drewN ?_ _) | (with_reducible refine Kd.C_drew ?_)))
 (case side2 => exact (Kd.R_reads' HO417.out).2.1)
 (case side3 => repeat (first | exact (Kd.S_reads' HO420.out).2.2 | (with_reducible refine Kd.C_alloc ?_ _) | (with_reducible refine Kd.C_drewN ?_ _) | (with_reducible refine Kd.C_drew ?_)))
 (case side4 => exact (Kd.S_reads' HO420.out).2.1)
 rintro e w36 ⟨rfl, hb⟩
 refine ⟨_, rfl, ?_⟩
 have z_ := p_ (Kd.R_below tq_105 hb) <| p_ (Kd.S_below tq_104 hb) <| p_ (Kd.R_below tq_151 hb) <| p_ (Kd.S_below tq_149 hb) <| p_ (blk_below tq_35 hb) <| p_ (blk_below tq_45 hb) <| p_ (blk_below tq_85 hb) <| a_ (below_step tq_20 hb)
 clear HO409 HO412 HO417 HO420 BK399 BK400 BK421 HB
 obtain ⟨HO409, HO412, HO417, HO420, BK399, BK400, BK421, HB⟩ := z_
 (try clear hb)
 (try clear hb2)
 (try clear hk)
 (try clear hi)
 refine hK.out _ _ (bc4_ BK399.out (bk3_ BK421.out)) (fun hHeld => ?_)
 clear hK K
 refine nm_ (some 24) ?_
 refine yq_ (i := 4) (N := some 8) bq_80 (by kernel_rfl) ?_
 refine done_ (by kernel_rfl) ?_
 go_upto_if 27 with (fail)
 go_cut [] (fun wc => ∃ (kq : Nat), Aside0 (laws_FnExactPartOk.j1 kq a1_0 l1_1 l1_2 t414 t415 t418 = some r) ∧ Aside0 (kq ≤ kj3) ∧ Aside0 (Kd.R (Kd.int .i64) 3 wc w.heap.size (fun _ => True) (.slice Ao31 t415.length co31) t415) ∧ Aside0 (Kd.S k64 64 wc w.heap.size (fun _ => True) (.slice Ao32 t418.length co32) t418) ∧ Aside0 (wc.heap[gb399]? = some (.cells #[.int .i64 a0_0, .int .i64 a0_1, .int .i64 a0_2, .int .i64 a0_3] 23 (0, 0))) ∧ Aside0 (wc.heap[gb400]? = some (.cells #[.int .i64 a1_0, (.slice A1_1 l1_1.length c1_1), (.slice A1_2 l1_2.length c1_2)] 27 (0, 0))) ∧ Aside0 (wc.heap[gb421]? = some (.cells #[.int .i64 t414, (.slice Ao31 t415.length co31), (.slice Ao32 t418.length co32)] 34 (0, 0))) ∧ Aside0 (Below w.heap.size w wc))
 case first =>
  have H := HC17.out
  clear HC17
  by_cases c37 : (t426 != t413) = true
  ·rw [if_pos c37] at H
   have c37b0 : (t426 != t413) = true := c37
   (try (have c37b1 : decide (t426 = t413) = false := by simpa using c37))
   (try (have c37b2 : (t426 == t413) = false := by simpa using c37))
   (try (have c37b3 : ¬ (t426 = t413) := by simpa using c37))
   clear c37
   (first | rw [c37b0] | (simp only [i64_w, i32_w]; rw [c37b0]) | rw [show (!(t426 == t413)) = true from c37b0] | skip)
   obtain rfl := Option.some.inj H
   go_wp2
   go_ret
   exact ⟨tq_2, tq_20⟩
  rw [if_neg c37] at H
  have c37b0 : (t426 != t413) = false := by simpa using c37
  (try (have c37b1 : decide (t426 = t413) = true := by simpa using c37))
  (try (have c37b2 : (t426 == t413) = true := by simpa using c37))
  clear c37
  (first | rw [c37b0] | (simp only [i64_w, i32_w]; rw [c37b0]) | rw [show (!(t426 == t413)) = false from c37b0] | skip)
  have H' := Aside0.mk H
  clear H
  go_wp2
  go_meet
  case rel => exact ⟨_, H', ⟨(by have := HJ3.out; first | omega | exact Nat.le_refl _)⟩, ⟨(by (with_reducible repeat (first | apply Kd.R_alloc | apply Kd.R_drewN | apply Kd.R_drew)); exact Kd.R_mono HO417.out (fun _ hk => trivial))⟩, ⟨(by (with_reducible repeat (first | apply Kd.S_alloc | apply Kd.S_drewN | apply Kd.S_drew)); exact Kd.S_mono HO420.out (fun _ hk => trivial))⟩, ⟨tq_35⟩, ⟨tq_45⟩, ⟨tq_85⟩, ⟨tq_20⟩⟩
 case rest =>
 clear HC17
 try clear c1; try clear c2; try clear p2; try clear c3; try clear c6; try clear c7; try clear c8; try clear c9; try clear c10; try clear c10b0; try clear c24; try clear c28; try clear c29; try clear c37; try clear c37b0; try clear c37b1; try clear c37b2; try clear hcz25_0 hcz25_1 hcz25_2; try clear hcz30_0 hcz30_1 hcz30_2; try clear hcz8_0 hcz8_1 hcz8_2; try clear hfz25_0 hfz25_1 hfz25_2; try clear hfz30_0 hfz30_1 hfz30_2; try clear hfz8_0 hfz8_1 hfz8_2; try clear p2
 obtain ⟨kq, HA, HJ16, HO_422001, HO_422002, BK399, BK400, BK421, HB⟩ := hcut
 cases kq with
 | zero => exact absurd HA.out (by simp [laws_FnExactPartOk.j1])
 | succ kj16 =>
 have H := HA.out
 clear HA
 simp only [laws_FnExactPartOk.j1] at H
 replace H := Option.bind_eq_some_iff.mp H
 obtain ⟨⟨t427, t428, t431⟩, A380, H⟩ := H
 replace H : ((laws_eqPart.f kj16 t414 t415 t418 t427 t428 t431).bind fun t434 => (if t434 = true then (some true) else (some false))) = some r := H
 have A38 := Aside0.mk A380
 clear A380
 replace H := Option.bind_eq_some_iff.mp H
 obtain ⟨t434, A390, H⟩ := H
 replace H : (if t434 = true then (some true) else (some false)) = some r := H
 have A39 := Aside0.mk A390
 clear A390
 by_cases c40 : t434 = true
 ·subst c40
  have H1 : (some true) = some r := by rw [if_pos rfl] at H; exact H
  clear H
  have H := H1
  clear H1
  obtain rfl := Option.some.inj H
  try go_wp2
  have z_ := p_ (Kd.R_drew HO_422001.out) <| p_ (Kd.S_drew HO_422002.out) <| p_ (blk_drew BK399.out) <| p_ (blk_drew BK400.out) <| p_ (blk_drew BK421.out) <| a_ (below_drew1 HB.out)
  clear HO_422001 HO_422002 BK399 BK400 BK421 HB
  obtain ⟨HO_422001, HO_422002, BK399, BK400, BK421, HB⟩ := z_
  refine start_ (n := 5) (S := fun w' => w'.cell? ⟨gb421, 0, none⟩ = some (.int .i64 t414) ∧ w'.cell? ⟨gb421, 1, none⟩ = some (.slice Ao31 t415.length co31) ∧ w'.cell? ⟨gb421, 2, none⟩ = some (.slice Ao32 t418.length co32) ∧ w'.cell? ⟨gb400, 0, none⟩ = some (.int .i64 a1_0) ∧ w'.cell? ⟨gb400, 1, none⟩ = some (.slice A1_1 l1_1.length c1_1) ∧ w'.cell? ⟨gb400, 2, none⟩ = some (.slice A1_2 l1_2.length c1_2)) (ds := []) bq_76 (by kernel_rfl) rfl rfl (bc3_ BK421.out (bk3_ BK400.out)) (fun hHeld => ?_)
  generalize wc.drew = w41 at HO_422001 HO_422002 BK399 BK400 BK421 HB hHeld ⊢
  refine take_ (i := 0) (N := some 28) (v := ?_) (a' := ?_) bq_77 rfl rfl (by kernel_rfl) (fun _ _ _ h => h) (Or.inl ⟨(by rfl), ?_⟩) hHeld ?_ ?_
  rotate_left
  ·rintro w' ⟨s0, s1, s2, s3, s4, s5⟩
   go_simp
   with_reducible rfl
  rotate_left
  ·simp only [Act.put, List.setIfInBounds_toArray, List.set_cons_zero, List.set_cons_succ, i64_w, i32_w]
   rfl
  refine take_ (i := 1) (N := some 29) (v := ?_) (a' := ?_) #[true, true, false, false, false] rfl rfl (by kernel_rfl) (fun _ _ _ h => h) (Or.inl ⟨(by rfl), ?_⟩) hHeld ?_ ?_
  rotate_left
  ·rintro w' ⟨s0, s1, s2, s3, s4, s5⟩
   go_simp
   with_reducible rfl
  rotate_left
  ·simp only [Act.put, List.setIfInBounds_toArray, List.set_cons_zero, List.set_cons_succ, i64_w, i32_w]
   rfl
  refine one_ (i := 2) (N := some 30) bq_78 rfl rfl (by kernel_rfl) (by decide) (fun K hK => ?_)
  refine goes_ Try.func9 (by kernel_rfl) rfl #[.agg #[.int .i64 a1_0, .slice A1_1 l1_1.length c1_1, .slice A1_2 l1_2.length c1_2]] (by rfl) rfl rfl tq_1 ?_
  with_reducible refine (laws_toPart.calls kj16 a1_0 _ _ l1_1 _ _ l1_2 t427 t428 t431 _ ?side1 ?side2 ?side3 ?side4 A38.out).mono ?_
  (case side1 => exact tq_21)
  (case side2 => exact HC1_1.out)
  (case side3 => exact tq_30)
  (case side4 => exact HC1_2.out)
  rintro e w42 ⟨v429, v432, rfl, ho0, ho1, hb⟩
  refine ⟨_, rfl, ?_⟩
  have z_ := p_ (Kd.R_elder' tq_103 (Kd.R_base ho0) hb) <| p_ (Kd.S_elder' tq_102 (Kd.S_base ho1) hb) <| p_ (Kd.R_lower (Kd.R_new' ho0 (Kd.R_lt tq_103)) (below_size tq_20)) <| p_ (Kd.S_lower (Kd.S_new' ho1 (Kd.S_lt tq_102)) (below_size tq_20)) <| p_ (blk_below tq_35 hb) <| p_ (blk_below tq_45 hb) <| p_ (blk_below tq_85 hb) <| a_ (below_step tq_20 hb)
  clear HO_422001 HO_422002 BK399 BK400 BK421 HB
  obtain ⟨HO_422001, HO_422002, HO430, HO433, BK399, BK400, BK421, HB⟩ := z_
  (try clear hb)
  (try clear hb2)
  (try clear hk)
  (try clear hi)
  (try clear ho0)
  (try clear ho1)
  obtain ⟨Ao43, co43, eo43⟩ := Kd.R_slice HO430.out
  (first | subst eo43 | (injection eo43 with f1_ f2_ f3_; have f4_ := f1_.symm; have f5_ := f3_.symm; clear f1_ f2_ f3_; subst f4_; subst f5_))
  obtain ⟨Ao44, co44, eo44⟩ := Kd.S_slice HO433.out
  (first | subst eo44 | (injection eo44 with f1_ f2_ f3_; have f4_ := f1_.symm; have f5_ := f3_.symm; clear f1_ f2_ f3_; subst f4_; subst f5_))
  refine hK.out _ _ (bc3_ BK421.out (bk3_ BK400.out)) (fun hHeld => ?_)
  clear hK K
  refine nm_ (some 30) ?_
  refine one_ (i := 3) (N := some 31) bq_79 rfl rfl (by kernel_rfl) (by decide) (fun K hK => ?_)
  refine goes_ Try.func11 (by kernel_rfl) rfl #[.agg #[.int .i64 t414, .slice Ao31 t415.length co31, .slice Ao32 t418.length co32], .agg #[.int .i64 t427, .slice Ao43 t428.length co43, .slice Ao44 t431.length co44]] (by rfl) rfl rfl tq_1 ?_
  with_reducible refine (laws_eqPart.calls kj16 t414 _ _ t415 _ _ t418 t427 _ _ t428 _ _ t431 true _ ?side1 ?side2 ?side3 ?side4 ?side5 ?side6 ?side7 ?side8 A39.out).mono ?_
  (case side1 => exact tq_159)
  (case side2 => exact (Kd.R_reads' HO_422001.out).2.1)
  (case side3 => exact tq_158)
  (case side4 => exact (Kd.S_reads' HO_422002.out).2.1)
  (case side5 => exact tq_174)
  (case side6 => exact (Kd.R_reads' HO430.out).2.1)
  (case side7 => exact tq_173)
  (case side8 => exact (Kd.S_reads' HO433.out).2.1)
  rintro e w45 ⟨rfl, hb⟩
  refine ⟨_, rfl, ?_⟩
  have z_ := p_ (Kd.R_below tq_103 hb) <| p_ (Kd.S_below tq_102 hb) <| p_ (Kd.R_below (by (with_reducible repeat (first | apply Kd.R_alloc | apply Kd.R_drewN | apply Kd.R_drew)); exact HO430.out) hb) <| p_ (Kd.S_below (by (with_reducible repeat (first | apply Kd.S_alloc | apply Kd.S_drewN | apply Kd.S_drew)); exact HO433.out) hb) <| p_ (blk_below tq_35 hb) <| p_ (blk_below tq_45 hb) <| p_ (blk_below tq_85 hb) <| a_ (below_step tq_20 hb)
  clear HO_422001 HO_422002 HO430 HO433 BK399 BK400 BK421 HB
  obtain ⟨HO_422001, HO_422002, HO430, HO433, BK399, BK400, BK421, HB⟩ := z_
  (try clear hb)
  (try clear hb2)
  (try clear hk)
  (try clear hi)
  refine hK.out _ _ (bc3_ BK421.out (bk3_ BK400.out)) (fun hHeld => ?_)
  clear hK K
  refine nm_ (some 31) ?_
  refine yq_ (i := 4) (N := some 32) bq_80 (by kernel_rfl) ?_
  refine done_ (by kernel_rfl) ?_
  try go_wp2
  go_ret
  exact ⟨tq_2, tq_20⟩
 replace c40 := Bool.eq_false_iff.mpr c40
 subst c40
 have H1 : (some false) = some r := by rw [if_neg (show ¬ (false = true) by decide)] at H; exact H
 clear H
 have H := H1
 clear H1
 obtain rfl := Option.some.inj H
 try go_wp2
 have z_ := p_ (Kd.R_drew HO_422001.out) <| p_ (Kd.S_drew HO_422002.out) <| p_ (blk_drew BK399.out) <| p_ (blk_drew BK400.out) <| p_ (blk_drew BK421.out) <| a_ (below_drew1 HB.out)
 clear HO_422001 HO_422002 BK399 BK400 BK421 HB
 obtain ⟨HO_422001, HO_422002, BK399, BK400, BK421, HB⟩ := z_
 refine start_ (n := 5) (S := fun w' => w'.cell? ⟨gb421, 0, none⟩ = some (.int .i64 t414) ∧ w'.cell? ⟨gb421, 1, none⟩ = some (.slice Ao31 t415.length co31) ∧ w'.cell? ⟨gb421, 2, none⟩ = some (.slice Ao32 t418.length co32) ∧ w'.cell? ⟨gb400, 0, none⟩ = some (.int .i64 a1_0) ∧ w'.cell? ⟨gb400, 1, none⟩ = some (.slice A1_1 l1_1.length c1_1) ∧ w'.cell? ⟨gb400, 2, none⟩ = some (.slice A1_2 l1_2.length c1_2)) (ds := []) bq_76 (by kernel_rfl) rfl rfl (bc3_ BK421.out (bk3_ BK400.out)) (fun hHeld => ?_)
 generalize wc.drew = w46 at HO_422001 HO_422002 BK399 BK400 BK421 HB hHeld ⊢
 refine take_ (i := 0) (N := some 28) (v := ?_) (a' := ?_) bq_77 rfl rfl (by kernel_rfl) (fun _ _ _ h => h) (Or.inl ⟨(by rfl), ?_⟩) hHeld ?_ ?_
 rotate_left
 ·rintro w' ⟨s0, s1, s2, s3, s4, s5⟩
  go_simp
  with_reducible rfl
 rotate_left
 ·simp only [Act.put, List.setIfInBounds_toArray, List.set_cons_zero, List.set_cons_succ, i64_w, i32_w]
  rfl
 refine take_ (i := 1) (N := some 29) (v := ?_) (a' := ?_) #[true, true, false, false, false] rfl rfl (by kernel_rfl) (fun _ _ _ h => h) (Or.inl ⟨(by rfl), ?_⟩) hHeld ?_ ?_
 rotate_left
 ·rintro w' ⟨s0, s1, s2, s3, s4, s5⟩
  go_simp
  with_reducible rfl
 rotate_left
 ·simp only [Act.put, List.setIfInBounds_toArray, List.set_cons_zero, List.set_cons_succ, i64_w, i32_w]
  rfl
 refine one_ (i := 2) (N := some 30) bq_78 rfl rfl (by kernel_rfl) (by decide) (fun K hK => ?_)
 refine goes_ Try.func9 (by kernel_rfl) rfl #[.agg #[.int .i64 a1_0, .slice A1_1 l1_1.length c1_1, .slice A1_2 l1_2.length c1_2]] (by rfl) rfl rfl tq_1 ?_
 with_reducible refine (laws_toPart.calls kj16 a1_0 _ _ l1_1 _ _ l1_2 t427 t428 t431 _ ?side1 ?side2 ?side3 ?side4 A38.out).mono ?_
 (case side1 => exact tq_21)
 (case side2 => exact HC1_1.out)
 (case side3 => exact tq_30)
 (case side4 => exact HC1_2.out)
 rintro e w47 ⟨v429, v432, rfl, ho0, ho1, hb⟩
 refine ⟨_, rfl, ?_⟩
 have z_ := p_ (Kd.R_elder' tq_103 (Kd.R_base ho0) hb) <| p_ (Kd.S_elder' tq_102 (Kd.S_base ho1) hb) <| p_ (Kd.R_lower (Kd.R_new' ho0 (Kd.R_lt tq_103)) (below_size tq_20)) <| p_ (Kd.S_lower (Kd.S_new' ho1 (Kd.S_lt tq_102)) (below_size tq_20)) <| p_ (blk_below tq_35 hb) <| p_ (blk_below tq_45 hb) <| p_ (blk_below tq_85 hb) <| a_ (below_step tq_20 hb)
 clear HO_422001 HO_422002 BK399 BK400 BK421 HB
 obtain ⟨HO_422001, HO_422002, HO430, HO433, BK399, BK400, BK421, HB⟩ := z_
 (try clear hb)
 (try clear hb2)
 (try clear hk)
 (try clear hi)
 (try clear ho0)
 (try clear ho1)
 obtain ⟨Ao48, co48, eo48⟩ := Kd.R_slice HO430.out
 (first | subst eo48 | (injection eo48 with f1_ f2_ f3_; have f4_ := f1_.symm; have f5_ := f3_.symm; clear f1_ f2_ f3_; subst f4_; subst f5_))
 obtain ⟨Ao49, co49, eo49⟩ := Kd.S_slice HO433.out
 (first | subst eo49 | (injection eo49 with f1_ f2_ f3_; have f4_ := f1_.symm; have f5_ := f3_.symm; clear f1_ f2_ f3_; subst f4_; subst f5_))
 refine hK.out _ _ (bc3_ BK421.out (bk3_ BK400.out)) (fun hHeld => ?_)
 clear hK K
 refine nm_ (some 30) ?_
 refine one_ (i := 3) (N := some 31) bq_79 rfl rfl (by kernel_rfl) (by decide) (fun K hK => ?_)
 refine goes_ Try.func11 (by kernel_rfl) rfl #[.agg #[.int .i64 t414, .slice Ao31 t415.length co31, .slice Ao32 t418.length co32], .agg #[.int .i64 t427, .slice Ao48 t428.length co48, .slice Ao49 t431.length co49]] (by rfl) rfl rfl tq_1 ?_
 with_reducible refine (laws_eqPart.calls kj16 t414 _ _ t415 _ _ t418 t427 _ _ t428 _ _ t431 false _ ?side1 ?side2 ?side3 ?side4 ?side5 ?side6 ?side7 ?side8 A39.out).mono ?_
 (case side1 => exact tq_159)
 (case side2 => exact (Kd.R_reads' HO_422001.out).2.1)
 (case side3 => exact tq_158)
 (case side4 => exact (Kd.S_reads' HO_422002.out).2.1)
 (case side5 => exact tq_174)
 (case side6 => exact (Kd.R_reads' HO430.out).2.1)
 (case side7 => exact tq_173)
 (case side8 => exact (Kd.S_reads' HO433.out).2.1)
 rintro e w50 ⟨rfl, hb⟩
 refine ⟨_, rfl, ?_⟩
 have z_ := p_ (Kd.R_below tq_103 hb) <| p_ (Kd.S_below tq_102 hb) <| p_ (Kd.R_below (by (with_reducible repeat (first | apply Kd.R_alloc | apply Kd.R_drewN | apply Kd.R_drew)); exact HO430.out) hb) <| p_ (Kd.S_below (by (with_reducible repeat (first | apply Kd.S_alloc | apply Kd.S_drewN | apply Kd.S_drew)); exact HO433.out) hb) <| p_ (blk_below tq_35 hb) <| p_ (blk_below tq_45 hb) <| p_ (blk_below tq_85 hb) <| a_ (below_step tq_20 hb)
 clear HO_422001 HO_422002 HO430 HO433 BK399 BK400 BK421 HB
 obtain ⟨HO_422001, HO_422002, HO430, HO433, BK399, BK400, BK421, HB⟩ := z_
 (try clear hb)
 (try clear hb2)
 (try clear hk)
 (try clear hi)
 refine hK.out _ _ (bc3_ BK421.out (bk3_ BK400.out)) (fun hHeld => ?_)
 clear hK K
 refine nm_ (some 31) ?_
 refine yq_ (i := 4) (N := some 32) bq_80 (by kernel_rfl) ?_
 refine done_ (by kernel_rfl) ?_
 try go_wp2
 go_ret
 exact ⟨tq_2, tq_20⟩

end Go.Proofs.Ytljnnmpfeningaa.PFnExactPartOk
