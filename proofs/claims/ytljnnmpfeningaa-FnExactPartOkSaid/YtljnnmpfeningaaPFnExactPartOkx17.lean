/- Contracts of Go functions, written by a program of ours over the print of the kit: each says that the call returns what the Lean function beside it computes. Conditions: as each theorem states them. -/
import Derived.Test.YtljnnmpfeningaaPkFnExactPartOk
import Derived.Test.YtljnnmpfeningaaPFnExactPartOkx0
import Derived.Test.YtljnnmpfeningaaPFnExactPartOkx9
import Derived.Test.YtljnnmpfeningaaPFnExactPartOkx10
import Derived.Test.YtljnnmpfeningaaPFnExactPartOkx15
import Derived.Test.YtljnnmpfeningaaPFnExactPartOkx16
namespace Go.Proofs.Ytljnnmpfeningaa.PFnExactPartOk
open Go.RowKit Go.Proofs.YtljnnmpfeningaaW.PrintWords Go.Proofs.YtljnnmpfeningaaW.PrintLast Go.Proofs.YtljnnmpfeningaaW.PrintMore
attribute [local go_sem] max2_int min2_int max_two min_two max_three min_three max_four min_four   -- for this text's walks alone
set_option linter.unusedVariables false
set_option linter.unusedSimpArgs false

/-! ### impl_PartOk: function 10 -/
mutual
def impl_PartOk.j0 : Nat → Bool → Int → Int → Int → Int → Int → List Int → List (S64) → Option (Bool)
 | 0, _, _, _, _, _, _, _, _ => none
 | k + 1, x36, x365000, x365001, x365002, x365003, x366000, x366001, x366002 => if x36 = true then (some false) else (impl_PartOk.l0 k 0 x365000 x365001 x365002 x365003 x366000 x366001 x366002)
def impl_PartOk.l0 : Nat → Int → Int → Int → Int → Int → Int → List Int → List (S64) → Option (Bool)
 | 0, _, _, _, _, _, _, _, _ => none
 | k + 1, x37, x365000, x365001, x365002, x365003, x366000, x366001, x366002 => if x37 < 12 then (if x37 < x365001 then (if 0 ≤ x37 then (if x37 < (x366001.length : Int) then (impl_PartOk.j2 k x37 0 x37 ((rd x366001 x37) == 2) x365000 x365001 x365002 x365003 x366000 x366001 x366002) else (none)) else (none)) else (impl_PartOk.j2 k x37 0 x37 false x365000 x365001 x365002 x365003 x366000 x366001 x366002)) else ((impl_PagesWith.f k x366001 2).bind fun t370 => (some (decide ((t370.length : Int) ≤ x365003))))
def impl_PartOk.j2 : Nat → Int → Int → Int → Bool → Int → Int → Int → Int → Int → List Int → List (S64) → Option (Bool)
 | 0, _, _, _, _, _, _, _, _, _, _, _ => none
 | k + 1, x5, x6, x37, x51, x365000, x365001, x365002, x365003, x366000, x366001, x366002 => if x51 = true then ((impl_UsersOf.f k x366000 x366001 x366002 x5).bind fun t374 => (if t374 = 1 then (impl_PartOk.l0 k (wrap64 (x37 + 1)) x365000 x365001 x365002 x365003 x366000 x366001 x366002) else (some false))) else ((impl_UsersOf.f k x366000 x366001 x366002 x5).bind fun t375 => (if t375 = x6 then (impl_PartOk.l0 k (wrap64 (x37 + 1)) x365000 x365001 x365002 x365003 x366000 x366001 x366002) else (some false)))
end
def impl_PartOk.f (k : Nat) (a0_0 : Int) (a0_1 : Int) (a0_2 : Int) (a0_3 : Int) (a1_0 : Int) (l1_1 : List Int) (l1_2 : List (S64)) : Option (Bool) := (impl_GeoOk.f a0_0 a0_1 a0_2 a0_3).bind fun t366 => (if t366 = true then ((impl_within.f a1_0 0 16777215).bind fun t367 => (if t367 = true then ((impl_StatesOk.f k l1_1 a0_1).bind fun t368 => (if t368 = true then (if (l1_2.length : Int) = a0_2 then ((impl_areInodes.f k a1_0 l1_1 l1_2).bind fun t369 => (impl_PartOk.j0 k (!t369) a0_0 a0_1 a0_2 a0_3 a1_0 l1_1 l1_2)) else (impl_PartOk.j0 k true a0_0 a0_1 a0_2 a0_3 a1_0 l1_1 l1_2)) else (impl_PartOk.j0 k true a0_0 a0_1 a0_2 a0_3 a1_0 l1_1 l1_2))) else (impl_PartOk.j0 k true a0_0 a0_1 a0_2 a0_3 a1_0 l1_1 l1_2))) else (impl_PartOk.j0 k true a0_0 a0_1 a0_2 a0_3 a1_0 l1_1 l1_2))
theorem impl_PartOk.mono_l : ∀ k, (∀ y0 y1 y2 y3 y4 y5 y6 y7, LeO (impl_PartOk.j0 k y0 y1 y2 y3 y4 y5 y6 y7) (impl_PartOk.j0 (k + 1) y0 y1 y2 y3 y4 y5 y6 y7)) ∧ (∀ y0 y1 y2 y3 y4 y5 y6 y7, LeO (impl_PartOk.l0 k y0 y1 y2 y3 y4 y5 y6 y7) (impl_PartOk.l0 (k + 1) y0 y1 y2 y3 y4 y5 y6 y7)) ∧ (∀ y0 y1 y2 y3 y4 y5 y6 y7 y8 y9 y10, LeO (impl_PartOk.j2 k y0 y1 y2 y3 y4 y5 y6 y7 y8 y9 y10) (impl_PartOk.j2 (k + 1) y0 y1 y2 y3 y4 y5 y6 y7 y8 y9 y10))
 | 0 => ⟨fun _ _ _ _ _ _ _ _ r h => by simp [impl_PartOk.j0] at h, fun _ _ _ _ _ _ _ _ r h => by simp [impl_PartOk.l0] at h, fun _ _ _ _ _ _ _ _ _ _ _ r h => by simp [impl_PartOk.j2] at h⟩
 | k + 1 => by
  obtain ⟨ih0, ih1, ih2⟩ := impl_PartOk.mono_l k
  refine ⟨?_, ?_, ?_⟩
  ·intro y0 y1 y2 y3 y4 y5 y6 y7
   unfold impl_PartOk.j0
   exact mo_6
  ·intro y0 y1 y2 y3 y4 y5 y6 y7
   unfold impl_PartOk.l0
   exact mo_6
  ·intro y0 y1 y2 y3 y4 y5 y6 y7 y8 y9 y10
   unfold impl_PartOk.j2
   exact mo_6
theorem impl_PartOk.mono : ∀ a0 a1 a2 a3 a4 a5 a6 k, LeO (impl_PartOk.f k a0 a1 a2 a3 a4 a5 a6) (impl_PartOk.f (k + 1) a0 a1 a2 a3 a4 a5 a6) := by
 intro a0 a1 a2 a3 a4 a5 a6 k
 obtain ⟨ih0, ih1, ih2⟩ := impl_PartOk.mono_l k
 unfold impl_PartOk.f
 repeat' first
   | (with_reducible exact ih0 ..)
   | (with_reducible exact ih1 ..)
   | (with_reducible exact ih2 ..)
   | (with_reducible exact impl_PagesWith.mono ..)
   | (with_reducible exact impl_StatesOk.mono ..)
   | (with_reducible exact impl_UsersOf.mono ..)
   | (with_reducible exact impl_areInodes.mono ..)
   | (with_reducible exact LeO.refl _)
   | (with_reducible exact LeO.none _)
   | (with_reducible refine LeO.ite ?_ ?_)
   | (with_reducible refine LeO.bind ?_ (fun _ => ?_))
   | exact ih0 ..
   | exact ih1 ..
   | exact ih2 ..
   | exact impl_PagesWith.mono ..
   | exact impl_StatesOk.mono ..
   | exact impl_UsersOf.mono ..
   | exact impl_areInodes.mono ..
   | exact LeO.none _
   | refine LeO.ite ?_ ?_
   | refine LeO.bind ?_ (fun _ => ?_)
def impl_PartOk.T12 : Bool × List (List Nat × List Nat) := (true, [([], []), ([0], [0]), ([1], [1]), ([2], [2]), ([], []), ([4], [4]), ([3, 5], [3, 5]), ([6, 2, 0, 1, 2, 3, 4, 5, 6], [6])])
def impl_PartOk.B12 : List Nat := [0, 1, 3, 7, 0, 16, 63, 127]
theorem impl_PartOk.tab12 : rtab .any (opsOf Try.f10 12) = impl_PartOk.T12 := by kernel_rfl
theorem impl_PartOk.bits12 : waitsOk impl_PartOk.T12.2 impl_PartOk.B12 = true := by kernel_rfl
set_option maxHeartbeats 8000000 in
set_option maxRecDepth 100000 in
theorem impl_PartOk.calls (k : Nat) (a0_0 : Int) (a0_1 : Int) (a0_2 : Int) (a0_3 : Int) (a1_0 : Int) (A1_1 : Option Addr) (c1_1 : Nat) (l1_1 : List Int) (A1_2 : Option Addr) (c1_2 : Nat) (l1_2 : List (S64)) (r : Bool) (w : World) (hr1_1 : Kd.C (Kd.int .i64) w A1_1 l1_1.length l1_1) (hc1_1 : l1_1.length ≤ c1_1) (hr1_2 : Kd.C k64 w A1_2 l1_2.length l1_2) (hc1_2 : l1_2.length ≤ c1_2) (h : impl_PartOk.f k a0_0 a0_1 a0_2 a0_3 a1_0 l1_1 l1_2 = some r) :
  Calls Try.prog 10 #[.agg #[.int .i64 a0_0, .int .i64 a0_1, .int .i64 a0_2, .int .i64 a0_3], .agg #[.int .i64 a1_0, .slice A1_1 l1_1.length c1_1, .slice A1_2 l1_2.length c1_2]] w fun e w' => e = .returned (.bool r) ∧ Below w.heap.size w w' := by
 have hu30 := Try.underlying30
 have hu34 := Try.underlying34
 have HR1_1 := Aside0.mk hr1_1
 have HC1_1 := Aside0.mk hc1_1
 clear hr1_1 hc1_1
 have HR1_2 := Aside0.mk hr1_2
 have HC1_2 := Aside0.mk hc1_2
 clear hr1_2 hc1_2
 have HB := Aside0.mk (Below.refl w.heap.size w)
 have H : ((impl_GeoOk.f a0_0 a0_1 a0_2 a0_3).bind fun t366 => (if t366 = true then ((impl_within.f a1_0 0 16777215).bind fun t367 => (if t367 = true then ((impl_StatesOk.f k l1_1 a0_1).bind fun t368 => (if t368 = true then (if (l1_2.length : Int) = a0_2 then ((impl_areInodes.f k a1_0 l1_1 l1_2).bind fun t369 => (impl_PartOk.j0 k (!t369) a0_0 a0_1 a0_2 a0_3 a1_0 l1_1 l1_2)) else (impl_PartOk.j0 k true a0_0 a0_1 a0_2 a0_3 a1_0 l1_1 l1_2)) else (impl_PartOk.j0 k true a0_0 a0_1 a0_2 a0_3 a1_0 l1_1 l1_2))) else (impl_PartOk.j0 k true a0_0 a0_1 a0_2 a0_3 a1_0 l1_1 l1_2))) else (impl_PartOk.j0 k true a0_0 a0_1 a0_2 a0_3 a1_0 l1_1 l1_2))) = some r := h
 clear h
 have HC3 := Aside0.mk H
 clear H
 go_enter Try.func10, Try.ntmps10
 go_upto_region 1 with (first | ((with_reducible refine gate_dst (N := 2) rfl ?_); (try (refine gate_guard (by rfl) ?_; dsimp only)); refine box_event ?hg (N := 2) ?hd (cs := #[.int .i64 a0_0, .int .i64 a0_1, .int .i64 a0_2, .int .i64 a0_3]) (t := 30) ?hr ?_; (case hd => rfl); (case hg => rfl); (case hr => first | (go_simp; done) | (go_simp; rfl)); intro gb364 hg w4 hbox hb; have z_ := p_ (below_step tq_0 hb) <| p_ (hbox) <| p_ (gb_ hg tq_0) <| a_ (gb_ hg tq_0); clear HB; obtain ⟨HB, BK364, GW364, GE364⟩ := z_; clear hb hbox hg) | ((with_reducible refine gate_dst (N := 3) rfl ?_); (try (refine gate_guard (by rfl) ?_; dsimp only)); refine box_event ?hg (N := 3) ?hd (cs := #[.int .i64 a1_0, .slice A1_1 l1_1.length c1_1, .slice A1_2 l1_2.length c1_2]) (t := 34) ?hr ?_; (case hd => rfl); (case hg => rfl); (case hr => first | (go_simp; done) | (go_simp; rfl)); intro gb365 hg w5 hbox hb; have z_ := p_ (blk_below tq_24 hb) <| p_ (below_step tq_131 hb) <| p_ (hbox) <| p_ (gb_ hg tq_131) <| p_ (gb_ hg tq_131) <| p_ (ltne_ hg (blk_lt tq_24)) <| a_ (gtne_ hg (blk_lt tq_24)); clear BK364 HB; obtain ⟨BK364, HB, BK365, GW365, GE365, NB364_365, NB365_364⟩ := z_; clear hb hbox hg))
 (try simp only [Act.put, List.setIfInBounds_toArray, List.set_cons_zero, List.set_cons_succ])
 go_cut [36] (fun v36 wc => ∃ (kq : Nat) (x36_2 : Bool), v36 = .bool x36_2 ∧ Aside0 (impl_PartOk.j0 kq x36_2 a0_0 a0_1 a0_2 a0_3 a1_0 l1_1 l1_2 = some r) ∧ Aside0 (kq ≤ k) ∧ Aside0 (wc.heap[gb364]? = some (.cells #[.int .i64 a0_0, .int .i64 a0_1, .int .i64 a0_2, .int .i64 a0_3] 30 (0, 0))) ∧ Aside0 (wc.heap[gb365]? = some (.cells #[.int .i64 a1_0, (.slice A1_1 l1_1.length c1_1), (.slice A1_2 l1_2.length c1_2)] 34 (0, 0))) ∧ Aside0 (Below w.heap.size w wc))
 case first =>
  have H := HC3.out
  clear HC3
  replace H := Option.bind_eq_some_iff.mp H
  obtain ⟨t366, A60, H⟩ := H
  replace H : (if t366 = true then ((impl_within.f a1_0 0 16777215).bind fun t367 => (if t367 = true then ((impl_StatesOk.f k l1_1 a0_1).bind fun t368 => (if t368 = true then (if (l1_2.length : Int) = a0_2 then ((impl_areInodes.f k a1_0 l1_1 l1_2).bind fun t369 => (impl_PartOk.j0 k (!t369) a0_0 a0_1 a0_2 a0_3 a1_0 l1_1 l1_2)) else (impl_PartOk.j0 k true a0_0 a0_1 a0_2 a0_3 a1_0 l1_1 l1_2)) else (impl_PartOk.j0 k true a0_0 a0_1 a0_2 a0_3 a1_0 l1_1 l1_2))) else (impl_PartOk.j0 k true a0_0 a0_1 a0_2 a0_3 a1_0 l1_1 l1_2))) else (impl_PartOk.j0 k true a0_0 a0_1 a0_2 a0_3 a1_0 l1_1 l1_2)) = some r := H
  have A6 := Aside0.mk A60
  clear A60
  by_cases c7 : t366 = true
  rotate_left
  ·replace c7 := Bool.eq_false_iff.mpr c7
   subst c7
   have H1 : (impl_PartOk.j0 k true a0_0 a0_1 a0_2 a0_3 a1_0 l1_1 l1_2) = some r := by rw [if_neg (show ¬ (false = true) by decide)] at H; exact H
   clear H
   have H := H1
   clear H1
   have H' := Aside0.mk H
   clear H
   have hnb34 := NB364_365.out
   have hnc34 := NB365_364.out
   obtain ⟨hcz35_0, hcz35_1, hcz35_2, hcz35_3⟩ := bk4_ BK364.out
   obtain ⟨hfz35_0, hfz35_1, hfz35_2, hfz35_3⟩ := bf4_ BK364.out
   go_wp2_with (first | ((with_reducible refine gate_callee (f := 39) rfl ?_); refine goesL_ (some 8) rfl rfl Try.func39 (by kernel_rfl) rfl #[.agg #[.int .i64 a0_0, .int .i64 a0_1, .int .i64 a0_2, .int .i64 a0_3]] rfl tq_1 ?_; (with_reducible refine (impl_GeoOk.calls a0_0 a0_1 a0_2 a0_3 false _ A6.out).mono ?_); rintro e w36 ⟨rfl, hb⟩; refine ⟨_, rfl, ?_⟩; have z_ := p_ (blk_below tq_24 hb) <| p_ (blk_below tq_28 hb) <| a_ (below_step tq_7 hb); clear BK364 BK365 HB; obtain ⟨BK364, BK365, HB⟩ := z_; (try clear hb); (try clear hb2); (try clear hk); (try clear hi)))
   go_meet
   case rel => exact ⟨_, (true), tq_4, H', ⟨tq_59⟩, ⟨tq_24⟩, ⟨tq_28⟩, ⟨tq_7⟩⟩
  subst c7
  have H1 : ((impl_within.f a1_0 0 16777215).bind fun t367 => (if t367 = true then ((impl_StatesOk.f k l1_1 a0_1).bind fun t368 => (if t368 = true then (if (l1_2.length : Int) = a0_2 then ((impl_areInodes.f k a1_0 l1_1 l1_2).bind fun t369 => (impl_PartOk.j0 k (!t369) a0_0 a0_1 a0_2 a0_3 a1_0 l1_1 l1_2)) else (impl_PartOk.j0 k true a0_0 a0_1 a0_2 a0_3 a1_0 l1_1 l1_2)) else (impl_PartOk.j0 k true a0_0 a0_1 a0_2 a0_3 a1_0 l1_1 l1_2))) else (impl_PartOk.j0 k true a0_0 a0_1 a0_2 a0_3 a1_0 l1_1 l1_2))) = some r := by rw [if_pos rfl] at H; exact H
  clear H
  have H := H1
  clear H1
  replace H := Option.bind_eq_some_iff.mp H
  obtain ⟨t367, A80, H⟩ := H
  replace H : (if t367 = true then ((impl_StatesOk.f k l1_1 a0_1).bind fun t368 => (if t368 = true then (if (l1_2.length : Int) = a0_2 then ((impl_areInodes.f k a1_0 l1_1 l1_2).bind fun t369 => (impl_PartOk.j0 k (!t369) a0_0 a0_1 a0_2 a0_3 a1_0 l1_1 l1_2)) else (impl_PartOk.j0 k true a0_0 a0_1 a0_2 a0_3 a1_0 l1_1 l1_2)) else (impl_PartOk.j0 k true a0_0 a0_1 a0_2 a0_3 a1_0 l1_1 l1_2))) else (impl_PartOk.j0 k true a0_0 a0_1 a0_2 a0_3 a1_0 l1_1 l1_2)) = some r := H
  have A8 := Aside0.mk A80
  clear A80
  by_cases c9 : t367 = true
  rotate_left
  ·replace c9 := Bool.eq_false_iff.mpr c9
   subst c9
   have H1 : (impl_PartOk.j0 k true a0_0 a0_1 a0_2 a0_3 a1_0 l1_1 l1_2) = some r := by rw [if_neg (show ¬ (false = true) by decide)] at H; exact H
   clear H
   have H := H1
   clear H1
   have H' := Aside0.mk H
   clear H
   have hnb30 := NB364_365.out
   have hnc30 := NB365_364.out
   obtain ⟨hcz31_0, hcz31_1, hcz31_2, hcz31_3⟩ := bk4_ BK364.out
   obtain ⟨hfz31_0, hfz31_1, hfz31_2, hfz31_3⟩ := bf4_ BK364.out
   go_wp2_with (first | ((with_reducible refine gate_callee (f := 39) rfl ?_); refine goesL_ (some 8) rfl rfl Try.func39 (by kernel_rfl) rfl #[.agg #[.int .i64 a0_0, .int .i64 a0_1, .int .i64 a0_2, .int .i64 a0_3]] rfl tq_1 ?_; (with_reducible refine (impl_GeoOk.calls a0_0 a0_1 a0_2 a0_3 true _ A6.out).mono ?_); rintro e w32 ⟨rfl, hb⟩; refine ⟨_, rfl, ?_⟩; have z_ := p_ (blk_below tq_24 hb) <| p_ (blk_below tq_28 hb) <| a_ (below_step tq_7 hb); clear BK364 BK365 HB; obtain ⟨BK364, BK365, HB⟩ := z_; (try clear hb); (try clear hb2); (try clear hk); (try clear hi); obtain ⟨hcz33_0, hcz33_1, hcz33_2⟩ := bk3_ BK365.out; obtain ⟨hfz33_0, hfz33_1, hfz33_2⟩ := bf3_ BK365.out) | (go_at_call 40; (with_reducible refine (impl_within.calls a1_0 0 16777215 false _ A8.out).mono ?_); rintro e w' ⟨rfl, ⟨nd, rfl⟩⟩))
   go_meet
   case rel => exact ⟨_, (true), tq_4, H', ⟨tq_59⟩, ⟨tq_24⟩, ⟨tq_28⟩, ⟨tq_7⟩⟩
  subst c9
  have H1 : ((impl_StatesOk.f k l1_1 a0_1).bind fun t368 => (if t368 = true then (if (l1_2.length : Int) = a0_2 then ((impl_areInodes.f k a1_0 l1_1 l1_2).bind fun t369 => (impl_PartOk.j0 k (!t369) a0_0 a0_1 a0_2 a0_3 a1_0 l1_1 l1_2)) else (impl_PartOk.j0 k true a0_0 a0_1 a0_2 a0_3 a1_0 l1_1 l1_2)) else (impl_PartOk.j0 k true a0_0 a0_1 a0_2 a0_3 a1_0 l1_1 l1_2))) = some r := by rw [if_pos rfl] at H; exact H
  clear H
  have H := H1
  clear H1
  replace H := Option.bind_eq_some_iff.mp H
  obtain ⟨t368, A100, H⟩ := H
  replace H : (if t368 = true then (if (l1_2.length : Int) = a0_2 then ((impl_areInodes.f k a1_0 l1_1 l1_2).bind fun t369 => (impl_PartOk.j0 k (!t369) a0_0 a0_1 a0_2 a0_3 a1_0 l1_1 l1_2)) else (impl_PartOk.j0 k true a0_0 a0_1 a0_2 a0_3 a1_0 l1_1 l1_2)) else (impl_PartOk.j0 k true a0_0 a0_1 a0_2 a0_3 a1_0 l1_1 l1_2)) = some r := H
  have A10 := Aside0.mk A100
  clear A100
  by_cases c11 : t368 = true
  rotate_left
  ·replace c11 := Bool.eq_false_iff.mpr c11
   subst c11
   have H1 : (impl_PartOk.j0 k true a0_0 a0_1 a0_2 a0_3 a1_0 l1_1 l1_2) = some r := by rw [if_neg (show ¬ (false = true) by decide)] at H; exact H
   clear H
   have H := H1
   clear H1
   have H' := Aside0.mk H
   clear H
   have hnb25 := NB364_365.out
   have hnc25 := NB365_364.out
   obtain ⟨hcz26_0, hcz26_1, hcz26_2, hcz26_3⟩ := bk4_ BK364.out
   obtain ⟨hfz26_0, hfz26_1, hfz26_2, hfz26_3⟩ := bf4_ BK364.out
   go_wp2_with (first | ((with_reducible refine gate_callee (f := 39) rfl ?_); refine goesL_ (some 8) rfl rfl Try.func39 (by kernel_rfl) rfl #[.agg #[.int .i64 a0_0, .int .i64 a0_1, .int .i64 a0_2, .int .i64 a0_3]] rfl tq_1 ?_; (with_reducible refine (impl_GeoOk.calls a0_0 a0_1 a0_2 a0_3 true _ A6.out).mono ?_); rintro e w27 ⟨rfl, hb⟩; refine ⟨_, rfl, ?_⟩; have z_ := p_ (blk_below tq_24 hb) <| p_ (blk_below tq_28 hb) <| a_ (below_step tq_7 hb); clear BK364 BK365 HB; obtain ⟨BK364, BK365, HB⟩ := z_; (try clear hb); (try clear hb2); (try clear hk); (try clear hi); obtain ⟨hcz28_0, hcz28_1, hcz28_2⟩ := bk3_ BK365.out; obtain ⟨hfz28_0, hfz28_1, hfz28_2⟩ := bf3_ BK365.out) | (go_at_call 40; (with_reducible refine (impl_within.calls a1_0 0 16777215 true _ A8.out).mono ?_); rintro e w' ⟨rfl, ⟨nd, rfl⟩⟩; obtain ⟨hcz29_0, hcz29_1, hcz29_2, hcz29_3⟩ := bk4_ BK364.out; obtain ⟨hfz29_0, hfz29_1, hfz29_2, hfz29_3⟩ := bf4_ BK364.out) | (go_at_call 41; (with_reducible refine (impl_StatesOk.calls k _ _ l1_1 a0_1 false _ ?side1 ?side2 A10.out).mono ?_); (case side1 => exact tq_109); (case side2 => exact HC1_1.out); rintro e w' ⟨rfl, ⟨nd, rfl⟩⟩))
   go_meet
   case rel => exact ⟨_, (true), tq_4, H', ⟨tq_59⟩, ⟨tq_24⟩, ⟨tq_28⟩, ⟨tq_7⟩⟩
  subst c11
  have H1 : (if (l1_2.length : Int) = a0_2 then ((impl_areInodes.f k a1_0 l1_1 l1_2).bind fun t369 => (impl_PartOk.j0 k (!t369) a0_0 a0_1 a0_2 a0_3 a1_0 l1_1 l1_2)) else (impl_PartOk.j0 k true a0_0 a0_1 a0_2 a0_3 a1_0 l1_1 l1_2)) = some r := by rw [if_pos rfl] at H; exact H
  clear H
  have H := H1
  clear H1
  by_cases c12 : (l1_2.length : Int) = a0_2
  rotate_left
  ·rw [if_neg c12] at H
   have c12b0 := beq_eq_false_iff_ne.mpr c12
   have c12b1 := bne_iff_ne.mpr c12
   (first | rw [c12b0] | (simp only [i64_w, i32_w]; rw [c12b0]) | skip)
   have H' := Aside0.mk H
   clear H
   have hnb20 := NB364_365.out
   have hnc20 := NB365_364.out
   obtain ⟨hcz21_0, hcz21_1, hcz21_2, hcz21_3⟩ := bk4_ BK364.out
   obtain ⟨hfz21_0, hfz21_1, hfz21_2, hfz21_3⟩ := bf4_ BK364.out
   go_wp2_with (first | ((with_reducible refine gate_callee (f := 39) rfl ?_); refine goesL_ (some 8) rfl rfl Try.func39 (by kernel_rfl) rfl #[.agg #[.int .i64 a0_0, .int .i64 a0_1, .int .i64 a0_2, .int .i64 a0_3]] rfl tq_1 ?_; (with_reducible refine (impl_GeoOk.calls a0_0 a0_1 a0_2 a0_3 true _ A6.out).mono ?_); rintro e w22 ⟨rfl, hb⟩; refine ⟨_, rfl, ?_⟩; have z_ := p_ (blk_below tq_24 hb) <| p_ (blk_below tq_28 hb) <| a_ (below_step tq_7 hb); clear BK364 BK365 HB; obtain ⟨BK364, BK365, HB⟩ := z_; (try clear hb); (try clear hb2); (try clear hk); (try clear hi); obtain ⟨hcz23_0, hcz23_1, hcz23_2⟩ := bk3_ BK365.out; obtain ⟨hfz23_0, hfz23_1, hfz23_2⟩ := bf3_ BK365.out) | (go_at_call 40; (with_reducible refine (impl_within.calls a1_0 0 16777215 true _ A8.out).mono ?_); rintro e w' ⟨rfl, ⟨nd, rfl⟩⟩; obtain ⟨hcz24_0, hcz24_1, hcz24_2, hcz24_3⟩ := bk4_ BK364.out; obtain ⟨hfz24_0, hfz24_1, hfz24_2, hfz24_3⟩ := bf4_ BK364.out) | (go_at_call 41; (with_reducible refine (impl_StatesOk.calls k _ _ l1_1 a0_1 true _ ?side1 ?side2 A10.out).mono ?_); (case side1 => exact tq_109); (case side2 => exact HC1_1.out); rintro e w' ⟨rfl, ⟨nd, rfl⟩⟩))
   go_meet
   case rel => exact ⟨_, (true), tq_4, H', ⟨tq_59⟩, ⟨tq_24⟩, ⟨tq_28⟩, ⟨tq_7⟩⟩
  rw [if_pos c12] at H
  have c12b0 := beq_iff_eq.mpr c12
  have c12b1 := bne_eq_false_iff_eq.mpr c12
  clear c12
  (first | rw [c12b0] | (simp only [i64_w, i32_w]; rw [c12b0]) | skip)
  replace H := Option.bind_eq_some_iff.mp H
  obtain ⟨t369, A130, H⟩ := H
  replace H : (impl_PartOk.j0 k (!t369) a0_0 a0_1 a0_2 a0_3 a1_0 l1_1 l1_2) = some r := H
  have A13 := Aside0.mk A130
  clear A130
  have H' := Aside0.mk H
  clear H
  have hnb14 := NB364_365.out
  have hnc14 := NB365_364.out
  obtain ⟨hcz15_0, hcz15_1, hcz15_2, hcz15_3⟩ := bk4_ BK364.out
  obtain ⟨hfz15_0, hfz15_1, hfz15_2, hfz15_3⟩ := bf4_ BK364.out
  go_wp2_with (first | ((with_reducible refine gate_callee (f := 39) rfl ?_); refine goesL_ (some 8) rfl rfl Try.func39 (by kernel_rfl) rfl #[.agg #[.int .i64 a0_0, .int .i64 a0_1, .int .i64 a0_2, .int .i64 a0_3]] rfl tq_1 ?_; (with_reducible refine (impl_GeoOk.calls a0_0 a0_1 a0_2 a0_3 true _ A6.out).mono ?_); rintro e w16 ⟨rfl, hb⟩; refine ⟨_, rfl, ?_⟩; have z_ := p_ (blk_below tq_24 hb) <| p_ (blk_below tq_28 hb) <| a_ (below_step tq_7 hb); clear BK364 BK365 HB; obtain ⟨BK364, BK365, HB⟩ := z_; (try clear hb); (try clear hb2); (try clear hk); (try clear hi); obtain ⟨hcz17_0, hcz17_1, hcz17_2⟩ := bk3_ BK365.out; obtain ⟨hfz17_0, hfz17_1, hfz17_2⟩ := bf3_ BK365.out) | (go_at_call 40; (with_reducible refine (impl_within.calls a1_0 0 16777215 true _ A8.out).mono ?_); rintro e w' ⟨rfl, ⟨nd, rfl⟩⟩; obtain ⟨hcz18_0, hcz18_1, hcz18_2, hcz18_3⟩ := bk4_ BK364.out; obtain ⟨hfz18_0, hfz18_1, hfz18_2, hfz18_3⟩ := bf4_ BK364.out) | (go_at_call 41; (with_reducible refine (impl_StatesOk.calls k _ _ l1_1 a0_1 true _ ?side1 ?side2 A10.out).mono ?_); (case side1 => exact tq_109); (case side2 => exact HC1_1.out); rintro e w' ⟨rfl, ⟨nd, rfl⟩⟩) | (go_at_call 42; (with_reducible refine (impl_areInodes.calls k a1_0 _ _ l1_1 _ _ l1_2 t369 _ ?side1 ?side2 ?side3 ?side4 A13.out).mono ?_); (case side1 => exact tq_109); (case side2 => exact HC1_1.out); (case side3 => repeat (first | exact (Kd.C_below HR1_2.out tq_7) | (with_reducible refine Kd.C_alloc ?_ _) | (with_reducible refine Kd.C_drewN ?_ _) | (with_reducible refine Kd.C_drew ?_))); (case side4 => exact HC1_2.out); rintro e w19 ⟨rfl, hb⟩; have z_ := p_ (blk_below tq_24 hb) <| p_ (blk_below tq_28 hb) <| a_ (below_step tq_7 hb); clear BK364 BK365 HB; obtain ⟨BK364, BK365, HB⟩ := z_; (try clear hb); (try clear hb2); (try clear hk); (try clear hi)))
  go_meet
  case rel => exact ⟨_, (!t369), tq_4, H', ⟨tq_59⟩, ⟨tq_24⟩, ⟨tq_28⟩, ⟨tq_7⟩⟩
 case rest =>
 clear HC3
 try clear c1; try clear c2; try clear p2; try clear c3; try clear c7; try clear c9; try clear c10; try clear c11; try clear c12; try clear c12b0; try clear c12b1; try clear c14; try clear c20; try clear c25; try clear c30; try clear c34; try clear hcz15_0 hcz15_1 hcz15_2 hcz15_3; try clear hcz17_0 hcz17_1 hcz17_2; try clear hcz18_0 hcz18_1 hcz18_2 hcz18_3; try clear hcz21_0 hcz21_1 hcz21_2 hcz21_3; try clear hcz23_0 hcz23_1 hcz23_2; try clear hcz24_0 hcz24_1 hcz24_2 hcz24_3; try clear hcz26_0 hcz26_1 hcz26_2 hcz26_3; try clear hcz28_0 hcz28_1 hcz28_2; try clear hcz29_0 hcz29_1 hcz29_2 hcz29_3; try clear hcz31_0 hcz31_1 hcz31_2 hcz31_3; try clear hcz33_0 hcz33_1 hcz33_2; try clear hcz35_0 hcz35_1 hcz35_2 hcz35_3; try clear hfz15_0 hfz15_1 hfz15_2 hfz15_3; try clear hfz17_0 hfz17_1 hfz17_2; try clear hfz18_0 hfz18_1 hfz18_2 hfz18_3; try clear hfz21_0 hfz21_1 hfz21_2 hfz21_3; try clear hfz23_0 hfz23_1 hfz23_2; try clear hfz24_0 hfz24_1 hfz24_2 hfz24_3; try clear hfz26_0 hfz26_1 hfz26_2 hfz26_3; try clear hfz28_0 hfz28_1 hfz28_2; try clear hfz29_0 hfz29_1 hfz29_2 hfz29_3; try clear hfz31_0 hfz31_1 hfz31_2 hfz31_3; try clear hfz33_0 hfz33_1 hfz33_2; try clear hfz35_0 hfz35_1 hfz35_2 hfz35_3
 obtain ⟨kq, x36_2, rfl, HA, HJ2, BK364, BK365, HB⟩ := hcut
 cases kq with
 | zero => exact absurd HA.out (by simp [impl_PartOk.j0])
 | succ kj2 =>
 have H := HA.out
 clear HA
 simp only [impl_PartOk.j0] at H
 by_cases c37 : x36_2 = true
 ·subst c37
  have H1 : (some false) = some r := by rw [if_pos rfl] at H; exact H
  clear H
  have H := H1
  clear H1
  obtain rfl := Option.some.inj H
  go_wp2
  go_ret
  exact ⟨tq_2, tq_7⟩
 replace c37 := Bool.eq_false_iff.mpr c37
 subst c37
 have H1 : (impl_PartOk.l0 kj2 0 a0_0 a0_1 a0_2 a0_3 a1_0 l1_1 l1_2) = some r := by rw [if_neg (show ¬ (false = true) by decide)] at H; exact H
 clear H
 have H := H1
 clear H1
 have H' := Aside0.mk H
 clear H
 go_wp2
 go_loopg [37] kj2 (fun kq v37 w' => ∃ (x37_2 : Int), v37 = .int .i64 x37_2 ∧ Aside0 (impl_PartOk.l0 kq x37_2 a0_0 a0_1 a0_2 a0_3 a1_0 l1_1 l1_2 = some r) ∧ Aside0 (kq ≤ kj2) ∧ Aside0 (w'.heap[gb364]? = some (.cells #[.int .i64 a0_0, .int .i64 a0_1, .int .i64 a0_2, .int .i64 a0_3] 30 (0, 0))) ∧ Aside0 (w'.heap[gb365]? = some (.cells #[.int .i64 a1_0, (.slice A1_1 l1_1.length c1_1), (.slice A1_2 l1_2.length c1_2)] 34 (0, 0))) ∧ Aside0 (Below w.heap.size w w'))
 case atStart => exact ⟨(0), tq_4, H', ⟨Nat.le_refl _⟩, ⟨tq_24⟩, ⟨tq_28⟩, ⟨tq_7⟩⟩
 case round =>
 clear H'
 try clear c1; try clear c2; try clear p2; try clear c3; try clear c7; try clear c9; try clear c10; try clear c11; try clear c12; try clear c12b0; try clear c12b1; try clear c14; try clear c20; try clear c25; try clear c30; try clear c34; try clear c37; try clear hcz15_0 hcz15_1 hcz15_2 hcz15_3; try clear hcz17_0 hcz17_1 hcz17_2; try clear hcz18_0 hcz18_1 hcz18_2 hcz18_3; try clear hcz21_0 hcz21_1 hcz21_2 hcz21_3; try clear hcz23_0 hcz23_1 hcz23_2; try clear hcz24_0 hcz24_1 hcz24_2 hcz24_3; try clear hcz26_0 hcz26_1 hcz26_2 hcz26_3; try clear hcz28_0 hcz28_1 hcz28_2; try clear hcz29_0 hcz29_1 hcz29_2 hcz29_3; try clear hcz31_0 hcz31_1 hcz31_2 hcz31_3; try clear hcz33_0 hcz33_1 hcz33_2; try clear hcz35_0 hcz35_1 hcz35_2 hcz35_3; try clear hfz15_0 hfz15_1 hfz15_2 hfz15_3; try clear hfz17_0 hfz17_1 hfz17_2; try clear hfz18_0 hfz18_1 hfz18_2 hfz18_3; try clear hfz21_0 hfz21_1 hfz21_2 hfz21_3; try clear hfz23_0 hfz23_1 hfz23_2; try clear hfz24_0 hfz24_1 hfz24_2 hfz24_3; try clear hfz26_0 hfz26_1 hfz26_2 hfz26_3; try clear hfz28_0 hfz28_1 hfz28_2; try clear hfz29_0 hfz29_1 hfz29_2 hfz29_3; try clear hfz31_0 hfz31_1 hfz31_2 hfz31_3; try clear hfz33_0 hfz33_1 hfz33_2; try clear hfz35_0 hfz35_1 hfz35_2 hfz35_3; try clear p2
 obtain ⟨x37_2, rfl, HA, HK2, BK364, BK365, HB⟩ := hrel
 cases gk with
 | zero => exact absurd HA.out (by simp [impl_PartOk.l0])
 | succ k2 =>
 have H := HA.out
 clear HA
 simp only [impl_PartOk.l0] at H
 by_cases c38 : x37_2 < 12
 rotate_left
 ·rw [if_neg c38] at H
  have c38b0 := decide_eq_false c38
  clear c38
  replace H := Option.bind_eq_some_iff.mp H
  obtain ⟨t370, A650, H⟩ := H
  replace H : (some (decide ((t370.length : Int) ≤ a0_3))) = some r := H
  have A65 := Aside0.mk A650
  clear A650
  obtain rfl := Option.some.inj H
  try go_wp2
  have z_ := p_ (blk_drew BK364.out) <| p_ (blk_drew BK365.out) <| a_ (below_drew1 HB.out)
  clear BK364 BK365 HB
  obtain ⟨BK364, BK365, HB⟩ := z_
  refine start_ (n := 8) (S := fun w' => w'.cell? ⟨gb365, 0, none⟩ = some (.int .i64 a1_0) ∧ w'.cell? ⟨gb365, 1, none⟩ = some (.slice A1_1 l1_1.length c1_1) ∧ w'.cell? ⟨gb365, 2, none⟩ = some (.slice A1_2 l1_2.length c1_2) ∧ w'.cell? ⟨gb364, 0, none⟩ = some (.int .i64 a0_0) ∧ w'.cell? ⟨gb364, 1, none⟩ = some (.int .i64 a0_1) ∧ w'.cell? ⟨gb364, 2, none⟩ = some (.int .i64 a0_2) ∧ w'.cell? ⟨gb364, 3, none⟩ = some (.int .i64 a0_3)) (ds := []) bq_71 (by kernel_rfl) rfl rfl (bc3_ BK365.out (bk4_ BK364.out)) (fun hHeld => ?_); refine with_tabW impl_PartOk.tab12 impl_PartOk.bits12 (fun HT_ HW_ => ?_)
  generalize wr.drew = w66 at BK364 BK365 HB hHeld ⊢
  refine yq_ (i := 0) (N := some 58) bq_72 (any_of HT_.out (by kernel_rfl)) ?_
  refine yq_ (i := 4) (N := some 62) #[true, false, false, false, true, false, false, false] (any_of HT_.out (by kernel_rfl)) ?_
  refine tk_ (i := 1) (N := some 59) #[true, true, false, false, true, false, false, false] (take_ofW HT_.out HW_.out (by kernel_rfl)) hHeld ?_
  refine tk_ (i := 5) (N := some 63) #[true, true, false, false, true, true, false, false] (take_ofW HT_.out HW_.out (by kernel_rfl)) hHeld ?_
  refine one_ (i := 2) (N := some 60) #[true, true, true, false, true, true, false, false] rfl rfl (one_of HT_.out (by kernel_rfl)) (by decide) (fun K hK => ?_)
  refine goes_ Try.func44 (by kernel_rfl) rfl #[.slice A1_1 l1_1.length c1_1, .int .i64 2] (by rfl) rfl rfl tq_1 ?_
  with_reducible refine (impl_PagesWith.calls k2 _ _ l1_1 2 t370 _ ?side1 ?side2 A65.out).mono ?_
  (case side1 => exact tq_21)
  (case side2 => exact HC1_1.out)
  rintro e w67 ⟨v371, rfl, ho0, hb⟩
  refine ⟨_, rfl, ?_⟩
  have z_ := p_ (Kd.R_lower ho0 (below_size tq_7)) <| p_ (blk_below tq_24 hb) <| p_ (blk_below tq_28 hb) <| a_ (below_step tq_7 hb)
  clear BK364 BK365 HB
  obtain ⟨HO372, BK364, BK365, HB⟩ := z_
  (try clear hb)
  (try clear hb2)
  (try clear hk)
  (try clear hi)
  (try clear ho0)
  obtain ⟨Ao68, co68, eo68⟩ := Kd.R_slice HO372.out
  (first | subst eo68 | (injection eo68 with f1_ f2_ f3_; have f4_ := f1_.symm; have f5_ := f3_.symm; clear f1_ f2_ f3_; subst f4_; subst f5_))
  refine hK.out _ _ (bc3_ BK365.out (bk4_ BK364.out)) (fun hHeld => ?_)
  clear hK K
  refine nm_ (some 60) ?_
  refine yq_ (i := 3) (N := some 61) bq_73 (any_of HT_.out (by kernel_rfl)) ?_
  refine yq_ (i := 6) (N := some 64) bq_74 (any_of HT_.out (by kernel_rfl)) ?_
  refine yq_ (i := 7) (N := some 4) bq_75 (any_of HT_.out (by kernel_rfl)) ?_
  refine done_ (done_of HT_.out (by kernel_rfl)) ?_
  try go_wp2
  go_ret
  exact ⟨tq_2, tq_7⟩
 rw [if_pos c38] at H
 have c38b0 := decide_eq_true c38
 clear c38
 have HC39 := Aside0.mk H
 clear H
 go_upto_region 7 with (fail)
 go_cut [51] (fun v51 wc => ∃ (kq : Nat) (x51_38 : Bool), v51 = .bool x51_38 ∧ Aside0 (impl_PartOk.j2 kq x37_2 0 x37_2 x51_38 a0_0 a0_1 a0_2 a0_3 a1_0 l1_1 l1_2 = some r) ∧ Aside0 (kq ≤ k2) ∧ Aside0 (wc.heap[gb364]? = some (.cells #[.int .i64 a0_0, .int .i64 a0_1, .int .i64 a0_2, .int .i64 a0_3] 30 (0, 0))) ∧ Aside0 (wc.heap[gb365]? = some (.cells #[.int .i64 a1_0, (.slice A1_1 l1_1.length c1_1), (.slice A1_2 l1_2.length c1_2)] 34 (0, 0))) ∧ Aside0 (Below w.heap.size w wc))
 case first =>
  have H := HC39.out
  clear HC39
  by_cases c40 : x37_2 < a0_1
  rotate_left
  ·rw [if_neg c40] at H
   have c40b0 := decide_eq_false c40
   clear c40
   (first | rw [c40b0] | (simp only [i64_w, i32_w]; rw [c40b0]) | skip)
   have H' := Aside0.mk H
   clear H
   have hnb46 := NB364_365.out
   have hnc46 := NB365_364.out
   obtain ⟨hcz47_0, hcz47_1, hcz47_2, hcz47_3⟩ := bk4_ BK364.out
   obtain ⟨hfz47_0, hfz47_1, hfz47_2, hfz47_3⟩ := bf4_ BK364.out
   go_wp2
   go_meet
   case rel => exact ⟨_, (false), tq_4, H', ⟨tq_153⟩, ⟨tq_24⟩, ⟨tq_28⟩, ⟨tq_7⟩⟩
  rw [if_pos c40] at H
  have c40b0 := decide_eq_true c40
  clear c40
  (first | rw [c40b0] | (simp only [i64_w, i32_w]; rw [c40b0]) | skip)
  by_cases c41 : 0 ≤ x37_2
  rotate_left
  ·rw [if_neg c41] at H
   exact absurd H (by simp)
  rw [if_pos c41] at H
  have c41b0 := decide_eq_true c41
  clear c41
  by_cases c42 : x37_2 < (l1_1.length : Int)
  rotate_left
  ·rw [if_neg c42] at H
   exact absurd H (by simp)
  rw [if_pos c42] at H
  have c42b0 := decide_eq_true c42
  clear c42
  have H' := Aside0.mk H
  clear H
  have hnb43 := NB364_365.out
  have hnc43 := NB365_364.out
  obtain ⟨hcz44_0, hcz44_1, hcz44_2, hcz44_3⟩ := bk4_ BK364.out
  obtain ⟨hfz44_0, hfz44_1, hfz44_2, hfz44_3⟩ := bf4_ BK364.out
  obtain ⟨hcz45_0, hcz45_1, hcz45_2⟩ := bk3_ BK365.out
  obtain ⟨hfz45_0, hfz45_1, hfz45_2⟩ := bf3_ BK365.out
  have p373 : 0 ≤ (x37_2 : Int) := of_decide_eq_true tq_3
  have q373 : x37_2 < (l1_1.length : Int) := of_decide_eq_true tq_3
  obtain ⟨ad373, e373, hx373_0⟩ := Kd.at_int HR1_1.out x37_2 p373 q373
  cases e373
  replace hx373_0 := hx_ HB.out hx373_0
  replace p373 := eq_true p373
  replace q373 := eq_true q373
  go_wp2
  go_meet
  case rel => exact ⟨_, (((rd l1_1 x37_2) == 2)), tq_4, H', ⟨tq_153⟩, ⟨tq_24⟩, ⟨tq_28⟩, ⟨tq_7⟩⟩
 case rest =>
 clear HC39
 try clear c1; try clear c2; try clear p2; try clear c3; try clear p3; try clear q3; try clear hx3; try clear c4; try clear c7; try clear c9; try clear c10; try clear c11; try clear c12; try clear c12b0; try clear c12b1; try clear c14; try clear c20; try clear c25; try clear c30; try clear c34; try clear c37; try clear p37; try clear q37; try clear hx37; try clear c38; try clear c38b0; try clear c39; try clear c40; try clear c40b0; try clear c41; try clear c41b0; try clear c42; try clear c42b0; try clear c43; try clear c46; try clear hcz15_0 hcz15_1 hcz15_2 hcz15_3; try clear hcz17_0 hcz17_1 hcz17_2; try clear hcz18_0 hcz18_1 hcz18_2 hcz18_3; try clear hcz21_0 hcz21_1 hcz21_2 hcz21_3; try clear hcz23_0 hcz23_1 hcz23_2; try clear hcz24_0 hcz24_1 hcz24_2 hcz24_3; try clear hcz26_0 hcz26_1 hcz26_2 hcz26_3; try clear hcz28_0 hcz28_1 hcz28_2; try clear hcz29_0 hcz29_1 hcz29_2 hcz29_3; try clear hcz31_0 hcz31_1 hcz31_2 hcz31_3; try clear hcz33_0 hcz33_1 hcz33_2; try clear hcz35_0 hcz35_1 hcz35_2 hcz35_3; try clear hcz44_0 hcz44_1 hcz44_2 hcz44_3; try clear hcz45_0 hcz45_1 hcz45_2; try clear hcz47_0 hcz47_1 hcz47_2 hcz47_3; try clear hfz15_0 hfz15_1 hfz15_2 hfz15_3; try clear hfz17_0 hfz17_1 hfz17_2; try clear hfz18_0 hfz18_1 hfz18_2 hfz18_3; try clear hfz21_0 hfz21_1 hfz21_2 hfz21_3; try clear hfz23_0 hfz23_1 hfz23_2; try clear hfz24_0 hfz24_1 hfz24_2 hfz24_3; try clear hfz26_0 hfz26_1 hfz26_2 hfz26_3; try clear hfz28_0 hfz28_1 hfz28_2; try clear hfz29_0 hfz29_1 hfz29_2 hfz29_3; try clear hfz31_0 hfz31_1 hfz31_2 hfz31_3; try clear hfz33_0 hfz33_1 hfz33_2; try clear hfz35_0 hfz35_1 hfz35_2 hfz35_3; try clear hfz44_0 hfz44_1 hfz44_2 hfz44_3; try clear hfz45_0 hfz45_1 hfz45_2; try clear hfz47_0 hfz47_1 hfz47_2 hfz47_3; try clear hx373_0; try clear p2; try clear p373; try clear q373
 obtain ⟨kq, x51_38, rfl, HA, HJ38, BK364, BK365, HB⟩ := hcut
 cases kq with
 | zero => exact absurd HA.out (by simp [impl_PartOk.j2])
 | succ kj38 =>
 have H := HA.out
 clear HA
 simp only [impl_PartOk.j2] at H
 by_cases c48 : x51_38 = true
 ·subst c48
  have H1 : ((impl_UsersOf.f kj38 a1_0 l1_1 l1_2 x37_2).bind fun t374 => (if t374 = 1 then (impl_PartOk.l0 kj38 (wrap64 (x37_2 + 1)) a0_0 a0_1 a0_2 a0_3 a1_0 l1_1 l1_2) else (some false))) = some r := by rw [if_pos rfl] at H; exact H
  clear H
  have H := H1
  clear H1
  replace H := Option.bind_eq_some_iff.mp H
  obtain ⟨t374, A490, H⟩ := H
  replace H : (if t374 = 1 then (impl_PartOk.l0 kj38 (wrap64 (x37_2 + 1)) a0_0 a0_1 a0_2 a0_3 a1_0 l1_1 l1_2) else (some false)) = some r := H
  have A49 := Aside0.mk A490
  clear A490
  by_cases c50 : t374 = 1
  rotate_left
  ·rw [if_neg c50] at H
   have c50b0 := beq_eq_false_iff_ne.mpr c50
   have c50b1 := bne_iff_ne.mpr c50
   obtain rfl := Option.some.inj H
   have hnb54 := NB365_364.out
   have hnc54 := NB364_365.out
   obtain ⟨hcz55_0, hcz55_1, hcz55_2⟩ := bk3_ BK365.out
   obtain ⟨hfz55_0, hfz55_1, hfz55_2⟩ := bf3_ BK365.out
   go_wp2_with (first | ((with_reducible refine gate_callee (f := 43) rfl ?_); refine goesL_ (some 54) rfl rfl Try.func43 (by kernel_rfl) rfl #[.agg #[.int .i64 a1_0, .slice A1_1 l1_1.length c1_1, .slice A1_2 l1_2.length c1_2], .int .i64 x37_2] rfl tq_1 ?_; (with_reducible refine (impl_UsersOf.calls kj38 a1_0 _ _ l1_1 _ _ l1_2 x37_2 t374 _ ?side1 ?side2 ?side3 ?side4 A49.out).mono ?_); (case side1 => exact tq_21); (case side2 => exact HC1_1.out); (case side3 => exact tq_30); (case side4 => exact HC1_2.out); rintro e w56 ⟨rfl, hb⟩; refine ⟨_, rfl, ?_⟩; have z_ := p_ (blk_below tq_24 hb) <| p_ (blk_below tq_28 hb) <| a_ (below_step tq_7 hb); clear BK364 BK365 HB; obtain ⟨BK364, BK365, HB⟩ := z_; (try clear hb); (try clear hb2); (try clear hk); (try clear hi)))
   go_ret
   exact ⟨tq_2, tq_7⟩
  rw [if_pos c50] at H
  have c50b0 := beq_iff_eq.mpr c50
  have c50b1 := bne_eq_false_iff_eq.mpr c50
  clear c50
  have H' := Aside0.mk H
  clear H
  have hnb51 := NB365_364.out
  have hnc51 := NB364_365.out
  obtain ⟨hcz52_0, hcz52_1, hcz52_2⟩ := bk3_ BK365.out
  obtain ⟨hfz52_0, hfz52_1, hfz52_2⟩ := bf3_ BK365.out
  go_wp2_with (first | ((with_reducible refine gate_callee (f := 43) rfl ?_); refine goesL_ (some 54) rfl rfl Try.func43 (by kernel_rfl) rfl #[.agg #[.int .i64 a1_0, .slice A1_1 l1_1.length c1_1, .slice A1_2 l1_2.length c1_2], .int .i64 x37_2] rfl tq_1 ?_; (with_reducible refine (impl_UsersOf.calls kj38 a1_0 _ _ l1_1 _ _ l1_2 x37_2 t374 _ ?side1 ?side2 ?side3 ?side4 A49.out).mono ?_); (case side1 => exact tq_21); (case side2 => exact HC1_1.out); (case side3 => exact tq_30); (case side4 => exact HC1_2.out); rintro e w53 ⟨rfl, hb⟩; refine ⟨_, rfl, ?_⟩; have z_ := p_ (blk_below tq_24 hb) <| p_ (blk_below tq_28 hb) <| a_ (below_step tq_7 hb); clear BK364 BK365 HB; obtain ⟨BK364, BK365, HB⟩ := z_; (try clear hb); (try clear hb2); (try clear hk); (try clear hi)))
  go_roundg kj38
  case measure => have := HJ2.out; have := HK2.out; have := HJ38.out; omega
  case rel => exact ⟨(wrap64 (x37_2 + 1)), tq_4, H', ⟨(by have := HJ2.out; have := HK2.out; have := HJ38.out; omega)⟩, ⟨tq_24⟩, ⟨tq_28⟩, ⟨tq_7⟩⟩
 replace c48 := Bool.eq_false_iff.mpr c48
 subst c48
 have H1 : ((impl_UsersOf.f kj38 a1_0 l1_1 l1_2 x37_2).bind fun t375 => (if t375 = 0 then (impl_PartOk.l0 kj38 (wrap64 (x37_2 + 1)) a0_0 a0_1 a0_2 a0_3 a1_0 l1_1 l1_2) else (some false))) = some r := by rw [if_neg (show ¬ (false = true) by decide)] at H; exact H
 clear H
 have H := H1
 clear H1
 replace H := Option.bind_eq_some_iff.mp H
 obtain ⟨t375, A570, H⟩ := H
 replace H : (if t375 = 0 then (impl_PartOk.l0 kj38 (wrap64 (x37_2 + 1)) a0_0 a0_1 a0_2 a0_3 a1_0 l1_1 l1_2) else (some false)) = some r := H
 have A57 := Aside0.mk A570
 clear A570
 by_cases c58 : t375 = 0
 rotate_left
 ·rw [if_neg c58] at H
  have c58b0 := beq_eq_false_iff_ne.mpr c58
  have c58b1 := bne_iff_ne.mpr c58
  obtain rfl := Option.some.inj H
  have hnb62 := NB365_364.out
  have hnc62 := NB364_365.out
  obtain ⟨hcz63_0, hcz63_1, hcz63_2⟩ := bk3_ BK365.out
  obtain ⟨hfz63_0, hfz63_1, hfz63_2⟩ := bf3_ BK365.out
  go_wp2_with (first | ((with_reducible refine gate_callee (f := 43) rfl ?_); refine goesL_ (some 54) rfl rfl Try.func43 (by kernel_rfl) rfl #[.agg #[.int .i64 a1_0, .slice A1_1 l1_1.length c1_1, .slice A1_2 l1_2.length c1_2], .int .i64 x37_2] rfl tq_1 ?_; (with_reducible refine (impl_UsersOf.calls kj38 a1_0 _ _ l1_1 _ _ l1_2 x37_2 t375 _ ?side1 ?side2 ?side3 ?side4 A57.out).mono ?_); (case side1 => exact tq_21); (case side2 => exact HC1_1.out); (case side3 => exact tq_30); (case side4 => exact HC1_2.out); rintro e w64 ⟨rfl, hb⟩; refine ⟨_, rfl, ?_⟩; have z_ := p_ (blk_below tq_24 hb) <| p_ (blk_below tq_28 hb) <| a_ (below_step tq_7 hb); clear BK364 BK365 HB; obtain ⟨BK364, BK365, HB⟩ := z_; (try clear hb); (try clear hb2); (try clear hk); (try clear hi)))
  go_ret
  exact ⟨tq_2, tq_7⟩
 rw [if_pos c58] at H
 have c58b0 := beq_iff_eq.mpr c58
 have c58b1 := bne_eq_false_iff_eq.mpr c58
 clear c58
 have H' := Aside0.mk H
 clear H
 have hnb59 := NB365_364.out
 have hnc59 := NB364_365.out
 obtain ⟨hcz60_0, hcz60_1, hcz60_2⟩ := bk3_ BK365.out
 obtain ⟨hfz60_0, hfz60_1, hfz60_2⟩ := bf3_ BK365.out
 go_wp2_with (first | ((with_reducible refine gate_callee (f := 43) rfl ?_); refine goesL_ (some 54) rfl rfl Try.func43 (by kernel_rfl) rfl #[.agg #[.int .i64 a1_0, .slice A1_1 l1_1.length c1_1, .slice A1_2 l1_2.length c1_2], .int .i64 x37_2] rfl tq_1 ?_; (with_reducible refine (impl_UsersOf.calls kj38 a1_0 _ _ l1_1 _ _ l1_2 x37_2 t375 _ ?side1 ?side2 ?side3 ?side4 A57.out).mono ?_); (case side1 => exact tq_21); (case side2 => exact HC1_1.out); (case side3 => exact tq_30); (case side4 => exact HC1_2.out); rintro e w61 ⟨rfl, hb⟩; refine ⟨_, rfl, ?_⟩; have z_ := p_ (blk_below tq_24 hb) <| p_ (blk_below tq_28 hb) <| a_ (below_step tq_7 hb); clear BK364 BK365 HB; obtain ⟨BK364, BK365, HB⟩ := z_; (try clear hb); (try clear hb2); (try clear hk); (try clear hi)))
 go_roundg kj38
 case measure => have := HJ2.out; have := HK2.out; have := HJ38.out; omega
 case rel => exact ⟨(wrap64 (x37_2 + 1)), tq_4, H', ⟨(by have := HJ2.out; have := HK2.out; have := HJ38.out; omega)⟩, ⟨tq_24⟩, ⟨tq_28⟩, ⟨tq_7⟩⟩

end Go.Proofs.Ytljnnmpfeningaa.PFnExactPartOk
