/- Contracts of Go functions, written by a program of ours over the print of the kit: each says that the call returns what the Lean function beside it computes. Conditions: as each theorem states them. -/
import Derived.Test.YtljnnmpfeningaaPkFnExactPartOk
import Derived.Test.YtljnnmpfeningaaPFnExactPartOkx0
import Derived.Test.YtljnnmpfeningaaPFnExactPartOkx10
import Derived.Test.YtljnnmpfeningaaPFnExactPartOkx14
namespace Go.Proofs.Ytljnnmpfeningaa.PFnExactPartOk
open Go.RowKit Go.Proofs.YtljnnmpfeningaaW.PrintWords Go.Proofs.YtljnnmpfeningaaW.PrintLast Go.Proofs.YtljnnmpfeningaaW.PrintMore
attribute [local go_sem] max2_int min2_int max_two min_two max_three min_three max_four min_four   -- for this text's walks alone
set_option linter.unusedVariables false
set_option linter.unusedSimpArgs false

/-! ### impl_upwards: function 104 -/
def impl_upwards.l0 : Nat → Int → List ByteArray → Int → List Int → List (S64) → Option (List ByteArray × Bool)
 | 0, _, _, _, _, _ => none
 | k + 1, x1, x6, x330000, x330001, x330002 => if x1 = 0 then ((slices_Reverse_string.f k x6).bind fun t333 => (some (t333, true))) else ((impl_above.f k x330000 x330001 x330002 x1).bind fun bt334 => (if bt334.2.2 = true then (if (x6.length : Int) = (x330002.length : Int) then (some (([] : List ByteArray), false)) else (if x6.length < 8796093022208 then (impl_upwards.l0 k bt334.1 (x6 ++ [bt334.2.1]) x330000 x330001 x330002) else (none))) else (some (([] : List ByteArray), false))))
def impl_upwards.f (k : Nat) (a0_0 : Int) (l0_1 : List Int) (l0_2 : List (S64)) (a1 : Int) : Option (List ByteArray × Bool) := impl_upwards.l0 k a1 (([] : List ByteArray)) a0_0 l0_1 l0_2
theorem impl_upwards.mono_l : ∀ k, (∀ y0 y1 y2 y3 y4, LeO (impl_upwards.l0 k y0 y1 y2 y3 y4) (impl_upwards.l0 (k + 1) y0 y1 y2 y3 y4))
 | 0 => fun _ _ _ _ _ r h => by simp [impl_upwards.l0] at h
 | k + 1 => by
  have ih0 := impl_upwards.mono_l k
  ·intro y0 y1 y2 y3 y4
   unfold impl_upwards.l0
   repeat' first
   | (with_reducible exact ih0 ..)
   | (with_reducible exact impl_above.mono ..)
   | (with_reducible exact slices_Reverse_string.mono ..)
   | (with_reducible exact LeO.refl _)
   | (with_reducible exact LeO.none _)
   | (with_reducible refine LeO.ite ?_ ?_)
   | (with_reducible refine LeO.bind ?_ (fun _ => ?_))
   | exact ih0 ..
   | exact impl_above.mono ..
   | exact slices_Reverse_string.mono ..
   | exact LeO.none _
   | refine LeO.ite ?_ ?_
   | refine LeO.bind ?_ (fun _ => ?_)
theorem impl_upwards.mono : ∀ a0 a1 a2 a3 k, LeO (impl_upwards.f k a0 a1 a2 a3) (impl_upwards.f (k + 1) a0 a1 a2 a3) := by
 intro a0 a1 a2 a3 k
 have ih0 := impl_upwards.mono_l k
 unfold impl_upwards.f
 repeat' first
   | (with_reducible exact ih0 ..)
   | (with_reducible exact impl_above.mono ..)
   | (with_reducible exact slices_Reverse_string.mono ..)
   | (with_reducible exact LeO.refl _)
   | (with_reducible exact LeO.none _)
   | (with_reducible refine LeO.ite ?_ ?_)
   | (with_reducible refine LeO.bind ?_ (fun _ => ?_))
   | exact ih0 ..
   | exact impl_above.mono ..
   | exact slices_Reverse_string.mono ..
   | exact LeO.none _
   | refine LeO.ite ?_ ?_
   | refine LeO.bind ?_ (fun _ => ?_)
set_option maxHeartbeats 8000000 in
set_option maxRecDepth 100000 in
theorem impl_upwards.calls (k : Nat) (a0_0 : Int) (A0_1 : Option Addr) (c0_1 : Nat) (l0_1 : List Int) (A0_2 : Option Addr) (c0_2 : Nat) (l0_2 : List (S64)) (a1 : Int) (r1 : List ByteArray) (r2 : Bool) (w : World) (hr0_1 : Kd.C (Kd.int .i64) w A0_1 l0_1.length l0_1) (hc0_1 : l0_1.length ≤ c0_1) (hr0_2 : Kd.C k64 w A0_2 l0_2.length l0_2) (hc0_2 : l0_2.length ≤ c0_2) (h : impl_upwards.f k a0_0 l0_1 l0_2 a1 = some (r1, r2)) :
  Calls Try.prog 104 #[.agg #[.int .i64 a0_0, .slice A0_1 l0_1.length c0_1, .slice A0_2 l0_2.length c0_2], .int .i64 a1] w fun e w' => ∃ v0_ : Value, e = .returned (.tuple #[v0_, .bool r2]) ∧ Kd.R Kd.string 9 w' w.heap.size (fun _ => True) v0_ r1 ∧ Below w.heap.size w w' := by
 have hu34 := Try.underlying34
 have HR0_1 := Aside0.mk hr0_1
 have HC0_1 := Aside0.mk hc0_1
 clear hr0_1 hc0_1
 have HR0_2 := Aside0.mk hr0_2
 have HC0_2 := Aside0.mk hc0_2
 clear hr0_2 hc0_2
 have HB := Aside0.mk (Below.refl w.heap.size w)
 have H : (impl_upwards.l0 k a1 (([] : List ByteArray)) a0_0 l0_1 l0_2) = some (r1, r2) := h
 clear h
 obtain ⟨y330, hy330⟩ : ∃ y_ : List ByteArray, y_ = (([] : List ByteArray)) := ⟨_, rfl⟩
 replace H : (impl_upwards.l0 k a1 y330 a0_0 l0_1 l0_2) = some (r1, r2) := by first | (rw [hy330]; with_reducible exact H) | (have H2_ := (Option.bind_some _ _).symm.trans H; rw [hy330]; with_reducible exact H2_) | (have H2_ := (Option.bind_some _ _).symm.trans H; with_reducible exact H2_) | with_reducible exact H | (rw [hy330]; exact H) | exact H
 have Ny330 := Aside0.mk hy330
 clear hy330
 have H' := Aside0.mk H
 clear H
 go_enter Try.func104, Try.ntmps104
 go_wp2_with (first | ((with_reducible refine gate_dst (N := 2) rfl ?_); (try (refine gate_guard (by rfl) ?_; dsimp only)); refine box_event ?hg (N := 2) ?hd (cs := #[.int .i64 a0_0, .slice A0_1 l0_1.length c0_1, .slice A0_2 l0_2.length c0_2]) (t := 34) ?hr ?_; (case hd => rfl); (case hg => rfl); (case hr => first | (go_simp; done) | (go_simp; rfl)); intro gb329 hg w3 hbox hb; have z_ := p_ (below_step tq_0 hb) <| p_ (hbox) <| p_ (gb_ hg tq_0) <| a_ (gb_ hg tq_0); clear HB; obtain ⟨HB, BK329, GW329, GE329⟩ := z_; clear hb hbox hg) | ((with_reducible refine gate_dst (N := 10) rfl ?_); (try (refine gate_guard (by rfl) ?_; dsimp only)); refine Kd.R_lit Kd.string _ 9 ?hg (N := 10) ?hd (xs := ([] : List ByteArray)) (inner := []) (ok := fun _ => True) (okp := fun _ => True) ?hr ?hp (fun _ hk => hk) trivial (Below.refl _ _) (Nat.le_refl _) (by simp) ?_; (case hd => rfl); (case hg => rfl); (case hr => first | (go_simp; done) | (go_simp; rfl)); (case hp => exact (Reps.none _ _)); intro v331 w4 ho5 hb hg_ hnew_; clear hg_ hnew_; (first | rw [← Ny330.out] at ho5 | (simp only [Int.reduceToNat] at ho5; rw [← Ny330.out] at ho5)); have z_ := p_ (Kd.R_lower ho5 (below_size tq_43)) <| p_ (blk_below tq_81 hb) <| a_ (below_step tq_43 hb); clear BK329 HB; obtain ⟨HO332, BK329, HB⟩ := z_; clear hb ho5))
 go_loopg [1, 6] k (fun kq v1 v6 w' => ∃ (x1_1 : Int) (x6_1 : List ByteArray), v1 = .int .i64 x1_1 ∧ Aside0 (impl_upwards.l0 kq x1_1 x6_1 a0_0 l0_1 l0_2 = some (r1, r2)) ∧ Aside0 (kq ≤ k) ∧ Aside0 (Kd.R Kd.string 9 w' w.heap.size (fun _ => True) v6 x6_1) ∧ Aside0 (w'.heap[gb329]? = some (.cells #[.int .i64 a0_0, (.slice A0_1 l0_1.length c0_1), (.slice A0_2 l0_2.length c0_2)] 34 (0, 0))) ∧ Aside0 (Below w.heap.size w w'))
 case atStart => exact ⟨(a1), (y330), tq_4, H', ⟨Nat.le_refl _⟩, ⟨(by (with_reducible repeat (first | apply Kd.R_alloc | apply Kd.R_drewN | apply Kd.R_drew)); exact HO332.out)⟩, ⟨tq_81⟩, ⟨tq_43⟩⟩
 case round =>
 clear H'
 try clear c1; try clear p2
 obtain ⟨x1_1, x6_1, rfl, HA, HK1, HO_6, BK329, HB⟩ := hrel
 cases gk with
 | zero => exact absurd HA.out (by simp [impl_upwards.l0])
 | succ k1 =>
 have H := HA.out
 clear HA
 simp only [impl_upwards.l0] at H
 by_cases c6 : x1_1 = 0
 ·rw [if_pos c6] at H
  have c6b0 := beq_iff_eq.mpr c6
  have c6b1 := bne_eq_false_iff_eq.mpr c6
  clear c6
  replace H := Option.bind_eq_some_iff.mp H
  obtain ⟨t333, A70, H⟩ := H
  replace H : (some (t333, true)) = some (r1, r2) := H
  have A7 := Aside0.mk A70
  clear A70
  simp only [Option.some.injEq, Prod.mk.injEq] at H
  obtain ⟨rfl, rfl⟩ := H
  obtain ⟨Ao8, co8, eo8⟩ := Kd.R_slice HO_6.out
  subst eo8
  go_wp2_with (first | ((with_reducible refine gate_callee (f := 120) rfl ?_); refine goesL_ (some 36) rfl rfl Try.func120 (by kernel_rfl) rfl #[.slice Ao8 x6_1.length co8] rfl tq_1 ?_; (with_reducible refine (slices_Reverse_string.calls k1 (fun k_ => some k_ = (.slice Ao8 x6_1.length co8 : Value).ownBlock) (.slice Ao8 x6_1.length co8) x6_1 t333 w _ ?side1 ?side2 A7.out).mono ?_); (case side1 => repeat (first | (with_reducible first | exact HB.out | apply below_alloc | apply pw_below_drewN | apply below_drew1 | refine below_set ?_ GE329.out) | exact HB.out)); (case side2 => exact Kd.R_tight rfl HO_6.out); rintro e w9 ⟨rfl, hy0, hb, hkp⟩; refine ⟨_, rfl, ?_⟩; have z_ := p_ (Kd.R_reok rfl hy0 (fun k_ e_ => HO_6.out.1 k_ e_)) <| p_ (blk_kept tq_81 hkp (fun hs_ => (fun e_ => (Kd.R_ne HO_6.out BK329.out (by decide)) e_) hs_)) <| a_ (hb); clear HO_6 BK329 HB; obtain ⟨HO_6, BK329, HB⟩ := z_; (try clear hb); (try clear hkp); (try clear hy0)))
  go_ret2
  exact ⟨_, tq_2, tq_116, tq_43⟩
 rw [if_neg c6] at H
 have c6b0 := beq_eq_false_iff_ne.mpr c6
 have c6b1 := bne_iff_ne.mpr c6
 replace H := Option.bind_eq_some_iff.mp H
 obtain ⟨⟨t334, t335, t336⟩, A100, H⟩ := H
 replace H : (if t336 = true then (if (x6_1.length : Int) = (l0_2.length : Int) then (some (([] : List ByteArray), false)) else (if x6_1.length < 8796093022208 then (impl_upwards.l0 k1 t334 (x6_1 ++ [t335]) a0_0 l0_1 l0_2) else (none))) else (some (([] : List ByteArray), false))) = some (r1, r2) := H
 have A10 := Aside0.mk A100
 clear A100
 by_cases c11 : t336 = true
 rotate_left
 ·replace c11 := Bool.eq_false_iff.mpr c11
  subst c11
  have H1 : (some (([] : List ByteArray), false)) = some (r1, r2) := by rw [if_neg (show ¬ (false = true) by decide)] at H; exact H
  clear H
  have H := H1
  clear H1
  simp only [Option.some.injEq, Prod.mk.injEq] at H
  obtain ⟨rfl, rfl⟩ := H
  obtain ⟨hcz23_0, hcz23_1, hcz23_2⟩ := bk3_ BK329.out
  obtain ⟨hfz23_0, hfz23_1, hfz23_2⟩ := bf3_ BK329.out
  go_wp2_with (first | ((with_reducible refine gate_callee (f := 119) rfl ?_); refine goesL_ (some 16) rfl rfl Try.func119 (by kernel_rfl) rfl #[.agg #[.int .i64 a0_0, .slice A0_1 l0_1.length c0_1, .slice A0_2 l0_2.length c0_2], .int .i64 x1_1] rfl tq_1 ?_; (with_reducible refine (impl_above.calls k1 a0_0 _ _ l0_1 _ _ l0_2 x1_1 t334 t335 false _ ?side1 ?side2 ?side3 ?side4 A10.out).mono ?_); (case side1 => exact tq_31); (case side2 => exact HC0_1.out); (case side3 => exact tq_54); (case side4 => exact HC0_2.out); rintro e w24 ⟨rfl, hb⟩; refine ⟨_, rfl, ?_⟩; have z_ := p_ (Kd.R_below tq_116 hb) <| p_ (blk_below tq_81 hb) <| a_ (below_step tq_43 hb); clear HO_6 BK329 HB; obtain ⟨HO_6, BK329, HB⟩ := z_; (try clear hb); (try clear hb2); (try clear hk); (try clear hi)))
  go_ret2
  exact ⟨_, tq_2, tq_176, tq_43⟩
 subst c11
 have H1 : (if (x6_1.length : Int) = (l0_2.length : Int) then (some (([] : List ByteArray), false)) else (if x6_1.length < 8796093022208 then (impl_upwards.l0 k1 t334 (x6_1 ++ [t335]) a0_0 l0_1 l0_2) else (none))) = some (r1, r2) := by rw [if_pos rfl] at H; exact H
 clear H
 have H := H1
 clear H1
 by_cases c12 : (x6_1.length : Int) = (l0_2.length : Int)
 ·rw [if_pos c12] at H
  have c12b0 := beq_iff_eq.mpr c12
  have c12b1 := bne_eq_false_iff_eq.mpr c12
  have c12b2 : (x6_1.length == l0_2.length) = true := by first | simpa using c12 | (simp at c12 ⊢; omega)
  clear c12
  simp only [Option.some.injEq, Prod.mk.injEq] at H
  obtain ⟨rfl, rfl⟩ := H
  obtain ⟨hcz13_0, hcz13_1, hcz13_2⟩ := bk3_ BK329.out
  obtain ⟨hfz13_0, hfz13_1, hfz13_2⟩ := bf3_ BK329.out
  go_wp2_with (first | ((with_reducible refine gate_callee (f := 119) rfl ?_); refine goesL_ (some 16) rfl rfl Try.func119 (by kernel_rfl) rfl #[.agg #[.int .i64 a0_0, .slice A0_1 l0_1.length c0_1, .slice A0_2 l0_2.length c0_2], .int .i64 x1_1] rfl tq_1 ?_; (with_reducible refine (impl_above.calls k1 a0_0 _ _ l0_1 _ _ l0_2 x1_1 t334 t335 true _ ?side1 ?side2 ?side3 ?side4 A10.out).mono ?_); (case side1 => exact tq_31); (case side2 => exact HC0_1.out); (case side3 => exact tq_54); (case side4 => exact HC0_2.out); rintro e w14 ⟨rfl, hb⟩; refine ⟨_, rfl, ?_⟩; have z_ := p_ (Kd.R_below tq_116 hb) <| p_ (blk_below tq_81 hb) <| a_ (below_step tq_43 hb); clear HO_6 BK329 HB; obtain ⟨HO_6, BK329, HB⟩ := z_; (try clear hb); (try clear hb2); (try clear hk); (try clear hi); obtain ⟨Ao15, co15, eo15⟩ := Kd.R_slice HO_6.out; subst eo15; obtain ⟨hcz16_0, hcz16_1, hcz16_2⟩ := bk3_ BK329.out; obtain ⟨hfz16_0, hfz16_1, hfz16_2⟩ := bf3_ BK329.out))
  go_ret2
  exact ⟨_, tq_2, tq_176, tq_43⟩
 rw [if_neg c12] at H
 have c12b0 := beq_eq_false_iff_ne.mpr c12
 have c12b1 := bne_iff_ne.mpr c12
 have c12b2 : (x6_1.length == l0_2.length) = false := by first | simpa using c12 | (simp at c12 ⊢; omega)
 by_cases c17 : x6_1.length < 8796093022208
 rotate_left
 ·rw [if_neg c17] at H
  exact absurd H (by simp)
 rw [if_pos c17] at H
 have LMc17 := Aside0.mk c17
 clear c17
 obtain ⟨y337, hy337⟩ : ∃ y_ : List ByteArray, y_ = (x6_1 ++ [t335]) := ⟨_, rfl⟩
 replace H : (impl_upwards.l0 k1 t334 y337 a0_0 l0_1 l0_2) = some (r1, r2) := by first | (rw [hy337]; with_reducible exact H) | (have H2_ := (Option.bind_some _ _).symm.trans H; rw [hy337]; with_reducible exact H2_) | (have H2_ := (Option.bind_some _ _).symm.trans H; with_reducible exact H2_) | with_reducible exact H | (rw [hy337]; exact H) | exact H
 have Ny337 := Aside0.mk hy337
 clear hy337
 have H' := Aside0.mk H
 clear H
 obtain ⟨hcz18_0, hcz18_1, hcz18_2⟩ := bk3_ BK329.out
 obtain ⟨hfz18_0, hfz18_1, hfz18_2⟩ := bf3_ BK329.out
 go_wp2_with (first | ((with_reducible refine gate_callee (f := 119) rfl ?_); refine goesL_ (some 16) rfl rfl Try.func119 (by kernel_rfl) rfl #[.agg #[.int .i64 a0_0, .slice A0_1 l0_1.length c0_1, .slice A0_2 l0_2.length c0_2], .int .i64 x1_1] rfl tq_1 ?_; (with_reducible refine (impl_above.calls k1 a0_0 _ _ l0_1 _ _ l0_2 x1_1 t334 t335 true _ ?side1 ?side2 ?side3 ?side4 A10.out).mono ?_); (case side1 => exact tq_31); (case side2 => exact HC0_1.out); (case side3 => exact tq_54); (case side4 => exact HC0_2.out); rintro e w19 ⟨rfl, hb⟩; refine ⟨_, rfl, ?_⟩; have z_ := p_ (Kd.R_below tq_116 hb) <| p_ (blk_below tq_81 hb) <| a_ (below_step tq_43 hb); clear HO_6 BK329 HB; obtain ⟨HO_6, BK329, HB⟩ := z_; (try clear hb); (try clear hb2); (try clear hk); (try clear hi); obtain ⟨Ao20, co20, eo20⟩ := Kd.R_slice HO_6.out; subst eo20; obtain ⟨hcz21_0, hcz21_1, hcz21_2⟩ := bk3_ BK329.out; obtain ⟨hfz21_0, hfz21_1, hfz21_2⟩ := bf3_ BK329.out) | ((with_reducible refine gate_builtin (b := .append) (xs := #[.tmp 30, .tmp 32]) rfl ?_); (try (refine gate_guard (by rfl) ?_; dsimp only)); at_builtin; refine Kd.R_append Kd.string (w0 := w) w.heap.size rfl (.tmp 30) (.tmp 32) 109 9 (.string ⟨#[]⟩) 16 rfl Try.underlying109 info9 rfl (by decide) (by omega) (.slice Ao20 x6_1.length co20) x6_1 t335 [.string t335] (fun _ => True) (fun _ => False) rfl rfl ?aP (fun _ hk => hk.elim) ?aF ?aO ?aB ?aS ?aL ?_; (case aP => exact rfl); (case aB => exact tq_43); (case aF => exact (fun _ _ => trivial)); (case aO => exact tq_116); (case aS => exact (below_size tq_43)); (case aL => have := LMc17.out; omega); intro v338 w22 ho hb hg hat; rw [← Ny337.out] at ho; have z_ := p_ (blk_grown (g := gb329) (o := .cells #[.int .i64 a0_0, .slice A0_1 l0_1.length c0_1, .slice A0_2 l0_2.length c0_2] 34 (0, 0)) tq_81 hg (Kd.R_ne HO_6.out BK329.out (by decide))) <| p_ (hb) <| a_ (ho); clear BK329 HB HO_6; obtain ⟨BK329, HB, HO339⟩ := z_; clear ho hb hg hat))
 go_roundg k1
 case measure => have := HK1.out; omega
 case rel => exact ⟨(t334), (y337), tq_4, H', ⟨tq_93⟩, ⟨(by (with_reducible repeat (first | apply Kd.R_alloc | apply Kd.R_drewN | apply Kd.R_drew)); exact HO339.out)⟩, ⟨tq_81⟩, ⟨tq_43⟩⟩

/-! ### impl_DepthOf: function 78 -/
def impl_DepthOf.f (k : Nat) (a0_0 : Int) (l0_1 : List Int) (l0_2 : List (S64)) (a1 : Int) : Option (Int) := (impl_upwards.f k a0_0 l0_1 l0_2 a1).bind fun bt341 => (if bt341.2 = true then (some (bt341.1.length : Int)) else (some (-1)))
theorem impl_DepthOf.mono : ∀ a0 a1 a2 a3 k, LeO (impl_DepthOf.f k a0 a1 a2 a3) (impl_DepthOf.f (k + 1) a0 a1 a2 a3) := by
 intro a0 a1 a2 a3 k
 unfold impl_DepthOf.f
 repeat' first
   | (with_reducible exact impl_upwards.mono ..)
   | (with_reducible exact LeO.refl _)
   | (with_reducible exact LeO.none _)
   | (with_reducible refine LeO.ite ?_ ?_)
   | (with_reducible refine LeO.bind ?_ (fun _ => ?_))
   | exact impl_upwards.mono ..
   | exact LeO.none _
   | refine LeO.ite ?_ ?_
   | refine LeO.bind ?_ (fun _ => ?_)
set_option maxHeartbeats 8000000 in
set_option maxRecDepth 100000 in
theorem impl_DepthOf.calls (k : Nat) (a0_0 : Int) (A0_1 : Option Addr) (c0_1 : Nat) (l0_1 : List Int) (A0_2 : Option Addr) (c0_2 : Nat) (l0_2 : List (S64)) (a1 : Int) (r : Int) (w : World) (hr0_1 : Kd.C (Kd.int .i64) w A0_1 l0_1.length l0_1) (hc0_1 : l0_1.length ≤ c0_1) (hr0_2 : Kd.C k64 w A0_2 l0_2.length l0_2) (hc0_2 : l0_2.length ≤ c0_2) (h : impl_DepthOf.f k a0_0 l0_1 l0_2 a1 = some r) :
  Calls Try.prog 78 #[.agg #[.int .i64 a0_0, .slice A0_1 l0_1.length c0_1, .slice A0_2 l0_2.length c0_2], .int .i64 a1] w fun e w' => e = .returned (.int .i64 r) ∧ Below w.heap.size w w' := by
 have hu34 := Try.underlying34
 have HR0_1 := Aside0.mk hr0_1
 have HC0_1 := Aside0.mk hc0_1
 clear hr0_1 hc0_1
 have HR0_2 := Aside0.mk hr0_2
 have HC0_2 := Aside0.mk hc0_2
 clear hr0_2 hc0_2
 have HB := Aside0.mk (Below.refl w.heap.size w)
 have H : ((impl_upwards.f k a0_0 l0_1 l0_2 a1).bind fun bt341 => (if bt341.2 = true then (some (bt341.1.length : Int)) else (some (-1)))) = some r := h
 clear h
 replace H := Option.bind_eq_some_iff.mp H
 obtain ⟨⟨t341, t344⟩, A30, H⟩ := H
 replace H : (if t344 = true then (some (t341.length : Int)) else (some (-1))) = some r := H
 have A3 := Aside0.mk A30
 clear A30
 by_cases c4 : t344 = true
 ·subst c4
  have H1 : (some (t341.length : Int)) = some r := by rw [if_pos rfl] at H; exact H
  clear H
  have H := H1
  clear H1
  obtain rfl := Option.some.inj H
  go_enter Try.func78, Try.ntmps78
  go_wp2_with (first | ((with_reducible refine gate_dst (N := 2) rfl ?_); refine box_event ?hg (N := 2) ?hd (cs := #[.int .i64 a0_0, .slice A0_1 l0_1.length c0_1, .slice A0_2 l0_2.length c0_2]) (t := 34) ?hr ?_; (case hd => rfl); (case hg => rfl); (case hr => first | (go_simp; done) | (go_simp; rfl)); intro gb340 hg w5 hbox hb; have z_ := p_ (below_step tq_0 hb) <| p_ (hbox) <| p_ (gb_ hg tq_0) <| a_ (gb_ hg tq_0); clear HB; obtain ⟨HB, BK340, GW340, GE340⟩ := z_; clear hb hbox hg; obtain ⟨hcz6_0, hcz6_1, hcz6_2⟩ := bk3_ BK340.out; obtain ⟨hfz6_0, hfz6_1, hfz6_2⟩ := bf3_ BK340.out) | ((with_reducible refine gate_callee (f := 104) rfl ?_); refine goesL_ (some 10) rfl rfl Try.func104 (by kernel_rfl) rfl #[.agg #[.int .i64 a0_0, .slice A0_1 l0_1.length c0_1, .slice A0_2 l0_2.length c0_2], .int .i64 a1] rfl tq_1 ?_; (with_reducible refine (impl_upwards.calls k a0_0 _ _ l0_1 _ _ l0_2 a1 t341 true _ ?side1 ?side2 ?side3 ?side4 A3.out).mono ?_); (case side1 => exact tq_31); (case side2 => exact HC0_1.out); (case side3 => exact tq_54); (case side4 => exact HC0_2.out); rintro e w7 ⟨v342, rfl, ho0, hb⟩; refine ⟨_, rfl, ?_⟩; have z_ := p_ (Kd.R_lower ho0 (below_size tq_78)) <| p_ (blk_below (by (with_reducible repeat (first | refine blk_drewN ?_ _ | refine blk_drew ?_ | refine blk_alloc ?_ _)); exact BK340.out) hb) <| a_ (below_step tq_78 hb); clear BK340 HB; obtain ⟨HO343, BK340, HB⟩ := z_; (try clear hb); (try clear hb2); (try clear hk); (try clear hi); (try clear ho0); obtain ⟨Ao8, co8, eo8⟩ := Kd.R_slice HO343.out; subst eo8))
  go_ret
  exact ⟨tq_2, tq_78⟩
 replace c4 := Bool.eq_false_iff.mpr c4
 subst c4
 have H1 : (some (-1)) = some r := by rw [if_neg (show ¬ (false = true) by decide)] at H; exact H
 clear H
 have H := H1
 clear H1
 obtain rfl := Option.some.inj H
 go_enter Try.func78, Try.ntmps78
 go_wp2_with (first | ((with_reducible refine gate_dst (N := 2) rfl ?_); refine box_event ?hg (N := 2) ?hd (cs := #[.int .i64 a0_0, .slice A0_1 l0_1.length c0_1, .slice A0_2 l0_2.length c0_2]) (t := 34) ?hr ?_; (case hd => rfl); (case hg => rfl); (case hr => first | (go_simp; done) | (go_simp; rfl)); intro gb340 hg w9 hbox hb; have z_ := p_ (below_step tq_0 hb) <| p_ (hbox) <| p_ (gb_ hg tq_0) <| a_ (gb_ hg tq_0); clear HB; obtain ⟨HB, BK340, GW340, GE340⟩ := z_; clear hb hbox hg; obtain ⟨hcz10_0, hcz10_1, hcz10_2⟩ := bk3_ BK340.out; obtain ⟨hfz10_0, hfz10_1, hfz10_2⟩ := bf3_ BK340.out) | ((with_reducible refine gate_callee (f := 104) rfl ?_); refine goesL_ (some 10) rfl rfl Try.func104 (by kernel_rfl) rfl #[.agg #[.int .i64 a0_0, .slice A0_1 l0_1.length c0_1, .slice A0_2 l0_2.length c0_2], .int .i64 a1] rfl tq_1 ?_; (with_reducible refine (impl_upwards.calls k a0_0 _ _ l0_1 _ _ l0_2 a1 t341 false _ ?side1 ?side2 ?side3 ?side4 A3.out).mono ?_); (case side1 => exact tq_31); (case side2 => exact HC0_1.out); (case side3 => exact tq_54); (case side4 => exact HC0_2.out); rintro e w11 ⟨v342, rfl, ho0, hb⟩; refine ⟨_, rfl, ?_⟩; have z_ := p_ (Kd.R_lower ho0 (below_size tq_78)) <| p_ (blk_below (by (with_reducible repeat (first | refine blk_drewN ?_ _ | refine blk_drew ?_ | refine blk_alloc ?_ _)); exact BK340.out) hb) <| a_ (below_step tq_78 hb); clear BK340 HB; obtain ⟨HO343, BK340, HB⟩ := z_; (try clear hb); (try clear hb2); (try clear hk); (try clear hi); (try clear ho0)))
 go_ret
 exact ⟨tq_2, tq_78⟩

/-! ### impl_areInodes: function 42 -/
mutual
def impl_areInodes.l0 : Nat → List (S64) → Int → Int → Int → List Int → List (S64) → Option (Bool)
 | 0, _, _, _, _, _, _ => none
 | k + 1, x7, x8, x9, x346000, x346001, x346002 => if x9 < x8 then (if 0 ≤ x9 then (if x9 < (x7.length : Int) then ((impl_LinksTo.f k x346000 x346001 x346002 x9).bind fun t348 => ((impl_InodeOk.f k ((rd_T64 x7 x9).f0) ((rd_T64 x7 x9).f1) ((rd_T64 x7 x9).f2) ((rd_T64 x7 x9).f3) ((rd_T64 x7 x9).f4) ((rd_T64 x7 x9).f5)).bind fun t349 => (if t349 = true then ((slices_ContainsFunc_Entry_g77.f ((rd_T64 x7 x9).f5) x346000 x346001 x346002).bind fun t350 => (impl_areInodes.j1 k x9 t348 x7 x8 x9 t350 x346000 x346001 x346002 ((rd_T64 x7 x9).f0) ((rd_T64 x7 x9).f1) ((rd_T64 x7 x9).f2) ((rd_T64 x7 x9).f3) ((rd_T64 x7 x9).f4) ((rd_T64 x7 x9).f5))) else (impl_areInodes.j1 k x9 t348 x7 x8 x9 (!t349) x346000 x346001 x346002 ((rd_T64 x7 x9).f0) ((rd_T64 x7 x9).f1) ((rd_T64 x7 x9).f2) ((rd_T64 x7 x9).f3) ((rd_T64 x7 x9).f4) ((rd_T64 x7 x9).f5))))) else (none)) else (none)) else (some true)
def impl_areInodes.j1 : Nat → Int → Int → List (S64) → Int → Int → Bool → Int → List Int → List (S64) → Int → Int → Int → ByteArray → List (S96) → List (S67) → Option (Bool)
 | 0, _, _, _, _, _, _, _, _, _, _, _, _, _, _, _ => none
 | k + 1, x3, x5, x7, x8, x9, x17, x346000, x346001, x346002, x348000, x348001, x348002, x348003, x348004, x348005 => if x17 = true then (some false) else (if x3 = 0 then (if x348000 = 2 then (if x5 = 0 then (impl_areInodes.l0 k x7 x8 (wrap64 (x9 + 1)) x346000 x346001 x346002) else (some false)) else (some false)) else (if x348000 = 0 then (if x5 = 0 then (impl_areInodes.l0 k x7 x8 (wrap64 (x9 + 1)) x346000 x346001 x346002) else (some false)) else (if x5 = 1 then ((impl_DepthOf.f k x346000 x346001 x346002 x3).bind fun t351 => (if t351 < 0 then (some false) else (impl_areInodes.l0 k x7 x8 (wrap64 (x9 + 1)) x346000 x346001 x346002))) else (some false))))
end
def impl_areInodes.f (k : Nat) (a0_0 : Int) (l0_1 : List Int) (l0_2 : List (S64)) : Option (Bool) := impl_areInodes.l0 k l0_2 (l0_2.length : Int) 0 a0_0 l0_1 l0_2
theorem impl_areInodes.mono_l : ∀ k, (∀ y0 y1 y2 y3 y4 y5, LeO (impl_areInodes.l0 k y0 y1 y2 y3 y4 y5) (impl_areInodes.l0 (k + 1) y0 y1 y2 y3 y4 y5)) ∧ (∀ y0 y1 y2 y3 y4 y5 y6 y7 y8 y9 y10 y11 y12 y13 y14, LeO (impl_areInodes.j1 k y0 y1 y2 y3 y4 y5 y6 y7 y8 y9 y10 y11 y12 y13 y14) (impl_areInodes.j1 (k + 1) y0 y1 y2 y3 y4 y5 y6 y7 y8 y9 y10 y11 y12 y13 y14))
 | 0 => ⟨fun _ _ _ _ _ _ r h => by simp [impl_areInodes.l0] at h, fun _ _ _ _ _ _ _ _ _ _ _ _ _ _ _ r h => by simp [impl_areInodes.j1] at h⟩
 | k + 1 => by
  obtain ⟨ih0, ih1⟩ := impl_areInodes.mono_l k
  refine ⟨?_, ?_⟩
  ·intro y0 y1 y2 y3 y4 y5
   unfold impl_areInodes.l0
   exact mo_5
  ·intro y0 y1 y2 y3 y4 y5 y6 y7 y8 y9 y10 y11 y12 y13 y14
   unfold impl_areInodes.j1
   exact mo_5
theorem impl_areInodes.mono : ∀ a0 a1 a2 k, LeO (impl_areInodes.f k a0 a1 a2) (impl_areInodes.f (k + 1) a0 a1 a2) := by
 intro a0 a1 a2 k
 obtain ⟨ih0, ih1⟩ := impl_areInodes.mono_l k
 unfold impl_areInodes.f
 repeat' first
   | (with_reducible exact ih0 ..)
   | (with_reducible exact ih1 ..)
   | (with_reducible exact impl_DepthOf.mono ..)
   | (with_reducible exact impl_InodeOk.mono ..)
   | (with_reducible exact impl_LinksTo.mono ..)
   | (with_reducible exact LeO.refl _)
   | (with_reducible exact LeO.none _)
   | (with_reducible refine LeO.ite ?_ ?_)
   | (with_reducible refine LeO.bind ?_ (fun _ => ?_))
   | exact ih0 ..
   | exact ih1 ..
   | exact impl_DepthOf.mono ..
   | exact impl_InodeOk.mono ..
   | exact impl_LinksTo.mono ..
   | exact LeO.none _
   | refine LeO.ite ?_ ?_
   | refine LeO.bind ?_ (fun _ => ?_)
set_option maxHeartbeats 8000000 in
set_option maxRecDepth 100000 in
theorem impl_areInodes.calls (k : Nat) (a0_0 : Int) (A0_1 : Option Addr) (c0_1 : Nat) (l0_1 : List Int) (A0_2 : Option Addr) (c0_2 : Nat) (l0_2 : List (S64)) (r : Bool) (w : World) (hr0_1 : Kd.C (Kd.int .i64) w A0_1 l0_1.length l0_1) (hc0_1 : l0_1.length ≤ c0_1) (hr0_2 : Kd.C k64 w A0_2 l0_2.length l0_2) (hc0_2 : l0_2.length ≤ c0_2) (h : impl_areInodes.f k a0_0 l0_1 l0_2 = some r) :
  Calls Try.prog 42 #[.agg #[.int .i64 a0_0, .slice A0_1 l0_1.length c0_1, .slice A0_2 l0_2.length c0_2]] w fun e w' => e = .returned (.bool r) ∧ Below w.heap.size w w' := by
 have hu34 := Try.underlying34
 have hu64 := Try.underlying64
 have HR0_1 := Aside0.mk hr0_1
 have HC0_1 := Aside0.mk hc0_1
 clear hr0_1 hc0_1
 have HR0_2 := Aside0.mk hr0_2
 have HC0_2 := Aside0.mk hc0_2
 clear hr0_2 hc0_2
 have HB := Aside0.mk (Below.refl w.heap.size w)
 have H : (impl_areInodes.l0 k l0_2 (l0_2.length : Int) 0 a0_0 l0_1 l0_2) = some r := h
 clear h
 have H' := Aside0.mk H
 clear H
 go_enter Try.func42, Try.ntmps42
 go_wp2_with (first | ((with_reducible refine gate_dst (N := 1) rfl ?_); refine box_event ?hg (N := 1) ?hd (cs := #[.int .i64 a0_0, .slice A0_1 l0_1.length c0_1, .slice A0_2 l0_2.length c0_2]) (t := 34) ?hr ?_; (case hd => rfl); (case hg => rfl); (case hr => first | (go_simp; done) | (go_simp; rfl)); intro gb345 hg w2 hbox hb; have z_ := p_ (below_step tq_0 hb) <| p_ (hbox) <| p_ (gb_ hg tq_0) <| a_ (gb_ hg tq_0); clear HB; obtain ⟨HB, BK345, GW345, GE345⟩ := z_; clear hb hbox hg; obtain ⟨hcz3_0, hcz3_1, hcz3_2⟩ := bk3_ BK345.out; obtain ⟨hfz3_0, hfz3_1, hfz3_2⟩ := bf3_ BK345.out))
 go_loopg [9] k (fun kq v9 w' => ∃ (x9_1 : Int), v9 = .int .i64 x9_1 ∧ Aside0 (impl_areInodes.l0 kq l0_2 (l0_2.length : Int) x9_1 a0_0 l0_1 l0_2 = some r) ∧ Aside0 (kq ≤ k) ∧ Aside0 (w'.heap[gb345]? = some (.cells #[.int .i64 a0_0, (.slice A0_1 l0_1.length c0_1), (.slice A0_2 l0_2.length c0_2)] 34 (0, 0))) ∧ Aside0 (Below w.heap.size w w'))
 case atStart => exact ⟨(0), tq_4, H', ⟨Nat.le_refl _⟩, ⟨tq_50⟩, ⟨tq_89⟩⟩
 case round =>
 clear H'
 try clear p2; try clear hcz3_0 hcz3_1 hcz3_2 hfz3_0 hfz3_1 hfz3_2
 obtain ⟨x9_1, rfl, HA, HK1, BK345, HB⟩ := hrel
 cases gk with
 | zero => exact absurd HA.out (by simp [impl_areInodes.l0])
 | succ k1 =>
 have H := HA.out
 clear HA
 simp only [impl_areInodes.l0] at H
 by_cases c4 : x9_1 < (l0_2.length : Int)
 rotate_left
 ·rw [if_neg c4] at H
  have c4b0 := decide_eq_false c4
  clear c4
  obtain rfl := Option.some.inj H
  go_wp2
  go_ret
  exact ⟨tq_2, tq_89⟩
 rw [if_pos c4] at H
 have c4b0 := decide_eq_true c4
 clear c4
 by_cases c5 : 0 ≤ x9_1
 rotate_left
 ·rw [if_neg c5] at H
  exact absurd H (by simp)
 rw [if_pos c5] at H
 have c5b0 := decide_eq_true c5
 clear c5
 by_cases c6 : x9_1 < (l0_2.length : Int)
 rotate_left
 ·rw [if_neg c6] at H
  exact absurd H (by simp)
 rw [if_pos c6] at H
 have c6b0 := decide_eq_true c6
 clear c6
 replace H := Option.bind_eq_some_iff.mp H
 obtain ⟨t348, A70, H⟩ := H
 replace H : ((impl_InodeOk.f k1 ((rd_T64 l0_2 x9_1).f0) ((rd_T64 l0_2 x9_1).f1) ((rd_T64 l0_2 x9_1).f2) ((rd_T64 l0_2 x9_1).f3) ((rd_T64 l0_2 x9_1).f4) ((rd_T64 l0_2 x9_1).f5)).bind fun t349 => (if t349 = true then ((slices_ContainsFunc_Entry_g77.f ((rd_T64 l0_2 x9_1).f5) a0_0 l0_1 l0_2).bind fun t350 => (impl_areInodes.j1 k1 x9_1 t348 l0_2 (l0_2.length : Int) x9_1 t350 a0_0 l0_1 l0_2 ((rd_T64 l0_2 x9_1).f0) ((rd_T64 l0_2 x9_1).f1) ((rd_T64 l0_2 x9_1).f2) ((rd_T64 l0_2 x9_1).f3) ((rd_T64 l0_2 x9_1).f4) ((rd_T64 l0_2 x9_1).f5))) else (impl_areInodes.j1 k1 x9_1 t348 l0_2 (l0_2.length : Int) x9_1 (!t349) a0_0 l0_1 l0_2 ((rd_T64 l0_2 x9_1).f0) ((rd_T64 l0_2 x9_1).f1) ((rd_T64 l0_2 x9_1).f2) ((rd_T64 l0_2 x9_1).f3) ((rd_T64 l0_2 x9_1).f4) ((rd_T64 l0_2 x9_1).f5)))) = some r := H
 have A7 := Aside0.mk A70
 clear A70
 replace H := Option.bind_eq_some_iff.mp H
 obtain ⟨t349, A80, H⟩ := H
 replace H : (if t349 = true then ((slices_ContainsFunc_Entry_g77.f ((rd_T64 l0_2 x9_1).f5) a0_0 l0_1 l0_2).bind fun t350 => (impl_areInodes.j1 k1 x9_1 t348 l0_2 (l0_2.length : Int) x9_1 t350 a0_0 l0_1 l0_2 ((rd_T64 l0_2 x9_1).f0) ((rd_T64 l0_2 x9_1).f1) ((rd_T64 l0_2 x9_1).f2) ((rd_T64 l0_2 x9_1).f3) ((rd_T64 l0_2 x9_1).f4) ((rd_T64 l0_2 x9_1).f5))) else (impl_areInodes.j1 k1 x9_1 t348 l0_2 (l0_2.length : Int) x9_1 (!t349) a0_0 l0_1 l0_2 ((rd_T64 l0_2 x9_1).f0) ((rd_T64 l0_2 x9_1).f1) ((rd_T64 l0_2 x9_1).f2) ((rd_T64 l0_2 x9_1).f3) ((rd_T64 l0_2 x9_1).f4) ((rd_T64 l0_2 x9_1).f5))) = some r := H
 have A8 := Aside0.mk A80
 clear A80
 have HC9 := Aside0.mk H
 clear H
 have p346 : 0 ≤ (x9_1 : Int) := of_decide_eq_true tq_3
 have q346 : x9_1 < (l0_2.length : Int) := of_decide_eq_true tq_3
 obtain ⟨ad346, A346_4, c346_4, A346_5, c346_5, e346, hx346_0, hx346_1, hx346_2, hx346_3, hx346_4, hx346_5, hl346_4, hi346_4, hl346_5, hi346_5⟩ := at_T64 HR0_2.out x9_1 p346 q346
 cases e346
 replace hx346_0 := hx_ HB.out hx346_0
 replace hx346_1 := hx_ HB.out hx346_1
 replace hx346_2 := hx_ HB.out hx346_2
 replace hx346_3 := hx_ HB.out hx346_3
 replace hx346_4 := hx_ HB.out hx346_4
 replace hx346_5 := hx_ HB.out hx346_5
 have HR346_4 := Aside0.mk hi346_4
 have HC346_4 := Aside0.mk hl346_4
 clear hi346_4 hl346_4
 have HR346_5 := Aside0.mk hi346_5
 have HC346_5 := Aside0.mk hl346_5
 clear hi346_5 hl346_5
 replace p346 := eq_true p346
 replace q346 := eq_true q346
 go_upto_if 17 with (first | ((with_reducible refine gate_dst (N := 4) rfl ?_); refine box_event ?hg (N := 4) ?hd (cs := #[.int .i64 0, .int .i64 0, .int .i64 0, .string (⟨#[]⟩ : ByteArray), .slice none 0 0, .slice none 0 0]) (t := 64) ?hr ?_; (case hd => rfl); (case hg => rfl); (case hr => first | (go_simp; done) | (go_simp; rfl)); intro gb347 hg w10 hbox hb; have z_ := p_ (blk_below tq_50 hb) <| p_ (below_step tq_89 hb) <| p_ (hbox) <| p_ (gb_ hg tq_89) <| p_ (gb_ hg tq_89) <| p_ (ltne_ hg (blk_lt tq_50)) <| a_ (gtne_ hg (blk_lt tq_50)); clear BK345 HB; obtain ⟨BK345, HB, BK347, GW347, GE347, NB345_347, NB347_345⟩ := z_; clear hb hbox hg; have hnb11 := NB347_345.out; have hnc11 := NB345_347.out; obtain ⟨hcz12_0, hcz12_1, hcz12_2, hcz12_3, hcz12_4, hcz12_5⟩ := bk6_ BK347.out; obtain ⟨hfz12_0, hfz12_1, hfz12_2, hfz12_3, hfz12_4, hfz12_5⟩ := bf6_ BK347.out; obtain ⟨hcz13_0, hcz13_1, hcz13_2⟩ := bk3_ BK345.out; obtain ⟨hfz13_0, hfz13_1, hfz13_2⟩ := bf3_ BK345.out) | ((with_reducible refine gate_callee (f := 74) rfl ?_); refine goesL_ (some 16) rfl rfl Try.func74 (by kernel_rfl) rfl #[.agg #[.int .i64 a0_0, .slice A0_1 l0_1.length c0_1, .slice (some ad346) l0_2.length c0_2], .int .i64 x9_1] rfl tq_1 ?_; (with_reducible refine (impl_LinksTo.calls k1 a0_0 _ _ l0_1 _ _ l0_2 x9_1 t348 _ ?side1 ?side2 ?side3 ?side4 A7.out).mono ?_); (case side1 => exact Kd.C_below HR0_1.out tq_17); (case side2 => exact HC0_1.out); (case side3 => exact Kd.C_below HR0_2.out tq_17); (case side4 => exact HC0_2.out); rintro e w14 ⟨rfl, hb⟩; refine ⟨_, rfl, ?_⟩; have z_ := p_ (blk_below (g := gb345) (o := .cells #[.int .i64 a0_0, .slice A0_1 l0_1.length c0_1, .slice (some ad346) l0_2.length c0_2] 34 (0, 0)) (by (with_reducible repeat (first | refine blk_drewN ?_ _ | refine blk_drew ?_ | refine blk_alloc ?_ _)); refine blk_far ?_ NB345_347.out _; (with_reducible repeat (first | refine blk_drewN ?_ _ | refine blk_drew ?_ | refine blk_alloc ?_ _)); refine blk_far ?_ NB345_347.out _; (with_reducible repeat (first | refine blk_drewN ?_ _ | refine blk_drew ?_ | refine blk_alloc ?_ _)); refine blk_far ?_ NB345_347.out _; (with_reducible repeat (first | refine blk_drewN ?_ _ | refine blk_drew ?_ | refine blk_alloc ?_ _)); refine blk_far ?_ NB345_347.out _; (with_reducible repeat (first | refine blk_drewN ?_ _ | refine blk_drew ?_ | refine blk_alloc ?_ _)); refine blk_far ?_ NB345_347.out _; (with_reducible repeat (first | refine blk_drewN ?_ _ | refine blk_drew ?_ | refine blk_alloc ?_ _)); refine blk_far ?_ NB345_347.out _; (with_reducible repeat (first | refine blk_drewN ?_ _ | refine blk_drew ?_ | refine blk_alloc ?_ _)); exact BK345.out) hb) <| p_ (blk_below (g := gb347) (o := .cells #[.int .i64 ((rd_T64 l0_2 x9_1).f0), .int .i64 ((rd_T64 l0_2 x9_1).f1), .int .i64 ((rd_T64 l0_2 x9_1).f2), .string ((rd_T64 l0_2 x9_1).f3), .slice A346_4 ((rd_T64 l0_2 x9_1).f4).length c346_4, .slice A346_5 ((rd_T64 l0_2 x9_1).f5).length c346_5] 64 (0, 0)) (by (with_reducible repeat (first | refine blk_drewN ?_ _ | refine blk_drew ?_ | refine blk_alloc ?_ _)); refine blk_put (cs := #[.int .i64 ((rd_T64 l0_2 x9_1).f0), .int .i64 ((rd_T64 l0_2 x9_1).f1), .int .i64 ((rd_T64 l0_2 x9_1).f2), .string ((rd_T64 l0_2 x9_1).f3), .slice A346_4 ((rd_T64 l0_2 x9_1).f4).length c346_4, .slice none 0 0]) ?_ 5 _ rfl; (with_reducible repeat (first | refine blk_drewN ?_ _ | refine blk_drew ?_ | refine blk_alloc ?_ _)); refine blk_put (cs := #[.int .i64 ((rd_T64 l0_2 x9_1).f0), .int .i64 ((rd_T64 l0_2 x9_1).f1), .int .i64 ((rd_T64 l0_2 x9_1).f2), .string ((rd_T64 l0_2 x9_1).f3), .slice none 0 0, .slice none 0 0]) ?_ 4 _ rfl; (with_reducible repeat (first | refine blk_drewN ?_ _ | refine blk_drew ?_ | refine blk_alloc ?_ _)); refine blk_put (cs := #[.int .i64 ((rd_T64 l0_2 x9_1).f0), .int .i64 ((rd_T64 l0_2 x9_1).f1), .int .i64 ((rd_T64 l0_2 x9_1).f2), .string (⟨#[]⟩ : ByteArray), .slice none 0 0, .slice none 0 0]) ?_ 3 _ rfl; (with_reducible repeat (first | refine blk_drewN ?_ _ | refine blk_drew ?_ | refine blk_alloc ?_ _)); refine blk_put (cs := #[.int .i64 ((rd_T64 l0_2 x9_1).f0), .int .i64 ((rd_T64 l0_2 x9_1).f1), .int .i64 0, .string (⟨#[]⟩ : ByteArray), .slice none 0 0, .slice none 0 0]) ?_ 2 _ rfl; (with_reducible repeat (first | refine blk_drewN ?_ _ | refine blk_drew ?_ | refine blk_alloc ?_ _)); refine blk_put (cs := #[.int .i64 ((rd_T64 l0_2 x9_1).f0), .int .i64 0, .int .i64 0, .string (⟨#[]⟩ : ByteArray), .slice none 0 0, .slice none 0 0]) ?_ 1 _ rfl; (with_reducible repeat (first | refine blk_drewN ?_ _ | refine blk_drew ?_ | refine blk_alloc ?_ _)); refine blk_put (cs := #[.int .i64 0, .int .i64 0, .int .i64 0, .string (⟨#[]⟩ : ByteArray), .slice none 0 0, .slice none 0 0]) ?_ 0 _ rfl; (with_reducible repeat (first | refine blk_drewN ?_ _ | refine blk_drew ?_ | refine blk_alloc ?_ _)); exact BK347.out) hb) <| a_ (below_step tq_17 hb); clear BK345 BK347 HB; obtain ⟨BK345, BK347, HB⟩ := z_; (try clear hb); (try clear hb2); (try clear hk); (try clear hi); obtain ⟨hcz15_0, hcz15_1, hcz15_2, hcz15_3, hcz15_4, hcz15_5⟩ := bk6_ BK347.out; obtain ⟨hfz15_0, hfz15_1, hfz15_2, hfz15_3, hfz15_4, hfz15_5⟩ := bf6_ BK347.out) | ((with_reducible refine gate_callee (f := 75) rfl ?_); refine goesL_ (some 19) rfl rfl Try.func75 (by kernel_rfl) rfl #[.agg #[.int .i64 ((rd_T64 l0_2 x9_1).f0), .int .i64 ((rd_T64 l0_2 x9_1).f1), .int .i64 ((rd_T64 l0_2 x9_1).f2), .string ((rd_T64 l0_2 x9_1).f3), .slice A346_4 ((rd_T64 l0_2 x9_1).f4).length c346_4, .slice A346_5 ((rd_T64 l0_2 x9_1).f5).length c346_5]] rfl tq_1 ?_; (with_reducible refine (impl_InodeOk.calls k1 ((rd_T64 l0_2 x9_1).f0) ((rd_T64 l0_2 x9_1).f1) ((rd_T64 l0_2 x9_1).f2) ((rd_T64 l0_2 x9_1).f3) _ _ ((rd_T64 l0_2 x9_1).f4) _ _ ((rd_T64 l0_2 x9_1).f5) t349 _ ?side1 ?side2 ?side3 ?side4 A8.out).mono ?_); (case side1 => repeat (first | exact (Kd.C_below HR346_4.out HB.out) | (with_reducible refine Kd.C_alloc ?_ _) | (with_reducible refine Kd.C_drewN ?_ _) | (with_reducible refine Kd.C_drew ?_))); (case side2 => exact HC346_4.out); (case side3 => exact tq_164); (case side4 => exact HC346_5.out); rintro e w16 ⟨rfl, hb⟩; refine ⟨_, rfl, ?_⟩; have z_ := p_ (blk_below tq_50 hb) <| p_ (blk_below tq_94 hb) <| a_ (below_step tq_17 hb); clear BK345 BK347 HB; obtain ⟨BK345, BK347, HB⟩ := z_; (try clear hb); (try clear hb2); (try clear hk); (try clear hi)))
 (try simp only [Act.put, List.setIfInBounds_toArray, List.set_cons_zero, List.set_cons_succ])
 go_cut [17] (fun v17 wc => ∃ (kq : Nat) (x17_8 : Bool), v17 = .bool x17_8 ∧ Aside0 (impl_areInodes.j1 kq x9_1 t348 l0_2 (l0_2.length : Int) x9_1 x17_8 a0_0 l0_1 l0_2 ((rd_T64 l0_2 x9_1).f0) ((rd_T64 l0_2 x9_1).f1) ((rd_T64 l0_2 x9_1).f2) ((rd_T64 l0_2 x9_1).f3) ((rd_T64 l0_2 x9_1).f4) ((rd_T64 l0_2 x9_1).f5) = some r) ∧ Aside0 (kq ≤ k1) ∧ Aside0 (wc.heap[gb345]? = some (.cells #[.int .i64 a0_0, (.slice A0_1 l0_1.length c0_1), (.slice (some ad346) l0_2.length c0_2)] 34 (0, 0))) ∧ Aside0 (wc.heap[gb347]? = some (.cells #[.int .i64 ((rd_T64 l0_2 x9_1).f0), .int .i64 ((rd_T64 l0_2 x9_1).f1), .int .i64 ((rd_T64 l0_2 x9_1).f2), .string ((rd_T64 l0_2 x9_1).f3), (.slice A346_4 ((rd_T64 l0_2 x9_1).f4).length c346_4), (.slice A346_5 ((rd_T64 l0_2 x9_1).f5).length c346_5)] 64 (0, 0))) ∧ Aside0 (Below w.heap.size w wc))
 case first =>
  have H := HC9.out
  clear HC9
  by_cases c17 : t349 = true
  rotate_left
  ·replace c17 := Bool.eq_false_iff.mpr c17
   subst c17
   have H1 : (impl_areInodes.j1 k1 x9_1 t348 l0_2 (l0_2.length : Int) x9_1 (!false) a0_0 l0_1 l0_2 ((rd_T64 l0_2 x9_1).f0) ((rd_T64 l0_2 x9_1).f1) ((rd_T64 l0_2 x9_1).f2) ((rd_T64 l0_2 x9_1).f3) ((rd_T64 l0_2 x9_1).f4) ((rd_T64 l0_2 x9_1).f5)) = some r := by rw [if_neg (show ¬ (false = true) by decide)] at H; exact H
   clear H
   have H := H1
   clear H1
   have H' := Aside0.mk H
   clear H
   go_wp2
   go_meet
   case rel => exact ⟨_, (!false), tq_4, H', ⟨(by have := HK1.out; first | omega | exact Nat.le_refl _)⟩, ⟨tq_50⟩, ⟨tq_94⟩, ⟨tq_17⟩⟩
  subst c17
  have H1 : ((slices_ContainsFunc_Entry_g77.f ((rd_T64 l0_2 x9_1).f5) a0_0 l0_1 l0_2).bind fun t350 => (impl_areInodes.j1 k1 x9_1 t348 l0_2 (l0_2.length : Int) x9_1 t350 a0_0 l0_1 l0_2 ((rd_T64 l0_2 x9_1).f0) ((rd_T64 l0_2 x9_1).f1) ((rd_T64 l0_2 x9_1).f2) ((rd_T64 l0_2 x9_1).f3) ((rd_T64 l0_2 x9_1).f4) ((rd_T64 l0_2 x9_1).f5))) = some r := by rw [if_pos rfl] at H; exact H
  clear H
  have H := H1
  clear H1
  replace H := Option.bind_eq_some_iff.mp H
  obtain ⟨t350, A180, H⟩ := H
  replace H : (impl_areInodes.j1 k1 x9_1 t348 l0_2 (l0_2.length : Int) x9_1 t350 a0_0 l0_1 l0_2 ((rd_T64 l0_2 x9_1).f0) ((rd_T64 l0_2 x9_1).f1) ((rd_T64 l0_2 x9_1).f2) ((rd_T64 l0_2 x9_1).f3) ((rd_T64 l0_2 x9_1).f4) ((rd_T64 l0_2 x9_1).f5)) = some r := H
  have A18 := Aside0.mk A180
  clear A180
  have H' := Aside0.mk H
  clear H
  have hnb19 := NB347_345.out
  have hnc19 := NB345_347.out
  obtain ⟨hcz20_0, hcz20_1, hcz20_2, hcz20_3, hcz20_4, hcz20_5⟩ := bk6_ BK347.out
  obtain ⟨hfz20_0, hfz20_1, hfz20_2, hfz20_3, hfz20_4, hfz20_5⟩ := bf6_ BK347.out
  go_wp2_with (first | ((with_reducible refine gate_callee (f := 76) rfl ?_); refine goesL_ (some 24) rfl rfl Try.func76 (by kernel_rfl) rfl #[.slice A346_5 ((rd_T64 l0_2 x9_1).f5).length c346_5, .func (.func 77) #[] #[.pointer (some ⟨gb345, 0, none⟩)]] rfl tq_1 ?_; (with_reducible refine (slices_ContainsFunc_Entry_g77.calls _ _ ((rd_T64 l0_2 x9_1).f5) gb345 a0_0 ?cal0_1 ?cnl0_1 l0_1 ?cal0_2 ?cnl0_2 l0_2 t350 _ ?side1 ?side2 ?side3 A18.out).mono ?_); (case side1 => exact tq_164); (case side2 => exact HC346_5.out); (case side3 => (with_reducible repeat (first | refine blk_drewN ?_ _ | refine blk_drew ?_ | refine blk_alloc ?_ _)); exact BK345.out); rintro e w21 ⟨rfl, hb⟩; refine ⟨_, rfl, ?_⟩; have z_ := p_ (blk_below tq_50 hb) <| p_ (blk_below tq_94 hb) <| a_ (below_step tq_17 hb); clear BK345 BK347 HB; obtain ⟨BK345, BK347, HB⟩ := z_; (try clear hb); (try clear hb2); (try clear hk); (try clear hi)))
  go_meet
  case rel => exact ⟨_, (t350), tq_4, H', ⟨(by have := HK1.out; first | omega | exact Nat.le_refl _)⟩, ⟨tq_50⟩, ⟨tq_94⟩, ⟨tq_17⟩⟩
 case rest =>
 clear HC9
 try clear c1; try clear p2; try clear c3; try clear p3; try clear q3; try clear hx3; try clear c4; try clear c4b0; try clear c5; try clear c5b0; try clear c6; try clear c6b0; try clear c7; try clear c11; try clear c17; try clear c19; try clear hcz12_0 hcz12_1 hcz12_2 hcz12_3 hcz12_4 hcz12_5; try clear hcz13_0 hcz13_1 hcz13_2; try clear hcz15_0 hcz15_1 hcz15_2 hcz15_3 hcz15_4 hcz15_5; try clear hcz20_0 hcz20_1 hcz20_2 hcz20_3 hcz20_4 hcz20_5; try clear hcz3_0 hcz3_1 hcz3_2; try clear hfz12_0 hfz12_1 hfz12_2 hfz12_3 hfz12_4 hfz12_5; try clear hfz13_0 hfz13_1 hfz13_2; try clear hfz15_0 hfz15_1 hfz15_2 hfz15_3 hfz15_4 hfz15_5; try clear hfz20_0 hfz20_1 hfz20_2 hfz20_3 hfz20_4 hfz20_5; try clear hfz3_0 hfz3_1 hfz3_2; try clear hx346_0; try clear hx346_1; try clear hx346_2; try clear hx346_3; try clear hx346_4; try clear hx346_5; try clear p2; try clear p346; try clear q346
 obtain ⟨kq, x17_8, rfl, HA, HJ8, BK345, BK347, HB⟩ := hcut
 cases kq with
 | zero => exact absurd HA.out (by simp [impl_areInodes.j1])
 | succ kj8 =>
 have H := HA.out
 clear HA
 simp only [impl_areInodes.j1] at H
 by_cases c22 : x17_8 = true
 ·subst c22
  have H1 : (some false) = some r := by rw [if_pos rfl] at H; exact H
  clear H
  have H := H1
  clear H1
  obtain rfl := Option.some.inj H
  go_wp2
  go_ret
  exact ⟨tq_2, tq_17⟩
 replace c22 := Bool.eq_false_iff.mpr c22
 subst c22
 have H1 : (if x9_1 = 0 then (if ((rd_T64 l0_2 x9_1).f0) = 2 then (if t348 = 0 then (impl_areInodes.l0 kj8 l0_2 (l0_2.length : Int) (wrap64 (x9_1 + 1)) a0_0 l0_1 l0_2) else (some false)) else (some false)) else (if ((rd_T64 l0_2 x9_1).f0) = 0 then (if t348 = 0 then (impl_areInodes.l0 kj8 l0_2 (l0_2.length : Int) (wrap64 (x9_1 + 1)) a0_0 l0_1 l0_2) else (some false)) else (if t348 = 1 then ((impl_DepthOf.f kj8 a0_0 l0_1 l0_2 x9_1).bind fun t351 => (if t351 < 0 then (some false) else (impl_areInodes.l0 kj8 l0_2 (l0_2.length : Int) (wrap64 (x9_1 + 1)) a0_0 l0_1 l0_2))) else (some false)))) = some r := by rw [if_neg (show ¬ (false = true) by decide)] at H; exact H
 clear H
 have H := H1
 clear H1
 by_cases c23 : x9_1 = 0
 ·rw [if_pos c23] at H
  have c23b0 := beq_iff_eq.mpr c23
  have c23b1 := bne_eq_false_iff_eq.mpr c23
  clear c23
  by_cases c24 : ((rd_T64 l0_2 x9_1).f0) = 2
  rotate_left
  ·rw [if_neg c24] at H
   have c24b0 := beq_eq_false_iff_ne.mpr c24
   have c24b1 := bne_iff_ne.mpr c24
   obtain rfl := Option.some.inj H
   have hnb30 := NB347_345.out
   have hnc30 := NB345_347.out
   obtain ⟨hcz31_0, hcz31_1, hcz31_2, hcz31_3, hcz31_4, hcz31_5⟩ := bk6_ BK347.out
   obtain ⟨hfz31_0, hfz31_1, hfz31_2, hfz31_3, hfz31_4, hfz31_5⟩ := bf6_ BK347.out
   go_wp2
   go_ret
   exact ⟨tq_2, tq_17⟩
  rw [if_pos c24] at H
  have c24b0 := beq_iff_eq.mpr c24
  have c24b1 := bne_eq_false_iff_eq.mpr c24
  clear c24
  by_cases c25 : t348 = 0
  rotate_left
  ·rw [if_neg c25] at H
   have c25b0 := beq_eq_false_iff_ne.mpr c25
   have c25b1 := bne_iff_ne.mpr c25
   obtain rfl := Option.some.inj H
   have hnb28 := NB347_345.out
   have hnc28 := NB345_347.out
   obtain ⟨hcz29_0, hcz29_1, hcz29_2, hcz29_3, hcz29_4, hcz29_5⟩ := bk6_ BK347.out
   obtain ⟨hfz29_0, hfz29_1, hfz29_2, hfz29_3, hfz29_4, hfz29_5⟩ := bf6_ BK347.out
   go_wp2
   go_ret
   exact ⟨tq_2, tq_17⟩
  rw [if_pos c25] at H
  have c25b0 := beq_iff_eq.mpr c25
  have c25b1 := bne_eq_false_iff_eq.mpr c25
  clear c25
  have H' := Aside0.mk H
  clear H
  have hnb26 := NB347_345.out
  have hnc26 := NB345_347.out
  obtain ⟨hcz27_0, hcz27_1, hcz27_2, hcz27_3, hcz27_4, hcz27_5⟩ := bk6_ BK347.out
  obtain ⟨hfz27_0, hfz27_1, hfz27_2, hfz27_3, hfz27_4, hfz27_5⟩ := bf6_ BK347.out
  go_wp2
  go_roundg kj8
  case measure => have := HK1.out; have := HJ8.out; omega
  case rel => exact ⟨(wrap64 (x9_1 + 1)), tq_4, H', ⟨(by have := HK1.out; have := HJ8.out; omega)⟩, ⟨tq_50⟩, ⟨tq_17⟩⟩
 rw [if_neg c23] at H
 have c23b0 := beq_eq_false_iff_ne.mpr c23
 have c23b1 := bne_iff_ne.mpr c23
 by_cases c32 : ((rd_T64 l0_2 x9_1).f0) = 0
 ·rw [if_pos c32] at H
  have c32b0 := beq_iff_eq.mpr c32
  have c32b1 := bne_eq_false_iff_eq.mpr c32
  clear c32
  by_cases c33 : t348 = 0
  rotate_left
  ·rw [if_neg c33] at H
   have c33b0 := beq_eq_false_iff_ne.mpr c33
   have c33b1 := bne_iff_ne.mpr c33
   obtain rfl := Option.some.inj H
   have hnb36 := NB347_345.out
   have hnc36 := NB345_347.out
   obtain ⟨hcz37_0, hcz37_1, hcz37_2, hcz37_3, hcz37_4, hcz37_5⟩ := bk6_ BK347.out
   obtain ⟨hfz37_0, hfz37_1, hfz37_2, hfz37_3, hfz37_4, hfz37_5⟩ := bf6_ BK347.out
   go_wp2
   go_ret
   exact ⟨tq_2, tq_17⟩
  rw [if_pos c33] at H
  have c33b0 := beq_iff_eq.mpr c33
  have c33b1 := bne_eq_false_iff_eq.mpr c33
  clear c33
  have H' := Aside0.mk H
  clear H
  have hnb34 := NB347_345.out
  have hnc34 := NB345_347.out
  obtain ⟨hcz35_0, hcz35_1, hcz35_2, hcz35_3, hcz35_4, hcz35_5⟩ := bk6_ BK347.out
  obtain ⟨hfz35_0, hfz35_1, hfz35_2, hfz35_3, hfz35_4, hfz35_5⟩ := bf6_ BK347.out
  go_wp2
  go_roundg kj8
  case measure => have := HK1.out; have := HJ8.out; omega
  case rel => exact ⟨(wrap64 (x9_1 + 1)), tq_4, H', ⟨(by have := HK1.out; have := HJ8.out; omega)⟩, ⟨tq_50⟩, ⟨tq_17⟩⟩
 rw [if_neg c32] at H
 have c32b0 := beq_eq_false_iff_ne.mpr c32
 have c32b1 := bne_iff_ne.mpr c32
 by_cases c38 : t348 = 1
 rotate_left
 ·rw [if_neg c38] at H
  have c38b0 := beq_eq_false_iff_ne.mpr c38
  have c38b1 := bne_iff_ne.mpr c38
  obtain rfl := Option.some.inj H
  have hnb49 := NB347_345.out
  have hnc49 := NB345_347.out
  obtain ⟨hcz50_0, hcz50_1, hcz50_2, hcz50_3, hcz50_4, hcz50_5⟩ := bk6_ BK347.out
  obtain ⟨hfz50_0, hfz50_1, hfz50_2, hfz50_3, hfz50_4, hfz50_5⟩ := bf6_ BK347.out
  go_wp2
  go_ret
  exact ⟨tq_2, tq_17⟩
 rw [if_pos c38] at H
 have c38b0 := beq_iff_eq.mpr c38
 have c38b1 := bne_eq_false_iff_eq.mpr c38
 clear c38
 replace H := Option.bind_eq_some_iff.mp H
 obtain ⟨t351, A390, H⟩ := H
 replace H : (if t351 < 0 then (some false) else (impl_areInodes.l0 kj8 l0_2 (l0_2.length : Int) (wrap64 (x9_1 + 1)) a0_0 l0_1 l0_2)) = some r := H
 have A39 := Aside0.mk A390
 clear A390
 by_cases c40 : t351 < 0
 ·rw [if_pos c40] at H
  have c40b0 := decide_eq_true c40
  clear c40
  obtain rfl := Option.some.inj H
  have hnb41 := NB347_345.out
  have hnc41 := NB345_347.out
  obtain ⟨hcz42_0, hcz42_1, hcz42_2, hcz42_3, hcz42_4, hcz42_5⟩ := bk6_ BK347.out
  obtain ⟨hfz42_0, hfz42_1, hfz42_2, hfz42_3, hfz42_4, hfz42_5⟩ := bf6_ BK347.out
  obtain ⟨hcz43_0, hcz43_1, hcz43_2⟩ := bk3_ BK345.out
  obtain ⟨hfz43_0, hfz43_1, hfz43_2⟩ := bf3_ BK345.out
  go_wp2_with (first | (go_at_call 78; (with_reducible refine (impl_DepthOf.calls kj8 a0_0 _ _ l0_1 _ _ l0_2 x9_1 t351 _ ?side1 ?side2 ?side3 ?side4 A39.out).mono ?_); (case side1 => exact tq_31); (case side2 => exact HC0_1.out); (case side3 => exact tq_54); (case side4 => exact HC0_2.out); rintro e w44 ⟨rfl, hb⟩; have z_ := p_ (blk_below tq_50 hb) <| p_ (blk_below tq_94 hb) <| a_ (below_step tq_17 hb); clear BK345 BK347 HB; obtain ⟨BK345, BK347, HB⟩ := z_; (try clear hb); (try clear hb2); (try clear hk); (try clear hi)))
  go_ret
  exact ⟨tq_2, tq_17⟩
 rw [if_neg c40] at H
 have c40b0 := decide_eq_false c40
 clear c40
 have H' := Aside0.mk H
 clear H
 have hnb45 := NB347_345.out
 have hnc45 := NB345_347.out
 obtain ⟨hcz46_0, hcz46_1, hcz46_2, hcz46_3, hcz46_4, hcz46_5⟩ := bk6_ BK347.out
 obtain ⟨hfz46_0, hfz46_1, hfz46_2, hfz46_3, hfz46_4, hfz46_5⟩ := bf6_ BK347.out
 obtain ⟨hcz47_0, hcz47_1, hcz47_2⟩ := bk3_ BK345.out
 obtain ⟨hfz47_0, hfz47_1, hfz47_2⟩ := bf3_ BK345.out
 go_wp2_with (first | (go_at_call 78; (with_reducible refine (impl_DepthOf.calls kj8 a0_0 _ _ l0_1 _ _ l0_2 x9_1 t351 _ ?side1 ?side2 ?side3 ?side4 A39.out).mono ?_); (case side1 => exact tq_31); (case side2 => exact HC0_1.out); (case side3 => exact tq_54); (case side4 => exact HC0_2.out); rintro e w48 ⟨rfl, hb⟩; have z_ := p_ (blk_below tq_50 hb) <| p_ (blk_below tq_94 hb) <| a_ (below_step tq_17 hb); clear BK345 BK347 HB; obtain ⟨BK345, BK347, HB⟩ := z_; (try clear hb); (try clear hb2); (try clear hk); (try clear hi)))
 go_roundg kj8
 case measure => have := HK1.out; have := HJ8.out; omega
 case rel => exact ⟨(wrap64 (x9_1 + 1)), tq_4, H', ⟨(by have := HK1.out; have := HJ8.out; omega)⟩, ⟨tq_50⟩, ⟨tq_17⟩⟩

end Go.Proofs.Ytljnnmpfeningaa.PFnExactPartOk
