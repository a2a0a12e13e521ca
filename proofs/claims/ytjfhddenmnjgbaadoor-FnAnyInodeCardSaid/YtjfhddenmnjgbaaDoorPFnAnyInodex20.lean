/- Contracts of Go functions, written by a program of ours over the print of the kit: each says that the call returns what the Lean function beside it computes. Conditions: as each theorem states them. -/
import Derived.Test.YtjfhddenmnjgbaaDoorPkFnAnyInode
import Derived.Test.YtjfhddenmnjgbaaDoorPFnAnyInodex0
import Derived.Test.YtjfhddenmnjgbaaDoorPFnAnyInodex6
import Derived.Test.YtjfhddenmnjgbaaDoorPFnAnyInodex8
import Derived.Test.YtjfhddenmnjgbaaDoorPFnAnyInodex15
import Derived.Test.YtjfhddenmnjgbaaDoorPFnAnyInodex16
import Derived.Test.YtjfhddenmnjgbaaDoorPFnAnyInodex19
namespace Go.Proofs.YtjfhddenmnjgbaaDoor.PFnAnyInode
open Go.RowKit Go.Proofs.YtjfhddenmnjgbaaDoorW.PrintWords Go.Proofs.YtjfhddenmnjgbaaDoorW.PrintLast Go.Proofs.YtjfhddenmnjgbaaDoorW.PrintMore
attribute [local go_sem] max2_int min2_int max_two min_two max_three min_three max_four min_four setCell_drewN   -- for this text's walks alone
set_option linter.unusedVariables false
set_option linter.unusedSimpArgs false

/-! ### laws_FnAnyInode: function 5 -/
mutual
def laws_FnAnyInode.j0 : Nat → List Int → Option (Bool)
 | 0, _ => none
 | k + 1, x0 => (spec_DrawReadInode.f k x0).bind fun t483 => ((impl_ReadInode.f k t483).bind fun bt486 => ((spec_ReadInode.f k t483).bind fun bt498 => (if (bt486.2.2.2.2.2.2 != bt498.2.2.2.2.2.2) = true then (laws_FnAnyInode.j1 k t483 bt486.2.2.2.2.2.2 true bt486.1 bt486.2.1 bt486.2.2.1 bt486.2.2.2.1 bt486.2.2.2.2.1 bt486.2.2.2.2.2.1) else ((laws_sameInode.f k bt486.1 bt486.2.1 bt486.2.2.1 bt486.2.2.2.1 bt486.2.2.2.2.1 bt486.2.2.2.2.2.1 bt498.1 bt498.2.1 bt498.2.2.1 bt498.2.2.2.1 bt498.2.2.2.2.1 bt498.2.2.2.2.2.1).bind fun t510 => (laws_FnAnyInode.j1 k t483 bt486.2.2.2.2.2.2 (!t510) bt486.1 bt486.2.1 bt486.2.2.1 bt486.2.2.2.1 bt486.2.2.2.2.1 bt486.2.2.2.2.2.1)))))
def laws_FnAnyInode.j1 : Nat → List ByteArray → Bool → Bool → Int → Int → Int → ByteArray → List (S42) → List (S47) → Option (Bool)
 | 0, _, _, _, _, _, _, _, _, _ => none
 | k + 1, x3, x5, x30, x498000, x498001, x498002, x498003, x498004, x498005 => if x30 = true then (some false) else (laws_FnAnyInode.j2 k x3 x5 x498000 x498001 x498002 x498003 x498004 x498005)
def laws_FnAnyInode.j2 : Nat → List ByteArray → Bool → Int → Int → Int → ByteArray → List (S42) → List (S47) → Option (Bool)
 | 0, _, _, _, _, _, _, _, _ => none
 | k + 1, x3, x5, x498000, x498001, x498002, x498003, x498004, x498005 => if x5 = true then ((spec_InodeOk.f k x498000 x498001 x498002 x498003 x498004 x498005).bind fun t511 => (if t511 = true then ((impl_InodeWords.f k x498000 x498001 x498002 x498003 x498004 x498005).bind fun t512 => ((laws_sameTexts.f k t512 x3).bind fun t515 => (if t515 = true then ((impl_InodeWords.f k 0 0 0 (⟨#[]⟩ : ByteArray) ([] : List (S42)) ([] : List (S47))).bind fun t516 => (some ((t516.length : Int) == 8))) else (some false)))) else (some false))) else ((impl_InodeWords.f k 0 0 0 (⟨#[]⟩ : ByteArray) ([] : List (S42)) ([] : List (S47))).bind fun t519 => (some ((t519.length : Int) == 8)))
end
def laws_FnAnyInode.f (k : Nat) (l0 : List Int) : Option (Bool) := (laws_big.f l0).bind fun t482 => (if t482 = true then (some true) else (laws_FnAnyInode.j0 k l0))
theorem laws_FnAnyInode.mono_l : ∀ k, (∀ y0, LeO (laws_FnAnyInode.j0 k y0) (laws_FnAnyInode.j0 (k + 1) y0)) ∧ (∀ y0 y1 y2 y3 y4 y5 y6 y7 y8, LeO (laws_FnAnyInode.j1 k y0 y1 y2 y3 y4 y5 y6 y7 y8) (laws_FnAnyInode.j1 (k + 1) y0 y1 y2 y3 y4 y5 y6 y7 y8)) ∧ (∀ y0 y1 y2 y3 y4 y5 y6 y7, LeO (laws_FnAnyInode.j2 k y0 y1 y2 y3 y4 y5 y6 y7) (laws_FnAnyInode.j2 (k + 1) y0 y1 y2 y3 y4 y5 y6 y7))
 | 0 => ⟨fun _ r h => by simp [laws_FnAnyInode.j0] at h, fun _ _ _ _ _ _ _ _ _ r h => by simp [laws_FnAnyInode.j1] at h, fun _ _ _ _ _ _ _ _ r h => by simp [laws_FnAnyInode.j2] at h⟩
 | k + 1 => by
  obtain ⟨ih0, ih1, ih2⟩ := laws_FnAnyInode.mono_l k
  refine ⟨?_, ?_, ?_⟩
  ·intro y0
   unfold laws_FnAnyInode.j0
   exact mo_8
  ·intro y0 y1 y2 y3 y4 y5 y6 y7 y8
   unfold laws_FnAnyInode.j1
   exact mo_8
  ·intro y0 y1 y2 y3 y4 y5 y6 y7
   unfold laws_FnAnyInode.j2
   exact mo_8
theorem laws_FnAnyInode.mono : ∀ a0 k, LeO (laws_FnAnyInode.f k a0) (laws_FnAnyInode.f (k + 1) a0) := by
 intro a0 k
 obtain ⟨ih0, ih1, ih2⟩ := laws_FnAnyInode.mono_l k
 unfold laws_FnAnyInode.f
 repeat' first
   | (with_reducible exact ih0 _)
   | (with_reducible exact ih1 ..)
   | (with_reducible exact ih2 ..)
   | (with_reducible exact impl_InodeWords.mono ..)
   | (with_reducible exact impl_ReadInode.mono ..)
   | (with_reducible exact laws_sameInode.mono ..)
   | (with_reducible exact laws_sameTexts.mono ..)
   | (with_reducible exact spec_DrawReadInode.mono ..)
   | (with_reducible exact spec_InodeOk.mono ..)
   | (with_reducible exact spec_ReadInode.mono ..)
   | (with_reducible exact LeO.refl _)
   | (with_reducible exact LeO.none _)
   | (with_reducible refine LeO.ite ?_ ?_)
   | (with_reducible refine LeO.bind ?_ (fun _ => ?_))
   | exact ih0 _
   | exact ih1 ..
   | exact ih2 ..
   | exact impl_InodeWords.mono ..
   | exact impl_ReadInode.mono ..
   | exact laws_sameInode.mono ..
   | exact laws_sameTexts.mono ..
   | exact spec_DrawReadInode.mono ..
   | exact spec_InodeOk.mono ..
   | exact spec_ReadInode.mono ..
   | exact LeO.none _
   | refine LeO.ite ?_ ?_
   | refine LeO.bind ?_ (fun _ => ?_)
set_option maxHeartbeats 8000000 in
set_option maxRecDepth 100000 in
theorem laws_FnAnyInode.calls (k : Nat) (A0 : Option Addr) (c0 : Nat) (l0 : List Int) (r : Bool) (w : World) (hr0 : Kd.C (Kd.int .u8) w A0 l0.length l0) (hc0 : l0.length ≤ c0) (h : laws_FnAnyInode.f k l0 = some r) :
  Calls Tryd.prog 5 #[.slice A0 l0.length c0] w fun e w' => e = .returned (.bool r) ∧ Below w.heap.size w w' := by
 have hu27 := Tryd.underlying27
 have HR0 := Aside0.mk hr0
 have HC0 := Aside0.mk hc0
 clear hr0 hc0
 have HB := Aside0.mk (Below.refl w.heap.size w)
 unfold laws_FnAnyInode.f at h
 have H := h
 clear h
 obtain ⟨t482, A2, H⟩ := bd_ H
 have HC3 := Aside0.mk H
 clear H
 go_enter Tryd.func5, Tryd.ntmps5
 go_upto_if 9 with (first | ((with_reducible refine gate_callee (f := 15) rfl ?_); refine goesL_ (some 9) rfl rfl Tryd.func15 (by kernel_rfl) rfl #[.slice A0 l0.length c0] rfl tq_0 ?_; (with_reducible refine (laws_big.calls _ _ l0 t482 _ ?side1 ?side2 A2.out).mono ?_); (case side1 => exact tq_93); (case side2 => exact HC0.out); rintro e w' ⟨rfl, ⟨nd, rfl⟩⟩; refine ⟨_, rfl, ?_⟩))
 (try simp only [Act.put, List.setIfInBounds_toArray, List.set_cons_zero, List.set_cons_succ])
 go_cut [] (fun wc => ∃ (kq : Nat), Aside0 (laws_FnAnyInode.j0 kq l0 = some r) ∧ Aside0 (kq ≤ k) ∧ Aside0 (Below w.heap.size w wc))
 case first =>
  have H := HC3.out
  clear HC3
  by_cases c4 : t482 = true
  ·subst c4
   rw [if_pos rfl] at H
   obtain rfl := Option.some.inj H
   go_wp2
   go_ret
   exact ⟨tq_2, th_⟩
  replace c4 := Bool.eq_false_iff.mpr c4
  subst c4
  rw [if_neg nf_] at H
  have H' := Aside0.mk H
  clear H
  go_wp2
  go_meet
  case rel => exact ⟨_, H', ⟨tq_26⟩, ⟨th_⟩⟩
 case rest =>
 clear HC3
 try clear c1; try clear p2; try clear c4
 obtain ⟨kq, HA, HJ2, HB⟩ := hcut
 cases kq with
 | zero => exact absurd HA.out (by simp [laws_FnAnyInode.j0])
 | succ kj2 =>
 have H := HA.out
 clear HA
 simp only [laws_FnAnyInode.j0] at H
 obtain ⟨t483, A5, H⟩ := bd_ H
 obtain ⟨⟨t486, t487, t488, t489, t490, t493, t496⟩, A6, H⟩ := bd_ H
 try dsimp -simprocs only at H
 obtain ⟨⟨t498, t499, t500, t501, t502, t505, t508⟩, A7, H⟩ := bd_ H
 try dsimp -simprocs only at H
 have HC8 := Aside0.mk H
 clear H
 go_upto_region 6 with (first | ((with_reducible refine gate_callee (f := 27) rfl ?_); refine goesL_ (some 11) rfl rfl Tryd.func27 (by kernel_rfl) rfl #[.slice A0 l0.length c0] rfl tq_0 ?_; (with_reducible refine (spec_DrawReadInode.calls kj2 _ _ l0 t483 _ ?side1 ?side2 A5.out).mono ?_); (case side1 => exact tq_35); (case side2 => exact HC0.out); rintro e w9 ⟨v484, rfl, ho0, hb⟩; refine ⟨_, rfl, ?_⟩; have z_ := p_ (Kd.R_lower ho0 (below_size th_)) <| a_ (below_step th_ hb); clear HB; obtain ⟨HO485, HB⟩ := z_; (try clear hb); (try clear ho0); obtain ⟨Ao10, co10, eo10⟩ := Kd.R_slice HO485.out; subst eo10) | ((with_reducible refine gate_callee (f := 9) rfl ?_); refine goesL_ (some 14) rfl rfl Tryd.func9 (by kernel_rfl) rfl #[.slice Ao10 t483.length co10] rfl tq_0 ?_; (with_reducible refine (impl_ReadInode.calls kj2 _ _ t483 t486 t487 t488 t489 t490 t493 t496 _ ?side1 ?side2 A6.out).mono ?_); (case side1 => repeat (first | exact (Kd.R_reads' HO485.out).2.2 | (with_reducible refine Kd.C_alloc ?_ _) | (with_reducible refine Kd.C_drewN ?_ _) | (with_reducible refine Kd.C_drew ?_))); (case side2 => exact (Kd.R_reads' HO485.out).2.1); rintro e w11 ⟨v491, v494, rfl, ho0, ho1, hb⟩; refine ⟨_, rfl, ?_⟩; have z_ := p_ (Kd.R_below (raR_ HO485) hb) <| p_ (Kd.R_lower ho0 (below_size th_)) <| p_ (Kd.R_lower ho1 (below_size th_)) <| a_ (below_step th_ hb); clear HO485 HB; obtain ⟨HO485, HO492, HO495, HB⟩ := z_; (try clear hb); (try clear ho0); (try clear ho1)) | ((with_reducible refine gate_dst (N := 4) rfl ?_); (try (refine gate_guard (by rfl) ?_; dsimp only)); refine be_ 4 (cs := #[.int .i64 0, .int .i64 0, .int .i64 0, .string (⟨#[]⟩ : ByteArray), .slice none 0 0, .slice none 0 0]) 27 ?_; intro gb497 hg w12 hbox hb; have z_ := p_ (Kd.R_below (raR_ HO485) hb) <| p_ (Kd.R_below (raR_ HO492) hb) <| p_ (Kd.R_below (raR_ HO495) hb) <| bx0_ th_ hb hbox hg; clear HO485 HO492 HO495 HB; obtain ⟨HO485, HO492, HO495, HB, BK497, GW497, GE497⟩ := z_; clear hb hbox hg; obtain ⟨hcz13_0, hcz13_1, hcz13_2, hcz13_3, hcz13_4, hcz13_5⟩ := bk6_ BK497.out; obtain ⟨hfz13_0, hfz13_1, hfz13_2, hfz13_3, hfz13_4, hfz13_5⟩ := bf6_ BK497.out; obtain ⟨Ao14, co14, eo14⟩ := Kd.R_slice HO492.out; subst eo14; obtain ⟨Ao15, co15, eo15⟩ := Kd.R_slice HO495.out; subst eo15) | ((with_reducible refine gate_callee (f := 7) rfl ?_); refine goesL_ (some 19) rfl rfl Tryd.func7 (by kernel_rfl) rfl #[.slice Ao10 t483.length co10] rfl tq_0 ?_; (with_reducible refine (spec_ReadInode.calls kj2 _ _ t483 t498 t499 t500 t501 t502 t505 t508 _ ?side1 ?side2 A7.out).mono ?_); (case side1 => refine (Kd.R_reads' (e := 9) (base := w.heap.size) (ok := fun k_ => True) (n := t483.length) (c := co10) ?_).2.2; exact tq_81); (case side2 => exact (Kd.R_reads' HO485.out).2.1); rintro e w16 ⟨v503, v506, rfl, ho0, ho1, hb⟩; refine ⟨_, rfl, ?_⟩; have z_ := p_ (Kd.R_below tq_81 hb) <| p_ (Kd.R_elder' tq_80 (Kd.R_base ho0) hb) <| p_ (Kd.R_elder' tq_78 (Kd.R_base ho1) hb) <| p_ (Kd.R_lower (Kd.R_new' ho0 (Kd.R_lt tq_80)) (below_size th_)) <| p_ (Kd.R_lower (Kd.R_new' ho1 (Kd.R_lt tq_78)) (below_size th_)) <| p_ (blk_below (g := gb497) (o := .cells #[.int .i64 t486, .int .i64 t487, .int .i64 t488, .string t489, .slice Ao14 t490.length co14, .slice Ao15 t493.length co15] 27 (0, 0)) (by (with_reducible repeat (first | refine blk_drewN ?_ _ | refine blk_drew ?_ | refine blk_alloc ?_ _)); refine blk_put (cs := #[.int .i64 t486, .int .i64 t487, .int .i64 t488, .string t489, .slice Ao14 t490.length co14, .slice none 0 0]) ?_ 5 _ rfl; (with_reducible repeat (first | refine blk_drewN ?_ _ | refine blk_drew ?_ | refine blk_alloc ?_ _)); refine blk_put (cs := #[.int .i64 t486, .int .i64 t487, .int .i64 t488, .string t489, .slice none 0 0, .slice none 0 0]) ?_ 4 _ rfl; (with_reducible repeat (first | refine blk_drewN ?_ _ | refine blk_drew ?_ | refine blk_alloc ?_ _)); refine blk_put (cs := #[.int .i64 t486, .int .i64 t487, .int .i64 t488, .string (⟨#[]⟩ : ByteArray), .slice none 0 0, .slice none 0 0]) ?_ 3 _ rfl; (with_reducible repeat (first | refine blk_drewN ?_ _ | refine blk_drew ?_ | refine blk_alloc ?_ _)); refine blk_put (cs := #[.int .i64 t486, .int .i64 t487, .int .i64 0, .string (⟨#[]⟩ : ByteArray), .slice none 0 0, .slice none 0 0]) ?_ 2 _ rfl; (with_reducible repeat (first | refine blk_drewN ?_ _ | refine blk_drew ?_ | refine blk_alloc ?_ _)); refine blk_put (cs := #[.int .i64 t486, .int .i64 0, .int .i64 0, .string (⟨#[]⟩ : ByteArray), .slice none 0 0, .slice none 0 0]) ?_ 1 _ rfl; (with_reducible repeat (first | refine blk_drewN ?_ _ | refine blk_drew ?_ | refine blk_alloc ?_ _)); refine blk_put (cs := #[.int .i64 0, .int .i64 0, .int .i64 0, .string (⟨#[]⟩ : ByteArray), .slice none 0 0, .slice none 0 0]) ?_ 0 _ rfl; (with_reducible repeat (first | refine blk_drewN ?_ _ | refine blk_drew ?_ | refine blk_alloc ?_ _)); exact BK497.out) hb) <| a_ (below_step th_ hb); clear HO485 HO492 HO495 BK497 HB; obtain ⟨HO485, HO492, HO495, HO504, HO507, BK497, HB⟩ := z_; (try clear hb); (try clear hk); (try clear ho1)) | ((with_reducible refine gate_dst (N := 6) rfl ?_); (try (refine gate_guard (by rfl) ?_; dsimp only)); refine be_ 6 (cs := #[.int .i64 0, .int .i64 0, .int .i64 0, .string (⟨#[]⟩ : ByteArray), .slice none 0 0, .slice none 0 0]) 27 ?_; intro gb509 hg w17 hbox hb; have z_ := p_ (Kd.R_below (raR_ HO485) hb) <| p_ (Kd.R_below (raR_ HO492) hb) <| p_ (Kd.R_below (raR_ HO495) hb) <| p_ (Kd.R_below (raR_ HO504) hb) <| p_ (Kd.R_below (raR_ HO507) hb) <| bx1_ (kb_ BK497) th_ hb hbox hg; clear HO485 HO492 HO495 HO504 HO507 BK497 HB; obtain ⟨HO485, HO492, HO495, HO504, HO507, BK497, HB, BK509, GW509, GE509, NB497_509, NB509_497⟩ := z_; clear hb hbox hg; obtain ⟨n509_497, n497_509⟩ := an2_ NB509_497 NB497_509; obtain ⟨hcz19_0, hcz19_1, hcz19_2, hcz19_3, hcz19_4, hcz19_5⟩ := bk6_ BK509.out; obtain ⟨hfz19_0, hfz19_1, hfz19_2, hfz19_3, hfz19_4, hfz19_5⟩ := bf6_ BK509.out; obtain ⟨Ao20, co20, eo20⟩ := Kd.R_slice HO504.out; subst eo20; obtain ⟨Ao21, co21, eo21⟩ := Kd.R_slice HO507.out; subst eo21))
 (try simp only [Act.put, List.setIfInBounds_toArray, List.set_cons_zero, List.set_cons_succ])
 go_cut [30] (fun v30 wc => ∃ (kq : Nat) (x30_7 : Bool), v30 = .bool x30_7 ∧ Aside0 (laws_FnAnyInode.j1 kq t483 t496 x30_7 t486 t487 t488 t489 t490 t493 = some r) ∧ Aside0 (kq ≤ kj2) ∧ Aside0 (Kd.R Kd.string 9 wc w.heap.size (fun _ => True) (.slice Ao10 t483.length co10) t483) ∧ Aside0 (Kd.R k42 42 wc w.heap.size (fun k_ => some k_ ≠ ((.slice Ao20 t502.length co20) : Value).ownBlock) (.slice Ao14 t490.length co14) t490) ∧ Aside0 (Kd.R k47 47 wc w.heap.size (fun k_ => some k_ ≠ ((.slice Ao21 t505.length co21) : Value).ownBlock) (.slice Ao15 t493.length co15) t493) ∧ Aside0 (Kd.R k42 42 wc w.heap.size (fun k_ => some k_ ≠ ((.slice Ao14 t490.length co14) : Value).ownBlock) (.slice Ao20 t502.length co20) t502) ∧ Aside0 (Kd.R k47 47 wc w.heap.size (fun k_ => some k_ ≠ ((.slice Ao15 t493.length co15) : Value).ownBlock) (.slice Ao21 t505.length co21) t505) ∧ Aside0 (wc.heap[gb497]? = some (.cells #[.int .i64 t486, .int .i64 t487, .int .i64 t488, .string t489, (.slice Ao14 t490.length co14), (.slice Ao15 t493.length co15)] 27 (0, 0))) ∧ Aside0 (wc.heap[gb509]? = some (.cells #[.int .i64 t498, .int .i64 t499, .int .i64 t500, .string t501, (.slice Ao20 t502.length co20), (.slice Ao21 t505.length co21)] 27 (0, 0))) ∧ Aside0 (Below w.heap.size w wc))
 case first =>
  have H := HC8.out
  clear HC8
  by_cases c22 : (t496 != t508) = true
  ·rw [if_pos c22] at H
   have c22b0 : (t496 != t508) = true := c22
   (try (have c22b1 : decide (t496 = t508) = false := by simpa using c22))
   (try (have c22b2 : (t496 == t508) = false := by simpa using c22))
   (try (have c22b3 : ¬ (t496 = t508) := by simpa using c22))
   clear c22
   (first | rw [c22b0] | (simp only [i64_w, i32_w]; rw [c22b0]) | rw [show (!(t496 == t508)) = true from c22b0] | skip)
   have H' := Aside0.mk H
   clear H
   go_wp2
   go_meet
   case rel => exact ⟨_, (true), tq_4, H', ⟨(by have := HJ2.out; first | omega | exact Nat.le_refl _)⟩, ⟨(by (with_reducible repeat (first | apply Kd.R_alloc | apply Kd.R_drewN | apply Kd.R_drew)); exact Kd.R_mono (rR_ (rR_ (rR_ (rR_ (rR_ (rR_ (Kd.R_types HO485.out BK509.out (by decide)))))))) (fun _ hk => trivial))⟩, ⟨(by (with_reducible repeat (first | apply Kd.R_alloc | apply Kd.R_drewN | apply Kd.R_drew)); exact Kd.R_mono (rR_ (rR_ (rR_ (rR_ (rR_ (rR_ (Kd.R_types HO492.out BK509.out (by decide)))))))) (fun _ hk => hk.1.2))⟩, ⟨(by (with_reducible repeat (first | apply Kd.R_alloc | apply Kd.R_drewN | apply Kd.R_drew)); exact Kd.R_mono (rR_ (rR_ (rR_ (rR_ (rR_ (rR_ (Kd.R_types HO495.out BK509.out (by decide)))))))) (fun _ hk => hk.1.2))⟩, ⟨(by (with_reducible repeat (first | apply Kd.R_alloc | apply Kd.R_drewN | apply Kd.R_drew)); exact Kd.R_mono (rR_ (rR_ (rR_ (rR_ (rR_ (rR_ (Kd.R_types HO504.out BK509.out (by decide)))))))) (fun _ hk => hk.1.2))⟩, ⟨(by (with_reducible repeat (first | apply Kd.R_alloc | apply Kd.R_drewN | apply Kd.R_drew)); exact Kd.R_mono (rR_ (rR_ (rR_ (rR_ (rR_ (rR_ (Kd.R_types HO507.out BK509.out (by decide)))))))) (fun _ hk => hk.1.2))⟩, ⟨tb_⟩, ⟨tb_⟩, ⟨th_⟩⟩
  rw [if_neg c22] at H
  have c22b0 : (t496 != t508) = false := by simpa using c22
  (try (have c22b1 : decide (t496 = t508) = true := by simpa using c22))
  (try (have c22b2 : (t496 == t508) = true := by simpa using c22))
  clear c22
  (first | rw [c22b0] | (simp only [i64_w, i32_w]; rw [c22b0]) | rw [show (!(t496 == t508)) = false from c22b0] | skip)
  obtain ⟨t510, A23, H⟩ := bd_ H
  have H' := Aside0.mk H
  clear H
  obtain ⟨hcz25_0, hcz25_1, hcz25_2, hcz25_3, hcz25_4, hcz25_5⟩ := bk6_ BK497.out
  obtain ⟨hfz25_0, hfz25_1, hfz25_2, hfz25_3, hfz25_4, hfz25_5⟩ := bf6_ BK497.out
  obtain ⟨hcz26_0, hcz26_1, hcz26_2, hcz26_3, hcz26_4, hcz26_5⟩ := bk6_ BK509.out
  obtain ⟨hfz26_0, hfz26_1, hfz26_2, hfz26_3, hfz26_4, hfz26_5⟩ := bf6_ BK509.out
  go_wp2_with (first | (go_at_call 26; (with_reducible refine (laws_sameInode.calls kj2 t486 t487 t488 t489 _ _ t490 _ _ t493 t498 t499 t500 t501 _ _ t502 _ _ t505 t510 _ ?side1 ?side2 ?side3 ?side4 ?side5 ?side6 ?side7 ?side8 A23.out).mono ?_); (case side1 => refine (Kd.R_reads' (e := 42) (base := w.heap.size) (ok := fun k_ => (True ∧ some k_ ≠ (.slice Ao20 t502.length co20 : Value).ownBlock)) (n := t490.length) (c := co14) ?_).2.2; exact tq_79); (case side2 => exact (Kd.R_reads' HO492.out).2.1); (case side3 => refine (Kd.R_reads' (e := 47) (base := w.heap.size) (ok := fun k_ => (True ∧ some k_ ≠ (.slice Ao21 t505.length co21 : Value).ownBlock)) (n := t493.length) (c := co15) ?_).2.2; exact tq_77); (case side4 => exact (Kd.R_reads' HO495.out).2.1); (case side5 => refine (Kd.R_reads' (e := 42) (base := w.heap.size) (ok := fun k_ => (True ∧ some k_ ≠ (.slice Ao14 t490.length co14 : Value).ownBlock)) (n := t502.length) (c := co20) ?_).2.2; exact tq_76); (case side6 => exact (Kd.R_reads' HO504.out).2.1); (case side7 => refine (Kd.R_reads' (e := 47) (base := w.heap.size) (ok := fun k_ => (True ∧ some k_ ≠ (.slice Ao15 t493.length co15 : Value).ownBlock)) (n := t505.length) (c := co21) ?_).2.2; exact tq_75); (case side8 => exact (Kd.R_reads' HO507.out).2.1); rintro e w27 ⟨rfl, hb⟩; have z_ := p_ (Kd.R_below (by (with_reducible repeat (first | apply Kd.R_alloc | apply Kd.R_drewN | apply Kd.R_drew)); exact (Kd.R_mono (rR_ (rR_ (rR_ (rR_ (rR_ (rR_ (Kd.R_types HO485.out BK509.out (by decide)))))))) (fun _ h_ => h_.1))) hb) <| p_ (Kd.R_below tq_79 hb) <| p_ (Kd.R_below tq_77 hb) <| p_ (Kd.R_below tq_76 hb) <| p_ (Kd.R_below tq_75 hb) <| p_ (blk_below (g := gb497) (o := .cells #[.int .i64 t486, .int .i64 t487, .int .i64 t488, .string t489, .slice Ao14 t490.length co14, .slice Ao15 t493.length co15] 27 (0, 0)) (by (with_reducible repeat (first | refine blk_drewN ?_ _ | refine blk_drew ?_ | refine blk_alloc ?_ _)); refine blk_far ?_ NB497_509.out _; (with_reducible repeat (first | refine blk_drewN ?_ _ | refine blk_drew ?_ | refine blk_alloc ?_ _)); refine blk_far ?_ NB497_509.out _; (with_reducible repeat (first | refine blk_drewN ?_ _ | refine blk_drew ?_ | refine blk_alloc ?_ _)); refine blk_far ?_ NB497_509.out _; (with_reducible repeat (first | refine blk_drewN ?_ _ | refine blk_drew ?_ | refine blk_alloc ?_ _)); refine blk_far ?_ NB497_509.out _; (with_reducible repeat (first | refine blk_drewN ?_ _ | refine blk_drew ?_ | refine blk_alloc ?_ _)); refine blk_far ?_ NB497_509.out _; (with_reducible repeat (first | refine blk_drewN ?_ _ | refine blk_drew ?_ | refine blk_alloc ?_ _)); refine blk_far ?_ NB497_509.out _; (with_reducible repeat (first | refine blk_drewN ?_ _ | refine blk_drew ?_ | refine blk_alloc ?_ _)); exact BK497.out) hb) <| p_ (blk_below (g := gb509) (o := .cells #[.int .i64 t498, .int .i64 t499, .int .i64 t500, .string t501, .slice Ao20 t502.length co20, .slice Ao21 t505.length co21] 27 (0, 0)) (by (with_reducible repeat (first | refine blk_drewN ?_ _ | refine blk_drew ?_ | refine blk_alloc ?_ _)); refine blk_put (cs := #[.int .i64 t498, .int .i64 t499, .int .i64 t500, .string t501, .slice Ao20 t502.length co20, .slice none 0 0]) ?_ 5 _ rfl; (with_reducible repeat (first | refine blk_drewN ?_ _ | refine blk_drew ?_ | refine blk_alloc ?_ _)); refine blk_put (cs := #[.int .i64 t498, .int .i64 t499, .int .i64 t500, .string t501, .slice none 0 0, .slice none 0 0]) ?_ 4 _ rfl; (with_reducible repeat (first | refine blk_drewN ?_ _ | refine blk_drew ?_ | refine blk_alloc ?_ _)); refine blk_put (cs := #[.int .i64 t498, .int .i64 t499, .int .i64 t500, .string (⟨#[]⟩ : ByteArray), .slice none 0 0, .slice none 0 0]) ?_ 3 _ rfl; (with_reducible repeat (first | refine blk_drewN ?_ _ | refine blk_drew ?_ | refine blk_alloc ?_ _)); refine blk_put (cs := #[.int .i64 t498, .int .i64 t499, .int .i64 0, .string (⟨#[]⟩ : ByteArray), .slice none 0 0, .slice none 0 0]) ?_ 2 _ rfl; (with_reducible repeat (first | refine blk_drewN ?_ _ | refine blk_drew ?_ | refine blk_alloc ?_ _)); refine blk_put (cs := #[.int .i64 t498, .int .i64 0, .int .i64 0, .string (⟨#[]⟩ : ByteArray), .slice none 0 0, .slice none 0 0]) ?_ 1 _ rfl; (with_reducible repeat (first | refine blk_drewN ?_ _ | refine blk_drew ?_ | refine blk_alloc ?_ _)); refine blk_put (cs := #[.int .i64 0, .int .i64 0, .int .i64 0, .string (⟨#[]⟩ : ByteArray), .slice none 0 0, .slice none 0 0]) ?_ 0 _ rfl; (with_reducible repeat (first | refine blk_drewN ?_ _ | refine blk_drew ?_ | refine blk_alloc ?_ _)); exact BK509.out) hb) <| a_ (below_step th_ hb); clear HO485 HO492 HO495 HO504 HO507 BK497 BK509 HB; obtain ⟨HO485, HO492, HO495, HO504, HO507, BK497, BK509, HB⟩ := z_; (try clear hb); (try clear hk)))
  go_meet
  case rel => exact ⟨_, (!t510), tq_4, H', ⟨(by have := HJ2.out; first | omega | exact Nat.le_refl _)⟩, ⟨(raR_ HO485)⟩, ⟨(by (with_reducible repeat (first | apply Kd.R_alloc | apply Kd.R_drewN | apply Kd.R_drew)); exact Kd.R_mono HO492.out (fun _ hk => hk.2))⟩, ⟨(by (with_reducible repeat (first | apply Kd.R_alloc | apply Kd.R_drewN | apply Kd.R_drew)); exact Kd.R_mono HO495.out (fun _ hk => hk.2))⟩, ⟨(by (with_reducible repeat (first | apply Kd.R_alloc | apply Kd.R_drewN | apply Kd.R_drew)); exact Kd.R_mono HO504.out (fun _ hk => hk.2))⟩, ⟨(by (with_reducible repeat (first | apply Kd.R_alloc | apply Kd.R_drewN | apply Kd.R_drew)); exact Kd.R_mono HO507.out (fun _ hk => hk.2))⟩, ⟨(kb_ BK497)⟩, ⟨(kb_ BK509)⟩, ⟨th_⟩⟩
 case rest =>
 clear HC8
 try clear c1; try clear c2; try clear p2; try clear c4; try clear c5; try clear c7; try clear c9; try clear c15; try clear c18; try clear c22; try clear c22b0; try clear c22b1; try clear c22b2; try clear c24; try clear c27; try clear hcz13_0 hcz13_1 hcz13_2 hcz13_3 hcz13_4 hcz13_5; try clear hcz19_0 hcz19_1 hcz19_2 hcz19_3 hcz19_4 hcz19_5; try clear hcz25_0 hcz25_1 hcz25_2 hcz25_3 hcz25_4 hcz25_5; try clear hcz26_0 hcz26_1 hcz26_2 hcz26_3 hcz26_4 hcz26_5; try clear hfz13_0 hfz13_1 hfz13_2 hfz13_3 hfz13_4 hfz13_5; try clear hfz19_0 hfz19_1 hfz19_2 hfz19_3 hfz19_4 hfz19_5; try clear hfz25_0 hfz25_1 hfz25_2 hfz25_3 hfz25_4 hfz25_5; try clear hfz26_0 hfz26_1 hfz26_2 hfz26_3 hfz26_4 hfz26_5; try clear p2
 obtain ⟨kq, x30_7, rfl, HA, HJ7, HO_3, HO_498004, HO_498005, HO_510004, HO_510005, BK497, BK509, HB⟩ := hcut
 cases kq with
 | zero => exact absurd HA.out (by simp [laws_FnAnyInode.j1])
 | succ kj7 =>
 have H := HA.out
 clear HA
 simp only [laws_FnAnyInode.j1] at H
 have HC28 := Aside0.mk H
 clear H
 go_upto_if 30 with (fail)
 go_cut [] (fun wc => ∃ (kq : Nat), Aside0 (laws_FnAnyInode.j2 kq t483 t496 t486 t487 t488 t489 t490 t493 = some r) ∧ Aside0 (kq ≤ kj7) ∧ Aside0 (Kd.R Kd.string 9 wc w.heap.size (fun _ => True) (.slice Ao10 t483.length co10) t483) ∧ Aside0 (Kd.R k42 42 wc w.heap.size (fun k_ => some k_ ≠ ((.slice Ao20 t502.length co20) : Value).ownBlock) (.slice Ao14 t490.length co14) t490) ∧ Aside0 (Kd.R k47 47 wc w.heap.size (fun k_ => some k_ ≠ ((.slice Ao21 t505.length co21) : Value).ownBlock) (.slice Ao15 t493.length co15) t493) ∧ Aside0 (Kd.R k42 42 wc w.heap.size (fun k_ => some k_ ≠ ((.slice Ao14 t490.length co14) : Value).ownBlock) (.slice Ao20 t502.length co20) t502) ∧ Aside0 (Kd.R k47 47 wc w.heap.size (fun k_ => some k_ ≠ ((.slice Ao15 t493.length co15) : Value).ownBlock) (.slice Ao21 t505.length co21) t505) ∧ Aside0 (wc.heap[gb497]? = some (.cells #[.int .i64 t486, .int .i64 t487, .int .i64 t488, .string t489, (.slice Ao14 t490.length co14), (.slice Ao15 t493.length co15)] 27 (0, 0))) ∧ Aside0 (wc.heap[gb509]? = some (.cells #[.int .i64 t498, .int .i64 t499, .int .i64 t500, .string t501, (.slice Ao20 t502.length co20), (.slice Ao21 t505.length co21)] 27 (0, 0))) ∧ Aside0 (Below w.heap.size w wc))
 case first =>
  have H := HC28.out
  clear HC28
  by_cases c29 : x30_7 = true
  ·subst c29
   rw [if_pos rfl] at H
   obtain rfl := Option.some.inj H
   go_wp2
   go_ret
   exact ⟨tq_2, th_⟩
  replace c29 := Bool.eq_false_iff.mpr c29
  subst c29
  rw [if_neg nf_] at H
  have H' := Aside0.mk H
  clear H
  go_wp2
  go_meet
  case rel => exact ⟨_, H', ⟨(by have := HJ2.out; have := HJ7.out; first | omega | exact Nat.le_refl _)⟩, ⟨(raR_ HO_3)⟩, ⟨(raR_ HO_498004)⟩, ⟨(raR_ HO_498005)⟩, ⟨(raR_ HO_510004)⟩, ⟨(raR_ HO_510005)⟩, ⟨(kb_ BK497)⟩, ⟨(kb_ BK509)⟩, ⟨th_⟩⟩
 case rest =>
 clear HC28
 try clear c1; try clear c2; try clear p2; try clear c4; try clear c5; try clear c7; try clear c9; try clear c15; try clear c18; try clear c22; try clear c22b0; try clear c22b1; try clear c22b2; try clear c24; try clear c27; try clear c29; try clear hcz13_0 hcz13_1 hcz13_2 hcz13_3 hcz13_4 hcz13_5; try clear hcz19_0 hcz19_1 hcz19_2 hcz19_3 hcz19_4 hcz19_5; try clear hcz25_0 hcz25_1 hcz25_2 hcz25_3 hcz25_4 hcz25_5; try clear hcz26_0 hcz26_1 hcz26_2 hcz26_3 hcz26_4 hcz26_5; try clear hfz13_0 hfz13_1 hfz13_2 hfz13_3 hfz13_4 hfz13_5; try clear hfz19_0 hfz19_1 hfz19_2 hfz19_3 hfz19_4 hfz19_5; try clear hfz25_0 hfz25_1 hfz25_2 hfz25_3 hfz25_4 hfz25_5; try clear hfz26_0 hfz26_1 hfz26_2 hfz26_3 hfz26_4 hfz26_5; try clear p2
 obtain ⟨kq, HA, HJ27, HO_3, HO_498004, HO_498005, HO_510004, HO_510005, BK497, BK509, HB⟩ := hcut
 cases kq with
 | zero => exact absurd HA.out (by simp [laws_FnAnyInode.j2])
 | succ kj27 =>
 have H := HA.out
 clear HA
 simp only [laws_FnAnyInode.j2] at H
 by_cases c30 : t496 = true
 rotate_left
 ·replace c30 := Bool.eq_false_iff.mpr c30
  subst c30
  rw [if_neg nf_] at H
  obtain ⟨t519, A54, H⟩ := bd_ H
  obtain rfl := Option.some.inj H
  go_wp2_with (first | (go_at_call 17; (refine (impl_InodeWords.calls kj27 0 0 0 (⟨#[]⟩ : ByteArray) _ _ ([] : List (S42)) _ _ ([] : List (S47)) t519 _ ?side1 ?side2 ?side3 ?side4 A54.out).mono ?_); (case side1 => exact Kd.C_nil ..); (case side2 => exact Nat.le_refl _); (case side3 => exact Kd.C_nil ..); (case side4 => exact Nat.le_refl _); rintro e w55 ⟨v520, rfl, ho0, hb⟩; have z_ := p_ (Kd.R_elder' (raR_ HO_3) (Kd.R_base ho0) hb) <| p_ (Kd.R_below (raR_ HO_498004) hb) <| p_ (Kd.R_below (raR_ HO_498005) hb) <| p_ (Kd.R_below (raR_ HO_510004) hb) <| p_ (Kd.R_below (raR_ HO_510005) hb) <| p_ (Kd.R_lower (Kd.R_new' ho0 (Kd.R_lt (raR_ HO_3))) (below_size th_)) <| bw2_ (kb_ BK497) (kb_ BK509) th_ hb; clear HO_3 HO_498004 HO_498005 HO_510004 HO_510005 BK497 BK509 HB; obtain ⟨HO_3, HO_498004, HO_498005, HO_510004, HO_510005, HO521, BK497, BK509, HB⟩ := z_; (try clear hb); (try clear ho0); obtain ⟨Ao56, co56, eo56⟩ := Kd.R_slice HO521.out; subst eo56))
  go_ret
  exact ⟨tq_2, th_⟩
 subst c30
 rw [if_pos rfl] at H
 obtain ⟨t511, A31, H⟩ := bd_ H
 by_cases c32 : t511 = true
 rotate_left
 ·replace c32 := Bool.eq_false_iff.mpr c32
  subst c32
  rw [if_neg nf_] at H
  obtain rfl := Option.some.inj H
  obtain ⟨hcz52_0, hcz52_1, hcz52_2, hcz52_3, hcz52_4, hcz52_5⟩ := bk6_ BK497.out
  obtain ⟨hfz52_0, hfz52_1, hfz52_2, hfz52_3, hfz52_4, hfz52_5⟩ := bf6_ BK497.out
  go_wp2_with (first | (go_at_call 18; (with_reducible refine (spec_InodeOk.calls kj27 t486 t487 t488 t489 _ _ t490 _ _ t493 false _ ?side1 ?side2 ?side3 ?side4 A31.out).mono ?_); (case side1 => exact tq_43); (case side2 => exact (Kd.R_reads' HO_498004.out).2.1); (case side3 => exact tq_42); (case side4 => exact (Kd.R_reads' HO_498005.out).2.1); rintro e w53 ⟨rfl, hb⟩; have z_ := p_ (Kd.R_below (raR_ HO_3) hb) <| p_ (Kd.R_below (raR_ HO_498004) hb) <| p_ (Kd.R_below (raR_ HO_498005) hb) <| p_ (Kd.R_below (raR_ HO_510004) hb) <| p_ (Kd.R_below (raR_ HO_510005) hb) <| bw2_ (kb_ BK497) (kb_ BK509) th_ hb; clear HO_3 HO_498004 HO_498005 HO_510004 HO_510005 BK497 BK509 HB; obtain ⟨HO_3, HO_498004, HO_498005, HO_510004, HO_510005, BK497, BK509, HB⟩ := z_; (try clear hb)))
  go_ret
  exact ⟨tq_2, th_⟩
 subst c32
 rw [if_pos rfl] at H
 obtain ⟨t512, A33, H⟩ := bd_ H
 obtain ⟨t515, A34, H⟩ := bd_ H
 by_cases c35 : t515 = true
 rotate_left
 ·replace c35 := Bool.eq_false_iff.mpr c35
  subst c35
  rw [if_neg nf_] at H
  obtain rfl := Option.some.inj H
  obtain ⟨hcz46_0, hcz46_1, hcz46_2, hcz46_3, hcz46_4, hcz46_5⟩ := bk6_ BK497.out
  obtain ⟨hfz46_0, hfz46_1, hfz46_2, hfz46_3, hfz46_4, hfz46_5⟩ := bf6_ BK497.out
  go_wp2_with (first | (go_at_call 18; (with_reducible refine (spec_InodeOk.calls kj27 t486 t487 t488 t489 _ _ t490 _ _ t493 true _ ?side1 ?side2 ?side3 ?side4 A31.out).mono ?_); (case side1 => exact tq_43); (case side2 => exact (Kd.R_reads' HO_498004.out).2.1); (case side3 => exact tq_42); (case side4 => exact (Kd.R_reads' HO_498005.out).2.1); rintro e w47 ⟨rfl, hb⟩; have z_ := p_ (Kd.R_below (raR_ HO_3) hb) <| p_ (Kd.R_below (raR_ HO_498004) hb) <| p_ (Kd.R_below (raR_ HO_498005) hb) <| p_ (Kd.R_below (raR_ HO_510004) hb) <| p_ (Kd.R_below (raR_ HO_510005) hb) <| bw2_ (kb_ BK497) (kb_ BK509) th_ hb; clear HO_3 HO_498004 HO_498005 HO_510004 HO_510005 BK497 BK509 HB; obtain ⟨HO_3, HO_498004, HO_498005, HO_510004, HO_510005, BK497, BK509, HB⟩ := z_; (try clear hb); obtain ⟨hcz48_0, hcz48_1, hcz48_2, hcz48_3, hcz48_4, hcz48_5⟩ := bk6_ BK497.out; obtain ⟨hfz48_0, hfz48_1, hfz48_2, hfz48_3, hfz48_4, hfz48_5⟩ := bf6_ BK497.out) | (go_at_call 17; (with_reducible refine (impl_InodeWords.calls kj27 t486 t487 t488 t489 _ _ t490 _ _ t493 t512 _ ?side1 ?side2 ?side3 ?side4 A33.out).mono ?_); (case side1 => exact tq_43); (case side2 => exact (Kd.R_reads' HO_498004.out).2.1); (case side3 => exact tq_42); (case side4 => exact (Kd.R_reads' HO_498005.out).2.1); rintro e w49 ⟨v513, rfl, ho0, hb⟩; have z_ := p_ (Kd.R_elder' (raR_ HO_3) (Kd.R_base ho0) hb) <| p_ (Kd.R_below (raR_ HO_498004) hb) <| p_ (Kd.R_below (raR_ HO_498005) hb) <| p_ (Kd.R_below (raR_ HO_510004) hb) <| p_ (Kd.R_below (raR_ HO_510005) hb) <| p_ (Kd.R_lower (Kd.R_new' ho0 (Kd.R_lt (raR_ HO_3))) (below_size th_)) <| bw2_ (kb_ BK497) (kb_ BK509) th_ hb; clear HO_3 HO_498004 HO_498005 HO_510004 HO_510005 BK497 BK509 HB; obtain ⟨HO_3, HO_498004, HO_498005, HO_510004, HO_510005, HO514, BK497, BK509, HB⟩ := z_; (try clear hb); (try clear ho0); obtain ⟨Ao50, co50, eo50⟩ := Kd.R_slice HO514.out; subst eo50) | (go_at_call 28; (with_reducible refine (laws_sameTexts.calls kj27 _ _ t512 _ _ t483 false _ ?side1 ?side2 ?side3 ?side4 A34.out).mono ?_); (case side1 => exact tq_88); (case side2 => exact (Kd.R_reads' HO514.out).2.1); (case side3 => exact tq_91); (case side4 => exact (Kd.R_reads' HO_3.out).2.1); rintro e w' ⟨rfl, ⟨nd, rfl⟩⟩))
  go_ret
  exact ⟨tq_2, th_⟩
 subst c35
 rw [if_pos rfl] at H
 obtain ⟨t516, A36, H⟩ := bd_ H
 obtain rfl := Option.some.inj H
 obtain ⟨hcz38_0, hcz38_1, hcz38_2, hcz38_3, hcz38_4, hcz38_5⟩ := bk6_ BK497.out
 obtain ⟨hfz38_0, hfz38_1, hfz38_2, hfz38_3, hfz38_4, hfz38_5⟩ := bf6_ BK497.out
 go_wp2_with (first | (go_at_call 18; (with_reducible refine (spec_InodeOk.calls kj27 t486 t487 t488 t489 _ _ t490 _ _ t493 true _ ?side1 ?side2 ?side3 ?side4 A31.out).mono ?_); (case side1 => exact tq_43); (case side2 => exact (Kd.R_reads' HO_498004.out).2.1); (case side3 => exact tq_42); (case side4 => exact (Kd.R_reads' HO_498005.out).2.1); rintro e w39 ⟨rfl, hb⟩; have z_ := p_ (Kd.R_below (raR_ HO_3) hb) <| p_ (Kd.R_below (raR_ HO_498004) hb) <| p_ (Kd.R_below (raR_ HO_498005) hb) <| p_ (Kd.R_below (raR_ HO_510004) hb) <| p_ (Kd.R_below (raR_ HO_510005) hb) <| bw2_ (kb_ BK497) (kb_ BK509) th_ hb; clear HO_3 HO_498004 HO_498005 HO_510004 HO_510005 BK497 BK509 HB; obtain ⟨HO_3, HO_498004, HO_498005, HO_510004, HO_510005, BK497, BK509, HB⟩ := z_; (try clear hb); obtain ⟨hcz40_0, hcz40_1, hcz40_2, hcz40_3, hcz40_4, hcz40_5⟩ := bk6_ BK497.out; obtain ⟨hfz40_0, hfz40_1, hfz40_2, hfz40_3, hfz40_4, hfz40_5⟩ := bf6_ BK497.out) | (go_at_call 17; (with_reducible refine (impl_InodeWords.calls kj27 t486 t487 t488 t489 _ _ t490 _ _ t493 t512 _ ?side1 ?side2 ?side3 ?side4 A33.out).mono ?_); (case side1 => exact tq_43); (case side2 => exact (Kd.R_reads' HO_498004.out).2.1); (case side3 => exact tq_42); (case side4 => exact (Kd.R_reads' HO_498005.out).2.1); rintro e w41 ⟨v513, rfl, ho0, hb⟩; have z_ := p_ (Kd.R_elder' (raR_ HO_3) (Kd.R_base ho0) hb) <| p_ (Kd.R_below (raR_ HO_498004) hb) <| p_ (Kd.R_below (raR_ HO_498005) hb) <| p_ (Kd.R_below (raR_ HO_510004) hb) <| p_ (Kd.R_below (raR_ HO_510005) hb) <| p_ (Kd.R_lower (Kd.R_new' ho0 (Kd.R_lt (raR_ HO_3))) (below_size th_)) <| bw2_ (kb_ BK497) (kb_ BK509) th_ hb; clear HO_3 HO_498004 HO_498005 HO_510004 HO_510005 BK497 BK509 HB; obtain ⟨HO_3, HO_498004, HO_498005, HO_510004, HO_510005, HO514, BK497, BK509, HB⟩ := z_; (try clear hb); (try clear ho0); obtain ⟨Ao42, co42, eo42⟩ := Kd.R_slice HO514.out; subst eo42) | (go_at_call 28; (with_reducible refine (laws_sameTexts.calls kj27 _ _ t512 _ _ t483 true _ ?side1 ?side2 ?side3 ?side4 A34.out).mono ?_); (case side1 => exact tq_88); (case side2 => exact (Kd.R_reads' HO514.out).2.1); (case side3 => exact tq_91); (case side4 => exact (Kd.R_reads' HO_3.out).2.1); rintro e w' ⟨rfl, ⟨nd, rfl⟩⟩) | (go_at_call 17; (refine (impl_InodeWords.calls kj27 0 0 0 (⟨#[]⟩ : ByteArray) _ _ ([] : List (S42)) _ _ ([] : List (S47)) t516 _ ?side1 ?side2 ?side3 ?side4 A36.out).mono ?_); (case side1 => exact Kd.C_nil ..); (case side2 => exact Nat.le_refl _); (case side3 => exact Kd.C_nil ..); (case side4 => exact Nat.le_refl _); rintro e w43 ⟨v517, rfl, ho0, hb⟩; have z_ := p_ (Kd.R_elder' (raR_ HO_3) (Kd.R_base ho0) hb) <| p_ (Kd.R_below (raR_ HO_498004) hb) <| p_ (Kd.R_below (raR_ HO_498005) hb) <| p_ (Kd.R_below (raR_ HO_510004) hb) <| p_ (Kd.R_below (raR_ HO_510005) hb) <| p_ (Kd.R_elder' (raR_ HO514) (Kd.R_base ho0) hb) <| p_ (Kd.R_lower (Kd.R_new' (Kd.R_new' ho0 (Kd.R_lt (raR_ HO_3))) (Kd.R_lt (raR_ HO514))) (below_size th_)) <| bw2_ (kb_ BK497) (kb_ BK509) th_ hb; clear HO_3 HO_498004 HO_498005 HO_510004 HO_510005 HO514 BK497 BK509 HB; obtain ⟨HO_3, HO_498004, HO_498005, HO_510004, HO_510005, HO514, HO518, BK497, BK509, HB⟩ := z_; (try clear hb); (try clear ho0); obtain ⟨Ao44, co44, eo44⟩ := Kd.R_slice HO518.out; subst eo44))
 go_ret
 exact ⟨tq_2, th_⟩


end Go.Proofs.YtjfhddenmnjgbaaDoor.PFnAnyInode
