/- Contracts of Go functions, written by a program of ours over the print of the kit: each says that the call returns what the Lean function beside it computes. Conditions: as each theorem states them. -/
import Derived.Test.YtljnnmpfeningaaPkFnViews
import Derived.Test.YtljnnmpfeningaaPFnViewsx0
import Derived.Test.YtljnnmpfeningaaPFnViewsx4
import Derived.Test.YtljnnmpfeningaaPFnViewsx5
namespace Go.Proofs.Ytljnnmpfeningaa.PFnViews
open Go.RowKit Go.Proofs.YtljnnmpfeningaaW.PrintWords Go.Proofs.YtljnnmpfeningaaW.PrintLast Go.Proofs.YtljnnmpfeningaaW.PrintMore
attribute [local go_sem] max2_int min2_int max_two min_two max_three min_three max_four min_four   -- for this text's walks alone
set_option linter.unusedVariables false
set_option linter.unusedSimpArgs false

/-! ### spec_LookUp: function 127 -/
mutual
def spec_LookUp.j0 : Nat → List ByteArray → Int → Bool → List (S44) → Option (Int)
 | 0, _, _, _, _ => none
 | k + 1, x5, x6, x21, x206000 => if x21 = true then (some 0) else (if x6 = 0 then (spec_LookUp.l0 k x5 1 x206000) else (some x6))
def spec_LookUp.l0 : Nat → List ByteArray → Int → List (S44) → Option (Int)
 | 0, _, _, _ => none
 | k + 1, x5, x7, x206000 => if x7 < (x5.length : Int) then (if 0 ≤ x7 then (if x7 ≤ (x5.length : Int) then ((spec_JoinPath.f k (x5.take (x7 : Int).toNat)).bind fun t215 => ((spec_ItemAt.f k x206000 t215).bind fun t216 => (if t216 < 0 then (some 3) else ((spec_l17Dir.f k x206000 t215).bind fun t217 => (if t217 = true then (spec_LookUp.l0 k x5 (wrap64 (x7 + 1)) x206000) else (some 4)))))) else (none)) else (none)) else (some 3)
end
def spec_LookUp.f (k : Nat) (l0_0 : List (S44)) (a1 : ByteArray) : Option (Int) := (spec_SplitPath.f k a1).bind fun bt206 => (if a1.toList = ([47] : List UInt8) then (spec_LookUp.j0 k bt206.1 bt206.2 true l0_0) else ((spec_ItemAt.f k l0_0 a1).bind fun t210 => (spec_LookUp.j0 k bt206.1 bt206.2 (decide (t210 ≥ 0)) l0_0)))
theorem spec_LookUp.mono_l : ∀ k, (∀ y0 y1 y2 y3, LeO (spec_LookUp.j0 k y0 y1 y2 y3) (spec_LookUp.j0 (k + 1) y0 y1 y2 y3)) ∧ (∀ y0 y1 y2, LeO (spec_LookUp.l0 k y0 y1 y2) (spec_LookUp.l0 (k + 1) y0 y1 y2))
 | 0 => ⟨fun _ _ _ _ r h => by simp [spec_LookUp.j0] at h, fun _ _ _ r h => by simp [spec_LookUp.l0] at h⟩
 | k + 1 => by
  obtain ⟨ih0, ih1⟩ := spec_LookUp.mono_l k
  refine ⟨?_, ?_⟩
  ·intro y0 y1 y2 y3
   unfold spec_LookUp.j0
   exact mo_3
  ·intro y0 y1 y2
   unfold spec_LookUp.l0
   exact mo_3
theorem spec_LookUp.mono : ∀ a0 a1 k, LeO (spec_LookUp.f k a0 a1) (spec_LookUp.f (k + 1) a0 a1) := by
 intro a0 a1 k
 obtain ⟨ih0, ih1⟩ := spec_LookUp.mono_l k
 unfold spec_LookUp.f
 repeat' first
   | (with_reducible exact ih0 ..)
   | (with_reducible exact ih1 ..)
   | (with_reducible exact spec_ItemAt.mono ..)
   | (with_reducible exact spec_JoinPath.mono ..)
   | (with_reducible exact spec_SplitPath.mono ..)
   | (with_reducible exact spec_l17Dir.mono ..)
   | (with_reducible exact LeO.refl _)
   | (with_reducible exact LeO.none _)
   | (with_reducible refine LeO.ite ?_ ?_)
   | (with_reducible refine LeO.bind ?_ (fun _ => ?_))
   | exact ih0 ..
   | exact ih1 ..
   | exact spec_ItemAt.mono ..
   | exact spec_JoinPath.mono ..
   | exact spec_SplitPath.mono ..
   | exact spec_l17Dir.mono ..
   | exact LeO.none _
   | refine LeO.ite ?_ ?_
   | refine LeO.bind ?_ (fun _ => ?_)
set_option maxHeartbeats 8000000 in
set_option maxRecDepth 100000 in
theorem spec_LookUp.calls (k : Nat) (A0_0 : Option Addr) (c0_0 : Nat) (l0_0 : List (S44)) (a1 : ByteArray) (r : Int) (w : World) (hr0_0 : Kd.C k44 w A0_0 l0_0.length l0_0) (hc0_0 : l0_0.length ≤ c0_0) (h : spec_LookUp.f k l0_0 a1 = some r) :
  Calls Try.prog 127 #[.agg #[.slice A0_0 l0_0.length c0_0], .string a1] w fun e w' => e = .returned (.int .i64 r) ∧ Below w.heap.size w w' := by
 have hu42 := Try.underlying42
 have HR0_0 := Aside0.mk hr0_0
 have HC0_0 := Aside0.mk hc0_0
 clear hr0_0 hc0_0
 have HB := Aside0.mk (Below.refl w.heap.size w)
 unfold spec_LookUp.f at h
 have H := h
 clear h
 obtain ⟨⟨t206, t207⟩, A3, H⟩ := bd_ H
 try dsimp -simprocs only at H
 have HC4 := Aside0.mk H
 clear H
 go_enter Try.func127, Try.ntmps127
 go_upto_region 2 with (first | ((with_reducible refine gate_dst (N := 2) rfl ?_); refine be_ 2 (cs := #[.slice A0_0 l0_0.length c0_0]) 42 ?_; intro gb205 hg w5 hbox hb; have z_ := bx0_ th_ hb hbox hg; clear HB; obtain ⟨HB, BK205, GW205, GE205⟩ := z_; clear hb hbox hg) | ((with_reducible refine gate_callee (f := 139) rfl ?_); refine goesL_ (some 11) rfl rfl Try.func139 (by kernel_rfl) rfl #[.string a1] rfl tq_0 ?_; (with_reducible refine (spec_SplitPath.calls k a1 t206 t207 _ A3.out).mono ?_); rintro e w6 ⟨v208, rfl, ho0, hb⟩; refine ⟨_, rfl, ?_⟩; have z_ := p_ (Kd.R_lower ho0 (below_size th_)) <| bw1_ (kb_ BK205) th_ hb; clear BK205 HB; obtain ⟨HO209, BK205, HB⟩ := z_; (try clear hb); (try clear ho0)))
 (try simp only [Act.put, List.setIfInBounds_toArray, List.set_cons_zero, List.set_cons_succ])
 go_cut [21] (fun v21 wc => ∃ (kq : Nat) (x21_3 : Bool), v21 = .bool x21_3 ∧ Aside0 (spec_LookUp.j0 kq t206 t207 x21_3 l0_0 = some r) ∧ Aside0 (kq ≤ k) ∧ Aside0 (Kd.R Kd.string 9 wc w.heap.size (fun _ => True) v208 t206) ∧ Aside0 (wc.heap[gb205]? = some (.cells #[(.slice A0_0 l0_0.length c0_0)] 42 (0, 0))) ∧ Aside0 (Below w.heap.size w wc))
 case first =>
  have H := HC4.out
  clear HC4
  by_cases c7 : a1.toList = ([47] : List UInt8)
  ·rw [if_pos c7] at H
   have c7b0 := beq_iff_eq.mpr c7
   have c7b1 := bne_eq_false_iff_eq.mpr c7
   clear c7
   (first | rw [c7b0] | (simp only [i64_w, i32_w]; rw [c7b0]) | skip)
   have H' := Aside0.mk H
   clear H
   go_wp2
   go_meet
   case rel => exact ⟨_, (true), tq_5, H', ⟨tq_38⟩, ⟨(raR_ HO209)⟩, ⟨(kb_ BK205)⟩, ⟨th_⟩⟩
  rw [if_neg c7] at H
  have c7b0 := beq_eq_false_iff_ne.mpr c7
  have c7b1 := bne_iff_ne.mpr c7
  (first | rw [c7b0] | (simp only [i64_w, i32_w]; rw [c7b0]) | skip)
  obtain ⟨t210, A8, H⟩ := bd_ H
  have H' := Aside0.mk H
  clear H
  have hcz9_0 := bc_ BK205.out 0
  have hfz9_0 := blk_frozen BK205.out 0
  go_wp2_with (first | (go_at_call 129; (with_reducible refine (spec_ItemAt.calls k _ _ l0_0 a1 t210 _ ?side1 ?side2 A8.out).mono ?_); (case side1 => exact tq_10); (case side2 => exact HC0_0.out); rintro e w10 ⟨rfl, hb⟩; have z_ := p_ (Kd.R_below (raR_ HO209) hb) <| bw1_ (kb_ BK205) th_ hb; clear HO209 BK205 HB; obtain ⟨HO209, BK205, HB⟩ := z_; (try clear hb)))
  go_meet
  case rel => exact ⟨_, (decide (t210 ≥ 0)), tq_5, H', ⟨tq_38⟩, ⟨(raR_ HO209)⟩, ⟨(kb_ BK205)⟩, ⟨th_⟩⟩
 case rest =>
 clear HC4
 try clear c1; try clear p2; try clear c7; try clear c7b0; try clear c7b1; try clear hcz9_0 hfz9_0
 obtain ⟨kq, x21_3, rfl, HA, HJ3, HO_5, BK205, HB⟩ := hcut
 cases kq with
 | zero => exact absurd HA.out (by simp [spec_LookUp.j0])
 | succ kj3 =>
 have H := HA.out
 clear HA
 simp only [spec_LookUp.j0] at H
 by_cases c11 : x21_3 = true
 ·subst c11
  rw [if_pos rfl] at H
  obtain rfl := Option.some.inj H
  go_wp2
  go_ret
  exact ⟨tq_1, th_⟩
 replace c11 := Bool.eq_false_iff.mpr c11
 subst c11
 rw [if_neg nf_] at H
 by_cases c12 : t207 = 0
 rotate_left
 ·rw [if_neg c12] at H
  have c12b0 := beq_eq_false_iff_ne.mpr c12
  have c12b1 := bne_iff_ne.mpr c12
  obtain rfl := Option.some.inj H
  go_wp2
  go_ret
  exact ⟨tq_1, th_⟩
 rw [if_pos c12] at H
 have c12b0 := beq_iff_eq.mpr c12
 have c12b1 := bne_eq_false_iff_eq.mpr c12
 clear c12
 have H' := Aside0.mk H
 clear H
 go_wp2
 go_loopg [7] kj3 (fun kq v7 w' => ∃ (x7_2 : Int), v7 = .int .i64 x7_2 ∧ Aside0 (spec_LookUp.l0 kq t206 x7_2 l0_0 = some r) ∧ Aside0 (kq ≤ kj3) ∧ Aside0 (Kd.R Kd.string 9 w' w.heap.size (fun _ => True) v208 t206) ∧ Aside0 (w'.heap[gb205]? = some (.cells #[(.slice A0_0 l0_0.length c0_0)] 42 (0, 0))) ∧ Aside0 (Below w.heap.size w w'))
 case atStart => exact ⟨(1), tq_5, H', ⟨Nat.le_refl _⟩, ⟨(raR_ HO_5)⟩, ⟨(kb_ BK205)⟩, ⟨th_⟩⟩
 case round =>
 clear H'
 try clear c1; try clear p2; try clear c7; try clear c7b0; try clear c7b1; try clear c11; try clear c12; try clear c12b0; try clear c12b1; try clear hcz9_0 hfz9_0; try clear p2
 obtain ⟨x7_2, rfl, HA, HK2, HO_5, BK205, HB⟩ := hrel
 cases gk with
 | zero => exact absurd HA.out (by simp [spec_LookUp.l0])
 | succ k2 =>
 have H := HA.out
 clear HA
 simp only [spec_LookUp.l0] at H
 by_cases c13 : x7_2 < (t206.length : Int)
 rotate_left
 ·rw [if_neg c13] at H
  have c13b0 := decide_eq_false c13
  clear c13
  obtain rfl := Option.some.inj H
  obtain ⟨Ao37, co37, eo37⟩ := Kd.R_slice HO_5.out
  subst eo37
  go_wp2
  go_ret
  exact ⟨tq_1, th_⟩
 rw [if_pos c13] at H
 have c13b0 := decide_eq_true c13
 clear c13
 obtain ⟨c14, H⟩ := fc_ H
 have c14b0 := eq_true c14
 have c14b1 := decide_eq_true c14
 clear c14
 obtain ⟨c15, H⟩ := fc_ H
 have c15b0 := eq_true c15
 have c15b1 := decide_eq_true c15
 clear c15
 obtain ⟨y211, hy211⟩ : ∃ y_ : List ByteArray, y_ = (t206.take (x7_2 : Int).toNat) := ⟨_, rfl⟩
 replace H : ((spec_JoinPath.f k2 y211).bind fun t215 => ((spec_ItemAt.f k2 l0_0 t215).bind fun t216 => (if t216 < 0 then (some 3) else ((spec_l17Dir.f k2 l0_0 t215).bind fun t217 => (if t217 = true then (spec_LookUp.l0 k2 t206 (wrap64 (x7_2 + 1)) l0_0) else (some 4)))))) = some r := by first | (rw [hy211]; with_reducible exact H) | (have H2_ := (Option.bind_some _ _).symm.trans H; rw [hy211]; with_reducible exact H2_) | (have H2_ := (Option.bind_some _ _).symm.trans H; with_reducible exact H2_) | with_reducible exact H | (rw [hy211]; exact H) | exact H
 have Ny211 := Aside0.mk hy211
 clear hy211
 obtain ⟨t215, A16, H⟩ := bd_ H
 obtain ⟨t216, A17, H⟩ := bd_ H
 by_cases c18 : t216 < 0
 ·rw [if_pos c18] at H
  have c18b0 := decide_eq_true c18
  clear c18
  obtain rfl := Option.some.inj H
  obtain ⟨Ao19, co19, eo19⟩ := Kd.R_slice HO_5.out
  subst eo19
  have q20 : (x7_2 : Int) ≤ ((t206.length : Int) : Int) := of_decide_eq_true tq_3
  obtain ⟨i020, hi020, _, hsz20, _⟩ := info_parts info9
  have hroom20 : t206.length ≤ co19 := (Kd.R_reads' HO_5.out).2.1
  have hC20 : Kd.C Kd.string _ Ao19 t206.length t206 := (Kd.R_reads' HO_5.out).2.2
  have hcut20 := cut_to (P := Try.prog) 109 9 .i64 Try.underlying109 hi020 Ao19 t206.length co19 x7_2 (of_decide_eq_true tq_3) q20 hroom20
  have hr20 := Kd.C_take (m := (x7_2 : Int).toNat) hC20 (by omega)
  have hy20 : y211.length = (x7_2 : Int).toNat := (by rw [Ny211.out, List.length_take]; omega)
  rw [← Ny211.out] at hr20
  rw [← hy20] at hcut20
  have HR214 := Aside0.mk hr20
  have HC214 := Aside0.mk (show y211.length ≤ co19 from by omega)
  clear hr20 hC20 hroom20 hi020 hsz20
  have KY20 := Aside0.mk hy20
  clear hy20
  have KL20 := Aside0.mk (show (x7_2 : Int).toNat ≤ t206.length from by omega)
  replace q20 := eq_true q20
  go_wp2_with (first | ((with_reducible refine gate_callee (f := 140) rfl ?_); refine goesL_ (some 34) rfl rfl Try.func140 (by kernel_rfl) rfl #[.slice Ao19 y211.length co19] rfl tq_0 ?_; (with_reducible refine (spec_JoinPath.calls k2 _ _ y211 t215 _ ?side1 ?side2 A16.out).mono ?_); (case side1 => exact tq_80); (case side2 => exact HC214.out); rintro e w' ⟨rfl, ⟨nd, rfl⟩⟩; refine ⟨_, rfl, ?_⟩; have hcz21_0 := bc_ BK205.out 0; have hfz21_0 := blk_frozen BK205.out 0) | ((with_reducible refine gate_callee (f := 129) rfl ?_); refine goesL_ (some 37) rfl rfl Try.func129 (by kernel_rfl) rfl #[.agg #[.slice A0_0 l0_0.length c0_0], .string t215] rfl tq_0 ?_; (with_reducible refine (spec_ItemAt.calls k2 _ _ l0_0 t215 t216 _ ?side1 ?side2 A17.out).mono ?_); (case side1 => exact tq_76); (case side2 => exact HC0_0.out); rintro e w22 ⟨rfl, hb⟩; refine ⟨_, rfl, ?_⟩; have z_ := p_ (Kd.R_below (raR_ HO_5) hb) <| p_ (blk_below (kb_ BK205) hb) <| p_ (Kd.C_below tq_30 hb) <| a_ (below_step th_ hb); clear HO_5 BK205 HR214 HB; obtain ⟨HO_5, BK205, HR214, HB⟩ := z_; (try clear hb)))
  go_ret
  exact ⟨tq_1, th_⟩
 rw [if_neg c18] at H
 have c18b0 := decide_eq_false c18
 clear c18
 obtain ⟨t217, A23, H⟩ := bd_ H
 by_cases c24 : t217 = true
 rotate_left
 ·replace c24 := Bool.eq_false_iff.mpr c24
  subst c24
  rw [if_neg nf_] at H
  obtain rfl := Option.some.inj H
  obtain ⟨Ao31, co31, eo31⟩ := Kd.R_slice HO_5.out
  subst eo31
  have q32 : (x7_2 : Int) ≤ ((t206.length : Int) : Int) := of_decide_eq_true tq_3
  obtain ⟨i032, hi032, _, hsz32, _⟩ := info_parts info9
  have hroom32 : t206.length ≤ co31 := (Kd.R_reads' HO_5.out).2.1
  have hC32 : Kd.C Kd.string _ Ao31 t206.length t206 := (Kd.R_reads' HO_5.out).2.2
  have hcut32 := cut_to (P := Try.prog) 109 9 .i64 Try.underlying109 hi032 Ao31 t206.length co31 x7_2 (of_decide_eq_true tq_3) q32 hroom32
  have hr32 := Kd.C_take (m := (x7_2 : Int).toNat) hC32 (by omega)
  have hy32 : y211.length = (x7_2 : Int).toNat := (by rw [Ny211.out, List.length_take]; omega)
  rw [← Ny211.out] at hr32
  rw [← hy32] at hcut32
  have HR214 := Aside0.mk hr32
  have HC214 := Aside0.mk (show y211.length ≤ co31 from by omega)
  clear hr32 hC32 hroom32 hi032 hsz32
  have KY32 := Aside0.mk hy32
  clear hy32
  have KL32 := Aside0.mk (show (x7_2 : Int).toNat ≤ t206.length from by omega)
  replace q32 := eq_true q32
  go_wp2_with (first | ((with_reducible refine gate_callee (f := 140) rfl ?_); refine goesL_ (some 34) rfl rfl Try.func140 (by kernel_rfl) rfl #[.slice Ao31 y211.length co31] rfl tq_0 ?_; (with_reducible refine (spec_JoinPath.calls k2 _ _ y211 t215 _ ?side1 ?side2 A16.out).mono ?_); (case side1 => exact tq_80); (case side2 => exact HC214.out); rintro e w' ⟨rfl, ⟨nd, rfl⟩⟩; refine ⟨_, rfl, ?_⟩; have hcz33_0 := bc_ BK205.out 0; have hfz33_0 := blk_frozen BK205.out 0) | ((with_reducible refine gate_callee (f := 129) rfl ?_); refine goesL_ (some 37) rfl rfl Try.func129 (by kernel_rfl) rfl #[.agg #[.slice A0_0 l0_0.length c0_0], .string t215] rfl tq_0 ?_; (with_reducible refine (spec_ItemAt.calls k2 _ _ l0_0 t215 t216 _ ?side1 ?side2 A17.out).mono ?_); (case side1 => exact tq_76); (case side2 => exact HC0_0.out); rintro e w34 ⟨rfl, hb⟩; refine ⟨_, rfl, ?_⟩; have z_ := p_ (Kd.R_below (raR_ HO_5) hb) <| p_ (blk_below (kb_ BK205) hb) <| p_ (Kd.C_below tq_30 hb) <| a_ (below_step th_ hb); clear HO_5 BK205 HR214 HB; obtain ⟨HO_5, BK205, HR214, HB⟩ := z_; (try clear hb); have hcz35_0 := bc_ BK205.out 0; have hfz35_0 := blk_frozen BK205.out 0) | ((with_reducible refine gate_callee (f := 128) rfl ?_); refine goesL_ (some 41) rfl rfl Try.func128 (by kernel_rfl) rfl #[.agg #[.slice A0_0 l0_0.length c0_0], .string t215] rfl tq_0 ?_; (with_reducible refine (spec_l17Dir.calls k2 _ _ l0_0 t215 false _ ?side1 ?side2 A23.out).mono ?_); (case side1 => exact tq_10); (case side2 => exact HC0_0.out); rintro e w36 ⟨rfl, hb⟩; refine ⟨_, rfl, ?_⟩; have z_ := p_ (Kd.R_below (raR_ HO_5) hb) <| p_ (blk_below (kb_ BK205) hb) <| p_ (Kd.C_below tq_30 hb) <| a_ (below_step th_ hb); clear HO_5 BK205 HR214 HB; obtain ⟨HO_5, BK205, HR214, HB⟩ := z_; (try clear hb)))
  go_ret
  exact ⟨tq_1, th_⟩
 subst c24
 rw [if_pos rfl] at H
 have H' := Aside0.mk H
 clear H
 obtain ⟨Ao25, co25, eo25⟩ := Kd.R_slice HO_5.out
 subst eo25
 have q26 : (x7_2 : Int) ≤ ((t206.length : Int) : Int) := of_decide_eq_true tq_3
 obtain ⟨i026, hi026, _, hsz26, _⟩ := info_parts info9
 have hroom26 : t206.length ≤ co25 := (Kd.R_reads' HO_5.out).2.1
 have hC26 : Kd.C Kd.string _ Ao25 t206.length t206 := (Kd.R_reads' HO_5.out).2.2
 have hcut26 := cut_to (P := Try.prog) 109 9 .i64 Try.underlying109 hi026 Ao25 t206.length co25 x7_2 (of_decide_eq_true tq_3) q26 hroom26
 have hr26 := Kd.C_take (m := (x7_2 : Int).toNat) hC26 (by omega)
 have hy26 : y211.length = (x7_2 : Int).toNat := (by rw [Ny211.out, List.length_take]; omega)
 rw [← Ny211.out] at hr26
 rw [← hy26] at hcut26
 have HR214 := Aside0.mk hr26
 have HC214 := Aside0.mk (show y211.length ≤ co25 from by omega)
 clear hr26 hC26 hroom26 hi026 hsz26
 have KY26 := Aside0.mk hy26
 clear hy26
 have KL26 := Aside0.mk (show (x7_2 : Int).toNat ≤ t206.length from by omega)
 replace q26 := eq_true q26
 go_wp2_with (first | ((with_reducible refine gate_callee (f := 140) rfl ?_); refine goesL_ (some 34) rfl rfl Try.func140 (by kernel_rfl) rfl #[.slice Ao25 y211.length co25] rfl tq_0 ?_; (with_reducible refine (spec_JoinPath.calls k2 _ _ y211 t215 _ ?side1 ?side2 A16.out).mono ?_); (case side1 => exact tq_80); (case side2 => exact HC214.out); rintro e w' ⟨rfl, ⟨nd, rfl⟩⟩; refine ⟨_, rfl, ?_⟩; have hcz27_0 := bc_ BK205.out 0; have hfz27_0 := blk_frozen BK205.out 0) | ((with_reducible refine gate_callee (f := 129) rfl ?_); refine goesL_ (some 37) rfl rfl Try.func129 (by kernel_rfl) rfl #[.agg #[.slice A0_0 l0_0.length c0_0], .string t215] rfl tq_0 ?_; (with_reducible refine (spec_ItemAt.calls k2 _ _ l0_0 t215 t216 _ ?side1 ?side2 A17.out).mono ?_); (case side1 => exact tq_76); (case side2 => exact HC0_0.out); rintro e w28 ⟨rfl, hb⟩; refine ⟨_, rfl, ?_⟩; have z_ := p_ (Kd.R_below (raR_ HO_5) hb) <| p_ (blk_below (kb_ BK205) hb) <| p_ (Kd.C_below tq_30 hb) <| a_ (below_step th_ hb); clear HO_5 BK205 HR214 HB; obtain ⟨HO_5, BK205, HR214, HB⟩ := z_; (try clear hb); have hcz29_0 := bc_ BK205.out 0; have hfz29_0 := blk_frozen BK205.out 0) | ((with_reducible refine gate_callee (f := 128) rfl ?_); refine goesL_ (some 41) rfl rfl Try.func128 (by kernel_rfl) rfl #[.agg #[.slice A0_0 l0_0.length c0_0], .string t215] rfl tq_0 ?_; (with_reducible refine (spec_l17Dir.calls k2 _ _ l0_0 t215 true _ ?side1 ?side2 A23.out).mono ?_); (case side1 => exact tq_10); (case side2 => exact HC0_0.out); rintro e w30 ⟨rfl, hb⟩; refine ⟨_, rfl, ?_⟩; have z_ := p_ (Kd.R_below (raR_ HO_5) hb) <| p_ (blk_below (kb_ BK205) hb) <| p_ (Kd.C_below tq_30 hb) <| a_ (below_step th_ hb); clear HO_5 BK205 HR214 HB; obtain ⟨HO_5, BK205, HR214, HB⟩ := z_; (try clear hb)))
 go_roundg k2
 case measure => have := HJ3.out; have := HK2.out; omega
 case rel => exact ⟨(wrap64 (x7_2 + 1)), tq_5, H', ⟨(by have := HJ3.out; have := HK2.out; omega)⟩, ⟨(raR_ HO_5)⟩, ⟨(kb_ BK205)⟩, ⟨th_⟩⟩

/-! ### spec_ParentOf: function 141 -/
def spec_ParentOf.f (k : Nat) (a0 : ByteArray) : Option (ByteArray) := (spec_SplitPath.f k a0).bind fun bt218 => (if bt218.2 = 0 then (if (bt218.1.length : Int) = 0 then (some (⟨#[]⟩ : ByteArray)) else (if 0 ≤ (wrap64 ((bt218.1.length : Int) - 1)) then (if (wrap64 ((bt218.1.length : Int) - 1)) ≤ (bt218.1.length : Int) then ((spec_JoinPath.f k (bt218.1.take ((wrap64 ((bt218.1.length : Int) - 1)) : Int).toNat)).bind fun t226 => (some t226)) else (none)) else (none))) else (some (⟨#[]⟩ : ByteArray)))
theorem spec_ParentOf.mono : ∀ a0 k, LeO (spec_ParentOf.f k a0) (spec_ParentOf.f (k + 1) a0) := by
 intro a0 k
 unfold spec_ParentOf.f
 repeat' first
   | (with_reducible exact spec_JoinPath.mono ..)
   | (with_reducible exact spec_SplitPath.mono ..)
   | (with_reducible exact LeO.refl _)
   | (with_reducible exact LeO.none _)
   | (with_reducible refine LeO.ite ?_ ?_)
   | (with_reducible refine LeO.bind ?_ (fun _ => ?_))
   | exact spec_JoinPath.mono ..
   | exact spec_SplitPath.mono ..
   | exact LeO.none _
   | refine LeO.ite ?_ ?_
   | refine LeO.bind ?_ (fun _ => ?_)
set_option maxHeartbeats 8000000 in
set_option maxRecDepth 100000 in
theorem spec_ParentOf.calls (k : Nat) (a0 : ByteArray) (r : ByteArray) (w : World) (h : spec_ParentOf.f k a0 = some r) :
  Calls Try.prog 141 #[.string a0] w fun e w' => e = .returned (.string r) ∧ Below w.heap.size w w' := by
 have HB := Aside0.mk (Below.refl w.heap.size w)
 unfold spec_ParentOf.f at h
 have H := h
 clear h
 obtain ⟨⟨t218, t219⟩, A2, H⟩ := bd_ H
 try dsimp -simprocs only at H
 by_cases c3 : t219 = 0
 rotate_left
 ·rw [if_neg c3] at H
  have c3b0 := beq_eq_false_iff_ne.mpr c3
  have c3b1 := bne_iff_ne.mpr c3
  obtain rfl := Option.some.inj H
  go_enter Try.func141, Try.ntmps141
  go_wp2_with (first | ((with_reducible refine gate_callee (f := 139) rfl ?_); refine goesL_ (some 7) rfl rfl Try.func139 (by kernel_rfl) rfl #[.string a0] rfl tq_0 ?_; (with_reducible refine (spec_SplitPath.calls k a0 t218 t219 _ A2.out).mono ?_); rintro e w14 ⟨v220, rfl, ho0, hb⟩; refine ⟨_, rfl, ?_⟩; have z_ := p_ (Kd.R_lower ho0 (below_size th_)) <| a_ (below_step th_ hb); clear HB; obtain ⟨HO221, HB⟩ := z_; (try clear hb); (try clear ho0)))
  go_ret
  exact ⟨tq_1, th_⟩
 rw [if_pos c3] at H
 have c3b0 := beq_iff_eq.mpr c3
 have c3b1 := bne_eq_false_iff_eq.mpr c3
 clear c3
 by_cases c4 : (t218.length : Int) = 0
 ·rw [if_pos c4] at H
  have c4b0 := beq_iff_eq.mpr c4
  have c4b1 := bne_eq_false_iff_eq.mpr c4
  clear c4
  obtain rfl := Option.some.inj H
  go_enter Try.func141, Try.ntmps141
  go_wp2_with (first | ((with_reducible refine gate_callee (f := 139) rfl ?_); refine goesL_ (some 7) rfl rfl Try.func139 (by kernel_rfl) rfl #[.string a0] rfl tq_0 ?_; (with_reducible refine (spec_SplitPath.calls k a0 t218 t219 _ A2.out).mono ?_); rintro e w5 ⟨v220, rfl, ho0, hb⟩; refine ⟨_, rfl, ?_⟩; have z_ := p_ (Kd.R_lower ho0 (below_size th_)) <| a_ (below_step th_ hb); clear HB; obtain ⟨HO221, HB⟩ := z_; (try clear hb); (try clear ho0); obtain ⟨Ao6, co6, eo6⟩ := Kd.R_slice HO221.out; subst eo6))
  go_ret
  exact ⟨tq_1, th_⟩
 rw [if_neg c4] at H
 have c4b0 := beq_eq_false_iff_ne.mpr c4
 have c4b1 := bne_iff_ne.mpr c4
 have c4b2 : ¬ (t218 = []) := fun h_ => c4 (by rw [h_]; rfl)
 obtain ⟨ji7, hji7⟩ : ∃ j_ : Int, (wrap64 ((t218.length : Int) - 1)) = j_ := ⟨_, rfl⟩
 replace H : (if 0 ≤ (ji7) then (if (ji7) ≤ (t218.length : Int) then ((spec_JoinPath.f k (t218.take ((ji7) : Int).toNat)).bind fun t226 => (some t226)) else (none)) else (none)) = some r := by first | (rw [hji7] at H; exact H) | (simp only [hji7] at H ⊢; exact H)
 (try rw [hji7] at A2)
 have hji7w : (IntKind.i64.wrap ((t218.length : Int) - 1)) = ji7 := (i64_w _).trans hji7
 obtain ⟨c8, H⟩ := fc_ H
 have c8b0 := eq_true c8
 have c8b1 := decide_eq_true c8
 clear c8
 obtain ⟨c9, H⟩ := fc_ H
 have c9b0 := eq_true c9
 have c9b1 := decide_eq_true c9
 clear c9
 obtain ⟨y222, hy222⟩ : ∃ y_ : List ByteArray, y_ = (t218.take ((ji7) : Int).toNat) := ⟨_, rfl⟩
 replace H : ((spec_JoinPath.f k y222).bind fun t226 => (some t226)) = some r := by first | (rw [hy222]; with_reducible exact H) | (have H2_ := (Option.bind_some _ _).symm.trans H; rw [hy222]; with_reducible exact H2_) | (have H2_ := (Option.bind_some _ _).symm.trans H; with_reducible exact H2_) | with_reducible exact H | (rw [hy222]; exact H) | exact H
 have Ny222 := Aside0.mk hy222
 clear hy222
 obtain ⟨t226, A10, H⟩ := bd_ H
 obtain rfl := Option.some.inj H
 go_enter Try.func141, Try.ntmps141
 go_wp2_with (first | ((with_reducible refine gate_callee (f := 139) rfl ?_); refine goesL_ (some 7) rfl rfl Try.func139 (by kernel_rfl) rfl #[.string a0] rfl tq_0 ?_; (with_reducible refine (spec_SplitPath.calls k a0 t218 t219 _ A2.out).mono ?_); rintro e w11 ⟨v220, rfl, ho0, hb⟩; refine ⟨_, rfl, ?_⟩; have z_ := p_ (Kd.R_lower ho0 (below_size th_)) <| a_ (below_step th_ hb); clear HB; obtain ⟨HO221, HB⟩ := z_; (try clear hb); (try clear ho0); obtain ⟨Ao12, co12, eo12⟩ := Kd.R_slice HO221.out; subst eo12; have q13 : ((ji7) : Int) ≤ ((t218.length : Int) : Int) := of_decide_eq_true tq_3; obtain ⟨i013, hi013, _, hsz13, _⟩ := info_parts info9; have hroom13 : t218.length ≤ co12 := (Kd.R_reads' HO221.out).2.1; have hC13 : Kd.C Kd.string _ Ao12 t218.length t218 := (Kd.R_reads' HO221.out).2.2; have hcut13 := cut_to (P := Try.prog) 109 9 .i64 Try.underlying109 hi013 Ao12 t218.length co12 (ji7) (of_decide_eq_true tq_3) q13 hroom13; have hr13 := Kd.C_take (m := ((ji7) : Int).toNat) hC13 (by omega); have hy13 : y222.length = ((ji7) : Int).toNat := (by rw [Ny222.out, List.length_take]; omega); rw [← Ny222.out] at hr13; rw [← hy13] at hcut13; have HR225 := Aside0.mk hr13; have HC225 := Aside0.mk (show y222.length ≤ co12 from by omega); clear hr13 hC13 hroom13 hi013 hsz13; have KY13 := Aside0.mk hy13; clear hy13; have KL13 := Aside0.mk (show ((ji7) : Int).toNat ≤ t218.length from by omega); replace q13 := eq_true q13) | ((with_reducible refine gate_callee (f := 140) rfl ?_); refine goesL_ (some 22) rfl rfl Try.func140 (by kernel_rfl) rfl #[.slice Ao12 y222.length co12] rfl tq_0 ?_; (with_reducible refine (spec_JoinPath.calls k _ _ y222 t226 _ ?side1 ?side2 A10.out).mono ?_); (case side1 => repeat (first | exact (by repeat (first | (with_reducible exact HR225.out) | (with_reducible refine Kd.C_alloc ?_ _) | (with_reducible refine Kd.C_drewN ?_ _) | (with_reducible refine Kd.C_drew ?_) | exact HR225.out)) | (with_reducible refine Kd.C_alloc ?_ _) | (with_reducible refine Kd.C_drewN ?_ _) | (with_reducible refine Kd.C_drew ?_))); (case side2 => exact HC225.out); rintro e w' ⟨rfl, ⟨nd, rfl⟩⟩; refine ⟨_, rfl, ?_⟩))
 go_ret
 exact ⟨tq_113, th_⟩

/-! ### spec_LastOf: function 142 -/
def spec_LastOf.f (k : Nat) (a0 : ByteArray) : Option (ByteArray) := (spec_SplitPath.f k a0).bind fun bt227 => (if bt227.2 = 0 then (if (bt227.1.length : Int) = 0 then (some (⟨#[]⟩ : ByteArray)) else (if 0 ≤ (wrap64 ((bt227.1.length : Int) - 1)) then (if (wrap64 ((bt227.1.length : Int) - 1)) < (bt227.1.length : Int) then (some (rdOf ByteArray.empty bt227.1 (wrap64 ((bt227.1.length : Int) - 1)))) else (none)) else (none))) else (some (⟨#[]⟩ : ByteArray)))
theorem spec_LastOf.mono : ∀ a0 k, LeO (spec_LastOf.f k a0) (spec_LastOf.f (k + 1) a0) := by
 intro a0 k
 unfold spec_LastOf.f
 repeat' first
   | (with_reducible exact spec_SplitPath.mono ..)
   | (with_reducible exact LeO.refl _)
   | (with_reducible exact LeO.none _)
   | (with_reducible refine LeO.ite ?_ ?_)
   | (with_reducible refine LeO.bind ?_ (fun _ => ?_))
   | exact spec_SplitPath.mono ..
   | exact LeO.none _
   | refine LeO.ite ?_ ?_
   | refine LeO.bind ?_ (fun _ => ?_)
set_option maxHeartbeats 8000000 in
set_option maxRecDepth 100000 in
theorem spec_LastOf.calls (k : Nat) (a0 : ByteArray) (r : ByteArray) (w : World) (h : spec_LastOf.f k a0 = some r) :
  Calls Try.prog 142 #[.string a0] w fun e w' => e = .returned (.string r) ∧ Below w.heap.size w w' := by
 have HB := Aside0.mk (Below.refl w.heap.size w)
 unfold spec_LastOf.f at h
 have H := h
 clear h
 obtain ⟨⟨t227, t228⟩, A2, H⟩ := bd_ H
 try dsimp -simprocs only at H
 by_cases c3 : t228 = 0
 rotate_left
 ·rw [if_neg c3] at H
  have c3b0 := beq_eq_false_iff_ne.mpr c3
  have c3b1 := bne_iff_ne.mpr c3
  obtain rfl := Option.some.inj H
  go_enter Try.func142, Try.ntmps142
  go_wp2_with (first | ((with_reducible refine gate_callee (f := 139) rfl ?_); refine goesL_ (some 7) rfl rfl Try.func139 (by kernel_rfl) rfl #[.string a0] rfl tq_0 ?_; (with_reducible refine (spec_SplitPath.calls k a0 t227 t228 _ A2.out).mono ?_); rintro e w12 ⟨v229, rfl, ho0, hb⟩; refine ⟨_, rfl, ?_⟩; have z_ := p_ (Kd.R_lower ho0 (below_size th_)) <| a_ (below_step th_ hb); clear HB; obtain ⟨HO230, HB⟩ := z_; (try clear hb); (try clear ho0)))
  go_ret
  exact ⟨tq_1, th_⟩
 rw [if_pos c3] at H
 have c3b0 := beq_iff_eq.mpr c3
 have c3b1 := bne_eq_false_iff_eq.mpr c3
 clear c3
 by_cases c4 : (t227.length : Int) = 0
 ·rw [if_pos c4] at H
  have c4b0 := beq_iff_eq.mpr c4
  have c4b1 := bne_eq_false_iff_eq.mpr c4
  clear c4
  obtain rfl := Option.some.inj H
  go_enter Try.func142, Try.ntmps142
  go_wp2_with (first | ((with_reducible refine gate_callee (f := 139) rfl ?_); refine goesL_ (some 7) rfl rfl Try.func139 (by kernel_rfl) rfl #[.string a0] rfl tq_0 ?_; (with_reducible refine (spec_SplitPath.calls k a0 t227 t228 _ A2.out).mono ?_); rintro e w5 ⟨v229, rfl, ho0, hb⟩; refine ⟨_, rfl, ?_⟩; have z_ := p_ (Kd.R_lower ho0 (below_size th_)) <| a_ (below_step th_ hb); clear HB; obtain ⟨HO230, HB⟩ := z_; (try clear hb); (try clear ho0); obtain ⟨Ao6, co6, eo6⟩ := Kd.R_slice HO230.out; subst eo6))
  go_ret
  exact ⟨tq_1, th_⟩
 rw [if_neg c4] at H
 have c4b0 := beq_eq_false_iff_ne.mpr c4
 have c4b1 := bne_iff_ne.mpr c4
 have c4b2 : ¬ (t227 = []) := fun h_ => c4 (by rw [h_]; rfl)
 obtain ⟨ji7, hji7⟩ : ∃ j_ : Int, (wrap64 ((t227.length : Int) - 1)) = j_ := ⟨_, rfl⟩
 replace H : (if 0 ≤ (ji7) then (if (ji7) < (t227.length : Int) then (some (rdOf ByteArray.empty t227 (ji7))) else (none)) else (none)) = some r := by first | (rw [hji7] at H; exact H) | (simp only [hji7] at H ⊢; exact H)
 (try rw [hji7] at A2)
 have hji7w : (IntKind.i64.wrap ((t227.length : Int) - 1)) = ji7 := (i64_w _).trans hji7
 obtain ⟨c8, H⟩ := fc_ H
 have c8b0 := decide_eq_true c8
 clear c8
 obtain ⟨c9, H⟩ := fc_ H
 have c9b0 := decide_eq_true c9
 clear c9
 obtain rfl := Option.some.inj H
 go_enter Try.func142, Try.ntmps142
 go_wp2_with (first | ((with_reducible refine gate_callee (f := 139) rfl ?_); refine goesL_ (some 7) rfl rfl Try.func139 (by kernel_rfl) rfl #[.string a0] rfl tq_0 ?_; (with_reducible refine (spec_SplitPath.calls k a0 t227 t228 _ A2.out).mono ?_); rintro e w10 ⟨v229, rfl, ho0, hb⟩; refine ⟨_, rfl, ?_⟩; have z_ := p_ (Kd.R_lower ho0 (below_size th_)) <| a_ (below_step th_ hb); clear HB; obtain ⟨HO230, HB⟩ := z_; (try clear hb); (try clear ho0); obtain ⟨Ao11, co11, eo11⟩ := Kd.R_slice HO230.out; subst eo11; have p231 : 0 ≤ ((ji7) : Int) := of_decide_eq_true tq_3; have q231 : (ji7) < (t227.length : Int) := of_decide_eq_true tq_3; obtain ⟨ad231, e231, hx231_0⟩ := Kd.at_string (Kd.R_reads' HO230.out).2.2 (ji7) p231 q231; cases e231; replace p231 := eq_true p231; replace q231 := eq_true q231))
 go_ret
 exact ⟨tq_113, th_⟩

/-! ### spec_KidsOf: function 130 -/
def spec_KidsOf.l0 : Nat → ByteArray → List ByteArray → Int → List (S44) → Option (List ByteArray)
 | 0, _, _, _, _ => none
 | k + 1, x1, x5, x6, x233000 => if x6 < (x233000.length : Int) then (if 0 ≤ x6 then ((spec_ParentOf.f k ((rd_T44 x233000 x6).f0)).bind fun t237 => (if t237.toList = x1.toList then (if x1.toList = ([] : List UInt8) then (spec_KidsOf.l0 k x1 x5 (wrap64 (x6 + 1)) x233000) else ((spec_LastOf.f k ((rd_T44 x233000 x6).f0)).bind fun t239 => (if x5.length < 8796093022208 then (spec_KidsOf.l0 k x1 (x5 ++ [t239]) (wrap64 (x6 + 1)) x233000) else (none)))) else (spec_KidsOf.l0 k x1 x5 (wrap64 (x6 + 1)) x233000))) else (none)) else (some x5)
def spec_KidsOf.f (k : Nat) (l0_0 : List (S44)) (a1 : ByteArray) : Option (List ByteArray) := spec_KidsOf.l0 k a1 (([] : List ByteArray)) 0 l0_0
theorem spec_KidsOf.mono_l : ∀ k, (∀ y0 y1 y2 y3, LeO (spec_KidsOf.l0 k y0 y1 y2 y3) (spec_KidsOf.l0 (k + 1) y0 y1 y2 y3))
 | 0 => fun _ _ _ _ r h => by simp [spec_KidsOf.l0] at h
 | k + 1 => by
  have ih0 := spec_KidsOf.mono_l k
  ·intro y0 y1 y2 y3
   unfold spec_KidsOf.l0
   repeat' first
   | (with_reducible exact ih0 ..)
   | (with_reducible exact spec_LastOf.mono ..)
   | (with_reducible exact spec_ParentOf.mono ..)
   | (with_reducible exact LeO.refl _)
   | (with_reducible exact LeO.none _)
   | (with_reducible refine LeO.ite ?_ ?_)
   | (with_reducible refine LeO.bind ?_ (fun _ => ?_))
   | exact ih0 ..
   | exact spec_LastOf.mono ..
   | exact spec_ParentOf.mono ..
   | exact LeO.none _
   | refine LeO.ite ?_ ?_
   | refine LeO.bind ?_ (fun _ => ?_)
theorem spec_KidsOf.mono : ∀ a0 a1 k, LeO (spec_KidsOf.f k a0 a1) (spec_KidsOf.f (k + 1) a0 a1) := by
 intro a0 a1 k
 have ih0 := spec_KidsOf.mono_l k
 unfold spec_KidsOf.f
 repeat' first
   | (with_reducible exact ih0 ..)
   | (with_reducible exact spec_LastOf.mono ..)
   | (with_reducible exact spec_ParentOf.mono ..)
   | (with_reducible exact LeO.refl _)
   | (with_reducible exact LeO.none _)
   | (with_reducible refine LeO.ite ?_ ?_)
   | (with_reducible refine LeO.bind ?_ (fun _ => ?_))
   | exact ih0 ..
   | exact spec_LastOf.mono ..
   | exact spec_ParentOf.mono ..
   | exact LeO.none _
   | refine LeO.ite ?_ ?_
   | refine LeO.bind ?_ (fun _ => ?_)
set_option maxHeartbeats 8000000 in
set_option maxRecDepth 100000 in
theorem spec_KidsOf.calls (k : Nat) (A0_0 : Option Addr) (c0_0 : Nat) (l0_0 : List (S44)) (a1 : ByteArray) (r : List ByteArray) (w : World) (hr0_0 : Kd.C k44 w A0_0 l0_0.length l0_0) (hc0_0 : l0_0.length ≤ c0_0) (h : spec_KidsOf.f k l0_0 a1 = some r) :
  Calls Try.prog 130 #[.agg #[.slice A0_0 l0_0.length c0_0], .string a1] w fun e w' => ∃ v0_ : Value, e = .returned (v0_) ∧ Kd.R Kd.string 9 w' w.heap.size (fun _ => True) v0_ r ∧ Below w.heap.size w w' := by
 have hu42 := Try.underlying42
 have HR0_0 := Aside0.mk hr0_0
 have HC0_0 := Aside0.mk hc0_0
 clear hr0_0 hc0_0
 have HB := Aside0.mk (Below.refl w.heap.size w)
 unfold spec_KidsOf.f at h
 have H := h
 clear h
 obtain ⟨y233, hy233⟩ : ∃ y_ : List ByteArray, y_ = (([] : List ByteArray)) := ⟨_, rfl⟩
 replace H : (spec_KidsOf.l0 k a1 y233 0 l0_0) = some r := by first | (rw [hy233]; with_reducible exact H) | (have H2_ := (Option.bind_some _ _).symm.trans H; rw [hy233]; with_reducible exact H2_) | (have H2_ := (Option.bind_some _ _).symm.trans H; with_reducible exact H2_) | with_reducible exact H | (rw [hy233]; exact H) | exact H
 have Ny233 := Aside0.mk hy233
 clear hy233
 have H' := Aside0.mk H
 clear H
 go_enter Try.func130, Try.ntmps130
 go_wp2_with (first | ((with_reducible refine gate_dst (N := 2) rfl ?_); refine be_ 2 (cs := #[.slice A0_0 l0_0.length c0_0]) 42 ?_; intro gb232 hg w3 hbox hb; have z_ := bx0_ th_ hb hbox hg; clear HB; obtain ⟨HB, BK232, GW232, GE232⟩ := z_; clear hb hbox hg) | ((with_reducible refine gate_dst (N := 7) rfl ?_); refine Kd.R_lit Kd.string _ 9 ?hg (N := 7) ?hd (xs := ([] : List ByteArray)) (inner := []) (ok := fun _ => True) (okp := fun _ => True) ?hr ?hp (fun _ hk => hk) trivial (Below.refl _ _) (Nat.le_refl _) (by simp) ?_; (case hd => rfl); (case hg => rfl); (case hr => first | (go_simp; done) | (go_simp; rfl)); (case hp => exact (Reps.none _ _)); intro v234 w4 ho5 hb hg_ hnew_; clear hg_ hnew_; (first | rw [← Ny233.out] at ho5 | (simp only [Int.reduceToNat] at ho5; rw [← Ny233.out] at ho5)); have z_ := p_ (Kd.R_lower ho5 (below_size th_)) <| bw1_ (kb_ BK232) th_ hb; clear BK232 HB; obtain ⟨HO235, BK232, HB⟩ := z_; clear hb ho5))
 go_loopg [5, 6] k (fun kq v5 v6 w' => ∃ (x5_1 : List ByteArray) (x6_1 : Int), v6 = .int .i64 x6_1 ∧ Aside0 (spec_KidsOf.l0 kq a1 x5_1 x6_1 l0_0 = some r) ∧ Aside0 (kq ≤ k) ∧ Aside0 (Kd.R Kd.string 9 w' w.heap.size (fun _ => True) v5 x5_1) ∧ Aside0 (w'.heap[gb232]? = some (.cells #[(.slice A0_0 l0_0.length c0_0)] 42 (0, 0))) ∧ Aside0 (Below w.heap.size w w'))
 case atStart => exact ⟨(y233), (0), tq_5, H', ⟨Nat.le_refl _⟩, ⟨(raR_ HO235)⟩, ⟨(kb_ BK232)⟩, ⟨th_⟩⟩
 case round =>
 clear H'
 try clear c1; try clear p2
 obtain ⟨x5_1, x6_1, rfl, HA, HK1, HO_5, BK232, HB⟩ := hrel
 cases gk with
 | zero => exact absurd HA.out (by simp [spec_KidsOf.l0])
 | succ k1 =>
 have H := HA.out
 clear HA
 simp only [spec_KidsOf.l0] at H
 have HC6 := Aside0.mk H
 clear H
 have hcz7_0 := bc_ BK232.out 0
 have hfz7_0 := blk_frozen BK232.out 0
 go_upto_if 12 with (fail)
 (try clear hcz7_0)
 (try clear hfz7_0)
 have H := HC6.out
 clear HC6
 by_cases c8 : x6_1 < (l0_0.length : Int)
 rotate_left
 ·rw [if_neg c8] at H
  have c8b0 := decide_eq_false c8
  clear c8
  (first | rw [c8b0] | (simp only [i64_w, i32_w]; rw [c8b0]) | skip)
  obtain rfl := Option.some.inj H
  go_wp2
  go_ret
  exact ⟨_, tq_1, (raR_ HO_5), th_⟩
 rw [if_pos c8] at H
 have c8b0 := decide_eq_true c8
 clear c8
 (first | rw [c8b0] | (simp only [i64_w, i32_w]; rw [c8b0]) | skip)
 obtain ⟨c9, H⟩ := fc_ H
 have c9b0 := decide_eq_true c9
 clear c9
 obtain ⟨t237, A10, H⟩ := bd_ H
 by_cases c11 : t237.toList = a1.toList
 rotate_left
 ·rw [if_neg c11] at H
  have c11b0 := beq_eq_false_iff_ne.mpr c11
  have c11b1 := bne_iff_ne.mpr c11
  have H' := Aside0.mk H
  clear H
  have hcz21_0 := bc_ BK232.out 0
  have hfz21_0 := blk_frozen BK232.out 0
  have p236 : 0 ≤ (x6_1 : Int) := of_decide_eq_true tq_3
  have q236 : x6_1 < (l0_0.length : Int) := of_decide_eq_true tq_3
  obtain ⟨ad236, e236, hx236_0, hx236_1, hx236_2⟩ := at_T44 HR0_0.out x6_1 p236 q236
  cases e236
  replace hx236_0 := hx_ HB.out hx236_0
  replace hx236_1 := hx_ HB.out hx236_1
  replace hx236_2 := hx_ HB.out hx236_2
  replace p236 := eq_true p236
  replace q236 := eq_true q236
  go_wp2_with (first | ((with_reducible refine gate_callee (f := 141) rfl ?_); refine goesL_ (some 21) rfl rfl Try.func141 (by kernel_rfl) rfl #[.string ((rd_T44 l0_0 x6_1).f0)] rfl tq_0 ?_; (with_reducible refine (spec_ParentOf.calls k1 ((rd_T44 l0_0 x6_1).f0) t237 _ A10.out).mono ?_); rintro e w22 ⟨rfl, hb⟩; refine ⟨_, rfl, ?_⟩; have z_ := p_ (Kd.R_below (raR_ HO_5) hb) <| bw1_ (kb_ BK232) th_ hb; clear HO_5 BK232 HB; obtain ⟨HO_5, BK232, HB⟩ := z_; (try clear hb)))
  go_roundg k1
  case measure => have := HK1.out; omega
  case rel => exact ⟨(x5_1), (wrap64 (x6_1 + 1)), tq_5, H', ⟨tq_79⟩, ⟨(raR_ HO_5)⟩, ⟨(kb_ BK232)⟩, ⟨th_⟩⟩
 rw [if_pos c11] at H
 have c11b0 := beq_iff_eq.mpr c11
 have c11b1 := bne_eq_false_iff_eq.mpr c11
 clear c11
 have HC12 := Aside0.mk H
 clear H
 have hcz13_0 := bc_ BK232.out 0
 have hfz13_0 := blk_frozen BK232.out 0
 have p236 : 0 ≤ (x6_1 : Int) := of_decide_eq_true tq_3
 have q236 : x6_1 < (l0_0.length : Int) := of_decide_eq_true tq_3
 obtain ⟨ad236, e236, hx236_0, hx236_1, hx236_2⟩ := at_T44 HR0_0.out x6_1 p236 q236
 cases e236
 replace hx236_0 := hx_ HB.out hx236_0
 replace hx236_1 := hx_ HB.out hx236_1
 replace hx236_2 := hx_ HB.out hx236_2
 replace p236 := eq_true p236
 replace q236 := eq_true q236
 go_upto_if 27 with (first | ((with_reducible refine gate_callee (f := 141) rfl ?_); refine goesL_ (some 21) rfl rfl Try.func141 (by kernel_rfl) rfl #[.string ((rd_T44 l0_0 x6_1).f0)] rfl tq_0 ?_; (with_reducible refine (spec_ParentOf.calls k1 ((rd_T44 l0_0 x6_1).f0) t237 _ A10.out).mono ?_); rintro e w14 ⟨rfl, hb⟩; refine ⟨_, rfl, ?_⟩; have z_ := p_ (Kd.R_below (raR_ HO_5) hb) <| bw1_ (kb_ BK232) th_ hb; clear HO_5 BK232 HB; obtain ⟨HO_5, BK232, HB⟩ := z_; (try clear hb)))
 (try simp only [Act.put, List.setIfInBounds_toArray, List.set_cons_zero, List.set_cons_succ])
 (try clear hfz13_0)
 (try clear hx236_0 hx236_1 hx236_2)
 have H := HC12.out
 clear HC12
 by_cases c15 : a1.toList = ([] : List UInt8)
 ·rw [if_pos c15] at H
  have c15b0 := beq_iff_eq.mpr c15
  have c15b1 := bne_eq_false_iff_eq.mpr c15
  clear c15
  (first | rw [c15b0] | (simp only [i64_w, i32_w]; rw [c15b0]) | rw [show (a1.toList).isEmpty = true from by simpa using c15b0] | skip)
  have H' := Aside0.mk H
  clear H
  go_wp2
  go_roundg k1
  case measure => have := HK1.out; omega
  case rel => exact ⟨(x5_1), (wrap64 (x6_1 + 1)), tq_5, H', ⟨tq_79⟩, ⟨(raR_ HO_5)⟩, ⟨(kb_ BK232)⟩, ⟨th_⟩⟩
 rw [if_neg c15] at H
 have c15b0 := beq_eq_false_iff_ne.mpr c15
 have c15b1 := bne_iff_ne.mpr c15
 (first | rw [c15b0] | (simp only [i64_w, i32_w]; rw [c15b0]) | rw [show (a1.toList).isEmpty = false from by simpa using c15b0] | skip)
 obtain ⟨t239, A16, H⟩ := bd_ H
 obtain ⟨c17, H⟩ := fc_ H
 have LMc17 := Aside0.mk c17
 clear c17
 obtain ⟨y240, hy240⟩ : ∃ y_ : List ByteArray, y_ = (x5_1 ++ [t239]) := ⟨_, rfl⟩
 replace H : (spec_KidsOf.l0 k1 a1 y240 (wrap64 (x6_1 + 1)) l0_0) = some r := by first | (rw [hy240]; with_reducible exact H) | (have H2_ := (Option.bind_some _ _).symm.trans H; rw [hy240]; with_reducible exact H2_) | (have H2_ := (Option.bind_some _ _).symm.trans H; with_reducible exact H2_) | with_reducible exact H | (rw [hy240]; exact H) | exact H
 have Ny240 := Aside0.mk hy240
 clear hy240
 have H' := Aside0.mk H
 clear H
 have hcz18_0 := bc_ BK232.out 0
 have hfz18_0 := blk_frozen BK232.out 0
 have p238 : 0 ≤ (x6_1 : Int) := of_decide_eq_true tq_3
 have q238 : x6_1 < (l0_0.length : Int) := of_decide_eq_true tq_3
 obtain ⟨ad238, e238, hx238_0, hx238_1, hx238_2⟩ := at_T44 HR0_0.out x6_1 p238 q238
 obtain rfl : ad236 = ad238 := (by injection e238)
 replace hx238_0 := hx_ HB.out hx238_0
 replace hx238_1 := hx_ HB.out hx238_1
 replace hx238_2 := hx_ HB.out hx238_2
 replace p238 := eq_true p238
 replace q238 := eq_true q238
 go_wp2_with (first | ((with_reducible refine gate_callee (f := 142) rfl ?_); refine goesL_ (some 35) rfl rfl Try.func142 (by kernel_rfl) rfl #[.string ((rd_T44 l0_0 x6_1).f0)] rfl tq_0 ?_; (with_reducible refine (spec_LastOf.calls k1 ((rd_T44 l0_0 x6_1).f0) t239 _ A16.out).mono ?_); rintro e w19 ⟨rfl, hb⟩; refine ⟨_, rfl, ?_⟩; have z_ := p_ (Kd.R_below (raR_ HO_5) hb) <| bw1_ (kb_ BK232) th_ hb; clear HO_5 BK232 HB; obtain ⟨HO_5, BK232, HB⟩ := z_; (try clear hb)) | ((with_reducible refine gate_builtin (b := .append) (xs := #[.tmp 28, .tmp 36]) rfl ?_); at_builtin; refine Kd.R_append Kd.string (w0 := w) w.heap.size rfl (.tmp 28) (.tmp 36) 109 9 (.string ⟨#[]⟩) 16 rfl Try.underlying109 info9 rfl (by decide) (by omega) u5 x5_1 t239 [.string t239] (fun _ => True) (fun _ => False) rfl rfl ?aP (fun _ hk => hk.elim) ?aF ?aO ?aB ?aS ?aL ?_; (case aP => exact rfl); (case aB => exact th_); (case aF => exact (fun _ _ => trivial)); (case aO => exact (raR_ HO_5)); (case aS => exact (below_size th_)); (case aL => have := LMc17.out; omega); intro v241 w20 ho hb hg hat; rw [← Ny240.out] at ho; have z_ := p_ (blk_grown (g := gb232) (o := .cells #[.slice (some ad236) l0_0.length c0_0] 42 (0, 0)) (kb_ BK232) hg (Kd.R_ne HO_5.out BK232.out (by decide))) <| p_ (hb) <| a_ (ho); clear BK232 HB HO_5; obtain ⟨BK232, HB, HO242⟩ := z_; clear ho hb hg hat))
 go_roundg k1
 case measure => have := HK1.out; omega
 case rel => exact ⟨(y240), (wrap64 (x6_1 + 1)), tq_5, H', ⟨tq_79⟩, ⟨(raR_ HO242)⟩, ⟨(kb_ BK232)⟩, ⟨th_⟩⟩

/-! ### spec_PlaceFor: function 138 -/
def spec_PlaceFor.f (k : Nat) (l0_0 : List (S44)) (a1 : ByteArray) : Option (Int) := (spec_SplitPath.f k a1).bind fun bt244 => (if bt244.2 = 0 then (if a1.toList = ([47] : List UInt8) then (some 6) else ((spec_ParentOf.f k a1).bind fun t248 => ((spec_LookUp.f k l0_0 t248).bind fun t249 => (if t249 = 0 then ((spec_l17Dir.f k l0_0 t248).bind fun t250 => (if t250 = true then ((spec_ItemAt.f k l0_0 a1).bind fun t251 => (if t251 ≥ 0 then (some 6) else ((spec_KidsOf.f k l0_0 t248).bind fun t252 => (if (t252.length : Int) ≥ 6 then (some 7) else (some 0))))) else (some 4))) else (some t249))))) else (some bt244.2))
theorem spec_PlaceFor.mono : ∀ a0 a1 k, LeO (spec_PlaceFor.f k a0 a1) (spec_PlaceFor.f (k + 1) a0 a1) := by
 intro a0 a1 k
 unfold spec_PlaceFor.f
 repeat' first
   | (with_reducible exact spec_ItemAt.mono ..)
   | (with_reducible exact spec_KidsOf.mono ..)
   | (with_reducible exact spec_LookUp.mono ..)
   | (with_reducible exact spec_ParentOf.mono ..)
   | (with_reducible exact spec_SplitPath.mono ..)
   | (with_reducible exact spec_l17Dir.mono ..)
   | (with_reducible exact LeO.refl _)
   | (with_reducible exact LeO.none _)
   | (with_reducible refine LeO.ite ?_ ?_)
   | (with_reducible refine LeO.bind ?_ (fun _ => ?_))
   | exact spec_ItemAt.mono ..
   | exact spec_KidsOf.mono ..
   | exact spec_LookUp.mono ..
   | exact spec_ParentOf.mono ..
   | exact spec_SplitPath.mono ..
   | exact spec_l17Dir.mono ..
   | exact LeO.none _
   | refine LeO.ite ?_ ?_
   | refine LeO.bind ?_ (fun _ => ?_)
set_option maxHeartbeats 8000000 in
set_option maxRecDepth 100000 in
theorem spec_PlaceFor.calls (k : Nat) (A0_0 : Option Addr) (c0_0 : Nat) (l0_0 : List (S44)) (a1 : ByteArray) (r : Int) (w : World) (hr0_0 : Kd.C k44 w A0_0 l0_0.length l0_0) (hc0_0 : l0_0.length ≤ c0_0) (h : spec_PlaceFor.f k l0_0 a1 = some r) :
  Calls Try.prog 138 #[.agg #[.slice A0_0 l0_0.length c0_0], .string a1] w fun e w' => e = .returned (.int .i64 r) ∧ Below w.heap.size w w' := by
 have hu42 := Try.underlying42
 have HR0_0 := Aside0.mk hr0_0
 have HC0_0 := Aside0.mk hc0_0
 clear hr0_0 hc0_0
 have HB := Aside0.mk (Below.refl w.heap.size w)
 unfold spec_PlaceFor.f at h
 have H := h
 clear h
 obtain ⟨⟨t244, t245⟩, A3, H⟩ := bd_ H
 try dsimp -simprocs only at H
 by_cases c4 : t245 = 0
 rotate_left
 ·rw [if_neg c4] at H
  have c4b0 := beq_eq_false_iff_ne.mpr c4
  have c4b1 := bne_iff_ne.mpr c4
  obtain rfl := Option.some.inj H
  go_enter Try.func138, Try.ntmps138
  go_wp2_with (first | ((with_reducible refine gate_dst (N := 2) rfl ?_); refine be_ 2 (cs := #[.slice A0_0 l0_0.length c0_0]) 42 ?_; intro gb243 hg w62 hbox hb; have z_ := bx0_ th_ hb hbox hg; clear HB; obtain ⟨HB, BK243, GW243, GE243⟩ := z_; clear hb hbox hg) | ((with_reducible refine gate_callee (f := 139) rfl ?_); refine goesL_ (some 10) rfl rfl Try.func139 (by kernel_rfl) rfl #[.string a1] rfl tq_0 ?_; (with_reducible refine (spec_SplitPath.calls k a1 t244 t245 _ A3.out).mono ?_); rintro e w63 ⟨v246, rfl, ho0, hb⟩; refine ⟨_, rfl, ?_⟩; have z_ := p_ (Kd.R_lower ho0 (below_size th_)) <| bw1_ (kb_ BK243) th_ hb; clear BK243 HB; obtain ⟨HO247, BK243, HB⟩ := z_; (try clear hb); (try clear ho0)))
  go_ret
  exact ⟨tq_1, th_⟩
 rw [if_pos c4] at H
 have c4b0 := beq_iff_eq.mpr c4
 have c4b1 := bne_eq_false_iff_eq.mpr c4
 clear c4
 by_cases c5 : a1.toList = ([47] : List UInt8)
 ·rw [if_pos c5] at H
  have c5b0 := beq_iff_eq.mpr c5
  have c5b1 := bne_eq_false_iff_eq.mpr c5
  clear c5
  obtain rfl := Option.some.inj H
  go_enter Try.func138, Try.ntmps138
  go_wp2_with (first | ((with_reducible refine gate_dst (N := 2) rfl ?_); refine be_ 2 (cs := #[.slice A0_0 l0_0.length c0_0]) 42 ?_; intro gb243 hg w6 hbox hb; have z_ := bx0_ th_ hb hbox hg; clear HB; obtain ⟨HB, BK243, GW243, GE243⟩ := z_; clear hb hbox hg) | ((with_reducible refine gate_callee (f := 139) rfl ?_); refine goesL_ (some 10) rfl rfl Try.func139 (by kernel_rfl) rfl #[.string a1] rfl tq_0 ?_; (with_reducible refine (spec_SplitPath.calls k a1 t244 t245 _ A3.out).mono ?_); rintro e w7 ⟨v246, rfl, ho0, hb⟩; refine ⟨_, rfl, ?_⟩; have z_ := p_ (Kd.R_lower ho0 (below_size th_)) <| bw1_ (kb_ BK243) th_ hb; clear BK243 HB; obtain ⟨HO247, BK243, HB⟩ := z_; (try clear hb); (try clear ho0)))
  go_ret
  exact ⟨tq_1, th_⟩
 rw [if_neg c5] at H
 have c5b0 := beq_eq_false_iff_ne.mpr c5
 have c5b1 := bne_iff_ne.mpr c5
 obtain ⟨t248, A8, H⟩ := bd_ H
 obtain ⟨t249, A9, H⟩ := bd_ H
 by_cases c10 : t249 = 0
 rotate_left
 ·rw [if_neg c10] at H
  have c10b0 := beq_eq_false_iff_ne.mpr c10
  have c10b1 := bne_iff_ne.mpr c10
  obtain rfl := Option.some.inj H
  go_enter Try.func138, Try.ntmps138
  go_wp2_with (first | ((with_reducible refine gate_dst (N := 2) rfl ?_); refine be_ 2 (cs := #[.slice A0_0 l0_0.length c0_0]) 42 ?_; intro gb243 hg w57 hbox hb; have z_ := bx0_ th_ hb hbox hg; clear HB; obtain ⟨HB, BK243, GW243, GE243⟩ := z_; clear hb hbox hg) | ((with_reducible refine gate_callee (f := 139) rfl ?_); refine goesL_ (some 10) rfl rfl Try.func139 (by kernel_rfl) rfl #[.string a1] rfl tq_0 ?_; (with_reducible refine (spec_SplitPath.calls k a1 t244 t245 _ A3.out).mono ?_); rintro e w58 ⟨v246, rfl, ho0, hb⟩; refine ⟨_, rfl, ?_⟩; have z_ := p_ (Kd.R_lower ho0 (below_size th_)) <| bw1_ (kb_ BK243) th_ hb; clear BK243 HB; obtain ⟨HO247, BK243, HB⟩ := z_; (try clear hb); (try clear ho0)) | ((with_reducible refine gate_callee (f := 141) rfl ?_); refine goesL_ (some 19) rfl rfl Try.func141 (by kernel_rfl) rfl #[.string a1] rfl tq_0 ?_; (with_reducible refine (spec_ParentOf.calls k a1 t248 _ A8.out).mono ?_); rintro e w59 ⟨rfl, hb⟩; refine ⟨_, rfl, ?_⟩; have z_ := p_ (Kd.R_below (raR_ HO247) hb) <| bw1_ (kb_ BK243) th_ hb; clear HO247 BK243 HB; obtain ⟨HO247, BK243, HB⟩ := z_; (try clear hb); have hcz60_0 := bc_ BK243.out 0; have hfz60_0 := blk_frozen BK243.out 0) | ((with_reducible refine gate_callee (f := 127) rfl ?_); refine goesL_ (some 22) rfl rfl Try.func127 (by kernel_rfl) rfl #[.agg #[.slice A0_0 l0_0.length c0_0], .string t248] rfl tq_0 ?_; (with_reducible refine (spec_LookUp.calls k _ _ l0_0 t248 t249 _ ?side1 ?side2 A9.out).mono ?_); (case side1 => exact tq_10); (case side2 => exact HC0_0.out); rintro e w61 ⟨rfl, hb⟩; refine ⟨_, rfl, ?_⟩; have z_ := p_ (Kd.R_below (raR_ HO247) hb) <| bw1_ (kb_ BK243) th_ hb; clear HO247 BK243 HB; obtain ⟨HO247, BK243, HB⟩ := z_; (try clear hb)))
  go_ret
  exact ⟨tq_1, th_⟩
 rw [if_pos c10] at H
 have c10b0 := beq_iff_eq.mpr c10
 have c10b1 := bne_eq_false_iff_eq.mpr c10
 clear c10
 obtain ⟨t250, A11, H⟩ := bd_ H
 by_cases c12 : t250 = true
 rotate_left
 ·replace c12 := Bool.eq_false_iff.mpr c12
  subst c12
  rw [if_neg nf_] at H
  obtain rfl := Option.some.inj H
  go_enter Try.func138, Try.ntmps138
  go_wp2_with (first | ((with_reducible refine gate_dst (N := 2) rfl ?_); refine be_ 2 (cs := #[.slice A0_0 l0_0.length c0_0]) 42 ?_; intro gb243 hg w50 hbox hb; have z_ := bx0_ th_ hb hbox hg; clear HB; obtain ⟨HB, BK243, GW243, GE243⟩ := z_; clear hb hbox hg) | ((with_reducible refine gate_callee (f := 139) rfl ?_); refine goesL_ (some 10) rfl rfl Try.func139 (by kernel_rfl) rfl #[.string a1] rfl tq_0 ?_; (with_reducible refine (spec_SplitPath.calls k a1 t244 t245 _ A3.out).mono ?_); rintro e w51 ⟨v246, rfl, ho0, hb⟩; refine ⟨_, rfl, ?_⟩; have z_ := p_ (Kd.R_lower ho0 (below_size th_)) <| bw1_ (kb_ BK243) th_ hb; clear BK243 HB; obtain ⟨HO247, BK243, HB⟩ := z_; (try clear hb); (try clear ho0)) | ((with_reducible refine gate_callee (f := 141) rfl ?_); refine goesL_ (some 19) rfl rfl Try.func141 (by kernel_rfl) rfl #[.string a1] rfl tq_0 ?_; (with_reducible refine (spec_ParentOf.calls k a1 t248 _ A8.out).mono ?_); rintro e w52 ⟨rfl, hb⟩; refine ⟨_, rfl, ?_⟩; have z_ := p_ (Kd.R_below (raR_ HO247) hb) <| bw1_ (kb_ BK243) th_ hb; clear HO247 BK243 HB; obtain ⟨HO247, BK243, HB⟩ := z_; (try clear hb); have hcz53_0 := bc_ BK243.out 0; have hfz53_0 := blk_frozen BK243.out 0) | ((with_reducible refine gate_callee (f := 127) rfl ?_); refine goesL_ (some 22) rfl rfl Try.func127 (by kernel_rfl) rfl #[.agg #[.slice A0_0 l0_0.length c0_0], .string t248] rfl tq_0 ?_; (with_reducible refine (spec_LookUp.calls k _ _ l0_0 t248 t249 _ ?side1 ?side2 A9.out).mono ?_); (case side1 => exact tq_10); (case side2 => exact HC0_0.out); rintro e w54 ⟨rfl, hb⟩; refine ⟨_, rfl, ?_⟩; have z_ := p_ (Kd.R_below (raR_ HO247) hb) <| bw1_ (kb_ BK243) th_ hb; clear HO247 BK243 HB; obtain ⟨HO247, BK243, HB⟩ := z_; (try clear hb); have hcz55_0 := bc_ BK243.out 0; have hfz55_0 := blk_frozen BK243.out 0) | ((with_reducible refine gate_callee (f := 128) rfl ?_); refine goesL_ (some 30) rfl rfl Try.func128 (by kernel_rfl) rfl #[.agg #[.slice A0_0 l0_0.length c0_0], .string t248] rfl tq_0 ?_; (with_reducible refine (spec_l17Dir.calls k _ _ l0_0 t248 false _ ?side1 ?side2 A11.out).mono ?_); (case side1 => exact tq_10); (case side2 => exact HC0_0.out); rintro e w56 ⟨rfl, hb⟩; refine ⟨_, rfl, ?_⟩; have z_ := p_ (Kd.R_below (raR_ HO247) hb) <| bw1_ (kb_ BK243) th_ hb; clear HO247 BK243 HB; obtain ⟨HO247, BK243, HB⟩ := z_; (try clear hb)))
  go_ret
  exact ⟨tq_1, th_⟩
 subst c12
 rw [if_pos rfl] at H
 obtain ⟨t251, A13, H⟩ := bd_ H
 by_cases c14 : t251 ≥ 0
 ·rw [if_pos c14] at H
  have c14b0 := decide_eq_true c14
  clear c14
  obtain rfl := Option.some.inj H
  go_enter Try.func138, Try.ntmps138
  go_wp2_with (first | ((with_reducible refine gate_dst (N := 2) rfl ?_); refine be_ 2 (cs := #[.slice A0_0 l0_0.length c0_0]) 42 ?_; intro gb243 hg w15 hbox hb; have z_ := bx0_ th_ hb hbox hg; clear HB; obtain ⟨HB, BK243, GW243, GE243⟩ := z_; clear hb hbox hg) | ((with_reducible refine gate_callee (f := 139) rfl ?_); refine goesL_ (some 10) rfl rfl Try.func139 (by kernel_rfl) rfl #[.string a1] rfl tq_0 ?_; (with_reducible refine (spec_SplitPath.calls k a1 t244 t245 _ A3.out).mono ?_); rintro e w16 ⟨v246, rfl, ho0, hb⟩; refine ⟨_, rfl, ?_⟩; have z_ := p_ (Kd.R_lower ho0 (below_size th_)) <| bw1_ (kb_ BK243) th_ hb; clear BK243 HB; obtain ⟨HO247, BK243, HB⟩ := z_; (try clear hb); (try clear ho0)) | ((with_reducible refine gate_callee (f := 141) rfl ?_); refine goesL_ (some 19) rfl rfl Try.func141 (by kernel_rfl) rfl #[.string a1] rfl tq_0 ?_; (with_reducible refine (spec_ParentOf.calls k a1 t248 _ A8.out).mono ?_); rintro e w17 ⟨rfl, hb⟩; refine ⟨_, rfl, ?_⟩; have z_ := p_ (Kd.R_below (raR_ HO247) hb) <| bw1_ (kb_ BK243) th_ hb; clear HO247 BK243 HB; obtain ⟨HO247, BK243, HB⟩ := z_; (try clear hb); have hcz18_0 := bc_ BK243.out 0; have hfz18_0 := blk_frozen BK243.out 0) | ((with_reducible refine gate_callee (f := 127) rfl ?_); refine goesL_ (some 22) rfl rfl Try.func127 (by kernel_rfl) rfl #[.agg #[.slice A0_0 l0_0.length c0_0], .string t248] rfl tq_0 ?_; (with_reducible refine (spec_LookUp.calls k _ _ l0_0 t248 t249 _ ?side1 ?side2 A9.out).mono ?_); (case side1 => exact tq_10); (case side2 => exact HC0_0.out); rintro e w19 ⟨rfl, hb⟩; refine ⟨_, rfl, ?_⟩; have z_ := p_ (Kd.R_below (raR_ HO247) hb) <| bw1_ (kb_ BK243) th_ hb; clear HO247 BK243 HB; obtain ⟨HO247, BK243, HB⟩ := z_; (try clear hb); have hcz20_0 := bc_ BK243.out 0; have hfz20_0 := blk_frozen BK243.out 0) | ((with_reducible refine gate_callee (f := 128) rfl ?_); refine goesL_ (some 30) rfl rfl Try.func128 (by kernel_rfl) rfl #[.agg #[.slice A0_0 l0_0.length c0_0], .string t248] rfl tq_0 ?_; (with_reducible refine (spec_l17Dir.calls k _ _ l0_0 t248 true _ ?side1 ?side2 A11.out).mono ?_); (case side1 => exact tq_10); (case side2 => exact HC0_0.out); rintro e w21 ⟨rfl, hb⟩; refine ⟨_, rfl, ?_⟩; have z_ := p_ (Kd.R_below (raR_ HO247) hb) <| bw1_ (kb_ BK243) th_ hb; clear HO247 BK243 HB; obtain ⟨HO247, BK243, HB⟩ := z_; (try clear hb); have hcz22_0 := bc_ BK243.out 0; have hfz22_0 := blk_frozen BK243.out 0) | ((with_reducible refine gate_callee (f := 129) rfl ?_); refine goesL_ (some 35) rfl rfl Try.func129 (by kernel_rfl) rfl #[.agg #[.slice A0_0 l0_0.length c0_0], .string a1] rfl tq_0 ?_; (with_reducible refine (spec_ItemAt.calls k _ _ l0_0 a1 t251 _ ?side1 ?side2 A13.out).mono ?_); (case side1 => exact tq_10); (case side2 => exact HC0_0.out); rintro e w23 ⟨rfl, hb⟩; refine ⟨_, rfl, ?_⟩; have z_ := p_ (Kd.R_below (raR_ HO247) hb) <| bw1_ (kb_ BK243) th_ hb; clear HO247 BK243 HB; obtain ⟨HO247, BK243, HB⟩ := z_; (try clear hb)))
  go_ret
  exact ⟨tq_1, th_⟩
 rw [if_neg c14] at H
 have c14b0 := decide_eq_false c14
 clear c14
 obtain ⟨t252, A24, H⟩ := bd_ H
 by_cases c25 : (t252.length : Int) ≥ 6
 ·rw [if_pos c25] at H
  have c25b0 := decide_eq_true c25
  have c25b1 : decide (6 ≤ t252.length) = true := decide_eq_true (by omega)
  clear c25
  obtain rfl := Option.some.inj H
  go_enter Try.func138, Try.ntmps138
  go_wp2_with (first | ((with_reducible refine gate_dst (N := 2) rfl ?_); refine be_ 2 (cs := #[.slice A0_0 l0_0.length c0_0]) 42 ?_; intro gb243 hg w26 hbox hb; have z_ := bx0_ th_ hb hbox hg; clear HB; obtain ⟨HB, BK243, GW243, GE243⟩ := z_; clear hb hbox hg) | ((with_reducible refine gate_callee (f := 139) rfl ?_); refine goesL_ (some 10) rfl rfl Try.func139 (by kernel_rfl) rfl #[.string a1] rfl tq_0 ?_; (with_reducible refine (spec_SplitPath.calls k a1 t244 t245 _ A3.out).mono ?_); rintro e w27 ⟨v246, rfl, ho0, hb⟩; refine ⟨_, rfl, ?_⟩; have z_ := p_ (Kd.R_lower ho0 (below_size th_)) <| bw1_ (kb_ BK243) th_ hb; clear BK243 HB; obtain ⟨HO247, BK243, HB⟩ := z_; (try clear hb); (try clear ho0)) | ((with_reducible refine gate_callee (f := 141) rfl ?_); refine goesL_ (some 19) rfl rfl Try.func141 (by kernel_rfl) rfl #[.string a1] rfl tq_0 ?_; (with_reducible refine (spec_ParentOf.calls k a1 t248 _ A8.out).mono ?_); rintro e w28 ⟨rfl, hb⟩; refine ⟨_, rfl, ?_⟩; have z_ := p_ (Kd.R_below (raR_ HO247) hb) <| bw1_ (kb_ BK243) th_ hb; clear HO247 BK243 HB; obtain ⟨HO247, BK243, HB⟩ := z_; (try clear hb); have hcz29_0 := bc_ BK243.out 0; have hfz29_0 := blk_frozen BK243.out 0) | ((with_reducible refine gate_callee (f := 127) rfl ?_); refine goesL_ (some 22) rfl rfl Try.func127 (by kernel_rfl) rfl #[.agg #[.slice A0_0 l0_0.length c0_0], .string t248] rfl tq_0 ?_; (with_reducible refine (spec_LookUp.calls k _ _ l0_0 t248 t249 _ ?side1 ?side2 A9.out).mono ?_); (case side1 => exact tq_10); (case side2 => exact HC0_0.out); rintro e w30 ⟨rfl, hb⟩; refine ⟨_, rfl, ?_⟩; have z_ := p_ (Kd.R_below (raR_ HO247) hb) <| bw1_ (kb_ BK243) th_ hb; clear HO247 BK243 HB; obtain ⟨HO247, BK243, HB⟩ := z_; (try clear hb); have hcz31_0 := bc_ BK243.out 0; have hfz31_0 := blk_frozen BK243.out 0) | ((with_reducible refine gate_callee (f := 128) rfl ?_); refine goesL_ (some 30) rfl rfl Try.func128 (by kernel_rfl) rfl #[.agg #[.slice A0_0 l0_0.length c0_0], .string t248] rfl tq_0 ?_; (with_reducible refine (spec_l17Dir.calls k _ _ l0_0 t248 true _ ?side1 ?side2 A11.out).mono ?_); (case side1 => exact tq_10); (case side2 => exact HC0_0.out); rintro e w32 ⟨rfl, hb⟩; refine ⟨_, rfl, ?_⟩; have z_ := p_ (Kd.R_below (raR_ HO247) hb) <| bw1_ (kb_ BK243) th_ hb; clear HO247 BK243 HB; obtain ⟨HO247, BK243, HB⟩ := z_; (try clear hb); have hcz33_0 := bc_ BK243.out 0; have hfz33_0 := blk_frozen BK243.out 0) | ((with_reducible refine gate_callee (f := 129) rfl ?_); refine goesL_ (some 35) rfl rfl Try.func129 (by kernel_rfl) rfl #[.agg #[.slice A0_0 l0_0.length c0_0], .string a1] rfl tq_0 ?_; (with_reducible refine (spec_ItemAt.calls k _ _ l0_0 a1 t251 _ ?side1 ?side2 A13.out).mono ?_); (case side1 => exact tq_10); (case side2 => exact HC0_0.out); rintro e w34 ⟨rfl, hb⟩; refine ⟨_, rfl, ?_⟩; have z_ := p_ (Kd.R_below (raR_ HO247) hb) <| bw1_ (kb_ BK243) th_ hb; clear HO247 BK243 HB; obtain ⟨HO247, BK243, HB⟩ := z_; (try clear hb); have hcz35_0 := bc_ BK243.out 0; have hfz35_0 := blk_frozen BK243.out 0) | ((with_reducible refine gate_callee (f := 130) rfl ?_); refine goesL_ (some 40) rfl rfl Try.func130 (by kernel_rfl) rfl #[.agg #[.slice A0_0 l0_0.length c0_0], .string t248] rfl tq_0 ?_; (with_reducible refine (spec_KidsOf.calls k _ _ l0_0 t248 t252 _ ?side1 ?side2 A24.out).mono ?_); (case side1 => exact tq_10); (case side2 => exact HC0_0.out); rintro e w36 ⟨v253, rfl, ho0, hb⟩; refine ⟨_, rfl, ?_⟩; have z_ := p_ (Kd.R_elder' (raR_ HO247) (Kd.R_base ho0) hb) <| p_ (Kd.R_lower (Kd.R_new' ho0 (Kd.R_lt (raR_ HO247))) (below_size th_)) <| bw1_ (kb_ BK243) th_ hb; clear HO247 BK243 HB; obtain ⟨HO247, HO254, BK243, HB⟩ := z_; (try clear hb); (try clear ho0); obtain ⟨Ao37, co37, eo37⟩ := Kd.R_slice HO254.out; subst eo37))
  go_ret
  exact ⟨tq_1, th_⟩
 rw [if_neg c25] at H
 have c25b0 := decide_eq_false c25
 have c25b1 : decide (6 ≤ t252.length) = false := decide_eq_false (by omega)
 clear c25
 obtain rfl := Option.some.inj H
 go_enter Try.func138, Try.ntmps138
 go_wp2_with (first | ((with_reducible refine gate_dst (N := 2) rfl ?_); refine be_ 2 (cs := #[.slice A0_0 l0_0.length c0_0]) 42 ?_; intro gb243 hg w38 hbox hb; have z_ := bx0_ th_ hb hbox hg; clear HB; obtain ⟨HB, BK243, GW243, GE243⟩ := z_; clear hb hbox hg) | ((with_reducible refine gate_callee (f := 139) rfl ?_); refine goesL_ (some 10) rfl rfl Try.func139 (by kernel_rfl) rfl #[.string a1] rfl tq_0 ?_; (with_reducible refine (spec_SplitPath.calls k a1 t244 t245 _ A3.out).mono ?_); rintro e w39 ⟨v246, rfl, ho0, hb⟩; refine ⟨_, rfl, ?_⟩; have z_ := p_ (Kd.R_lower ho0 (below_size th_)) <| bw1_ (kb_ BK243) th_ hb; clear BK243 HB; obtain ⟨HO247, BK243, HB⟩ := z_; (try clear hb); (try clear ho0)) | ((with_reducible refine gate_callee (f := 141) rfl ?_); refine goesL_ (some 19) rfl rfl Try.func141 (by kernel_rfl) rfl #[.string a1] rfl tq_0 ?_; (with_reducible refine (spec_ParentOf.calls k a1 t248 _ A8.out).mono ?_); rintro e w40 ⟨rfl, hb⟩; refine ⟨_, rfl, ?_⟩; have z_ := p_ (Kd.R_below (raR_ HO247) hb) <| bw1_ (kb_ BK243) th_ hb; clear HO247 BK243 HB; obtain ⟨HO247, BK243, HB⟩ := z_; (try clear hb); have hcz41_0 := bc_ BK243.out 0; have hfz41_0 := blk_frozen BK243.out 0) | ((with_reducible refine gate_callee (f := 127) rfl ?_); refine goesL_ (some 22) rfl rfl Try.func127 (by kernel_rfl) rfl #[.agg #[.slice A0_0 l0_0.length c0_0], .string t248] rfl tq_0 ?_; (with_reducible refine (spec_LookUp.calls k _ _ l0_0 t248 t249 _ ?side1 ?side2 A9.out).mono ?_); (case side1 => exact tq_10); (case side2 => exact HC0_0.out); rintro e w42 ⟨rfl, hb⟩; refine ⟨_, rfl, ?_⟩; have z_ := p_ (Kd.R_below (raR_ HO247) hb) <| bw1_ (kb_ BK243) th_ hb; clear HO247 BK243 HB; obtain ⟨HO247, BK243, HB⟩ := z_; (try clear hb); have hcz43_0 := bc_ BK243.out 0; have hfz43_0 := blk_frozen BK243.out 0) | ((with_reducible refine gate_callee (f := 128) rfl ?_); refine goesL_ (some 30) rfl rfl Try.func128 (by kernel_rfl) rfl #[.agg #[.slice A0_0 l0_0.length c0_0], .string t248] rfl tq_0 ?_; (with_reducible refine (spec_l17Dir.calls k _ _ l0_0 t248 true _ ?side1 ?side2 A11.out).mono ?_); (case side1 => exact tq_10); (case side2 => exact HC0_0.out); rintro e w44 ⟨rfl, hb⟩; refine ⟨_, rfl, ?_⟩; have z_ := p_ (Kd.R_below (raR_ HO247) hb) <| bw1_ (kb_ BK243) th_ hb; clear HO247 BK243 HB; obtain ⟨HO247, BK243, HB⟩ := z_; (try clear hb); have hcz45_0 := bc_ BK243.out 0; have hfz45_0 := blk_frozen BK243.out 0) | ((with_reducible refine gate_callee (f := 129) rfl ?_); refine goesL_ (some 35) rfl rfl Try.func129 (by kernel_rfl) rfl #[.agg #[.slice A0_0 l0_0.length c0_0], .string a1] rfl tq_0 ?_; (with_reducible refine (spec_ItemAt.calls k _ _ l0_0 a1 t251 _ ?side1 ?side2 A13.out).mono ?_); (case side1 => exact tq_10); (case side2 => exact HC0_0.out); rintro e w46 ⟨rfl, hb⟩; refine ⟨_, rfl, ?_⟩; have z_ := p_ (Kd.R_below (raR_ HO247) hb) <| bw1_ (kb_ BK243) th_ hb; clear HO247 BK243 HB; obtain ⟨HO247, BK243, HB⟩ := z_; (try clear hb); have hcz47_0 := bc_ BK243.out 0; have hfz47_0 := blk_frozen BK243.out 0) | ((with_reducible refine gate_callee (f := 130) rfl ?_); refine goesL_ (some 40) rfl rfl Try.func130 (by kernel_rfl) rfl #[.agg #[.slice A0_0 l0_0.length c0_0], .string t248] rfl tq_0 ?_; (with_reducible refine (spec_KidsOf.calls k _ _ l0_0 t248 t252 _ ?side1 ?side2 A24.out).mono ?_); (case side1 => exact tq_10); (case side2 => exact HC0_0.out); rintro e w48 ⟨v253, rfl, ho0, hb⟩; refine ⟨_, rfl, ?_⟩; have z_ := p_ (Kd.R_elder' (raR_ HO247) (Kd.R_base ho0) hb) <| p_ (Kd.R_lower (Kd.R_new' ho0 (Kd.R_lt (raR_ HO247))) (below_size th_)) <| bw1_ (kb_ BK243) th_ hb; clear HO247 BK243 HB; obtain ⟨HO247, HO254, BK243, HB⟩ := z_; (try clear hb); (try clear ho0); obtain ⟨Ao49, co49, eo49⟩ := Kd.R_slice HO254.out; subst eo49))
 go_ret
 exact ⟨tq_1, th_⟩

end Go.Proofs.Ytljnnmpfeningaa.PFnViews
