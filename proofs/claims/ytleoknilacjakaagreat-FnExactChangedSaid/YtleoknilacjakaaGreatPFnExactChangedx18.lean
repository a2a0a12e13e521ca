/- Contracts of Go functions: each call returns what the Lean function beside it computes. Conditions: as each theorem states them. -/
import Derived.Test.YtleoknilacjakaaGreatPkFnExactChanged
import Derived.Test.YtleoknilacjakaaGreatPFnExactChangedx1
import Derived.Test.YtleoknilacjakaaGreatPFnExactChangedx17
namespace Go.Proofs.YtleoknilacjakaaGreat.PFnExactChanged
open Go.RowKit Go.Proofs.YtleoknilacjakaaGreatW.PrintWords Go.Proofs.YtleoknilacjakaaGreatW.PrintLast Go.Proofs.YtleoknilacjakaaGreatW.PrintMore
attribute [local go_sem] max2_int min2_int max_two min_two max_three min_three max_four min_four   -- for this text's walks alone
set_option linter.unusedVariables false
set_option linter.unusedSimpArgs false

/-! ### impl_NumText: function 84 -/
mutual
def impl_NumText.j0 : Nat → Int → Int → Bool → Option (ByteArray)
 | 0, _, _, _ => none
 | k + 1, x0, x1, a6 => if a6 = true then (some (⟨#[]⟩ : ByteArray)) else (if 0 ≤ x1 then (if (x1 : Int).toNat ≤ 281474976710656 then ((some (List.replicate (x1 : Int).toNat 0 : List Int)).bind fun a5 => (impl_NumText.l0 k x0 x1 a5 (a5.length : Int) 0)) else (none)) else (none))
def impl_NumText.l0 : Nat → Int → Int → List Int → Int → Int → Option (ByteArray)
 | 0, _, _, _, _, _ => none
 | k + 1, x0, x1, x5, a6, a5 => if a5 < a6 then (if 0 ≤ (wrap64 (8 * (wrap64 ((wrap64 (x1 - 1)) - a5)))) then (if 0 ≤ a5 then (if a5 < (x5.length : Int) then (impl_NumText.l0 k x0 x1 (x5.set (a5 : Int).toNat ((shr .i64 x0 (wrap64 (8 * (wrap64 ((wrap64 (x1 - 1)) - a5))))) % 256)) a6 (wrap64 (a5 + 1))) else (none)) else (none)) else (none)) else (some (strOfNums x5))
end
def impl_NumText.f (k : Nat) (a0 : Int) (a1 : Int) : Option (ByteArray) := if a0 < 0 then (impl_NumText.j0 k a0 a1 true) else ((impl_within.f a1 1 7).bind fun a5 => (if a5 = true then (if 0 ≤ (wrap64 (8 * a1)) then (impl_NumText.j0 k a0 a1 (decide (a0 ≥ (shl .i64 1 (wrap64 (8 * a1)))))) else (none)) else (impl_NumText.j0 k a0 a1 true)))
set_option maxHeartbeats 8000000 in
set_option maxRecDepth 100000 in
theorem impl_NumText.calls (k : Nat) (a0 : Int) (a1 : Int) (r : ByteArray) (w : World) (h : impl_NumText.f k a0 a1 = some r) :
  Calls Tryz.prog 84 #[.int .i64 a0, .int .i64 a1] w fun e w' => e = .returned (.string r) ∧ Below w.heap.size w w' := by
 have HB := Aside0.mk (Below.refl w.heap.size w)
 unfold impl_NumText.f at h
 have H := h
 clear h
 have aw := Aside0.mk H
 clear H
 go_enter Tryz.func84, Tryz.ntmps84
 go_upto_region 1 with (fail)
 go_cut [20] (fun v20 wc => ∃ (kq : Nat) (ab : Bool), v20 = .bool ab ∧ Aside0 (impl_NumText.j0 kq a0 a1 ab = some r) ∧ Aside0 (kq ≤ k) ∧ Aside0 (Below w.heap.size w wc))
 case first =>
  have H := aw.out
  clear aw
  by_cases c4 : a0 < 0
  ·rw [if_pos c4] at H
   have a9 := decide_eq_true c4
   clear c4
   (first | rw [a9] | (simp only [i64_w, i32_w]; rw [a9]) | skip)
   have H' := Aside0.mk H
   clear H
   go_wp2
   go_meet
   case rel => exact ⟨_, (true), tq_3, H', ⟨tq_18⟩, ⟨th_⟩⟩
  rw [if_neg c4] at H
  have a9 := decide_eq_false c4
  clear c4
  (first | rw [a9] | (simp only [i64_w, i32_w]; rw [a9]) | skip)
  obtain ⟨ax, A5, H⟩ := bd_ H
  by_cases c6 : ax = true
  rotate_left
  ·replace c6 := Bool.eq_false_iff.mpr c6
   subst c6
   rw [if_neg nf_] at H
   have H' := Aside0.mk H
   clear H
   go_wp2_with (first | (go_at_call 49; (with_reducible refine (impl_within.calls a1 1 7 false _ A5.out).mono ?_); rintro e w' ⟨rfl, ⟨nd, rfl⟩⟩))
   go_meet
   case rel => exact ⟨_, (true), tq_3, H', ⟨tq_18⟩, ⟨th_⟩⟩
  subst c6
  rw [if_pos rfl] at H
  obtain ⟨ji7, hji7⟩ : ∃ j_ : Int, (wrap64 (8 * a1)) = j_ := ⟨_, rfl⟩
  replace H : (if 0 ≤ (ji7) then (impl_NumText.j0 k a0 a1 (decide (a0 ≥ (shl .i64 1 (ji7))))) else (none)) = some r := by first | (rw [hji7] at H; exact H) | (simp only [hji7] at H ⊢; exact H)
  (try rw [hji7] at A5)
  have hji7w : (IntKind.i64.wrap (8 * a1)) = ji7 := (i64_w _).trans hji7
  obtain ⟨c8, H⟩ := fc_ H
  have ah := eq_true c8
  have ai := decide_eq_true c8
  clear c8
  obtain ⟨ji9, hji9⟩ : ∃ j_ : Int, (shl .i64 1 (ji7)) = j_ := ⟨_, rfl⟩
  replace H : (impl_NumText.j0 k a0 a1 (decide (a0 ≥ (ji9)))) = some r := by first | (rw [hji9] at H; exact H) | (simp only [hji9] at H ⊢; exact H)
  (try rw [hji9] at A5)
  have hji9_ : (IntKind.i64.wrap (1 * 2 ^ min (ji7).toNat 64)) = ji9 := hji9
  have hji9z : (ji7) ≤ 64 → (IntKind.i64.wrap (1 * 2 ^ (ji7).toNat)) = ji9 := shl_small hji9
  have hji9u : (IntKind.i64.wrap (2 ^ min (ji7).toNat 64)) = ji9 := by have h_ := hji9_; rw [Int.one_mul] at h_; exact h_
  have hji9v : (ji7) ≤ 64 → (IntKind.i64.wrap (2 ^ (ji7).toNat)) = ji9 := fun hle_ => by have h_ := hji9z hle_; rw [Int.one_mul] at h_; exact h_
  have hji9y : (wrap64 (1 * 2 ^ min (ji7).toNat 64)) = ji9 := (i64_w _).symm.trans hji9_
  have hji9x : (ji7) ≤ 64 → (wrap64 (1 * 2 ^ (ji7).toNat)) = ji9 := fun h_ => (i64_w _).symm.trans (hji9z h_)
  have H' := Aside0.mk H
  clear H
  go_wp2_with (first | (go_at_call 49; (with_reducible refine (impl_within.calls a1 1 7 true _ A5.out).mono ?_); rintro e w' ⟨rfl, ⟨nd, rfl⟩⟩))
  go_meet
  case rel => exact ⟨_, (decide (a0 ≥ (ji9))), (by first | rfl | (simp; done) | (simp only [← hji9] <;> (first | rfl | simp)) | (simp [*]; done)), H', ⟨tq_18⟩, ⟨th_⟩⟩
 case rest =>
 clear aw
 try clear p2; try clear c4; try clear a9; try clear c6; try clear p6; try clear c8; try clear ah; try clear ai
 obtain ⟨kq, ab, rfl, HA, HJ2, HB⟩ := hcut
 cases kq with
 | zero => exact absurd HA.out (by simp [impl_NumText.j0])
 | succ kj2 =>
 have H := HA.out
 clear HA
 simp only [impl_NumText.j0] at H
 by_cases aj : ab = true
 ·subst aj
  rw [if_pos rfl] at H
  obtain rfl := Option.some.inj H
  go_wp2
  go_ret
  exact ⟨tq_1, th_⟩
 replace aj := Bool.eq_false_iff.mpr aj
 subst aj
 rw [if_neg nf_] at H
 obtain ⟨au, H⟩ := fc_ H
 have ak := eq_true au
 have al := decide_eq_true au
 clear au
 obtain ⟨av, H⟩ := fc_ H
 have am := eq_true av
 have an := decide_eq_true av
 clear av
 obtain ⟨aa, Ny450, H⟩ := bs_ H
 have H' := Aside0.mk H
 clear H
 go_wp2_with (first | ((with_reducible refine gate_dst (N := 22) rfl ?_); refine Kd.R_make (Kd.int .u8) _ 5 rfl (N := 22) rfl 83 _ _ rfl a1 rfl rfl Tryz.underlying83 (.int .u8 0) 1 info5 rfl (by decide) (by omega) 0 (ok := fun _ => True) (okp := fun _ => True) rfl (fun _ hk => hk) trivial (of_decide_eq_true tq_2) (Nat.le_trans (Nat.mul_le_mul_right _ (of_decide_eq_true tq_2 : a1.toNat ≤ 281474976710656)) (by omega)) (Below.refl _ _) (Nat.le_refl _) ?_; intro v451 be ho14 hb hg_ hnew_; clear hg_ hnew_; (first | rw [← Ny450.out] at ho14 | (simp only [Int.reduceToNat] at ho14; rw [← Ny450.out] at ho14)); have z_ := p_ (Kd.R_lower ho14 (below_size th_)) <| a_ (below_step th_ hb); clear HB; obtain ⟨HO452, HB⟩ := z_; clear hb ho14; obtain ⟨Ao15, ao, ay⟩ := Kd.R_slice HO452.out; subst ay))
 go_loopg [25] kj2 (fun kq v25 w' => ∃ (a6 : List Int) (a5 : Int), v25 = .int .i64 a5 ∧ Aside0 (impl_NumText.l0 kq a0 a1 a6 (aa.length : Int) a5 = some r) ∧ Aside0 (kq ≤ kj2) ∧ Aside0 (Kd.R (Kd.int .u8) 5 w' w.heap.size (fun _ => True) (.slice Ao15 aa.length ao) a6) ∧ Aside0 (Below w.heap.size w w'))
 case atStart => exact ⟨(aa), (0), tq_3, H', ⟨Nat.le_refl _⟩, ⟨(raR_ HO452)⟩, ⟨th_⟩⟩
 case round =>
 clear H'
 try clear c1; try clear p2; try clear c4; try clear a9; try clear c6; try clear p6; try clear c8; try clear ah; try clear ai; try clear aj; try clear au; try clear ak; try clear al; try clear av; try clear am; try clear an; try clear p2; try clear p6
 obtain ⟨a6, a5, rfl, HA, HK2, a8, HB⟩ := hrel
 have a7 := (Kd.R_reads' a8.out).1
 rw [a7] at a8
 (try simp only [a7])
 cases gk with
 | zero => exact absurd HA.out (by simp [impl_NumText.l0])
 | succ k2 =>
 have H := HA.out
 clear HA
 simp only [impl_NumText.l0] at H
 by_cases ag : a5 < (aa.length : Int)
 rotate_left
 ·rw [if_neg ag] at H
  have ac := decide_eq_false ag
  (try simp only [a7] at ac)
  clear ag
  obtain rfl := Option.some.inj H
  have hcv25 := own_string (P := Tryz.prog) Tryz.underlying83 Tryz.underlying5 Tryz.underlying9 (Kd.own_of_R a8.out)
  go_wp2
  go_ret
  exact ⟨tq_1, th_⟩
 rw [if_pos ag] at H
 have ac := decide_eq_true ag
 (try simp only [a7] at ac)
 clear ag
 obtain ⟨ji17, hji17⟩ : ∃ j_ : Int, (wrap64 (8 * (wrap64 ((wrap64 (a1 - 1)) - a5)))) = j_ := ⟨_, rfl⟩
 replace H : (if 0 ≤ (ji17) then (if 0 ≤ a5 then (if a5 < (a6.length : Int) then (impl_NumText.l0 k2 a0 a1 (a6.set (a5 : Int).toNat ((shr .i64 a0 (ji17)) % 256)) (aa.length : Int) (wrap64 (a5 + 1))) else (none)) else (none)) else (none)) = some r := by first | (rw [hji17] at H; exact H) | (simp only [hji17] at H ⊢; exact H)
 have hji17w : (IntKind.i64.wrap (8 * (wrap64 ((wrap64 (a1 - 1)) - a5)))) = ji17 := (i64_w _).trans hji17
 obtain ⟨az, H⟩ := fc_ H
 have b5 := eq_true az
 have b6 := decide_eq_true az
 clear az
 obtain ⟨ji19, hji19⟩ : ∃ j_ : Int, (shr .i64 a0 (ji17)) = j_ := ⟨_, rfl⟩
 replace H : (if 0 ≤ a5 then (if a5 < (a6.length : Int) then (impl_NumText.l0 k2 a0 a1 (a6.set (a5 : Int).toNat ((ji19) % 256)) (aa.length : Int) (wrap64 (a5 + 1))) else (none)) else (none)) = some r := by first | (rw [hji19] at H; exact H) | (simp only [hji19] at H ⊢; exact H)
 have hji19_ : (a0 / 2 ^ min (ji17).toNat 64) = ji19 := hji19
 have hji19z : (ji17) ≤ 64 → (a0 / 2 ^ (ji17).toNat) = ji19 := shr_small hji19
 obtain ⟨b7, H⟩ := fc_ H
 have b8 := decide_eq_true b7
 clear b7
 obtain ⟨b9, H⟩ := fc_ H
 have ba := decide_eq_true b9
 clear b9
 obtain ⟨ae, hy453⟩ : ∃ y_ : List Int, y_ = (a6.set (a5 : Int).toNat ((ji19) % 256)) := ⟨_, rfl⟩
 replace H : (impl_NumText.l0 k2 a0 a1 ae (aa.length : Int) (wrap64 (a5 + 1))) = some r := by first | (rw [hy453]; with_reducible exact H) | (have H2_ := (Option.bind_some _ _).symm.trans H; rw [hy453]; with_reducible exact H2_) | (have H2_ := (Option.bind_some _ _).symm.trans H; with_reducible exact H2_) | with_reducible exact H | (rw [hy453]; exact H) | exact H
 have Ny453 := Aside0.mk hy453
 clear hy453
 have H' := Aside0.mk H
 clear H
 have p22 : 0 ≤ (a5 : Int) := of_decide_eq_true tq_2
 have q22 : (a5 : Int) < ((a6.length : Int) : Int) := of_decide_eq_true tq_2
 obtain ⟨af, bb, ap, aq, b0, bc, ar⟩ := Kd.R_form a8.out (by omega)
 (first | cases ap | (injection ap with ea_ en_ ec_; (first | subst ea_ | (injection ea_ with ea_; subst ea_)); subst ec_; clear en_))
 have b1 := Aside0.mk aq
 have bd := Aside0.mk ar
 clear aq b0 ar
 obtain ⟨b2, b3⟩ := Kd.R_celln 0 a8.out (a5 : Int) p22 q22
 replace p22 := eq_true p22
 replace q22 := eq_true q22
 have HP23 := Kd.R_putg a8.out (a5 : Int) ((ji19) % 256)
 go_wp2_with (first | ((with_reducible refine gate_store (t := 5) (p := 38) rfl ?_); refine store_event (t := 5) (p := 38) (v := ?vo_w24) (w1 := (wr.setCell ⟨af, (a5 : Int).toNat, none⟩ (.int .u8 ((ji19) % 256)))) ?hg ?ho ?hn ?hr ?_; (case ho => rfl); (case hg => rfl); (case hn => rfl); (case hr => first | (go_simp; done) | (go_simp; rfl)); intro b4 hw; have hg : wr.grownBy b4 (some af) := (by rw [hw]; exact HP23.2); have hp_ : Kd.R (Kd.int .u8) 5 b4 w.heap.size (fun _ => True) (.slice (some ⟨af, 0, none⟩) a6.length ao) ae := (by rw [hw, Ny453.out]; exact HP23.1); clear HP23; have z_ := p_ (hp_) <| a_ ((by rw [hw]; exact below_set (HB.out) b1.out : Below w.heap.size w b4)); clear a8 HB; obtain ⟨a8, HB⟩ := z_; clear hg hw hp_))
 (try simp only [← a7])
 go_roundg k2
 case measure => have := HJ2.out; have := HK2.out; omega
 case rel => exact ⟨(ae), (wrap64 (a5 + 1)), tq_3, H', ⟨(by have := HJ2.out; have := HK2.out; omega)⟩, ⟨(by (try simp only [a7]); (with_reducible repeat (first | apply Kd.R_alloc | apply Kd.R_drewN | apply Kd.R_drew)); exact a8.out)⟩, ⟨th_⟩⟩

/-! ### impl_RecWord: function 85 -/
def impl_RecWord.j0 : Nat → Bool → Int → Int → ByteArray → Option (ByteArray)
 | 0, _, _, _, _ => none
 | k + 1, aa, a6, a7, a5 => if aa = true then (some (⟨#[]⟩ : ByteArray)) else ((impl_NumText.f k a6 1).bind fun a8 => ((impl_NumText.f k a7 3).bind fun a9 => (if a8.size + a9.size ≤ 9223372036854775807 then (if (a8 ++ a9).size + a5.size ≤ 9223372036854775807 then (some ((a8 ++ a9) ++ a5)) else (none)) else (none))))
def impl_RecWord.f (k : Nat) (a5 : Int) (a6 : Int) (a7 : ByteArray) : Option (ByteArray) := (impl_within.f a5 1 12).bind fun a8 => (if a8 = true then ((impl_within.f a6 1 16777215).bind fun a9 => (if a9 = true then (impl_RecWord.j0 k ((a7.size : Int) != 4) a5 a6 a7) else (impl_RecWord.j0 k true a5 a6 a7))) else (impl_RecWord.j0 k true a5 a6 a7))
def impl_RecWord.T3 : Bool × List (List Nat × List Nat) := (true, [([], []), ([0], [0]), ([1], [1]), ([], []), ([3], [3]), ([4, 2], [4]), ([2, 5], [2, 5]), ([], []), ([7], [7]), ([6, 8], [6, 8]), ([9, 5, 0, 1, 2, 3, 4, 5, 6, 7, 8, 9], [9])])
def impl_RecWord.B3 : List Nat := [0, 1, 3, 0, 8, 31, 63, 0, 128, 511, 1023]
theorem impl_RecWord.tab3 : rtab .any (opsOf Tryz.f85 3) = impl_RecWord.T3 := by kernel_rfl
theorem impl_RecWord.bits3 : waitsOk impl_RecWord.T3.2 impl_RecWord.B3 = true := by kernel_rfl
set_option maxHeartbeats 8000000 in
set_option maxRecDepth 100000 in
theorem impl_RecWord.calls (k : Nat) (a6 : Int) (a7 : Int) (a8 : ByteArray) (r : ByteArray) (w : World) (h : impl_RecWord.f k a6 a7 a8 = some r) :
  Calls Tryz.prog 85 #[.agg #[.int .i64 a6, .int .i64 a7, .string a8]] w fun e w' => e = .returned (.string r) ∧ Below w.heap.size w w' := by
 have hu89 := Tryz.underlying89
 have HB := Aside0.mk (Below.refl w.heap.size w)
 unfold impl_RecWord.f at h
 have H := h
 clear h
 have ah := Aside0.mk H
 clear H
 go_enter Tryz.func85, Tryz.ntmps85
 go_upto_region 1 with (first | ((with_reducible refine gate_dst (N := 1) rfl ?_); (try (refine gate_guard (by rfl) ?_; dsimp only)); refine be_ 1 (cs := #[.int .i64 a6, .int .i64 a7, .string a8]) 89 ?_; intro a9 hg w3 hbox hb; have z_ := bx0_ th_ hb hbox hg; clear HB; obtain ⟨HB, a5, am, an⟩ := z_; clear hb hbox hg))
 (try simp only [Act.put, List.setIfInBounds_toArray, List.set_cons_zero, List.set_cons_succ])
 go_cut [18] (fun v18 wc => ∃ (kq : Nat) (aa : Bool), v18 = .bool aa ∧ Aside0 (impl_RecWord.j0 kq aa a6 a7 a8 = some r) ∧ Aside0 (kq ≤ k) ∧ Aside0 (wc.heap[a9]? = some (.cells #[.int .i64 a6, .int .i64 a7, .string a8] 89 (0, 0))) ∧ Aside0 (Below w.heap.size w wc))
 case first =>
  have H := ah.out
  clear ah
  obtain ⟨ai, A4, H⟩ := bd_ H
  by_cases c5 : ai = true
  rotate_left
  ·replace c5 := Bool.eq_false_iff.mpr c5
   subst c5
   rw [if_neg nf_] at H
   have H' := Aside0.mk H
   clear H
   have ae := bb3_ a5.out
   go_wp2_with (first | ((with_reducible refine gate_callee (f := 49) rfl ?_); refine goesL_ (some 5) rfl rfl Tryz.func49 (by kernel_rfl) rfl #[.int .i64 a6, .int .i64 1, .int .i64 12] rfl tq_0 ?_; (with_reducible refine (impl_within.calls a6 1 12 false _ A4.out).mono ?_); rintro e w' ⟨rfl, ⟨nd, rfl⟩⟩; refine ⟨_, rfl, ?_⟩))
   go_meet
   case rel => exact ⟨_, (true), tq_3, H', ⟨tq_18⟩, ⟨(kb_ a5)⟩, ⟨th_⟩⟩
  subst c5
  rw [if_pos rfl] at H
  obtain ⟨aj, A6, H⟩ := bd_ H
  by_cases c7 : aj = true
  ·subst c7
   rw [if_pos rfl] at H
   have H' := Aside0.mk H
   clear H
   have ao := bb3_ a5.out
   go_wp2_with (first | ((with_reducible refine gate_callee (f := 49) rfl ?_); refine goesL_ (some 5) rfl rfl Tryz.func49 (by kernel_rfl) rfl #[.int .i64 a6, .int .i64 1, .int .i64 12] rfl tq_0 ?_; (with_reducible refine (impl_within.calls a6 1 12 true _ A4.out).mono ?_); rintro e w' ⟨rfl, ⟨nd, rfl⟩⟩; refine ⟨_, rfl, ?_⟩) | (go_at_call 49; (with_reducible refine (impl_within.calls a7 1 16777215 true _ A6.out).mono ?_); rintro e w' ⟨rfl, ⟨nd, rfl⟩⟩))
   go_meet
   case rel => exact ⟨_, (((a8.size : Int) != 4)), tq_3, H', ⟨tq_18⟩, ⟨(kb_ a5)⟩, ⟨th_⟩⟩
  replace c7 := Bool.eq_false_iff.mpr c7
  subst c7
  rw [if_neg nf_] at H
  have H' := Aside0.mk H
  clear H
  have ap := bb3_ a5.out
  go_wp2_with (first | ((with_reducible refine gate_callee (f := 49) rfl ?_); refine goesL_ (some 5) rfl rfl Tryz.func49 (by kernel_rfl) rfl #[.int .i64 a6, .int .i64 1, .int .i64 12] rfl tq_0 ?_; (with_reducible refine (impl_within.calls a6 1 12 true _ A4.out).mono ?_); rintro e w' ⟨rfl, ⟨nd, rfl⟩⟩; refine ⟨_, rfl, ?_⟩) | (go_at_call 49; (with_reducible refine (impl_within.calls a7 1 16777215 false _ A6.out).mono ?_); rintro e w' ⟨rfl, ⟨nd, rfl⟩⟩))
  go_meet
  case rel => exact ⟨_, (true), tq_3, H', ⟨tq_18⟩, ⟨(kb_ a5)⟩, ⟨th_⟩⟩
 case rest =>
 clear ah
 try clear p2; try clear c4; try clear c5; try clear c7; try clear c8; try clear ae; try clear ao; try clear ap; try clear ae; try clear ao; try clear ap
 obtain ⟨kq, aa, rfl, HA, HJ1, a5, HB⟩ := hcut
 cases kq with
 | zero => exact absurd HA.out (by simp [impl_RecWord.j0])
 | succ kj1 =>
 have H := HA.out
 clear HA
 simp only [impl_RecWord.j0] at H
 by_cases ag : aa = true
 ·subst ag
  rw [if_pos rfl] at H
  obtain rfl := Option.some.inj H
  go_wp2
  go_ret
  exact ⟨tq_1, th_⟩
 replace ag := Bool.eq_false_iff.mpr ag
 subst ag
 rw [if_neg nf_] at H
 obtain ⟨ab, ax, H⟩ := bd_ H
 obtain ⟨ac, ay, H⟩ := bd_ H
 obtain ⟨ak, H⟩ := fc_ H
 have aq := eq_true ak
 have ar := decide_eq_true ak
 try have au : (9223372036854775807 < ab.size + ac.size) = False := eq_false (Nat.not_lt.2 ak)
 obtain ⟨al, H⟩ := fc_ H
 have av := eq_true al
 have aw := decide_eq_true al
 try have af : (9223372036854775807 < (ab ++ ac).size + a8.size) = False := eq_false (Nat.not_lt.2 al)
 try have c15b2s : (9223372036854775807 < ab.size + ac.size + a8.size) = False := by rw [← ByteArray.size_append]; exact af
 obtain rfl := Option.some.inj H
 try go_wp2
 have z_ := dw1_ a5 HB
 clear a5 HB
 obtain ⟨a5, HB⟩ := z_
 refine start_ (n := 11) (S := fun w' => w'.cell? ⟨a9, 0, none⟩ = some (.int .i64 a6) ∧ w'.cell? ⟨a9, 1, none⟩ = some (.int .i64 a7) ∧ w'.cell? ⟨a9, 2, none⟩ = some (.string a8)) (ds := []) bq_85 (by kernel_rfl) rfl rfl (bk3_ a5.out) (fun hHeld => ?_); refine with_tabW impl_RecWord.tab3 impl_RecWord.bits3 (fun HT_ HW_ => ?_)
 generalize wc.drew = az at a5 HB hHeld ⊢
 refine yr_ 0 19 bq_86 HT_ ?_
 refine yr_ 3 22 bq_87 HT_ ?_
 refine yr_ 7 26 bq_88 HT_ ?_
 refine tr_ 1 20 bq_89 HT_ HW_ hHeld ?_
 refine tr_ 4 23 bq_90 HT_ HW_ hHeld ?_
 refine tr_ 8 27 bq_91 HT_ HW_ hHeld ?_
 refine one_ (i := 2) (N := some 21) bq_92 rfl rfl (one_of HT_.out (by kernel_rfl)) (by decide) (fun K hK => ?_)
 refine goes_ Tryz.func84 (by kernel_rfl) rfl #[.int .i64 a6, .int .i64 1] (by rfl) rfl rfl tq_0 ?_
 with_reducible refine (impl_NumText.calls kj1 a6 1 ab _ ax.out).mono ?_
 rintro e b0 ⟨rfl, hb⟩
 refine ⟨_, rfl, ?_⟩
 have z_ := bw1_ (kb_ a5) th_ hb
 clear a5 HB
 obtain ⟨a5, HB⟩ := z_
 (try clear hb)
 refine hK.out _ _ (bk3_ a5.out) (fun hHeld => ?_)
 clear hK K
 refine nm_ (some 21) ?_
 refine one_ (i := 5) (N := some 24) bq_93 rfl rfl (one_of HT_.out (by kernel_rfl)) (by decide) (fun K hK => ?_)
 refine goes_ Tryz.func84 (by kernel_rfl) rfl #[.int .i64 a7, .int .i64 3] (by rfl) rfl rfl tq_0 ?_
 with_reducible refine (impl_NumText.calls kj1 a7 3 ac _ ay.out).mono ?_
 rintro e b1 ⟨rfl, hb⟩
 refine ⟨_, rfl, ?_⟩
 have z_ := bw1_ (kb_ a5) th_ hb
 clear a5 HB
 obtain ⟨a5, HB⟩ := z_
 (try clear hb)
 refine hK.out _ _ (bk3_ a5.out) (fun hHeld => ?_)
 clear hK K
 refine nm_ (some 24) ?_
 refine yr_ 6 25 bq_94 HT_ ?_
 refine yr_ 9 28 bq_95 HT_ ?_
 refine yr_ 10 2 bq_96 HT_ ?_
 refine done_ (done_of HT_.out (by kernel_rfl)) ?_
 try go_wp2
 go_ret
 exact ⟨tq_1, th_⟩

/-! ### impl_isFile_1: function 107 -/
def clo107.p (c0_0 : Int) (c0_1 : Int) (c0_2 : ByteArray) (x : S89) : Bool := x.f0 == c0_0
theorem clo107 (x : S89) (gb0 : Nat) (c0_0 : Int) (c0_1 : Int) (c0_2 : ByteArray) (W : World) (hcl0 : W.heap[gb0]? = some (.cells #[.int .i64 c0_0, .int .i64 c0_1, .string c0_2] 89 (0, 0))) : Calls Tryz.prog 107 (#[.agg #[.int .i64 x.f0, .int .i64 x.f1, .string x.f2]] ++ #[.pointer (some ⟨gb0, 0, none⟩)]) W fun e w' => e = .returned (.bool (clo107.p c0_0 c0_1 c0_2 x)) ∧ Below W.heap.size W w' := by
 have hu89 := Tryz.underlying89
 have hb0 : gb0 < W.heap.size := blk_lt hcl0
 have h0_0 : W.cell? ⟨gb0, 0, none⟩ = some (.int .i64 c0_0) := (blk_cell hcl0 0).trans rfl
 have h0_1 : W.cell? ⟨gb0, 1, none⟩ = some (.int .i64 c0_1) := (blk_cell hcl0 1).trans rfl
 have h0_2 : W.cell? ⟨gb0, 2, none⟩ = some (.string c0_2) := (blk_cell hcl0 2).trans rfl
 clear hcl0
 show Calls Tryz.prog 107 #[.agg #[.int .i64 x.f0, .int .i64 x.f1, .string x.f2], .pointer (some ⟨gb0, 0, none⟩)] W _
 go_enter Tryz.func107, Tryz.ntmps107
 go_wp2
 go_ret
 exact ⟨(by unfold clo107.p; first | rfl | (simp; done)), (by repeat (first | (with_reducible first | exact Below.refl _ _ | apply below_alloc) | exact Below.refl ..))⟩

/-! ### slices_IndexFunc_Rec: function 117 -/
def lq117_ren : Go.Shelf.Ren := ⟨fun | 6 => 117 | n => n, fun | 22 => 66 | 23 => 89 | 25 => 123 | 3 => 3 | 0 => 0 | 4 => 4 | n => n, fun | n => n⟩
theorem lq117 : Go.Proofs.SlLaysH0.n6 Tryz.prog lq117_ren := {
 mixed := by kernel_rfl
 f6 := ⟨Tryz.f117.name, (by decide), Tryz.func117.trans (congrArg some (by kernel_rfl))⟩
 t0 := Tryz.underlying0
 a0 := Tryz.isAgg0
 z0 := Tryz.sizeOf0
 v0 := Tryz.zeroValue0
 t3 := Tryz.underlying3
 a3 := Tryz.isAgg3
 z3 := Tryz.sizeOf3
 v3 := Tryz.zeroValue3
 t4 := Tryz.underlying4
 a4 := Tryz.isAgg4
 z4 := Tryz.sizeOf4
 v4 := Tryz.zeroValue4
 t22 := Tryz.underlying66
 a22 := Tryz.isAgg66
 z22 := Tryz.sizeOf66
 v22 := Tryz.zeroValue66
 t25 := Tryz.underlying123
 a25 := Tryz.isAgg123
 z25 := Tryz.sizeOf123
 v25 := Tryz.zeroValue123 }
theorem idx117_nil (a : Option Addr) (c : Nat) (fv : Value) (w : World) : Calls Tryz.prog 117 #[.slice a 0 c, fv] w fun e w' => e = .returned (.int .i64 (-1)) ∧ w' = w := by
 go_enter Tryz.func117, Tryz.ntmps117
 go_wp2
 go_loopg [5, 8] 0 (fun gg _ s8 wr => s8 = .int .i64 0 ∧ wr = w)
 case atStart => exact ⟨rfl, rfl⟩
 case round =>
 obtain ⟨rfl, rfl⟩ := hrel
 go_wp2
 go_ret
 exact ⟨rfl, rfl⟩
instance inh89 : Inhabited S89 := ⟨z89⟩
def enc89 (x : S89) : List Value := [.int .i64 x.f0, .int .i64 x.f1, .string x.f2]
theorem idx117 (p : S89 → Bool) (g : Nat) (lb : Array Value) (eg : ∀ args w, (callFunc g args).run Tryz.prog w = .ok (.enter g args) w) (A0 : Option Addr) (c0 : Nat) (l0 : List S89) (w : World) (hr0 : Kd.C k89 w A0 l0.length l0) (hbig : l0.length ≤ 9223372036854775807)
  (hp : PredBelow Tryz.prog g lb (fun x => .agg (enc89 x).toArray) p w) :
  Calls Tryz.prog 117 #[.slice A0 l0.length c0, .func (.func g) #[] lb] w fun e w' => e = .returned (.int .i64 (Lib.idxBy (fun _ y => p y) l0 default)) ∧ Below w.heap.size w w' := by
 rcases Nat.eq_zero_or_pos l0.length with hz | hz
 ·have hn := List.eq_nil_of_length_eq_zero hz
  subst hn
  refine (idx117_nil A0 c0 _ w).mono ?_
  rintro e w' ⟨rfl, rfl⟩
  exact ⟨rfl, Below.refl _ _⟩
 ·obtain ⟨ad, rfl, hcell⟩ := hr0.2.2 hz
  have cells : ∀ (j : Nat) x, l0[j]? = some x → ∀ i v, (enc89 x)[i]? = some v → w.cell? (ad.add (j * 3 + i)) = some v := by
   intro j x hx i v hv
   obtain ⟨c, _, hk, hc⟩ := hcell j x hx
   have hk2 := k89_open hk
   subst hk2
   exact hc i _ hv
  have h0 := cells 0 _ (List.getElem?_eq_getElem hz) 0 _ rfl
  have hsp : ad.spot = none := by
   have h0' : w.cell? ad = some _ := h0
   unfold World.cell? at h0'
   split at h0'
   ·split at h0'
    ·cases h0'
    ·simpa using ‹¬ ad.spot.isSome = true›
   ·cases h0'
  obtain ⟨bk, o, sp⟩ := ad
  cases hsp
  have := AnyQ.slices_IndexFunc lq117 3 Tryz.isAgg89 Tryz.sizeOf89 enc89 (fun _ => rfl) p g lb eg bk o l0.length c0 l0 w hp (Nat.le_refl _) hbig (World.block_lt_of_cell? w _ h0) (fun j hj i v hv => by
   have := cells j _ (List.getElem?_eq_getElem hj) i v (by rw [← getElem!_pos l0 j hj]; exact hv)
   rw [Addr.add_lit] at this
   rw [Nat.add_assoc]
   exact this)
  rw [List.take_length] at this
  exact this
def slices_IndexFunc_Rec_g107.f (l0 : List S89) (c0_0 : Int) (c0_1 : Int) (c0_2 : ByteArray) : Option (Int) := if l0.length ≤ 9223372036854775807 then some (Lib.idxBy (fun _ y => clo107.p c0_0 c0_1 c0_2 y) l0 z89) else none
theorem slices_IndexFunc_Rec_g107.calls (A0 : Option Addr) (c0 : Nat) (l0 : List S89) (a8 : Nat) (a5 : Int) (a6 : Int) (a7 : ByteArray) (r : Int) (w : World) (hr0 : Kd.C k89 w A0 l0.length l0) (hc0 : l0.length ≤ c0) (a9 : w.heap[a8]? = some (.cells #[.int .i64 a5, .int .i64 a6, .string a7] 89 (0, 0))) (h : slices_IndexFunc_Rec_g107.f l0 a5 a6 a7 = some r) :
  Calls Tryz.prog 117 #[.slice A0 l0.length c0, .func (.func 107) #[] #[.pointer (some ⟨a8, 0, none⟩)]] w fun e w' => e = .returned (.int .i64 r) ∧ Below w.heap.size w w' := by
 unfold slices_IndexFunc_Rec_g107.f at h
 split at h
 case isFalse => cases h
 case isTrue hl =>
 obtain rfl := Option.some.inj h
 exact idx117 (fun y => clo107.p a5 a6 a7 y) 107 #[.pointer (some ⟨a8, 0, none⟩)] (fun args W => enters_ Tryz.func107 rfl rfl args W) A0 c0 l0 w hr0 hl (fun W x hW => (clo107 x a8 a5 a6 a7 W (blk_below a9 hW)).mono fun e w' hq => ⟨hq.1, hW.trans (hq.2.mono hW.size)⟩)

/-! ### slices_ContainsFunc_Rec: function 106 -/
def slices_ContainsFunc_Rec_g107.f (l0 : List S89) (c0_0 : Int) (c0_1 : Int) (c0_2 : ByteArray) : Option (Bool) := if l0.length ≤ 9223372036854775807 then some (decide (Lib.idxBy (fun _ y => clo107.p c0_0 c0_1 c0_2 y) l0 z89 ≥ 0)) else none
theorem slices_ContainsFunc_Rec_g107.calls (A0 : Option Addr) (c0 : Nat) (l0 : List S89) (a8 : Nat) (a5 : Int) (a6 : Int) (a7 : ByteArray) (r : Bool) (w : World) (hr0 : Kd.C k89 w A0 l0.length l0) (hc0 : l0.length ≤ c0) (a9 : w.heap[a8]? = some (.cells #[.int .i64 a5, .int .i64 a6, .string a7] 89 (0, 0))) (h : slices_ContainsFunc_Rec_g107.f l0 a5 a6 a7 = some r) :
  Calls Tryz.prog 106 #[.slice A0 l0.length c0, .func (.func 107) #[] #[.pointer (some ⟨a8, 0, none⟩)]] w fun e w' => e = .returned (.bool r) ∧ Below w.heap.size w w' := by
 unfold slices_ContainsFunc_Rec_g107.f at h
 split at h
 case isFalse => cases h
 case isTrue hl =>
 obtain rfl := Option.some.inj h
 have hI := slices_IndexFunc_Rec_g107.calls A0 c0 l0 a8 a5 a6 a7 _ w hr0 hc0 a9 (by unfold slices_IndexFunc_Rec_g107.f; rw [if_pos hl])
 go_enter Tryz.func106, Tryz.ntmps106
 go_wp2_with (go_at_call 117; refine hI.mono ?_; rintro e w1 ⟨rfl, hb⟩)
 go_ret
 exact ⟨rfl, hb⟩

/-! ### impl_PagesFor: function 108 -/
def impl_PagesFor.f (a0 : Int) : Option (Int) := if a0 < 0 then (some 0) else (if (Int.tmod a0 32) > 0 then (some (wrap64 ((wrap64 (Int.tdiv a0 32)) + 1))) else (some (wrap64 (Int.tdiv a0 32))))
set_option maxHeartbeats 8000000 in
set_option maxRecDepth 100000 in
theorem impl_PagesFor.calls (a0 : Int) (r : Int) (w : World) (h : impl_PagesFor.f a0 = some r) :
  Calls Tryz.prog 108 #[.int .i64 a0] w fun e w' => e = .returned (.int .i64 r) ∧ Drawn0 w w' := by
 unfold impl_PagesFor.f at h
 have H := h
 clear h
 by_cases c2 : a0 < 0
 ·rw [if_pos c2] at H
  have a5 := decide_eq_true c2
  clear c2
  obtain rfl := Option.some.inj H
  go_enter Tryz.func108, Tryz.ntmps108
  go_wp2
  go_ret
  exact ⟨tq_3, tq_9⟩
 rw [if_neg c2] at H
 have a5 := decide_eq_false c2
 clear c2
 by_cases c3 : (Int.tmod a0 32) > 0
 ·rw [if_pos c3] at H
  have a6 := decide_eq_true c3
  clear c3
  obtain rfl := Option.some.inj H
  go_enter Tryz.func108, Tryz.ntmps108
  go_wp2
  go_ret
  exact ⟨tq_3, tq_9⟩
 rw [if_neg c3] at H
 have a6 := decide_eq_false c3
 clear c3
 obtain rfl := Option.some.inj H
 go_enter Tryz.func108, Tryz.ntmps108
 go_wp2
 go_ret
 exact ⟨tq_3, tq_9⟩

end Go.Proofs.YtleoknilacjakaaGreat.PFnExactChanged
