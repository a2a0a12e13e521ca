/- Contracts of Go functions, written by a program of ours over the print of the kit: each says that the call returns what the Lean function beside it computes. Conditions: as each theorem states them. -/
import Derived.Test.YtleoknilacjakaaGreatPkFnExactPartWrites
import Derived.Test.YtleoknilacjakaaGreatPFnExactPartWritesx0
import Derived.Test.YtleoknilacjakaaGreatPFnExactPartWritesx11
import Derived.Test.YtleoknilacjakaaGreatPFnExactPartWritesx13
namespace Go.Proofs.YtleoknilacjakaaGreat.PFnExactPartWrites
open Go.RowKit Go.Proofs.YtleoknilacjakaaGreatW.PrintWords Go.Proofs.YtleoknilacjakaaGreatW.PrintLast Go.Proofs.YtleoknilacjakaaGreatW.PrintMore
attribute [local go_sem] max2_int min2_int max_two min_two max_three min_three max_four min_four   -- for this text's walks alone
set_option linter.unusedVariables false
set_option linter.unusedSimpArgs false

/-! ### impl_isTenant: function 25 -/
def impl_isTenant.f (a0_0 : Int) (a0_1 : Int) (a0_2 : Int) (a0_3 : Int) (a1 : Int) : Option (Bool) := (impl_GeoOk.f a0_0 a0_1 a0_2 a0_3).bind fun t471 => (if t471 = true then ((impl_within.f a1 0 (wrap64 (a0_0 - 1))).bind fun t472 => (some t472)) else (some false))
set_option maxHeartbeats 8000000 in
set_option maxRecDepth 100000 in
theorem impl_isTenant.calls (a6 : Int) (a7 : Int) (a8 : Int) (a9 : Int) (a1 : Int) (r : Bool) (w : World) (h : impl_isTenant.f a6 a7 a8 a9 a1 = some r) :
  Calls Tryz.prog 25 #[.agg #[.int .i64 a6, .int .i64 a7, .int .i64 a8, .int .i64 a9], .int .i64 a1] w fun e w' => e = .returned (.bool r) ∧ Below w.heap.size w w' := by
 have hu31 := Tryz.underlying31
 have HB := Aside0.mk (Below.refl w.heap.size w)
 unfold impl_isTenant.f at h
 have H := h
 clear h
 obtain ⟨ae, A3, H⟩ := bd_ H
 by_cases c4 : ae = true
 rotate_left
 ·replace c4 := Bool.eq_false_iff.mpr c4
  subst c4
  rw [if_neg nf_] at H
  obtain rfl := Option.some.inj H
  go_enter Tryz.func25, Tryz.ntmps25
  go_wp2_with (first | ((with_reducible refine gate_dst (N := 2) rfl ?_); refine be_ 2 (cs := #[.int .i64 a6, .int .i64 a7, .int .i64 a8, .int .i64 a9]) 31 ?_; intro aa hg ah hbox hb; have z_ := bx0_ th_ hb hbox hg; clear HB; obtain ⟨HB, a5, ab, ac⟩ := z_; clear hb hbox hg; have ag := bb4_ a5.out) | ((with_reducible refine gate_callee (f := 48) rfl ?_); refine goesL_ (some 6) rfl rfl Tryz.func48 (by kernel_rfl) rfl #[.agg #[.int .i64 a6, .int .i64 a7, .int .i64 a8, .int .i64 a9]] rfl tq_0 ?_; (with_reducible refine (impl_GeoOk.calls a6 a7 a8 a9 false _ A3.out).mono ?_); rintro e ai ⟨rfl, hb⟩; refine ⟨_, rfl, ?_⟩; have z_ := bw1_ (kb_ a5) th_ hb; clear a5 HB; obtain ⟨a5, HB⟩ := z_; (try clear hb)))
  go_ret
  exact ⟨tq_1, th_⟩
 subst c4
 rw [if_pos rfl] at H
 obtain ⟨af, A5, H⟩ := bd_ H
 obtain rfl := Option.some.inj H
 go_enter Tryz.func25, Tryz.ntmps25
 go_wp2_with (first | ((with_reducible refine gate_dst (N := 2) rfl ?_); refine be_ 2 (cs := #[.int .i64 a6, .int .i64 a7, .int .i64 a8, .int .i64 a9]) 31 ?_; intro aa hg w6 hbox hb; have z_ := bx0_ th_ hb hbox hg; clear HB; obtain ⟨HB, a5, ab, ac⟩ := z_; clear hb hbox hg; have aj := bb4_ a5.out) | ((with_reducible refine gate_callee (f := 48) rfl ?_); refine goesL_ (some 6) rfl rfl Tryz.func48 (by kernel_rfl) rfl #[.agg #[.int .i64 a6, .int .i64 a7, .int .i64 a8, .int .i64 a9]] rfl tq_0 ?_; (with_reducible refine (impl_GeoOk.calls a6 a7 a8 a9 true _ A3.out).mono ?_); rintro e w8 ⟨rfl, hb⟩; refine ⟨_, rfl, ?_⟩; have z_ := bw1_ (kb_ a5) th_ hb; clear a5 HB; obtain ⟨a5, HB⟩ := z_; (try clear hb); have ak := bb4_ a5.out) | (go_at_call 49; (with_reducible refine (impl_within.calls a1 0 (wrap64 (a6 - 1)) af _ A5.out).mono ?_); rintro e w' ⟨rfl, ⟨nd, rfl⟩⟩))
 go_ret
 exact ⟨tq_1, th_⟩

/-! ### impl_wordsOf: function 80 -/
def impl_wordsOf.l0 : Nat → ByteArray → List ByteArray → Int → Option (List ByteArray)
 | 0, _, _, _ => none
 | k + 1, x0, x3, x4 => if x4 < (x0.size : Int) then (if 0 ≤ x4 then (if x4 ≤ (mn (wrap64 (x4 + 8)) (x0.size : Int)) then (if (mn (wrap64 (x4 + 8)) (x0.size : Int)) ≤ (x0.size : Int) then ((impl_padded.f (x0.extract (x4 : Int).toNat ((mn (wrap64 (x4 + 8)) (x0.size : Int)) : Int).toNat) 8).bind fun t476 => (if x3.length < 8796093022208 then (impl_wordsOf.l0 k x0 (x3 ++ [t476]) (wrap64 (x4 + 8))) else (none))) else (none)) else (none)) else (none)) else (some x3)
def impl_wordsOf.f (k : Nat) (a0 : ByteArray) : Option (List ByteArray) := impl_wordsOf.l0 k a0 (([] : List ByteArray)) 0
set_option maxHeartbeats 8000000 in
set_option maxRecDepth 100000 in
theorem impl_wordsOf.calls (k : Nat) (a0 : ByteArray) (r : List ByteArray) (w : World) (h : impl_wordsOf.f k a0 = some r) :
  Calls Tryz.prog 80 #[.string a0] w fun e w' => ∃ v0_ : Value, e = .returned (v0_) ∧ Kd.R Kd.string 9 w' w.heap.size (fun _ => True) v0_ r ∧ Below w.heap.size w w' := by
 have HB := Aside0.mk (Below.refl w.heap.size w)
 unfold impl_wordsOf.f at h
 have H := h
 clear h
 obtain ⟨a9, hy473⟩ : ∃ y_ : List ByteArray, y_ = (([] : List ByteArray)) := ⟨_, rfl⟩
 replace H : (impl_wordsOf.l0 k a0 a9 0) = some r := by first | (rw [hy473]; with_reducible exact H) | (have H2_ := (Option.bind_some _ _).symm.trans H; rw [hy473]; with_reducible exact H2_) | (have H2_ := (Option.bind_some _ _).symm.trans H; with_reducible exact H2_) | with_reducible exact H | (rw [hy473]; exact H) | exact H
 have Ny473 := Aside0.mk hy473
 clear hy473
 have H' := Aside0.mk H
 clear H
 go_enter Tryz.func80, Tryz.ntmps80
 go_wp2_with (first | ((with_reducible refine gate_dst (N := 5) rfl ?_); refine Kd.R_lit Kd.string _ 9 ?hg (N := 5) ?hd (xs := ([] : List ByteArray)) (inner := []) (ok := fun _ => True) (okp := fun _ => True) ?hr ?hp (fun _ hk => hk) trivial (Below.refl _ _) (Nat.le_refl _) (by simp) ?_; (case hd => rfl); (case hg => rfl); (case hr => first | (go_simp; done) | (go_simp; rfl)); (case hp => exact (Reps.none _ _)); intro v474 w2 ho3 hb hg_ hnew_; clear hg_ hnew_; (first | rw [← Ny473.out] at ho3 | (simp only [Int.reduceToNat] at ho3; rw [← Ny473.out] at ho3)); have z_ := p_ (Kd.R_lower ho3 (below_size th_)) <| a_ (below_step th_ hb); clear HB; obtain ⟨HO475, HB⟩ := z_; clear hb ho3))
 go_loopg [3, 4] k (fun kq v3 v4 w' => ∃ (a6 : List ByteArray) (a5 : Int), v4 = .int .i64 a5 ∧ Aside0 (impl_wordsOf.l0 kq a0 a6 a5 = some r) ∧ Aside0 (kq ≤ k) ∧ Aside0 (Kd.R Kd.string 9 w' w.heap.size (fun _ => True) v3 a6) ∧ Aside0 (Below w.heap.size w w'))
 case atStart => exact ⟨(a9), (0), tq_3, H', ⟨Nat.le_refl _⟩, ⟨(raR_ HO475)⟩, ⟨th_⟩⟩
 case round =>
 clear H'
 try clear p2
 obtain ⟨a6, a5, rfl, HA, HK1, a7, HB⟩ := hrel
 cases gk with
 | zero => exact absurd HA.out (by simp [impl_wordsOf.l0])
 | succ k1 =>
 have H := HA.out
 clear HA
 simp only [impl_wordsOf.l0] at H
 by_cases c4 : a5 < (a0.size : Int)
 rotate_left
 ·rw [if_neg c4] at H
  have ab := decide_eq_false c4
  clear c4
  obtain rfl := Option.some.inj H
  go_wp2
  go_ret
  exact ⟨_, tq_1, (raR_ a7), th_⟩
 rw [if_pos c4] at H
 have ab := decide_eq_true c4
 clear c4
 obtain ⟨ji5, hji5⟩ : ∃ j_ : Int, (mn (wrap64 (a5 + 8)) (a0.size : Int)) = j_ := ⟨_, rfl⟩
 replace H : (if 0 ≤ a5 then (if a5 ≤ (ji5) then (if (ji5) ≤ (a0.size : Int) then ((impl_padded.f (a0.extract (a5 : Int).toNat ((ji5) : Int).toNat) 8).bind fun a8 => (if a6.length < 8796093022208 then (impl_wordsOf.l0 k1 a0 (a6 ++ [a8]) (wrap64 (a5 + 8))) else (none))) else (none)) else (none)) else (none)) = some r := by first | (rw [hji5] at H; exact H) | (simp only [hji5] at H ⊢; exact H)
 have hji5_ : (if (a0.size : Int) < (wrap64 (a5 + 8)) then (a0.size : Int) else (wrap64 (a5 + 8))) = ji5 := hji5
 obtain ⟨c6, H⟩ := fc_ H
 have ae := eq_true c6
 have af := decide_eq_true c6
 clear c6
 obtain ⟨c7, H⟩ := fc_ H
 have ag := eq_true c7
 have ah := decide_eq_true c7
 clear c7
 obtain ⟨c8, H⟩ := fc_ H
 have ai := eq_true c8
 have aj := decide_eq_true c8
 clear c8
 obtain ⟨a8, A9, H⟩ := bd_ H
 obtain ⟨ac, H⟩ := fc_ H
 have LMc10 := Aside0.mk ac
 clear ac
 obtain ⟨aa, hy477⟩ : ∃ y_ : List ByteArray, y_ = (a6 ++ [a8]) := ⟨_, rfl⟩
 replace H : (impl_wordsOf.l0 k1 a0 aa (wrap64 (a5 + 8))) = some r := by first | (rw [hy477]; with_reducible exact H) | (have H2_ := (Option.bind_some _ _).symm.trans H; rw [hy477]; with_reducible exact H2_) | (have H2_ := (Option.bind_some _ _).symm.trans H; with_reducible exact H2_) | with_reducible exact H | (rw [hy477]; exact H) | exact H
 have Ny477 := Aside0.mk hy477
 clear hy477
 have H' := Aside0.mk H
 clear H
 go_wp2_with (first | ((with_reducible refine gate_callee (f := 81) rfl ?_); refine goesL_ (some 21) rfl rfl Tryz.func81 (by kernel_rfl) rfl #[.string (a0.extract (a5 : Int).toNat ((ji5) : Int).toNat), .int .i64 8] rfl (by (try simp only [List.map_toArray, List.map_cons, List.map_nil]); first | done | (simp only [hji5]; rfl) | rfl | (simp only [List.length_drop, List.length_take]; rfl)) ?_; (with_reducible refine (impl_padded.calls (a0.extract (a5 : Int).toNat ((ji5) : Int).toNat) 8 a8 _ A9.out).mono ?_); rintro e ak ⟨rfl, hb⟩; refine ⟨_, rfl, ?_⟩; have z_ := p_ (Kd.R_below (raR_ a7) hb) <| a_ (below_step th_ hb); clear a7 HB; obtain ⟨a7, HB⟩ := z_; (try clear hb)) | ((with_reducible refine gate_builtin (b := .append) (xs := #[.tmp 12, .tmp 22]) rfl ?_); at_builtin; refine Kd.R_append Kd.string (w0 := w) w.heap.size rfl (.tmp 12) (.tmp 22) 75 9 (.string ⟨#[]⟩) 16 rfl Tryz.underlying75 info9 rfl (by decide) (by omega) u3 a6 a8 [.string a8] (fun _ => True) (fun _ => False) rfl rfl ?aP (fun _ hk => hk.elim) ?aF ?aO ?aB ?aS ?aL ?_; (case aP => exact rfl); (case aB => exact th_); (case aF => exact (fun _ _ => trivial)); (case aO => exact (raR_ a7)); (case aS => exact (below_size th_)); (case aL => have := LMc10.out; omega); intro v478 al ho hb hg hat; rw [← Ny477.out] at ho; have z_ := p_ (hb) <| a_ (ho); clear HB a7; obtain ⟨HB, HO479⟩ := z_; clear ho hb hg hat))
 go_roundg k1
 case measure => have := HK1.out; omega
 case rel => exact ⟨(aa), (wrap64 (a5 + 8)), tq_3, H', ⟨tq_15⟩, ⟨(raR_ HO479)⟩, ⟨th_⟩⟩

/-! ### impl_StatesWords: function 54 -/
def impl_StatesWords.l0 : Nat → List Int → List Int → Int → Int → Option (List ByteArray)
 | 0, _, _, _, _ => none
 | k + 1, x3, x12, x13, x14 => if x14 < x13 then (if 0 ≤ x14 then (if x14 < (x12.length : Int) then (if x3.length < 140737488355328 then (impl_StatesWords.l0 k (x3 ++ [(rd x12 x14) % 256]) x12 x13 (wrap64 (x14 + 1))) else (none)) else (none)) else (none)) else ((impl_padded.f (strOfNums x3) 16).bind fun t488 => ((impl_wordsOf.f k t488).bind fun t489 => (some t489)))
def impl_StatesWords.f (k : Nat) (l0 : List Int) : Option (List ByteArray) := (impl_StatesOk.f k l0 (l0.length : Int)).bind fun t480 => (if t480 = true then (impl_StatesWords.l0 k (([] : List Int)) l0 (l0.length : Int) 0) else (some ([] : List ByteArray)))
set_option maxHeartbeats 8000000 in
set_option maxRecDepth 100000 in
theorem impl_StatesWords.calls (k : Nat) (A0 : Option Addr) (c0 : Nat) (l0 : List Int) (r : List ByteArray) (w : World) (hr0 : Kd.C (Kd.int .i64) w A0 l0.length l0) (hc0 : l0.length ≤ c0) (h : impl_StatesWords.f k l0 = some r) :
  Calls Tryz.prog 54 #[.slice A0 l0.length c0] w fun e w' => ∃ v0_ : Value, e = .returned (v0_) ∧ Kd.R Kd.string 9 w' w.heap.size (fun _ => True) v0_ r ∧ Below w.heap.size w w' := by
 have HR0 := Aside0.mk hr0
 have ak := Aside0.mk hc0
 clear hr0 hc0
 have HB := Aside0.mk (Below.refl w.heap.size w)
 unfold impl_StatesWords.f at h
 have H := h
 clear h
 obtain ⟨ab, A2, H⟩ := bd_ H
 have ah := Aside0.mk H
 clear H
 go_enter Tryz.func54, Tryz.ntmps54
 go_upto_if 10 with (first | ((with_reducible refine gate_callee (f := 50) rfl ?_); refine goesL_ (some 9) rfl rfl Tryz.func50 (by kernel_rfl) rfl #[.slice A0 l0.length c0, .int .i64 (l0.length : Int)] rfl tq_0 ?_; (with_reducible refine (impl_StatesOk.calls k _ _ l0 (l0.length : Int) ab _ ?side1 ?side2 A2.out).mono ?_); (case side1 => exact tq_19); (case side2 => exact ak.out); rintro e w' ⟨rfl, ⟨nd, rfl⟩⟩; refine ⟨_, rfl, ?_⟩))
 (try simp only [Act.put, List.setIfInBounds_toArray, List.set_cons_zero, List.set_cons_succ])
 have H := ah.out
 clear ah
 by_cases c4 : ab = true
 rotate_left
 ·replace c4 := Bool.eq_false_iff.mpr c4
  subst c4
  rw [if_neg nf_] at H
  obtain rfl := Option.some.inj H
  go_wp2
  go_ret
  exact ⟨_, tq_1, tq_17, th_⟩
 subst c4
 rw [if_pos rfl] at H
 obtain ⟨ac, hy481⟩ : ∃ y_ : List Int, y_ = (([] : List Int)) := ⟨_, rfl⟩
 replace H : (impl_StatesWords.l0 k ac l0 (l0.length : Int) 0) = some r := by first | (rw [hy481]; with_reducible exact H) | (have H2_ := (Option.bind_some _ _).symm.trans H; rw [hy481]; with_reducible exact H2_) | (have H2_ := (Option.bind_some _ _).symm.trans H; with_reducible exact H2_) | with_reducible exact H | (rw [hy481]; exact H) | exact H
 have Ny481 := Aside0.mk hy481
 clear hy481
 have H' := Aside0.mk H
 clear H
 go_wp2_with (first | ((with_reducible refine gate_dst (N := 11) rfl ?_); refine Kd.R_lit (Kd.int .u8) _ 5 ?hg (N := 11) ?hd (xs := ([] : List Int)) (inner := []) (ok := fun _ => True) (okp := fun _ => True) ?hr ?hp (fun _ hk => hk) trivial (Below.refl _ _) (Nat.le_refl _) (by simp) ?_; (case hd => rfl); (case hg => rfl); (case hr => first | (go_simp; done) | (go_simp; rfl)); (case hp => exact (Reps.none _ _)); intro v482 w5 ho6 hb hg_ hnew_; clear hg_ hnew_; (first | rw [← Ny481.out] at ho6 | (simp only [Int.reduceToNat] at ho6; rw [← Ny481.out] at ho6)); have z_ := p_ (Kd.R_lower ho6 (below_size th_)) <| a_ (below_step th_ hb); clear HB; obtain ⟨HO483, HB⟩ := z_; clear hb ho6))
 go_loopg [3, 14] k (fun kq v3 v14 w' => ∃ (a7 : List Int) (a5 : Int), v14 = .int .i64 a5 ∧ Aside0 (impl_StatesWords.l0 kq a7 l0 (l0.length : Int) a5 = some r) ∧ Aside0 (kq ≤ k) ∧ Aside0 (Kd.R (Kd.int .u8) 5 w' w.heap.size (fun _ => True) v3 a7) ∧ Aside0 (Below w.heap.size w w'))
 case atStart => exact ⟨(ac), (0), tq_3, H', ⟨Nat.le_refl _⟩, ⟨(raR_ HO483)⟩, ⟨th_⟩⟩
 case round =>
 clear H'
 try clear p2; try clear c4; try clear c5
 obtain ⟨a7, a5, rfl, HA, HK1, a6, HB⟩ := hrel
 cases gk with
 | zero => exact absurd HA.out (by simp [impl_StatesWords.l0])
 | succ k1 =>
 have H := HA.out
 clear HA
 simp only [impl_StatesWords.l0] at H
 by_cases c7 : a5 < (l0.length : Int)
 rotate_left
 ·rw [if_neg c7] at H
  have a9 := decide_eq_false c7
  clear c7
  (first | rw [a9] | (simp only [i64_w, i32_w]; rw [a9]) | skip)
  obtain ⟨aa, al, H⟩ := bd_ H
  obtain ⟨af, am, H⟩ := bd_ H
  obtain rfl := Option.some.inj H
  have hcv14 := own_string (P := Tryz.prog) Tryz.underlying83 Tryz.underlying5 Tryz.underlying9 (Kd.own_of_R a6.out)
  go_wp2_with (first | ((with_reducible refine gate_callee (f := 81) rfl ?_); refine goesL_ (some 26) rfl rfl Tryz.func81 (by kernel_rfl) rfl #[.string (strOfNums a7), .int .i64 16] rfl tq_0 ?_; (with_reducible refine (impl_padded.calls (strOfNums a7) 16 aa _ al.out).mono ?_); rintro e ap ⟨rfl, hb⟩; refine ⟨_, rfl, ?_⟩; have z_ := p_ (Kd.R_below (raR_ a6) hb) <| a_ (below_step th_ hb); clear a6 HB; obtain ⟨a6, HB⟩ := z_; (try clear hb); (try clear hk)) | ((with_reducible refine gate_callee (f := 80) rfl ?_); refine goesL_ (some 27) rfl rfl Tryz.func80 (by kernel_rfl) rfl #[.string aa] rfl tq_0 ?_; (with_reducible refine (impl_wordsOf.calls k1 aa af _ am.out).mono ?_); rintro e aq ⟨v490, rfl, ho0, hb⟩; refine ⟨_, rfl, ?_⟩; have z_ := p_ (Kd.R_below (raR_ a6) hb) <| p_ (Kd.R_lower ho0 (below_size th_)) <| a_ (below_step th_ hb); clear a6 HB; obtain ⟨a6, HO491, HB⟩ := z_; (try clear hb); (try clear hk); (try clear ho0)))
  go_ret
  exact ⟨_, tq_1, (raR_ HO491), th_⟩
 rw [if_pos c7] at H
 have a9 := decide_eq_true c7
 clear c7
 (first | rw [a9] | (simp only [i64_w, i32_w]; rw [a9]) | skip)
 obtain ⟨c8, H⟩ := fc_ H
 have an := decide_eq_true c8
 clear c8
 obtain ⟨c9, H⟩ := fc_ H
 have ao := decide_eq_true c9
 clear c9
 obtain ⟨ai, H⟩ := fc_ H
 have LMc10 := Aside0.mk ai
 clear ai
 obtain ⟨ae, hy485⟩ : ∃ y_ : List Int, y_ = (a7 ++ [(rd l0 a5) % 256]) := ⟨_, rfl⟩
 replace H : (impl_StatesWords.l0 k1 ae l0 (l0.length : Int) (wrap64 (a5 + 1))) = some r := by first | (rw [hy485]; with_reducible exact H) | (have H2_ := (Option.bind_some _ _).symm.trans H; rw [hy485]; with_reducible exact H2_) | (have H2_ := (Option.bind_some _ _).symm.trans H; with_reducible exact H2_) | with_reducible exact H | (rw [hy485]; exact H) | exact H
 have Ny485 := Aside0.mk hy485
 clear hy485
 have H' := Aside0.mk H
 clear H
 have p484 : 0 ≤ (a5 : Int) := of_decide_eq_true tq_2
 have q484 : a5 < (l0.length : Int) := of_decide_eq_true tq_2
 obtain ⟨aj, ag, a8⟩ := Kd.at_int HR0.out a5 p484 q484
 cases ag
 replace a8 := hx_ HB.out a8
 replace p484 := eq_true p484
 replace q484 := eq_true q484
 go_wp2_with (first | ((with_reducible refine gate_builtin (b := .append) (xs := #[.tmp 18, .tmp 21]) rfl ?_); at_builtin; refine Kd.R_append (Kd.int .u8) (w0 := w) w.heap.size rfl (.tmp 18) (.tmp 21) 83 5 (.int .u8 0) 1 rfl Tryz.underlying83 info5 rfl (by decide) (by omega) u3 a7 ((rd l0 a5) % 256) [.int .u8 ((rd l0 a5) % 256)] (fun _ => True) (fun _ => False) rfl rfl ?aP (fun _ hk => hk.elim) ?aF ?aO ?aB ?aS ?aL ?_; (case aP => exact rfl); (case aB => exact th_); (case aF => exact (fun _ _ => trivial)); (case aO => exact (raR_ a6)); (case aS => exact (below_size th_)); (case aL => have := LMc10.out; omega); intro v486 ar ho hb hg hat; rw [← Ny485.out] at ho; have z_ := p_ (hb) <| a_ (ho); clear HB a6; obtain ⟨HB, HO487⟩ := z_; clear ho hb hg hat))
 go_roundg k1
 case measure => have := HK1.out; omega
 case rel => exact ⟨(ae), (wrap64 (a5 + 1)), tq_3, H', ⟨tq_15⟩, ⟨(raR_ HO487)⟩, ⟨th_⟩⟩

/-! ### impl_Geo_partWords: function 102 -/
def impl_Geo_partWords.f (a0_0 : Int) (a0_1 : Int) (a0_2 : Int) (a0_3 : Int) : Option (Int) := some (wrap64 ((wrap64 (38 + (wrap64 (8 * a0_2)))) + (wrap64 (4 * a0_1))))
set_option maxHeartbeats 8000000 in
set_option maxRecDepth 100000 in
theorem impl_Geo_partWords.calls (a5 : Int) (a6 : Int) (a7 : Int) (a8 : Int) (r : Int) (w : World) (h : impl_Geo_partWords.f a5 a6 a7 a8 = some r) :
  Calls Tryz.prog 102 #[.agg #[.int .i64 a5, .int .i64 a6, .int .i64 a7, .int .i64 a8]] w fun e w' => e = .returned (.int .i64 r) ∧ Below w.heap.size w w' := by
 have hu31 := Tryz.underlying31
 have HB := Aside0.mk (Below.refl w.heap.size w)
 unfold impl_Geo_partWords.f at h
 have H := h
 clear h
 obtain rfl := Option.some.inj H
 go_enter Tryz.func102, Tryz.ntmps102
 go_wp2_with (first | ((with_reducible refine gate_dst (N := 1) rfl ?_); refine be_ 1 (cs := #[.int .i64 a5, .int .i64 a6, .int .i64 a7, .int .i64 a8]) 31 ?_; intro aa hg w2 hbox hb; have z_ := bx0_ th_ hb hbox hg; clear HB; obtain ⟨HB, a9, ab, ac⟩ := z_; clear hb hbox hg; have ae := bb4_ a9.out))
 go_ret
 exact ⟨tq_1, th_⟩

/-! ### impl_inPart: function 82 -/
def impl_inPart.f (a0_0 : Int) (a0_1 : Int) (a0_2 : Int) (a0_3 : Int) (a1 : Int) (a2 : Bool) (a3 : Int) : Option (Int) := (impl_isTenant.f a0_0 a0_1 a0_2 a0_3 a1).bind fun t494 => (if t494 = true then (if a2 = true then ((impl_Geo_partWords.f a0_0 a0_1 a0_2 a0_3).bind fun t495 => (some (wrap64 ((wrap64 (a1 * t495)) + a3)))) else (some (-1))) else (some (-1)))
set_option maxHeartbeats 8000000 in
set_option maxRecDepth 100000 in
theorem impl_inPart.calls (a6 : Int) (a7 : Int) (a8 : Int) (a9 : Int) (a1 : Int) (a2 : Bool) (a3 : Int) (r : Int) (w : World) (h : impl_inPart.f a6 a7 a8 a9 a1 a2 a3 = some r) :
  Calls Tryz.prog 82 #[.agg #[.int .i64 a6, .int .i64 a7, .int .i64 a8, .int .i64 a9], .int .i64 a1, .bool a2, .int .i64 a3] w fun e w' => e = .returned (.int .i64 r) ∧ Below w.heap.size w w' := by
 have hu31 := Tryz.underlying31
 have HB := Aside0.mk (Below.refl w.heap.size w)
 unfold impl_inPart.f at h
 have H := h
 clear h
 obtain ⟨af, A5, H⟩ := bd_ H
 by_cases c6 : af = true
 rotate_left
 ·replace c6 := Bool.eq_false_iff.mpr c6
  subst c6
  rw [if_neg nf_] at H
  obtain rfl := Option.some.inj H
  go_enter Tryz.func82, Tryz.ntmps82
  go_wp2_with (first | ((with_reducible refine gate_dst (N := 4) rfl ?_); refine be_ 4 (cs := #[.int .i64 a6, .int .i64 a7, .int .i64 a8, .int .i64 a9]) 31 ?_; intro aa hg am hbox hb; have z_ := bx0_ th_ hb hbox hg; clear HB; obtain ⟨HB, a5, ab, ac⟩ := z_; clear hb hbox hg; have ai := bb4_ a5.out) | ((with_reducible refine gate_callee (f := 25) rfl ?_); refine goesL_ (some 11) rfl rfl Tryz.func25 (by kernel_rfl) rfl #[.agg #[.int .i64 a6, .int .i64 a7, .int .i64 a8, .int .i64 a9], .int .i64 a1] rfl tq_0 ?_; (with_reducible refine (impl_isTenant.calls a6 a7 a8 a9 a1 false _ A5.out).mono ?_); rintro e an ⟨rfl, hb⟩; refine ⟨_, rfl, ?_⟩; have z_ := bw1_ (kb_ a5) th_ hb; clear a5 HB; obtain ⟨a5, HB⟩ := z_; (try clear hb)))
  go_ret
  exact ⟨tq_1, th_⟩
 subst c6
 rw [if_pos rfl] at H
 have ah := Aside0.mk H
 clear H
 go_enter Tryz.func82, Tryz.ntmps82
 go_upto_if 16 with (first | ((with_reducible refine gate_dst (N := 4) rfl ?_); refine be_ 4 (cs := #[.int .i64 a6, .int .i64 a7, .int .i64 a8, .int .i64 a9]) 31 ?_; intro aa hg w8 hbox hb; have z_ := bx0_ th_ hb hbox hg; clear HB; obtain ⟨HB, a5, ab, ac⟩ := z_; clear hb hbox hg; have aj := bb4_ a5.out) | ((with_reducible refine gate_callee (f := 25) rfl ?_); refine goesL_ (some 11) rfl rfl Tryz.func25 (by kernel_rfl) rfl #[.agg #[.int .i64 a6, .int .i64 a7, .int .i64 a8, .int .i64 a9], .int .i64 a1] rfl tq_0 ?_; (with_reducible refine (impl_isTenant.calls a6 a7 a8 a9 a1 true _ A5.out).mono ?_); rintro e ao ⟨rfl, hb⟩; refine ⟨_, rfl, ?_⟩; have z_ := bw1_ (kb_ a5) th_ hb; clear a5 HB; obtain ⟨a5, HB⟩ := z_; (try clear hb)))
 (try simp only [Act.put, List.setIfInBounds_toArray, List.set_cons_zero, List.set_cons_succ])
 (try clear aj)
 have H := ah.out
 clear ah
 by_cases ae : a2 = true
 rotate_left
 ·replace ae := Bool.eq_false_iff.mpr ae
  subst ae
  rw [if_neg nf_] at H
  obtain rfl := Option.some.inj H
  go_wp2
  go_ret
  exact ⟨tq_1, th_⟩
 subst ae
 rw [if_pos rfl] at H
 obtain ⟨ag, ak, H⟩ := bd_ H
 obtain rfl := Option.some.inj H
 have al := bb4_ a5.out
 go_wp2_with (first | ((with_reducible refine gate_callee (f := 102) rfl ?_); refine goesL_ (some 19) rfl rfl Tryz.func102 (by kernel_rfl) rfl #[.agg #[.int .i64 a6, .int .i64 a7, .int .i64 a8, .int .i64 a9]] rfl tq_0 ?_; (with_reducible refine (impl_Geo_partWords.calls a6 a7 a8 a9 ag _ ak.out).mono ?_); rintro e ap ⟨rfl, hb⟩; refine ⟨_, rfl, ?_⟩; have z_ := bw1_ (kb_ a5) th_ hb; clear a5 HB; obtain ⟨a5, HB⟩ := z_; (try clear hb)))
 go_ret
 exact ⟨tq_1, th_⟩

/-! ### impl_statesAt: function 55 -/
def impl_statesAt.f (a0_0 : Int) (a0_1 : Int) (a0_2 : Int) (a0_3 : Int) (a1 : Int) : Option (Int) := (impl_inPart.f a0_0 a0_1 a0_2 a0_3 a1 true 36).bind fun t497 => (some t497)
set_option maxHeartbeats 8000000 in
set_option maxRecDepth 100000 in
theorem impl_statesAt.calls (a6 : Int) (a7 : Int) (a8 : Int) (a9 : Int) (a1 : Int) (r : Int) (w : World) (h : impl_statesAt.f a6 a7 a8 a9 a1 = some r) :
  Calls Tryz.prog 55 #[.agg #[.int .i64 a6, .int .i64 a7, .int .i64 a8, .int .i64 a9], .int .i64 a1] w fun e w' => e = .returned (.int .i64 r) ∧ Below w.heap.size w w' := by
 have hu31 := Tryz.underlying31
 have HB := Aside0.mk (Below.refl w.heap.size w)
 unfold impl_statesAt.f at h
 have H := h
 clear h
 obtain ⟨aa, A3, H⟩ := bd_ H
 obtain rfl := Option.some.inj H
 go_enter Tryz.func55, Tryz.ntmps55
 go_wp2_with (first | ((with_reducible refine gate_dst (N := 2) rfl ?_); refine be_ 2 (cs := #[.int .i64 a6, .int .i64 a7, .int .i64 a8, .int .i64 a9]) 31 ?_; intro ab hg w4 hbox hb; have z_ := bx0_ th_ hb hbox hg; clear HB; obtain ⟨HB, a5, ac, ae⟩ := z_; clear hb hbox hg; have af := bb4_ a5.out) | ((with_reducible refine gate_callee (f := 82) rfl ?_); refine goesL_ (some 7) rfl rfl Tryz.func82 (by kernel_rfl) rfl #[.agg #[.int .i64 a6, .int .i64 a7, .int .i64 a8, .int .i64 a9], .int .i64 a1, .bool true, .int .i64 36] rfl tq_0 ?_; (with_reducible refine (impl_inPart.calls a6 a7 a8 a9 a1 true 36 aa _ A3.out).mono ?_); rintro e w6 ⟨rfl, hb⟩; refine ⟨_, rfl, ?_⟩; have z_ := bw1_ (kb_ a5) th_ hb; clear a5 HB; obtain ⟨a5, HB⟩ := z_; (try clear hb)))
 go_ret
 exact ⟨tq_1, th_⟩

/-! ### impl_zeroWord: function 87 -/
def impl_zeroWord.f  : Option (ByteArray) := (impl_padded.f (⟨#[]⟩ : ByteArray) 8).bind fun t498 => (some t498)
set_option maxHeartbeats 8000000 in
set_option maxRecDepth 100000 in
theorem impl_zeroWord.calls  (r : ByteArray) (w : World) (h : impl_zeroWord.f  = some r) :
  Calls Tryz.prog 87 #[] w fun e w' => e = .returned (.string r) ∧ Below w.heap.size w w' := by
 have HB := Aside0.mk (Below.refl w.heap.size w)
 unfold impl_zeroWord.f at h
 have H := h
 clear h
 obtain ⟨a5, A1, H⟩ := bd_ H
 obtain rfl := Option.some.inj H
 go_enter Tryz.func87, Tryz.ntmps87
 go_wp2_with (first | ((with_reducible refine gate_callee (f := 81) rfl ?_); refine goesL_ (some 1) rfl rfl Tryz.func81 (by kernel_rfl) rfl #[.string (⟨#[]⟩ : ByteArray), .int .i64 8] rfl tq_0 ?_; (with_reducible refine (impl_padded.calls (⟨#[]⟩ : ByteArray) 8 a5 _ A1.out).mono ?_); rintro e w2 ⟨rfl, hb⟩; refine ⟨_, rfl, ?_⟩; have n0_ := Aside0.mk (below_step th_ hb); clear HB; have HB := n0_; clear n0_; (try clear hb)))
 go_ret
 exact ⟨tq_1, th_⟩

end Go.Proofs.YtleoknilacjakaaGreat.PFnExactPartWrites
