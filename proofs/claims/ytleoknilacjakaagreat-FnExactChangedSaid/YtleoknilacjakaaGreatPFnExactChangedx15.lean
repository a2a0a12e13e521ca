/- Contracts of Go functions: each call returns what the Lean function beside it computes. Conditions: as each theorem states them. -/
import Derived.Test.YtleoknilacjakaaGreatPkFnExactChanged
import Derived.Test.YtleoknilacjakaaGreatPFnExactChangedx1
import Derived.Test.YtleoknilacjakaaGreatPFnExactChangedx8
import Derived.Test.YtleoknilacjakaaGreatPFnExactChangedx9
import Derived.Test.YtleoknilacjakaaGreatPFnExactChangedx10
namespace Go.Proofs.YtleoknilacjakaaGreat.PFnExactChanged
open Go.RowKit Go.Proofs.YtleoknilacjakaaGreatW.PrintWords Go.Proofs.YtleoknilacjakaaGreatW.PrintLast Go.Proofs.YtleoknilacjakaaGreatW.PrintMore
attribute [local go_sem] max2_int min2_int max_two min_two max_three min_three max_four min_four   -- for this text's walks alone
set_option linter.unusedVariables false
set_option linter.unusedSimpArgs false

/-! ### spec_PartWords: function 67 -/
def spec_PartWords.f (a7 : Int) (a5 : Int) (a6 : Int) (a8 : Int) : Option (Int) := (spec_GeoOk.f a7 a5 a6 a8).bind fun a9 => (if a9 = true then (some (wrap64 ((wrap64 (38 + (wrap64 (8 * a6)))) + (wrap64 (4 * a5))))) else (some 0))
set_option maxHeartbeats 8000000 in
set_option maxRecDepth 100000 in
theorem spec_PartWords.calls (a6 : Int) (a7 : Int) (a8 : Int) (a9 : Int) (r : Int) (w : World) (h : spec_PartWords.f a6 a7 a8 a9 = some r) :
  Calls Tryz.prog 67 #[.agg #[.int .i64 a6, .int .i64 a7, .int .i64 a8, .int .i64 a9]] w fun e w' => e = .returned (.int .i64 r) ∧ Below w.heap.size w w' := by
 have hu31 := Tryz.underlying31
 have HB := Aside0.mk (Below.refl w.heap.size w)
 unfold spec_PartWords.f at h
 have H := h
 clear h
 obtain ⟨aa, A2, H⟩ := bd_ H
 have ab := Aside0.mk H
 clear H
 go_enter Tryz.func67, Tryz.ntmps67
 go_upto_if 5 with (first | ((with_reducible refine gate_dst (N := 1) rfl ?_); refine be_ 1 (cs := #[.int .i64 a6, .int .i64 a7, .int .i64 a8, .int .i64 a9]) 31 ?_; intro ac hg w4 hbox hb; have z_ := bx0_ th_ hb hbox hg; clear HB; obtain ⟨HB, a5, ae, af⟩ := z_; clear hb hbox hg; have ag := bb4_ a5.out) | ((with_reducible refine gate_callee (f := 35) rfl ?_); refine goesL_ (some 4) rfl rfl Tryz.func35 (by kernel_rfl) rfl #[.agg #[.int .i64 a6, .int .i64 a7, .int .i64 a8, .int .i64 a9]] rfl tq_0 ?_; (with_reducible refine (spec_GeoOk.calls a6 a7 a8 a9 aa _ A2.out).mono ?_); rintro e w6 ⟨rfl, hb⟩; refine ⟨_, rfl, ?_⟩; have z_ := bw1_ (kb_ a5) th_ hb; clear a5 HB; obtain ⟨a5, HB⟩ := z_; (try clear hb)))
 (try simp only [Act.put, List.setIfInBounds_toArray, List.set_cons_zero, List.set_cons_succ])
 (try clear ag)
 have H := ab.out
 clear ab
 by_cases c7 : aa = true
 rotate_left
 ·replace c7 := Bool.eq_false_iff.mpr c7
  subst c7
  rw [if_neg nf_] at H
  obtain rfl := Option.some.inj H
  go_wp2
  go_ret
  exact ⟨tq_1, th_⟩
 subst c7
 rw [if_pos rfl] at H
 obtain rfl := Option.some.inj H
 have ah := bb4_ a5.out
 go_wp2
 go_ret
 exact ⟨tq_1, th_⟩

/-! ### spec_l11At: function 43 -/
def spec_l11At.f (a5 : Int) (a6 : Int) (a7 : Int) (a8 : Int) (a1 : Int) (a2 : Int) : Option (Int) := (spec_GeoOk.f a5 a6 a7 a8).bind fun a9 => (if a9 = true then ((spec_l01In.f a1 0 (wrap64 (a5 - 1))).bind fun aa => (if aa = true then ((spec_PartWords.f a5 a6 a7 a8).bind fun ab => (some (wrap64 ((wrap64 (a1 * ab)) + a2)))) else (some (-1)))) else (some (-1)))
set_option maxHeartbeats 8000000 in
set_option maxRecDepth 100000 in
theorem spec_l11At.calls (a6 : Int) (a7 : Int) (a8 : Int) (a9 : Int) (a1 : Int) (a2 : Int) (r : Int) (w : World) (h : spec_l11At.f a6 a7 a8 a9 a1 a2 = some r) :
  Calls Tryz.prog 43 #[.agg #[.int .i64 a6, .int .i64 a7, .int .i64 a8, .int .i64 a9], .int .i64 a1, .int .i64 a2] w fun e w' => e = .returned (.int .i64 r) ∧ Below w.heap.size w w' := by
 have hu31 := Tryz.underlying31
 have HB := Aside0.mk (Below.refl w.heap.size w)
 unfold spec_l11At.f at h
 have H := h
 clear h
 obtain ⟨ah, A4, H⟩ := bd_ H
 by_cases c5 : ah = true
 rotate_left
 ·replace c5 := Bool.eq_false_iff.mpr c5
  subst c5
  rw [if_neg nf_] at H
  obtain rfl := Option.some.inj H
  go_enter Tryz.func43, Tryz.ntmps43
  go_wp2_with (first | ((with_reducible refine gate_dst (N := 3) rfl ?_); refine be_ 3 (cs := #[.int .i64 a6, .int .i64 a7, .int .i64 a8, .int .i64 a9]) 31 ?_; intro aa hg ao hbox hb; have z_ := bx0_ th_ hb hbox hg; clear HB; obtain ⟨HB, a5, ab, ac⟩ := z_; clear hb hbox hg; have al := bb4_ a5.out) | ((with_reducible refine gate_callee (f := 35) rfl ?_); refine goesL_ (some 8) rfl rfl Tryz.func35 (by kernel_rfl) rfl #[.agg #[.int .i64 a6, .int .i64 a7, .int .i64 a8, .int .i64 a9]] rfl tq_0 ?_; (with_reducible refine (spec_GeoOk.calls a6 a7 a8 a9 false _ A4.out).mono ?_); rintro e ap ⟨rfl, hb⟩; refine ⟨_, rfl, ?_⟩; have z_ := bw1_ (kb_ a5) th_ hb; clear a5 HB; obtain ⟨a5, HB⟩ := z_; (try clear hb)))
  go_ret
  exact ⟨tq_1, th_⟩
 subst c5
 rw [if_pos rfl] at H
 obtain ⟨ae, A6, H⟩ := bd_ H
 have aj := Aside0.mk H
 clear H
 go_enter Tryz.func43, Tryz.ntmps43
 go_upto_if 17 with (first | ((with_reducible refine gate_dst (N := 3) rfl ?_); refine be_ 3 (cs := #[.int .i64 a6, .int .i64 a7, .int .i64 a8, .int .i64 a9]) 31 ?_; intro aa hg w8 hbox hb; have z_ := bx0_ th_ hb hbox hg; clear HB; obtain ⟨HB, a5, ab, ac⟩ := z_; clear hb hbox hg; have ak := bb4_ a5.out) | ((with_reducible refine gate_callee (f := 35) rfl ?_); refine goesL_ (some 8) rfl rfl Tryz.func35 (by kernel_rfl) rfl #[.agg #[.int .i64 a6, .int .i64 a7, .int .i64 a8, .int .i64 a9]] rfl tq_0 ?_; (with_reducible refine (spec_GeoOk.calls a6 a7 a8 a9 true _ A4.out).mono ?_); rintro e aq ⟨rfl, hb⟩; refine ⟨_, rfl, ?_⟩; have z_ := bw1_ (kb_ a5) th_ hb; clear a5 HB; obtain ⟨a5, HB⟩ := z_; (try clear hb); have af := bb4_ a5.out) | (go_at_call 36; (with_reducible refine (spec_l01In.calls a1 0 (wrap64 (a6 - 1)) ae _ A6.out).mono ?_); rintro e w' ⟨rfl, ⟨nd, rfl⟩⟩))
 (try simp only [Act.put, List.setIfInBounds_toArray, List.set_cons_zero, List.set_cons_succ])
 (try clear af)
 (try clear ak)
 (try clear af)
 (try clear ak)
 have H := aj.out
 clear aj
 by_cases ag : ae = true
 rotate_left
 ·replace ag := Bool.eq_false_iff.mpr ag
  subst ag
  rw [if_neg nf_] at H
  obtain rfl := Option.some.inj H
  go_wp2
  go_ret
  exact ⟨tq_1, th_⟩
 subst ag
 rw [if_pos rfl] at H
 obtain ⟨ai, am, H⟩ := bd_ H
 obtain rfl := Option.some.inj H
 have an := bb4_ a5.out
 go_wp2_with (first | ((with_reducible refine gate_callee (f := 67) rfl ?_); refine goesL_ (some 20) rfl rfl Tryz.func67 (by kernel_rfl) rfl #[.agg #[.int .i64 a6, .int .i64 a7, .int .i64 a8, .int .i64 a9]] rfl tq_0 ?_; (with_reducible refine (spec_PartWords.calls a6 a7 a8 a9 ai _ am.out).mono ?_); rintro e ar ⟨rfl, hb⟩; refine ⟨_, rfl, ?_⟩; have z_ := bw1_ (kb_ a5) th_ hb; clear a5 HB; obtain ⟨a5, HB⟩ := z_; (try clear hb)))
 go_ret
 exact ⟨tq_1, th_⟩

/-! ### spec_CommitAt: function 20 -/
def spec_CommitAt.f (a5 : Int) (a6 : Int) (a7 : Int) (a8 : Int) (a1 : Int) : Option (Int) := (spec_l11At.f a5 a6 a7 a8 a1 0).bind fun a9 => (some a9)
set_option maxHeartbeats 8000000 in
set_option maxRecDepth 100000 in
theorem spec_CommitAt.calls (a6 : Int) (a7 : Int) (a8 : Int) (a9 : Int) (a1 : Int) (r : Int) (w : World) (h : spec_CommitAt.f a6 a7 a8 a9 a1 = some r) :
  Calls Tryz.prog 20 #[.agg #[.int .i64 a6, .int .i64 a7, .int .i64 a8, .int .i64 a9], .int .i64 a1] w fun e w' => e = .returned (.int .i64 r) ∧ Below w.heap.size w w' := by
 have hu31 := Tryz.underlying31
 have HB := Aside0.mk (Below.refl w.heap.size w)
 unfold spec_CommitAt.f at h
 have H := h
 clear h
 obtain ⟨aa, A3, H⟩ := bd_ H
 obtain rfl := Option.some.inj H
 go_enter Tryz.func20, Tryz.ntmps20
 go_wp2_with (first | ((with_reducible refine gate_dst (N := 2) rfl ?_); refine be_ 2 (cs := #[.int .i64 a6, .int .i64 a7, .int .i64 a8, .int .i64 a9]) 31 ?_; intro ab hg w4 hbox hb; have z_ := bx0_ th_ hb hbox hg; clear HB; obtain ⟨HB, a5, ac, ae⟩ := z_; clear hb hbox hg; have af := bb4_ a5.out) | ((with_reducible refine gate_callee (f := 43) rfl ?_); refine goesL_ (some 7) rfl rfl Tryz.func43 (by kernel_rfl) rfl #[.agg #[.int .i64 a6, .int .i64 a7, .int .i64 a8, .int .i64 a9], .int .i64 a1, .int .i64 0] rfl tq_0 ?_; (with_reducible refine (spec_l11At.calls a6 a7 a8 a9 a1 0 aa _ A3.out).mono ?_); rintro e w6 ⟨rfl, hb⟩; refine ⟨_, rfl, ?_⟩; have z_ := bw1_ (kb_ a5) th_ hb; clear a5 HB; obtain ⟨a5, HB⟩ := z_; (try clear hb)))
 go_ret
 exact ⟨tq_1, th_⟩

/-! ### spec_StatesWords: function 44 -/
def spec_StatesWords.l0 : Nat → List Int → List Int → Int → Option (List ByteArray)
 | 0, _, _, _ => none
 | k + 1, x0, x3, x4 => if x4 < (x0.length : Int) then (if 0 ≤ x4 then (if x4 < (x3.length : Int) then (spec_StatesWords.l0 k x0 (x3.set (x4 : Int).toNat ((rd x0 x4) % 256)) (wrap64 (x4 + 1))) else (none)) else (none)) else (if 8 ≤ (x3.length : Int) then (some (([strOfNums (x3.take 8), strOfNums (x3.drop 8)] : List ByteArray))) else (none))
def spec_StatesWords.f (k : Nat) (l0 : List Int) : Option (List ByteArray) := (spec_StatesOk.f k l0 (l0.length : Int)).bind fun a5 => (if a5 = true then (spec_StatesWords.l0 k l0 (List.replicate 16 0) 0) else (some (([] : List ByteArray))))
def spec_StatesWords.T8 : Bool × List (List Nat × List Nat) := (true, [([], []), ([0], [0]), ([1], [1]), ([], []), ([3], [3]), ([4], [4]), ([2, 5], [2, 5]), ([6, 0, 1, 2, 3, 4, 5, 6], [6])])
def spec_StatesWords.B8 : List Nat := [0, 1, 3, 0, 8, 24, 63, 127]
theorem spec_StatesWords.tab8 : rtab .any (opsOf Tryz.f44 8) = spec_StatesWords.T8 := by kernel_rfl
theorem spec_StatesWords.bits8 : waitsOk spec_StatesWords.T8.2 spec_StatesWords.B8 = true := by kernel_rfl
set_option maxHeartbeats 8000000 in
set_option maxRecDepth 100000 in
theorem spec_StatesWords.calls (k : Nat) (A0 : Option Addr) (c0 : Nat) (l0 : List Int) (r : List ByteArray) (w : World) (hr0 : Kd.C (Kd.int .i64) w A0 l0.length l0) (hc0 : l0.length ≤ c0) (h : spec_StatesWords.f k l0 = some r) :
  Calls Tryz.prog 44 #[.slice A0 l0.length c0] w fun e w' => ∃ v0_ : Value, e = .returned (v0_) ∧ Kd.R Kd.string 9 w' w.heap.size (fun _ => True) v0_ r ∧ Below w.heap.size w w' := by
 have HR0 := Aside0.mk hr0
 have b9 := Aside0.mk hc0
 clear hr0 hc0
 have HB := Aside0.mk (Below.refl w.heap.size w)
 unfold spec_StatesWords.f at h
 have H := h
 clear h
 obtain ⟨ai, A2, H⟩ := bd_ H
 have b2 := Aside0.mk H
 clear H
 go_enter Tryz.func44, Tryz.ntmps44
 go_upto_if 9 with (first | ((with_reducible refine gate_callee (f := 37) rfl ?_); refine goesL_ (some 8) rfl rfl Tryz.func37 (by kernel_rfl) rfl #[.slice A0 l0.length c0, .int .i64 (l0.length : Int)] rfl tq_0 ?_; (with_reducible refine (spec_StatesOk.calls k _ _ l0 (l0.length : Int) ai _ ?side1 ?side2 A2.out).mono ?_); (case side1 => exact tq_33); (case side2 => exact b9.out); rintro e w' ⟨rfl, ⟨nd, rfl⟩⟩; refine ⟨_, rfl, ?_⟩))
 (try simp only [Act.put, List.setIfInBounds_toArray, List.set_cons_zero, List.set_cons_succ])
 have H := b2.out
 clear b2
 by_cases c4 : ai = true
 rotate_left
 ·replace c4 := Bool.eq_false_iff.mpr c4
  subst c4
  rw [if_neg nf_] at H
  obtain ⟨aq, hy330⟩ : ∃ y_ : List ByteArray, y_ = (([] : List ByteArray)) := ⟨_, rfl⟩
  replace H : (some aq) = some r := by first | (rw [hy330]; with_reducible exact H) | (have H2_ := (Option.bind_some _ _).symm.trans H; rw [hy330]; with_reducible exact H2_) | (have H2_ := (Option.bind_some _ _).symm.trans H; with_reducible exact H2_) | with_reducible exact H | (rw [hy330]; exact H) | exact H
  have Ny330 := Aside0.mk hy330
  clear hy330
  obtain rfl := Option.some.inj H
  go_wp2_with (first | ((with_reducible refine gate_dst (N := 10) rfl ?_); refine Kd.R_lit Kd.string _ 9 ?hg (N := 10) ?hd (xs := ([] : List ByteArray)) (inner := []) (ok := fun _ => True) (okp := fun _ => True) ?hr ?hp (fun _ hk => hk) trivial (Below.refl _ _) (Nat.le_refl _) (by simp) ?_; (case hd => rfl); (case hg => rfl); (case hr => first | (go_simp; done) | (go_simp; rfl)); (case hp => exact (Reps.none _ _)); intro v331 be ho25 hb hg_ hnew_; clear hg_ hnew_; (first | rw [← Ny330.out] at ho25 | (simp only [Int.reduceToNat] at ho25; rw [← Ny330.out] at ho25)); have z_ := p_ (Kd.R_lower ho25 (below_size th_)) <| a_ (below_step th_ hb); clear HB; obtain ⟨HO332, HB⟩ := z_; clear hb ho25))
  go_ret
  exact ⟨_, tq_1, (raR_ HO332), th_⟩
 subst c4
 rw [if_pos rfl] at H
 obtain ⟨aj, hy333⟩ : ∃ y_ : List Int, y_ = (List.replicate 16 0) := ⟨_, rfl⟩
 replace H : (spec_StatesWords.l0 k l0 aj 0) = some r := by first | (rw [hy333]; with_reducible exact H) | (have H2_ := (Option.bind_some _ _).symm.trans H; rw [hy333]; with_reducible exact H2_) | (have H2_ := (Option.bind_some _ _).symm.trans H; with_reducible exact H2_) | with_reducible exact H | (rw [hy333]; exact H) | exact H
 have Ny333 := Aside0.mk hy333
 clear hy333
 have H' := Aside0.mk H
 clear H
 go_wp2_with (first | ((with_reducible refine gate_dst (N := 11) rfl ?_); refine Kd.R_make (Kd.int .u8) _ 5 rfl (N := 11) rfl 83 _ _ rfl 16 rfl rfl Tryz.underlying83 (.int .u8 0) 1 info5 rfl (by decide) (by omega) 0 (ok := fun _ => True) (okp := fun _ => True) rfl (fun _ hk => hk) trivial (by omega) (by omega) (Below.refl _ _) (Nat.le_refl _) ?_; intro v334 w5 ho6 hb hg_ hnew_; clear hg_ hnew_; (first | rw [← Ny333.out] at ho6 | (simp only [Int.reduceToNat] at ho6; rw [← Ny333.out] at ho6)); have z_ := p_ (Kd.R_lower ho6 (below_size th_)) <| a_ (below_step th_ hb); clear HB; obtain ⟨HO335, HB⟩ := z_; clear hb ho6))
 go_loopg [4] k (fun kq v4 w' => ∃ (a5 : List Int) (a6 : Int), v4 = .int .i64 a6 ∧ Aside0 (spec_StatesWords.l0 kq l0 a5 a6 = some r) ∧ Aside0 (kq ≤ k) ∧ Aside0 (Kd.R (Kd.int .u8) 5 w' w.heap.size (fun _ => True) v334 a5) ∧ Aside0 (Below w.heap.size w w'))
 case atStart => exact ⟨(aj), (0), tq_3, H', ⟨Nat.le_refl _⟩, ⟨(raR_ HO335)⟩, ⟨th_⟩⟩
 case round =>
 clear H'
 try clear p2; try clear c3; try clear c4
 obtain ⟨a5, a6, rfl, HA, HK1, a7, HB⟩ := hrel
 cases gk with
 | zero => exact absurd HA.out (by simp [spec_StatesWords.l0])
 | succ k1 =>
 have H := HA.out
 clear HA
 simp only [spec_StatesWords.l0] at H
 by_cases c7 : a6 < (l0.length : Int)
 ·rw [if_pos c7] at H
  have af := decide_eq_true c7
  clear c7
  (first | rw [af] | (simp only [i64_w, i32_w]; rw [af]) | skip)
  obtain ⟨c8, H⟩ := fc_ H
  have ba := decide_eq_true c8
  clear c8
  obtain ⟨c9, H⟩ := fc_ H
  have bb := decide_eq_true c9
  clear c9
  obtain ⟨ag, hy337⟩ : ∃ y_ : List Int, y_ = (a5.set (a6 : Int).toNat ((rd l0 a6) % 256)) := ⟨_, rfl⟩
  replace H : (spec_StatesWords.l0 k1 l0 ag (wrap64 (a6 + 1))) = some r := by first | (rw [hy337]; with_reducible exact H) | (have H2_ := (Option.bind_some _ _).symm.trans H; rw [hy337]; with_reducible exact H2_) | (have H2_ := (Option.bind_some _ _).symm.trans H; with_reducible exact H2_) | with_reducible exact H | (rw [hy337]; exact H) | exact H
  have Ny337 := Aside0.mk hy337
  clear hy337
  have H' := Aside0.mk H
  clear H
  have p336 : 0 ≤ (a6 : Int) := of_decide_eq_true tq_2
  have q336 : a6 < (l0.length : Int) := of_decide_eq_true tq_2
  obtain ⟨b3, ar, ab⟩ := Kd.at_int HR0.out a6 p336 q336
  cases ar
  replace ab := hx_ HB.out ab
  replace p336 := eq_true p336
  replace q336 := eq_true q336
  have p10 : 0 ≤ (a6 : Int) := of_decide_eq_true tq_2
  have q10 : (a6 : Int) < ((a5.length : Int) : Int) := of_decide_eq_true tq_2
  obtain ⟨ah, au, ak, al, av, bc, am⟩ := Kd.R_form a7.out (by omega)
  (first | cases ak | (injection ak with ea_ en_ ec_; (first | subst ea_ | (injection ea_ with ea_; subst ea_)); subst ec_; clear en_))
  have aw := Aside0.mk al
  have bd := Aside0.mk am
  clear al av am
  obtain ⟨ax, ay⟩ := Kd.R_celln 0 a7.out (a6 : Int) p10 q10
  replace p10 := eq_true p10
  replace q10 := eq_true q10
  have HP11 := Kd.R_putg a7.out (a6 : Int) ((rd l0 a6) % 256)
  go_wp2_with (first | ((with_reducible refine gate_store (t := 5) (p := 25) rfl ?_); refine store_event (t := 5) (p := 25) (v := ?vo_w12) (w1 := (wr.setCell ⟨ah, (a6 : Int).toNat, none⟩ (.int .u8 ((rd l0 a6) % 256)))) ?hg ?ho ?hn ?hr ?_; (case ho => rfl); (case hg => rfl); (case hn => rfl); (case hr => first | (go_simp; done) | (go_simp; rfl)); intro az hw; have hg : wr.grownBy az (some ah) := (by rw [hw]; exact HP11.2); have hp_ : Kd.R (Kd.int .u8) 5 az w.heap.size (fun _ => True) (.slice (some ⟨ah, 0, none⟩) a5.length au) ag := (by rw [hw, Ny337.out]; exact HP11.1); clear HP11; have z_ := p_ (hp_) <| a_ ((by rw [hw]; exact below_set (HB.out) aw.out : Below w.heap.size w az)); clear a7 HB; obtain ⟨a7, HB⟩ := z_; clear hg hw hp_))
  go_roundg k1
  case measure => have := HK1.out; omega
  case rel => exact ⟨(ag), (wrap64 (a6 + 1)), tq_3, H', ⟨tq_22⟩, ⟨(raR_ a7)⟩, ⟨th_⟩⟩
 rw [if_neg c7] at H
 have af := decide_eq_false c7
 clear c7
 (first | rw [af] | (simp only [i64_w, i32_w]; rw [af]) | skip)
 obtain ⟨b0, H⟩ := fc_ H
 have b4 := eq_true b0
 have b5 := decide_eq_true b0
 clear b0
 obtain ⟨a9, hy338⟩ : ∃ y_ : List Int, y_ = (a5.take 8) := ⟨_, rfl⟩
 replace H : (some (([strOfNums a9, strOfNums (a5.drop 8)] : List ByteArray))) = some r := by first | (rw [hy338]; with_reducible exact H) | (have H2_ := (Option.bind_some _ _).symm.trans H; rw [hy338]; with_reducible exact H2_) | (have H2_ := (Option.bind_some _ _).symm.trans H; with_reducible exact H2_) | with_reducible exact H | (rw [hy338]; exact H) | exact H
 have Ny338 := Aside0.mk hy338
 clear hy338
 have b6 := eq_true (of_decide_eq_true tq_2 : 8 ≤ (a5.length : Int))
 obtain ⟨a8, hy342⟩ : ∃ y_ : List Int, y_ = (a5.drop 8) := ⟨_, rfl⟩
 replace H : (some (([strOfNums a9, strOfNums a8] : List ByteArray))) = some r := by first | (rw [hy342]; with_reducible exact H) | (have H2_ := (Option.bind_some _ _).symm.trans H; rw [hy342]; with_reducible exact H2_) | (have H2_ := (Option.bind_some _ _).symm.trans H; with_reducible exact H2_) | with_reducible exact H | (rw [hy342]; exact H) | exact H
 have Ny342 := Aside0.mk hy342
 clear hy342
 obtain ⟨b1, hy346⟩ : ∃ y_ : List ByteArray, y_ = (([strOfNums a9, strOfNums a8] : List ByteArray)) := ⟨_, rfl⟩
 replace H : (some b1) = some r := by first | (rw [hy346]; with_reducible exact H) | (have H2_ := (Option.bind_some _ _).symm.trans H; rw [hy346]; with_reducible exact H2_) | (have H2_ := (Option.bind_some _ _).symm.trans H; with_reducible exact H2_) | with_reducible exact H | (rw [hy346]; exact H) | exact H
 have Ny346 := Aside0.mk hy346
 clear hy346
 obtain rfl := Option.some.inj H
 try go_wp2
 have z_ := p_ (Kd.R_drew a7.out) <| a_ (below_drew1 HB.out)
 clear a7 HB
 obtain ⟨a7, HB⟩ := z_
 obtain ⟨Ao17, aa, an⟩ := Kd.R_slice a7.out
 (first | subst an | (injection an with f1_ f2_ f3_; have f4_ := f1_.symm; have f5_ := f3_.symm; clear f1_ f2_ f3_; subst f4_; subst f5_))
 have q16 : (8 : Int) ≤ ((a5.length : Int) : Int) := of_decide_eq_true tq_2
 obtain ⟨i016, hi016, _, hsz16, _⟩ := info_parts info5
 have hroom16 : a5.length ≤ aa := (Kd.R_reads' a7.out).2.1
 have hC16 : Kd.C (Kd.int .u8) _ Ao17 a5.length a5 := (Kd.R_reads' a7.out).2.2
 have hcut16 := cut_to (P := Tryz.prog) 83 5 .i64 Tryz.underlying83 hi016 Ao17 a5.length aa 8 (by omega) q16 hroom16
 have hr16 := Kd.C_take (m := 8) hC16 (by omega)
 have hy16 : a9.length = (8 : Int).toNat := (by rw [Ny338.out, List.length_take]; omega)
 rw [← Ny338.out] at hr16
 rw [← hy16] at hcut16
 have ac := Aside0.mk hr16
 have b7 := Aside0.mk (show a9.length ≤ aa from by omega)
 clear hr16 hC16 hroom16 hi016 hsz16
 have KY16 := Aside0.mk hy16
 clear hy16
 have KL16 := Aside0.mk (show 8 ≤ a5.length from by omega)
 replace q16 := eq_true q16
 have q18 : (8 : Int) ≤ ((a5.length : Int) : Int) := of_decide_eq_true tq_2
 obtain ⟨i018, hi018, _, hsz18, _⟩ := info_parts info5
 have hroom18 : a5.length ≤ aa := (Kd.R_reads' a7.out).2.1
 have hC18 : Kd.C (Kd.int .u8) _ Ao17 a5.length a5 := (Kd.R_reads' a7.out).2.2
 have hcut18 := cut_from (P := Tryz.prog) 83 5 .i64 Tryz.underlying83 hi018 1 hsz18 Ao17 a5.length aa 8 (by omega) q18
 have hr18 := Kd.C_drop (m := (8 : Int).toNat) (c := aa) hC18 (by omega) hroom18
 obtain ⟨ao, hA18⟩ : ∃ A1, A1 = (if aa = (8 : Int).toNat then Ao17 else (Ao17 : Option Addr).map (·.add ((8 : Int).toNat * 1))) := ⟨_, rfl⟩
 obtain ⟨ap, hc18⟩ : ∃ c1, c1 = aa - (8 : Int).toNat := ⟨_, rfl⟩
 have hy18 : a8.length = a5.length - (8 : Int).toNat := (by rw [Ny342.out, List.length_drop] <;> omega)
 rw [show (a5).drop (8 : Int).toNat = a8 from Ny342.out.symm] at hr18
 replace hr18 : Kd.C (Kd.int .u8) _ ao a8.length a8 := (by rw [hA18]; exact hr18)
 rw [← hy18, ← hA18, ← hc18] at hcut18
 have ae := Aside0.mk hr18
 have b8 := Aside0.mk (show a8.length ≤ ap from by rw [hy18, hc18]; exact Nat.sub_le_sub_right hroom18 _)
 clear hr18 hC18 hroom18 hi018 hsz18 hc18
 have KY18 := Aside0.mk hy18
 have KA18 := Aside0.mk hA18
 clear hy18 hA18
 have KL18 := Aside0.mk (show 8 ≤ a5.length from by omega)
 replace q18 := eq_true q18
 have hcv19 := Kd.C_string (P := Tryz.prog) (A := Ao17) (c := aa) Tryz.underlying83 Tryz.underlying5 Tryz.underlying9 (by repeat (first | (with_reducible exact ac.out) | (with_reducible refine Kd.C_alloc ?_ _) | (with_reducible refine Kd.C_drewN ?_ _) | (with_reducible refine Kd.C_drew ?_) | exact ac.out))
 have hcv20 := Kd.C_string (P := Tryz.prog) (A := ao) (c := ap) Tryz.underlying83 Tryz.underlying5 Tryz.underlying9 (by repeat (first | (with_reducible exact ae.out) | (with_reducible refine Kd.C_alloc ?_ _) | (with_reducible refine Kd.C_drewN ?_ _) | (with_reducible refine Kd.C_drew ?_) | exact ae.out))
 refine start_ (n := 8) (S := fun w' => (convert 83 9 (.slice Ao17 a9.length aa)).run Tryz.prog w' = .ok (.string (strOfNums a9)) w' ∧ (convert 83 9 (.slice ao a8.length ap)).run Tryz.prog w' = .ok (.string (strOfNums a8)) w') (ds := []) bq_0 (by kernel_rfl) rfl rfl ⟨hcv19, hcv20⟩ (fun hHeld => ?_); refine with_tabW spec_StatesWords.tab8 spec_StatesWords.bits8 (fun HT_ HW_ => ?_)
 generalize wr.drew = bf at a7 HB ac ae hHeld ⊢
 refine tr_ 0 26 bq_1 HT_ HW_ hHeld ?_
 refine tr_ 1 27 bq_82 HT_ HW_ hHeld ?_
 refine tr_ 2 28 bq_83 HT_ HW_ hHeld ?_
 refine tr_ 3 29 bq_84 HT_ HW_ hHeld ?_
 refine tr_ 4 30 bq_40 HT_ HW_ hHeld ?_
 refine tr_ 5 31 bq_2 HT_ HW_ hHeld ?_
 refine one_ (i := 6) (N := some 32) bq_3 rfl rfl (one_of HT_.out (by kernel_rfl)) (by decide) (fun K hK => ?_)
 refine Kd.R_lit_step Kd.string _ 9 ?hg (N := 32) ?hd (xs := ([strOfNums a9, strOfNums a8] : List ByteArray)) (inner := [.string (strOfNums a9), .string (strOfNums a8)]) (ok := fun _ => True) (okp := fun _ => True) ?hr ?hp (fun _ hk => hk) trivial (Below.refl _ _) (Nat.le_refl _) (by simp) ?_; (case hd => rfl); (case hg => rfl); (case hr => first | (go_simp; done) | (go_simp; rfl)); (case hp => exact (Reps.one (show Kd.M Kd.string _ _ _ (strOfNums a9) [.string (strOfNums a9)] from rfl) (Reps.one (show Kd.M Kd.string _ _ _ (strOfNums a8) [.string (strOfNums a8)] from rfl) (Reps.none _ _))))
 intro v347 bg ho23 hb hg_ hnew_
 clear hg_ hnew_
 (first | rw [← Ny346.out] at ho23 | (simp only [Int.reduceToNat] at ho23; rw [← Ny346.out] at ho23))
 have n0_ := Aside0.mk (Kd.R_below (raR_ a7) hb)
 have n1_ := Aside0.mk (Kd.R_lower ho23 (below_size th_))
 have hcv19b := Kd.C_string (P := Tryz.prog) (A := Ao17) (c := aa) Tryz.underlying83 Tryz.underlying5 Tryz.underlying9 (Kd.C_below ac.out hb)
 have hcv20b := Kd.C_string (P := Tryz.prog) (A := ao) (c := ap) Tryz.underlying83 Tryz.underlying5 Tryz.underlying9 (Kd.C_below ae.out hb)
 have n2_ := Aside0.mk (below_step th_ hb)
 clear a7 HB
 have a7 := n0_
 have HO348 := n1_
 have HB := n2_
 clear n0_ n1_ n2_ hb ho23
 refine hK.out _ _ ⟨hcv19b, hcv20b⟩ (fun hHeld => ?_)
 clear hK K
 refine nm_ (some 32) ?_
 refine tr_ 7 2 bq_4 HT_ HW_ hHeld ?_
 refine done_ (done_of HT_.out (by kernel_rfl)) ?_
 try go_wp2
 go_ret
 exact ⟨_, tq_1, (raR_ HO348), th_⟩

/-! ### spec_InodeWords: function 45 -/
mutual
def spec_InodeWords.l0 : Nat → List ByteArray → Int → Int → Int → Int → ByteArray → List (S89) → List (S72) → Option (List ByteArray)
 | 0, _, _, _, _, _, _, _, _ => none
 | k + 1, x3, x4, a6, a7, a8, a9, a5, aa => if x4 < (a5.length : Int) then (if 0 ≤ x4 then ((spec_RecWord.f k ((rd_T89 a5 x4).f0) ((rd_T89 a5 x4).f1) ((rd_T89 a5 x4).f2)).bind fun ab => (if x3.length < 8796093022208 then (spec_InodeWords.l0 k (x3 ++ [ab]) (wrap64 (x4 + 1)) a6 a7 a8 a9 a5 aa) else (none))) else (none)) else (spec_InodeWords.l1 k x3 0 a6 a7 a8 a9 a5 aa)
def spec_InodeWords.l1 : Nat → List ByteArray → Int → Int → Int → Int → ByteArray → List (S89) → List (S72) → Option (List ByteArray)
 | 0, _, _, _, _, _, _, _, _ => none
 | k + 1, x3, x5, a6, a7, a8, a9, aa, a5 => if x5 < (a5.length : Int) then (if 0 ≤ x5 then ((spec_EntryWord.f k ((rd_T72 a5 x5).f0) ((rd_T72 a5 x5).f1)).bind fun ab => (if x3.length < 8796093022208 then (spec_InodeWords.l1 k (x3 ++ [ab]) (wrap64 (x5 + 1)) a6 a7 a8 a9 aa a5) else (none))) else (none)) else (spec_InodeWords.l2 k x3)
def spec_InodeWords.l2 : Nat → List ByteArray → Option (List ByteArray)
 | 0, _ => none
 | k + 1, x3 => if (x3.length : Int) < 8 then ((spec_ZeroText.f k 8).bind fun a5 => (if x3.length < 8796093022208 then (spec_InodeWords.l2 k (x3 ++ [a5])) else (none))) else (some x3)
end
def spec_InodeWords.f (k : Nat) (a5 : Int) (a6 : Int) (a7 : Int) (a8 : ByteArray) (ab : List (S89)) (ac : List (S72)) : Option (List ByteArray) := (spec_InodeOk.f k a5 a6 a7 a8 ab ac).bind fun af => (if af = true then ((spec_NumText.f k a5 1).bind fun a9 => ((spec_NumText.f k a6 2).bind fun aa => (if a9.size + aa.size ≤ 9223372036854775807 then ((spec_NumText.f k a7 2).bind fun ae => (if (a9 ++ aa).size + ae.size ≤ 9223372036854775807 then ((spec_WordText.f k ((a9 ++ aa) ++ ae)).bind fun ag => ((spec_WordText.f k a8).bind fun ah => (spec_InodeWords.l0 k (([ag, ah] : List ByteArray)) 0 a5 a6 a7 a8 ab ac))) else (none))) else (none)))) else (some (([] : List ByteArray))))
def spec_InodeWords.T3 : Bool × List (List Nat × List Nat) := (true, [([], []), ([0], [0]), ([1], [1]), ([], []), ([3], [3]), ([4, 2], [4]), ([2, 5], [2, 5]), ([], []), ([7], [7]), ([8, 5], [8]), ([6, 9], [6, 9]), ([10, 9], [10]), ([], []), ([12], [12]), ([13, 11], [13]), ([11, 14], [11, 14]), ([15, 14, 0, 1, 2, 3, 4, 5, 6, 7, 8, 9, 10, 11, 12, 13, 14, 15], [15])])
def spec_InodeWords.B3 : List Nat := [0, 1, 3, 0, 8, 31, 63, 0, 128, 447, 1023, 2047, 0, 4096, 16383, 32767, 65535]
theorem spec_InodeWords.tab3 : rtab .any (opsOf Tryz.f45 3) = spec_InodeWords.T3 := by kernel_rfl
theorem spec_InodeWords.bits3 : waitsOk spec_InodeWords.T3.2 spec_InodeWords.B3 = true := by kernel_rfl
set_option maxHeartbeats 8000000 in
set_option maxRecDepth 100000 in
theorem spec_InodeWords.calls (k : Nat) (a8 : Int) (a9 : Int) (aa : Int) (ab : ByteArray) (am : Option Addr) (aj : Nat) (l0_4 : List (S89)) (an : Option Addr) (ak : Nat) (a6 : List (S72)) (r : List ByteArray) (w : World) (bd : Kd.C k89 w am l0_4.length l0_4) (be : l0_4.length ≤ aj) (bf : Kd.C k72 w an a6.length a6) (bg : a6.length ≤ ak) (h : spec_InodeWords.f k a8 a9 aa ab l0_4 a6 = some r) :
  Calls Tryz.prog 45 #[.agg #[.int .i64 a8, .int .i64 a9, .int .i64 aa, .string ab, .slice am l0_4.length aj, .slice an a6.length ak]] w fun e w' => ∃ v0_ : Value, e = .returned (v0_) ∧ Kd.R Kd.string 9 w' w.heap.size (fun _ => True) v0_ r ∧ Below w.heap.size w w' := by
 have hu69 := Tryz.underlying69
 have hu89 := Tryz.underlying89
 have hu72 := Tryz.underlying72
 have HR0_4 := Aside0.mk bd
 have bq := Aside0.mk be
 clear bd be
 have HR0_5 := Aside0.mk bf
 have br := Aside0.mk bg
 clear bf bg
 have HB := Aside0.mk (Below.refl w.heap.size w)
 unfold spec_InodeWords.f at h
 have H := h
 clear h
 obtain ⟨bs, A2, H⟩ := bd_ H
 have cq := Aside0.mk H
 clear H
 go_enter Tryz.func45, Tryz.ntmps45
 go_upto_if 8 with (first | ((with_reducible refine gate_dst (N := 1) rfl ?_); refine be_ 1 (cs := #[.int .i64 a8, .int .i64 a9, .int .i64 aa, .string ab, .slice am l0_4.length aj, .slice an a6.length ak]) 69 ?_; intro ac hg w4 hbox hb; have z_ := bx0_ th_ hb hbox hg; clear HB; obtain ⟨HB, a5, cr, ct⟩ := z_; clear hb hbox hg; have bm := bb6_ a5.out) | ((with_reducible refine gate_callee (f := 39) rfl ?_); refine goesL_ (some 7) rfl rfl Tryz.func39 (by kernel_rfl) rfl #[.agg #[.int .i64 a8, .int .i64 a9, .int .i64 aa, .string ab, .slice am l0_4.length aj, .slice an a6.length ak]] rfl tq_0 ?_; (with_reducible refine (spec_InodeOk.calls k a8 a9 aa ab _ _ l0_4 _ _ a6 bs _ ?side1 ?side2 ?side3 ?side4 A2.out).mono ?_); (case side1 => exact tq_41); (case side2 => exact bq.out); (case side3 => exact tq_40); (case side4 => exact br.out); rintro e w6 ⟨rfl, hb⟩; refine ⟨_, rfl, ?_⟩; have z_ := bw1_ (kb_ a5) th_ hb; clear a5 HB; obtain ⟨a5, HB⟩ := z_; (try clear hb)))
 (try simp only [Act.put, List.setIfInBounds_toArray, List.set_cons_zero, List.set_cons_succ])
 (try clear bm)
 have H := cq.out
 clear cq
 by_cases c7 : bs = true
 rotate_left
 ·replace c7 := Bool.eq_false_iff.mpr c7
  subst c7
  rw [if_neg nf_] at H
  obtain ⟨cj, hy351⟩ : ∃ y_ : List ByteArray, y_ = (([] : List ByteArray)) := ⟨_, rfl⟩
  replace H : (some cj) = some r := by first | (rw [hy351]; with_reducible exact H) | (have H2_ := (Option.bind_some _ _).symm.trans H; rw [hy351]; with_reducible exact H2_) | (have H2_ := (Option.bind_some _ _).symm.trans H; with_reducible exact H2_) | with_reducible exact H | (rw [hy351]; exact H) | exact H
  have Ny351 := Aside0.mk hy351
  clear hy351
  obtain rfl := Option.some.inj H
  go_wp2_with (first | ((with_reducible refine gate_dst (N := 9) rfl ?_); refine Kd.R_lit Kd.string _ 9 ?hg (N := 9) ?hd (xs := ([] : List ByteArray)) (inner := []) (ok := fun _ => True) (okp := fun _ => True) ?hr ?hp (fun _ hk => hk) trivial (Below.refl _ _) (Nat.le_refl _) (by simp) ?_; (case hd => rfl); (case hg => rfl); (case hr => first | (go_simp; done) | (go_simp; rfl)); (case hp => exact (Reps.none _ _)); intro v352 d1 ho49 hb hg_ hnew_; clear hg_ hnew_; (first | rw [← Ny351.out] at ho49 | (simp only [Int.reduceToNat] at ho49; rw [← Ny351.out] at ho49)); have z_ := p_ (Kd.R_lower ho49 (below_size th_)) <| bw1_ (kb_ a5) th_ hb; clear a5 HB; obtain ⟨HO353, a5, HB⟩ := z_; clear hb ho49))
  go_ret
  exact ⟨_, tq_1, (raR_ HO353), th_⟩
 subst c7
 rw [if_pos rfl] at H
 obtain ⟨aw, A8, H⟩ := bd_ H
 obtain ⟨ax, A9, H⟩ := bd_ H
 obtain ⟨bn, H⟩ := fc_ H
 have b2 := eq_true bn
 have b3 := decide_eq_true bn
 try have b4 : (9223372036854775807 < aw.size + ax.size) = False := eq_false (Nat.not_lt.2 bn)
 obtain ⟨b5, cv, H⟩ := bd_ H
 obtain ⟨bo, H⟩ := fc_ H
 have b6 := eq_true bo
 have b7 := decide_eq_true bo
 try have av : (9223372036854775807 < (aw ++ ax).size + b5.size) = False := eq_false (Nat.not_lt.2 bo)
 try have c12b2s : (9223372036854775807 < aw.size + ax.size + b5.size) = False := by rw [← ByteArray.size_append]; exact av
 obtain ⟨ay, cw, H⟩ := bd_ H
 obtain ⟨az, cx, H⟩ := bd_ H
 obtain ⟨bu, hy359⟩ : ∃ y_ : List ByteArray, y_ = (([ay, az] : List ByteArray)) := ⟨_, rfl⟩
 replace H : (spec_InodeWords.l0 k bu 0 a8 a9 aa ab l0_4 a6) = some r := by first | (rw [hy359]; with_reducible exact H) | (have H2_ := (Option.bind_some _ _).symm.trans H; rw [hy359]; with_reducible exact H2_) | (have H2_ := (Option.bind_some _ _).symm.trans H; with_reducible exact H2_) | with_reducible exact H | (rw [hy359]; exact H) | exact H
 have Ny359 := Aside0.mk hy359
 clear hy359
 have H' := Aside0.mk H
 clear H
 try go_wp2
 have z_ := dw1_ a5 HB
 clear a5 HB
 obtain ⟨a5, HB⟩ := z_
 refine start_ (n := 17) (S := fun w' => w'.cell? ⟨ac, 0, none⟩ = some (.int .i64 a8) ∧ w'.cell? ⟨ac, 1, none⟩ = some (.int .i64 a9) ∧ w'.cell? ⟨ac, 2, none⟩ = some (.int .i64 aa) ∧ w'.cell? ⟨ac, 3, none⟩ = some (.string ab) ∧ w'.cell? ⟨ac, 4, none⟩ = some (.slice am l0_4.length aj) ∧ w'.cell? ⟨ac, 5, none⟩ = some (.slice an a6.length ak)) (ds := []) bq_112 (by kernel_rfl) rfl rfl (bk6_ a5.out) (fun hHeld => ?_); refine with_tabW spec_InodeWords.tab3 spec_InodeWords.bits3 (fun HT_ HW_ => ?_)
 generalize w6.drew = d2 at a5 HB hHeld ⊢
 refine yr_ 0 10 bq_113 HT_ ?_
 refine yr_ 3 13 bq_114 HT_ ?_
 refine yr_ 7 17 bq_115 HT_ ?_
 refine yr_ 12 22 bq_116 HT_ ?_
 refine tr_ 1 11 bq_117 HT_ HW_ hHeld ?_
 refine tr_ 4 14 bq_118 HT_ HW_ hHeld ?_
 refine tr_ 8 18 bq_119 HT_ HW_ hHeld ?_
 refine tr_ 13 23 bq_120 HT_ HW_ hHeld ?_
 refine one_ (i := 2) (N := some 12) bq_121 rfl rfl (one_of HT_.out (by kernel_rfl)) (by decide) (fun K hK => ?_)
 refine goes_ Tryz.func69 (by kernel_rfl) rfl #[.int .i64 a8, .int .i64 1] (by rfl) rfl rfl tq_0 ?_
 with_reducible refine (spec_NumText.calls k a8 1 aw _ A8.out).mono ?_
 rintro e d3 ⟨rfl, hb⟩
 refine ⟨_, rfl, ?_⟩
 have z_ := bw1_ (kb_ a5) th_ hb
 clear a5 HB
 obtain ⟨a5, HB⟩ := z_
 (try clear hb)
 refine hK.out _ _ (bk6_ a5.out) (fun hHeld => ?_)
 clear hK K
 refine nm_ (some 12) ?_
 refine one_ (i := 5) (N := some 15) bq_122 rfl rfl (one_of HT_.out (by kernel_rfl)) (by decide) (fun K hK => ?_)
 refine goes_ Tryz.func69 (by kernel_rfl) rfl #[.int .i64 a9, .int .i64 2] (by rfl) rfl rfl tq_0 ?_
 with_reducible refine (spec_NumText.calls k a9 2 ax _ A9.out).mono ?_
 rintro e d4 ⟨rfl, hb⟩
 refine ⟨_, rfl, ?_⟩
 have z_ := bw1_ (kb_ a5) th_ hb
 clear a5 HB
 obtain ⟨a5, HB⟩ := z_
 (try clear hb)
 refine hK.out _ _ (bk6_ a5.out) (fun hHeld => ?_)
 clear hK K
 refine nm_ (some 15) ?_
 refine yr_ 6 16 bq_123 HT_ ?_
 refine one_ (i := 9) (N := some 19) bq_124 rfl rfl (one_of HT_.out (by kernel_rfl)) (by decide) (fun K hK => ?_)
 refine goes_ Tryz.func69 (by kernel_rfl) rfl #[.int .i64 aa, .int .i64 2] (by rfl) rfl rfl tq_0 ?_
 with_reducible refine (spec_NumText.calls k aa 2 b5 _ cv.out).mono ?_
 rintro e d5 ⟨rfl, hb⟩
 refine ⟨_, rfl, ?_⟩
 have z_ := bw1_ (kb_ a5) th_ hb
 clear a5 HB
 obtain ⟨a5, HB⟩ := z_
 (try clear hb)
 refine hK.out _ _ (bk6_ a5.out) (fun hHeld => ?_)
 clear hK K
 refine nm_ (some 19) ?_
 refine yr_ 10 20 bq_125 HT_ ?_
 refine one_ (i := 11) (N := some 21) bq_126 rfl rfl (one_of HT_.out (by kernel_rfl)) (by decide) (fun K hK => ?_)
 refine goes_ Tryz.func68 (by kernel_rfl) rfl #[.string ((aw ++ ax) ++ b5)] (by rfl) rfl rfl tq_0 ?_
 with_reducible refine (spec_WordText.calls k ((aw ++ ax) ++ b5) ay _ cw.out).mono ?_
 rintro e d6 ⟨rfl, hb⟩
 refine ⟨_, rfl, ?_⟩
 have z_ := bw1_ (kb_ a5) th_ hb
 clear a5 HB
 obtain ⟨a5, HB⟩ := z_
 (try clear hb)
 refine hK.out _ _ (bk6_ a5.out) (fun hHeld => ?_)
 clear hK K
 refine nm_ (some 21) ?_
 refine one_ (i := 14) (N := some 24) bq_127 rfl rfl (one_of HT_.out (by kernel_rfl)) (by decide) (fun K hK => ?_)
 refine goes_ Tryz.func68 (by kernel_rfl) rfl #[.string ab] (by rfl) rfl rfl tq_0 ?_
 with_reducible refine (spec_WordText.calls k ab az _ cx.out).mono ?_
 rintro e d7 ⟨rfl, hb⟩
 refine ⟨_, rfl, ?_⟩
 have z_ := bw1_ (kb_ a5) th_ hb
 clear a5 HB
 obtain ⟨a5, HB⟩ := z_
 (try clear hb)
 refine hK.out _ _ (bk6_ a5.out) (fun hHeld => ?_)
 clear hK K
 refine nm_ (some 24) ?_
 refine one_ (i := 15) (N := some 25) bq_128 rfl rfl (one_of HT_.out (by kernel_rfl)) (by decide) (fun K hK => ?_)
 refine Kd.R_lit_step Kd.string _ 9 ?hg (N := 25) ?hd (xs := ([ay, az] : List ByteArray)) (inner := [.string ay, .string az]) (ok := fun _ => True) (okp := fun _ => True) ?hr ?hp (fun _ hk => hk) trivial (Below.refl _ _) (Nat.le_refl _) (by simp) ?_; (case hd => rfl); (case hg => rfl); (case hr => first | (go_simp; done) | (go_simp; rfl)); (case hp => exact (Reps.one (show Kd.M Kd.string _ _ _ ay [.string ay] from rfl) (Reps.one (show Kd.M Kd.string _ _ _ az [.string az] from rfl) (Reps.none _ _))))
 intro v360 d8 ho22 hb hg_ hnew_
 clear hg_ hnew_
 (first | rw [← Ny359.out] at ho22 | (simp only [Int.reduceToNat] at ho22; rw [← Ny359.out] at ho22))
 have z_ := p_ (Kd.R_lower ho22 (below_size th_)) <| bw1_ (kb_ a5) th_ hb
 clear a5 HB
 obtain ⟨HO361, a5, HB⟩ := z_
 clear hb ho22
 refine hK.out _ _ (bk6_ a5.out) (fun hHeld => ?_)
 clear hK K
 refine nm_ (some 25) ?_
 refine yr_ 16 3 bq_129 HT_ ?_
 refine done_ (done_of HT_.out (by kernel_rfl)) ?_
 try go_wp2
 go_loopg [3, 4] k (fun kq v3 v4 w' => ∃ (b0 : List ByteArray) (ae : Int), v4 = .int .i64 ae ∧ Aside0 (spec_InodeWords.l0 kq b0 ae a8 a9 aa ab l0_4 a6 = some r) ∧ Aside0 (kq ≤ k) ∧ Aside0 (Kd.R Kd.string 9 w' w.heap.size (fun _ => True) v3 b0) ∧ Aside0 (w'.heap[ac]? = some (.cells #[.int .i64 a8, .int .i64 a9, .int .i64 aa, .string ab, (.slice am l0_4.length aj), (.slice an a6.length ak)] 69 (0, 0))) ∧ Aside0 (Below w.heap.size w w'))
 case atStart => exact ⟨(bu), (0), tq_3, H', ⟨Nat.le_refl _⟩, ⟨(raR_ HO361)⟩, ⟨(kb_ a5)⟩, ⟨th_⟩⟩
 case round =>
 clear H'
 try clear c1; try clear p2; try clear c3; try clear c4; try clear c6; try clear c7; try clear bn; try clear b2; try clear b3; try clear b4; try clear bo; try clear b6; try clear b7; try clear av; try clear bm
 obtain ⟨b0, ae, rfl, HA, HK1, a7, a5, HB⟩ := hrel
 cases gk with
 | zero => exact absurd HA.out (by simp [spec_InodeWords.l0])
 | succ k1 =>
 have H := HA.out
 clear HA
 simp only [spec_InodeWords.l0] at H
 have bv := Aside0.mk H
 clear H
 have b8 := bb6_ a5.out
 go_upto_if 30 with (fail)
 (try clear b8)
 have H := bv.out
 clear bv
 by_cases bh : ae < (l0_4.length : Int)
 ·rw [if_pos bh] at H
  have al := decide_eq_true bh
  clear bh
  (first | rw [al] | (simp only [i64_w, i32_w]; rw [al]) | skip)
  obtain ⟨ch, H⟩ := fc_ H
  have bi := decide_eq_true ch
  clear ch
  obtain ⟨b9, cy, H⟩ := bd_ H
  obtain ⟨ci, H⟩ := fc_ H
  have LMc28 := Aside0.mk ci
  clear ci
  obtain ⟨bw, hy364⟩ : ∃ y_ : List ByteArray, y_ = (b0 ++ [b9]) := ⟨_, rfl⟩
  replace H : (spec_InodeWords.l0 k1 bw (wrap64 (ae + 1)) a8 a9 aa ab l0_4 a6) = some r := by first | (rw [hy364]; with_reducible exact H) | (have H2_ := (Option.bind_some _ _).symm.trans H; rw [hy364]; with_reducible exact H2_) | (have H2_ := (Option.bind_some _ _).symm.trans H; with_reducible exact H2_) | with_reducible exact H | (rw [hy364]; exact H) | exact H
  have Ny364 := Aside0.mk hy364
  clear hy364
  have H' := Aside0.mk H
  clear H
  have ba := bb6_ a5.out
  have p362 : 0 ≤ (ae : Int) := of_decide_eq_true tq_2
  have q362 : ae < (l0_4.length : Int) := of_decide_eq_true tq_2
  obtain ⟨bx, ck, ag, ah, ai⟩ := at_T89 HR0_4.out ae p362 q362
  cases ck
  replace ag := hx_ HB.out ag
  replace ah := hx_ HB.out ah
  replace ai := hx_ HB.out ai
  replace p362 := eq_true p362
  replace q362 := eq_true q362
  go_wp2_with (first | ((with_reducible refine gate_callee (f := 64) rfl ?_); refine goesL_ (some 39) rfl rfl Tryz.func64 (by kernel_rfl) rfl #[.agg #[.int .i64 ((rd_T89 l0_4 ae).f0), .int .i64 ((rd_T89 l0_4 ae).f1), .string ((rd_T89 l0_4 ae).f2)]] rfl tq_0 ?_; (with_reducible refine (spec_RecWord.calls k1 ((rd_T89 l0_4 ae).f0) ((rd_T89 l0_4 ae).f1) ((rd_T89 l0_4 ae).f2) b9 _ cy.out).mono ?_); rintro e d9 ⟨rfl, hb⟩; refine ⟨_, rfl, ?_⟩; have z_ := p_ (Kd.R_below (raR_ a7) hb) <| bw1_ (kb_ a5) th_ hb; clear a7 a5 HB; obtain ⟨a7, a5, HB⟩ := z_; (try clear hb)) | ((with_reducible refine gate_builtin (b := .append) (xs := #[.tmp 33, .tmp 40]) rfl ?_); at_builtin; refine Kd.R_append Kd.string (w0 := w) w.heap.size rfl (.tmp 33) (.tmp 40) 75 9 (.string ⟨#[]⟩) 16 rfl Tryz.underlying75 info9 rfl (by decide) (by omega) u3 b0 b9 [.string b9] (fun _ => True) (fun _ => False) rfl rfl ?aP (fun _ hk => hk.elim) ?aF ?aO ?aB ?aS ?aL ?_; (case aP => exact rfl); (case aB => exact th_); (case aF => exact (fun _ _ => trivial)); (case aO => exact (raR_ a7)); (case aS => exact (below_size th_)); (case aL => have := LMc28.out; omega); intro v365 da ho hb hg hat; rw [← Ny364.out] at ho; have z_ := p_ (blk_grown (g := ac) (o := .cells #[.int .i64 a8, .int .i64 a9, .int .i64 aa, .string ab, .slice (some bx) l0_4.length aj, .slice an a6.length ak] 69 (0, 0)) (kb_ a5) hg (Kd.R_ne a7.out a5.out (by decide))) <| p_ (hb) <| a_ (ho); clear a5 HB a7; obtain ⟨a5, HB, HO366⟩ := z_; clear ho hb hg hat))
  go_roundg k1
  case measure => have := HK1.out; omega
  case rel => exact ⟨(bw), (wrap64 (ae + 1)), tq_3, H', ⟨tq_22⟩, ⟨(raR_ HO366)⟩, ⟨(kb_ a5)⟩, ⟨th_⟩⟩
 rw [if_neg bh] at H
 have al := decide_eq_false bh
 clear bh
 (first | rw [al] | (simp only [i64_w, i32_w]; rw [al]) | skip)
 have H' := Aside0.mk H
 clear H
 go_wp2
 go_loopg [3, 5] k1 (fun kq v3 v5 w' => ∃ (b1 : List ByteArray) (af : Int), v5 = .int .i64 af ∧ Aside0 (spec_InodeWords.l1 kq b1 af a8 a9 aa ab l0_4 a6 = some r) ∧ Aside0 (kq ≤ k1) ∧ Aside0 (Kd.R Kd.string 9 w' w.heap.size (fun _ => True) v3 b1) ∧ Aside0 (w'.heap[ac]? = some (.cells #[.int .i64 a8, .int .i64 a9, .int .i64 aa, .string ab, (.slice am l0_4.length aj), (.slice an a6.length ak)] 69 (0, 0))) ∧ Aside0 (Below w.heap.size w w'))
 case atStart => exact ⟨(b0), (0), tq_3, H', ⟨Nat.le_refl _⟩, ⟨(raR_ a7)⟩, ⟨(kb_ a5)⟩, ⟨th_⟩⟩
 case round =>
 clear H'
 try clear c1; try clear c2; try clear p2; try clear c3; try clear p3; try clear q3; try clear hx3; try clear c4; try clear c6; try clear p6; try clear c7; try clear bn; try clear b2; try clear b3; try clear b4; try clear bo; try clear b6; try clear b7; try clear av; try clear bh; try clear al; try clear ch; try clear bi; try clear ci; try clear b8; try clear ba; try clear bm; try clear b8; try clear ba; try clear bm; try clear ag; try clear ah; try clear ai; try clear p2; try clear p362; try clear q362
 obtain ⟨b1, af, rfl, HA, HK2, a7, a5, HB⟩ := hrel
 cases gk with
 | zero => exact absurd HA.out (by simp [spec_InodeWords.l1])
 | succ k2 =>
 have H := HA.out
 clear HA
 simp only [spec_InodeWords.l1] at H
 have bz := Aside0.mk H
 clear H
 have bj := bb6_ a5.out
 go_upto_if 46 with (fail)
 (try clear bj)
 have H := bz.out
 clear bz
 by_cases bl : af < (a6.length : Int)
 ·rw [if_pos bl] at H
  have ao := decide_eq_true bl
  clear bl
  (first | rw [ao] | (simp only [i64_w, i32_w]; rw [ao]) | skip)
  obtain ⟨cl, H⟩ := fc_ H
  have ca := decide_eq_true cl
  clear cl
  obtain ⟨bb, cz, H⟩ := bd_ H
  obtain ⟨cm, H⟩ := fc_ H
  have LMc37 := Aside0.mk cm
  clear cm
  obtain ⟨cb, hy369⟩ : ∃ y_ : List ByteArray, y_ = (b1 ++ [bb]) := ⟨_, rfl⟩
  replace H : (spec_InodeWords.l1 k2 cb (wrap64 (af + 1)) a8 a9 aa ab l0_4 a6) = some r := by first | (rw [hy369]; with_reducible exact H) | (have H2_ := (Option.bind_some _ _).symm.trans H; rw [hy369]; with_reducible exact H2_) | (have H2_ := (Option.bind_some _ _).symm.trans H; with_reducible exact H2_) | with_reducible exact H | (rw [hy369]; exact H) | exact H
  have Ny369 := Aside0.mk hy369
  clear hy369
  have H' := Aside0.mk H
  clear H
  have cc := bb6_ a5.out
  have p367 : 0 ≤ (af : Int) := of_decide_eq_true tq_2
  have q367 : af < (a6.length : Int) := of_decide_eq_true tq_2
  obtain ⟨cd, cn, ap, aq⟩ := at_T72 HR0_5.out af p367 q367
  cases cn
  replace ap := hx_ HB.out ap
  replace aq := hx_ HB.out aq
  replace p367 := eq_true p367
  replace q367 := eq_true q367
  go_wp2_with (first | ((with_reducible refine gate_callee (f := 65) rfl ?_); refine goesL_ (some 55) rfl rfl Tryz.func65 (by kernel_rfl) rfl #[.agg #[.int .i64 ((rd_T72 a6 af).f0), .string ((rd_T72 a6 af).f1)]] rfl tq_0 ?_; (with_reducible refine (spec_EntryWord.calls k2 ((rd_T72 a6 af).f0) ((rd_T72 a6 af).f1) bb _ cz.out).mono ?_); rintro e db ⟨rfl, hb⟩; refine ⟨_, rfl, ?_⟩; have z_ := p_ (Kd.R_below (raR_ a7) hb) <| bw1_ (kb_ a5) th_ hb; clear a7 a5 HB; obtain ⟨a7, a5, HB⟩ := z_; (try clear hb)) | ((with_reducible refine gate_builtin (b := .append) (xs := #[.tmp 49, .tmp 56]) rfl ?_); at_builtin; refine Kd.R_append Kd.string (w0 := w) w.heap.size rfl (.tmp 49) (.tmp 56) 75 9 (.string ⟨#[]⟩) 16 rfl Tryz.underlying75 info9 rfl (by decide) (by omega) u3 b1 bb [.string bb] (fun _ => True) (fun _ => False) rfl rfl ?aP (fun _ hk => hk.elim) ?aF ?aO ?aB ?aS ?aL ?_; (case aP => exact rfl); (case aB => exact th_); (case aF => exact (fun _ _ => trivial)); (case aO => exact (raR_ a7)); (case aS => exact (below_size th_)); (case aL => have := LMc37.out; omega); intro v370 dc ho hb hg hat; rw [← Ny369.out] at ho; have z_ := p_ (blk_grown (g := ac) (o := .cells #[.int .i64 a8, .int .i64 a9, .int .i64 aa, .string ab, .slice am l0_4.length aj, .slice (some cd) a6.length ak] 69 (0, 0)) (kb_ a5) hg (Kd.R_ne a7.out a5.out (by decide))) <| p_ (hb) <| a_ (ho); clear a5 HB a7; obtain ⟨a5, HB, HO371⟩ := z_; clear ho hb hg hat))
  go_roundg k2
  case measure => have := HK1.out; have := HK2.out; omega
  case rel => exact ⟨(cb), (wrap64 (af + 1)), tq_3, H', ⟨tq_34⟩, ⟨(raR_ HO371)⟩, ⟨(kb_ a5)⟩, ⟨th_⟩⟩
 rw [if_neg bl] at H
 have ao := decide_eq_false bl
 clear bl
 (first | rw [ao] | (simp only [i64_w, i32_w]; rw [ao]) | skip)
 have H' := Aside0.mk H
 clear H
 go_wp2
 go_loopg [3] k2 (fun kq v3 w' => ∃ (ar : List ByteArray), Aside0 (spec_InodeWords.l2 kq ar = some r) ∧ Aside0 (kq ≤ k2) ∧ Aside0 (Kd.R Kd.string 9 w' w.heap.size (fun _ => True) v3 ar) ∧ Aside0 (w'.heap[ac]? = some (.cells #[.int .i64 a8, .int .i64 a9, .int .i64 aa, .string ab, (.slice am l0_4.length aj), (.slice an a6.length ak)] 69 (0, 0))) ∧ Aside0 (Below w.heap.size w w'))
 case atStart => exact ⟨(b1), H', ⟨Nat.le_refl _⟩, ⟨(raR_ a7)⟩, ⟨(kb_ a5)⟩, ⟨th_⟩⟩
 case round =>
 clear H'
 try clear c1; try clear c2; try clear p2; try clear c3; try clear p3; try clear q3; try clear hx3; try clear c4; try clear c6; try clear p6; try clear c7; try clear bn; try clear b2; try clear b3; try clear b4; try clear bo; try clear b6; try clear b7; try clear av; try clear bh; try clear al; try clear ch; try clear bi; try clear ci; try clear bl; try clear ao; try clear cl; try clear ca; try clear p36; try clear q36; try clear hx36; try clear cm; try clear dd; try clear b8; try clear ba; try clear bj; try clear cc; try clear bm; try clear b8; try clear ba; try clear bj; try clear cc; try clear bm; try clear ag; try clear ah; try clear ai; try clear ap; try clear aq; try clear p2; try clear p3; try clear p362; try clear p367; try clear p6; try clear q3; try clear q362; try clear q367
 obtain ⟨ar, HA, HK3, a7, a5, HB⟩ := hrel
 cases gk with
 | zero => exact absurd HA.out (by simp [spec_InodeWords.l2])
 | succ k3 =>
 have H := HA.out
 clear HA
 simp only [spec_InodeWords.l2] at H
 have ce := Aside0.mk H
 clear H
 obtain ⟨Ao42, co, cp⟩ := Kd.R_slice a7.out
 subst cp
 go_upto_if 60 with (fail)
 have H := ce.out
 clear ce
 by_cases bp : (ar.length : Int) < 8
 rotate_left
 ·rw [if_neg bp] at H
  have au := decide_eq_false bp
  have cf : decide (ar.length < 8) = false := decide_eq_false (by omega)
  clear bp
  (first | rw [au] | (simp only [i64_w, i32_w]; rw [au]) | skip)
  obtain rfl := Option.some.inj H
  go_wp2
  go_ret
  exact ⟨_, tq_1, (raR_ a7), th_⟩
 rw [if_pos bp] at H
 have au := decide_eq_true bp
 have cf : decide (ar.length < 8) = true := decide_eq_true (by omega)
 clear bp
 (first | rw [au] | (simp only [i64_w, i32_w]; rw [au]) | skip)
 obtain ⟨bc, d0, H⟩ := bd_ H
 obtain ⟨cu, H⟩ := fc_ H
 have LMc45 := Aside0.mk cu
 clear cu
 obtain ⟨cg, hy373⟩ : ∃ y_ : List ByteArray, y_ = (ar ++ [bc]) := ⟨_, rfl⟩
 replace H : (spec_InodeWords.l2 k3 cg) = some r := by first | (rw [hy373]; with_reducible exact H) | (have H2_ := (Option.bind_some _ _).symm.trans H; rw [hy373]; with_reducible exact H2_) | (have H2_ := (Option.bind_some _ _).symm.trans H; with_reducible exact H2_) | with_reducible exact H | (rw [hy373]; exact H) | exact H
 have Ny373 := Aside0.mk hy373
 clear hy373
 have H' := Aside0.mk H
 clear H
 go_wp2_with (first | ((with_reducible refine gate_callee (f := 70) rfl ?_); refine goesL_ (some 62) rfl rfl Tryz.func70 (by kernel_rfl) rfl #[.int .i64 8] rfl tq_0 ?_; (with_reducible refine (spec_ZeroText.calls k3 8 bc _ d0.out).mono ?_); rintro e de ⟨rfl, hb⟩; refine ⟨_, rfl, ?_⟩; have z_ := p_ (Kd.R_below (raR_ a7) hb) <| bw1_ (kb_ a5) th_ hb; clear a7 a5 HB; obtain ⟨a7, a5, HB⟩ := z_; (try clear hb)) | ((with_reducible refine gate_builtin (b := .append) (xs := #[.tmp 61, .tmp 63]) rfl ?_); at_builtin; refine Kd.R_append Kd.string (w0 := w) w.heap.size rfl (.tmp 61) (.tmp 63) 75 9 (.string ⟨#[]⟩) 16 rfl Tryz.underlying75 info9 rfl (by decide) (by omega) (.slice Ao42 ar.length co) ar bc [.string bc] (fun _ => True) (fun _ => False) rfl rfl ?aP (fun _ hk => hk.elim) ?aF ?aO ?aB ?aS ?aL ?_; (case aP => exact rfl); (case aB => exact th_); (case aF => exact (fun _ _ => trivial)); (case aO => exact (raR_ a7)); (case aS => exact (below_size th_)); (case aL => have := LMc45.out; omega); intro v374 df ho hb hg hat; rw [← Ny373.out] at ho; have z_ := p_ (blk_grown (g := ac) (o := .cells #[.int .i64 a8, .int .i64 a9, .int .i64 aa, .string ab, .slice am l0_4.length aj, .slice an a6.length ak] 69 (0, 0)) (kb_ a5) hg (Kd.R_ne a7.out a5.out (by decide))) <| p_ (hb) <| a_ (ho); clear a5 HB a7; obtain ⟨a5, HB, HO375⟩ := z_; clear ho hb hg hat))
 go_roundg k3
 case measure => have := HK1.out; have := HK2.out; have := HK3.out; omega
 case rel => exact ⟨(cg), H', ⟨tq_44⟩, ⟨(raR_ HO375)⟩, ⟨(kb_ a5)⟩, ⟨th_⟩⟩

/-! ### spec_InodeAt: function 46 -/
def spec_InodeAt.f (a6 : Int) (a7 : Int) (a5 : Int) (a8 : Int) (a1 : Int) (a2 : Int) : Option (Int) := (spec_GeoOk.f a6 a7 a5 a8).bind fun a9 => (if a9 = true then ((spec_l01In.f a2 0 (wrap64 (a5 - 1))).bind fun aa => (if aa = true then ((spec_l11At.f a6 a7 a5 a8 a1 (wrap64 (38 + (wrap64 (8 * a2))))).bind fun ab => (some ab)) else (some (-1)))) else (some (-1)))
set_option maxHeartbeats 8000000 in
set_option maxRecDepth 100000 in
theorem spec_InodeAt.calls (a7 : Int) (a8 : Int) (a6 : Int) (a9 : Int) (a1 : Int) (a2 : Int) (r : Int) (w : World) (h : spec_InodeAt.f a7 a8 a6 a9 a1 a2 = some r) :
  Calls Tryz.prog 46 #[.agg #[.int .i64 a7, .int .i64 a8, .int .i64 a6, .int .i64 a9], .int .i64 a1, .int .i64 a2] w fun e w' => e = .returned (.int .i64 r) ∧ Below w.heap.size w w' := by
 have hu31 := Tryz.underlying31
 have HB := Aside0.mk (Below.refl w.heap.size w)
 unfold spec_InodeAt.f at h
 have H := h
 clear h
 obtain ⟨ah, A4, H⟩ := bd_ H
 by_cases c5 : ah = true
 rotate_left
 ·replace c5 := Bool.eq_false_iff.mpr c5
  subst c5
  rw [if_neg nf_] at H
  obtain rfl := Option.some.inj H
  go_enter Tryz.func46, Tryz.ntmps46
  go_wp2_with (first | ((with_reducible refine gate_dst (N := 3) rfl ?_); refine be_ 3 (cs := #[.int .i64 a7, .int .i64 a8, .int .i64 a6, .int .i64 a9]) 31 ?_; intro aa hg ao hbox hb; have z_ := bx0_ th_ hb hbox hg; clear HB; obtain ⟨HB, a5, ab, ac⟩ := z_; clear hb hbox hg; have al := bb4_ a5.out) | ((with_reducible refine gate_callee (f := 35) rfl ?_); refine goesL_ (some 8) rfl rfl Tryz.func35 (by kernel_rfl) rfl #[.agg #[.int .i64 a7, .int .i64 a8, .int .i64 a6, .int .i64 a9]] rfl tq_0 ?_; (with_reducible refine (spec_GeoOk.calls a7 a8 a6 a9 false _ A4.out).mono ?_); rintro e ap ⟨rfl, hb⟩; refine ⟨_, rfl, ?_⟩; have z_ := bw1_ (kb_ a5) th_ hb; clear a5 HB; obtain ⟨a5, HB⟩ := z_; (try clear hb)))
  go_ret
  exact ⟨tq_1, th_⟩
 subst c5
 rw [if_pos rfl] at H
 obtain ⟨ae, A6, H⟩ := bd_ H
 have aj := Aside0.mk H
 clear H
 go_enter Tryz.func46, Tryz.ntmps46
 go_upto_if 17 with (first | ((with_reducible refine gate_dst (N := 3) rfl ?_); refine be_ 3 (cs := #[.int .i64 a7, .int .i64 a8, .int .i64 a6, .int .i64 a9]) 31 ?_; intro aa hg w8 hbox hb; have z_ := bx0_ th_ hb hbox hg; clear HB; obtain ⟨HB, a5, ab, ac⟩ := z_; clear hb hbox hg; have ak := bb4_ a5.out) | ((with_reducible refine gate_callee (f := 35) rfl ?_); refine goesL_ (some 8) rfl rfl Tryz.func35 (by kernel_rfl) rfl #[.agg #[.int .i64 a7, .int .i64 a8, .int .i64 a6, .int .i64 a9]] rfl tq_0 ?_; (with_reducible refine (spec_GeoOk.calls a7 a8 a6 a9 true _ A4.out).mono ?_); rintro e aq ⟨rfl, hb⟩; refine ⟨_, rfl, ?_⟩; have z_ := bw1_ (kb_ a5) th_ hb; clear a5 HB; obtain ⟨a5, HB⟩ := z_; (try clear hb); have af := bb4_ a5.out) | (go_at_call 36; (with_reducible refine (spec_l01In.calls a2 0 (wrap64 (a6 - 1)) ae _ A6.out).mono ?_); rintro e w' ⟨rfl, ⟨nd, rfl⟩⟩))
 (try simp only [Act.put, List.setIfInBounds_toArray, List.set_cons_zero, List.set_cons_succ])
 (try clear af)
 (try clear ak)
 (try clear af)
 (try clear ak)
 have H := aj.out
 clear aj
 by_cases ag : ae = true
 rotate_left
 ·replace ag := Bool.eq_false_iff.mpr ag
  subst ag
  rw [if_neg nf_] at H
  obtain rfl := Option.some.inj H
  go_wp2
  go_ret
  exact ⟨tq_1, th_⟩
 subst ag
 rw [if_pos rfl] at H
 obtain ⟨ai, am, H⟩ := bd_ H
 obtain rfl := Option.some.inj H
 have an := bb4_ a5.out
 go_wp2_with (first | ((with_reducible refine gate_callee (f := 43) rfl ?_); refine goesL_ (some 23) rfl rfl Tryz.func43 (by kernel_rfl) rfl #[.agg #[.int .i64 a7, .int .i64 a8, .int .i64 a6, .int .i64 a9], .int .i64 a1, .int .i64 (wrap64 (38 + (wrap64 (8 * a2))))] rfl tq_0 ?_; (with_reducible refine (spec_l11At.calls a7 a8 a6 a9 a1 (wrap64 (38 + (wrap64 (8 * a2)))) ai _ am.out).mono ?_); rintro e ar ⟨rfl, hb⟩; refine ⟨_, rfl, ?_⟩; have z_ := bw1_ (kb_ a5) th_ hb; clear a5 HB; obtain ⟨a5, HB⟩ := z_; (try clear hb)))
 go_ret
 exact ⟨tq_1, th_⟩

end Go.Proofs.YtleoknilacjakaaGreat.PFnExactChanged
