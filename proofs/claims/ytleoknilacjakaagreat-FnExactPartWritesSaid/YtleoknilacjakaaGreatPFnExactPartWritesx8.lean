/- Contracts of Go functions, written by a program of ours over the print of the kit: each says that the call returns what the Lean function beside it computes. Conditions: as each theorem states them. -/
import Derived.Test.YtleoknilacjakaaGreatPkFnExactPartWrites
import Derived.Test.YtleoknilacjakaaGreatPFnExactPartWritesx0
import Derived.Test.YtleoknilacjakaaGreatPFnExactPartWritesx1
namespace Go.Proofs.YtleoknilacjakaaGreat.PFnExactPartWrites
open Go.RowKit Go.Proofs.YtleoknilacjakaaGreatW.PrintWords Go.Proofs.YtleoknilacjakaaGreatW.PrintLast Go.Proofs.YtleoknilacjakaaGreatW.PrintMore
attribute [local go_sem] max2_int min2_int max_two min_two max_three min_three max_four min_four   -- for this text's walks alone
set_option linter.unusedVariables false
set_option linter.unusedSimpArgs false

/-! ### spec_PartWords: function 67 -/
def spec_PartWords.f (a0_0 : Int) (a0_1 : Int) (a0_2 : Int) (a0_3 : Int) : Option (Int) := (spec_GeoOk.f a0_0 a0_1 a0_2 a0_3).bind fun t205 => (if t205 = true then (some (wrap64 ((wrap64 (38 + (wrap64 (8 * a0_2)))) + (wrap64 (4 * a0_1))))) else (some 0))
set_option maxHeartbeats 8000000 in
set_option maxRecDepth 100000 in
theorem spec_PartWords.calls (a6 : Int) (a7 : Int) (a8 : Int) (a9 : Int) (r : Int) (w : World) (h : spec_PartWords.f a6 a7 a8 a9 = some r) :
  Calls Tryz.prog 67 #[.agg #[.int .i64 a6, .int .i64 a7, .int .i64 a8, .int .i64 a9]] w fun e w' => e = .returned (.int .i64 r) ∧ Below w.heap.size w w' := by
 have hu31 := Tryz.underlying31
 have HB := Aside0.mk (Below.refl w.heap.size w)
 unfold spec_PartWords.f at h
 have H := h
 clear h
 obtain ⟨aa, A2, H⟩ := bd_ H
 have ab := Aside0.mk H
 clear H
 go_enter Tryz.func67, Tryz.ntmps67
 go_upto_if 5 with (first | ((with_reducible refine gate_dst (N := 1) rfl ?_); refine be_ 1 (cs := #[.int .i64 a6, .int .i64 a7, .int .i64 a8, .int .i64 a9]) 31 ?_; intro ac hg w4 hbox hb; have z_ := bx0_ th_ hb hbox hg; clear HB; obtain ⟨HB, a5, ae, af⟩ := z_; clear hb hbox hg; have ag := bb4_ a5.out) | ((with_reducible refine gate_callee (f := 35) rfl ?_); refine goesL_ (some 4) rfl rfl Tryz.func35 (by kernel_rfl) rfl #[.agg #[.int .i64 a6, .int .i64 a7, .int .i64 a8, .int .i64 a9]] rfl tq_0 ?_; (with_reducible refine (spec_GeoOk.calls a6 a7 a8 a9 aa _ A2.out).mono ?_); rintro e w6 ⟨rfl, hb⟩; refine ⟨_, rfl, ?_⟩; have z_ := bw1_ (kb_ a5) th_ hb; clear a5 HB; obtain ⟨a5, HB⟩ := z_; (try clear hb)))
 (try simp only [Act.put, List.setIfInBounds_toArray, List.set_cons_zero, List.set_cons_succ])
 (try clear ag)
 have H := ab.out
 clear ab
 by_cases c7 : aa = true
 rotate_left
 ·replace c7 := Bool.eq_false_iff.mpr c7
  subst c7
  rw [if_neg nf_] at H
  obtain rfl := Option.some.inj H
  go_wp2
  go_ret
  exact ⟨tq_1, th_⟩
 subst c7
 rw [if_pos rfl] at H
 obtain rfl := Option.some.inj H
 have ah := bb4_ a5.out
 go_wp2
 go_ret
 exact ⟨tq_1, th_⟩

/-! ### spec_l11At: function 43 -/
def spec_l11At.f (a0_0 : Int) (a0_1 : Int) (a0_2 : Int) (a0_3 : Int) (a1 : Int) (a2 : Int) : Option (Int) := (spec_GeoOk.f a0_0 a0_1 a0_2 a0_3).bind fun t207 => (if t207 = true then ((spec_l01In.f a1 0 (wrap64 (a0_0 - 1))).bind fun t208 => (if t208 = true then ((spec_PartWords.f a0_0 a0_1 a0_2 a0_3).bind fun t209 => (some (wrap64 ((wrap64 (a1 * t209)) + a2)))) else (some (-1)))) else (some (-1)))
set_option maxHeartbeats 8000000 in
set_option maxRecDepth 100000 in
theorem spec_l11At.calls (a6 : Int) (a7 : Int) (a8 : Int) (a9 : Int) (a1 : Int) (a2 : Int) (r : Int) (w : World) (h : spec_l11At.f a6 a7 a8 a9 a1 a2 = some r) :
  Calls Tryz.prog 43 #[.agg #[.int .i64 a6, .int .i64 a7, .int .i64 a8, .int .i64 a9], .int .i64 a1, .int .i64 a2] w fun e w' => e = .returned (.int .i64 r) ∧ Below w.heap.size w w' := by
 have hu31 := Tryz.underlying31
 have HB := Aside0.mk (Below.refl w.heap.size w)
 unfold spec_l11At.f at h
 have H := h
 clear h
 obtain ⟨ah, A4, H⟩ := bd_ H
 by_cases c5 : ah = true
 rotate_left
 ·replace c5 := Bool.eq_false_iff.mpr c5
  subst c5
  rw [if_neg nf_] at H
  obtain rfl := Option.some.inj H
  go_enter Tryz.func43, Tryz.ntmps43
  go_wp2_with (first | ((with_reducible refine gate_dst (N := 3) rfl ?_); refine be_ 3 (cs := #[.int .i64 a6, .int .i64 a7, .int .i64 a8, .int .i64 a9]) 31 ?_; intro aa hg ao hbox hb; have z_ := bx0_ th_ hb hbox hg; clear HB; obtain ⟨HB, a5, ab, ac⟩ := z_; clear hb hbox hg; have al := bb4_ a5.out) | ((with_reducible refine gate_callee (f := 35) rfl ?_); refine goesL_ (some 8) rfl rfl Tryz.func35 (by kernel_rfl) rfl #[.agg #[.int .i64 a6, .int .i64 a7, .int .i64 a8, .int .i64 a9]] rfl tq_0 ?_; (with_reducible refine (spec_GeoOk.calls a6 a7 a8 a9 false _ A4.out).mono ?_); rintro e ap ⟨rfl, hb⟩; refine ⟨_, rfl, ?_⟩; have z_ := bw1_ (kb_ a5) th_ hb; clear a5 HB; obtain ⟨a5, HB⟩ := z_; (try clear hb)))
  go_ret
  exact ⟨tq_1, th_⟩
 subst c5
 rw [if_pos rfl] at H
 obtain ⟨ae, A6, H⟩ := bd_ H
 have aj := Aside0.mk H
 clear H
 go_enter Tryz.func43, Tryz.ntmps43
 go_upto_if 17 with (first | ((with_reducible refine gate_dst (N := 3) rfl ?_); refine be_ 3 (cs := #[.int .i64 a6, .int .i64 a7, .int .i64 a8, .int .i64 a9]) 31 ?_; intro aa hg w8 hbox hb; have z_ := bx0_ th_ hb hbox hg; clear HB; obtain ⟨HB, a5, ab, ac⟩ := z_; clear hb hbox hg; have ak := bb4_ a5.out) | ((with_reducible refine gate_callee (f := 35) rfl ?_); refine goesL_ (some 8) rfl rfl Tryz.func35 (by kernel_rfl) rfl #[.agg #[.int .i64 a6, .int .i64 a7, .int .i64 a8, .int .i64 a9]] rfl tq_0 ?_; (with_reducible refine (spec_GeoOk.calls a6 a7 a8 a9 true _ A4.out).mono ?_); rintro e aq ⟨rfl, hb⟩; refine ⟨_, rfl, ?_⟩; have z_ := bw1_ (kb_ a5) th_ hb; clear a5 HB; obtain ⟨a5, HB⟩ := z_; (try clear hb); have af := bb4_ a5.out) | (go_at_call 36; (with_reducible refine (spec_l01In.calls a1 0 (wrap64 (a6 - 1)) ae _ A6.out).mono ?_); rintro e w' ⟨rfl, ⟨nd, rfl⟩⟩))
 (try simp only [Act.put, List.setIfInBounds_toArray, List.set_cons_zero, List.set_cons_succ])
 (try clear af)
 (try clear ak)
 (try clear af)
 (try clear ak)
 have H := aj.out
 clear aj
 by_cases ag : ae = true
 rotate_left
 ·replace ag := Bool.eq_false_iff.mpr ag
  subst ag
  rw [if_neg nf_] at H
  obtain rfl := Option.some.inj H
  go_wp2
  go_ret
  exact ⟨tq_1, th_⟩
 subst ag
 rw [if_pos rfl] at H
 obtain ⟨ai, am, H⟩ := bd_ H
 obtain rfl := Option.some.inj H
 have an := bb4_ a5.out
 go_wp2_with (first | ((with_reducible refine gate_callee (f := 67) rfl ?_); refine goesL_ (some 20) rfl rfl Tryz.func67 (by kernel_rfl) rfl #[.agg #[.int .i64 a6, .int .i64 a7, .int .i64 a8, .int .i64 a9]] rfl tq_0 ?_; (with_reducible refine (spec_PartWords.calls a6 a7 a8 a9 ai _ am.out).mono ?_); rintro e ar ⟨rfl, hb⟩; refine ⟨_, rfl, ?_⟩; have z_ := bw1_ (kb_ a5) th_ hb; clear a5 HB; obtain ⟨a5, HB⟩ := z_; (try clear hb)))
 go_ret
 exact ⟨tq_1, th_⟩

/-! ### spec_CommitAt: function 20 -/
def spec_CommitAt.f (a0_0 : Int) (a0_1 : Int) (a0_2 : Int) (a0_3 : Int) (a1 : Int) : Option (Int) := (spec_l11At.f a0_0 a0_1 a0_2 a0_3 a1 0).bind fun t211 => (some t211)
set_option maxHeartbeats 8000000 in
set_option maxRecDepth 100000 in
theorem spec_CommitAt.calls (a6 : Int) (a7 : Int) (a8 : Int) (a9 : Int) (a1 : Int) (r : Int) (w : World) (h : spec_CommitAt.f a6 a7 a8 a9 a1 = some r) :
  Calls Tryz.prog 20 #[.agg #[.int .i64 a6, .int .i64 a7, .int .i64 a8, .int .i64 a9], .int .i64 a1] w fun e w' => e = .returned (.int .i64 r) ∧ Below w.heap.size w w' := by
 have hu31 := Tryz.underlying31
 have HB := Aside0.mk (Below.refl w.heap.size w)
 unfold spec_CommitAt.f at h
 have H := h
 clear h
 obtain ⟨aa, A3, H⟩ := bd_ H
 obtain rfl := Option.some.inj H
 go_enter Tryz.func20, Tryz.ntmps20
 go_wp2_with (first | ((with_reducible refine gate_dst (N := 2) rfl ?_); refine be_ 2 (cs := #[.int .i64 a6, .int .i64 a7, .int .i64 a8, .int .i64 a9]) 31 ?_; intro ab hg w4 hbox hb; have z_ := bx0_ th_ hb hbox hg; clear HB; obtain ⟨HB, a5, ac, ae⟩ := z_; clear hb hbox hg; have af := bb4_ a5.out) | ((with_reducible refine gate_callee (f := 43) rfl ?_); refine goesL_ (some 7) rfl rfl Tryz.func43 (by kernel_rfl) rfl #[.agg #[.int .i64 a6, .int .i64 a7, .int .i64 a8, .int .i64 a9], .int .i64 a1, .int .i64 0] rfl tq_0 ?_; (with_reducible refine (spec_l11At.calls a6 a7 a8 a9 a1 0 aa _ A3.out).mono ?_); rintro e w6 ⟨rfl, hb⟩; refine ⟨_, rfl, ?_⟩; have z_ := bw1_ (kb_ a5) th_ hb; clear a5 HB; obtain ⟨a5, HB⟩ := z_; (try clear hb)))
 go_ret
 exact ⟨tq_1, th_⟩

/-! ### spec_StatesWords: function 44 -/
def spec_StatesWords.l0 : Nat → List Int → List Int → Int → Option (List ByteArray)
 | 0, _, _, _ => none
 | k + 1, x0, x3, x4 => if x4 < (x0.length : Int) then (if 0 ≤ x4 then (if x4 < (x3.length : Int) then (spec_StatesWords.l0 k x0 (x3.set (x4 : Int).toNat ((rd x0 x4) % 256)) (wrap64 (x4 + 1))) else (none)) else (none)) else (if 8 ≤ (x3.length : Int) then (some (([strOfNums (x3.take 8), strOfNums (x3.drop 8)] : List ByteArray))) else (none))
def spec_StatesWords.f (k : Nat) (l0 : List Int) : Option (List ByteArray) := (spec_StatesOk.f k l0 (l0.length : Int)).bind fun t212 => (if t212 = true then (spec_StatesWords.l0 k l0 (List.replicate 16 0) 0) else (some (([] : List ByteArray))))
def spec_StatesWords.T8 : Bool × List (List Nat × List Nat) := (true, [([], []), ([0], [0]), ([1], [1]), ([], []), ([3], [3]), ([4], [4]), ([2, 5], [2, 5]), ([6, 0, 1, 2, 3, 4, 5, 6], [6])])
def spec_StatesWords.B8 : List Nat := [0, 1, 3, 0, 8, 24, 63, 127]
theorem spec_StatesWords.tab8 : rtab .any (opsOf Tryz.f44 8) = spec_StatesWords.T8 := by kernel_rfl
theorem spec_StatesWords.bits8 : waitsOk spec_StatesWords.T8.2 spec_StatesWords.B8 = true := by kernel_rfl
set_option maxHeartbeats 8000000 in
set_option maxRecDepth 100000 in
theorem spec_StatesWords.calls (k : Nat) (A0 : Option Addr) (c0 : Nat) (l0 : List Int) (r : List ByteArray) (w : World) (hr0 : Kd.C (Kd.int .i64) w A0 l0.length l0) (hc0 : l0.length ≤ c0) (h : spec_StatesWords.f k l0 = some r) :
  Calls Tryz.prog 44 #[.slice A0 l0.length c0] w fun e w' => ∃ v0_ : Value, e = .returned (v0_) ∧ Kd.R Kd.string 9 w' w.heap.size (fun _ => True) v0_ r ∧ Below w.heap.size w w' := by
 have HR0 := Aside0.mk hr0
 have b9 := Aside0.mk hc0
 clear hr0 hc0
 have HB := Aside0.mk (Below.refl w.heap.size w)
 unfold spec_StatesWords.f at h
 have H := h
 clear h
 obtain ⟨ai, A2, H⟩ := bd_ H
 have b2 := Aside0.mk H
 clear H
 go_enter Tryz.func44, Tryz.ntmps44
 go_upto_if 9 with (first | ((with_reducible refine gate_callee (f := 37) rfl ?_); refine goesL_ (some 8) rfl rfl Tryz.func37 (by kernel_rfl) rfl #[.slice A0 l0.length c0, .int .i64 (l0.length : Int)] rfl tq_0 ?_; (with_reducible refine (spec_StatesOk.calls k _ _ l0 (l0.length : Int) ai _ ?side1 ?side2 A2.out).mono ?_); (case side1 => exact tq_19); (case side2 => exact b9.out); rintro e w' ⟨rfl, ⟨nd, rfl⟩⟩; refine ⟨_, rfl, ?_⟩))
 (try simp only [Act.put, List.setIfInBounds_toArray, List.set_cons_zero, List.set_cons_succ])
 have H := b2.out
 clear b2
 by_cases c4 : ai = true
 rotate_left
 ·replace c4 := Bool.eq_false_iff.mpr c4
  subst c4
  rw [if_neg nf_] at H
  obtain ⟨aq, hy213⟩ : ∃ y_ : List ByteArray, y_ = (([] : List ByteArray)) := ⟨_, rfl⟩
  replace H : (some aq) = some r := by first | (rw [hy213]; with_reducible exact H) | (have H2_ := (Option.bind_some _ _).symm.trans H; rw [hy213]; with_reducible exact H2_) | (have H2_ := (Option.bind_some _ _).symm.trans H; with_reducible exact H2_) | with_reducible exact H | (rw [hy213]; exact H) | exact H
  have Ny213 := Aside0.mk hy213
  clear hy213
  obtain rfl := Option.some.inj H
  go_wp2_with (first | ((with_reducible refine gate_dst (N := 10) rfl ?_); refine Kd.R_lit Kd.string _ 9 ?hg (N := 10) ?hd (xs := ([] : List ByteArray)) (inner := []) (ok := fun _ => True) (okp := fun _ => True) ?hr ?hp (fun _ hk => hk) trivial (Below.refl _ _) (Nat.le_refl _) (by simp) ?_; (case hd => rfl); (case hg => rfl); (case hr => first | (go_simp; done) | (go_simp; rfl)); (case hp => exact (Reps.none _ _)); intro v214 be ho25 hb hg_ hnew_; clear hg_ hnew_; (first | rw [← Ny213.out] at ho25 | (simp only [Int.reduceToNat] at ho25; rw [← Ny213.out] at ho25)); have z_ := p_ (Kd.R_lower ho25 (below_size th_)) <| a_ (below_step th_ hb); clear HB; obtain ⟨HO215, HB⟩ := z_; clear hb ho25))
  go_ret
  exact ⟨_, tq_1, (raR_ HO215), th_⟩
 subst c4
 rw [if_pos rfl] at H
 obtain ⟨aj, hy216⟩ : ∃ y_ : List Int, y_ = (List.replicate 16 0) := ⟨_, rfl⟩
 replace H : (spec_StatesWords.l0 k l0 aj 0) = some r := by first | (rw [hy216]; with_reducible exact H) | (have H2_ := (Option.bind_some _ _).symm.trans H; rw [hy216]; with_reducible exact H2_) | (have H2_ := (Option.bind_some _ _).symm.trans H; with_reducible exact H2_) | with_reducible exact H | (rw [hy216]; exact H) | exact H
 have Ny216 := Aside0.mk hy216
 clear hy216
 have H' := Aside0.mk H
 clear H
 go_wp2_with (first | ((with_reducible refine gate_dst (N := 11) rfl ?_); refine Kd.R_make (Kd.int .u8) _ 5 rfl (N := 11) rfl 83 _ _ rfl 16 rfl rfl Tryz.underlying83 (.int .u8 0) 1 info5 rfl (by decide) (by omega) 0 (ok := fun _ => True) (okp := fun _ => True) rfl (fun _ hk => hk) trivial (by omega) (by omega) (Below.refl _ _) (Nat.le_refl _) ?_; intro v217 w5 ho6 hb hg_ hnew_; clear hg_ hnew_; (first | rw [← Ny216.out] at ho6 | (simp only [Int.reduceToNat] at ho6; rw [← Ny216.out] at ho6)); have z_ := p_ (Kd.R_lower ho6 (below_size th_)) <| a_ (below_step th_ hb); clear HB; obtain ⟨HO218, HB⟩ := z_; clear hb ho6))
 go_loopg [4] k (fun kq v4 w' => ∃ (a5 : List Int) (a6 : Int), v4 = .int .i64 a6 ∧ Aside0 (spec_StatesWords.l0 kq l0 a5 a6 = some r) ∧ Aside0 (kq ≤ k) ∧ Aside0 (Kd.R (Kd.int .u8) 5 w' w.heap.size (fun _ => True) v217 a5) ∧ Aside0 (Below w.heap.size w w'))
 case atStart => exact ⟨(aj), (0), tq_3, H', ⟨Nat.le_refl _⟩, ⟨(raR_ HO218)⟩, ⟨th_⟩⟩
 case round =>
 clear H'
 try clear p2; try clear c3; try clear c4
 obtain ⟨a5, a6, rfl, HA, HK1, a7, HB⟩ := hrel
 cases gk with
 | zero => exact absurd HA.out (by simp [spec_StatesWords.l0])
 | succ k1 =>
 have H := HA.out
 clear HA
 simp only [spec_StatesWords.l0] at H
 by_cases c7 : a6 < (l0.length : Int)
 ·rw [if_pos c7] at H
  have af := decide_eq_true c7
  clear c7
  (first | rw [af] | (simp only [i64_w, i32_w]; rw [af]) | skip)
  obtain ⟨c8, H⟩ := fc_ H
  have ba := decide_eq_true c8
  clear c8
  obtain ⟨c9, H⟩ := fc_ H
  have bb := decide_eq_true c9
  clear c9
  obtain ⟨ag, hy220⟩ : ∃ y_ : List Int, y_ = (a5.set (a6 : Int).toNat ((rd l0 a6) % 256)) := ⟨_, rfl⟩
  replace H : (spec_StatesWords.l0 k1 l0 ag (wrap64 (a6 + 1))) = some r := by first | (rw [hy220]; with_reducible exact H) | (have H2_ := (Option.bind_some _ _).symm.trans H; rw [hy220]; with_reducible exact H2_) | (have H2_ := (Option.bind_some _ _).symm.trans H; with_reducible exact H2_) | with_reducible exact H | (rw [hy220]; exact H) | exact H
  have Ny220 := Aside0.mk hy220
  clear hy220
  have H' := Aside0.mk H
  clear H
  have p219 : 0 ≤ (a6 : Int) := of_decide_eq_true tq_2
  have q219 : a6 < (l0.length : Int) := of_decide_eq_true tq_2
  obtain ⟨b3, ar, ab⟩ := Kd.at_int HR0.out a6 p219 q219
  cases ar
  replace ab := hx_ HB.out ab
  replace p219 := eq_true p219
  replace q219 := eq_true q219
  have p10 : 0 ≤ (a6 : Int) := of_decide_eq_true tq_2
  have q10 : (a6 : Int) < ((a5.length : Int) : Int) := of_decide_eq_true tq_2
  obtain ⟨ah, au, ak, al, av, bc, am⟩ := Kd.R_form a7.out (by omega)
  (first | cases ak | (injection ak with ea_ en_ ec_; (first | subst ea_ | (injection ea_ with ea_; subst ea_)); subst ec_; clear en_))
  have aw := Aside0.mk al
  have bd := Aside0.mk am
  clear al av am
  obtain ⟨ax, ay⟩ := Kd.R_celln 0 a7.out (a6 : Int) p10 q10
  replace p10 := eq_true p10
  replace q10 := eq_true q10
  have HP11 := Kd.R_putg a7.out (a6 : Int) ((rd l0 a6) % 256)
  go_wp2_with (first | ((with_reducible refine gate_store (t := 5) (p := 25) rfl ?_); refine store_event (t := 5) (p := 25) (v := ?vo_w12) (w1 := (wr.setCell ⟨ah, (a6 : Int).toNat, none⟩ (.int .u8 ((rd l0 a6) % 256)))) ?hg ?ho ?hn ?hr ?_; (case ho => rfl); (case hg => rfl); (case hn => rfl); (case hr => first | (go_simp; done) | (go_simp; rfl)); intro az hw; have hg : wr.grownBy az (some ah) := (by rw [hw]; exact HP11.2); have hp_ : Kd.R (Kd.int .u8) 5 az w.heap.size (fun _ => True) (.slice (some ⟨ah, 0, none⟩) a5.length au) ag := (by rw [hw, Ny220.out]; exact HP11.1); clear HP11; have z_ := p_ (hp_) <| a_ ((by rw [hw]; exact below_set (HB.out) aw.out : Below w.heap.size w az)); clear a7 HB; obtain ⟨a7, HB⟩ := z_; clear hg hw hp_))
  go_roundg k1
  case measure => have := HK1.out; omega
  case rel => exact ⟨(ag), (wrap64 (a6 + 1)), tq_3, H', ⟨tq_15⟩, ⟨(raR_ a7)⟩, ⟨th_⟩⟩
 rw [if_neg c7] at H
 have af := decide_eq_false c7
 clear c7
 (first | rw [af] | (simp only [i64_w, i32_w]; rw [af]) | skip)
 obtain ⟨b0, H⟩ := fc_ H
 have b4 := eq_true b0
 have b5 := decide_eq_true b0
 clear b0
 obtain ⟨a9, hy221⟩ : ∃ y_ : List Int, y_ = (a5.take 8) := ⟨_, rfl⟩
 replace H : (some (([strOfNums a9, strOfNums (a5.drop 8)] : List ByteArray))) = some r := by first | (rw [hy221]; with_reducible exact H) | (have H2_ := (Option.bind_some _ _).symm.trans H; rw [hy221]; with_reducible exact H2_) | (have H2_ := (Option.bind_some _ _).symm.trans H; with_reducible exact H2_) | with_reducible exact H | (rw [hy221]; exact H) | exact H
 have Ny221 := Aside0.mk hy221
 clear hy221
 have b6 := eq_true (of_decide_eq_true tq_2 : 8 ≤ (a5.length : Int))
 obtain ⟨a8, hy225⟩ : ∃ y_ : List Int, y_ = (a5.drop 8) := ⟨_, rfl⟩
 replace H : (some (([strOfNums a9, strOfNums a8] : List ByteArray))) = some r := by first | (rw [hy225]; with_reducible exact H) | (have H2_ := (Option.bind_some _ _).symm.trans H; rw [hy225]; with_reducible exact H2_) | (have H2_ := (Option.bind_some _ _).symm.trans H; with_reducible exact H2_) | with_reducible exact H | (rw [hy225]; exact H) | exact H
 have Ny225 := Aside0.mk hy225
 clear hy225
 obtain ⟨b1, hy229⟩ : ∃ y_ : List ByteArray, y_ = (([strOfNums a9, strOfNums a8] : List ByteArray)) := ⟨_, rfl⟩
 replace H : (some b1) = some r := by first | (rw [hy229]; with_reducible exact H) | (have H2_ := (Option.bind_some _ _).symm.trans H; rw [hy229]; with_reducible exact H2_) | (have H2_ := (Option.bind_some _ _).symm.trans H; with_reducible exact H2_) | with_reducible exact H | (rw [hy229]; exact H) | exact H
 have Ny229 := Aside0.mk hy229
 clear hy229
 obtain rfl := Option.some.inj H
 try go_wp2
 have z_ := p_ (Kd.R_drew a7.out) <| a_ (below_drew1 HB.out)
 clear a7 HB
 obtain ⟨a7, HB⟩ := z_
 obtain ⟨Ao17, aa, an⟩ := Kd.R_slice a7.out
 (first | subst an | (injection an with f1_ f2_ f3_; have f4_ := f1_.symm; have f5_ := f3_.symm; clear f1_ f2_ f3_; subst f4_; subst f5_))
 have q16 : (8 : Int) ≤ ((a5.length : Int) : Int) := of_decide_eq_true tq_2
 obtain ⟨i016, hi016, _, hsz16, _⟩ := info_parts info5
 have hroom16 : a5.length ≤ aa := (Kd.R_reads' a7.out).2.1
 have hC16 : Kd.C (Kd.int .u8) _ Ao17 a5.length a5 := (Kd.R_reads' a7.out).2.2
 have hcut16 := cut_to (P := Tryz.prog) 83 5 .i64 Tryz.underlying83 hi016 Ao17 a5.length aa 8 (by omega) q16 hroom16
 have hr16 := Kd.C_take (m := 8) hC16 (by omega)
 have hy16 : a9.length = (8 : Int).toNat := (by rw [Ny221.out, List.length_take]; omega)
 rw [← Ny221.out] at hr16
 rw [← hy16] at hcut16
 have ac := Aside0.mk hr16
 have b7 := Aside0.mk (show a9.length ≤ aa from by omega)
 clear hr16 hC16 hroom16 hi016 hsz16
 have KY16 := Aside0.mk hy16
 clear hy16
 have KL16 := Aside0.mk (show 8 ≤ a5.length from by omega)
 replace q16 := eq_true q16
 have q18 : (8 : Int) ≤ ((a5.length : Int) : Int) := of_decide_eq_true tq_2
 obtain ⟨i018, hi018, _, hsz18, _⟩ := info_parts info5
 have hroom18 : a5.length ≤ aa := (Kd.R_reads' a7.out).2.1
 have hC18 : Kd.C (Kd.int .u8) _ Ao17 a5.length a5 := (Kd.R_reads' a7.out).2.2
 have hcut18 := cut_from (P := Tryz.prog) 83 5 .i64 Tryz.underlying83 hi018 1 hsz18 Ao17 a5.length aa 8 (by omega) q18
 have hr18 := Kd.C_drop (m := (8 : Int).toNat) (c := aa) hC18 (by omega) hroom18
 obtain ⟨ao, hA18⟩ : ∃ A1, A1 = (if aa = (8 : Int).toNat then Ao17 else (Ao17 : Option Addr).map (·.add ((8 : Int).toNat * 1))) := ⟨_, rfl⟩
 obtain ⟨ap, hc18⟩ : ∃ c1, c1 = aa - (8 : Int).toNat := ⟨_, rfl⟩
 have hy18 : a8.length = a5.length - (8 : Int).toNat := (by rw [Ny225.out, List.length_drop] <;> omega)
 rw [show (a5).drop (8 : Int).toNat = a8 from Ny225.out.symm] at hr18
 replace hr18 : Kd.C (Kd.int .u8) _ ao a8.length a8 := (by rw [hA18]; exact hr18)
 rw [← hy18, ← hA18, ← hc18] at hcut18
 have ae := Aside0.mk hr18
 have b8 := Aside0.mk (show a8.length ≤ ap from by rw [hy18, hc18]; exact Nat.sub_le_sub_right hroom18 _)
 clear hr18 hC18 hroom18 hi018 hsz18 hc18
 have KY18 := Aside0.mk hy18
 have KA18 := Aside0.mk hA18
 clear hy18 hA18
 have KL18 := Aside0.mk (show 8 ≤ a5.length from by omega)
 replace q18 := eq_true q18
 have hcv19 := Kd.C_string (P := Tryz.prog) (A := Ao17) (c := aa) Tryz.underlying83 Tryz.underlying5 Tryz.underlying9 (by repeat (first | (with_reducible exact ac.out) | (with_reducible refine Kd.C_alloc ?_ _) | (with_reducible refine Kd.C_drewN ?_ _) | (with_reducible refine Kd.C_drew ?_) | exact ac.out))
 have hcv20 := Kd.C_string (P := Tryz.prog) (A := ao) (c := ap) Tryz.underlying83 Tryz.underlying5 Tryz.underlying9 (by repeat (first | (with_reducible exact ae.out) | (with_reducible refine Kd.C_alloc ?_ _) | (with_reducible refine Kd.C_drewN ?_ _) | (with_reducible refine Kd.C_drew ?_) | exact ae.out))
 refine start_ (n := 8) (S := fun w' => (convert 83 9 (.slice Ao17 a9.length aa)).run Tryz.prog w' = .ok (.string (strOfNums a9)) w' ∧ (convert 83 9 (.slice ao a8.length ap)).run Tryz.prog w' = .ok (.string (strOfNums a8)) w') (ds := []) bq_0 (by kernel_rfl) rfl rfl ⟨hcv19, hcv20⟩ (fun hHeld => ?_); refine with_tabW spec_StatesWords.tab8 spec_StatesWords.bits8 (fun HT_ HW_ => ?_)
 generalize wr.drew = bf at a7 HB ac ae hHeld ⊢
 refine tr_ 0 26 bq_1 HT_ HW_ hHeld ?_
 refine tr_ 1 27 bq_109 HT_ HW_ hHeld ?_
 refine tr_ 2 28 bq_110 HT_ HW_ hHeld ?_
 refine tr_ 3 29 bq_111 HT_ HW_ hHeld ?_
 refine tr_ 4 30 bq_40 HT_ HW_ hHeld ?_
 refine tr_ 5 31 bq_2 HT_ HW_ hHeld ?_
 refine one_ (i := 6) (N := some 32) bq_3 rfl rfl (one_of HT_.out (by kernel_rfl)) (by decide) (fun K hK => ?_)
 refine Kd.R_lit_step Kd.string _ 9 ?hg (N := 32) ?hd (xs := ([strOfNums a9, strOfNums a8] : List ByteArray)) (inner := [.string (strOfNums a9), .string (strOfNums a8)]) (ok := fun _ => True) (okp := fun _ => True) ?hr ?hp (fun _ hk => hk) trivial (Below.refl _ _) (Nat.le_refl _) (by simp) ?_; (case hd => rfl); (case hg => rfl); (case hr => first | (go_simp; done) | (go_simp; rfl)); (case hp => exact (Reps.one (show Kd.M Kd.string _ _ _ (strOfNums a9) [.string (strOfNums a9)] from rfl) (Reps.one (show Kd.M Kd.string _ _ _ (strOfNums a8) [.string (strOfNums a8)] from rfl) (Reps.none _ _))))
 intro v230 bg ho23 hb hg_ hnew_
 clear hg_ hnew_
 (first | rw [← Ny229.out] at ho23 | (simp only [Int.reduceToNat] at ho23; rw [← Ny229.out] at ho23))
 have n0_ := Aside0.mk (Kd.R_below (raR_ a7) hb)
 have n1_ := Aside0.mk (Kd.R_lower ho23 (below_size th_))
 have hcv19b := Kd.C_string (P := Tryz.prog) (A := Ao17) (c := aa) Tryz.underlying83 Tryz.underlying5 Tryz.underlying9 (Kd.C_below ac.out hb)
 have hcv20b := Kd.C_string (P := Tryz.prog) (A := ao) (c := ap) Tryz.underlying83 Tryz.underlying5 Tryz.underlying9 (Kd.C_below ae.out hb)
 have n2_ := Aside0.mk (below_step th_ hb)
 clear a7 HB
 have a7 := n0_
 have HO231 := n1_
 have HB := n2_
 clear n0_ n1_ n2_ hb ho23
 refine hK.out _ _ ⟨hcv19b, hcv20b⟩ (fun hHeld => ?_)
 clear hK K
 refine nm_ (some 32) ?_
 refine tr_ 7 2 bq_4 HT_ HW_ hHeld ?_
 refine done_ (done_of HT_.out (by kernel_rfl)) ?_
 try go_wp2
 go_ret
 exact ⟨_, tq_1, (raR_ HO231), th_⟩

end Go.Proofs.YtleoknilacjakaaGreat.PFnExactPartWrites
