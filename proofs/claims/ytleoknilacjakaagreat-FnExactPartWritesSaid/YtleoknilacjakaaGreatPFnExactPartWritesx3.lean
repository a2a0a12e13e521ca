/- Contracts of Go functions, written by a program of ours over the print of the kit: each says that the call returns what the Lean function beside it computes. Conditions: as each theorem states them. -/
import Derived.Test.YtleoknilacjakaaGreatPkFnExactPartWrites
import Derived.Test.YtleoknilacjakaaGreatPFnExactPartWritesx0
import Derived.Test.YtleoknilacjakaaGreatPFnExactPartWritesx1
import Derived.Test.YtleoknilacjakaaGreatPFnExactPartWritesx2
namespace Go.Proofs.YtleoknilacjakaaGreat.PFnExactPartWrites
open Go.RowKit Go.Proofs.YtleoknilacjakaaGreatW.PrintWords Go.Proofs.YtleoknilacjakaaGreatW.PrintLast Go.Proofs.YtleoknilacjakaaGreatW.PrintMore
attribute [local go_sem] max2_int min2_int max_two min_two max_three min_three max_four min_four   -- for this text's walks alone
set_option linter.unusedVariables false
set_option linter.unusedSimpArgs false

/-! ### spec_RecWord: function 64 -/
def spec_RecWord.j0 : Nat → Bool → Int → Int → ByteArray → Option (ByteArray)
 | 0, _, _, _, _ => none
 | k + 1, x18, x136000, x136001, x136002 => if x18 = true then (some (⟨#[]⟩ : ByteArray)) else ((spec_NumText.f k x136000 1).bind fun t138 => ((spec_NumText.f k x136001 3).bind fun t139 => (if t138.size + t139.size ≤ 9223372036854775807 then (if (t138 ++ t139).size + x136002.size ≤ 9223372036854775807 then (some ((t138 ++ t139) ++ x136002)) else (none)) else (none))))
def spec_RecWord.f (k : Nat) (a0_0 : Int) (a0_1 : Int) (a0_2 : ByteArray) : Option (ByteArray) := (spec_l01In.f a0_0 1 12).bind fun t136 => (if t136 = true then ((spec_l01In.f a0_1 1 16777215).bind fun t137 => (if t137 = true then (spec_RecWord.j0 k ((a0_2.size : Int) != 4) a0_0 a0_1 a0_2) else (spec_RecWord.j0 k true a0_0 a0_1 a0_2))) else (spec_RecWord.j0 k true a0_0 a0_1 a0_2))
def spec_RecWord.T3 : Bool × List (List Nat × List Nat) := (true, [([], []), ([0], [0]), ([1], [1]), ([], []), ([3], [3]), ([4, 2], [4]), ([2, 5], [2, 5]), ([], []), ([7], [7]), ([6, 8], [6, 8]), ([9, 5, 0, 1, 2, 3, 4, 5, 6, 7, 8, 9], [9])])
def spec_RecWord.B3 : List Nat := [0, 1, 3, 0, 8, 31, 63, 0, 128, 511, 1023]
theorem spec_RecWord.tab3 : rtab .any (opsOf Tryz.f64 3) = spec_RecWord.T3 := by kernel_rfl
theorem spec_RecWord.bits3 : waitsOk spec_RecWord.T3.2 spec_RecWord.B3 = true := by kernel_rfl
set_option maxHeartbeats 8000000 in
set_option maxRecDepth 100000 in
theorem spec_RecWord.calls (k : Nat) (a6 : Int) (a7 : Int) (a8 : ByteArray) (r : ByteArray) (w : World) (h : spec_RecWord.f k a6 a7 a8 = some r) :
  Calls Tryz.prog 64 #[.agg #[.int .i64 a6, .int .i64 a7, .string a8]] w fun e w' => e = .returned (.string r) ∧ Below w.heap.size w w' := by
 have hu89 := Tryz.underlying89
 have HB := Aside0.mk (Below.refl w.heap.size w)
 unfold spec_RecWord.f at h
 have H := h
 clear h
 have ah := Aside0.mk H
 clear H
 go_enter Tryz.func64, Tryz.ntmps64
 go_upto_region 1 with (first | ((with_reducible refine gate_dst (N := 1) rfl ?_); (try (refine gate_guard (by rfl) ?_; dsimp only)); refine be_ 1 (cs := #[.int .i64 a6, .int .i64 a7, .string a8]) 89 ?_; intro a9 hg w3 hbox hb; have z_ := bx0_ th_ hb hbox hg; clear HB; obtain ⟨HB, a5, am, an⟩ := z_; clear hb hbox hg))
 (try simp only [Act.put, List.setIfInBounds_toArray, List.set_cons_zero, List.set_cons_succ])
 go_cut [18] (fun v18 wc => ∃ (kq : Nat) (aa : Bool), v18 = .bool aa ∧ Aside0 (spec_RecWord.j0 kq aa a6 a7 a8 = some r) ∧ Aside0 (kq ≤ k) ∧ Aside0 (wc.heap[a9]? = some (.cells #[.int .i64 a6, .int .i64 a7, .string a8] 89 (0, 0))) ∧ Aside0 (Below w.heap.size w wc))
 case first =>
  have H := ah.out
  clear ah
  obtain ⟨ai, A4, H⟩ := bd_ H
  by_cases c5 : ai = true
  rotate_left
  ·replace c5 := Bool.eq_false_iff.mpr c5
   subst c5
   rw [if_neg nf_] at H
   have H' := Aside0.mk H
   clear H
   have ae := bb3_ a5.out
   go_wp2_with (first | ((with_reducible refine gate_callee (f := 36) rfl ?_); refine goesL_ (some 5) rfl rfl Tryz.func36 (by kernel_rfl) rfl #[.int .i64 a6, .int .i64 1, .int .i64 12] rfl tq_0 ?_; (with_reducible refine (spec_l01In.calls a6 1 12 false _ A4.out).mono ?_); rintro e w' ⟨rfl, ⟨nd, rfl⟩⟩; refine ⟨_, rfl, ?_⟩))
   go_meet
   case rel => exact ⟨_, (true), tq_3, H', ⟨tq_12⟩, ⟨(kb_ a5)⟩, ⟨th_⟩⟩
  subst c5
  rw [if_pos rfl] at H
  obtain ⟨aj, A6, H⟩ := bd_ H
  by_cases c7 : aj = true
  ·subst c7
   rw [if_pos rfl] at H
   have H' := Aside0.mk H
   clear H
   have ao := bb3_ a5.out
   go_wp2_with (first | ((with_reducible refine gate_callee (f := 36) rfl ?_); refine goesL_ (some 5) rfl rfl Tryz.func36 (by kernel_rfl) rfl #[.int .i64 a6, .int .i64 1, .int .i64 12] rfl tq_0 ?_; (with_reducible refine (spec_l01In.calls a6 1 12 true _ A4.out).mono ?_); rintro e w' ⟨rfl, ⟨nd, rfl⟩⟩; refine ⟨_, rfl, ?_⟩) | (go_at_call 36; (with_reducible refine (spec_l01In.calls a7 1 16777215 true _ A6.out).mono ?_); rintro e w' ⟨rfl, ⟨nd, rfl⟩⟩))
   go_meet
   case rel => exact ⟨_, (((a8.size : Int) != 4)), tq_3, H', ⟨tq_12⟩, ⟨(kb_ a5)⟩, ⟨th_⟩⟩
  replace c7 := Bool.eq_false_iff.mpr c7
  subst c7
  rw [if_neg nf_] at H
  have H' := Aside0.mk H
  clear H
  have ap := bb3_ a5.out
  go_wp2_with (first | ((with_reducible refine gate_callee (f := 36) rfl ?_); refine goesL_ (some 5) rfl rfl Tryz.func36 (by kernel_rfl) rfl #[.int .i64 a6, .int .i64 1, .int .i64 12] rfl tq_0 ?_; (with_reducible refine (spec_l01In.calls a6 1 12 true _ A4.out).mono ?_); rintro e w' ⟨rfl, ⟨nd, rfl⟩⟩; refine ⟨_, rfl, ?_⟩) | (go_at_call 36; (with_reducible refine (spec_l01In.calls a7 1 16777215 false _ A6.out).mono ?_); rintro e w' ⟨rfl, ⟨nd, rfl⟩⟩))
  go_meet
  case rel => exact ⟨_, (true), tq_3, H', ⟨tq_12⟩, ⟨(kb_ a5)⟩, ⟨th_⟩⟩
 case rest =>
 clear ah
 try clear p2; try clear c3; try clear c5; try clear c6; try clear c7; try clear ae; try clear ao; try clear ap; try clear ae; try clear ao; try clear ap
 obtain ⟨kq, aa, rfl, HA, HJ1, a5, HB⟩ := hcut
 cases kq with
 | zero => exact absurd HA.out (by simp [spec_RecWord.j0])
 | succ kj1 =>
 have H := HA.out
 clear HA
 simp only [spec_RecWord.j0] at H
 by_cases ag : aa = true
 ·subst ag
  rw [if_pos rfl] at H
  obtain rfl := Option.some.inj H
  go_wp2
  go_ret
  exact ⟨tq_1, th_⟩
 replace ag := Bool.eq_false_iff.mpr ag
 subst ag
 rw [if_neg nf_] at H
 obtain ⟨ab, ax, H⟩ := bd_ H
 obtain ⟨ac, ay, H⟩ := bd_ H
 obtain ⟨ak, H⟩ := fc_ H
 have aq := eq_true ak
 have ar := decide_eq_true ak
 try have au : (9223372036854775807 < ab.size + ac.size) = False := eq_false (Nat.not_lt.2 ak)
 obtain ⟨al, H⟩ := fc_ H
 have av := eq_true al
 have aw := decide_eq_true al
 try have af : (9223372036854775807 < (ab ++ ac).size + a8.size) = False := eq_false (Nat.not_lt.2 al)
 try have c15b2s : (9223372036854775807 < ab.size + ac.size + a8.size) = False := by rw [← ByteArray.size_append]; exact af
 obtain rfl := Option.some.inj H
 try go_wp2
 have z_ := dw1_ a5 HB
 clear a5 HB
 obtain ⟨a5, HB⟩ := z_
 refine start_ (n := 11) (S := fun w' => w'.cell? ⟨a9, 0, none⟩ = some (.int .i64 a6) ∧ w'.cell? ⟨a9, 1, none⟩ = some (.int .i64 a7) ∧ w'.cell? ⟨a9, 2, none⟩ = some (.string a8)) (ds := []) bq_82 (by kernel_rfl) rfl rfl (bk3_ a5.out) (fun hHeld => ?_); refine with_tabW spec_RecWord.tab3 spec_RecWord.bits3 (fun HT_ HW_ => ?_)
 generalize wc.drew = az at a5 HB hHeld ⊢
 refine yr_ 0 19 bq_83 HT_ ?_
 refine yr_ 3 22 bq_84 HT_ ?_
 refine yr_ 7 26 bq_85 HT_ ?_
 refine tr_ 1 20 bq_86 HT_ HW_ hHeld ?_
 refine tr_ 4 23 bq_87 HT_ HW_ hHeld ?_
 refine tr_ 8 27 bq_88 HT_ HW_ hHeld ?_
 refine one_ (i := 2) (N := some 21) bq_89 rfl rfl (one_of HT_.out (by kernel_rfl)) (by decide) (fun K hK => ?_)
 refine goes_ Tryz.func69 (by kernel_rfl) rfl #[.int .i64 a6, .int .i64 1] (by rfl) rfl rfl tq_0 ?_
 with_reducible refine (spec_NumText.calls kj1 a6 1 ab _ ax.out).mono ?_
 rintro e b0 ⟨rfl, hb⟩
 refine ⟨_, rfl, ?_⟩
 have z_ := bw1_ (kb_ a5) th_ hb
 clear a5 HB
 obtain ⟨a5, HB⟩ := z_
 (try clear hb)
 refine hK.out _ _ (bk3_ a5.out) (fun hHeld => ?_)
 clear hK K
 refine nm_ (some 21) ?_
 refine one_ (i := 5) (N := some 24) bq_90 rfl rfl (one_of HT_.out (by kernel_rfl)) (by decide) (fun K hK => ?_)
 refine goes_ Tryz.func69 (by kernel_rfl) rfl #[.int .i64 a7, .int .i64 3] (by rfl) rfl rfl tq_0 ?_
 with_reducible refine (spec_NumText.calls kj1 a7 3 ac _ ay.out).mono ?_
 rintro e b1 ⟨rfl, hb⟩
 refine ⟨_, rfl, ?_⟩
 have z_ := bw1_ (kb_ a5) th_ hb
 clear a5 HB
 obtain ⟨a5, HB⟩ := z_
 (try clear hb)
 refine hK.out _ _ (bk3_ a5.out) (fun hHeld => ?_)
 clear hK K
 refine nm_ (some 24) ?_
 refine yr_ 6 25 bq_91 HT_ ?_
 refine yr_ 9 28 bq_92 HT_ ?_
 refine yr_ 10 2 bq_93 HT_ ?_
 refine done_ (done_of HT_.out (by kernel_rfl)) ?_
 try go_wp2
 go_ret
 exact ⟨tq_1, th_⟩

/-! ### spec_l01Long: function 93 -/
def spec_l01Long.l0 : Nat → Int → Int → List Int → Int → Option (ByteArray)
 | 0, _, _, _, _ => none
 | k + 1, x0, x1, x5, x6 => if x6 < x0 then (if 0 ≤ x6 then (if x6 < (x5.length : Int) then (spec_l01Long.l0 k x0 x1 (x5.set (x6 : Int).toNat x1) (wrap64 (x6 + 1))) else (none)) else (none)) else (some (strOfNums x5))
def spec_l01Long.f (k : Nat) (a0 : Int) (a1 : Int) : Option (ByteArray) := if 0 ≤ a0 then (if (a0 : Int).toNat ≤ 281474976710656 then (spec_l01Long.l0 k a0 a1 (List.replicate (a0 : Int).toNat 0) 0) else (none)) else (none)
set_option maxHeartbeats 8000000 in
set_option maxRecDepth 100000 in
theorem spec_l01Long.calls (k : Nat) (a0 : Int) (a1 : Int) (r : ByteArray) (w : World) (h : spec_l01Long.f k a0 a1 = some r) :
  Calls Tryz.prog 93 #[.int .i64 a0, .int .u8 a1] w fun e w' => e = .returned (.string r) ∧ Below w.heap.size w w' := by
 have HB := Aside0.mk (Below.refl w.heap.size w)
 unfold spec_l01Long.f at h
 have H := h
 clear h
 obtain ⟨c3, H⟩ := fc_ H
 have af := eq_true c3
 have ag := decide_eq_true c3
 clear c3
 obtain ⟨c4, H⟩ := fc_ H
 have ah := eq_true c4
 have ai := decide_eq_true c4
 clear c4
 obtain ⟨aa, hy140⟩ : ∃ y_ : List Int, y_ = (List.replicate (a0 : Int).toNat 0) := ⟨_, rfl⟩
 replace H : (spec_l01Long.l0 k a0 a1 aa 0) = some r := by first | (rw [hy140]; with_reducible exact H) | (have H2_ := (Option.bind_some _ _).symm.trans H; rw [hy140]; with_reducible exact H2_) | (have H2_ := (Option.bind_some _ _).symm.trans H; with_reducible exact H2_) | with_reducible exact H | (rw [hy140]; exact H) | exact H
 have Ny140 := Aside0.mk hy140
 clear hy140
 have H' := Aside0.mk H
 clear H
 go_enter Tryz.func93, Tryz.ntmps93
 go_wp2_with (first | ((with_reducible refine gate_dst (N := 8) rfl ?_); refine Kd.R_make (Kd.int .u8) _ 5 rfl (N := 8) rfl 83 _ _ rfl a0 rfl rfl Tryz.underlying83 (.int .u8 0) 1 info5 rfl (by decide) (by omega) 0 (ok := fun _ => True) (okp := fun _ => True) rfl (fun _ hk => hk) trivial (of_decide_eq_true tq_2) (Nat.le_trans (Nat.mul_le_mul_right _ (of_decide_eq_true tq_2 : a0.toNat ≤ 281474976710656)) (by omega)) (Below.refl _ _) (Nat.le_refl _) ?_; intro v141 w5 ho6 hb hg_ hnew_; clear hg_ hnew_; (first | rw [← Ny140.out] at ho6 | (simp only [Int.reduceToNat] at ho6; rw [← Ny140.out] at ho6)); have z_ := p_ (Kd.R_lower ho6 (below_size th_)) <| a_ (below_step th_ hb); clear HB; obtain ⟨HO142, HB⟩ := z_; clear hb ho6))
 go_loopg [6] k (fun kq v6 w' => ∃ (a7 : List Int) (a5 : Int), v6 = .int .i64 a5 ∧ Aside0 (spec_l01Long.l0 kq a0 a1 a7 a5 = some r) ∧ Aside0 (kq ≤ k) ∧ Aside0 (Kd.R (Kd.int .u8) 5 w' w.heap.size (fun _ => True) v141 a7) ∧ Aside0 (Below w.heap.size w w'))
 case atStart => exact ⟨(aa), (0), tq_3, H', ⟨Nat.le_refl _⟩, ⟨(raR_ HO142)⟩, ⟨th_⟩⟩
 case round =>
 clear H'
 try clear p2; try clear c3; try clear af; try clear ag; try clear c4; try clear ah; try clear ai
 obtain ⟨a7, a5, rfl, HA, HK1, a6, HB⟩ := hrel
 cases gk with
 | zero => exact absurd HA.out (by simp [spec_l01Long.l0])
 | succ k1 =>
 have H := HA.out
 clear HA
 simp only [spec_l01Long.l0] at H
 by_cases c7 : a5 < a0
 rotate_left
 ·rw [if_neg c7] at H
  have aj := decide_eq_false c7
  clear c7
  obtain rfl := Option.some.inj H
  have hcv13 := own_string (P := Tryz.prog) Tryz.underlying83 Tryz.underlying5 Tryz.underlying9 (Kd.own_of_R a6.out)
  go_wp2
  go_ret
  exact ⟨tq_1, th_⟩
 rw [if_pos c7] at H
 have aj := decide_eq_true c7
 clear c7
 obtain ⟨c8, H⟩ := fc_ H
 have aq := decide_eq_true c8
 clear c8
 obtain ⟨c9, H⟩ := fc_ H
 have ar := decide_eq_true c9
 clear c9
 obtain ⟨a8, hy143⟩ : ∃ y_ : List Int, y_ = (a7.set (a5 : Int).toNat a1) := ⟨_, rfl⟩
 replace H : (spec_l01Long.l0 k1 a0 a1 a8 (wrap64 (a5 + 1))) = some r := by first | (rw [hy143]; with_reducible exact H) | (have H2_ := (Option.bind_some _ _).symm.trans H; rw [hy143]; with_reducible exact H2_) | (have H2_ := (Option.bind_some _ _).symm.trans H; with_reducible exact H2_) | with_reducible exact H | (rw [hy143]; exact H) | exact H
 have Ny143 := Aside0.mk hy143
 clear hy143
 have H' := Aside0.mk H
 clear H
 have p10 : 0 ≤ (a5 : Int) := of_decide_eq_true tq_2
 have q10 : (a5 : Int) < ((a7.length : Int) : Int) := of_decide_eq_true tq_2
 obtain ⟨a9, ak, ab, ac, al, au, ae⟩ := Kd.R_form a6.out (by omega)
 (first | cases ab | (injection ab with ea_ en_ ec_; (first | subst ea_ | (injection ea_ with ea_; subst ea_)); subst ec_; clear en_))
 have am := Aside0.mk ac
 have av := Aside0.mk ae
 clear ac al ae
 obtain ⟨an, ao⟩ := Kd.R_celln 0 a6.out (a5 : Int) p10 q10
 replace p10 := eq_true p10
 replace q10 := eq_true q10
 have HP11 := Kd.R_putg a6.out (a5 : Int) a1
 go_wp2_with (first | ((with_reducible refine gate_store (t := 5) (p := 17) rfl ?_); refine store_event (t := 5) (p := 17) (v := ?vo_w12) (w1 := (wr.setCell ⟨a9, (a5 : Int).toNat, none⟩ (.int .u8 a1))) ?hg ?ho ?hn ?hr ?_; (case ho => rfl); (case hg => rfl); (case hn => rfl); (case hr => first | (go_simp; done) | (go_simp; rfl)); intro ap hw; have hg : wr.grownBy ap (some a9) := (by rw [hw]; exact HP11.2); have hp_ : Kd.R (Kd.int .u8) 5 ap w.heap.size (fun _ => True) (.slice (some ⟨a9, 0, none⟩) a7.length ak) a8 := (by rw [hw, Ny143.out]; exact HP11.1); clear HP11; have z_ := p_ (hp_) <| a_ ((by rw [hw]; exact below_set (HB.out) am.out : Below w.heap.size w ap)); clear a6 HB; obtain ⟨a6, HB⟩ := z_; clear hg hw hp_))
 go_roundg k1
 case measure => have := HK1.out; omega
 case rel => exact ⟨(a8), (wrap64 (a5 + 1)), tq_3, H', ⟨tq_15⟩, ⟨(raR_ a6)⟩, ⟨th_⟩⟩

/-! ### spec_ZeroText: function 70 -/
def spec_ZeroText.f (k : Nat) (a0 : Int) : Option (ByteArray) := (spec_l01In.f a0 0 20000).bind fun t144 => (if t144 = true then ((spec_l01Long.f k a0 0).bind fun t145 => (some t145)) else (some (⟨#[]⟩ : ByteArray)))
set_option maxHeartbeats 8000000 in
set_option maxRecDepth 100000 in
theorem spec_ZeroText.calls (k : Nat) (a0 : Int) (r : ByteArray) (w : World) (h : spec_ZeroText.f k a0 = some r) :
  Calls Tryz.prog 70 #[.int .i64 a0] w fun e w' => e = .returned (.string r) ∧ Below w.heap.size w w' := by
 have HB := Aside0.mk (Below.refl w.heap.size w)
 unfold spec_ZeroText.f at h
 have H := h
 clear h
 obtain ⟨a5, A2, H⟩ := bd_ H
 have a7 := Aside0.mk H
 clear H
 go_enter Tryz.func70, Tryz.ntmps70
 go_upto_if 5 with (first | ((with_reducible refine gate_callee (f := 36) rfl ?_); refine goesL_ (some 4) rfl rfl Tryz.func36 (by kernel_rfl) rfl #[.int .i64 a0, .int .i64 0, .int .i64 20000] rfl tq_0 ?_; (with_reducible refine (spec_l01In.calls a0 0 20000 a5 _ A2.out).mono ?_); rintro e w' ⟨rfl, ⟨nd, rfl⟩⟩; refine ⟨_, rfl, ?_⟩))
 (try simp only [Act.put, List.setIfInBounds_toArray, List.set_cons_zero, List.set_cons_succ])
 have H := a7.out
 clear a7
 by_cases c4 : a5 = true
 rotate_left
 ·replace c4 := Bool.eq_false_iff.mpr c4
  subst c4
  rw [if_neg nf_] at H
  obtain rfl := Option.some.inj H
  go_wp2
  go_ret
  exact ⟨tq_1, th_⟩
 subst c4
 rw [if_pos rfl] at H
 obtain ⟨a6, A5, H⟩ := bd_ H
 obtain rfl := Option.some.inj H
 go_wp2_with (first | ((with_reducible refine gate_callee (f := 93) rfl ?_); refine goesL_ (some 7) rfl rfl Tryz.func93 (by kernel_rfl) rfl #[.int .i64 a0, .int .u8 0] rfl tq_0 ?_; (with_reducible refine (spec_l01Long.calls k a0 0 a6 _ A5.out).mono ?_); rintro e w6 ⟨rfl, hb⟩; refine ⟨_, rfl, ?_⟩; have n0_ := Aside0.mk (below_step th_ hb); clear HB; have HB := n0_; clear n0_; (try clear hb)))
 go_ret
 exact ⟨tq_1, th_⟩

/-! ### spec_WordText: function 68 -/
def spec_WordText.f (k : Nat) (a0 : ByteArray) : Option (ByteArray) := if (a0.size : Int) > 8 then (some (⟨#[]⟩ : ByteArray)) else ((spec_ZeroText.f k ((8 - (a0.size : Int)))).bind fun t146 => (if a0.size + t146.size ≤ 9223372036854775807 then (some (a0 ++ t146)) else (none)))
set_option maxHeartbeats 8000000 in
set_option maxRecDepth 100000 in
theorem spec_WordText.calls (k : Nat) (a0 : ByteArray) (r : ByteArray) (w : World) (h : spec_WordText.f k a0 = some r) :
  Calls Tryz.prog 68 #[.string a0] w fun e w' => e = .returned (.string r) ∧ Below w.heap.size w w' := by
 have HB := Aside0.mk (Below.refl w.heap.size w)
 unfold spec_WordText.f at h
 have H := h
 clear h
 by_cases c2 : (a0.size : Int) > 8
 ·rw [if_pos c2] at H
  have a6 := decide_eq_true c2
  have a7 : decide (8 < a0.size) = true := decide_eq_true (by omega)
  clear c2
  obtain rfl := Option.some.inj H
  go_enter Tryz.func68, Tryz.ntmps68
  go_wp2
  go_ret
  exact ⟨tq_1, th_⟩
 rw [if_neg c2] at H
 have a6 := decide_eq_false c2
 have a7 : decide (8 < a0.size) = false := decide_eq_false (by omega)
 clear c2
 obtain ⟨a5, A3, H⟩ := bd_ H
 obtain ⟨c4, H⟩ := fc_ H
 have a8 := eq_true c4
 have a9 := decide_eq_true c4
 try have aa : (9223372036854775807 < a0.size + a5.size) = False := eq_false (Nat.not_lt.2 c4)
 obtain rfl := Option.some.inj H
 go_enter Tryz.func68, Tryz.ntmps68
 go_wp2_with (first | ((with_reducible refine gate_callee (f := 70) rfl ?_); refine goesL_ (some 10) rfl rfl Tryz.func70 (by kernel_rfl) rfl #[.int .i64 ((8 - (a0.size : Int)))] rfl tq_0 ?_; (with_reducible refine (spec_ZeroText.calls k ((8 - (a0.size : Int))) a5 _ A3.out).mono ?_); rintro e w5 ⟨rfl, hb⟩; refine ⟨_, rfl, ?_⟩; have n0_ := Aside0.mk (below_step th_ hb); clear HB; have HB := n0_; clear n0_; (try clear hb)))
 go_ret
 exact ⟨tq_1, th_⟩

/-! ### spec_NameOk: function 92 -/
def spec_NameOk.l0 : Nat → ByteArray → Int → Option (Bool)
 | 0, _, _ => none
 | k + 1, x0, x3 => if x3 < (x0.size : Int) then (if 0 ≤ x3 then ((spec_l01In.f (wrap64 (bt x0 x3)) 97 122).bind fun t148 => (if t148 = true then (spec_NameOk.l0 k x0 (wrap64 (x3 + 1))) else ((spec_l01In.f (wrap64 (bt x0 x3)) 48 57).bind fun t149 => (if t149 = true then (spec_NameOk.l0 k x0 (wrap64 (x3 + 1))) else (some false))))) else (none)) else ((spec_l01In.f (x0.size : Int) 1 7).bind fun t147 => (some t147))
def spec_NameOk.f (k : Nat) (a0 : ByteArray) : Option (Bool) := spec_NameOk.l0 k a0 0
set_option maxHeartbeats 8000000 in
set_option maxRecDepth 100000 in
theorem spec_NameOk.calls (k : Nat) (a0 : ByteArray) (r : Bool) (w : World) (h : spec_NameOk.f k a0 = some r) :
  Calls Tryz.prog 92 #[.string a0] w fun e w' => e = .returned (.bool r) ∧ Drawn0 w w' := by
 unfold spec_NameOk.f at h
 have H := h
 clear h
 have H' := Aside0.mk H
 clear H
 go_enter Tryz.func92, Tryz.ntmps92
 go_wp2
 go_loopg [3] k (fun kq v3 w' => ∃ (a5 : Int), v3 = .int .i64 a5 ∧ Aside0 (spec_NameOk.l0 kq a0 a5 = some r) ∧ Aside0 (kq ≤ k) ∧ Drawn0 w w')
 case atStart => exact ⟨(0), tq_3, H', ⟨Nat.le_refl _⟩, tq_7⟩
 case round =>
 clear H'
 obtain ⟨a5, rfl, HA, HK1, ⟨m1, rfl⟩⟩ := hrel
 cases gk with
 | zero => exact absurd HA.out (by simp [spec_NameOk.l0])
 | succ k1 =>
 have H := HA.out
 clear HA
 simp only [spec_NameOk.l0] at H
 by_cases c2 : a5 < (a0.size : Int)
 rotate_left
 ·rw [if_neg c2] at H
  have a8 := decide_eq_false c2
  clear c2
  obtain ⟨a9, ac, H⟩ := bd_ H
  obtain rfl := Option.some.inj H
  go_wp2_with (first | ((with_reducible refine gate_callee (f := 36) rfl ?_); refine goesL_ (some 26) rfl rfl Tryz.func36 (by kernel_rfl) rfl #[.int .i64 (a0.size : Int), .int .i64 1, .int .i64 7] rfl tq_0 ?_; (with_reducible refine (spec_l01In.calls (a0.size : Int) 1 7 a9 _ ac.out).mono ?_); rintro e w' ⟨rfl, ⟨nd, rfl⟩⟩; refine ⟨_, rfl, ?_⟩))
  go_ret
  exact ⟨tq_3, tq_7⟩
 rw [if_pos c2] at H
 have a8 := decide_eq_true c2
 clear c2
 obtain ⟨c3, H⟩ := fc_ H
 have ae := decide_eq_true c3
 clear c3
 obtain ⟨aa, A5, H⟩ := bd_ H
 by_cases c6 : aa = true
 ·subst c6
  rw [if_pos rfl] at H
  have H' := Aside0.mk H
  clear H
  have p4 : 0 ≤ (a5 : Int) := of_decide_eq_true tq_2
  have q4 : a5 < (a0.size : Int) := of_decide_eq_true tq_2
  have hx4 := bt_at a0 a5
  replace p4 := eq_true p4
  replace q4 := eq_true q4
  go_wp2_with (first | ((with_reducible refine gate_callee (f := 36) rfl ?_); refine goesL_ (some 14) rfl rfl Tryz.func36 (by kernel_rfl) rfl #[.int .i64 (wrap64 (bt a0 a5)), .int .i64 97, .int .i64 122] rfl tq_0 ?_; (with_reducible refine (spec_l01In.calls (wrap64 (bt a0 a5)) 97 122 true _ A5.out).mono ?_); rintro e w' ⟨rfl, ⟨nd, rfl⟩⟩; refine ⟨_, rfl, ?_⟩))
  go_roundg k1
  case measure => have := HK1.out; omega
  case rel => exact ⟨(wrap64 (a5 + 1)), tq_3, H', ⟨tq_15⟩, tq_7⟩
 replace c6 := Bool.eq_false_iff.mpr c6
 subst c6
 rw [if_neg nf_] at H
 obtain ⟨a6, A8, H⟩ := bd_ H
 have ab := Aside0.mk H
 clear H
 have p4 : 0 ≤ (a5 : Int) := of_decide_eq_true tq_2
 have q4 : a5 < (a0.size : Int) := of_decide_eq_true tq_2
 have hx4 := bt_at a0 a5
 replace p4 := eq_true p4
 replace q4 := eq_true q4
 go_upto_if 23 with (first | ((with_reducible refine gate_callee (f := 36) rfl ?_); refine goesL_ (some 14) rfl rfl Tryz.func36 (by kernel_rfl) rfl #[.int .i64 (wrap64 (bt a0 a5)), .int .i64 97, .int .i64 122] rfl tq_0 ?_; (with_reducible refine (spec_l01In.calls (wrap64 (bt a0 a5)) 97 122 false _ A5.out).mono ?_); rintro e w' ⟨rfl, ⟨nd, rfl⟩⟩; refine ⟨_, rfl, ?_⟩; have p7 : 0 ≤ (a5 : Int) := of_decide_eq_true tq_2; have q7 : a5 < (a0.size : Int) := of_decide_eq_true tq_2; have hx7 := bt_at a0 a5; replace p7 := eq_true p7; replace q7 := eq_true q7) | (go_at_call 36; (with_reducible refine (spec_l01In.calls (wrap64 (bt a0 a5)) 48 57 a6 _ A8.out).mono ?_); rintro e w' ⟨rfl, ⟨nd, rfl⟩⟩))
 (try simp only [Act.put, List.setIfInBounds_toArray, List.set_cons_zero, List.set_cons_succ])
 have H := ab.out
 clear ab
 by_cases a7 : a6 = true
 rotate_left
 ·replace a7 := Bool.eq_false_iff.mpr a7
  subst a7
  rw [if_neg nf_] at H
  obtain rfl := Option.some.inj H
  go_wp2
  go_ret
  exact ⟨tq_3, tq_7⟩
 subst a7
 rw [if_pos rfl] at H
 have H' := Aside0.mk H
 clear H
 go_wp2
 go_roundg k1
 case measure => have := HK1.out; omega
 case rel => exact ⟨(wrap64 (a5 + 1)), tq_3, H', ⟨tq_15⟩, tq_7⟩

/-! ### spec_EntryWord: function 65 -/
def spec_EntryWord.j0 : Nat → Bool → Int → ByteArray → Option (ByteArray)
 | 0, _, _, _ => none
 | k + 1, x12, x151000, x151001 => if x12 = true then (some (⟨#[]⟩ : ByteArray)) else ((spec_NumText.f k x151000 1).bind fun t153 => (if t153.size + x151001.size ≤ 9223372036854775807 then ((spec_WordText.f k (t153 ++ x151001)).bind fun t154 => (some t154)) else (none)))
def spec_EntryWord.f (k : Nat) (a0_0 : Int) (a0_1 : ByteArray) : Option (ByteArray) := (spec_l01In.f a0_0 1 5).bind fun t151 => (if t151 = true then ((spec_NameOk.f k a0_1).bind fun t152 => (spec_EntryWord.j0 k (!t152) a0_0 a0_1)) else (spec_EntryWord.j0 k true a0_0 a0_1))
def spec_EntryWord.T3 : Bool × List (List Nat × List Nat) := (true, [([], []), ([0], [0]), ([1], [1]), ([], []), ([3], [3]), ([2, 4], [2, 4]), ([5, 2], [5]), ([6, 6, 0, 1, 2, 3, 4, 5, 6], [6])])
def spec_EntryWord.B3 : List Nat := [0, 1, 3, 0, 8, 31, 63, 127]
theorem spec_EntryWord.tab3 : rtab .any (opsOf Tryz.f65 3) = spec_EntryWord.T3 := by kernel_rfl
theorem spec_EntryWord.bits3 : waitsOk spec_EntryWord.T3.2 spec_EntryWord.B3 = true := by kernel_rfl
set_option maxHeartbeats 8000000 in
set_option maxRecDepth 100000 in
theorem spec_EntryWord.calls (k : Nat) (a6 : Int) (a7 : ByteArray) (r : ByteArray) (w : World) (h : spec_EntryWord.f k a6 a7 = some r) :
  Calls Tryz.prog 65 #[.agg #[.int .i64 a6, .string a7]] w fun e w' => e = .returned (.string r) ∧ Below w.heap.size w w' := by
 have hu72 := Tryz.underlying72
 have HB := Aside0.mk (Below.refl w.heap.size w)
 unfold spec_EntryWord.f at h
 have H := h
 clear h
 have ac := Aside0.mk H
 clear H
 go_enter Tryz.func65, Tryz.ntmps65
 go_upto_region 1 with (first | ((with_reducible refine gate_dst (N := 1) rfl ?_); refine be_ 1 (cs := #[.int .i64 a6, .string a7]) 72 ?_; intro a9 hg w3 hbox hb; have z_ := bx0_ th_ hb hbox hg; clear HB; obtain ⟨HB, a5, ah, ai⟩ := z_; clear hb hbox hg))
 (try simp only [Act.put, List.setIfInBounds_toArray, List.set_cons_zero, List.set_cons_succ])
 go_cut [12] (fun v12 wc => ∃ (kq : Nat) (a8 : Bool), v12 = .bool a8 ∧ Aside0 (spec_EntryWord.j0 kq a8 a6 a7 = some r) ∧ Aside0 (kq ≤ k) ∧ Aside0 (wc.heap[a9]? = some (.cells #[.int .i64 a6, .string a7] 72 (0, 0))) ∧ Aside0 (Below w.heap.size w wc))
 case first =>
  have H := ac.out
  clear ac
  obtain ⟨ae, A4, H⟩ := bd_ H
  by_cases c5 : ae = true
  rotate_left
  ·replace c5 := Bool.eq_false_iff.mpr c5
   subst c5
   rw [if_neg nf_] at H
   have H' := Aside0.mk H
   clear H
   have aj := bb2_ a5.out
   go_wp2_with (first | ((with_reducible refine gate_callee (f := 36) rfl ?_); refine goesL_ (some 5) rfl rfl Tryz.func36 (by kernel_rfl) rfl #[.int .i64 a6, .int .i64 1, .int .i64 5] rfl tq_0 ?_; (with_reducible refine (spec_l01In.calls a6 1 5 false _ A4.out).mono ?_); rintro e w' ⟨rfl, ⟨nd, rfl⟩⟩; refine ⟨_, rfl, ?_⟩))
   go_meet
   case rel => exact ⟨_, (true), tq_3, H', ⟨tq_12⟩, ⟨(kb_ a5)⟩, ⟨th_⟩⟩
  subst c5
  rw [if_pos rfl] at H
  obtain ⟨ab, A6, H⟩ := bd_ H
  have H' := Aside0.mk H
  clear H
  have ak := bb2_ a5.out
  go_wp2_with (first | ((with_reducible refine gate_callee (f := 36) rfl ?_); refine goesL_ (some 5) rfl rfl Tryz.func36 (by kernel_rfl) rfl #[.int .i64 a6, .int .i64 1, .int .i64 5] rfl tq_0 ?_; (with_reducible refine (spec_l01In.calls a6 1 5 true _ A4.out).mono ?_); rintro e w' ⟨rfl, ⟨nd, rfl⟩⟩; refine ⟨_, rfl, ?_⟩) | (go_at_call 92; (with_reducible refine (spec_NameOk.calls k a7 ab _ A6.out).mono ?_); rintro e w' ⟨rfl, ⟨nd, rfl⟩⟩))
  go_meet
  case rel => exact ⟨_, (!ab), tq_3, H', ⟨tq_12⟩, ⟨(kb_ a5)⟩, ⟨th_⟩⟩
 case rest =>
 clear ac
 try clear p2; try clear c3; try clear c5; try clear c6; try clear ak; try clear aj; try clear ak; try clear aj
 obtain ⟨kq, a8, rfl, HA, HJ1, a5, HB⟩ := hcut
 cases kq with
 | zero => exact absurd HA.out (by simp [spec_EntryWord.j0])
 | succ kj1 =>
 have H := HA.out
 clear HA
 simp only [spec_EntryWord.j0] at H
 by_cases c9 : a8 = true
 ·subst c9
  rw [if_pos rfl] at H
  obtain rfl := Option.some.inj H
  go_wp2
  go_ret
  exact ⟨tq_1, th_⟩
 replace c9 := Bool.eq_false_iff.mpr c9
 subst c9
 rw [if_neg nf_] at H
 obtain ⟨aa, ao, H⟩ := bd_ H
 obtain ⟨af, H⟩ := fc_ H
 have al := eq_true af
 have am := decide_eq_true af
 try have an : (9223372036854775807 < aa.size + a7.size) = False := eq_false (Nat.not_lt.2 af)
 obtain ⟨ag, ap, H⟩ := bd_ H
 obtain rfl := Option.some.inj H
 try go_wp2
 have z_ := dw1_ a5 HB
 clear a5 HB
 obtain ⟨a5, HB⟩ := z_
 refine start_ (n := 8) (S := fun w' => w'.cell? ⟨a9, 0, none⟩ = some (.int .i64 a6) ∧ w'.cell? ⟨a9, 1, none⟩ = some (.string a7)) (ds := []) bq_0 (by kernel_rfl) rfl rfl (bk2_ a5.out) (fun hHeld => ?_); refine with_tabW spec_EntryWord.tab3 spec_EntryWord.bits3 (fun HT_ HW_ => ?_)
 generalize wc.drew = aq at a5 HB hHeld ⊢
 refine yr_ 0 13 bq_1 HT_ ?_
 refine yr_ 3 16 bq_94 HT_ ?_
 refine tr_ 1 14 bq_95 HT_ HW_ hHeld ?_
 refine tr_ 4 17 bq_96 HT_ HW_ hHeld ?_
 refine one_ (i := 2) (N := some 15) bq_40 rfl rfl (one_of HT_.out (by kernel_rfl)) (by decide) (fun K hK => ?_)
 refine goes_ Tryz.func69 (by kernel_rfl) rfl #[.int .i64 a6, .int .i64 1] (by rfl) rfl rfl tq_0 ?_
 with_reducible refine (spec_NumText.calls kj1 a6 1 aa _ ao.out).mono ?_
 rintro e ar ⟨rfl, hb⟩
 refine ⟨_, rfl, ?_⟩
 have z_ := bw1_ (kb_ a5) th_ hb
 clear a5 HB
 obtain ⟨a5, HB⟩ := z_
 (try clear hb)
 refine hK.out _ _ (bk2_ a5.out) (fun hHeld => ?_)
 clear hK K
 refine nm_ (some 15) ?_
 refine yr_ 5 18 bq_2 HT_ ?_
 refine one_ (i := 6) (N := some 19) bq_3 rfl rfl (one_of HT_.out (by kernel_rfl)) (by decide) (fun K hK => ?_)
 refine goes_ Tryz.func68 (by kernel_rfl) rfl #[.string (aa ++ a7)] (by rfl) rfl rfl tq_0 ?_
 with_reducible refine (spec_WordText.calls kj1 (aa ++ a7) ag _ ap.out).mono ?_
 rintro e au ⟨rfl, hb⟩
 refine ⟨_, rfl, ?_⟩
 have z_ := bw1_ (kb_ a5) th_ hb
 clear a5 HB
 obtain ⟨a5, HB⟩ := z_
 (try clear hb)
 refine hK.out _ _ (bk2_ a5.out) (fun hHeld => ?_)
 clear hK K
 refine nm_ (some 19) ?_
 refine yr_ 7 2 bq_4 HT_ ?_
 refine done_ (done_of HT_.out (by kernel_rfl)) ?_
 try go_wp2
 go_ret
 exact ⟨tq_1, th_⟩

end Go.Proofs.YtleoknilacjakaaGreat.PFnExactPartWrites
