/- Contracts of Go functions, written by a program of ours over the print of the kit: each says that the call returns what the Lean function beside it computes. Conditions: as each theorem states them. -/
import Derived.Test.YtjfhddenmnjgbaaDoorPkFnAnyInode
import Derived.Test.YtjfhddenmnjgbaaDoorPFnAnyInodex0
namespace Go.Proofs.YtjfhddenmnjgbaaDoor.PFnAnyInode
open Go.RowKit Go.Proofs.YtjfhddenmnjgbaaDoorW.PrintWords Go.Proofs.YtjfhddenmnjgbaaDoorW.PrintLast Go.Proofs.YtjfhddenmnjgbaaDoorW.PrintMore
attribute [local go_sem] max2_int min2_int max_two min_two max_three min_three max_four min_four setCell_drewN   -- for this text's walks alone
set_option linter.unusedVariables false
set_option linter.unusedSimpArgs false

/-! ### spec_l01In: function 50 -/
def spec_l01In.f (a0 : Int) (a1 : Int) (a2 : Int) : Option (Bool) := if a0 ≥ a1 then (some (decide (a0 ≤ a2))) else (some false)
set_option maxHeartbeats 8000000 in
set_option maxRecDepth 100000 in
theorem spec_l01In.calls (a0 : Int) (a1 : Int) (a2 : Int) (r : Bool) (w : World) (h : spec_l01In.f a0 a1 a2 = some r) :
  Calls Tryd.prog 50 #[.int .i64 a0, .int .i64 a1, .int .i64 a2] w fun e w' => e = .returned (.bool r) ∧ Drawn0 w w' := by
 unfold spec_l01In.f at h
 have H := h
 clear h
 by_cases c4 : a0 ≥ a1
 ·rw [if_pos c4] at H
  have c4b0 := decide_eq_true c4
  clear c4
  obtain rfl := Option.some.inj H
  go_enter Tryd.func50, Tryd.ntmps50
  go_wp2
  go_ret
  exact ⟨tq_4, tq_11⟩
 rw [if_neg c4] at H
 have c4b0 := decide_eq_false c4
 clear c4
 obtain rfl := Option.some.inj H
 go_enter Tryd.func50, Tryd.ntmps50
 go_wp2
 go_ret
 exact ⟨tq_4, tq_11⟩

/-! ### spec_NumAt: function 29 -/
mutual
def spec_NumAt.j0 : Nat → ByteArray → Int → Int → Bool → Option (Int × Bool)
 | 0, _, _, _, _ => none
 | k + 1, x0, x1, x2, x21 => if x21 = true then (some (0, false)) else (spec_NumAt.l0 k x0 x1 x2 0 x1)
def spec_NumAt.l0 : Nat → ByteArray → Int → Int → Int → Int → Option (Int × Bool)
 | 0, _, _, _, _, _ => none
 | k + 1, x0, x1, x2, x8, x9 => if x9 < (wrap64 (x1 + x2)) then (if 0 ≤ x9 then (if x9 < (x0.size : Int) then (spec_NumAt.l0 k x0 x1 x2 (wrap64 ((wrap64 (256 * x8)) + (wrap64 (bt x0 x9)))) (wrap64 (x9 + 1))) else (none)) else (none)) else (some (x8, true))
end
def spec_NumAt.f (k : Nat) (a0 : ByteArray) (a1 : Int) (a2 : Int) : Option (Int × Bool) := (spec_l01In.f a2 1 7).bind fun t101 => (if t101 = true then ((spec_l01In.f a1 0 (wrap64 ((a0.size : Int) - a2))).bind fun t102 => (spec_NumAt.j0 k a0 a1 a2 (!t102))) else (spec_NumAt.j0 k a0 a1 a2 true))
theorem spec_NumAt.mono_l : ∀ k, (∀ y0 y1 y2 y3, LeO (spec_NumAt.j0 k y0 y1 y2 y3) (spec_NumAt.j0 (k + 1) y0 y1 y2 y3)) ∧ (∀ y0 y1 y2 y3 y4, LeO (spec_NumAt.l0 k y0 y1 y2 y3 y4) (spec_NumAt.l0 (k + 1) y0 y1 y2 y3 y4))
 | 0 => ⟨fun _ _ _ _ r h => by simp [spec_NumAt.j0] at h, fun _ _ _ _ _ r h => by simp [spec_NumAt.l0] at h⟩
 | k + 1 => by
  obtain ⟨ih0, ih1⟩ := spec_NumAt.mono_l k
  refine ⟨?_, ?_⟩
  ·intro y0 y1 y2 y3
   unfold spec_NumAt.j0
   exact mo_0
  ·intro y0 y1 y2 y3 y4
   unfold spec_NumAt.l0
   exact mo_0
theorem spec_NumAt.mono : ∀ a0 a1 a2 k, LeO (spec_NumAt.f k a0 a1 a2) (spec_NumAt.f (k + 1) a0 a1 a2) := by
 intro a0 a1 a2 k
 obtain ⟨ih0, ih1⟩ := spec_NumAt.mono_l k
 unfold spec_NumAt.f
 repeat' first
   | (with_reducible exact ih0 ..)
   | (with_reducible exact ih1 ..)
   | (with_reducible exact LeO.refl _)
   | (with_reducible exact LeO.none _)
   | (with_reducible refine LeO.ite ?_ ?_)
   | (with_reducible refine LeO.bind ?_ (fun _ => ?_))
   | exact ih0 ..
   | exact ih1 ..
   | exact LeO.none _
   | refine LeO.ite ?_ ?_
   | refine LeO.bind ?_ (fun _ => ?_)
set_option maxHeartbeats 8000000 in
set_option maxRecDepth 100000 in
theorem spec_NumAt.calls (k : Nat) (a0 : ByteArray) (a1 : Int) (a2 : Int) (r1 : Int) (r2 : Bool) (w : World) (h : spec_NumAt.f k a0 a1 a2 = some (r1, r2)) :
  Calls Tryd.prog 29 #[.string a0, .int .i64 a1, .int .i64 a2] w fun e w' => e = .returned (.tuple #[.int .i64 r1, .bool r2]) ∧ Drawn0 w w' := by
 unfold spec_NumAt.f at h
 have H := h
 clear h
 have HC4 := Aside0.mk H
 clear H
 go_enter Tryd.func29, Tryd.ntmps29
 go_upto_region 1 with (fail)
 go_cut [21] (fun v21 wc => ∃ (kq : Nat) (x21_3 : Bool), v21 = .bool x21_3 ∧ Aside0 (spec_NumAt.j0 kq a0 a1 a2 x21_3 = some (r1, r2)) ∧ Aside0 (kq ≤ k) ∧ Drawn0 w wc)
 case first =>
  have H := HC4.out
  clear HC4
  obtain ⟨t101, A5, H⟩ := bd_ H
  by_cases c6 : t101 = true
  rotate_left
  ·replace c6 := Bool.eq_false_iff.mpr c6
   subst c6
   rw [if_neg nf_] at H
   have H' := Aside0.mk H
   clear H
   go_wp2_with (first | ((with_reducible refine gate_callee (f := 50) rfl ?_); refine goesL_ (some 11) rfl rfl Tryd.func50 (by kernel_rfl) rfl #[.int .i64 a2, .int .i64 1, .int .i64 7] rfl tq_0 ?_; (with_reducible refine (spec_l01In.calls a2 1 7 false _ A5.out).mono ?_); rintro e w' ⟨rfl, ⟨nd, rfl⟩⟩; refine ⟨_, rfl, ?_⟩))
   go_meet
   case rel => exact ⟨_, (true), tq_4, H', ⟨tq_26⟩, tq_11⟩
  subst c6
  rw [if_pos rfl] at H
  obtain ⟨t102, A7, H⟩ := bd_ H
  have H' := Aside0.mk H
  clear H
  go_wp2_with (first | ((with_reducible refine gate_callee (f := 50) rfl ?_); refine goesL_ (some 11) rfl rfl Tryd.func50 (by kernel_rfl) rfl #[.int .i64 a2, .int .i64 1, .int .i64 7] rfl tq_0 ?_; (with_reducible refine (spec_l01In.calls a2 1 7 true _ A5.out).mono ?_); rintro e w' ⟨rfl, ⟨nd, rfl⟩⟩; refine ⟨_, rfl, ?_⟩) | (go_at_call 50; (with_reducible refine (spec_l01In.calls a1 0 (wrap64 ((a0.size : Int) - a2)) t102 _ A7.out).mono ?_); rintro e w' ⟨rfl, ⟨nd, rfl⟩⟩))
  go_meet
  case rel => exact ⟨_, (!t102), tq_4, H', ⟨tq_26⟩, tq_11⟩
 case rest =>
 clear HC4
 try clear c2; try clear p2; try clear c5; try clear c6; try clear p6
 obtain ⟨kq, x21_3, rfl, HA, HJ3, ⟨mc3, rfl⟩⟩ := hcut
 cases kq with
 | zero => exact absurd HA.out (by simp [spec_NumAt.j0])
 | succ kj3 =>
 have H := HA.out
 clear HA
 simp only [spec_NumAt.j0] at H
 by_cases c8 : x21_3 = true
 ·subst c8
  rw [if_pos rfl] at H
  simp only [Option.some.injEq, Prod.mk.injEq] at H
  obtain ⟨rfl, rfl⟩ := H
  go_wp2
  go_ret2
  exact ⟨tq_4, tq_11⟩
 replace c8 := Bool.eq_false_iff.mpr c8
 subst c8
 rw [if_neg nf_] at H
 have H' := Aside0.mk H
 clear H
 go_wp2
 go_loopg [8, 9] kj3 (fun kq v8 v9 w' => ∃ (x8_2 : Int) (x9_2 : Int), v8 = .int .i64 x8_2 ∧ v9 = .int .i64 x9_2 ∧ Aside0 (spec_NumAt.l0 kq a0 a1 a2 x8_2 x9_2 = some (r1, r2)) ∧ Aside0 (kq ≤ kj3) ∧ Drawn0 w w')
 case atStart => exact ⟨(0), (a1), tq_4, tq_4, H', ⟨Nat.le_refl _⟩, tq_11⟩
 case round =>
 clear H'
 try clear c2; try clear p2; try clear c3; try clear c5; try clear c6; try clear p6; try clear c8; try clear p2; try clear p6
 obtain ⟨x8_2, x9_2, rfl, rfl, HA, HK2, ⟨m2, rfl⟩⟩ := hrel
 cases gk with
 | zero => exact absurd HA.out (by simp [spec_NumAt.l0])
 | succ k2 =>
 have H := HA.out
 clear HA
 simp only [spec_NumAt.l0] at H
 by_cases c9 : x9_2 < (wrap64 (a1 + a2))
 rotate_left
 ·rw [if_neg c9] at H
  have c9b0 := decide_eq_false c9
  clear c9
  simp only [Option.some.injEq, Prod.mk.injEq] at H
  obtain ⟨rfl, rfl⟩ := H
  go_wp2
  go_ret2
  exact ⟨tq_4, tq_11⟩
 rw [if_pos c9] at H
 have c9b0 := decide_eq_true c9
 clear c9
 obtain ⟨c10, H⟩ := fc_ H
 have c10b0 := decide_eq_true c10
 clear c10
 obtain ⟨c11, H⟩ := fc_ H
 have c11b0 := decide_eq_true c11
 clear c11
 have H' := Aside0.mk H
 clear H
 have p12 : 0 ≤ (x9_2 : Int) := of_decide_eq_true tq_1
 have q12 : x9_2 < (a0.size : Int) := of_decide_eq_true tq_1
 have hx12 := bt_at a0 x9_2
 replace p12 := eq_true p12
 replace q12 := eq_true q12
 go_wp2
 go_roundg k2
 case measure => have := HJ3.out; have := HK2.out; omega
 case rel => exact ⟨(wrap64 ((wrap64 (256 * x8_2)) + (wrap64 (bt a0 x9_2)))), (wrap64 (x9_2 + 1)), tq_4, tq_4, H', ⟨(by have := HJ3.out; have := HK2.out; omega)⟩, tq_11⟩

/-! ### spec_l01Long: function 65 -/
def spec_l01Long.l0 : Nat → Int → Int → List Int → Int → Option (ByteArray)
 | 0, _, _, _, _ => none
 | k + 1, x0, x1, x5, x6 => if x6 < x0 then (if 0 ≤ x6 then (if x6 < (x5.length : Int) then (spec_l01Long.l0 k x0 x1 (x5.set (x6 : Int).toNat x1) (wrap64 (x6 + 1))) else (none)) else (none)) else (some (strOfNums x5))
def spec_l01Long.f (k : Nat) (a0 : Int) (a1 : Int) : Option (ByteArray) := if 0 ≤ a0 then (if (a0 : Int).toNat ≤ 281474976710656 then (spec_l01Long.l0 k a0 a1 (List.replicate (a0 : Int).toNat 0) 0) else (none)) else (none)
theorem spec_l01Long.mono_l : ∀ k, (∀ y0 y1 y2 y3, LeO (spec_l01Long.l0 k y0 y1 y2 y3) (spec_l01Long.l0 (k + 1) y0 y1 y2 y3))
 | 0 => fun _ _ _ _ r h => by simp [spec_l01Long.l0] at h
 | k + 1 => by
  have ih0 := spec_l01Long.mono_l k
  ·intro y0 y1 y2 y3
   unfold spec_l01Long.l0
   exact mo_1
theorem spec_l01Long.mono : ∀ a0 a1 k, LeO (spec_l01Long.f k a0 a1) (spec_l01Long.f (k + 1) a0 a1) := by
 intro a0 a1 k
 have ih0 := spec_l01Long.mono_l k
 unfold spec_l01Long.f
 repeat' first
   | (with_reducible exact ih0 ..)
   | (with_reducible exact LeO.refl _)
   | (with_reducible exact LeO.none _)
   | (with_reducible refine LeO.ite ?_ ?_)
   | (with_reducible refine LeO.bind ?_ (fun _ => ?_))
   | exact ih0 ..
   | exact LeO.none _
   | refine LeO.ite ?_ ?_
   | refine LeO.bind ?_ (fun _ => ?_)
set_option maxHeartbeats 8000000 in
set_option maxRecDepth 100000 in
theorem spec_l01Long.calls (k : Nat) (a0 : Int) (a1 : Int) (r : ByteArray) (w : World) (h : spec_l01Long.f k a0 a1 = some r) :
  Calls Tryd.prog 65 #[.int .i64 a0, .int .u8 a1] w fun e w' => e = .returned (.string r) ∧ Below w.heap.size w w' := by
 have HB := Aside0.mk (Below.refl w.heap.size w)
 unfold spec_l01Long.f at h
 have H := h
 clear h
 obtain ⟨c3, H⟩ := fc_ H
 have c3b0 := eq_true c3
 have c3b1 := decide_eq_true c3
 clear c3
 obtain ⟨c4, H⟩ := fc_ H
 have c4b0 := eq_true c4
 have c4b1 := decide_eq_true c4
 clear c4
 obtain ⟨y103, hy103⟩ : ∃ y_ : List Int, y_ = (List.replicate (a0 : Int).toNat 0) := ⟨_, rfl⟩
 replace H : (spec_l01Long.l0 k a0 a1 y103 0) = some r := by first | (rw [hy103]; with_reducible exact H) | (have H2_ := (Option.bind_some _ _).symm.trans H; rw [hy103]; with_reducible exact H2_) | (have H2_ := (Option.bind_some _ _).symm.trans H; with_reducible exact H2_) | with_reducible exact H | (rw [hy103]; exact H) | exact H
 have Ny103 := Aside0.mk hy103
 clear hy103
 have H' := Aside0.mk H
 clear H
 go_enter Tryd.func65, Tryd.ntmps65
 go_wp2_with (first | ((with_reducible refine gate_dst (N := 8) rfl ?_); refine Kd.R_make (Kd.int .u8) _ 5 rfl (N := 8) rfl 35 _ _ rfl a0 rfl rfl Tryd.underlying35 (.int .u8 0) 1 info5 rfl (by decide) (by omega) 0 (ok := fun _ => True) (okp := fun _ => True) rfl (fun _ hk => hk) trivial (of_decide_eq_true tq_1) (Nat.le_trans (Nat.mul_le_mul_right _ (of_decide_eq_true tq_1 : a0.toNat ≤ 281474976710656)) (by omega)) (Below.refl _ _) (Nat.le_refl _) ?_; intro v104 w5 ho6 hb hg_ hnew_; clear hg_ hnew_; (first | rw [← Ny103.out] at ho6 | (simp only [Int.reduceToNat] at ho6; rw [← Ny103.out] at ho6)); have z_ := p_ (Kd.R_lower ho6 (below_size th_)) <| a_ (below_step th_ hb); clear HB; obtain ⟨HO105, HB⟩ := z_; clear hb ho6))
 go_loopg [6] k (fun kq v6 w' => ∃ (x5_1 : List Int) (x6_1 : Int), v6 = .int .i64 x6_1 ∧ Aside0 (spec_l01Long.l0 kq a0 a1 x5_1 x6_1 = some r) ∧ Aside0 (kq ≤ k) ∧ Aside0 (Kd.R (Kd.int .u8) 5 w' w.heap.size (fun _ => True) v104 x5_1) ∧ Aside0 (Below w.heap.size w w'))
 case atStart => exact ⟨(y103), (0), tq_4, H', ⟨Nat.le_refl _⟩, ⟨(raR_ HO105)⟩, ⟨th_⟩⟩
 case round =>
 clear H'
 try clear p2; try clear c3; try clear c3b0; try clear c3b1; try clear c4; try clear c4b0; try clear c4b1; try clear c6
 obtain ⟨x5_1, x6_1, rfl, HA, HK1, HO_5, HB⟩ := hrel
 cases gk with
 | zero => exact absurd HA.out (by simp [spec_l01Long.l0])
 | succ k1 =>
 have H := HA.out
 clear HA
 simp only [spec_l01Long.l0] at H
 by_cases c7 : x6_1 < a0
 rotate_left
 ·rw [if_neg c7] at H
  have c7b0 := decide_eq_false c7
  clear c7
  obtain rfl := Option.some.inj H
  have hcv13 := own_string (P := Tryd.prog) Tryd.underlying35 Tryd.underlying5 Tryd.underlying9 (Kd.own_of_R HO_5.out)
  go_wp2
  go_ret
  exact ⟨tq_2, th_⟩
 rw [if_pos c7] at H
 have c7b0 := decide_eq_true c7
 clear c7
 obtain ⟨c8, H⟩ := fc_ H
 have c8b0 := decide_eq_true c8
 clear c8
 obtain ⟨c9, H⟩ := fc_ H
 have c9b0 := decide_eq_true c9
 clear c9
 obtain ⟨y106, hy106⟩ : ∃ y_ : List Int, y_ = (x5_1.set (x6_1 : Int).toNat a1) := ⟨_, rfl⟩
 replace H : (spec_l01Long.l0 k1 a0 a1 y106 (wrap64 (x6_1 + 1))) = some r := by first | (rw [hy106]; with_reducible exact H) | (have H2_ := (Option.bind_some _ _).symm.trans H; rw [hy106]; with_reducible exact H2_) | (have H2_ := (Option.bind_some _ _).symm.trans H; with_reducible exact H2_) | with_reducible exact H | (rw [hy106]; exact H) | exact H
 have Ny106 := Aside0.mk hy106
 clear hy106
 have H' := Aside0.mk H
 clear H
 have p10 : 0 ≤ (x6_1 : Int) := of_decide_eq_true tq_1
 have q10 : (x6_1 : Int) < ((x5_1.length : Int) : Int) := of_decide_eq_true tq_1
 obtain ⟨go10, co10, eo10, gb10, gl10, cl10, HG10⟩ := Kd.R_form HO_5.out (by omega)
 (first | cases eo10 | (injection eo10 with ea_ en_ ec_; (first | subst ea_ | (injection ea_ with ea_; subst ea_)); subst ec_; clear en_))
 have GB10 := Aside0.mk gb10
 have GG10 := Aside0.mk HG10
 clear gb10 gl10 HG10
 obtain ⟨hx10_0, hf10_0⟩ := Kd.R_celln 0 HO_5.out (x6_1 : Int) p10 q10
 replace p10 := eq_true p10
 replace q10 := eq_true q10
 have HP11 := Kd.R_putg HO_5.out (x6_1 : Int) a1
 go_wp2_with (first | ((with_reducible refine gate_store (t := 5) (p := 17) rfl ?_); refine store_event (t := 5) (p := 17) (v := ?vo_w12) (w1 := (wr.setCell ⟨go10, (x6_1 : Int).toNat, none⟩ (.int .u8 a1))) ?hg ?ho ?hn ?hr ?_; (case ho => rfl); (case hg => rfl); (case hn => rfl); (case hr => first | (go_simp; done) | (go_simp; rfl)); intro w12 hw; have hg : wr.grownBy w12 (some go10) := (by rw [hw]; exact HP11.2); have hp_ : Kd.R (Kd.int .u8) 5 w12 w.heap.size (fun _ => True) (.slice (some ⟨go10, 0, none⟩) x5_1.length co10) y106 := (by rw [hw, Ny106.out]; exact HP11.1); clear HP11; have z_ := p_ (hp_) <| a_ ((by rw [hw]; exact below_set (HB.out) GB10.out : Below w.heap.size w w12)); clear HO_5 HB; obtain ⟨HO_5, HB⟩ := z_; clear hg hw hp_))
 go_roundg k1
 case measure => have := HK1.out; omega
 case rel => exact ⟨(y106), (wrap64 (x6_1 + 1)), tq_4, H', ⟨tq_56⟩, ⟨(raR_ HO_5)⟩, ⟨th_⟩⟩

/-! ### spec_ZeroText: function 30 -/
def spec_ZeroText.f (k : Nat) (a0 : Int) : Option (ByteArray) := (spec_l01In.f a0 0 20000).bind fun t107 => (if t107 = true then ((spec_l01Long.f k a0 0).bind fun t108 => (some t108)) else (some (⟨#[]⟩ : ByteArray)))
theorem spec_ZeroText.mono : ∀ a0 k, LeO (spec_ZeroText.f k a0) (spec_ZeroText.f (k + 1) a0) := by
 intro a0 k
 unfold spec_ZeroText.f
 repeat' first
   | (with_reducible exact spec_l01Long.mono ..)
   | (with_reducible exact LeO.refl _)
   | (with_reducible exact LeO.none _)
   | (with_reducible refine LeO.ite ?_ ?_)
   | (with_reducible refine LeO.bind ?_ (fun _ => ?_))
   | exact spec_l01Long.mono ..
   | exact LeO.none _
   | refine LeO.ite ?_ ?_
   | refine LeO.bind ?_ (fun _ => ?_)
set_option maxHeartbeats 8000000 in
set_option maxRecDepth 100000 in
theorem spec_ZeroText.calls (k : Nat) (a0 : Int) (r : ByteArray) (w : World) (h : spec_ZeroText.f k a0 = some r) :
  Calls Tryd.prog 30 #[.int .i64 a0] w fun e w' => e = .returned (.string r) ∧ Below w.heap.size w w' := by
 have HB := Aside0.mk (Below.refl w.heap.size w)
 unfold spec_ZeroText.f at h
 have H := h
 clear h
 obtain ⟨t107, A2, H⟩ := bd_ H
 by_cases c3 : t107 = true
 rotate_left
 ·replace c3 := Bool.eq_false_iff.mpr c3
  subst c3
  rw [if_neg nf_] at H
  obtain rfl := Option.some.inj H
  go_enter Tryd.func30, Tryd.ntmps30
  go_wp2_with (first | ((with_reducible refine gate_callee (f := 50) rfl ?_); refine goesL_ (some 4) rfl rfl Tryd.func50 (by kernel_rfl) rfl #[.int .i64 a0, .int .i64 0, .int .i64 20000] rfl tq_0 ?_; (with_reducible refine (spec_l01In.calls a0 0 20000 false _ A2.out).mono ?_); rintro e w' ⟨rfl, ⟨nd, rfl⟩⟩; refine ⟨_, rfl, ?_⟩))
  go_ret
  exact ⟨tq_2, th_⟩
 subst c3
 rw [if_pos rfl] at H
 obtain ⟨t108, A4, H⟩ := bd_ H
 obtain rfl := Option.some.inj H
 go_enter Tryd.func30, Tryd.ntmps30
 go_wp2_with (first | ((with_reducible refine gate_callee (f := 50) rfl ?_); refine goesL_ (some 4) rfl rfl Tryd.func50 (by kernel_rfl) rfl #[.int .i64 a0, .int .i64 0, .int .i64 20000] rfl tq_0 ?_; (with_reducible refine (spec_l01In.calls a0 0 20000 true _ A2.out).mono ?_); rintro e w' ⟨rfl, ⟨nd, rfl⟩⟩; refine ⟨_, rfl, ?_⟩) | ((with_reducible refine gate_callee (f := 65) rfl ?_); refine goesL_ (some 7) rfl rfl Tryd.func65 (by kernel_rfl) rfl #[.int .i64 a0, .int .u8 0] rfl tq_0 ?_; (with_reducible refine (spec_l01Long.calls k a0 0 t108 _ A4.out).mono ?_); rintro e w5 ⟨rfl, hb⟩; refine ⟨_, rfl, ?_⟩; have n0_ := Aside0.mk (below_step th_ hb); clear HB; have HB := n0_; clear n0_; (try clear hb)))
 go_ret
 exact ⟨tq_2, th_⟩

/-! ### spec_NumText: function 67 -/
mutual
def spec_NumText.j0 : Nat → Int → Int → Bool → Option (ByteArray)
 | 0, _, _, _ => none
 | k + 1, x0, x1, x21 => if x21 = true then (some (⟨#[]⟩ : ByteArray)) else (spec_NumText.l0 k x0 (([] : List Int)) (wrap64 (x1 - 1)))
def spec_NumText.l0 : Nat → Int → List Int → Int → Option (ByteArray)
 | 0, _, _, _ => none
 | k + 1, x0, x5, x6 => if x6 ≥ 0 then (if 0 ≤ (IntKind.u64.wrap (8 * (IntKind.u64.wrap (x6)))) then (if x5.length < 140737488355328 then (spec_NumText.l0 k x0 (x5 ++ [(shr .i64 x0 (IntKind.u64.wrap (8 * (IntKind.u64.wrap (x6))))) % 256]) (wrap64 (x6 - 1))) else (none)) else (none)) else (some (strOfNums x5))
end
def spec_NumText.f (k : Nat) (a0 : Int) (a1 : Int) : Option (ByteArray) := if a0 < 0 then (spec_NumText.j0 k a0 a1 true) else ((spec_l01In.f a1 1 7).bind fun t109 => (if t109 = true then (if 0 ≤ (IntKind.u64.wrap (8 * (IntKind.u64.wrap (a1)))) then (spec_NumText.j0 k a0 a1 (decide ((shr .i64 a0 (IntKind.u64.wrap (8 * (IntKind.u64.wrap (a1))))) > 0))) else (none)) else (spec_NumText.j0 k a0 a1 true)))
theorem spec_NumText.mono_l : ∀ k, (∀ y0 y1 y2, LeO (spec_NumText.j0 k y0 y1 y2) (spec_NumText.j0 (k + 1) y0 y1 y2)) ∧ (∀ y0 y1 y2, LeO (spec_NumText.l0 k y0 y1 y2) (spec_NumText.l0 (k + 1) y0 y1 y2))
 | 0 => ⟨fun _ _ _ r h => by simp [spec_NumText.j0] at h, fun _ _ _ r h => by simp [spec_NumText.l0] at h⟩
 | k + 1 => by
  obtain ⟨ih0, ih1⟩ := spec_NumText.mono_l k
  refine ⟨?_, ?_⟩
  ·intro y0 y1 y2
   unfold spec_NumText.j0
   exact mo_0
  ·intro y0 y1 y2
   unfold spec_NumText.l0
   exact mo_0
theorem spec_NumText.mono : ∀ a0 a1 k, LeO (spec_NumText.f k a0 a1) (spec_NumText.f (k + 1) a0 a1) := by
 intro a0 a1 k
 obtain ⟨ih0, ih1⟩ := spec_NumText.mono_l k
 unfold spec_NumText.f
 repeat' first
   | (with_reducible exact ih0 ..)
   | (with_reducible exact ih1 ..)
   | (with_reducible exact LeO.refl _)
   | (with_reducible exact LeO.none _)
   | (with_reducible refine LeO.ite ?_ ?_)
   | (with_reducible refine LeO.bind ?_ (fun _ => ?_))
   | exact ih0 ..
   | exact ih1 ..
   | exact LeO.none _
   | refine LeO.ite ?_ ?_
   | refine LeO.bind ?_ (fun _ => ?_)
set_option maxHeartbeats 8000000 in
set_option maxRecDepth 100000 in
theorem spec_NumText.calls (k : Nat) (a0 : Int) (a1 : Int) (r : ByteArray) (w : World) (h : spec_NumText.f k a0 a1 = some r) :
  Calls Tryd.prog 67 #[.int .i64 a0, .int .i64 a1] w fun e w' => e = .returned (.string r) ∧ Below w.heap.size w w' := by
 have HB := Aside0.mk (Below.refl w.heap.size w)
 unfold spec_NumText.f at h
 have H := h
 clear h
 have HC3 := Aside0.mk H
 clear H
 go_enter Tryd.func67, Tryd.ntmps67
 go_upto_region 1 with (fail)
 go_cut [21] (fun v21 wc => ∃ (kq : Nat) (x21_2 : Bool), v21 = .bool x21_2 ∧ Aside0 (spec_NumText.j0 kq a0 a1 x21_2 = some r) ∧ Aside0 (kq ≤ k) ∧ Aside0 (Below w.heap.size w wc))
 case first =>
  have H := HC3.out
  clear HC3
  by_cases c4 : a0 < 0
  ·rw [if_pos c4] at H
   have c4b0 := decide_eq_true c4
   clear c4
   (first | rw [c4b0] | (simp only [i64_w, i32_w]; rw [c4b0]) | skip)
   have H' := Aside0.mk H
   clear H
   go_wp2
   go_meet
   case rel => exact ⟨_, (true), tq_4, H', ⟨tq_26⟩, ⟨th_⟩⟩
  rw [if_neg c4] at H
  have c4b0 := decide_eq_false c4
  clear c4
  (first | rw [c4b0] | (simp only [i64_w, i32_w]; rw [c4b0]) | skip)
  obtain ⟨t109, A5, H⟩ := bd_ H
  by_cases c6 : t109 = true
  rotate_left
  ·replace c6 := Bool.eq_false_iff.mpr c6
   subst c6
   rw [if_neg nf_] at H
   have H' := Aside0.mk H
   clear H
   go_wp2_with (first | (go_at_call 50; (with_reducible refine (spec_l01In.calls a1 1 7 false _ A5.out).mono ?_); rintro e w' ⟨rfl, ⟨nd, rfl⟩⟩))
   go_meet
   case rel => exact ⟨_, (true), tq_4, H', ⟨tq_26⟩, ⟨th_⟩⟩
  subst c6
  rw [if_pos rfl] at H
  obtain ⟨ji7, hji7⟩ : ∃ j_ : Int, (IntKind.u64.wrap (8 * (IntKind.u64.wrap (a1)))) = j_ := ⟨_, rfl⟩
  replace H : (if 0 ≤ (ji7) then (spec_NumText.j0 k a0 a1 (decide ((shr .i64 a0 (ji7)) > 0))) else (none)) = some r := by first | (rw [hji7] at H; exact H) | (simp only [hji7] at H ⊢; exact H)
  (try rw [hji7] at A5)
  obtain ⟨c8, H⟩ := fc_ H
  have c8b0 := eq_true c8
  have c8b1 := decide_eq_true c8
  clear c8
  obtain ⟨ji9, hji9⟩ : ∃ j_ : Int, (shr .i64 a0 (ji7)) = j_ := ⟨_, rfl⟩
  replace H : (spec_NumText.j0 k a0 a1 (decide ((ji9) > 0))) = some r := by first | (rw [hji9] at H; exact H) | (simp only [hji9] at H ⊢; exact H)
  (try rw [hji9] at A5)
  have hji9_ : (a0 / 2 ^ min (ji7).toNat 64) = ji9 := hji9
  have hji9z : (ji7) ≤ 64 → (a0 / 2 ^ (ji7).toNat) = ji9 := shr_small hji9
  have H' := Aside0.mk H
  clear H
  go_wp2_with (first | (go_at_call 50; (with_reducible refine (spec_l01In.calls a1 1 7 true _ A5.out).mono ?_); rintro e w' ⟨rfl, ⟨nd, rfl⟩⟩))
  go_meet
  case rel => exact ⟨_, (decide ((ji9) > 0)), (by first | rfl | (simp; done) | (simp only [← hji9] <;> (first | rfl | simp)) | (simp [*]; done)), H', ⟨tq_26⟩, ⟨th_⟩⟩
 case rest =>
 clear HC3
 try clear p2; try clear c4; try clear c4b0; try clear c6; try clear c8; try clear c8b0; try clear c8b1
 obtain ⟨kq, x21_2, rfl, HA, HJ2, HB⟩ := hcut
 cases kq with
 | zero => exact absurd HA.out (by simp [spec_NumText.j0])
 | succ kj2 =>
 have H := HA.out
 clear HA
 simp only [spec_NumText.j0] at H
 by_cases c10 : x21_2 = true
 ·subst c10
  rw [if_pos rfl] at H
  obtain rfl := Option.some.inj H
  go_wp2
  go_ret
  exact ⟨tq_2, th_⟩
 replace c10 := Bool.eq_false_iff.mpr c10
 subst c10
 rw [if_neg nf_] at H
 obtain ⟨y110, hy110⟩ : ∃ y_ : List Int, y_ = (([] : List Int)) := ⟨_, rfl⟩
 replace H : (spec_NumText.l0 kj2 a0 y110 (wrap64 (a1 - 1))) = some r := by first | (rw [hy110]; with_reducible exact H) | (have H2_ := (Option.bind_some _ _).symm.trans H; rw [hy110]; with_reducible exact H2_) | (have H2_ := (Option.bind_some _ _).symm.trans H; with_reducible exact H2_) | with_reducible exact H | (rw [hy110]; exact H) | exact H
 have Ny110 := Aside0.mk hy110
 clear hy110
 have H' := Aside0.mk H
 clear H
 go_wp2_with (first | ((with_reducible refine gate_dst (N := 22) rfl ?_); refine Kd.R_lit (Kd.int .u8) _ 5 ?hg (N := 22) ?hd (xs := ([] : List Int)) (inner := []) (ok := fun _ => True) (okp := fun _ => True) ?hr ?hp (fun _ hk => hk) trivial (Below.refl _ _) (Nat.le_refl _) (by simp) ?_; (case hd => rfl); (case hg => rfl); (case hr => first | (go_simp; done) | (go_simp; rfl)); (case hp => exact (Reps.none _ _)); intro v111 w11 ho12 hb hg_ hnew_; clear hg_ hnew_; (first | rw [← Ny110.out] at ho12 | (simp only [Int.reduceToNat] at ho12; rw [← Ny110.out] at ho12)); have z_ := p_ (Kd.R_lower ho12 (below_size th_)) <| a_ (below_step th_ hb); clear HB; obtain ⟨HO112, HB⟩ := z_; clear hb ho12))
 go_loopg [5, 6] kj2 (fun kq v5 v6 w' => ∃ (x5_2 : List Int) (x6_2 : Int), v6 = .int .i64 x6_2 ∧ Aside0 (spec_NumText.l0 kq a0 x5_2 x6_2 = some r) ∧ Aside0 (kq ≤ kj2) ∧ Aside0 (Kd.R (Kd.int .u8) 5 w' w.heap.size (fun _ => True) v5 x5_2) ∧ Aside0 (Below w.heap.size w w'))
 case atStart => exact ⟨(y110), (wrap64 (a1 - 1)), tq_4, H', ⟨Nat.le_refl _⟩, ⟨(raR_ HO112)⟩, ⟨th_⟩⟩
 case round =>
 clear H'
 try clear c1; try clear p2; try clear c4; try clear c4b0; try clear c6; try clear p6; try clear c8; try clear c8b0; try clear c8b1; try clear c10; try clear p2
 obtain ⟨x5_2, x6_2, rfl, HA, HK2, HO_5, HB⟩ := hrel
 cases gk with
 | zero => exact absurd HA.out (by simp [spec_NumText.l0])
 | succ k2 =>
 have H := HA.out
 clear HA
 simp only [spec_NumText.l0] at H
 by_cases c13 : x6_2 ≥ 0
 rotate_left
 ·rw [if_neg c13] at H
  have c13b0 := decide_eq_false c13
  clear c13
  obtain rfl := Option.some.inj H
  have hcv19 := own_string (P := Tryd.prog) Tryd.underlying35 Tryd.underlying5 Tryd.underlying9 (Kd.own_of_R HO_5.out)
  go_wp2
  go_ret
  exact ⟨tq_2, th_⟩
 rw [if_pos c13] at H
 have c13b0 := decide_eq_true c13
 clear c13
 obtain ⟨ji14, hji14⟩ : ∃ j_ : Int, (IntKind.u64.wrap (8 * (IntKind.u64.wrap (x6_2)))) = j_ := ⟨_, rfl⟩
 replace H : (if 0 ≤ (ji14) then (if x5_2.length < 140737488355328 then (spec_NumText.l0 k2 a0 (x5_2 ++ [(shr .i64 a0 (ji14)) % 256]) (wrap64 (x6_2 - 1))) else (none)) else (none)) = some r := by first | (rw [hji14] at H; exact H) | (simp only [hji14] at H ⊢; exact H)
 obtain ⟨c15, H⟩ := fc_ H
 have c15b0 := eq_true c15
 have c15b1 := decide_eq_true c15
 clear c15
 obtain ⟨ji16, hji16⟩ : ∃ j_ : Int, (shr .i64 a0 (ji14)) = j_ := ⟨_, rfl⟩
 replace H : (if x5_2.length < 140737488355328 then (spec_NumText.l0 k2 a0 (x5_2 ++ [(ji16) % 256]) (wrap64 (x6_2 - 1))) else (none)) = some r := by first | (rw [hji16] at H; exact H) | (simp only [hji16] at H ⊢; exact H)
 have hji16_ : (a0 / 2 ^ min (ji14).toNat 64) = ji16 := hji16
 have hji16z : (ji14) ≤ 64 → (a0 / 2 ^ (ji14).toNat) = ji16 := shr_small hji16
 obtain ⟨c17, H⟩ := fc_ H
 have LMc17 := Aside0.mk c17
 clear c17
 obtain ⟨y113, hy113⟩ : ∃ y_ : List Int, y_ = (x5_2 ++ [(ji16) % 256]) := ⟨_, rfl⟩
 replace H : (spec_NumText.l0 k2 a0 y113 (wrap64 (x6_2 - 1))) = some r := by first | (rw [hy113]; with_reducible exact H) | (have H2_ := (Option.bind_some _ _).symm.trans H; rw [hy113]; with_reducible exact H2_) | (have H2_ := (Option.bind_some _ _).symm.trans H; with_reducible exact H2_) | with_reducible exact H | (rw [hy113]; exact H) | exact H
 have Ny113 := Aside0.mk hy113
 clear hy113
 have H' := Aside0.mk H
 clear H
 go_wp2_with (first | ((with_reducible refine gate_builtin (b := .append) (xs := #[.tmp 29, .tmp 36]) rfl ?_); at_builtin; refine Kd.R_append (Kd.int .u8) (w0 := w) w.heap.size rfl (.tmp 29) (.tmp 36) 35 5 (.int .u8 0) 1 rfl Tryd.underlying35 info5 rfl (by decide) (by omega) u5 x5_2 ((ji16) % 256) [.int .u8 ((ji16) % 256)] (fun _ => True) (fun _ => False) rfl rfl ?aP (fun _ hk => hk.elim) ?aF ?aO ?aB ?aS ?aL ?_; (case aP => exact rfl); (case aB => exact th_); (case aF => exact (fun _ _ => trivial)); (case aO => exact (raR_ HO_5)); (case aS => exact (below_size th_)); (case aL => have := LMc17.out; omega); intro v114 w18 ho hb hg hat; rw [← Ny113.out] at ho; have z_ := p_ (hb) <| a_ (ho); clear HB HO_5; obtain ⟨HB, HO115⟩ := z_; clear ho hb hg hat))
 go_roundg k2
 case measure => have := HJ2.out; have := HK2.out; omega
 case rel => exact ⟨(y113), (wrap64 (x6_2 - 1)), tq_4, H', ⟨(by have := HJ2.out; have := HK2.out; omega)⟩, ⟨(raR_ HO115)⟩, ⟨th_⟩⟩

/-! ### spec_RecWord: function 52 -/
def spec_RecWord.j0 : Nat → Bool → Int → Int → ByteArray → Option (ByteArray)
 | 0, _, _, _, _ => none
 | k + 1, x18, x117000, x117001, x117002 => if x18 = true then (some (⟨#[]⟩ : ByteArray)) else ((spec_NumText.f k x117000 1).bind fun t119 => ((spec_NumText.f k x117001 3).bind fun t120 => (if t119.size + t120.size ≤ 9223372036854775807 then (if (t119 ++ t120).size + x117002.size ≤ 9223372036854775807 then (some ((t119 ++ t120) ++ x117002)) else (none)) else (none))))
def spec_RecWord.f (k : Nat) (a0_0 : Int) (a0_1 : Int) (a0_2 : ByteArray) : Option (ByteArray) := (spec_l01In.f a0_0 1 12).bind fun t117 => (if t117 = true then ((spec_l01In.f a0_1 1 16777215).bind fun t118 => (if t118 = true then (spec_RecWord.j0 k ((a0_2.size : Int) != 4) a0_0 a0_1 a0_2) else (spec_RecWord.j0 k true a0_0 a0_1 a0_2))) else (spec_RecWord.j0 k true a0_0 a0_1 a0_2))
theorem spec_RecWord.mono_l : ∀ k, (∀ y0 y1 y2 y3, LeO (spec_RecWord.j0 k y0 y1 y2 y3) (spec_RecWord.j0 (k + 1) y0 y1 y2 y3))
 | 0 => fun _ _ _ _ r h => by simp [spec_RecWord.j0] at h
 | k + 1 => by
  have ih0 := spec_RecWord.mono_l k
  ·intro y0 y1 y2 y3
   unfold spec_RecWord.j0
   repeat' first
   | (with_reducible exact ih0 ..)
   | (with_reducible exact spec_NumText.mono ..)
   | (with_reducible exact LeO.refl _)
   | (with_reducible exact LeO.none _)
   | (with_reducible refine LeO.ite ?_ ?_)
   | (with_reducible refine LeO.bind ?_ (fun _ => ?_))
   | exact ih0 ..
   | exact spec_NumText.mono ..
   | exact LeO.none _
   | refine LeO.ite ?_ ?_
   | refine LeO.bind ?_ (fun _ => ?_)
theorem spec_RecWord.mono : ∀ a0 a1 a2 k, LeO (spec_RecWord.f k a0 a1 a2) (spec_RecWord.f (k + 1) a0 a1 a2) := by
 intro a0 a1 a2 k
 have ih0 := spec_RecWord.mono_l k
 unfold spec_RecWord.f
 repeat' first
   | (with_reducible exact ih0 ..)
   | (with_reducible exact spec_NumText.mono ..)
   | (with_reducible exact LeO.refl _)
   | (with_reducible exact LeO.none _)
   | (with_reducible refine LeO.ite ?_ ?_)
   | (with_reducible refine LeO.bind ?_ (fun _ => ?_))
   | exact ih0 ..
   | exact spec_NumText.mono ..
   | exact LeO.none _
   | refine LeO.ite ?_ ?_
   | refine LeO.bind ?_ (fun _ => ?_)
def spec_RecWord.T3 : Bool × List (List Nat × List Nat) := (true, [([], []), ([0], [0]), ([1], [1]), ([], []), ([3], [3]), ([4, 2], [4]), ([2, 5], [2, 5]), ([], []), ([7], [7]), ([6, 8], [6, 8]), ([9, 5, 0, 1, 2, 3, 4, 5, 6, 7, 8, 9], [9])])
def spec_RecWord.B3 : List Nat := [0, 1, 3, 0, 8, 31, 63, 0, 128, 511, 1023]
theorem spec_RecWord.tab3 : rtab .any (opsOf Tryd.f52 3) = spec_RecWord.T3 := by kernel_rfl
theorem spec_RecWord.bits3 : waitsOk spec_RecWord.T3.2 spec_RecWord.B3 = true := by kernel_rfl
set_option maxHeartbeats 8000000 in
set_option maxRecDepth 100000 in
theorem spec_RecWord.calls (k : Nat) (a0_0 : Int) (a0_1 : Int) (a0_2 : ByteArray) (r : ByteArray) (w : World) (h : spec_RecWord.f k a0_0 a0_1 a0_2 = some r) :
  Calls Tryd.prog 52 #[.agg #[.int .i64 a0_0, .int .i64 a0_1, .string a0_2]] w fun e w' => e = .returned (.string r) ∧ Below w.heap.size w w' := by
 have hu42 := Tryd.underlying42
 have HB := Aside0.mk (Below.refl w.heap.size w)
 unfold spec_RecWord.f at h
 have H := h
 clear h
 have HC2 := Aside0.mk H
 clear H
 go_enter Tryd.func52, Tryd.ntmps52
 go_upto_region 1 with (first | ((with_reducible refine gate_dst (N := 1) rfl ?_); (try (refine gate_guard (by rfl) ?_; dsimp only)); refine be_ 1 (cs := #[.int .i64 a0_0, .int .i64 a0_1, .string a0_2]) 42 ?_; intro gb116 hg w3 hbox hb; have z_ := bx0_ th_ hb hbox hg; clear HB; obtain ⟨HB, BK116, GW116, GE116⟩ := z_; clear hb hbox hg))
 (try simp only [Act.put, List.setIfInBounds_toArray, List.set_cons_zero, List.set_cons_succ])
 go_cut [18] (fun v18 wc => ∃ (kq : Nat) (x18_1 : Bool), v18 = .bool x18_1 ∧ Aside0 (spec_RecWord.j0 kq x18_1 a0_0 a0_1 a0_2 = some r) ∧ Aside0 (kq ≤ k) ∧ Aside0 (wc.heap[gb116]? = some (.cells #[.int .i64 a0_0, .int .i64 a0_1, .string a0_2] 42 (0, 0))) ∧ Aside0 (Below w.heap.size w wc))
 case first =>
  have H := HC2.out
  clear HC2
  obtain ⟨t117, A4, H⟩ := bd_ H
  by_cases c5 : t117 = true
  rotate_left
  ·replace c5 := Bool.eq_false_iff.mpr c5
   subst c5
   rw [if_neg nf_] at H
   have H' := Aside0.mk H
   clear H
   obtain ⟨hcz10_0, hcz10_1, hcz10_2⟩ := bk3_ BK116.out
   obtain ⟨hfz10_0, hfz10_1, hfz10_2⟩ := bf3_ BK116.out
   go_wp2_with (first | ((with_reducible refine gate_callee (f := 50) rfl ?_); refine goesL_ (some 5) rfl rfl Tryd.func50 (by kernel_rfl) rfl #[.int .i64 a0_0, .int .i64 1, .int .i64 12] rfl tq_0 ?_; (with_reducible refine (spec_l01In.calls a0_0 1 12 false _ A4.out).mono ?_); rintro e w' ⟨rfl, ⟨nd, rfl⟩⟩; refine ⟨_, rfl, ?_⟩))
   go_meet
   case rel => exact ⟨_, (true), tq_4, H', ⟨tq_26⟩, ⟨(kb_ BK116)⟩, ⟨th_⟩⟩
  subst c5
  rw [if_pos rfl] at H
  obtain ⟨t118, A6, H⟩ := bd_ H
  by_cases c7 : t118 = true
  ·subst c7
   rw [if_pos rfl] at H
   have H' := Aside0.mk H
   clear H
   obtain ⟨hcz8_0, hcz8_1, hcz8_2⟩ := bk3_ BK116.out
   obtain ⟨hfz8_0, hfz8_1, hfz8_2⟩ := bf3_ BK116.out
   go_wp2_with (first | ((with_reducible refine gate_callee (f := 50) rfl ?_); refine goesL_ (some 5) rfl rfl Tryd.func50 (by kernel_rfl) rfl #[.int .i64 a0_0, .int .i64 1, .int .i64 12] rfl tq_0 ?_; (with_reducible refine (spec_l01In.calls a0_0 1 12 true _ A4.out).mono ?_); rintro e w' ⟨rfl, ⟨nd, rfl⟩⟩; refine ⟨_, rfl, ?_⟩) | (go_at_call 50; (with_reducible refine (spec_l01In.calls a0_1 1 16777215 true _ A6.out).mono ?_); rintro e w' ⟨rfl, ⟨nd, rfl⟩⟩))
   go_meet
   case rel => exact ⟨_, (((a0_2.size : Int) != 4)), tq_4, H', ⟨tq_26⟩, ⟨(kb_ BK116)⟩, ⟨th_⟩⟩
  replace c7 := Bool.eq_false_iff.mpr c7
  subst c7
  rw [if_neg nf_] at H
  have H' := Aside0.mk H
  clear H
  obtain ⟨hcz9_0, hcz9_1, hcz9_2⟩ := bk3_ BK116.out
  obtain ⟨hfz9_0, hfz9_1, hfz9_2⟩ := bf3_ BK116.out
  go_wp2_with (first | ((with_reducible refine gate_callee (f := 50) rfl ?_); refine goesL_ (some 5) rfl rfl Tryd.func50 (by kernel_rfl) rfl #[.int .i64 a0_0, .int .i64 1, .int .i64 12] rfl tq_0 ?_; (with_reducible refine (spec_l01In.calls a0_0 1 12 true _ A4.out).mono ?_); rintro e w' ⟨rfl, ⟨nd, rfl⟩⟩; refine ⟨_, rfl, ?_⟩) | (go_at_call 50; (with_reducible refine (spec_l01In.calls a0_1 1 16777215 false _ A6.out).mono ?_); rintro e w' ⟨rfl, ⟨nd, rfl⟩⟩))
  go_meet
  case rel => exact ⟨_, (true), tq_4, H', ⟨tq_26⟩, ⟨(kb_ BK116)⟩, ⟨th_⟩⟩
 case rest =>
 clear HC2
 try clear p2; try clear c5; try clear c7; try clear hcz10_0 hcz10_1 hcz10_2; try clear hcz8_0 hcz8_1 hcz8_2; try clear hcz9_0 hcz9_1 hcz9_2; try clear hfz10_0 hfz10_1 hfz10_2; try clear hfz8_0 hfz8_1 hfz8_2; try clear hfz9_0 hfz9_1 hfz9_2
 obtain ⟨kq, x18_1, rfl, HA, HJ1, BK116, HB⟩ := hcut
 cases kq with
 | zero => exact absurd HA.out (by simp [spec_RecWord.j0])
 | succ kj1 =>
 have H := HA.out
 clear HA
 simp only [spec_RecWord.j0] at H
 by_cases c11 : x18_1 = true
 ·subst c11
  rw [if_pos rfl] at H
  obtain rfl := Option.some.inj H
  go_wp2
  go_ret
  exact ⟨tq_2, th_⟩
 replace c11 := Bool.eq_false_iff.mpr c11
 subst c11
 rw [if_neg nf_] at H
 obtain ⟨t119, A12, H⟩ := bd_ H
 obtain ⟨t120, A13, H⟩ := bd_ H
 obtain ⟨c14, H⟩ := fc_ H
 have c14b0 := eq_true c14
 have c14b1 := decide_eq_true c14
 try have c14b2 : (9223372036854775807 < t119.size + t120.size) = False := eq_false (Nat.not_lt.2 c14)
 obtain ⟨c15, H⟩ := fc_ H
 have c15b0 := eq_true c15
 have c15b1 := decide_eq_true c15
 try have c15b2 : (9223372036854775807 < (t119 ++ t120).size + a0_2.size) = False := eq_false (Nat.not_lt.2 c15)
 try have c15b2s : (9223372036854775807 < t119.size + t120.size + a0_2.size) = False := by rw [← ByteArray.size_append]; exact c15b2
 obtain rfl := Option.some.inj H
 try go_wp2
 have z_ := dw1_ BK116 HB
 clear BK116 HB
 obtain ⟨BK116, HB⟩ := z_
 refine start_ (n := 11) (S := fun w' => w'.cell? ⟨gb116, 0, none⟩ = some (.int .i64 a0_0) ∧ w'.cell? ⟨gb116, 1, none⟩ = some (.int .i64 a0_1) ∧ w'.cell? ⟨gb116, 2, none⟩ = some (.string a0_2)) (ds := []) bq_70 (by kernel_rfl) rfl rfl (bk3_ BK116.out) (fun hHeld => ?_); refine with_tabW spec_RecWord.tab3 spec_RecWord.bits3 (fun HT_ HW_ => ?_)
 generalize wc.drew = w16 at BK116 HB hHeld ⊢
 refine yr_ 0 19 bq_71 HT_ ?_
 refine yr_ 3 22 bq_72 HT_ ?_
 refine yr_ 7 26 bq_73 HT_ ?_
 refine tr_ 1 20 bq_74 HT_ HW_ hHeld ?_
 refine tr_ 4 23 bq_75 HT_ HW_ hHeld ?_
 refine tr_ 8 27 bq_76 HT_ HW_ hHeld ?_
 refine one_ (i := 2) (N := some 21) bq_77 rfl rfl (one_of HT_.out (by kernel_rfl)) (by decide) (fun K hK => ?_)
 refine goes_ Tryd.func67 (by kernel_rfl) rfl #[.int .i64 a0_0, .int .i64 1] (by rfl) rfl rfl tq_0 ?_
 with_reducible refine (spec_NumText.calls kj1 a0_0 1 t119 _ A12.out).mono ?_
 rintro e w17 ⟨rfl, hb⟩
 refine ⟨_, rfl, ?_⟩
 have z_ := bw1_ (kb_ BK116) th_ hb
 clear BK116 HB
 obtain ⟨BK116, HB⟩ := z_
 (try clear hb)
 refine hK.out _ _ (bk3_ BK116.out) (fun hHeld => ?_)
 clear hK K
 refine nm_ (some 21) ?_
 refine one_ (i := 5) (N := some 24) bq_78 rfl rfl (one_of HT_.out (by kernel_rfl)) (by decide) (fun K hK => ?_)
 refine goes_ Tryd.func67 (by kernel_rfl) rfl #[.int .i64 a0_1, .int .i64 3] (by rfl) rfl rfl tq_0 ?_
 with_reducible refine (spec_NumText.calls kj1 a0_1 3 t120 _ A13.out).mono ?_
 rintro e w18 ⟨rfl, hb⟩
 refine ⟨_, rfl, ?_⟩
 have z_ := bw1_ (kb_ BK116) th_ hb
 clear BK116 HB
 obtain ⟨BK116, HB⟩ := z_
 (try clear hb)
 refine hK.out _ _ (bk3_ BK116.out) (fun hHeld => ?_)
 clear hK K
 refine nm_ (some 24) ?_
 refine yr_ 6 25 bq_79 HT_ ?_
 refine yr_ 9 28 bq_80 HT_ ?_
 refine yr_ 10 2 bq_81 HT_ ?_
 refine done_ (done_of HT_.out (by kernel_rfl)) ?_
 try go_wp2
 go_ret
 exact ⟨tq_2, th_⟩

end Go.Proofs.YtjfhddenmnjgbaaDoor.PFnAnyInode
