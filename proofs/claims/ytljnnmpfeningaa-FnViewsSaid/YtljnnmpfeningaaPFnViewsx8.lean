/- Contracts of Go functions, written by a program of ours over the print of the kit: each says that the call returns what the Lean function beside it computes. Conditions: as each theorem states them. -/
import Derived.Test.YtljnnmpfeningaaPkFnViews
import Derived.Test.YtljnnmpfeningaaPFnViewsx0
import Derived.Test.YtljnnmpfeningaaPFnViewsx7
namespace Go.Proofs.Ytljnnmpfeningaa.PFnViews
open Go.RowKit Go.Proofs.YtljnnmpfeningaaW.PrintWords Go.Proofs.YtljnnmpfeningaaW.PrintLast Go.Proofs.YtljnnmpfeningaaW.PrintMore
attribute [local go_sem] max2_int min2_int max_two min_two max_three min_three max_four min_four   -- for this text's walks alone
set_option linter.unusedVariables false
set_option linter.unusedSimpArgs false

/-! ### spec_MovedItems: function 144 -/
mutual
def spec_MovedItems.l0 : Nat → ByteArray → ByteArray → Int → List (S44) → List (S44) → Option ((List (S44)))
 | 0, _, _, _, _, _ => none
 | k + 1, x1, x2, x8, x285000, x287000 => if x8 < (x285000.length : Int) then (if 0 ≤ x8 then (if ((rd_T44 x285000 x8).f0).toList = x1.toList then (spec_MovedItems.j1 k x1 x2 x8 true x285000 x287000 ((rd_T44 x285000 x8).f0) ((rd_T44 x285000 x8).f1) ((rd_T44 x285000 x8).f2)) else ((spec_IsUnder.f k ((rd_T44 x285000 x8).f0) x1).bind fun t289 => (spec_MovedItems.j1 k x1 x2 x8 t289 x285000 x287000 ((rd_T44 x285000 x8).f0) ((rd_T44 x285000 x8).f1) ((rd_T44 x285000 x8).f2)))) else (none)) else (some x287000)
def spec_MovedItems.j1 : Nat → ByteArray → ByteArray → Int → Bool → List (S44) → List (S44) → ByteArray → Bool → ByteArray → Option ((List (S44)))
 | 0, _, _, _, _, _, _, _, _, _ => none
 | k + 1, x1, x2, x8, x34, x285000, x287000, x289000, x289001, x289002 => if x34 = true then (if 0 ≤ (x1.size : Int) then (if (x1.size : Int) ≤ (x289000.size : Int) then ((some (x289000.extract ((x1.size : Int) : Int).toNat x289000.size : ByteArray)).bind fun y290 => (if x2.size + y290.size ≤ 9223372036854775807 then ((some (x2 ++ y290 : ByteArray)).bind fun y291 => (spec_MovedItems.j2 k x1 x2 x8 x285000 x287000 y291 x289001 x289002)) else (none))) else (none)) else (none)) else (spec_MovedItems.j2 k x1 x2 x8 x285000 x287000 x289000 x289001 x289002)
def spec_MovedItems.j2 : Nat → ByteArray → ByteArray → Int → List (S44) → List (S44) → ByteArray → Bool → ByteArray → Option ((List (S44)))
 | 0, _, _, _, _, _, _, _, _ => none
 | k + 1, x1, x2, x8, x285000, x287000, x289000, x289001, x289002 => spec_MovedItems.l1 k x1 x2 x8 0 x285000 x287000 x289000 x289001 x289002
def spec_MovedItems.l1 : Nat → ByteArray → ByteArray → Int → Int → List (S44) → List (S44) → ByteArray → Bool → ByteArray → Option ((List (S44)))
 | 0, _, _, _, _, _, _, _, _, _ => none
 | k + 1, x1, x2, x8, x10, x285000, x287000, x289000, x289001, x289002 => if x10 < (x287000.length : Int) then (if 0 ≤ x10 then (if ((Op.bytesLess x289000.toList (((rd_T44 x287000 x10).f0).toList)) = true) then ((some (([] : List (S44)) : List (S44))).bind fun y293 => (if x10 ≤ (x287000.length : Int) then ((some (x287000.take (x10 : Int).toNat : List (S44))).bind fun y296 => (if y293.length + y296.length < 3518437208883 then ((some (y293 ++ y296 : List (S44))).bind fun y300 => ((some (([(⟨x289000, x289001, x289002⟩ : S44)] : List (S44)) : List (S44))).bind fun y303 => (if y300.length + y303.length < 3518437208883 then ((some (y300 ++ y303 : List (S44))).bind fun y306 => ((some (x287000.drop (x10 : Int).toNat : List (S44))).bind fun y309 => (if y306.length + y309.length < 3518437208883 then (spec_MovedItems.l0 k x1 x2 (wrap64 (x8 + 1)) x285000 (y306 ++ y309)) else (none)))) else (none)))) else (none))) else (none))) else (spec_MovedItems.l1 k x1 x2 x8 (wrap64 (x10 + 1)) x285000 x287000 x289000 x289001 x289002)) else (none)) else ((some (([] : List (S44)) : List (S44))).bind fun y316 => (if 0 ≤ x10 then (if x10 ≤ (x287000.length : Int) then ((some (x287000.take (x10 : Int).toNat : List (S44))).bind fun y319 => (if y316.length + y319.length < 3518437208883 then ((some (y316 ++ y319 : List (S44))).bind fun y323 => ((some (([(⟨x289000, x289001, x289002⟩ : S44)] : List (S44)) : List (S44))).bind fun y326 => (if y323.length + y326.length < 3518437208883 then ((some (y323 ++ y326 : List (S44))).bind fun y329 => ((some (x287000.drop (x10 : Int).toNat : List (S44))).bind fun y332 => (if y329.length + y332.length < 3518437208883 then (spec_MovedItems.l0 k x1 x2 (wrap64 (x8 + 1)) x285000 (y329 ++ y332)) else (none)))) else (none)))) else (none))) else (none)) else (none)))
end
def spec_MovedItems.f (k : Nat) (l0_0 : List (S44)) (a1 : ByteArray) (a2 : ByteArray) : Option ((List (S44))) := spec_MovedItems.l0 k a1 a2 0 l0_0 ([] : List (S44))
theorem spec_MovedItems.mono_l : ∀ k, (∀ y0 y1 y2 y3 y4, LeO (spec_MovedItems.l0 k y0 y1 y2 y3 y4) (spec_MovedItems.l0 (k + 1) y0 y1 y2 y3 y4)) ∧ (∀ y0 y1 y2 y3 y4 y5 y6 y7 y8, LeO (spec_MovedItems.j1 k y0 y1 y2 y3 y4 y5 y6 y7 y8) (spec_MovedItems.j1 (k + 1) y0 y1 y2 y3 y4 y5 y6 y7 y8)) ∧ (∀ y0 y1 y2 y3 y4 y5 y6 y7, LeO (spec_MovedItems.j2 k y0 y1 y2 y3 y4 y5 y6 y7) (spec_MovedItems.j2 (k + 1) y0 y1 y2 y3 y4 y5 y6 y7)) ∧ (∀ y0 y1 y2 y3 y4 y5 y6 y7 y8, LeO (spec_MovedItems.l1 k y0 y1 y2 y3 y4 y5 y6 y7 y8) (spec_MovedItems.l1 (k + 1) y0 y1 y2 y3 y4 y5 y6 y7 y8))
 | 0 => ⟨fun _ _ _ _ _ r h => by simp [spec_MovedItems.l0] at h, fun _ _ _ _ _ _ _ _ _ r h => by simp [spec_MovedItems.j1] at h, fun _ _ _ _ _ _ _ _ r h => by simp [spec_MovedItems.j2] at h, fun _ _ _ _ _ _ _ _ _ r h => by simp [spec_MovedItems.l1] at h⟩
 | k + 1 => by
  obtain ⟨ih0, ih1, ih2, ih3⟩ := spec_MovedItems.mono_l k
  refine ⟨?_, ?_, ?_, ?_⟩
  ·intro y0 y1 y2 y3 y4
   unfold spec_MovedItems.l0
   exact mo_6
  ·intro y0 y1 y2 y3 y4 y5 y6 y7 y8
   unfold spec_MovedItems.j1
   exact mo_6
  ·intro y0 y1 y2 y3 y4 y5 y6 y7
   unfold spec_MovedItems.j2
   exact mo_6
  ·intro y0 y1 y2 y3 y4 y5 y6 y7 y8
   unfold spec_MovedItems.l1
   exact mo_6
theorem spec_MovedItems.mono : ∀ a0 a1 a2 k, LeO (spec_MovedItems.f k a0 a1 a2) (spec_MovedItems.f (k + 1) a0 a1 a2) := by
 intro a0 a1 a2 k
 obtain ⟨ih0, ih1, ih2, ih3⟩ := spec_MovedItems.mono_l k
 unfold spec_MovedItems.f
 repeat' first
   | (with_reducible exact ih0 ..)
   | (with_reducible exact ih1 ..)
   | (with_reducible exact ih2 ..)
   | (with_reducible exact ih3 ..)
   | (with_reducible exact spec_IsUnder.mono ..)
   | (with_reducible exact LeO.refl _)
   | (with_reducible exact LeO.none _)
   | (with_reducible refine LeO.ite ?_ ?_)
   | (with_reducible refine LeO.bind ?_ (fun _ => ?_))
   | exact ih0 ..
   | exact ih1 ..
   | exact ih2 ..
   | exact ih3 ..
   | exact spec_IsUnder.mono ..
   | exact LeO.none _
   | refine LeO.ite ?_ ?_
   | refine LeO.bind ?_ (fun _ => ?_)
def spec_MovedItems.T9 : Bool × List (List Nat × List Nat) := (true, [([], []), ([], []), ([1], [1]), ([2], [2]), ([0, 3], [0, 3]), ([4], [4]), ([5], [5]), ([6, 5], [5, 6]), ([5], [5]), ([7, 8, 5], [5, 7, 8]), ([9, 5], [5, 9]), ([10, 5], [5, 10]), ([5], [5]), ([12, 5], [5, 12]), ([11, 13, 5], [5, 11, 13]), ([5, 14], [5, 14])])
def spec_MovedItems.B9 : List Nat := [0, 0, 2, 6, 15, 31, 63, 127, 63, 511, 1023, 2047, 63, 4159, 16383, 32767]
theorem spec_MovedItems.tab9 : rtab .any (opsOf Try.f144 9) = spec_MovedItems.T9 := by kernel_rfl
theorem spec_MovedItems.bits9 : waitsOk spec_MovedItems.T9.2 spec_MovedItems.B9 = true := by kernel_rfl
def spec_MovedItems.T11 : Bool × List (List Nat × List Nat) := (true, [([], []), ([], []), ([1], [1]), ([], []), ([2, 3], [2, 3]), ([0, 4], [0, 4]), ([], []), ([6], [6]), ([5, 7, 5], [5, 7]), ([8, 8, 0, 1, 2, 3, 4, 5, 6, 7, 8], [8])])
def spec_MovedItems.B11 : List Nat := [0, 0, 2, 0, 14, 31, 0, 64, 255, 511]
theorem spec_MovedItems.tab11 : rtab .any (opsOf Try.f144 11) = spec_MovedItems.T11 := by kernel_rfl
theorem spec_MovedItems.bits11 : waitsOk spec_MovedItems.T11.2 spec_MovedItems.B11 = true := by kernel_rfl
set_option maxHeartbeats 8000000 in
set_option maxRecDepth 100000 in
theorem spec_MovedItems.calls (k : Nat) (A0_0 : Option Addr) (c0_0 : Nat) (l0_0 : List (S44)) (a1 : ByteArray) (a2 : ByteArray) (r : List (S44)) (w : World) (hr0_0 : Kd.C k44 w A0_0 l0_0.length l0_0) (hc0_0 : l0_0.length ≤ c0_0) (h : spec_MovedItems.f k l0_0 a1 a2 = some r) :
  Calls Try.prog 144 #[.agg #[.slice A0_0 l0_0.length c0_0], .string a1, .string a2] w fun e w' => ∃ v0_ : Value, e = .returned (.agg #[v0_]) ∧ Kd.R k44 44 w' w.heap.size (fun _ => True) v0_ r ∧ Below w.heap.size w w' := by
 have hu42 := Try.underlying42
 have hu44 := Try.underlying44
 have HR0_0 := Aside0.mk hr0_0
 have HC0_0 := Aside0.mk hc0_0
 clear hr0_0 hc0_0
 have HB := Aside0.mk (Below.refl w.heap.size w)
 unfold spec_MovedItems.f at h
 have H := h
 clear h
 have H' := Aside0.mk H
 clear H
 go_enter Try.func144, Try.ntmps144
 go_wp2_with (first | ((with_reducible refine gate_dst (N := 3) rfl ?_); refine be_ 3 (cs := #[.slice A0_0 l0_0.length c0_0]) 42 ?_; intro gb284 hg w4 hbox hb; have z_ := bx0_ th_ hb hbox hg; clear HB; obtain ⟨HB, BK284, GW284, GE284⟩ := z_; clear hb hbox hg) | ((with_reducible refine gate_dst (N := 6) rfl ?_); refine be_ 6 (cs := #[.slice none 0 0]) 42 ?_; intro gb285 hg w5 hbox hb; have z_ := bx1_ (kb_ BK284) th_ hb hbox hg; clear BK284 HB; obtain ⟨BK284, HB, BK285, GW285, GE285, NB284_285, NB285_284⟩ := z_; clear hb hbox hg) | ((with_reducible refine gate_dst (N := 7) rfl ?_); refine be_ 7 (cs := #[.slice none 0 0]) 42 ?_; intro gb286 hg w6 hbox hb; have z_ := bx2_ (kb_ BK284) (kb_ BK285) th_ hb hbox hg; clear BK284 BK285 HB; obtain ⟨BK284, BK285, HB, BK286, GW286, GE286, NB284_286, NB286_284, NB285_286, NB286_285⟩ := z_; clear hb hbox hg; obtain ⟨n286_284, n284_286, n286_285, n285_286⟩ := an4_ NB286_284 NB284_286 NB286_285 NB285_286; have hcz9_0 := bc_ BK286.out 0; have hfz9_0 := blk_frozen BK286.out 0))
 go_loopg [8] k (fun kq v8 w' => ∃ (x8_1 : Int) (x287000_1 : List (S44)) (u287000 : Value), v8 = .int .i64 x8_1 ∧ Aside0 (spec_MovedItems.l0 kq a1 a2 x8_1 l0_0 x287000_1 = some r) ∧ Aside0 (kq ≤ k) ∧ Aside0 (Kd.R k44 44 w' w.heap.size (fun _ => True) u287000 x287000_1) ∧ Aside0 (w'.heap[gb284]? = some (.cells #[(.slice A0_0 l0_0.length c0_0)] 42 (0, 0))) ∧ Aside0 (w'.heap[gb285]? = some (.cells #[(.slice none 0 0)] 42 (0, 0))) ∧ Aside0 (w'.heap[gb286]? = some (.cells #[u287000] 42 (0, 0))) ∧ Aside0 (Below w.heap.size w w'))
 case atStart => exact ⟨(0), (([] : List (S44))), (.slice none 0 0), tq_5, H', ⟨Nat.le_refl _⟩, ⟨tq_22⟩, ⟨tb_⟩, ⟨tb_⟩, ⟨tb_⟩, ⟨th_⟩⟩
 case round =>
 clear H'
 try clear c1; try clear p2; try clear c7; try clear c8; try clear hcz9_0 hfz9_0
 obtain ⟨x8_1, x287000_1, u287000, rfl, HA, HK1, HO_287000, BK284, BK285, BK286, HB⟩ := hrel
 cases gk with
 | zero => exact absurd HA.out (by simp [spec_MovedItems.l0])
 | succ k1 =>
 have H := HA.out
 clear HA
 simp only [spec_MovedItems.l0] at H
 have HC10 := Aside0.mk H
 clear H
 obtain ⟨n284_285, n285_284⟩ := an2_ NB284_285 NB285_284
 have hcz13_0 := bc_ BK284.out 0
 have hfz13_0 := blk_frozen BK284.out 0
 go_upto_if 17 with (fail)
 (try clear n284_285 n284_286 n285_284 n285_286 n286_284 n286_285)
 (try clear hcz13_0)
 (try clear hfz13_0)
 have H := HC10.out
 clear HC10
 by_cases c14 : x8_1 < (l0_0.length : Int)
 rotate_left
 ·rw [if_neg c14] at H
  have c14b0 := decide_eq_false c14
  clear c14
  (first | rw [c14b0] | (simp only [i64_w, i32_w]; rw [c14b0]) | skip)
  obtain rfl := Option.some.inj H
  obtain ⟨n286_284, n284_286, n286_285, n285_286⟩ := an4_ NB286_284 NB284_286 NB286_285 NB285_286
  have hcz105_0 := bc_ BK286.out 0
  have hfz105_0 := blk_frozen BK286.out 0
  obtain ⟨Ao106, co106, eo106⟩ := Kd.R_slice HO_287000.out
  subst eo106
  obtain ⟨n285_284, n284_285⟩ := an2_ NB285_284 NB284_285
  have hcz108_0 := bc_ BK285.out 0
  have hfz108_0 := blk_frozen BK285.out 0
  go_wp2
  refine bodyPost_ret (results_cell_row rfl _ _ gb285 42 #[.slice Ao106 x287000_1.length co106] (0, 0) _ rfl tb_ Try.underlying42 rfl (by kernel_rfl)) rfl ?_
  exact ⟨_, tq_1, (by (with_reducible repeat (first | apply Kd.R_alloc | apply Kd.R_drewN | apply Kd.R_drew)); exact Kd.R_mono (rR_ (Kd.R_types HO_287000.out BK285.out (by decide))) (fun _ hk => trivial)), th_⟩
 rw [if_pos c14] at H
 have c14b0 := decide_eq_true c14
 clear c14
 (first | rw [c14b0] | (simp only [i64_w, i32_w]; rw [c14b0]) | skip)
 obtain ⟨c15, H⟩ := fc_ H
 have c15b0 := decide_eq_true c15
 clear c15
 have HC16 := Aside0.mk H
 clear H
 obtain ⟨n284_285, n285_284, n284_286, n286_284⟩ := an4_ NB284_285 NB285_284 NB284_286 NB286_284
 have hcz19_0 := bc_ BK284.out 0
 have hfz19_0 := blk_frozen BK284.out 0
 have p287 : 0 ≤ (x8_1 : Int) := of_decide_eq_true tq_3
 have q287 : x8_1 < (l0_0.length : Int) := of_decide_eq_true tq_3
 obtain ⟨ad287, e287, hx287_0, hx287_1, hx287_2⟩ := at_T44 HR0_0.out x8_1 p287 q287
 cases e287
 replace hx287_0 := hx_ HB.out hx287_0
 replace hx287_1 := hx_ HB.out hx287_1
 replace hx287_2 := hx_ HB.out hx287_2
 replace p287 := eq_true p287
 replace q287 := eq_true q287
 go_upto_region 6 with (first | ((with_reducible refine gate_dst (N := 9) rfl ?_); refine be_ 9 (cs := #[.string (⟨#[]⟩ : ByteArray), .bool false, .string (⟨#[]⟩ : ByteArray)]) 44 ?_; intro gb288 hg w20 hbox hb; have z_ := p_ (Kd.R_below (Kd.R_elderB (raR_ HO_287000) gb288 (Nat.le_of_eq hg.symm)) hb) <| bx3_ (kb_ BK284) (kb_ BK285) (kb_ BK286) th_ hb hbox hg; clear HO_287000 BK284 BK285 BK286 HB; obtain ⟨HO_287000, BK284, BK285, BK286, HB, BK288, GW288, GE288, NB284_288, NB288_284, NB285_288, NB288_285, NB286_288, NB288_286⟩ := z_; clear hb hbox hg; obtain ⟨n288_284, n284_288, n288_285, n285_288, n288_286, n286_288⟩ := an6_ NB288_284 NB284_288 NB288_285 NB285_288 NB288_286 NB286_288; obtain ⟨hcz24_0, hcz24_1, hcz24_2⟩ := bk3_ BK288.out; obtain ⟨hfz24_0, hfz24_1, hfz24_2⟩ := bf3_ BK288.out))
 (try simp only [Act.put, List.setIfInBounds_toArray, List.set_cons_zero, List.set_cons_succ])
 go_cut [34] (fun v34 wc => ∃ (kq : Nat) (x34_15 : Bool), v34 = .bool x34_15 ∧ Aside0 (spec_MovedItems.j1 kq a1 a2 x8_1 x34_15 l0_0 x287000_1 ((rd_T44 l0_0 x8_1).f0) ((rd_T44 l0_0 x8_1).f1) ((rd_T44 l0_0 x8_1).f2) = some r) ∧ Aside0 (kq ≤ k1) ∧ Aside0 (Kd.R k44 44 wc w.heap.size (fun k_ => k_ ≠ gb288) u287000 x287000_1) ∧ Aside0 (wc.heap[gb284]? = some (.cells #[(.slice (some ad287) l0_0.length c0_0)] 42 (0, 0))) ∧ Aside0 (wc.heap[gb285]? = some (.cells #[(.slice none 0 0)] 42 (0, 0))) ∧ Aside0 (wc.heap[gb286]? = some (.cells #[u287000] 42 (0, 0))) ∧ Aside0 (wc.heap[gb288]? = some (.cells #[.string ((rd_T44 l0_0 x8_1).f0), .bool ((rd_T44 l0_0 x8_1).f1), .string ((rd_T44 l0_0 x8_1).f2)] 44 (0, 0))) ∧ Aside0 (Below w.heap.size w wc))
 case first =>
  have H := HC16.out
  clear HC16
  by_cases c25 : ((rd_T44 l0_0 x8_1).f0).toList = a1.toList
  ·rw [if_pos c25] at H
   have c25b0 := beq_iff_eq.mpr c25
   have c25b1 := bne_eq_false_iff_eq.mpr c25
   clear c25
   (first | rw [c25b0] | (simp only [i64_w, i32_w]; rw [c25b0]) | skip)
   have H' := Aside0.mk H
   clear H
   obtain ⟨hcz29_0, hcz29_1, hcz29_2⟩ := bk3_ BK288.out
   obtain ⟨hfz29_0, hfz29_1, hfz29_2⟩ := bf3_ BK288.out
   go_wp2
   go_meet
   case rel => exact ⟨_, (true), tq_5, H', ⟨tq_122⟩, ⟨(by (with_reducible repeat (first | apply Kd.R_alloc | apply Kd.R_drewN | apply Kd.R_drew)); exact Kd.R_mono (rR_ (rR_ (rR_ (Kd.R_mono HO_287000.out (fun k_ hk => (⟨hk, hk.2⟩ : _ ∧ k_ ≠ gb288)))))) (fun _ hk => hk.1.2))⟩, ⟨tb_⟩, ⟨tb_⟩, ⟨tb_⟩, ⟨tb_⟩, ⟨th_⟩⟩
  rw [if_neg c25] at H
  have c25b0 := beq_eq_false_iff_ne.mpr c25
  have c25b1 := bne_iff_ne.mpr c25
  (first | rw [c25b0] | (simp only [i64_w, i32_w]; rw [c25b0]) | skip)
  obtain ⟨t289, A30, H⟩ := bd_ H
  have H' := Aside0.mk H
  clear H
  obtain ⟨hcz34_0, hcz34_1, hcz34_2⟩ := bk3_ BK288.out
  obtain ⟨hfz34_0, hfz34_1, hfz34_2⟩ := bf3_ BK288.out
  go_wp2_with (first | (go_at_call 143; (with_reducible refine (spec_IsUnder.calls k1 ((rd_T44 l0_0 x8_1).f0) a1 t289 _ A30.out).mono ?_); rintro e w35 ⟨rfl, hb⟩; have z_ := p_ (Kd.R_below (by (with_reducible repeat (first | apply Kd.R_alloc | apply Kd.R_drewN | apply Kd.R_drew)); exact (Kd.R_mono (rR_ (rR_ (rR_ (Kd.R_mono HO_287000.out (fun k_ hk => (⟨hk, hk.2⟩ : _ ∧ k_ ≠ gb288)))))) (fun _ h_ => h_.1))) hb) <| p_ (blk_below (g := gb284) (o := .cells #[.slice (some ad287) l0_0.length c0_0] 42 (0, 0)) (by (with_reducible repeat (first | refine blk_drewN ?_ _ | refine blk_drew ?_ | refine blk_alloc ?_ _)); refine blk_far ?_ NB284_288.out _; (with_reducible repeat (first | refine blk_drewN ?_ _ | refine blk_drew ?_ | refine blk_alloc ?_ _)); refine blk_far ?_ NB284_288.out _; (with_reducible repeat (first | refine blk_drewN ?_ _ | refine blk_drew ?_ | refine blk_alloc ?_ _)); refine blk_far ?_ NB284_288.out _; (with_reducible repeat (first | refine blk_drewN ?_ _ | refine blk_drew ?_ | refine blk_alloc ?_ _)); exact BK284.out) hb) <| p_ (blk_below (g := gb285) (o := .cells #[.slice none 0 0] 42 (0, 0)) (by (with_reducible repeat (first | refine blk_drewN ?_ _ | refine blk_drew ?_ | refine blk_alloc ?_ _)); refine blk_far ?_ NB285_288.out _; (with_reducible repeat (first | refine blk_drewN ?_ _ | refine blk_drew ?_ | refine blk_alloc ?_ _)); refine blk_far ?_ NB285_288.out _; (with_reducible repeat (first | refine blk_drewN ?_ _ | refine blk_drew ?_ | refine blk_alloc ?_ _)); refine blk_far ?_ NB285_288.out _; (with_reducible repeat (first | refine blk_drewN ?_ _ | refine blk_drew ?_ | refine blk_alloc ?_ _)); exact BK285.out) hb) <| p_ (blk_below (g := gb286) (o := .cells #[u287000] 42 (0, 0)) (by (with_reducible repeat (first | refine blk_drewN ?_ _ | refine blk_drew ?_ | refine blk_alloc ?_ _)); refine blk_far ?_ NB286_288.out _; (with_reducible repeat (first | refine blk_drewN ?_ _ | refine blk_drew ?_ | refine blk_alloc ?_ _)); refine blk_far ?_ NB286_288.out _; (with_reducible repeat (first | refine blk_drewN ?_ _ | refine blk_drew ?_ | refine blk_alloc ?_ _)); refine blk_far ?_ NB286_288.out _; (with_reducible repeat (first | refine blk_drewN ?_ _ | refine blk_drew ?_ | refine blk_alloc ?_ _)); exact BK286.out) hb) <| p_ (blk_below (g := gb288) (o := .cells #[.string ((rd_T44 l0_0 x8_1).f0), .bool ((rd_T44 l0_0 x8_1).f1), .string ((rd_T44 l0_0 x8_1).f2)] 44 (0, 0)) (by (with_reducible repeat (first | refine blk_drewN ?_ _ | refine blk_drew ?_ | refine blk_alloc ?_ _)); refine blk_put (cs := #[.string ((rd_T44 l0_0 x8_1).f0), .bool ((rd_T44 l0_0 x8_1).f1), .string (⟨#[]⟩ : ByteArray)]) ?_ 2 _ rfl; (with_reducible repeat (first | refine blk_drewN ?_ _ | refine blk_drew ?_ | refine blk_alloc ?_ _)); refine blk_put (cs := #[.string ((rd_T44 l0_0 x8_1).f0), .bool false, .string (⟨#[]⟩ : ByteArray)]) ?_ 1 _ rfl; (with_reducible repeat (first | refine blk_drewN ?_ _ | refine blk_drew ?_ | refine blk_alloc ?_ _)); refine blk_put (cs := #[.string (⟨#[]⟩ : ByteArray), .bool false, .string (⟨#[]⟩ : ByteArray)]) ?_ 0 _ rfl; (with_reducible repeat (first | refine blk_drewN ?_ _ | refine blk_drew ?_ | refine blk_alloc ?_ _)); exact BK288.out) hb) <| a_ (below_step th_ hb); clear HO_287000 BK284 BK285 BK286 BK288 HB; obtain ⟨HO_287000, BK284, BK285, BK286, BK288, HB⟩ := z_; (try clear hb); (try clear hk)))
  go_meet
  case rel => exact ⟨_, (t289), tq_5, H', ⟨tq_122⟩, ⟨(by (with_reducible repeat (first | apply Kd.R_alloc | apply Kd.R_drewN | apply Kd.R_drew)); exact Kd.R_mono HO_287000.out (fun _ hk => hk.2))⟩, ⟨(kb_ BK284)⟩, ⟨(kb_ BK285)⟩, ⟨(kb_ BK286)⟩, ⟨(kb_ BK288)⟩, ⟨th_⟩⟩
 case rest =>
 clear HC16
 try clear c1; try clear c2; try clear p2; try clear q2; try clear hx2; try clear c3; try clear c7; try clear c8; try clear c11; try clear c12; try clear c14; try clear c14b0; try clear c15; try clear c15b0; try clear c17; try clear c18; try clear c21; try clear c22; try clear c23; try clear c25; try clear c25b0; try clear c25b1; try clear c26; try clear c27; try clear c28; try clear p28; try clear q28; try clear hx28; try clear c31; try clear c32; try clear c33; try clear hcz13_0; try clear hcz19_0; try clear hcz24_0 hcz24_1 hcz24_2; try clear hcz29_0 hcz29_1 hcz29_2; try clear hcz34_0 hcz34_1 hcz34_2; try clear hcz9_0; try clear hfz13_0; try clear hfz19_0; try clear hfz24_0 hfz24_1 hfz24_2; try clear hfz29_0 hfz29_1 hfz29_2; try clear hfz34_0 hfz34_1 hfz34_2; try clear hfz9_0; try clear hx287_0; try clear hx287_1; try clear hx287_2; try clear p2; try clear p287; try clear q287
 obtain ⟨kq, x34_15, rfl, HA, HJ15, HO_287000, BK284, BK285, BK286, BK288, HB⟩ := hcut
 cases kq with
 | zero => exact absurd HA.out (by simp [spec_MovedItems.j1])
 | succ kj15 =>
 have H := HA.out
 clear HA
 simp only [spec_MovedItems.j1] at H
 have HC36 := Aside0.mk H
 clear H
 go_upto_if 34 with (fail)
 go_cut [] (fun wc => ∃ (kq : Nat) (x289000_35 : ByteArray), Aside0 (spec_MovedItems.j2 kq a1 a2 x8_1 l0_0 x287000_1 x289000_35 ((rd_T44 l0_0 x8_1).f1) ((rd_T44 l0_0 x8_1).f2) = some r) ∧ Aside0 (kq ≤ kj15) ∧ Aside0 (Kd.R k44 44 wc w.heap.size (fun k_ => k_ ≠ gb288) u287000 x287000_1) ∧ Aside0 (wc.heap[gb284]? = some (.cells #[(.slice (some ad287) l0_0.length c0_0)] 42 (0, 0))) ∧ Aside0 (wc.heap[gb285]? = some (.cells #[(.slice none 0 0)] 42 (0, 0))) ∧ Aside0 (wc.heap[gb286]? = some (.cells #[u287000] 42 (0, 0))) ∧ Aside0 (wc.heap[gb288]? = some (.cells #[.string x289000_35, .bool ((rd_T44 l0_0 x8_1).f1), .string ((rd_T44 l0_0 x8_1).f2)] 44 (0, 0))) ∧ Aside0 (Below w.heap.size w wc))
 case first =>
  have H := HC36.out
  clear HC36
  by_cases c37 : x34_15 = true
  rotate_left
  ·replace c37 := Bool.eq_false_iff.mpr c37
   subst c37
   rw [if_neg nf_] at H
   have H' := Aside0.mk H
   clear H
   go_wp2
   go_meet
   case rel => exact ⟨_, (((rd_T44 l0_0 x8_1).f0)), H', ⟨(by have := HK1.out; have := HJ15.out; first | omega | exact Nat.le_refl _)⟩, ⟨(raR_ HO_287000)⟩, ⟨(kb_ BK284)⟩, ⟨(kb_ BK285)⟩, ⟨(kb_ BK286)⟩, ⟨(kb_ BK288)⟩, ⟨th_⟩⟩
  subst c37
  rw [if_pos rfl] at H
  obtain ⟨c38, H⟩ := fc_ H
  have c38b0 := eq_true c38
  have c38b1 := decide_eq_true c38
  clear c38
  obtain ⟨c39, H⟩ := fc_ H
  have c39b0 := eq_true c39
  have c39b1 := decide_eq_true c39
  clear c39
  obtain ⟨y290, hy290⟩ : ∃ y_ : ByteArray, (((rd_T44 l0_0 x8_1).f0).extract ((a1.size : Int) : Int).toNat ((rd_T44 l0_0 x8_1).f0).size) = y_ := ⟨_, rfl⟩
  replace H : (if a2.size + y290.size ≤ 9223372036854775807 then ((some (a2 ++ y290 : ByteArray)).bind fun y291 => (spec_MovedItems.j2 kj15 a1 a2 x8_1 l0_0 x287000_1 y291 ((rd_T44 l0_0 x8_1).f1) ((rd_T44 l0_0 x8_1).f2))) else (none)) = some r := by rw [← hy290]; exact (Option.bind_some _ _).symm.trans H
  (try simp only [Int.toNat_natCast] at hy290)
  obtain ⟨c40, H⟩ := fc_ H
  have c40b0 := eq_true c40
  have c40b1 := decide_eq_true c40
  try have c40b2 : (9223372036854775807 < a2.size + y290.size) = False := eq_false (Nat.not_lt.2 c40)
  clear c40
  obtain ⟨y291, hy291⟩ : ∃ y_ : ByteArray, (a2 ++ y290) = y_ := ⟨_, rfl⟩
  replace H : (spec_MovedItems.j2 kj15 a1 a2 x8_1 l0_0 x287000_1 y291 ((rd_T44 l0_0 x8_1).f1) ((rd_T44 l0_0 x8_1).f2)) = some r := by rw [← hy291]; exact (Option.bind_some _ _).symm.trans H
  (try simp only [Int.toNat_natCast] at hy291)
  have H' := Aside0.mk H
  clear H
  obtain ⟨hcz44_0, hcz44_1, hcz44_2⟩ := bk3_ BK288.out
  obtain ⟨hfz44_0, hfz44_1, hfz44_2⟩ := bf3_ BK288.out
  go_wp2
  go_meet
  case rel => exact ⟨_, (y291), H', ⟨(by have := HK1.out; have := HJ15.out; first | omega | exact Nat.le_refl _)⟩, ⟨(by (with_reducible repeat (first | apply Kd.R_alloc | apply Kd.R_drewN | apply Kd.R_drew)); exact Kd.R_mono (rR_ (Kd.R_mono HO_287000.out (fun k_ hk => (⟨hk, hk⟩ : _ ∧ k_ ≠ gb288)))) (fun _ hk => hk.1))⟩, ⟨tb_⟩, ⟨tb_⟩, ⟨tb_⟩, ⟨tb_⟩, ⟨th_⟩⟩
 case rest =>
 clear HC36
 try clear c1; try clear c2; try clear p2; try clear q2; try clear hx2; try clear c3; try clear c4; try clear c7; try clear c8; try clear c11; try clear c12; try clear c14; try clear c14b0; try clear c15; try clear c15b0; try clear c17; try clear c18; try clear c21; try clear c22; try clear c23; try clear c25; try clear c25b0; try clear c25b1; try clear c26; try clear c27; try clear c28; try clear p28; try clear q28; try clear hx28; try clear c31; try clear c32; try clear c33; try clear c37; try clear c38; try clear c38b0; try clear c38b1; try clear c39; try clear c39b0; try clear c39b1; try clear c40; try clear c40b0; try clear c40b1; try clear c40b2; try clear c41; try clear c42; try clear c43; try clear hcz13_0; try clear hcz19_0; try clear hcz24_0 hcz24_1 hcz24_2; try clear hcz29_0 hcz29_1 hcz29_2; try clear hcz34_0 hcz34_1 hcz34_2; try clear hcz44_0 hcz44_1 hcz44_2; try clear hcz9_0; try clear hfz13_0; try clear hfz19_0; try clear hfz24_0 hfz24_1 hfz24_2; try clear hfz29_0 hfz29_1 hfz29_2; try clear hfz34_0 hfz34_1 hfz34_2; try clear hfz44_0 hfz44_1 hfz44_2; try clear hfz9_0; try clear hx287_0; try clear hx287_1; try clear hx287_2; try clear p2; try clear p28; try clear p287; try clear q2; try clear q28; try clear q287
 obtain ⟨kq, x289000_35, HA, HJ35, HO_287000, BK284, BK285, BK286, BK288, HB⟩ := hcut
 cases kq with
 | zero => exact absurd HA.out (by simp [spec_MovedItems.j2])
 | succ kj35 =>
 have H := HA.out
 clear HA
 simp only [spec_MovedItems.j2] at H
 have H' := Aside0.mk H
 clear H
 go_wp2
 go_loopg [10] kj35 (fun kq v10 w' => ∃ (x10_4 : Int), v10 = .int .i64 x10_4 ∧ Aside0 (spec_MovedItems.l1 kq a1 a2 x8_1 x10_4 l0_0 x287000_1 x289000_35 ((rd_T44 l0_0 x8_1).f1) ((rd_T44 l0_0 x8_1).f2) = some r) ∧ Aside0 (kq ≤ kj35) ∧ Aside0 (Kd.R k44 44 w' w.heap.size (fun k_ => k_ ≠ gb288) u287000 x287000_1) ∧ Aside0 (w'.heap[gb284]? = some (.cells #[(.slice (some ad287) l0_0.length c0_0)] 42 (0, 0))) ∧ Aside0 (w'.heap[gb285]? = some (.cells #[(.slice none 0 0)] 42 (0, 0))) ∧ Aside0 (w'.heap[gb286]? = some (.cells #[u287000] 42 (0, 0))) ∧ Aside0 (w'.heap[gb288]? = some (.cells #[.string x289000_35, .bool ((rd_T44 l0_0 x8_1).f1), .string ((rd_T44 l0_0 x8_1).f2)] 44 (0, 0))) ∧ Aside0 (Below w.heap.size w w'))
 case atStart => exact ⟨(0), tq_5, H', ⟨Nat.le_refl _⟩, ⟨(raR_ HO_287000)⟩, ⟨(kb_ BK284)⟩, ⟨(kb_ BK285)⟩, ⟨(kb_ BK286)⟩, ⟨(kb_ BK288)⟩, ⟨th_⟩⟩
 case round =>
 clear H'
 try clear c1; try clear c2; try clear p2; try clear q2; try clear hx2; try clear c3; try clear c4; try clear c7; try clear c8; try clear c11; try clear c12; try clear c14; try clear c14b0; try clear c15; try clear c15b0; try clear c17; try clear c18; try clear c21; try clear c22; try clear c23; try clear c25; try clear c25b0; try clear c25b1; try clear c26; try clear c27; try clear c28; try clear p28; try clear q28; try clear hx28; try clear c31; try clear c32; try clear c33; try clear c37; try clear c38; try clear c38b0; try clear c38b1; try clear c39; try clear c39b0; try clear c39b1; try clear c40; try clear c40b0; try clear c40b1; try clear c40b2; try clear c41; try clear c42; try clear c43; try clear hcz13_0; try clear hcz19_0; try clear hcz24_0 hcz24_1 hcz24_2; try clear hcz29_0 hcz29_1 hcz29_2; try clear hcz34_0 hcz34_1 hcz34_2; try clear hcz44_0 hcz44_1 hcz44_2; try clear hcz9_0; try clear hfz13_0; try clear hfz19_0; try clear hfz24_0 hfz24_1 hfz24_2; try clear hfz29_0 hfz29_1 hfz29_2; try clear hfz34_0 hfz34_1 hfz34_2; try clear hfz44_0 hfz44_1 hfz44_2; try clear hfz9_0; try clear hx287_0; try clear hx287_1; try clear hx287_2; try clear p2; try clear p28; try clear p287; try clear q2; try clear q28; try clear q287
 obtain ⟨x10_4, rfl, HA, HK4, HO_287000, BK284, BK285, BK286, BK288, HB⟩ := hrel
 cases gk with
 | zero => exact absurd HA.out (by simp [spec_MovedItems.l1])
 | succ k4 =>
 have H := HA.out
 clear HA
 simp only [spec_MovedItems.l1] at H
 by_cases c45 : x10_4 < (x287000_1.length : Int)
 rotate_left
 ·rw [if_neg c45] at H
  have c45b0 := decide_eq_false c45
  clear c45
  obtain ⟨y316, Ny316, H⟩ := bs_ H
  obtain ⟨c76, H⟩ := fc_ H
  have c76b0 := eq_true c76
  have c76b1 := decide_eq_true c76
  clear c76
  obtain ⟨c77, H⟩ := fc_ H
  have c77b0 := eq_true c77
  have c77b1 := decide_eq_true c77
  clear c77
  obtain ⟨y319, Ny319, H⟩ := bs_ H
  obtain ⟨c78, H⟩ := fc_ H
  have LMc78 := Aside0.mk c78
  clear c78
  obtain ⟨y323, Ny323, H⟩ := bs_ H
  obtain ⟨y326, Ny326, H⟩ := bs_ H
  obtain ⟨c79, H⟩ := fc_ H
  have LMc79 := Aside0.mk c79
  clear c79
  obtain ⟨y329, Ny329, H⟩ := bs_ H
  have c80b0 := eq_true (of_decide_eq_true tq_3 : 0 ≤ x10_4)
  have c81b0 := eq_true (of_decide_eq_true tq_3 : x10_4 ≤ (x287000_1.length : Int))
  obtain ⟨y332, Ny332, H⟩ := bs_ H
  obtain ⟨c82, H⟩ := fc_ H
  have LMc82 := Aside0.mk c82
  clear c82
  obtain ⟨y336, hy336⟩ : ∃ y_ : List (S44), y_ = (y329 ++ y332) := ⟨_, rfl⟩
  replace H : (spec_MovedItems.l0 k4 a1 a2 (wrap64 (x8_1 + 1)) l0_0 y336) = some r := by first | (rw [hy336]; with_reducible exact H) | (have H2_ := (Option.bind_some _ _).symm.trans H; rw [hy336]; with_reducible exact H2_) | (have H2_ := (Option.bind_some _ _).symm.trans H; with_reducible exact H2_) | with_reducible exact H | (rw [hy336]; exact H) | exact H
  have Ny336 := Aside0.mk hy336
  clear hy336
  have H' := Aside0.mk H
  clear H
  try go_wp2
  have z_ := p_ (Kd.R_drew HO_287000.out) <| dw4_ BK284 BK285 BK286 BK288 HB
  clear HO_287000 BK284 BK285 BK286 BK288 HB
  obtain ⟨HO_287000, BK284, BK285, BK286, BK288, HB⟩ := z_
  obtain ⟨Ao84, co84, eo84⟩ := Kd.R_slice HO_287000.out
  (first | subst eo84 | (injection eo84 with f1_ f2_ f3_; have f4_ := f1_.symm; have f5_ := f3_.symm; clear f1_ f2_ f3_; subst f4_; subst f5_))
  refine start_ (n := 16) (S := fun w' => w'.cell? ⟨gb286, 0, none⟩ = some (.slice Ao84 x287000_1.length co84)) (ds := []) bq_83 (by kernel_rfl) rfl rfl ((blk_cell BK286.out 0).trans rfl) (fun hHeld => ?_); refine with_tabW spec_MovedItems.tab9 spec_MovedItems.bits9 (fun HT_ HW_ => ?_)
  generalize wr.drew = w83 at HO_287000 BK284 BK285 BK286 BK288 HB hHeld ⊢
  refine yr_ 0 43 bq_114 HT_ ?_
  refine yr_ 1 44 bq_115 HT_ ?_
  refine take_ (i := 2) (N := some 45) (v := ?_) (a' := ?_) bq_116 rfl rfl (take_ofW HT_.out HW_.out (by kernel_rfl)) (fun _ _ _ h => h) (Or.inl ⟨(by rfl), ?_⟩) hHeld ?_ ?_
  rotate_left
  ·intro w' s0
   go_simp
   with_reducible rfl
  rotate_left
  ·simp only [Act.put, List.setIfInBounds_toArray, List.set_cons_zero, List.set_cons_succ, i64_w, i32_w]
   rfl
  refine yr_ 3 46 bq_117 HT_ ?_
  refine yr_ 4 47 bq_118 HT_ ?_
  refine yr_ 5 48 bq_119 HT_ ?_
  refine ur_ 6 49 bq_84 HT_ ?_
  refine ur_ 7 50 bq_120 HT_ ?_
  refine ur_ 8 51 bq_121 HT_ ?_
  refine ur_ 9 52 bq_122 HT_ ?_
  refine ur_ 10 53 bq_123 HT_ ?_
  refine ur_ 11 54 bq_124 HT_ ?_
  refine ur_ 12 55 bq_85 HT_ ?_
  refine ur_ 13 56 bq_6 HT_ ?_
  refine ur_ 14 57 bq_86 HT_ ?_
  refine yr_ 15 58 bq_87 HT_ ?_
  refine done_ (done_of HT_.out (by kernel_rfl)) ?_
  try go_wp2
  have z_ := p_ (Kd.R_drew HO_287000.out) <| dw4_ BK284 BK285 BK286 BK288 HB
  clear HO_287000 BK284 BK285 BK286 BK288 HB
  obtain ⟨HO_287000, BK284, BK285, BK286, BK288, HB⟩ := z_
  have q86 : (x10_4 : Int) ≤ ((x287000_1.length : Int) : Int) := of_decide_eq_true tq_3
  obtain ⟨i086, hi086, _, hsz86, _⟩ := info_parts info44
  have hroom86 : x287000_1.length ≤ co84 := (Kd.R_reads' HO_287000.out).2.1
  have hC86 : Kd.C k44 _ Ao84 x287000_1.length x287000_1 := (Kd.R_reads' HO_287000.out).2.2
  have hcut86 := cut_to (P := Try.prog) 40 44 .i64 Try.underlying40 hi086 Ao84 x287000_1.length co84 x10_4 (of_decide_eq_true tq_3) q86 hroom86
  have hr86 := Kd.C_take (m := (x10_4 : Int).toNat) hC86 (by omega)
  have hy86 : y319.length = (x10_4 : Int).toNat := (by rw [Ny319.out, List.length_take]; omega)
  rw [← Ny319.out] at hr86
  rw [← hy86] at hcut86
  have HR322 := Aside0.mk hr86
  have HC322 := Aside0.mk (show y319.length ≤ co84 from by omega)
  clear hr86 hC86 hroom86 hi086 hsz86
  have KY86 := Aside0.mk hy86
  clear hy86
  have KL86 := Aside0.mk (show (x10_4 : Int).toNat ≤ x287000_1.length from by omega)
  replace q86 := eq_true q86
  refine start_ (n := 10) (S := fun w' => w'.cell? ⟨gb286, 0, none⟩ = some (.slice Ao84 x287000_1.length co84) ∧ w'.cell? ⟨gb288, 0, none⟩ = some (.string x289000_35) ∧ w'.cell? ⟨gb288, 1, none⟩ = some (.bool ((rd_T44 l0_0 x8_1).f1)) ∧ w'.cell? ⟨gb288, 2, none⟩ = some (.string ((rd_T44 l0_0 x8_1).f2))) (ds := []) bq_88 (by kernel_rfl) rfl rfl ⟨(blk_cell BK286.out 0).trans rfl, bk3_ BK288.out⟩ (fun hHeld => ?_); refine with_tabW spec_MovedItems.tab11 spec_MovedItems.bits11 (fun HT_ HW_ => ?_)
  generalize w83.drew = w85 at HO_287000 BK284 BK285 BK286 BK288 HB HR322 hHeld ⊢
  refine yr_ 1 62 bq_89 HT_ ?_
  refine yr_ 3 64 bq_90 HT_ ?_
  refine tr_ 2 63 bq_125 HT_ HW_ hHeld ?_
  refine yr_ 4 65 bq_126 HT_ ?_
  refine tr_ 6 67 bq_127 HT_ HW_ hHeld ?_
  refine join_ (σ := Value × Value × Value) 2 bq_0 (fun s_ => [(61, s_.1), (66, s_.2.1), (68, s_.2.2)]) (fun s_ w' => (w'.cell? ⟨gb286, 0, none⟩ = some (.slice Ao84 x287000_1.length co84) ∧ w'.cell? ⟨gb288, 0, none⟩ = some (.string x289000_35) ∧ w'.cell? ⟨gb288, 1, none⟩ = some (.bool ((rd_T44 l0_0 x8_1).f1)) ∧ w'.cell? ⟨gb288, 2, none⟩ = some (.string ((rd_T44 l0_0 x8_1).f2))) ∧ (Kd.R k44 44 w' w.heap.size (fun k_ => some k_ ≠ (s_.2.2 : Value).ownBlock ∧ some k_ ≠ (.slice Ao84 x287000_1.length co84 : Value).ownBlock ∧ k_ ≠ gb288) s_.2.1 y323) ∧ (Kd.R k44 44 w' w.heap.size (fun k_ => some k_ ≠ (s_.2.1 : Value).ownBlock ∧ some k_ ≠ (.slice Ao84 x287000_1.length co84 : Value).ownBlock ∧ k_ ≠ gb288) s_.2.2 y326) ∧ (Kd.R k44 44 w' w.heap.size (fun k_ => some k_ ≠ (s_.2.1 : Value).ownBlock ∧ some k_ ≠ (s_.2.2 : Value).ownBlock ∧ k_ ≠ gb288) (.slice Ao84 x287000_1.length co84) x287000_1) ∧ (w'.heap[gb284]? = some (.cells #[.slice (some ad287) l0_0.length c0_0] 42 (0, 0))) ∧ (w'.heap[gb285]? = some (.cells #[.slice none 0 0] 42 (0, 0))) ∧ (w'.heap[gb286]? = some (.cells #[.slice Ao84 x287000_1.length co84] 42 (0, 0))) ∧ (w'.heap[gb288]? = some (.cells #[.string x289000_35, .bool ((rd_T44 l0_0 x8_1).f1), .string ((rd_T44 l0_0 x8_1).f2)] 44 (0, 0))) ∧ (Below w.heap.size w w')) ?_ ?_
  rotate_left
  ·intro hCont
   refine two_ (i := 0) (j := 7) (Ni := some 61) (Nj := some 68) bq_128 bq_129 rfl rfl rfl rfl (two_of HT_.out (by kernel_rfl)) (by decide) (by decide) (fun K hK => ?_) (fun K hK => ?_)
   ·skip
    refine Kd.R_lit_step k44 _ 44 ?hg (N := 61) ?hd (xs := ([] : List (S44))) (inner := []) (ok := fun _ => True) (okp := fun _ => True) ?hr ?hp (fun _ hk => hk) trivial (Below.refl _ _) (Nat.le_refl _) (by simp) ?_; (case hd => rfl); (case hg => rfl); (case hr => first | (go_simp; done) | (go_simp; rfl)); (case hp => exact (Reps.none _ _))
    intro v317 w87 ho88 hb hg_ hnew_
    clear hg_ hnew_
    (first | rw [← Ny316.out] at ho88 | (simp only [Int.reduceToNat] at ho88; rw [← Ny316.out] at ho88))
    have z_ := p_ (Kd.R_elder' (raR_ HO_287000) (Kd.R_base ho88) hb) <| p_ (Kd.R_lower (Kd.R_newB (Kd.R_new' ho88 (Kd.R_lt (raR_ HO_287000))) (g := gb288) (o := .cells #[.string x289000_35, .bool ((rd_T44 l0_0 x8_1).f1), .string ((rd_T44 l0_0 x8_1).f2)] 44 (0, 0)) (kb_ BK288)) (below_size th_)) <| p_ (blk_below (kb_ BK284) hb) <| p_ (blk_below (kb_ BK285) hb) <| p_ (blk_below (kb_ BK286) hb) <| p_ (blk_below (kb_ BK288) hb) <| p_ (Kd.C_below tq_28 hb) <| a_ (below_step th_ hb)
    clear HO_287000 BK284 BK285 BK286 BK288 HR322 HB
    obtain ⟨HO_287000, HO318, BK284, BK285, BK286, BK288, HR322, HB⟩ := z_
    clear hb ho88
    refine hK.out _ _ ⟨(blk_cell BK286.out 0).trans rfl, bk3_ BK288.out⟩ (fun hHeld => ?_)
    clear hK K
    refine nm_ (some 61) ?_
    refine two_ (i := 5) (j := 7) (Ni := some 66) (Nj := some 68) bq_91 bq_73 rfl rfl rfl rfl (two_of HT_.out (by kernel_rfl)) (by decide) (by decide) (fun K hK => ?_) (fun K hK => ?_)
    ·skip
     refine Kd.R_append_rows_step k44 (w0 := w) w.heap.size (by rfl) (.tmp 61) (.tmp 65) 40 44 (.agg #[(.string ⟨#[]⟩), (.bool false), (.string ⟨#[]⟩)]) 40 rfl Try.underlying40 info44 rfl (by decide) (by omega) v317 y316 y319 _ _ _ (fun k_ => some k_ ≠ (.slice Ao84 x287000_1.length co84 : Value).ownBlock ∧ k_ ≠ gb288) (fun _ => False) rfl rfl ?aO ?aR (fun _ _ h => h) (fun _ h => h.elim) ?aF ?aB ?aS ?aL ?_
     (case aR => exact tq_82)
     (case aB => exact th_)
     (case aF => exact tq_103)
     (case aO => exact (by (with_reducible repeat (first | apply Kd.R_alloc | apply Kd.R_drewN | apply Kd.R_drew)); exact Kd.R_mono HO318.out (fun _ hk => ⟨hk.1.2, hk.2⟩)))
     (case aS => exact (below_size th_))
     (case aL => have := LMc78.out; omega)
     intro v324 w89 ho hb hg hat
     rw [← Ny323.out] at ho
     have z_ := p_ (Kd.R_after (ok := (fun k_ => k_ ≠ gb288)) (raR_ HO_287000) hg hat) <| p_ (blk_grown (g := gb284) (o := .cells #[.slice (some ad287) l0_0.length c0_0] 42 (0, 0)) (kb_ BK284) hg (Kd.R_ne HO318.out BK284.out (by decide))) <| p_ (blk_grown (g := gb285) (o := .cells #[.slice none 0 0] 42 (0, 0)) (kb_ BK285) hg (Kd.R_ne HO318.out BK285.out (by decide))) <| p_ (blk_grown (g := gb286) (o := .cells #[.slice Ao84 x287000_1.length co84] 42 (0, 0)) (kb_ BK286) hg (Kd.R_ne HO318.out BK286.out (by decide))) <| p_ (blk_grown (g := gb288) (o := .cells #[.string x289000_35, .bool ((rd_T44 l0_0 x8_1).f1), .string ((rd_T44 l0_0 x8_1).f2)] 44 (0, 0)) (kb_ BK288) hg (Kd.R_away HO318.out (fun _ hk => hk.2))) <| p_ (hb) <| p_ ((show Kd.C k44 w89 Ao84 y319.length y319 from by rw [Ny319.out]; exact Kd.C_take (m := (x10_4 : Int).toNat) ((Kd.R_reads' (Kd.R_after (ok := (fun k_ => k_ ≠ gb288)) (raR_ HO_287000) hg hat)).2.2) KL86.out)) <| a_ (ho)
     clear HO_287000 BK284 BK285 BK286 BK288 HB HR322 HO318
     obtain ⟨HO_287000, BK284, BK285, BK286, BK288, HB, HR322, HO325⟩ := z_
     clear ho hb hg hat
     refine hK.out _ _ ⟨(blk_cell BK286.out 0).trans rfl, bk3_ BK288.out⟩ (fun hHeld => ?_)
     clear hK K
     refine nm_ (some 66) ?_
     refine one_ (i := 7) (N := some 68) bq_0 rfl rfl (one_of HT_.out (by kernel_rfl)) (by decide) (fun K hK => ?_)
     refine Kd.R_lit_step k44 _ 44 ?hg (N := 68) ?hd (xs := ([(⟨x289000_35, ((rd_T44 l0_0 x8_1).f1), ((rd_T44 l0_0 x8_1).f2)⟩ : S44)] : List (S44))) (inner := [.string x289000_35, .bool ((rd_T44 l0_0 x8_1).f1), .string ((rd_T44 l0_0 x8_1).f2)]) (ok := fun _ => True) (okp := fun _ => True) ?hr ?hp (fun _ hk => hk) trivial (Below.refl _ _) (Nat.le_refl _) (by simp) ?_; (case hd => rfl); (case hg => rfl); (case hr => first | (go_simp; done) | (go_simp; rfl)); (case hp => exact tq_26)
     intro v327 w90 ho91 hb hg_ hnew_
     clear hg_ hnew_
     (first | rw [← Ny326.out] at ho91 | (simp only [Int.reduceToNat] at ho91; rw [← Ny326.out] at ho91))
     have z_ := p_ (Kd.R_elder' (raR_ HO_287000) (Kd.R_base ho91) hb) <| p_ (Kd.R_elder' (raR_ HO325) (Kd.R_base ho91) hb) <| p_ (Kd.R_lower (Kd.R_newB (Kd.R_new' (Kd.R_new' ho91 (Kd.R_lt (raR_ HO_287000))) (Kd.R_lt (raR_ HO325))) (g := gb288) (o := .cells #[.string x289000_35, .bool ((rd_T44 l0_0 x8_1).f1), .string ((rd_T44 l0_0 x8_1).f2)] 44 (0, 0)) (kb_ BK288)) (below_size th_)) <| p_ (blk_below (kb_ BK284) hb) <| p_ (blk_below (kb_ BK285) hb) <| p_ (blk_below (kb_ BK286) hb) <| p_ (blk_below (kb_ BK288) hb) <| p_ (Kd.C_below tq_28 hb) <| a_ (below_step th_ hb)
     clear HO_287000 HO325 BK284 BK285 BK286 BK288 HR322 HB
     obtain ⟨HO_287000, HO325, HO328, BK284, BK285, BK286, BK288, HR322, HB⟩ := z_
     clear hb ho91
     refine hK.out _ _ ⟨(blk_cell BK286.out 0).trans rfl, bk3_ BK288.out⟩ (fun hHeld => ?_)
     clear hK K
     refine nm_ (some 68) ?_
     exact norm_ tq_32 (hCont (v317, v324, v327) _ ⟨hHeld, (by (with_reducible repeat (first | apply Kd.R_alloc | apply Kd.R_drewN | apply Kd.R_drew)); exact Kd.R_mono HO325.out (fun _ hk => ⟨hk.2, ⟨hk.1.1, hk.1.2⟩⟩)), (by (with_reducible repeat (first | apply Kd.R_alloc | apply Kd.R_drewN | apply Kd.R_drew)); exact Kd.R_mono HO328.out (fun _ hk => ⟨hk.1.2, ⟨hk.1.1.2, hk.2⟩⟩)), tq_118, (kb_ BK284), (kb_ BK285), (kb_ BK286), (kb_ BK288), th_⟩)
    ·skip
     refine Kd.R_lit_step k44 _ 44 ?hg (N := 68) ?hd (xs := ([(⟨x289000_35, ((rd_T44 l0_0 x8_1).f1), ((rd_T44 l0_0 x8_1).f2)⟩ : S44)] : List (S44))) (inner := [.string x289000_35, .bool ((rd_T44 l0_0 x8_1).f1), .string ((rd_T44 l0_0 x8_1).f2)]) (ok := fun _ => True) (okp := fun _ => True) ?hr ?hp (fun _ hk => hk) trivial (Below.refl _ _) (Nat.le_refl _) (by simp) ?_; (case hd => rfl); (case hg => rfl); (case hr => first | (go_simp; done) | (go_simp; rfl)); (case hp => exact tq_26)
     intro v327 w89 ho90 hb hg_ hnew_
     clear hg_ hnew_
     (first | rw [← Ny326.out] at ho90 | (simp only [Int.reduceToNat] at ho90; rw [← Ny326.out] at ho90))
     have z_ := p_ (Kd.R_elder' (raR_ HO_287000) (Kd.R_base ho90) hb) <| p_ (Kd.R_elder' (raR_ HO318) (Kd.R_base ho90) hb) <| p_ (Kd.R_lower (Kd.R_newB (Kd.R_new' (Kd.R_new' ho90 (Kd.R_lt (raR_ HO_287000))) (Kd.R_lt (raR_ HO318))) (g := gb288) (o := .cells #[.string x289000_35, .bool ((rd_T44 l0_0 x8_1).f1), .string ((rd_T44 l0_0 x8_1).f2)] 44 (0, 0)) (kb_ BK288)) (below_size th_)) <| p_ (blk_below (kb_ BK284) hb) <| p_ (blk_below (kb_ BK285) hb) <| p_ (blk_below (kb_ BK286) hb) <| p_ (blk_below (kb_ BK288) hb) <| p_ (Kd.C_below tq_28 hb) <| a_ (below_step th_ hb)
     clear HO_287000 HO318 BK284 BK285 BK286 BK288 HR322 HB
     obtain ⟨HO_287000, HO318, HO328, BK284, BK285, BK286, BK288, HR322, HB⟩ := z_
     clear hb ho90
     refine hK.out _ _ ⟨(blk_cell BK286.out 0).trans rfl, bk3_ BK288.out⟩ (fun hHeld => ?_)
     clear hK K
     refine nm_ (some 68) ?_
     refine one_ (i := 5) (N := some 66) bq_0 rfl rfl (one_of HT_.out (by kernel_rfl)) (by decide) (fun K hK => ?_)
     refine Kd.R_append_rows_step k44 (w0 := w) w.heap.size (by rfl) (.tmp 61) (.tmp 65) 40 44 (.agg #[(.string ⟨#[]⟩), (.bool false), (.string ⟨#[]⟩)]) 40 rfl Try.underlying40 info44 rfl (by decide) (by omega) v317 y316 y319 _ _ _ (fun k_ => some k_ ≠ (.slice Ao84 x287000_1.length co84 : Value).ownBlock ∧ some k_ ≠ (v327 : Value).ownBlock ∧ k_ ≠ gb288) (fun _ => False) rfl rfl ?aO ?aR (fun _ _ h => h) (fun _ h => h.elim) ?aF ?aB ?aS ?aL ?_
     (case aR => exact tq_82)
     (case aB => exact th_)
     (case aF => exact tq_45)
     (case aO => exact (by (with_reducible repeat (first | apply Kd.R_alloc | apply Kd.R_drewN | apply Kd.R_drew)); exact Kd.R_mono HO318.out (fun _ hk => ⟨hk.1.1.2, ⟨hk.2, hk.1.2⟩⟩)))
     (case aS => exact (below_size th_))
     (case aL => have := LMc78.out; omega)
     intro v324 w91 ho hb hg hat
     rw [← Ny323.out] at ho
     have z_ := p_ (Kd.R_after (ok := (fun k_ => some k_ ≠ (v327 : Value).ownBlock ∧ k_ ≠ gb288)) tq_60 hg hat) <| p_ (blk_grown (g := gb284) (o := .cells #[.slice (some ad287) l0_0.length c0_0] 42 (0, 0)) (kb_ BK284) hg (Kd.R_ne HO318.out BK284.out (by decide))) <| p_ (blk_grown (g := gb285) (o := .cells #[.slice none 0 0] 42 (0, 0)) (kb_ BK285) hg (Kd.R_ne HO318.out BK285.out (by decide))) <| p_ (blk_grown (g := gb286) (o := .cells #[.slice Ao84 x287000_1.length co84] 42 (0, 0)) (kb_ BK286) hg (Kd.R_ne HO318.out BK286.out (by decide))) <| p_ (blk_grown (g := gb288) (o := .cells #[.string x289000_35, .bool ((rd_T44 l0_0 x8_1).f1), .string ((rd_T44 l0_0 x8_1).f2)] 44 (0, 0)) (kb_ BK288) hg (Kd.R_away HO318.out (fun _ hk => hk.1.2))) <| p_ (Kd.R_after (ok := (fun k_ => some k_ ≠ (.slice Ao84 x287000_1.length co84 : Value).ownBlock ∧ k_ ≠ gb288)) (by (with_reducible repeat (first | apply Kd.R_alloc | apply Kd.R_drewN | apply Kd.R_drew)); exact Kd.R_mono HO328.out (fun _ hk => ⟨⟨hk.1.1.2, hk.2⟩, hk.1.2⟩)) hg hat) <| p_ (hb) <| p_ ((show Kd.C k44 w91 Ao84 y319.length y319 from by rw [Ny319.out]; exact Kd.C_take (m := (x10_4 : Int).toNat) ((Kd.R_reads' (Kd.R_after (ok := (fun k_ => some k_ ≠ (v327 : Value).ownBlock ∧ k_ ≠ gb288)) tq_60 hg hat)).2.2) KL86.out)) <| a_ (ho)
     clear HO_287000 BK284 BK285 BK286 BK288 HO328 HB HR322 HO318
     obtain ⟨HO_287000, BK284, BK285, BK286, BK288, HO328, HB, HR322, HO325⟩ := z_
     clear ho hb hg hat
     refine hK.out _ _ ⟨(blk_cell BK286.out 0).trans rfl, bk3_ BK288.out⟩ (fun hHeld => ?_)
     clear hK K
     refine nm_ (some 66) ?_
     exact norm_ tq_32 (hCont (v317, v324, v327) _ ⟨hHeld, tq_77, tq_120, tq_62, (kb_ BK284), (kb_ BK285), (kb_ BK286), (kb_ BK288), th_⟩)
   ·skip
    refine Kd.R_lit_step k44 _ 44 ?hg (N := 68) ?hd (xs := ([(⟨x289000_35, ((rd_T44 l0_0 x8_1).f1), ((rd_T44 l0_0 x8_1).f2)⟩ : S44)] : List (S44))) (inner := [.string x289000_35, .bool ((rd_T44 l0_0 x8_1).f1), .string ((rd_T44 l0_0 x8_1).f2)]) (ok := fun _ => True) (okp := fun _ => True) ?hr ?hp (fun _ hk => hk) trivial (Below.refl _ _) (Nat.le_refl _) (by simp) ?_; (case hd => rfl); (case hg => rfl); (case hr => first | (go_simp; done) | (go_simp; rfl)); (case hp => exact tq_26)
    intro v327 w87 ho88 hb hg_ hnew_
    clear hg_ hnew_
    (first | rw [← Ny326.out] at ho88 | (simp only [Int.reduceToNat] at ho88; rw [← Ny326.out] at ho88))
    have z_ := p_ (Kd.R_elder' (raR_ HO_287000) (Kd.R_base ho88) hb) <| p_ (Kd.R_lower (Kd.R_newB (Kd.R_new' ho88 (Kd.R_lt (raR_ HO_287000))) (g := gb288) (o := .cells #[.string x289000_35, .bool ((rd_T44 l0_0 x8_1).f1), .string ((rd_T44 l0_0 x8_1).f2)] 44 (0, 0)) (kb_ BK288)) (below_size th_)) <| p_ (blk_below (kb_ BK284) hb) <| p_ (blk_below (kb_ BK285) hb) <| p_ (blk_below (kb_ BK286) hb) <| p_ (blk_below (kb_ BK288) hb) <| p_ (Kd.C_below tq_28 hb) <| a_ (below_step th_ hb)
    clear HO_287000 BK284 BK285 BK286 BK288 HR322 HB
    obtain ⟨HO_287000, HO328, BK284, BK285, BK286, BK288, HR322, HB⟩ := z_
    clear hb ho88
    refine hK.out _ _ ⟨(blk_cell BK286.out 0).trans rfl, bk3_ BK288.out⟩ (fun hHeld => ?_)
    clear hK K
    refine nm_ (some 68) ?_
    refine one_ (i := 0) (N := some 61) bq_73 rfl rfl (one_of HT_.out (by kernel_rfl)) (by decide) (fun K hK => ?_)
    refine Kd.R_lit_step k44 _ 44 ?hg (N := 61) ?hd (xs := ([] : List (S44))) (inner := []) (ok := fun _ => True) (okp := fun _ => True) ?hr ?hp (fun _ hk => hk) trivial (Below.refl _ _) (Nat.le_refl _) (by simp) ?_; (case hd => rfl); (case hg => rfl); (case hr => first | (go_simp; done) | (go_simp; rfl)); (case hp => exact (Reps.none _ _))
    intro v317 w89 ho90 hb hg_ hnew_
    clear hg_ hnew_
    (first | rw [← Ny316.out] at ho90 | (simp only [Int.reduceToNat] at ho90; rw [← Ny316.out] at ho90))
    have z_ := p_ (Kd.R_elder' (raR_ HO_287000) (Kd.R_base ho90) hb) <| p_ (Kd.R_elder' (raR_ HO328) (Kd.R_base ho90) hb) <| p_ (Kd.R_lower (Kd.R_newB (Kd.R_new' (Kd.R_new' ho90 (Kd.R_lt (raR_ HO_287000))) (Kd.R_lt (raR_ HO328))) (g := gb288) (o := .cells #[.string x289000_35, .bool ((rd_T44 l0_0 x8_1).f1), .string ((rd_T44 l0_0 x8_1).f2)] 44 (0, 0)) (kb_ BK288)) (below_size th_)) <| p_ (blk_below (kb_ BK284) hb) <| p_ (blk_below (kb_ BK285) hb) <| p_ (blk_below (kb_ BK286) hb) <| p_ (blk_below (kb_ BK288) hb) <| p_ (Kd.C_below tq_28 hb) <| a_ (below_step th_ hb)
    clear HO_287000 HO328 BK284 BK285 BK286 BK288 HR322 HB
    obtain ⟨HO_287000, HO328, HO318, BK284, BK285, BK286, BK288, HR322, HB⟩ := z_
    clear hb ho90
    refine hK.out _ _ ⟨(blk_cell BK286.out 0).trans rfl, bk3_ BK288.out⟩ (fun hHeld => ?_)
    clear hK K
    refine nm_ (some 61) ?_
    refine one_ (i := 5) (N := some 66) bq_0 rfl rfl (one_of HT_.out (by kernel_rfl)) (by decide) (fun K hK => ?_)
    refine Kd.R_append_rows_step k44 (w0 := w) w.heap.size (by rfl) (.tmp 61) (.tmp 65) 40 44 (.agg #[(.string ⟨#[]⟩), (.bool false), (.string ⟨#[]⟩)]) 40 rfl Try.underlying40 info44 rfl (by decide) (by omega) v317 y316 y319 _ _ _ (fun k_ => some k_ ≠ (.slice Ao84 x287000_1.length co84 : Value).ownBlock ∧ some k_ ≠ (v327 : Value).ownBlock ∧ k_ ≠ gb288) (fun _ => False) rfl rfl ?aO ?aR (fun _ _ h => h) (fun _ h => h.elim) ?aF ?aB ?aS ?aL ?_
    (case aR => exact tq_82)
    (case aB => exact th_)
    (case aF => exact tq_45)
    (case aO => exact (by (with_reducible repeat (first | apply Kd.R_alloc | apply Kd.R_drewN | apply Kd.R_drew)); exact Kd.R_mono HO318.out (fun _ hk => ⟨hk.1.1.2, ⟨hk.1.2, hk.2⟩⟩)))
    (case aS => exact (below_size th_))
    (case aL => have := LMc78.out; omega)
    intro v324 w91 ho hb hg hat
    rw [← Ny323.out] at ho
    have z_ := p_ (Kd.R_after (ok := (fun k_ => some k_ ≠ (v327 : Value).ownBlock ∧ k_ ≠ gb288)) tq_61 hg hat) <| p_ (blk_grown (g := gb284) (o := .cells #[.slice (some ad287) l0_0.length c0_0] 42 (0, 0)) (kb_ BK284) hg (Kd.R_ne HO318.out BK284.out (by decide))) <| p_ (blk_grown (g := gb285) (o := .cells #[.slice none 0 0] 42 (0, 0)) (kb_ BK285) hg (Kd.R_ne HO318.out BK285.out (by decide))) <| p_ (blk_grown (g := gb286) (o := .cells #[.slice Ao84 x287000_1.length co84] 42 (0, 0)) (kb_ BK286) hg (Kd.R_ne HO318.out BK286.out (by decide))) <| p_ (blk_grown (g := gb288) (o := .cells #[.string x289000_35, .bool ((rd_T44 l0_0 x8_1).f1), .string ((rd_T44 l0_0 x8_1).f2)] 44 (0, 0)) (kb_ BK288) hg (Kd.R_away HO318.out (fun _ hk => hk.2))) <| p_ (Kd.R_after (ok := (fun k_ => some k_ ≠ (.slice Ao84 x287000_1.length co84 : Value).ownBlock ∧ k_ ≠ gb288)) (by (with_reducible repeat (first | apply Kd.R_alloc | apply Kd.R_drewN | apply Kd.R_drew)); exact Kd.R_mono HO328.out (fun _ hk => ⟨⟨hk.1.1.2, hk.1.2⟩, hk.2⟩)) hg hat) <| p_ (hb) <| p_ ((show Kd.C k44 w91 Ao84 y319.length y319 from by rw [Ny319.out]; exact Kd.C_take (m := (x10_4 : Int).toNat) ((Kd.R_reads' (Kd.R_after (ok := (fun k_ => some k_ ≠ (v327 : Value).ownBlock ∧ k_ ≠ gb288)) tq_61 hg hat)).2.2) KL86.out)) <| a_ (ho)
    clear HO_287000 BK284 BK285 BK286 BK288 HO328 HB HR322 HO318
    obtain ⟨HO_287000, BK284, BK285, BK286, BK288, HO328, HB, HR322, HO325⟩ := z_
    clear ho hb hg hat
    refine hK.out _ _ ⟨(blk_cell BK286.out 0).trans rfl, bk3_ BK288.out⟩ (fun hHeld => ?_)
    clear hK K
    refine nm_ (some 66) ?_
    exact norm_ tq_32 (hCont (v317, v324, v327) _ ⟨hHeld, tq_77, tq_120, tq_62, (kb_ BK284), (kb_ BK285), (kb_ BK286), (kb_ BK288), th_⟩)
  rintro ⟨v317, v324, v327⟩ w92 ⟨hS_, h0_, h1_, h2_, h3_, h4_, h5_, h6_, h7_⟩
  have z_ := q_ (⟨h0_⟩ : Aside0 (Kd.R k44 44 w92 w.heap.size (fun k_ => some k_ ≠ (v327 : Value).ownBlock ∧ some k_ ≠ (.slice Ao84 x287000_1.length co84 : Value).ownBlock ∧ k_ ≠ gb288) v324 y323)) <| q_ (⟨h1_⟩ : Aside0 (Kd.R k44 44 w92 w.heap.size (fun k_ => some k_ ≠ (v324 : Value).ownBlock ∧ some k_ ≠ (.slice Ao84 x287000_1.length co84 : Value).ownBlock ∧ k_ ≠ gb288) v327 y326)) <| q_ (⟨h2_⟩ : Aside0 (Kd.R k44 44 w92 w.heap.size (fun k_ => some k_ ≠ (v324 : Value).ownBlock ∧ some k_ ≠ (v327 : Value).ownBlock ∧ k_ ≠ gb288) (.slice Ao84 x287000_1.length co84) x287000_1)) <| q_ (⟨h3_⟩ : Aside0 (w92.heap[gb284]? = some (.cells #[.slice (some ad287) l0_0.length c0_0] 42 (0, 0)))) <| q_ (⟨h4_⟩ : Aside0 (w92.heap[gb285]? = some (.cells #[.slice none 0 0] 42 (0, 0)))) <| q_ (⟨h5_⟩ : Aside0 (w92.heap[gb286]? = some (.cells #[.slice Ao84 x287000_1.length co84] 42 (0, 0)))) <| q_ (⟨h6_⟩ : Aside0 (w92.heap[gb288]? = some (.cells #[.string x289000_35, .bool ((rd_T44 l0_0 x8_1).f1), .string ((rd_T44 l0_0 x8_1).f2)] 44 (0, 0)))) <| (⟨h7_⟩ : Aside0 (Below w.heap.size w w92))
  clear HO_287000 BK284 BK285 BK286 BK288 HB h0_ h1_ h2_ h3_ h4_ h5_ h6_ h7_
  obtain ⟨HO325, HO328, HO_287000, BK284, BK285, BK286, BK288, HB⟩ := z_
  have hHeld : w92.cell? ⟨gb286, 0, none⟩ = some (.slice Ao84 x287000_1.length co84) ∧ w92.cell? ⟨gb288, 0, none⟩ = some (.string x289000_35) ∧ w92.cell? ⟨gb288, 1, none⟩ = some (.bool ((rd_T44 l0_0 x8_1).f1)) ∧ w92.cell? ⟨gb288, 2, none⟩ = some (.string ((rd_T44 l0_0 x8_1).f2)) := hS_
  obtain ⟨Ao94, co94, eo94⟩ := Kd.R_slice HO328.out
  (first | subst eo94 | (injection eo94 with f1_ f2_ f3_; have f4_ := f1_.symm; have f5_ := f3_.symm; clear f1_ f2_ f3_; subst f4_; subst f5_))
  refine norm_ (a' := ?_) ?_ ?_
  rotate_left
  ·simp only [putAll, Act.put, List.setIfInBounds_toArray, List.set_cons_zero, List.set_cons_succ]
   rfl
  refine one_ (i := 8) (N := some 69) bq_92 rfl rfl (one_of HT_.out (by kernel_rfl)) (by decide) (fun K hK => ?_)
  refine Kd.R_append_rows_step k44 (w0 := w) w.heap.size (by rfl) (.tmp 66) (.tmp 68) 40 44 (.agg #[(.string ⟨#[]⟩), (.bool false), (.string ⟨#[]⟩)]) 40 rfl Try.underlying40 info44 rfl (by decide) (by omega) v324 y323 y326 _ _ _ (fun k_ => some k_ ≠ (.slice Ao84 x287000_1.length co84 : Value).ownBlock ∧ some k_ ≠ (.slice Ao94 y326.length co94 : Value).ownBlock ∧ k_ ≠ gb288) (fun _ => False) rfl rfl ?aO ?aR (fun _ _ h => h) (fun _ h => h.elim) ?aF ?aB ?aS ?aL ?_
  (case aR => repeat (first | exact (Kd.R_reads' HO328.out).2.2 | (with_reducible refine Kd.C_alloc ?_ _) | (with_reducible refine Kd.C_drewN ?_ _) | (with_reducible refine Kd.C_drew ?_)))
  (case aB => exact th_)
  (case aF => exact tq_45)
  (case aO => exact tq_77)
  (case aS => exact (below_size th_))
  (case aL => have := LMc79.out; omega)
  intro v330 w93 ho hb hg hat
  rw [← Ny329.out] at ho
  have z_ := p_ (Kd.R_after (ok := (fun k_ => some k_ ≠ (.slice Ao94 y326.length co94 : Value).ownBlock ∧ k_ ≠ gb288)) tq_117 hg hat) <| p_ (blk_grown (g := gb284) (o := .cells #[.slice (some ad287) l0_0.length c0_0] 42 (0, 0)) (kb_ BK284) hg (Kd.R_ne HO325.out BK284.out (by decide))) <| p_ (blk_grown (g := gb285) (o := .cells #[.slice none 0 0] 42 (0, 0)) (kb_ BK285) hg (Kd.R_ne HO325.out BK285.out (by decide))) <| p_ (blk_grown (g := gb286) (o := .cells #[.slice Ao84 x287000_1.length co84] 42 (0, 0)) (kb_ BK286) hg (Kd.R_ne HO325.out BK286.out (by decide))) <| p_ (blk_grown (g := gb288) (o := .cells #[.string x289000_35, .bool ((rd_T44 l0_0 x8_1).f1), .string ((rd_T44 l0_0 x8_1).f2)] 44 (0, 0)) (kb_ BK288) hg (Kd.R_away HO325.out (fun _ hk => hk.2.2))) <| p_ (Kd.R_after (ok := (fun k_ => some k_ ≠ (.slice Ao84 x287000_1.length co84 : Value).ownBlock ∧ k_ ≠ gb288)) (by (with_reducible repeat (first | apply Kd.R_alloc | apply Kd.R_drewN | apply Kd.R_drew)); exact Kd.R_mono HO328.out (fun _ hk => ⟨⟨hk.2.1, hk.2.2⟩, hk.1⟩)) hg hat) <| p_ (hb) <| a_ (ho)
  clear HO_287000 BK284 BK285 BK286 BK288 HO328 HB HO325
  obtain ⟨HO_287000, BK284, BK285, BK286, BK288, HO328, HB, HO331⟩ := z_
  clear ho hb hg hat
  refine hK.out _ _ ⟨(blk_cell BK286.out 0).trans rfl, bk3_ BK288.out⟩ (fun hHeld => ?_)
  clear hK K
  refine nm_ (some 69) ?_
  refine yr_ 9 11 bq_93 HT_ ?_
  refine done_ (done_of HT_.out (by kernel_rfl)) ?_
  obtain ⟨n286_285, n285_286⟩ := an2_ NB286_285 NB285_286
  have hcz98_0 := bc_ BK286.out 0
  have hfz98_0 := blk_frozen BK286.out 0
  have q99 : (x10_4 : Int) ≤ ((x287000_1.length : Int) : Int) := of_decide_eq_true tq_3
  obtain ⟨i099, hi099, _, hsz99, _⟩ := info_parts info44
  have hroom99 : x287000_1.length ≤ co84 := (Kd.R_reads' HO_287000.out).2.1
  have hC99 : Kd.C k44 _ Ao84 x287000_1.length x287000_1 := (Kd.R_reads' HO_287000.out).2.2
  have q099 : (0 : Int) ≤ (x10_4 : Int) := of_decide_eq_true tq_3
  have hcut99 := cut_from (P := Try.prog) 40 44 .i64 Try.underlying40 hi099 3 hsz99 Ao84 x287000_1.length co84 x10_4 q099 q99
  have hr99 := Kd.C_drop (m := (x10_4 : Int).toNat) (c := co84) hC99 (by omega) hroom99
  obtain ⟨A99, hA99⟩ : ∃ A1, A1 = (if co84 = (x10_4 : Int).toNat then Ao84 else (Ao84 : Option Addr).map (·.add ((x10_4 : Int).toNat * 3))) := ⟨_, rfl⟩
  obtain ⟨c99, hc99⟩ : ∃ c1, c1 = co84 - (x10_4 : Int).toNat := ⟨_, rfl⟩
  have hy99 : y332.length = x287000_1.length - (x10_4 : Int).toNat := (by rw [Ny332.out, List.length_drop] <;> omega)
  rw [show (x287000_1).drop (x10_4 : Int).toNat = y332 from Ny332.out.symm] at hr99
  replace hr99 : Kd.C k44 _ A99 y332.length y332 := (by rw [hA99]; exact hr99)
  rw [← hy99, ← hA99, ← hc99] at hcut99
  have HR335 := Aside0.mk hr99
  have HC335 := Aside0.mk (show y332.length ≤ c99 from by rw [hy99, hc99]; exact Nat.sub_le_sub_right hroom99 _)
  clear hr99 hC99 hroom99 hi099 hsz99 hc99
  have KY99 := Aside0.mk hy99
  have KA99 := Aside0.mk hA99
  clear hy99 hA99
  have KL99 := Aside0.mk (show (x10_4 : Int).toNat ≤ x287000_1.length from by omega)
  replace q99 := eq_true q99
  try go_wp2_with (first | ((with_reducible refine gate_builtin (b := .append) (xs := #[.tmp 70, .tmp 74]) rfl ?_); at_builtin; refine Kd.R_append_rows k44 (w0 := w) w.heap.size rfl (.tmp 70) (.tmp 74) 40 44 (.agg #[(.string ⟨#[]⟩), (.bool false), (.string ⟨#[]⟩)]) 40 rfl Try.underlying40 info44 rfl (by decide) (by omega) v330 y329 y332 _ _ _ (fun k_ => some k_ ≠ (.slice Ao84 x287000_1.length co84 : Value).ownBlock ∧ some k_ ≠ (.slice Ao94 y326.length co94 : Value).ownBlock ∧ k_ ≠ gb288) (fun _ => False) rfl rfl ?aO ?aR (fun _ _ h => h) (fun _ h => h.elim) ?aF ?aB ?aS ?aL ?_; (case aR => repeat (first | exact (by repeat (first | (with_reducible exact HR335.out) | (with_reducible refine Kd.C_alloc ?_ _) | (with_reducible refine Kd.C_drewN ?_ _) | (with_reducible refine Kd.C_drew ?_) | exact HR335.out)) | (with_reducible refine Kd.C_alloc ?_ _) | (with_reducible refine Kd.C_drewN ?_ _) | (with_reducible refine Kd.C_drew ?_))); (case aB => exact th_); (case aF => exact tq_45); (case aO => exact (raR_ HO331)); (case aS => exact (below_size th_)); (case aL => have := LMc82.out; omega); intro v337 w100 ho hb hg hat; rw [← Ny336.out] at ho; have z_ := p_ (Kd.R_after (ok := (fun k_ => some k_ ≠ (.slice Ao94 y326.length co94 : Value).ownBlock ∧ k_ ≠ gb288)) (raR_ HO_287000) hg hat) <| p_ (blk_grown (g := gb284) (o := .cells #[.slice (some ad287) l0_0.length c0_0] 42 (0, 0)) (kb_ BK284) hg (Kd.R_ne HO331.out BK284.out (by decide))) <| p_ (blk_grown (g := gb285) (o := .cells #[.slice none 0 0] 42 (0, 0)) (kb_ BK285) hg (Kd.R_ne HO331.out BK285.out (by decide))) <| p_ (blk_grown (g := gb286) (o := .cells #[.slice Ao84 x287000_1.length co84] 42 (0, 0)) (kb_ BK286) hg (Kd.R_ne HO331.out BK286.out (by decide))) <| p_ (blk_grown (g := gb288) (o := .cells #[.string x289000_35, .bool ((rd_T44 l0_0 x8_1).f1), .string ((rd_T44 l0_0 x8_1).f2)] 44 (0, 0)) (kb_ BK288) hg (Kd.R_away HO331.out (fun _ hk => hk.2.2))) <| p_ (Kd.R_after (ok := (fun k_ => some k_ ≠ (.slice Ao84 x287000_1.length co84 : Value).ownBlock ∧ k_ ≠ gb288)) (raR_ HO328) hg hat) <| p_ (hb) <| p_ ((show Kd.C k44 w100 A99 y332.length y332 from by rw [Ny332.out, KA99.out]; exact Kd.C_drop (m := (x10_4 : Int).toNat) (c := co84) ((Kd.R_reads' (Kd.R_after (ok := (fun k_ => some k_ ≠ (.slice Ao94 y326.length co94 : Value).ownBlock ∧ k_ ≠ gb288)) (raR_ HO_287000) hg hat)).2.2) KL99.out ((Kd.R_reads' (Kd.R_after (ok := (fun k_ => some k_ ≠ (.slice Ao94 y326.length co94 : Value).ownBlock ∧ k_ ≠ gb288)) (raR_ HO_287000) hg hat)).2.1))) <| a_ (ho); clear HO_287000 BK284 BK285 BK286 BK288 HO328 HB HR335 HO331; obtain ⟨HO_287000, BK284, BK285, BK286, BK288, HO328, HB, HR335, HO338⟩ := z_; clear ho hb hg hat; obtain ⟨Ao101, co101, eo101⟩ := Kd.R_slice HO338.out; subst eo101; have hcz102_0 := bc_ BK286.out 0; have hfz102_0 := blk_frozen BK286.out 0))
  go_roundg k4
  case measure => have := HK1.out; have := HJ15.out; have := HJ35.out; have := HK4.out; omega
  case rel => exact ⟨(wrap64 (x8_1 + 1)), (y336), (.slice Ao101 y336.length co101), tq_5, H', ⟨tq_123⟩, ⟨(by (with_reducible repeat (first | apply Kd.R_alloc | apply Kd.R_drewN | apply Kd.R_drew)); exact Kd.R_mono (rR_ (Kd.R_types HO338.out BK286.out (by decide))) (fun _ hk => trivial))⟩, ⟨tb_⟩, ⟨tb_⟩, ⟨tb_⟩, ⟨th_⟩⟩
 rw [if_pos c45] at H
 have c45b0 := decide_eq_true c45
 clear c45
 obtain ⟨c46, H⟩ := fc_ H
 have c46b0 := decide_eq_true c46
 clear c46
 have HC47 := Aside0.mk H
 clear H
 try go_wp2
 have z_ := p_ (Kd.R_drew HO_287000.out) <| dw4_ BK284 BK285 BK286 BK288 HB
 clear HO_287000 BK284 BK285 BK286 BK288 HB
 obtain ⟨HO_287000, BK284, BK285, BK286, BK288, HB⟩ := z_
 obtain ⟨Ao49, co49, eo49⟩ := Kd.R_slice HO_287000.out
 (first | subst eo49 | (injection eo49 with f1_ f2_ f3_; have f4_ := f1_.symm; have f5_ := f3_.symm; clear f1_ f2_ f3_; subst f4_; subst f5_))
 have p292 : 0 ≤ (x10_4 : Int) := of_decide_eq_true tq_3
 have q292 : x10_4 < (x287000_1.length : Int) := of_decide_eq_true tq_3
 obtain ⟨ad292, e292, hx292_0, hx292_1, hx292_2⟩ := at_T44 (Kd.R_reads' HO_287000.out).2.2 x10_4 p292 q292
 cases e292
 replace p292 := eq_true p292
 replace q292 := eq_true q292
 refine start_ (n := 16) (S := fun w' => w'.cell? ⟨gb286, 0, none⟩ = some (.slice (some ad292) x287000_1.length co49) ∧ w'.cell? ⟨gb288, 0, none⟩ = some (.string x289000_35) ∧ w'.cell? ⟨gb288, 1, none⟩ = some (.bool ((rd_T44 l0_0 x8_1).f1)) ∧ w'.cell? ⟨gb288, 2, none⟩ = some (.string ((rd_T44 l0_0 x8_1).f2)) ∧ w'.cell? (ad292.add ((x10_4).toNat * 3)) = some (.string ((rd_T44 x287000_1 x10_4).f0)) ∧ w'.cell? ⟨(ad292.add ((x10_4).toNat * 3)).block, (ad292.add ((x10_4).toNat * 3)).off + 1, none⟩ = some (.bool ((rd_T44 x287000_1 x10_4).f1)) ∧ w'.cell? ⟨(ad292.add ((x10_4).toNat * 3)).block, (ad292.add ((x10_4).toNat * 3)).off + 2, none⟩ = some (.string ((rd_T44 x287000_1 x10_4).f2))) (ds := []) bq_83 (by kernel_rfl) rfl rfl ⟨(blk_cell BK286.out 0).trans rfl, bc3_ BK288.out ⟨hx292_0, hx292_1, hx292_2⟩⟩ (fun hHeld => ?_); refine with_tabW spec_MovedItems.tab9 spec_MovedItems.bits9 (fun HT_ HW_ => ?_)
 generalize wr.drew = w48 at HO_287000 BK284 BK285 BK286 BK288 HB hx292_0 hx292_1 hx292_2 hHeld ⊢
 refine yr_ 0 43 bq_114 HT_ ?_
 refine yr_ 1 44 bq_115 HT_ ?_
 refine tr_ 2 45 bq_116 HT_ HW_ hHeld ?_
 refine yr_ 3 46 bq_117 HT_ ?_
 refine yr_ 4 47 bq_118 HT_ ?_
 refine yr_ 5 48 bq_119 HT_ ?_
 refine yr_ 6 49 bq_84 HT_ ?_
 refine yr_ 8 51 #[true, true, true, true, true, true, true, false, true, false, false, false, false, false, false, false] HT_ ?_
 refine yr_ 12 55 #[true, true, true, true, true, true, true, false, true, false, false, false, true, false, false, false] HT_ ?_
 refine tr_ 7 50 #[true, true, true, true, true, true, true, true, true, false, false, false, true, false, false, false] HT_ HW_ hHeld ?_
 refine yr_ 9 52 #[true, true, true, true, true, true, true, true, true, true, false, false, true, false, false, false] HT_ ?_
 refine yr_ 10 53 #[true, true, true, true, true, true, true, true, true, true, true, false, true, false, false, false] HT_ ?_
 refine tr_ 11 54 bq_85 HT_ HW_ hHeld ?_
 refine tr_ 13 56 bq_6 HT_ HW_ hHeld ?_
 refine yr_ 14 57 bq_86 HT_ ?_
 refine yr_ 15 58 bq_87 HT_ ?_
 refine done_ (done_of HT_.out (by kernel_rfl)) ?_
 go_upto_if 58 with (fail)
 (try clear n284_285 n284_286 n284_288 n285_284 n285_288 n286_284 n286_288 n288_284 n288_285 n288_286)
 (try clear hcz24_0 hcz24_1 hcz24_2)
 (try clear hfz24_0 hfz24_1 hfz24_2)
 (try clear hx287_0 hx287_1 hx287_2)
 (try clear hx292_0 hx292_1 hx292_2)
 have H := HC47.out
 clear HC47
 by_cases c50 : ((Op.bytesLess x289000_35.toList (((rd_T44 x287000_1 x10_4).f0).toList)) = true)
 rotate_left
 ·rw [if_neg c50] at H
  have c50b0 : (Op.bytesLess x289000_35.toList (((rd_T44 x287000_1 x10_4).f0).toList)) = false := by simpa using c50
  clear c50
  (first | rw [c50b0] | (simp only [i64_w, i32_w]; rw [c50b0]) | rw [bl_leq, c50b0] | rw [bl_gtr, c50b0] | skip)
  have H' := Aside0.mk H
  clear H
  go_wp2
  go_roundg k4
  case measure => have := HK1.out; have := HJ15.out; have := HJ35.out; have := HK4.out; omega
  case rel => exact ⟨(wrap64 (x10_4 + 1)), tq_5, H', ⟨tq_123⟩, ⟨(raR_ HO_287000)⟩, ⟨(kb_ BK284)⟩, ⟨(kb_ BK285)⟩, ⟨(kb_ BK286)⟩, ⟨(kb_ BK288)⟩, ⟨th_⟩⟩
 rw [if_pos c50] at H
 have c50b0 : (Op.bytesLess x289000_35.toList (((rd_T44 x287000_1 x10_4).f0).toList)) = true := c50
 clear c50
 (first | rw [c50b0] | (simp only [i64_w, i32_w]; rw [c50b0]) | rw [bl_leq, c50b0] | rw [bl_gtr, c50b0] | skip)
 obtain ⟨y293, Ny293, H⟩ := bs_ H
 have c51b0 := eq_true (of_decide_eq_true tq_3 : 0 ≤ x10_4)
 obtain ⟨c52, H⟩ := fc_ H
 have c52b0 := eq_true c52
 have c52b1 := decide_eq_true c52
 clear c52
 obtain ⟨y296, Ny296, H⟩ := bs_ H
 obtain ⟨c53, H⟩ := fc_ H
 have LMc53 := Aside0.mk c53
 clear c53
 obtain ⟨y300, Ny300, H⟩ := bs_ H
 obtain ⟨y303, Ny303, H⟩ := bs_ H
 obtain ⟨c54, H⟩ := fc_ H
 have LMc54 := Aside0.mk c54
 clear c54
 obtain ⟨y306, Ny306, H⟩ := bs_ H
 have c55b0 := eq_true (of_decide_eq_true tq_3 : 0 ≤ x10_4)
 have c56b0 := eq_true (of_decide_eq_true tq_3 : x10_4 ≤ (x287000_1.length : Int))
 obtain ⟨y309, Ny309, H⟩ := bs_ H
 obtain ⟨c57, H⟩ := fc_ H
 have LMc57 := Aside0.mk c57
 clear c57
 obtain ⟨y313, hy313⟩ : ∃ y_ : List (S44), y_ = (y306 ++ y309) := ⟨_, rfl⟩
 replace H : (spec_MovedItems.l0 k4 a1 a2 (wrap64 (x8_1 + 1)) l0_0 y313) = some r := by first | (rw [hy313]; with_reducible exact H) | (have H2_ := (Option.bind_some _ _).symm.trans H; rw [hy313]; with_reducible exact H2_) | (have H2_ := (Option.bind_some _ _).symm.trans H; with_reducible exact H2_) | with_reducible exact H | (rw [hy313]; exact H) | exact H
 have Ny313 := Aside0.mk hy313
 clear hy313
 have H' := Aside0.mk H
 clear H
 try go_wp2
 have z_ := p_ (Kd.R_drew HO_287000.out) <| dw4_ BK284 BK285 BK286 BK288 HB
 clear HO_287000 BK284 BK285 BK286 BK288 HB
 obtain ⟨HO_287000, BK284, BK285, BK286, BK288, HB⟩ := z_
 have q59 : (x10_4 : Int) ≤ ((x287000_1.length : Int) : Int) := of_decide_eq_true tq_3
 obtain ⟨i059, hi059, _, hsz59, _⟩ := info_parts info44
 have hroom59 : x287000_1.length ≤ co49 := (Kd.R_reads' HO_287000.out).2.1
 have hC59 : Kd.C k44 _ (some ad292) x287000_1.length x287000_1 := (Kd.R_reads' HO_287000.out).2.2
 have hcut59 := cut_to (P := Try.prog) 40 44 .i64 Try.underlying40 hi059 (some ad292) x287000_1.length co49 x10_4 (of_decide_eq_true tq_3) q59 hroom59
 have hr59 := Kd.C_take (m := (x10_4 : Int).toNat) hC59 (by omega)
 have hy59 : y296.length = (x10_4 : Int).toNat := (by rw [Ny296.out, List.length_take]; omega)
 rw [← Ny296.out] at hr59
 rw [← hy59] at hcut59
 have HR299 := Aside0.mk hr59
 have HC299 := Aside0.mk (show y296.length ≤ co49 from by omega)
 clear hr59 hC59 hroom59 hi059 hsz59
 have KY59 := Aside0.mk hy59
 clear hy59
 have KL59 := Aside0.mk (show (x10_4 : Int).toNat ≤ x287000_1.length from by omega)
 replace q59 := eq_true q59
 refine start_ (n := 10) (S := fun w' => w'.cell? ⟨gb286, 0, none⟩ = some (.slice (some ad292) x287000_1.length co49) ∧ w'.cell? ⟨gb288, 0, none⟩ = some (.string x289000_35) ∧ w'.cell? ⟨gb288, 1, none⟩ = some (.bool ((rd_T44 l0_0 x8_1).f1)) ∧ w'.cell? ⟨gb288, 2, none⟩ = some (.string ((rd_T44 l0_0 x8_1).f2))) (ds := []) bq_88 (by kernel_rfl) rfl rfl ⟨(blk_cell BK286.out 0).trans rfl, bk3_ BK288.out⟩ (fun hHeld => ?_); refine with_tabW spec_MovedItems.tab11 spec_MovedItems.bits11 (fun HT_ HW_ => ?_)
 generalize w48.drew = w58 at HO_287000 BK284 BK285 BK286 BK288 HB HR299 hHeld ⊢
 refine yr_ 1 62 bq_89 HT_ ?_
 refine yr_ 3 64 bq_90 HT_ ?_
 refine tr_ 2 63 bq_125 HT_ HW_ hHeld ?_
 refine yr_ 4 65 bq_126 HT_ ?_
 refine tr_ 6 67 bq_127 HT_ HW_ hHeld ?_
 refine join_ (σ := Value × Value × Value) 2 bq_0 (fun s_ => [(61, s_.1), (66, s_.2.1), (68, s_.2.2)]) (fun s_ w' => (w'.cell? ⟨gb286, 0, none⟩ = some (.slice (some ad292) x287000_1.length co49) ∧ w'.cell? ⟨gb288, 0, none⟩ = some (.string x289000_35) ∧ w'.cell? ⟨gb288, 1, none⟩ = some (.bool ((rd_T44 l0_0 x8_1).f1)) ∧ w'.cell? ⟨gb288, 2, none⟩ = some (.string ((rd_T44 l0_0 x8_1).f2))) ∧ (Kd.R k44 44 w' w.heap.size (fun k_ => some k_ ≠ (s_.2.2 : Value).ownBlock ∧ some k_ ≠ (.slice (some ad292) x287000_1.length co49 : Value).ownBlock ∧ k_ ≠ gb288) s_.2.1 y300) ∧ (Kd.R k44 44 w' w.heap.size (fun k_ => some k_ ≠ (s_.2.1 : Value).ownBlock ∧ some k_ ≠ (.slice (some ad292) x287000_1.length co49 : Value).ownBlock ∧ k_ ≠ gb288) s_.2.2 y303) ∧ (Kd.R k44 44 w' w.heap.size (fun k_ => some k_ ≠ (s_.2.1 : Value).ownBlock ∧ some k_ ≠ (s_.2.2 : Value).ownBlock ∧ k_ ≠ gb288) (.slice (some ad292) x287000_1.length co49) x287000_1) ∧ (w'.heap[gb284]? = some (.cells #[.slice (some ad287) l0_0.length c0_0] 42 (0, 0))) ∧ (w'.heap[gb285]? = some (.cells #[.slice none 0 0] 42 (0, 0))) ∧ (w'.heap[gb286]? = some (.cells #[.slice (some ad292) x287000_1.length co49] 42 (0, 0))) ∧ (w'.heap[gb288]? = some (.cells #[.string x289000_35, .bool ((rd_T44 l0_0 x8_1).f1), .string ((rd_T44 l0_0 x8_1).f2)] 44 (0, 0))) ∧ (Below w.heap.size w w')) ?_ ?_
 rotate_left
 ·intro hCont
  refine two_ (i := 0) (j := 7) (Ni := some 61) (Nj := some 68) bq_128 bq_129 rfl rfl rfl rfl (two_of HT_.out (by kernel_rfl)) (by decide) (by decide) (fun K hK => ?_) (fun K hK => ?_)
  ·skip
   refine Kd.R_lit_step k44 _ 44 ?hg (N := 61) ?hd (xs := ([] : List (S44))) (inner := []) (ok := fun _ => True) (okp := fun _ => True) ?hr ?hp (fun _ hk => hk) trivial (Below.refl _ _) (Nat.le_refl _) (by simp) ?_; (case hd => rfl); (case hg => rfl); (case hr => first | (go_simp; done) | (go_simp; rfl)); (case hp => exact (Reps.none _ _))
   intro v294 w60 ho61 hb hg_ hnew_
   clear hg_ hnew_
   (first | rw [← Ny293.out] at ho61 | (simp only [Int.reduceToNat] at ho61; rw [← Ny293.out] at ho61))
   have z_ := p_ (Kd.R_elder' (raR_ HO_287000) (Kd.R_base ho61) hb) <| p_ (Kd.R_lower (Kd.R_newB (Kd.R_new' ho61 (Kd.R_lt (raR_ HO_287000))) (g := gb288) (o := .cells #[.string x289000_35, .bool ((rd_T44 l0_0 x8_1).f1), .string ((rd_T44 l0_0 x8_1).f2)] 44 (0, 0)) (kb_ BK288)) (below_size th_)) <| p_ (blk_below (kb_ BK284) hb) <| p_ (blk_below (kb_ BK285) hb) <| p_ (blk_below (kb_ BK286) hb) <| p_ (blk_below (kb_ BK288) hb) <| p_ (Kd.C_below tq_29 hb) <| a_ (below_step th_ hb)
   clear HO_287000 BK284 BK285 BK286 BK288 HR299 HB
   obtain ⟨HO_287000, HO295, BK284, BK285, BK286, BK288, HR299, HB⟩ := z_
   clear hb ho61
   refine hK.out _ _ ⟨(blk_cell BK286.out 0).trans rfl, bk3_ BK288.out⟩ (fun hHeld => ?_)
   clear hK K
   refine nm_ (some 61) ?_
   refine two_ (i := 5) (j := 7) (Ni := some 66) (Nj := some 68) bq_91 bq_73 rfl rfl rfl rfl (two_of HT_.out (by kernel_rfl)) (by decide) (by decide) (fun K hK => ?_) (fun K hK => ?_)
   ·skip
    refine Kd.R_append_rows_step k44 (w0 := w) w.heap.size (by rfl) (.tmp 61) (.tmp 65) 40 44 (.agg #[(.string ⟨#[]⟩), (.bool false), (.string ⟨#[]⟩)]) 40 rfl Try.underlying40 info44 rfl (by decide) (by omega) v294 y293 y296 _ _ _ (fun k_ => some k_ ≠ (.slice (some ad292) x287000_1.length co49 : Value).ownBlock ∧ k_ ≠ gb288) (fun _ => False) rfl rfl ?aO ?aR (fun _ _ h => h) (fun _ h => h.elim) ?aF ?aB ?aS ?aL ?_
    (case aR => exact tq_81)
    (case aB => exact th_)
    (case aF => exact tq_103)
    (case aO => exact (by (with_reducible repeat (first | apply Kd.R_alloc | apply Kd.R_drewN | apply Kd.R_drew)); exact Kd.R_mono HO295.out (fun _ hk => ⟨hk.1.2, hk.2⟩)))
    (case aS => exact (below_size th_))
    (case aL => have := LMc53.out; omega)
    intro v301 w62 ho hb hg hat
    rw [← Ny300.out] at ho
    have z_ := p_ (Kd.R_after (ok := (fun k_ => k_ ≠ gb288)) (raR_ HO_287000) hg hat) <| p_ (blk_grown (g := gb284) (o := .cells #[.slice (some ad287) l0_0.length c0_0] 42 (0, 0)) (kb_ BK284) hg (Kd.R_ne HO295.out BK284.out (by decide))) <| p_ (blk_grown (g := gb285) (o := .cells #[.slice none 0 0] 42 (0, 0)) (kb_ BK285) hg (Kd.R_ne HO295.out BK285.out (by decide))) <| p_ (blk_grown (g := gb286) (o := .cells #[.slice (some ad292) x287000_1.length co49] 42 (0, 0)) (kb_ BK286) hg (Kd.R_ne HO295.out BK286.out (by decide))) <| p_ (blk_grown (g := gb288) (o := .cells #[.string x289000_35, .bool ((rd_T44 l0_0 x8_1).f1), .string ((rd_T44 l0_0 x8_1).f2)] 44 (0, 0)) (kb_ BK288) hg (Kd.R_away HO295.out (fun _ hk => hk.2))) <| p_ (hb) <| p_ ((show Kd.C k44 w62 (some ad292) y296.length y296 from by rw [Ny296.out]; exact Kd.C_take (m := (x10_4 : Int).toNat) ((Kd.R_reads' (Kd.R_after (ok := (fun k_ => k_ ≠ gb288)) (raR_ HO_287000) hg hat)).2.2) KL59.out)) <| a_ (ho)
    clear HO_287000 BK284 BK285 BK286 BK288 HB HR299 HO295
    obtain ⟨HO_287000, BK284, BK285, BK286, BK288, HB, HR299, HO302⟩ := z_
    clear ho hb hg hat
    refine hK.out _ _ ⟨(blk_cell BK286.out 0).trans rfl, bk3_ BK288.out⟩ (fun hHeld => ?_)
    clear hK K
    refine nm_ (some 66) ?_
    refine one_ (i := 7) (N := some 68) bq_0 rfl rfl (one_of HT_.out (by kernel_rfl)) (by decide) (fun K hK => ?_)
    refine Kd.R_lit_step k44 _ 44 ?hg (N := 68) ?hd (xs := ([(⟨x289000_35, ((rd_T44 l0_0 x8_1).f1), ((rd_T44 l0_0 x8_1).f2)⟩ : S44)] : List (S44))) (inner := [.string x289000_35, .bool ((rd_T44 l0_0 x8_1).f1), .string ((rd_T44 l0_0 x8_1).f2)]) (ok := fun _ => True) (okp := fun _ => True) ?hr ?hp (fun _ hk => hk) trivial (Below.refl _ _) (Nat.le_refl _) (by simp) ?_; (case hd => rfl); (case hg => rfl); (case hr => first | (go_simp; done) | (go_simp; rfl)); (case hp => exact tq_26)
    intro v304 w63 ho64 hb hg_ hnew_
    clear hg_ hnew_
    (first | rw [← Ny303.out] at ho64 | (simp only [Int.reduceToNat] at ho64; rw [← Ny303.out] at ho64))
    have z_ := p_ (Kd.R_elder' (raR_ HO_287000) (Kd.R_base ho64) hb) <| p_ (Kd.R_elder' (raR_ HO302) (Kd.R_base ho64) hb) <| p_ (Kd.R_lower (Kd.R_newB (Kd.R_new' (Kd.R_new' ho64 (Kd.R_lt (raR_ HO_287000))) (Kd.R_lt (raR_ HO302))) (g := gb288) (o := .cells #[.string x289000_35, .bool ((rd_T44 l0_0 x8_1).f1), .string ((rd_T44 l0_0 x8_1).f2)] 44 (0, 0)) (kb_ BK288)) (below_size th_)) <| p_ (blk_below (kb_ BK284) hb) <| p_ (blk_below (kb_ BK285) hb) <| p_ (blk_below (kb_ BK286) hb) <| p_ (blk_below (kb_ BK288) hb) <| p_ (Kd.C_below tq_29 hb) <| a_ (below_step th_ hb)
    clear HO_287000 HO302 BK284 BK285 BK286 BK288 HR299 HB
    obtain ⟨HO_287000, HO302, HO305, BK284, BK285, BK286, BK288, HR299, HB⟩ := z_
    clear hb ho64
    refine hK.out _ _ ⟨(blk_cell BK286.out 0).trans rfl, bk3_ BK288.out⟩ (fun hHeld => ?_)
    clear hK K
    refine nm_ (some 68) ?_
    exact norm_ tq_32 (hCont (v294, v301, v304) _ ⟨hHeld, (by (with_reducible repeat (first | apply Kd.R_alloc | apply Kd.R_drewN | apply Kd.R_drew)); exact Kd.R_mono HO302.out (fun _ hk => ⟨hk.2, ⟨hk.1.1, hk.1.2⟩⟩)), (by (with_reducible repeat (first | apply Kd.R_alloc | apply Kd.R_drewN | apply Kd.R_drew)); exact Kd.R_mono HO305.out (fun _ hk => ⟨hk.1.2, ⟨hk.1.1.2, hk.2⟩⟩)), tq_118, (kb_ BK284), (kb_ BK285), (kb_ BK286), (kb_ BK288), th_⟩)
   ·skip
    refine Kd.R_lit_step k44 _ 44 ?hg (N := 68) ?hd (xs := ([(⟨x289000_35, ((rd_T44 l0_0 x8_1).f1), ((rd_T44 l0_0 x8_1).f2)⟩ : S44)] : List (S44))) (inner := [.string x289000_35, .bool ((rd_T44 l0_0 x8_1).f1), .string ((rd_T44 l0_0 x8_1).f2)]) (ok := fun _ => True) (okp := fun _ => True) ?hr ?hp (fun _ hk => hk) trivial (Below.refl _ _) (Nat.le_refl _) (by simp) ?_; (case hd => rfl); (case hg => rfl); (case hr => first | (go_simp; done) | (go_simp; rfl)); (case hp => exact tq_26)
    intro v304 w62 ho63 hb hg_ hnew_
    clear hg_ hnew_
    (first | rw [← Ny303.out] at ho63 | (simp only [Int.reduceToNat] at ho63; rw [← Ny303.out] at ho63))
    have z_ := p_ (Kd.R_elder' (raR_ HO_287000) (Kd.R_base ho63) hb) <| p_ (Kd.R_elder' (raR_ HO295) (Kd.R_base ho63) hb) <| p_ (Kd.R_lower (Kd.R_newB (Kd.R_new' (Kd.R_new' ho63 (Kd.R_lt (raR_ HO_287000))) (Kd.R_lt (raR_ HO295))) (g := gb288) (o := .cells #[.string x289000_35, .bool ((rd_T44 l0_0 x8_1).f1), .string ((rd_T44 l0_0 x8_1).f2)] 44 (0, 0)) (kb_ BK288)) (below_size th_)) <| p_ (blk_below (kb_ BK284) hb) <| p_ (blk_below (kb_ BK285) hb) <| p_ (blk_below (kb_ BK286) hb) <| p_ (blk_below (kb_ BK288) hb) <| p_ (Kd.C_below tq_29 hb) <| a_ (below_step th_ hb)
    clear HO_287000 HO295 BK284 BK285 BK286 BK288 HR299 HB
    obtain ⟨HO_287000, HO295, HO305, BK284, BK285, BK286, BK288, HR299, HB⟩ := z_
    clear hb ho63
    refine hK.out _ _ ⟨(blk_cell BK286.out 0).trans rfl, bk3_ BK288.out⟩ (fun hHeld => ?_)
    clear hK K
    refine nm_ (some 68) ?_
    refine one_ (i := 5) (N := some 66) bq_0 rfl rfl (one_of HT_.out (by kernel_rfl)) (by decide) (fun K hK => ?_)
    refine Kd.R_append_rows_step k44 (w0 := w) w.heap.size (by rfl) (.tmp 61) (.tmp 65) 40 44 (.agg #[(.string ⟨#[]⟩), (.bool false), (.string ⟨#[]⟩)]) 40 rfl Try.underlying40 info44 rfl (by decide) (by omega) v294 y293 y296 _ _ _ (fun k_ => some k_ ≠ (.slice (some ad292) x287000_1.length co49 : Value).ownBlock ∧ some k_ ≠ (v304 : Value).ownBlock ∧ k_ ≠ gb288) (fun _ => False) rfl rfl ?aO ?aR (fun _ _ h => h) (fun _ h => h.elim) ?aF ?aB ?aS ?aL ?_
    (case aR => exact tq_81)
    (case aB => exact th_)
    (case aF => exact tq_46)
    (case aO => exact (by (with_reducible repeat (first | apply Kd.R_alloc | apply Kd.R_drewN | apply Kd.R_drew)); exact Kd.R_mono HO295.out (fun _ hk => ⟨hk.1.1.2, ⟨hk.2, hk.1.2⟩⟩)))
    (case aS => exact (below_size th_))
    (case aL => have := LMc53.out; omega)
    intro v301 w64 ho hb hg hat
    rw [← Ny300.out] at ho
    have z_ := p_ (Kd.R_after (ok := (fun k_ => some k_ ≠ (v304 : Value).ownBlock ∧ k_ ≠ gb288)) tq_60 hg hat) <| p_ (blk_grown (g := gb284) (o := .cells #[.slice (some ad287) l0_0.length c0_0] 42 (0, 0)) (kb_ BK284) hg (Kd.R_ne HO295.out BK284.out (by decide))) <| p_ (blk_grown (g := gb285) (o := .cells #[.slice none 0 0] 42 (0, 0)) (kb_ BK285) hg (Kd.R_ne HO295.out BK285.out (by decide))) <| p_ (blk_grown (g := gb286) (o := .cells #[.slice (some ad292) x287000_1.length co49] 42 (0, 0)) (kb_ BK286) hg (Kd.R_ne HO295.out BK286.out (by decide))) <| p_ (blk_grown (g := gb288) (o := .cells #[.string x289000_35, .bool ((rd_T44 l0_0 x8_1).f1), .string ((rd_T44 l0_0 x8_1).f2)] 44 (0, 0)) (kb_ BK288) hg (Kd.R_away HO295.out (fun _ hk => hk.1.2))) <| p_ (Kd.R_after (ok := (fun k_ => some k_ ≠ (.slice (some ad292) x287000_1.length co49 : Value).ownBlock ∧ k_ ≠ gb288)) (by (with_reducible repeat (first | apply Kd.R_alloc | apply Kd.R_drewN | apply Kd.R_drew)); exact Kd.R_mono HO305.out (fun _ hk => ⟨⟨hk.1.1.2, hk.2⟩, hk.1.2⟩)) hg hat) <| p_ (hb) <| p_ ((show Kd.C k44 w64 (some ad292) y296.length y296 from by rw [Ny296.out]; exact Kd.C_take (m := (x10_4 : Int).toNat) ((Kd.R_reads' (Kd.R_after (ok := (fun k_ => some k_ ≠ (v304 : Value).ownBlock ∧ k_ ≠ gb288)) tq_60 hg hat)).2.2) KL59.out)) <| a_ (ho)
    clear HO_287000 BK284 BK285 BK286 BK288 HO305 HB HR299 HO295
    obtain ⟨HO_287000, BK284, BK285, BK286, BK288, HO305, HB, HR299, HO302⟩ := z_
    clear ho hb hg hat
    refine hK.out _ _ ⟨(blk_cell BK286.out 0).trans rfl, bk3_ BK288.out⟩ (fun hHeld => ?_)
    clear hK K
    refine nm_ (some 66) ?_
    exact norm_ tq_32 (hCont (v294, v301, v304) _ ⟨hHeld, tq_78, tq_121, tq_62, (kb_ BK284), (kb_ BK285), (kb_ BK286), (kb_ BK288), th_⟩)
  ·skip
   refine Kd.R_lit_step k44 _ 44 ?hg (N := 68) ?hd (xs := ([(⟨x289000_35, ((rd_T44 l0_0 x8_1).f1), ((rd_T44 l0_0 x8_1).f2)⟩ : S44)] : List (S44))) (inner := [.string x289000_35, .bool ((rd_T44 l0_0 x8_1).f1), .string ((rd_T44 l0_0 x8_1).f2)]) (ok := fun _ => True) (okp := fun _ => True) ?hr ?hp (fun _ hk => hk) trivial (Below.refl _ _) (Nat.le_refl _) (by simp) ?_; (case hd => rfl); (case hg => rfl); (case hr => first | (go_simp; done) | (go_simp; rfl)); (case hp => exact tq_26)
   intro v304 w60 ho61 hb hg_ hnew_
   clear hg_ hnew_
   (first | rw [← Ny303.out] at ho61 | (simp only [Int.reduceToNat] at ho61; rw [← Ny303.out] at ho61))
   have z_ := p_ (Kd.R_elder' (raR_ HO_287000) (Kd.R_base ho61) hb) <| p_ (Kd.R_lower (Kd.R_newB (Kd.R_new' ho61 (Kd.R_lt (raR_ HO_287000))) (g := gb288) (o := .cells #[.string x289000_35, .bool ((rd_T44 l0_0 x8_1).f1), .string ((rd_T44 l0_0 x8_1).f2)] 44 (0, 0)) (kb_ BK288)) (below_size th_)) <| p_ (blk_below (kb_ BK284) hb) <| p_ (blk_below (kb_ BK285) hb) <| p_ (blk_below (kb_ BK286) hb) <| p_ (blk_below (kb_ BK288) hb) <| p_ (Kd.C_below tq_29 hb) <| a_ (below_step th_ hb)
   clear HO_287000 BK284 BK285 BK286 BK288 HR299 HB
   obtain ⟨HO_287000, HO305, BK284, BK285, BK286, BK288, HR299, HB⟩ := z_
   clear hb ho61
   refine hK.out _ _ ⟨(blk_cell BK286.out 0).trans rfl, bk3_ BK288.out⟩ (fun hHeld => ?_)
   clear hK K
   refine nm_ (some 68) ?_
   refine one_ (i := 0) (N := some 61) bq_73 rfl rfl (one_of HT_.out (by kernel_rfl)) (by decide) (fun K hK => ?_)
   refine Kd.R_lit_step k44 _ 44 ?hg (N := 61) ?hd (xs := ([] : List (S44))) (inner := []) (ok := fun _ => True) (okp := fun _ => True) ?hr ?hp (fun _ hk => hk) trivial (Below.refl _ _) (Nat.le_refl _) (by simp) ?_; (case hd => rfl); (case hg => rfl); (case hr => first | (go_simp; done) | (go_simp; rfl)); (case hp => exact (Reps.none _ _))
   intro v294 w62 ho63 hb hg_ hnew_
   clear hg_ hnew_
   (first | rw [← Ny293.out] at ho63 | (simp only [Int.reduceToNat] at ho63; rw [← Ny293.out] at ho63))
   have z_ := p_ (Kd.R_elder' (raR_ HO_287000) (Kd.R_base ho63) hb) <| p_ (Kd.R_elder' (raR_ HO305) (Kd.R_base ho63) hb) <| p_ (Kd.R_lower (Kd.R_newB (Kd.R_new' (Kd.R_new' ho63 (Kd.R_lt (raR_ HO_287000))) (Kd.R_lt (raR_ HO305))) (g := gb288) (o := .cells #[.string x289000_35, .bool ((rd_T44 l0_0 x8_1).f1), .string ((rd_T44 l0_0 x8_1).f2)] 44 (0, 0)) (kb_ BK288)) (below_size th_)) <| p_ (blk_below (kb_ BK284) hb) <| p_ (blk_below (kb_ BK285) hb) <| p_ (blk_below (kb_ BK286) hb) <| p_ (blk_below (kb_ BK288) hb) <| p_ (Kd.C_below tq_29 hb) <| a_ (below_step th_ hb)
   clear HO_287000 HO305 BK284 BK285 BK286 BK288 HR299 HB
   obtain ⟨HO_287000, HO305, HO295, BK284, BK285, BK286, BK288, HR299, HB⟩ := z_
   clear hb ho63
   refine hK.out _ _ ⟨(blk_cell BK286.out 0).trans rfl, bk3_ BK288.out⟩ (fun hHeld => ?_)
   clear hK K
   refine nm_ (some 61) ?_
   refine one_ (i := 5) (N := some 66) bq_0 rfl rfl (one_of HT_.out (by kernel_rfl)) (by decide) (fun K hK => ?_)
   refine Kd.R_append_rows_step k44 (w0 := w) w.heap.size (by rfl) (.tmp 61) (.tmp 65) 40 44 (.agg #[(.string ⟨#[]⟩), (.bool false), (.string ⟨#[]⟩)]) 40 rfl Try.underlying40 info44 rfl (by decide) (by omega) v294 y293 y296 _ _ _ (fun k_ => some k_ ≠ (.slice (some ad292) x287000_1.length co49 : Value).ownBlock ∧ some k_ ≠ (v304 : Value).ownBlock ∧ k_ ≠ gb288) (fun _ => False) rfl rfl ?aO ?aR (fun _ _ h => h) (fun _ h => h.elim) ?aF ?aB ?aS ?aL ?_
   (case aR => exact tq_81)
   (case aB => exact th_)
   (case aF => exact tq_46)
   (case aO => exact (by (with_reducible repeat (first | apply Kd.R_alloc | apply Kd.R_drewN | apply Kd.R_drew)); exact Kd.R_mono HO295.out (fun _ hk => ⟨hk.1.1.2, ⟨hk.1.2, hk.2⟩⟩)))
   (case aS => exact (below_size th_))
   (case aL => have := LMc53.out; omega)
   intro v301 w64 ho hb hg hat
   rw [← Ny300.out] at ho
   have z_ := p_ (Kd.R_after (ok := (fun k_ => some k_ ≠ (v304 : Value).ownBlock ∧ k_ ≠ gb288)) tq_61 hg hat) <| p_ (blk_grown (g := gb284) (o := .cells #[.slice (some ad287) l0_0.length c0_0] 42 (0, 0)) (kb_ BK284) hg (Kd.R_ne HO295.out BK284.out (by decide))) <| p_ (blk_grown (g := gb285) (o := .cells #[.slice none 0 0] 42 (0, 0)) (kb_ BK285) hg (Kd.R_ne HO295.out BK285.out (by decide))) <| p_ (blk_grown (g := gb286) (o := .cells #[.slice (some ad292) x287000_1.length co49] 42 (0, 0)) (kb_ BK286) hg (Kd.R_ne HO295.out BK286.out (by decide))) <| p_ (blk_grown (g := gb288) (o := .cells #[.string x289000_35, .bool ((rd_T44 l0_0 x8_1).f1), .string ((rd_T44 l0_0 x8_1).f2)] 44 (0, 0)) (kb_ BK288) hg (Kd.R_away HO295.out (fun _ hk => hk.2))) <| p_ (Kd.R_after (ok := (fun k_ => some k_ ≠ (.slice (some ad292) x287000_1.length co49 : Value).ownBlock ∧ k_ ≠ gb288)) (by (with_reducible repeat (first | apply Kd.R_alloc | apply Kd.R_drewN | apply Kd.R_drew)); exact Kd.R_mono HO305.out (fun _ hk => ⟨⟨hk.1.1.2, hk.1.2⟩, hk.2⟩)) hg hat) <| p_ (hb) <| p_ ((show Kd.C k44 w64 (some ad292) y296.length y296 from by rw [Ny296.out]; exact Kd.C_take (m := (x10_4 : Int).toNat) ((Kd.R_reads' (Kd.R_after (ok := (fun k_ => some k_ ≠ (v304 : Value).ownBlock ∧ k_ ≠ gb288)) tq_61 hg hat)).2.2) KL59.out)) <| a_ (ho)
   clear HO_287000 BK284 BK285 BK286 BK288 HO305 HB HR299 HO295
   obtain ⟨HO_287000, BK284, BK285, BK286, BK288, HO305, HB, HR299, HO302⟩ := z_
   clear ho hb hg hat
   refine hK.out _ _ ⟨(blk_cell BK286.out 0).trans rfl, bk3_ BK288.out⟩ (fun hHeld => ?_)
   clear hK K
   refine nm_ (some 66) ?_
   exact norm_ tq_32 (hCont (v294, v301, v304) _ ⟨hHeld, tq_78, tq_121, tq_62, (kb_ BK284), (kb_ BK285), (kb_ BK286), (kb_ BK288), th_⟩)
 rintro ⟨v294, v301, v304⟩ w65 ⟨hS_, h0_, h1_, h2_, h3_, h4_, h5_, h6_, h7_⟩
 have z_ := q_ (⟨h0_⟩ : Aside0 (Kd.R k44 44 w65 w.heap.size (fun k_ => some k_ ≠ (v304 : Value).ownBlock ∧ some k_ ≠ (.slice (some ad292) x287000_1.length co49 : Value).ownBlock ∧ k_ ≠ gb288) v301 y300)) <| q_ (⟨h1_⟩ : Aside0 (Kd.R k44 44 w65 w.heap.size (fun k_ => some k_ ≠ (v301 : Value).ownBlock ∧ some k_ ≠ (.slice (some ad292) x287000_1.length co49 : Value).ownBlock ∧ k_ ≠ gb288) v304 y303)) <| q_ (⟨h2_⟩ : Aside0 (Kd.R k44 44 w65 w.heap.size (fun k_ => some k_ ≠ (v301 : Value).ownBlock ∧ some k_ ≠ (v304 : Value).ownBlock ∧ k_ ≠ gb288) (.slice (some ad292) x287000_1.length co49) x287000_1)) <| q_ (⟨h3_⟩ : Aside0 (w65.heap[gb284]? = some (.cells #[.slice (some ad287) l0_0.length c0_0] 42 (0, 0)))) <| q_ (⟨h4_⟩ : Aside0 (w65.heap[gb285]? = some (.cells #[.slice none 0 0] 42 (0, 0)))) <| q_ (⟨h5_⟩ : Aside0 (w65.heap[gb286]? = some (.cells #[.slice (some ad292) x287000_1.length co49] 42 (0, 0)))) <| q_ (⟨h6_⟩ : Aside0 (w65.heap[gb288]? = some (.cells #[.string x289000_35, .bool ((rd_T44 l0_0 x8_1).f1), .string ((rd_T44 l0_0 x8_1).f2)] 44 (0, 0)))) <| (⟨h7_⟩ : Aside0 (Below w.heap.size w w65))
 clear HO_287000 BK284 BK285 BK286 BK288 HB h0_ h1_ h2_ h3_ h4_ h5_ h6_ h7_
 obtain ⟨HO302, HO305, HO_287000, BK284, BK285, BK286, BK288, HB⟩ := z_
 have hHeld : w65.cell? ⟨gb286, 0, none⟩ = some (.slice (some ad292) x287000_1.length co49) ∧ w65.cell? ⟨gb288, 0, none⟩ = some (.string x289000_35) ∧ w65.cell? ⟨gb288, 1, none⟩ = some (.bool ((rd_T44 l0_0 x8_1).f1)) ∧ w65.cell? ⟨gb288, 2, none⟩ = some (.string ((rd_T44 l0_0 x8_1).f2)) := hS_
 obtain ⟨Ao67, co67, eo67⟩ := Kd.R_slice HO305.out
 (first | subst eo67 | (injection eo67 with f1_ f2_ f3_; have f4_ := f1_.symm; have f5_ := f3_.symm; clear f1_ f2_ f3_; subst f4_; subst f5_))
 refine norm_ (a' := ?_) ?_ ?_
 rotate_left
 ·simp only [putAll, Act.put, List.setIfInBounds_toArray, List.set_cons_zero, List.set_cons_succ]
  rfl
 refine one_ (i := 8) (N := some 69) bq_92 rfl rfl (one_of HT_.out (by kernel_rfl)) (by decide) (fun K hK => ?_)
 refine Kd.R_append_rows_step k44 (w0 := w) w.heap.size (by rfl) (.tmp 66) (.tmp 68) 40 44 (.agg #[(.string ⟨#[]⟩), (.bool false), (.string ⟨#[]⟩)]) 40 rfl Try.underlying40 info44 rfl (by decide) (by omega) v301 y300 y303 _ _ _ (fun k_ => some k_ ≠ (.slice (some ad292) x287000_1.length co49 : Value).ownBlock ∧ some k_ ≠ (.slice Ao67 y303.length co67 : Value).ownBlock ∧ k_ ≠ gb288) (fun _ => False) rfl rfl ?aO ?aR (fun _ _ h => h) (fun _ h => h.elim) ?aF ?aB ?aS ?aL ?_
 (case aR => repeat (first | exact (Kd.R_reads' HO305.out).2.2 | (with_reducible refine Kd.C_alloc ?_ _) | (with_reducible refine Kd.C_drewN ?_ _) | (with_reducible refine Kd.C_drew ?_)))
 (case aB => exact th_)
 (case aF => exact tq_46)
 (case aO => exact tq_78)
 (case aS => exact (below_size th_))
 (case aL => have := LMc54.out; omega)
 intro v307 w66 ho hb hg hat
 rw [← Ny306.out] at ho
 have z_ := p_ (Kd.R_after (ok := (fun k_ => some k_ ≠ (.slice Ao67 y303.length co67 : Value).ownBlock ∧ k_ ≠ gb288)) tq_117 hg hat) <| p_ (blk_grown (g := gb284) (o := .cells #[.slice (some ad287) l0_0.length c0_0] 42 (0, 0)) (kb_ BK284) hg (Kd.R_ne HO302.out BK284.out (by decide))) <| p_ (blk_grown (g := gb285) (o := .cells #[.slice none 0 0] 42 (0, 0)) (kb_ BK285) hg (Kd.R_ne HO302.out BK285.out (by decide))) <| p_ (blk_grown (g := gb286) (o := .cells #[.slice (some ad292) x287000_1.length co49] 42 (0, 0)) (kb_ BK286) hg (Kd.R_ne HO302.out BK286.out (by decide))) <| p_ (blk_grown (g := gb288) (o := .cells #[.string x289000_35, .bool ((rd_T44 l0_0 x8_1).f1), .string ((rd_T44 l0_0 x8_1).f2)] 44 (0, 0)) (kb_ BK288) hg (Kd.R_away HO302.out (fun _ hk => hk.2.2))) <| p_ (Kd.R_after (ok := (fun k_ => some k_ ≠ (.slice (some ad292) x287000_1.length co49 : Value).ownBlock ∧ k_ ≠ gb288)) (by (with_reducible repeat (first | apply Kd.R_alloc | apply Kd.R_drewN | apply Kd.R_drew)); exact Kd.R_mono HO305.out (fun _ hk => ⟨⟨hk.2.1, hk.2.2⟩, hk.1⟩)) hg hat) <| p_ (hb) <| a_ (ho)
 clear HO_287000 BK284 BK285 BK286 BK288 HO305 HB HO302
 obtain ⟨HO_287000, BK284, BK285, BK286, BK288, HO305, HB, HO308⟩ := z_
 clear ho hb hg hat
 refine hK.out _ _ ⟨(blk_cell BK286.out 0).trans rfl, bk3_ BK288.out⟩ (fun hHeld => ?_)
 clear hK K
 refine nm_ (some 69) ?_
 refine yr_ 9 11 bq_93 HT_ ?_
 refine done_ (done_of HT_.out (by kernel_rfl)) ?_
 obtain ⟨n286_284, n284_286, n286_285, n285_286, n286_288, n288_286⟩ := an6_ NB286_284 NB284_286 NB286_285 NB285_286 NB286_288 NB288_286
 have hcz71_0 := bc_ BK286.out 0
 have hfz71_0 := blk_frozen BK286.out 0
 have q72 : (x10_4 : Int) ≤ ((x287000_1.length : Int) : Int) := of_decide_eq_true tq_3
 obtain ⟨i072, hi072, _, hsz72, _⟩ := info_parts info44
 have hroom72 : x287000_1.length ≤ co49 := (Kd.R_reads' HO_287000.out).2.1
 have hC72 : Kd.C k44 _ (some ad292) x287000_1.length x287000_1 := (Kd.R_reads' HO_287000.out).2.2
 have q072 : (0 : Int) ≤ (x10_4 : Int) := of_decide_eq_true tq_3
 have hcut72 := cut_from (P := Try.prog) 40 44 .i64 Try.underlying40 hi072 3 hsz72 (some ad292) x287000_1.length co49 x10_4 q072 q72
 have hr72 := Kd.C_drop (m := (x10_4 : Int).toNat) (c := co49) hC72 (by omega) hroom72
 obtain ⟨A72, hA72⟩ : ∃ A1, A1 = (if co49 = (x10_4 : Int).toNat then (some ad292) else ((some ad292) : Option Addr).map (·.add ((x10_4 : Int).toNat * 3))) := ⟨_, rfl⟩
 obtain ⟨c72, hc72⟩ : ∃ c1, c1 = co49 - (x10_4 : Int).toNat := ⟨_, rfl⟩
 have hy72 : y309.length = x287000_1.length - (x10_4 : Int).toNat := (by rw [Ny309.out, List.length_drop] <;> omega)
 rw [show (x287000_1).drop (x10_4 : Int).toNat = y309 from Ny309.out.symm] at hr72
 replace hr72 : Kd.C k44 _ A72 y309.length y309 := (by rw [hA72]; exact hr72)
 rw [← hy72, ← hA72, ← hc72] at hcut72
 have HR312 := Aside0.mk hr72
 have HC312 := Aside0.mk (show y309.length ≤ c72 from by rw [hy72, hc72]; exact Nat.sub_le_sub_right hroom72 _)
 clear hr72 hC72 hroom72 hi072 hsz72 hc72
 have KY72 := Aside0.mk hy72
 have KA72 := Aside0.mk hA72
 clear hy72 hA72
 have KL72 := Aside0.mk (show (x10_4 : Int).toNat ≤ x287000_1.length from by omega)
 replace q72 := eq_true q72
 try go_wp2_with (first | ((with_reducible refine gate_builtin (b := .append) (xs := #[.tmp 70, .tmp 74]) rfl ?_); at_builtin; refine Kd.R_append_rows k44 (w0 := w) w.heap.size rfl (.tmp 70) (.tmp 74) 40 44 (.agg #[(.string ⟨#[]⟩), (.bool false), (.string ⟨#[]⟩)]) 40 rfl Try.underlying40 info44 rfl (by decide) (by omega) v307 y306 y309 _ _ _ (fun k_ => some k_ ≠ (.slice (some ad292) x287000_1.length co49 : Value).ownBlock ∧ some k_ ≠ (.slice Ao67 y303.length co67 : Value).ownBlock ∧ k_ ≠ gb288) (fun _ => False) rfl rfl ?aO ?aR (fun _ _ h => h) (fun _ h => h.elim) ?aF ?aB ?aS ?aL ?_; (case aR => repeat (first | exact (by repeat (first | (with_reducible exact HR312.out) | (with_reducible refine Kd.C_alloc ?_ _) | (with_reducible refine Kd.C_drewN ?_ _) | (with_reducible refine Kd.C_drew ?_) | exact HR312.out)) | (with_reducible refine Kd.C_alloc ?_ _) | (with_reducible refine Kd.C_drewN ?_ _) | (with_reducible refine Kd.C_drew ?_))); (case aB => exact th_); (case aF => exact tq_46); (case aO => exact (raR_ HO308)); (case aS => exact (below_size th_)); (case aL => have := LMc57.out; omega); intro v314 w73 ho hb hg hat; rw [← Ny313.out] at ho; have z_ := p_ (Kd.R_after (ok := (fun k_ => some k_ ≠ (.slice Ao67 y303.length co67 : Value).ownBlock ∧ k_ ≠ gb288)) (raR_ HO_287000) hg hat) <| p_ (blk_grown (g := gb284) (o := .cells #[.slice (some ad287) l0_0.length c0_0] 42 (0, 0)) (kb_ BK284) hg (Kd.R_ne HO308.out BK284.out (by decide))) <| p_ (blk_grown (g := gb285) (o := .cells #[.slice none 0 0] 42 (0, 0)) (kb_ BK285) hg (Kd.R_ne HO308.out BK285.out (by decide))) <| p_ (blk_grown (g := gb286) (o := .cells #[.slice (some ad292) x287000_1.length co49] 42 (0, 0)) (kb_ BK286) hg (Kd.R_ne HO308.out BK286.out (by decide))) <| p_ (blk_grown (g := gb288) (o := .cells #[.string x289000_35, .bool ((rd_T44 l0_0 x8_1).f1), .string ((rd_T44 l0_0 x8_1).f2)] 44 (0, 0)) (kb_ BK288) hg (Kd.R_away HO308.out (fun _ hk => hk.2.2))) <| p_ (Kd.R_after (ok := (fun k_ => some k_ ≠ (.slice (some ad292) x287000_1.length co49 : Value).ownBlock ∧ k_ ≠ gb288)) (raR_ HO305) hg hat) <| p_ (hb) <| p_ ((show Kd.C k44 w73 A72 y309.length y309 from by rw [Ny309.out, KA72.out]; exact Kd.C_drop (m := (x10_4 : Int).toNat) (c := co49) ((Kd.R_reads' (Kd.R_after (ok := (fun k_ => some k_ ≠ (.slice Ao67 y303.length co67 : Value).ownBlock ∧ k_ ≠ gb288)) (raR_ HO_287000) hg hat)).2.2) KL72.out ((Kd.R_reads' (Kd.R_after (ok := (fun k_ => some k_ ≠ (.slice Ao67 y303.length co67 : Value).ownBlock ∧ k_ ≠ gb288)) (raR_ HO_287000) hg hat)).2.1))) <| a_ (ho); clear HO_287000 BK284 BK285 BK286 BK288 HO305 HB HR312 HO308; obtain ⟨HO_287000, BK284, BK285, BK286, BK288, HO305, HB, HR312, HO315⟩ := z_; clear ho hb hg hat; obtain ⟨Ao74, co74, eo74⟩ := Kd.R_slice HO315.out; subst eo74; have hcz75_0 := bc_ BK286.out 0; have hfz75_0 := blk_frozen BK286.out 0))
 go_roundg k4
 case measure => have := HK1.out; have := HJ15.out; have := HJ35.out; have := HK4.out; omega
 case rel => exact ⟨(wrap64 (x8_1 + 1)), (y313), (.slice Ao74 y313.length co74), tq_5, H', ⟨tq_123⟩, ⟨(by (with_reducible repeat (first | apply Kd.R_alloc | apply Kd.R_drewN | apply Kd.R_drew)); exact Kd.R_mono (rR_ (Kd.R_types HO315.out BK286.out (by decide))) (fun _ hk => trivial))⟩, ⟨tb_⟩, ⟨tb_⟩, ⟨tb_⟩, ⟨th_⟩⟩

end Go.Proofs.Ytljnnmpfeningaa.PFnViews
