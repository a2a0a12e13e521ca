/- Contracts of Go functions, written by a program of ours over the print of the kit: each says that the call returns what the Lean function beside it computes. Conditions: as each theorem states them. -/
import Derived.Test.YtmddplifammohaaDoorPkFnExactMovedItems
import Derived.Test.YtmddplifammohaaDoorPFnExactMovedItemsx0
import Derived.Test.YtmddplifammohaaDoorPFnExactMovedItemsx2
namespace Go.Proofs.YtmddplifammohaaDoor.PFnExactMovedItems
open Go.RowKit Go.Proofs.YtmddplifammohaaDoorW.PrintWords Go.Proofs.YtmddplifammohaaDoorW.PrintLast Go.Proofs.YtmddplifammohaaDoorW.PrintMore
attribute [local go_sem] max2_int min2_int max_two min_two max_three min_three max_four min_four   -- for this text's walks alone
set_option linter.unusedVariables false
set_option linter.unusedSimpArgs false

/-! ### spec_MovedItems: function 5 -/
mutual
def spec_MovedItems.l0 : Nat → ByteArray → ByteArray → Int → List (S36) → List (S36) → Option ((List (S36)))
 | 0, _, _, _, _, _ => none
 | k + 1, x1, x2, x8, x131000, x133000 => if x8 < (x131000.length : Int) then (if 0 ≤ x8 then (if ((rd_T36 x131000 x8).f0).toList = x1.toList then (spec_MovedItems.j1 k x1 x2 x8 true x131000 x133000 ((rd_T36 x131000 x8).f0) ((rd_T36 x131000 x8).f1) ((rd_T36 x131000 x8).f2)) else ((spec_IsUnder.f k ((rd_T36 x131000 x8).f0) x1).bind fun t135 => (spec_MovedItems.j1 k x1 x2 x8 t135 x131000 x133000 ((rd_T36 x131000 x8).f0) ((rd_T36 x131000 x8).f1) ((rd_T36 x131000 x8).f2)))) else (none)) else (some x133000)
def spec_MovedItems.j1 : Nat → ByteArray → ByteArray → Int → Bool → List (S36) → List (S36) → ByteArray → Bool → ByteArray → Option ((List (S36)))
 | 0, _, _, _, _, _, _, _, _, _ => none
 | k + 1, x1, x2, x8, x34, x131000, x133000, x135000, x135001, x135002 => if x34 = true then (if 0 ≤ (x1.size : Int) then (if (x1.size : Int) ≤ (x135000.size : Int) then ((some (x135000.extract ((x1.size : Int) : Int).toNat x135000.size : ByteArray)).bind fun y136 => (if x2.size + y136.size ≤ 9223372036854775807 then ((some (x2 ++ y136 : ByteArray)).bind fun y137 => (spec_MovedItems.j2 k x1 x2 x8 x131000 x133000 y137 x135001 x135002)) else (none))) else (none)) else (none)) else (spec_MovedItems.j2 k x1 x2 x8 x131000 x133000 x135000 x135001 x135002)
def spec_MovedItems.j2 : Nat → ByteArray → ByteArray → Int → List (S36) → List (S36) → ByteArray → Bool → ByteArray → Option ((List (S36)))
 | 0, _, _, _, _, _, _, _, _ => none
 | k + 1, x1, x2, x8, x131000, x133000, x135000, x135001, x135002 => spec_MovedItems.l1 k x1 x2 x8 0 x131000 x133000 x135000 x135001 x135002
def spec_MovedItems.l1 : Nat → ByteArray → ByteArray → Int → Int → List (S36) → List (S36) → ByteArray → Bool → ByteArray → Option ((List (S36)))
 | 0, _, _, _, _, _, _, _, _, _ => none
 | k + 1, x1, x2, x8, x10, x131000, x133000, x135000, x135001, x135002 => if x10 < (x133000.length : Int) then (if 0 ≤ x10 then (if ((Op.bytesLess x135000.toList (((rd_T36 x133000 x10).f0).toList)) = true) then ((some (([] : List (S36)) : List (S36))).bind fun y139 => (if x10 ≤ (x133000.length : Int) then ((some (x133000.take (x10 : Int).toNat : List (S36))).bind fun y142 => (if y139.length + y142.length < 3518437208883 then ((some (y139 ++ y142 : List (S36))).bind fun y146 => ((some (([(⟨x135000, x135001, x135002⟩ : S36)] : List (S36)) : List (S36))).bind fun y149 => (if y146.length + y149.length < 3518437208883 then ((some (y146 ++ y149 : List (S36))).bind fun y152 => ((some (x133000.drop (x10 : Int).toNat : List (S36))).bind fun y155 => (if y152.length + y155.length < 3518437208883 then (spec_MovedItems.l0 k x1 x2 (wrap64 (x8 + 1)) x131000 (y152 ++ y155)) else (none)))) else (none)))) else (none))) else (none))) else (spec_MovedItems.l1 k x1 x2 x8 (wrap64 (x10 + 1)) x131000 x133000 x135000 x135001 x135002)) else (none)) else ((some (([] : List (S36)) : List (S36))).bind fun y162 => (if 0 ≤ x10 then (if x10 ≤ (x133000.length : Int) then ((some (x133000.take (x10 : Int).toNat : List (S36))).bind fun y165 => (if y162.length + y165.length < 3518437208883 then ((some (y162 ++ y165 : List (S36))).bind fun y169 => ((some (([(⟨x135000, x135001, x135002⟩ : S36)] : List (S36)) : List (S36))).bind fun y172 => (if y169.length + y172.length < 3518437208883 then ((some (y169 ++ y172 : List (S36))).bind fun y175 => ((some (x133000.drop (x10 : Int).toNat : List (S36))).bind fun y178 => (if y175.length + y178.length < 3518437208883 then (spec_MovedItems.l0 k x1 x2 (wrap64 (x8 + 1)) x131000 (y175 ++ y178)) else (none)))) else (none)))) else (none))) else (none)) else (none)))
end
def spec_MovedItems.f (k : Nat) (l0_0 : List (S36)) (a1 : ByteArray) (a2 : ByteArray) : Option ((List (S36))) := spec_MovedItems.l0 k a1 a2 0 l0_0 ([] : List (S36))
theorem spec_MovedItems.mono_l : ∀ k, (∀ y0 y1 y2 y3 y4, LeO (spec_MovedItems.l0 k y0 y1 y2 y3 y4) (spec_MovedItems.l0 (k + 1) y0 y1 y2 y3 y4)) ∧ (∀ y0 y1 y2 y3 y4 y5 y6 y7 y8, LeO (spec_MovedItems.j1 k y0 y1 y2 y3 y4 y5 y6 y7 y8) (spec_MovedItems.j1 (k + 1) y0 y1 y2 y3 y4 y5 y6 y7 y8)) ∧ (∀ y0 y1 y2 y3 y4 y5 y6 y7, LeO (spec_MovedItems.j2 k y0 y1 y2 y3 y4 y5 y6 y7) (spec_MovedItems.j2 (k + 1) y0 y1 y2 y3 y4 y5 y6 y7)) ∧ (∀ y0 y1 y2 y3 y4 y5 y6 y7 y8, LeO (spec_MovedItems.l1 k y0 y1 y2 y3 y4 y5 y6 y7 y8) (spec_MovedItems.l1 (k + 1) y0 y1 y2 y3 y4 y5 y6 y7 y8))
 | 0 => ⟨fun _ _ _ _ _ r h => by simp [spec_MovedItems.l0] at h, fun _ _ _ _ _ _ _ _ _ r h => by simp [spec_MovedItems.j1] at h, fun _ _ _ _ _ _ _ _ r h => by simp [spec_MovedItems.j2] at h, fun _ _ _ _ _ _ _ _ _ r h => by simp [spec_MovedItems.l1] at h⟩
 | k + 1 => by
  obtain ⟨ih0, ih1, ih2, ih3⟩ := spec_MovedItems.mono_l k
  refine ⟨?_, ?_, ?_, ?_⟩
  ·intro y0 y1 y2 y3 y4
   unfold spec_MovedItems.l0
   exact mo_3
  ·intro y0 y1 y2 y3 y4 y5 y6 y7 y8
   unfold spec_MovedItems.j1
   exact mo_3
  ·intro y0 y1 y2 y3 y4 y5 y6 y7
   unfold spec_MovedItems.j2
   exact mo_3
  ·intro y0 y1 y2 y3 y4 y5 y6 y7 y8
   unfold spec_MovedItems.l1
   exact mo_3
theorem spec_MovedItems.mono : ∀ a0 a1 a2 k, LeO (spec_MovedItems.f k a0 a1 a2) (spec_MovedItems.f (k + 1) a0 a1 a2) := by
 intro a0 a1 a2 k
 obtain ⟨ih0, ih1, ih2, ih3⟩ := spec_MovedItems.mono_l k
 unfold spec_MovedItems.f
 repeat' first
   | (with_reducible exact ih0 ..)
   | (with_reducible exact ih1 ..)
   | (with_reducible exact ih2 ..)
   | (with_reducible exact ih3 ..)
   | (with_reducible exact spec_IsUnder.mono ..)
   | (with_reducible exact LeO.refl _)
   | (with_reducible exact LeO.none _)
   | (with_reducible refine LeO.ite ?_ ?_)
   | (with_reducible refine LeO.bind ?_ (fun _ => ?_))
   | exact ih0 ..
   | exact ih1 ..
   | exact ih2 ..
   | exact ih3 ..
   | exact spec_IsUnder.mono ..
   | exact LeO.none _
   | refine LeO.ite ?_ ?_
   | refine LeO.bind ?_ (fun _ => ?_)
def spec_MovedItems.T9 : Bool × List (List Nat × List Nat) := (true, [([], []), ([], []), ([1], [1]), ([2], [2]), ([0, 3], [0, 3]), ([4], [4]), ([5], [5]), ([6, 5], [5, 6]), ([5], [5]), ([7, 8, 5], [5, 7, 8]), ([9, 5], [5, 9]), ([10, 5], [5, 10]), ([5], [5]), ([12, 5], [5, 12]), ([11, 13, 5], [5, 11, 13]), ([5, 14], [5, 14])])
def spec_MovedItems.B9 : List Nat := [0, 0, 2, 6, 15, 31, 63, 127, 63, 511, 1023, 2047, 63, 4159, 16383, 32767]
theorem spec_MovedItems.tab9 : rtab .any (opsOf Tryd.f5 9) = spec_MovedItems.T9 := by kernel_rfl
theorem spec_MovedItems.bits9 : waitsOk spec_MovedItems.T9.2 spec_MovedItems.B9 = true := by kernel_rfl
def spec_MovedItems.T11 : Bool × List (List Nat × List Nat) := (true, [([], []), ([], []), ([1], [1]), ([], []), ([2, 3], [2, 3]), ([0, 4], [0, 4]), ([], []), ([6], [6]), ([5, 7, 5], [5, 7]), ([8, 8, 0, 1, 2, 3, 4, 5, 6, 7, 8], [8])])
def spec_MovedItems.B11 : List Nat := [0, 0, 2, 0, 14, 31, 0, 64, 255, 511]
theorem spec_MovedItems.tab11 : rtab .any (opsOf Tryd.f5 11) = spec_MovedItems.T11 := by kernel_rfl
theorem spec_MovedItems.bits11 : waitsOk spec_MovedItems.T11.2 spec_MovedItems.B11 = true := by kernel_rfl
set_option maxHeartbeats 8000000 in
set_option maxRecDepth 100000 in
theorem spec_MovedItems.calls (k : Nat) (A0_0 : Option Addr) (c0_0 : Nat) (l0_0 : List (S36)) (a1 : ByteArray) (a2 : ByteArray) (r : List (S36)) (w : World) (hr0_0 : Kd.C k36 w A0_0 l0_0.length l0_0) (hc0_0 : l0_0.length ≤ c0_0) (h : spec_MovedItems.f k l0_0 a1 a2 = some r) :
  Calls Tryd.prog 5 #[.agg #[.slice A0_0 l0_0.length c0_0], .string a1, .string a2] w fun e w' => ∃ v0_ : Value, e = .returned (.agg #[v0_]) ∧ Kd.R k36 36 w' w.heap.size (fun _ => True) v0_ r ∧ Below w.heap.size w w' := by
 have hu28 := Tryd.underlying28
 have hu36 := Tryd.underlying36
 have HR0_0 := Aside0.mk hr0_0
 have HC0_0 := Aside0.mk hc0_0
 clear hr0_0 hc0_0
 have HB := Aside0.mk (Below.refl w.heap.size w)
 unfold spec_MovedItems.f at h
 have H := h
 clear h
 have H' := Aside0.mk H
 clear H
 go_enter Tryd.func5, Tryd.ntmps5
 go_wp2_with (first | ((with_reducible refine gate_dst (N := 3) rfl ?_); refine be_ 3 (cs := #[.slice A0_0 l0_0.length c0_0]) 28 ?_; intro gb130 hg w4 hbox hb; have z_ := bx0_ th_ hb hbox hg; clear HB; obtain ⟨HB, BK130, GW130, GE130⟩ := z_; clear hb hbox hg) | ((with_reducible refine gate_dst (N := 6) rfl ?_); refine be_ 6 (cs := #[.slice none 0 0]) 28 ?_; intro gb131 hg w5 hbox hb; have z_ := bx1_ (kb_ BK130) th_ hb hbox hg; clear BK130 HB; obtain ⟨BK130, HB, BK131, GW131, GE131, NB130_131, NB131_130⟩ := z_; clear hb hbox hg) | ((with_reducible refine gate_dst (N := 7) rfl ?_); refine be_ 7 (cs := #[.slice none 0 0]) 28 ?_; intro gb132 hg w6 hbox hb; have z_ := bx2_ (kb_ BK130) (kb_ BK131) th_ hb hbox hg; clear BK130 BK131 HB; obtain ⟨BK130, BK131, HB, BK132, GW132, GE132, NB130_132, NB132_130, NB131_132, NB132_131⟩ := z_; clear hb hbox hg; obtain ⟨n132_130, n130_132, n132_131, n131_132⟩ := an4_ NB132_130 NB130_132 NB132_131 NB131_132; have hcz9_0 := bc_ BK132.out 0; have hfz9_0 := blk_frozen BK132.out 0))
 go_loopg [8] k (fun kq v8 w' => ∃ (x8_1 : Int) (x133000_1 : List (S36)) (u133000 : Value), v8 = .int .i64 x8_1 ∧ Aside0 (spec_MovedItems.l0 kq a1 a2 x8_1 l0_0 x133000_1 = some r) ∧ Aside0 (kq ≤ k) ∧ Aside0 (Kd.R k36 36 w' w.heap.size (fun _ => True) u133000 x133000_1) ∧ Aside0 (w'.heap[gb130]? = some (.cells #[(.slice A0_0 l0_0.length c0_0)] 28 (0, 0))) ∧ Aside0 (w'.heap[gb131]? = some (.cells #[(.slice none 0 0)] 28 (0, 0))) ∧ Aside0 (w'.heap[gb132]? = some (.cells #[u133000] 28 (0, 0))) ∧ Aside0 (Below w.heap.size w w'))
 case atStart => exact ⟨(0), (([] : List (S36))), (.slice none 0 0), tq_4, H', ⟨Nat.le_refl _⟩, ⟨tq_18⟩, ⟨tb_⟩, ⟨tb_⟩, ⟨tb_⟩, ⟨th_⟩⟩
 case round =>
 clear H'
 try clear p2; try clear c5; try clear c7; try clear c8; try clear hcz9_0 hfz9_0
 obtain ⟨x8_1, x133000_1, u133000, rfl, HA, HK1, HO_133000, BK130, BK131, BK132, HB⟩ := hrel
 cases gk with
 | zero => exact absurd HA.out (by simp [spec_MovedItems.l0])
 | succ k1 =>
 have H := HA.out
 clear HA
 simp only [spec_MovedItems.l0] at H
 have HC10 := Aside0.mk H
 clear H
 obtain ⟨n130_131, n131_130⟩ := an2_ NB130_131 NB131_130
 have hcz13_0 := bc_ BK130.out 0
 have hfz13_0 := blk_frozen BK130.out 0
 go_upto_if 17 with (fail)
 (try clear n130_131 n130_132 n131_130 n131_132 n132_130 n132_131)
 (try clear hcz13_0)
 (try clear hfz13_0)
 have H := HC10.out
 clear HC10
 by_cases c14 : x8_1 < (l0_0.length : Int)
 rotate_left
 ·rw [if_neg c14] at H
  have c14b0 := decide_eq_false c14
  clear c14
  (first | rw [c14b0] | (simp only [i64_w, i32_w]; rw [c14b0]) | skip)
  obtain rfl := Option.some.inj H
  obtain ⟨n132_130, n130_132, n132_131, n131_132⟩ := an4_ NB132_130 NB130_132 NB132_131 NB131_132
  have hcz105_0 := bc_ BK132.out 0
  have hfz105_0 := blk_frozen BK132.out 0
  obtain ⟨Ao106, co106, eo106⟩ := Kd.R_slice HO_133000.out
  subst eo106
  obtain ⟨n131_130, n130_131⟩ := an2_ NB131_130 NB130_131
  have hcz108_0 := bc_ BK131.out 0
  have hfz108_0 := blk_frozen BK131.out 0
  go_wp2
  refine bodyPost_ret (results_cell_row rfl _ _ gb131 28 #[.slice Ao106 x133000_1.length co106] (0, 0) _ rfl tb_ Tryd.underlying28 rfl (by kernel_rfl)) rfl ?_
  exact ⟨_, tq_3, (by (with_reducible repeat (first | apply Kd.R_alloc | apply Kd.R_drewN | apply Kd.R_drew)); exact Kd.R_mono (rR_ (Kd.R_types HO_133000.out BK131.out (by decide))) (fun _ hk => trivial)), th_⟩
 rw [if_pos c14] at H
 have c14b0 := decide_eq_true c14
 clear c14
 (first | rw [c14b0] | (simp only [i64_w, i32_w]; rw [c14b0]) | skip)
 obtain ⟨c15, H⟩ := fc_ H
 have c15b0 := decide_eq_true c15
 clear c15
 have HC16 := Aside0.mk H
 clear H
 obtain ⟨n130_131, n131_130, n130_132, n132_130⟩ := an4_ NB130_131 NB131_130 NB130_132 NB132_130
 have hcz19_0 := bc_ BK130.out 0
 have hfz19_0 := blk_frozen BK130.out 0
 have p133 : 0 ≤ (x8_1 : Int) := of_decide_eq_true tq_1
 have q133 : x8_1 < (l0_0.length : Int) := of_decide_eq_true tq_1
 obtain ⟨ad133, e133, hx133_0, hx133_1, hx133_2⟩ := at_T36 HR0_0.out x8_1 p133 q133
 cases e133
 replace hx133_0 := hx_ HB.out hx133_0
 replace hx133_1 := hx_ HB.out hx133_1
 replace hx133_2 := hx_ HB.out hx133_2
 replace p133 := eq_true p133
 replace q133 := eq_true q133
 go_upto_region 6 with (first | ((with_reducible refine gate_dst (N := 9) rfl ?_); refine be_ 9 (cs := #[.string (⟨#[]⟩ : ByteArray), .bool false, .string (⟨#[]⟩ : ByteArray)]) 36 ?_; intro gb134 hg w20 hbox hb; have z_ := p_ (Kd.R_below (Kd.R_elderB (raR_ HO_133000) gb134 (Nat.le_of_eq hg.symm)) hb) <| bx3_ (kb_ BK130) (kb_ BK131) (kb_ BK132) th_ hb hbox hg; clear HO_133000 BK130 BK131 BK132 HB; obtain ⟨HO_133000, BK130, BK131, BK132, HB, BK134, GW134, GE134, NB130_134, NB134_130, NB131_134, NB134_131, NB132_134, NB134_132⟩ := z_; clear hb hbox hg; obtain ⟨n134_130, n130_134, n134_131, n131_134, n134_132, n132_134⟩ := an6_ NB134_130 NB130_134 NB134_131 NB131_134 NB134_132 NB132_134; obtain ⟨hcz24_0, hcz24_1, hcz24_2⟩ := bk3_ BK134.out; obtain ⟨hfz24_0, hfz24_1, hfz24_2⟩ := bf3_ BK134.out))
 (try simp only [Act.put, List.setIfInBounds_toArray, List.set_cons_zero, List.set_cons_succ])
 go_cut [34] (fun v34 wc => ∃ (kq : Nat) (x34_15 : Bool), v34 = .bool x34_15 ∧ Aside0 (spec_MovedItems.j1 kq a1 a2 x8_1 x34_15 l0_0 x133000_1 ((rd_T36 l0_0 x8_1).f0) ((rd_T36 l0_0 x8_1).f1) ((rd_T36 l0_0 x8_1).f2) = some r) ∧ Aside0 (kq ≤ k1) ∧ Aside0 (Kd.R k36 36 wc w.heap.size (fun k_ => k_ ≠ gb134) u133000 x133000_1) ∧ Aside0 (wc.heap[gb130]? = some (.cells #[(.slice (some ad133) l0_0.length c0_0)] 28 (0, 0))) ∧ Aside0 (wc.heap[gb131]? = some (.cells #[(.slice none 0 0)] 28 (0, 0))) ∧ Aside0 (wc.heap[gb132]? = some (.cells #[u133000] 28 (0, 0))) ∧ Aside0 (wc.heap[gb134]? = some (.cells #[.string ((rd_T36 l0_0 x8_1).f0), .bool ((rd_T36 l0_0 x8_1).f1), .string ((rd_T36 l0_0 x8_1).f2)] 36 (0, 0))) ∧ Aside0 (Below w.heap.size w wc))
 case first =>
  have H := HC16.out
  clear HC16
  by_cases c25 : ((rd_T36 l0_0 x8_1).f0).toList = a1.toList
  ·rw [if_pos c25] at H
   have c25b0 := beq_iff_eq.mpr c25
   have c25b1 := bne_eq_false_iff_eq.mpr c25
   clear c25
   (first | rw [c25b0] | (simp only [i64_w, i32_w]; rw [c25b0]) | skip)
   have H' := Aside0.mk H
   clear H
   obtain ⟨hcz29_0, hcz29_1, hcz29_2⟩ := bk3_ BK134.out
   obtain ⟨hfz29_0, hfz29_1, hfz29_2⟩ := bf3_ BK134.out
   go_wp2
   go_meet
   case rel => exact ⟨_, (true), tq_4, H', ⟨(by have := HK1.out; first | omega | exact Nat.le_refl _)⟩, ⟨(by (with_reducible repeat (first | apply Kd.R_alloc | apply Kd.R_drewN | apply Kd.R_drew)); exact Kd.R_mono (rR_ (rR_ (rR_ (Kd.R_mono HO_133000.out (fun k_ hk => (⟨hk, hk.2⟩ : _ ∧ k_ ≠ gb134)))))) (fun _ hk => hk.1.2))⟩, ⟨tb_⟩, ⟨tb_⟩, ⟨tb_⟩, ⟨tb_⟩, ⟨th_⟩⟩
  rw [if_neg c25] at H
  have c25b0 := beq_eq_false_iff_ne.mpr c25
  have c25b1 := bne_iff_ne.mpr c25
  (first | rw [c25b0] | (simp only [i64_w, i32_w]; rw [c25b0]) | skip)
  obtain ⟨t135, A30, H⟩ := bd_ H
  have H' := Aside0.mk H
  clear H
  obtain ⟨hcz34_0, hcz34_1, hcz34_2⟩ := bk3_ BK134.out
  obtain ⟨hfz34_0, hfz34_1, hfz34_2⟩ := bf3_ BK134.out
  go_wp2_with (first | (go_at_call 12; (with_reducible refine (spec_IsUnder.calls k1 ((rd_T36 l0_0 x8_1).f0) a1 t135 _ A30.out).mono ?_); rintro e w35 ⟨rfl, hb⟩; have z_ := p_ (Kd.R_below (by (with_reducible repeat (first | apply Kd.R_alloc | apply Kd.R_drewN | apply Kd.R_drew)); exact (Kd.R_mono (rR_ (rR_ (rR_ (Kd.R_mono HO_133000.out (fun k_ hk => (⟨hk, hk.2⟩ : _ ∧ k_ ≠ gb134)))))) (fun _ h_ => h_.1))) hb) <| p_ (blk_below (g := gb130) (o := .cells #[.slice (some ad133) l0_0.length c0_0] 28 (0, 0)) (by (with_reducible repeat (first | refine blk_drewN ?_ _ | refine blk_drew ?_ | refine blk_alloc ?_ _)); refine blk_far ?_ NB130_134.out _; (with_reducible repeat (first | refine blk_drewN ?_ _ | refine blk_drew ?_ | refine blk_alloc ?_ _)); refine blk_far ?_ NB130_134.out _; (with_reducible repeat (first | refine blk_drewN ?_ _ | refine blk_drew ?_ | refine blk_alloc ?_ _)); refine blk_far ?_ NB130_134.out _; (with_reducible repeat (first | refine blk_drewN ?_ _ | refine blk_drew ?_ | refine blk_alloc ?_ _)); exact BK130.out) hb) <| p_ (blk_below (g := gb131) (o := .cells #[.slice none 0 0] 28 (0, 0)) (by (with_reducible repeat (first | refine blk_drewN ?_ _ | refine blk_drew ?_ | refine blk_alloc ?_ _)); refine blk_far ?_ NB131_134.out _; (with_reducible repeat (first | refine blk_drewN ?_ _ | refine blk_drew ?_ | refine blk_alloc ?_ _)); refine blk_far ?_ NB131_134.out _; (with_reducible repeat (first | refine blk_drewN ?_ _ | refine blk_drew ?_ | refine blk_alloc ?_ _)); refine blk_far ?_ NB131_134.out _; (with_reducible repeat (first | refine blk_drewN ?_ _ | refine blk_drew ?_ | refine blk_alloc ?_ _)); exact BK131.out) hb) <| p_ (blk_below (g := gb132) (o := .cells #[u133000] 28 (0, 0)) (by (with_reducible repeat (first | refine blk_drewN ?_ _ | refine blk_drew ?_ | refine blk_alloc ?_ _)); refine blk_far ?_ NB132_134.out _; (with_reducible repeat (first | refine blk_drewN ?_ _ | refine blk_drew ?_ | refine blk_alloc ?_ _)); refine blk_far ?_ NB132_134.out _; (with_reducible repeat (first | refine blk_drewN ?_ _ | refine blk_drew ?_ | refine blk_alloc ?_ _)); refine blk_far ?_ NB132_134.out _; (with_reducible repeat (first | refine blk_drewN ?_ _ | refine blk_drew ?_ | refine blk_alloc ?_ _)); exact BK132.out) hb) <| p_ (blk_below (g := gb134) (o := .cells #[.string ((rd_T36 l0_0 x8_1).f0), .bool ((rd_T36 l0_0 x8_1).f1), .string ((rd_T36 l0_0 x8_1).f2)] 36 (0, 0)) (by (with_reducible repeat (first | refine blk_drewN ?_ _ | refine blk_drew ?_ | refine blk_alloc ?_ _)); refine blk_put (cs := #[.string ((rd_T36 l0_0 x8_1).f0), .bool ((rd_T36 l0_0 x8_1).f1), .string (⟨#[]⟩ : ByteArray)]) ?_ 2 _ rfl; (with_reducible repeat (first | refine blk_drewN ?_ _ | refine blk_drew ?_ | refine blk_alloc ?_ _)); refine blk_put (cs := #[.string ((rd_T36 l0_0 x8_1).f0), .bool false, .string (⟨#[]⟩ : ByteArray)]) ?_ 1 _ rfl; (with_reducible repeat (first | refine blk_drewN ?_ _ | refine blk_drew ?_ | refine blk_alloc ?_ _)); refine blk_put (cs := #[.string (⟨#[]⟩ : ByteArray), .bool false, .string (⟨#[]⟩ : ByteArray)]) ?_ 0 _ rfl; (with_reducible repeat (first | refine blk_drewN ?_ _ | refine blk_drew ?_ | refine blk_alloc ?_ _)); exact BK134.out) hb) <| a_ (below_step th_ hb); clear HO_133000 BK130 BK131 BK132 BK134 HB; obtain ⟨HO_133000, BK130, BK131, BK132, BK134, HB⟩ := z_; (try clear hb); (try clear hk)))
  go_meet
  case rel => exact ⟨_, (t135), tq_4, H', ⟨(by have := HK1.out; first | omega | exact Nat.le_refl _)⟩, ⟨(by (with_reducible repeat (first | apply Kd.R_alloc | apply Kd.R_drewN | apply Kd.R_drew)); exact Kd.R_mono HO_133000.out (fun _ hk => hk.2))⟩, ⟨(kb_ BK130)⟩, ⟨(kb_ BK131)⟩, ⟨(kb_ BK132)⟩, ⟨(kb_ BK134)⟩, ⟨th_⟩⟩
 case rest =>
 clear HC16
 try clear c1; try clear p1; try clear q1; try clear hx1; try clear c2; try clear p2; try clear c3; try clear c5; try clear c7; try clear c8; try clear c11; try clear c12; try clear p13; try clear q13; try clear hx13; try clear c14; try clear c14b0; try clear c15; try clear c15b0; try clear c17; try clear c18; try clear c21; try clear c22; try clear c23; try clear c25; try clear c25b0; try clear c25b1; try clear c26; try clear c27; try clear c28; try clear c31; try clear c32; try clear c33; try clear hcz13_0; try clear hcz19_0; try clear hcz24_0 hcz24_1 hcz24_2; try clear hcz29_0 hcz29_1 hcz29_2; try clear hcz34_0 hcz34_1 hcz34_2; try clear hcz9_0; try clear hfz13_0; try clear hfz19_0; try clear hfz24_0 hfz24_1 hfz24_2; try clear hfz29_0 hfz29_1 hfz29_2; try clear hfz34_0 hfz34_1 hfz34_2; try clear hfz9_0; try clear hx133_0; try clear hx133_1; try clear hx133_2; try clear p133; try clear p2; try clear q133
 obtain ⟨kq, x34_15, rfl, HA, HJ15, HO_133000, BK130, BK131, BK132, BK134, HB⟩ := hcut
 cases kq with
 | zero => exact absurd HA.out (by simp [spec_MovedItems.j1])
 | succ kj15 =>
 have H := HA.out
 clear HA
 simp only [spec_MovedItems.j1] at H
 have HC36 := Aside0.mk H
 clear H
 go_upto_if 34 with (fail)
 go_cut [] (fun wc => ∃ (kq : Nat) (x135000_35 : ByteArray), Aside0 (spec_MovedItems.j2 kq a1 a2 x8_1 l0_0 x133000_1 x135000_35 ((rd_T36 l0_0 x8_1).f1) ((rd_T36 l0_0 x8_1).f2) = some r) ∧ Aside0 (kq ≤ kj15) ∧ Aside0 (Kd.R k36 36 wc w.heap.size (fun k_ => k_ ≠ gb134) u133000 x133000_1) ∧ Aside0 (wc.heap[gb130]? = some (.cells #[(.slice (some ad133) l0_0.length c0_0)] 28 (0, 0))) ∧ Aside0 (wc.heap[gb131]? = some (.cells #[(.slice none 0 0)] 28 (0, 0))) ∧ Aside0 (wc.heap[gb132]? = some (.cells #[u133000] 28 (0, 0))) ∧ Aside0 (wc.heap[gb134]? = some (.cells #[.string x135000_35, .bool ((rd_T36 l0_0 x8_1).f1), .string ((rd_T36 l0_0 x8_1).f2)] 36 (0, 0))) ∧ Aside0 (Below w.heap.size w wc))
 case first =>
  have H := HC36.out
  clear HC36
  by_cases c37 : x34_15 = true
  rotate_left
  ·replace c37 := Bool.eq_false_iff.mpr c37
   subst c37
   rw [if_neg nf_] at H
   have H' := Aside0.mk H
   clear H
   go_wp2
   go_meet
   case rel => exact ⟨_, (((rd_T36 l0_0 x8_1).f0)), H', ⟨(by have := HK1.out; have := HJ15.out; first | omega | exact Nat.le_refl _)⟩, ⟨(raR_ HO_133000)⟩, ⟨(kb_ BK130)⟩, ⟨(kb_ BK131)⟩, ⟨(kb_ BK132)⟩, ⟨(kb_ BK134)⟩, ⟨th_⟩⟩
  subst c37
  rw [if_pos rfl] at H
  obtain ⟨c38, H⟩ := fc_ H
  have c38b0 := eq_true c38
  have c38b1 := decide_eq_true c38
  clear c38
  obtain ⟨c39, H⟩ := fc_ H
  have c39b0 := eq_true c39
  have c39b1 := decide_eq_true c39
  clear c39
  obtain ⟨y136, hy136⟩ : ∃ y_ : ByteArray, (((rd_T36 l0_0 x8_1).f0).extract ((a1.size : Int) : Int).toNat ((rd_T36 l0_0 x8_1).f0).size) = y_ := ⟨_, rfl⟩
  replace H : (if a2.size + y136.size ≤ 9223372036854775807 then ((some (a2 ++ y136 : ByteArray)).bind fun y137 => (spec_MovedItems.j2 kj15 a1 a2 x8_1 l0_0 x133000_1 y137 ((rd_T36 l0_0 x8_1).f1) ((rd_T36 l0_0 x8_1).f2))) else (none)) = some r := by rw [← hy136]; exact (Option.bind_some _ _).symm.trans H
  (try simp only [Int.toNat_natCast] at hy136)
  obtain ⟨c40, H⟩ := fc_ H
  have c40b0 := eq_true c40
  have c40b1 := decide_eq_true c40
  try have c40b2 : (9223372036854775807 < a2.size + y136.size) = False := eq_false (Nat.not_lt.2 c40)
  clear c40
  obtain ⟨y137, hy137⟩ : ∃ y_ : ByteArray, (a2 ++ y136) = y_ := ⟨_, rfl⟩
  replace H : (spec_MovedItems.j2 kj15 a1 a2 x8_1 l0_0 x133000_1 y137 ((rd_T36 l0_0 x8_1).f1) ((rd_T36 l0_0 x8_1).f2)) = some r := by rw [← hy137]; exact (Option.bind_some _ _).symm.trans H
  (try simp only [Int.toNat_natCast] at hy137)
  have H' := Aside0.mk H
  clear H
  obtain ⟨hcz44_0, hcz44_1, hcz44_2⟩ := bk3_ BK134.out
  obtain ⟨hfz44_0, hfz44_1, hfz44_2⟩ := bf3_ BK134.out
  go_wp2
  go_meet
  case rel => exact ⟨_, (y137), H', ⟨(by have := HK1.out; have := HJ15.out; first | omega | exact Nat.le_refl _)⟩, ⟨(by (with_reducible repeat (first | apply Kd.R_alloc | apply Kd.R_drewN | apply Kd.R_drew)); exact Kd.R_mono (rR_ (Kd.R_mono HO_133000.out (fun k_ hk => (⟨hk, hk⟩ : _ ∧ k_ ≠ gb134)))) (fun _ hk => hk.1))⟩, ⟨tb_⟩, ⟨tb_⟩, ⟨tb_⟩, ⟨tb_⟩, ⟨th_⟩⟩
 case rest =>
 clear HC36
 try clear c1; try clear p1; try clear q1; try clear hx1; try clear c2; try clear p2; try clear c3; try clear c4; try clear c5; try clear c7; try clear c8; try clear c11; try clear c12; try clear p13; try clear q13; try clear hx13; try clear c14; try clear c14b0; try clear c15; try clear c15b0; try clear c17; try clear c18; try clear c21; try clear c22; try clear c23; try clear c25; try clear c25b0; try clear c25b1; try clear c26; try clear c27; try clear c28; try clear c31; try clear c32; try clear c33; try clear c37; try clear c38; try clear c38b0; try clear c38b1; try clear c39; try clear c39b0; try clear c39b1; try clear c40; try clear c40b0; try clear c40b1; try clear c40b2; try clear c41; try clear c42; try clear c43; try clear hcz13_0; try clear hcz19_0; try clear hcz24_0 hcz24_1 hcz24_2; try clear hcz29_0 hcz29_1 hcz29_2; try clear hcz34_0 hcz34_1 hcz34_2; try clear hcz44_0 hcz44_1 hcz44_2; try clear hcz9_0; try clear hfz13_0; try clear hfz19_0; try clear hfz24_0 hfz24_1 hfz24_2; try clear hfz29_0 hfz29_1 hfz29_2; try clear hfz34_0 hfz34_1 hfz34_2; try clear hfz44_0 hfz44_1 hfz44_2; try clear hfz9_0; try clear hx133_0; try clear hx133_1; try clear hx133_2; try clear p1; try clear p13; try clear p133; try clear p2; try clear q1; try clear q13; try clear q133
 obtain ⟨kq, x135000_35, HA, HJ35, HO_133000, BK130, BK131, BK132, BK134, HB⟩ := hcut
 cases kq with
 | zero => exact absurd HA.out (by simp [spec_MovedItems.j2])
 | succ kj35 =>
 have H := HA.out
 clear HA
 simp only [spec_MovedItems.j2] at H
 have H' := Aside0.mk H
 clear H
 go_wp2
 go_loopg [10] kj35 (fun kq v10 w' => ∃ (x10_4 : Int), v10 = .int .i64 x10_4 ∧ Aside0 (spec_MovedItems.l1 kq a1 a2 x8_1 x10_4 l0_0 x133000_1 x135000_35 ((rd_T36 l0_0 x8_1).f1) ((rd_T36 l0_0 x8_1).f2) = some r) ∧ Aside0 (kq ≤ kj35) ∧ Aside0 (Kd.R k36 36 w' w.heap.size (fun k_ => k_ ≠ gb134) u133000 x133000_1) ∧ Aside0 (w'.heap[gb130]? = some (.cells #[(.slice (some ad133) l0_0.length c0_0)] 28 (0, 0))) ∧ Aside0 (w'.heap[gb131]? = some (.cells #[(.slice none 0 0)] 28 (0, 0))) ∧ Aside0 (w'.heap[gb132]? = some (.cells #[u133000] 28 (0, 0))) ∧ Aside0 (w'.heap[gb134]? = some (.cells #[.string x135000_35, .bool ((rd_T36 l0_0 x8_1).f1), .string ((rd_T36 l0_0 x8_1).f2)] 36 (0, 0))) ∧ Aside0 (Below w.heap.size w w'))
 case atStart => exact ⟨(0), tq_4, H', ⟨Nat.le_refl _⟩, ⟨(raR_ HO_133000)⟩, ⟨(kb_ BK130)⟩, ⟨(kb_ BK131)⟩, ⟨(kb_ BK132)⟩, ⟨(kb_ BK134)⟩, ⟨th_⟩⟩
 case round =>
 clear H'
 try clear c1; try clear p1; try clear q1; try clear hx1; try clear c2; try clear p2; try clear c3; try clear c4; try clear c5; try clear c7; try clear c8; try clear c11; try clear c12; try clear p13; try clear q13; try clear hx13; try clear c14; try clear c14b0; try clear c15; try clear c15b0; try clear c17; try clear c18; try clear c21; try clear c22; try clear c23; try clear c25; try clear c25b0; try clear c25b1; try clear c26; try clear c27; try clear c28; try clear c31; try clear c32; try clear c33; try clear c37; try clear c38; try clear c38b0; try clear c38b1; try clear c39; try clear c39b0; try clear c39b1; try clear c40; try clear c40b0; try clear c40b1; try clear c40b2; try clear c41; try clear c42; try clear c43; try clear hcz13_0; try clear hcz19_0; try clear hcz24_0 hcz24_1 hcz24_2; try clear hcz29_0 hcz29_1 hcz29_2; try clear hcz34_0 hcz34_1 hcz34_2; try clear hcz44_0 hcz44_1 hcz44_2; try clear hcz9_0; try clear hfz13_0; try clear hfz19_0; try clear hfz24_0 hfz24_1 hfz24_2; try clear hfz29_0 hfz29_1 hfz29_2; try clear hfz34_0 hfz34_1 hfz34_2; try clear hfz44_0 hfz44_1 hfz44_2; try clear hfz9_0; try clear hx133_0; try clear hx133_1; try clear hx133_2; try clear p1; try clear p13; try clear p133; try clear p2; try clear q1; try clear q13; try clear q133
 obtain ⟨x10_4, rfl, HA, HK4, HO_133000, BK130, BK131, BK132, BK134, HB⟩ := hrel
 cases gk with
 | zero => exact absurd HA.out (by simp [spec_MovedItems.l1])
 | succ k4 =>
 have H := HA.out
 clear HA
 simp only [spec_MovedItems.l1] at H
 by_cases c45 : x10_4 < (x133000_1.length : Int)
 rotate_left
 ·rw [if_neg c45] at H
  have c45b0 := decide_eq_false c45
  clear c45
  obtain ⟨y162, Ny162, H⟩ := bs_ H
  obtain ⟨c76, H⟩ := fc_ H
  have c76b0 := eq_true c76
  have c76b1 := decide_eq_true c76
  clear c76
  obtain ⟨c77, H⟩ := fc_ H
  have c77b0 := eq_true c77
  have c77b1 := decide_eq_true c77
  clear c77
  obtain ⟨y165, Ny165, H⟩ := bs_ H
  obtain ⟨c78, H⟩ := fc_ H
  have LMc78 := Aside0.mk c78
  clear c78
  obtain ⟨y169, Ny169, H⟩ := bs_ H
  obtain ⟨y172, Ny172, H⟩ := bs_ H
  obtain ⟨c79, H⟩ := fc_ H
  have LMc79 := Aside0.mk c79
  clear c79
  obtain ⟨y175, Ny175, H⟩ := bs_ H
  have c80b0 := eq_true (of_decide_eq_true tq_1 : 0 ≤ x10_4)
  have c81b0 := eq_true (of_decide_eq_true tq_1 : x10_4 ≤ (x133000_1.length : Int))
  obtain ⟨y178, Ny178, H⟩ := bs_ H
  obtain ⟨c82, H⟩ := fc_ H
  have LMc82 := Aside0.mk c82
  clear c82
  obtain ⟨y182, hy182⟩ : ∃ y_ : List (S36), y_ = (y175 ++ y178) := ⟨_, rfl⟩
  replace H : (spec_MovedItems.l0 k4 a1 a2 (wrap64 (x8_1 + 1)) l0_0 y182) = some r := by first | (rw [hy182]; with_reducible exact H) | (have H2_ := (Option.bind_some _ _).symm.trans H; rw [hy182]; with_reducible exact H2_) | (have H2_ := (Option.bind_some _ _).symm.trans H; with_reducible exact H2_) | with_reducible exact H | (rw [hy182]; exact H) | exact H
  have Ny182 := Aside0.mk hy182
  clear hy182
  have H' := Aside0.mk H
  clear H
  try go_wp2
  have z_ := p_ (Kd.R_drew HO_133000.out) <| dw4_ BK130 BK131 BK132 BK134 HB
  clear HO_133000 BK130 BK131 BK132 BK134 HB
  obtain ⟨HO_133000, BK130, BK131, BK132, BK134, HB⟩ := z_
  obtain ⟨Ao84, co84, eo84⟩ := Kd.R_slice HO_133000.out
  (first | subst eo84 | (injection eo84 with f1_ f2_ f3_; have f4_ := f1_.symm; have f5_ := f3_.symm; clear f1_ f2_ f3_; subst f4_; subst f5_))
  refine start_ (n := 16) (S := fun w' => w'.cell? ⟨gb132, 0, none⟩ = some (.slice Ao84 x133000_1.length co84)) (ds := []) bq_34 (by kernel_rfl) rfl rfl ((blk_cell BK132.out 0).trans rfl) (fun hHeld => ?_); refine with_tabW spec_MovedItems.tab9 spec_MovedItems.bits9 (fun HT_ HW_ => ?_)
  generalize wr.drew = w83 at HO_133000 BK130 BK131 BK132 BK134 HB hHeld ⊢
  refine yr_ 0 43 bq_35 HT_ ?_
  refine yr_ 1 44 bq_36 HT_ ?_
  refine take_ (i := 2) (N := some 45) (v := ?_) (a' := ?_) bq_37 rfl rfl (take_ofW HT_.out HW_.out (by kernel_rfl)) (fun _ _ _ h => h) (Or.inl ⟨(by rfl), ?_⟩) hHeld ?_ ?_
  rotate_left
  ·intro w' s0
   go_simp
   with_reducible rfl
  rotate_left
  ·simp only [Act.put, List.setIfInBounds_toArray, List.set_cons_zero, List.set_cons_succ, i64_w, i32_w]
   rfl
  refine yr_ 3 46 bq_38 HT_ ?_
  refine yr_ 4 47 bq_39 HT_ ?_
  refine yr_ 5 48 bq_40 HT_ ?_
  refine ur_ 6 49 bq_41 HT_ ?_
  refine ur_ 7 50 #[true, true, true, true, true, true, true, true, false, false, false, false, false, false, false, false] HT_ ?_
  refine ur_ 8 51 #[true, true, true, true, true, true, true, true, true, false, false, false, false, false, false, false] HT_ ?_
  refine ur_ 9 52 #[true, true, true, true, true, true, true, true, true, true, false, false, false, false, false, false] HT_ ?_
  refine ur_ 10 53 #[true, true, true, true, true, true, true, true, true, true, true, false, false, false, false, false] HT_ ?_
  refine ur_ 11 54 #[true, true, true, true, true, true, true, true, true, true, true, true, false, false, false, false] HT_ ?_
  refine ur_ 12 55 bq_42 HT_ ?_
  refine ur_ 13 56 bq_43 HT_ ?_
  refine ur_ 14 57 bq_44 HT_ ?_
  refine yr_ 15 58 bq_45 HT_ ?_
  refine done_ (done_of HT_.out (by kernel_rfl)) ?_
  try go_wp2
  have z_ := p_ (Kd.R_drew HO_133000.out) <| dw4_ BK130 BK131 BK132 BK134 HB
  clear HO_133000 BK130 BK131 BK132 BK134 HB
  obtain ⟨HO_133000, BK130, BK131, BK132, BK134, HB⟩ := z_
  have q86 : (x10_4 : Int) ≤ ((x133000_1.length : Int) : Int) := of_decide_eq_true tq_1
  obtain ⟨i086, hi086, _, hsz86, _⟩ := info_parts info36
  have hroom86 : x133000_1.length ≤ co84 := (Kd.R_reads' HO_133000.out).2.1
  have hC86 : Kd.C k36 _ Ao84 x133000_1.length x133000_1 := (Kd.R_reads' HO_133000.out).2.2
  have hcut86 := cut_to (P := Tryd.prog) 26 36 .i64 Tryd.underlying26 hi086 Ao84 x133000_1.length co84 x10_4 (of_decide_eq_true tq_1) q86 hroom86
  have hr86 := Kd.C_take (m := (x10_4 : Int).toNat) hC86 (by omega)
  have hy86 : y165.length = (x10_4 : Int).toNat := (by rw [Ny165.out, List.length_take]; omega)
  rw [← Ny165.out] at hr86
  rw [← hy86] at hcut86
  have HR168 := Aside0.mk hr86
  have HC168 := Aside0.mk (show y165.length ≤ co84 from by omega)
  clear hr86 hC86 hroom86 hi086 hsz86
  have KY86 := Aside0.mk hy86
  clear hy86
  have KL86 := Aside0.mk (show (x10_4 : Int).toNat ≤ x133000_1.length from by omega)
  replace q86 := eq_true q86
  refine start_ (n := 10) (S := fun w' => w'.cell? ⟨gb132, 0, none⟩ = some (.slice Ao84 x133000_1.length co84) ∧ w'.cell? ⟨gb134, 0, none⟩ = some (.string x135000_35) ∧ w'.cell? ⟨gb134, 1, none⟩ = some (.bool ((rd_T36 l0_0 x8_1).f1)) ∧ w'.cell? ⟨gb134, 2, none⟩ = some (.string ((rd_T36 l0_0 x8_1).f2))) (ds := []) bq_11 (by kernel_rfl) rfl rfl ⟨(blk_cell BK132.out 0).trans rfl, bk3_ BK134.out⟩ (fun hHeld => ?_); refine with_tabW spec_MovedItems.tab11 spec_MovedItems.bits11 (fun HT_ HW_ => ?_)
  generalize w83.drew = w85 at HO_133000 BK130 BK131 BK132 BK134 HB HR168 hHeld ⊢
  refine yr_ 1 62 bq_46 HT_ ?_
  refine yr_ 3 64 bq_47 HT_ ?_
  refine tr_ 2 63 bq_48 HT_ HW_ hHeld ?_
  refine yr_ 4 65 bq_49 HT_ ?_
  refine tr_ 6 67 bq_50 HT_ HW_ hHeld ?_
  refine join_ (σ := Value × Value × Value) 2 bq_0 (fun s_ => [(61, s_.1), (66, s_.2.1), (68, s_.2.2)]) (fun s_ w' => (w'.cell? ⟨gb132, 0, none⟩ = some (.slice Ao84 x133000_1.length co84) ∧ w'.cell? ⟨gb134, 0, none⟩ = some (.string x135000_35) ∧ w'.cell? ⟨gb134, 1, none⟩ = some (.bool ((rd_T36 l0_0 x8_1).f1)) ∧ w'.cell? ⟨gb134, 2, none⟩ = some (.string ((rd_T36 l0_0 x8_1).f2))) ∧ (Kd.R k36 36 w' w.heap.size (fun k_ => some k_ ≠ (s_.2.2 : Value).ownBlock ∧ some k_ ≠ (.slice Ao84 x133000_1.length co84 : Value).ownBlock ∧ k_ ≠ gb134) s_.2.1 y169) ∧ (Kd.R k36 36 w' w.heap.size (fun k_ => some k_ ≠ (s_.2.1 : Value).ownBlock ∧ some k_ ≠ (.slice Ao84 x133000_1.length co84 : Value).ownBlock ∧ k_ ≠ gb134) s_.2.2 y172) ∧ (Kd.R k36 36 w' w.heap.size (fun k_ => some k_ ≠ (s_.2.1 : Value).ownBlock ∧ some k_ ≠ (s_.2.2 : Value).ownBlock ∧ k_ ≠ gb134) (.slice Ao84 x133000_1.length co84) x133000_1) ∧ (w'.heap[gb130]? = some (.cells #[.slice (some ad133) l0_0.length c0_0] 28 (0, 0))) ∧ (w'.heap[gb131]? = some (.cells #[.slice none 0 0] 28 (0, 0))) ∧ (w'.heap[gb132]? = some (.cells #[.slice Ao84 x133000_1.length co84] 28 (0, 0))) ∧ (w'.heap[gb134]? = some (.cells #[.string x135000_35, .bool ((rd_T36 l0_0 x8_1).f1), .string ((rd_T36 l0_0 x8_1).f2)] 36 (0, 0))) ∧ (Below w.heap.size w w')) ?_ ?_
  rotate_left
  ·intro hCont
   refine two_ (i := 0) (j := 7) (Ni := some 61) (Nj := some 68) bq_51 bq_52 rfl rfl rfl rfl (two_of HT_.out (by kernel_rfl)) (by decide) (by decide) (fun K hK => ?_) (fun K hK => ?_)
   ·skip
    refine Kd.R_lit_step k36 _ 36 ?hg (N := 61) ?hd (xs := ([] : List (S36))) (inner := []) (ok := fun _ => True) (okp := fun _ => True) ?hr ?hp (fun _ hk => hk) trivial (Below.refl _ _) (Nat.le_refl _) (by simp) ?_; (case hd => rfl); (case hg => rfl); (case hr => first | (go_simp; done) | (go_simp; rfl)); (case hp => exact (Reps.none _ _))
    intro v163 w87 ho88 hb hg_ hnew_
    clear hg_ hnew_
    (first | rw [← Ny162.out] at ho88 | (simp only [Int.reduceToNat] at ho88; rw [← Ny162.out] at ho88))
    have z_ := p_ (Kd.R_elder' (raR_ HO_133000) (Kd.R_base ho88) hb) <| p_ (Kd.R_lower (Kd.R_newB (Kd.R_new' ho88 (Kd.R_lt (raR_ HO_133000))) (g := gb134) (o := .cells #[.string x135000_35, .bool ((rd_T36 l0_0 x8_1).f1), .string ((rd_T36 l0_0 x8_1).f2)] 36 (0, 0)) (kb_ BK134)) (below_size th_)) <| p_ (blk_below (kb_ BK130) hb) <| p_ (blk_below (kb_ BK131) hb) <| p_ (blk_below (kb_ BK132) hb) <| p_ (blk_below (kb_ BK134) hb) <| p_ (Kd.C_below tq_9 hb) <| a_ (below_step th_ hb)
    clear HO_133000 BK130 BK131 BK132 BK134 HR168 HB
    obtain ⟨HO_133000, HO164, BK130, BK131, BK132, BK134, HR168, HB⟩ := z_
    clear hb ho88
    refine hK.out _ _ ⟨(blk_cell BK132.out 0).trans rfl, bk3_ BK134.out⟩ (fun hHeld => ?_)
    clear hK K
    refine nm_ (some 61) ?_
    refine two_ (i := 5) (j := 7) (Ni := some 66) (Nj := some 68) bq_12 bq_10 rfl rfl rfl rfl (two_of HT_.out (by kernel_rfl)) (by decide) (by decide) (fun K hK => ?_) (fun K hK => ?_)
    ·skip
     refine Kd.R_append_rows_step k36 (w0 := w) w.heap.size (by rfl) (.tmp 61) (.tmp 65) 26 36 (.agg #[(.string ⟨#[]⟩), (.bool false), (.string ⟨#[]⟩)]) 40 rfl Tryd.underlying26 info36 rfl (by decide) (by omega) v163 y162 y165 _ _ _ (fun k_ => some k_ ≠ (.slice Ao84 x133000_1.length co84 : Value).ownBlock ∧ k_ ≠ gb134) (fun _ => False) rfl rfl ?aO ?aR (fun _ _ h => h) (fun _ h => h.elim) ?aF ?aB ?aS ?aL ?_
     (case aR => exact tq_29)
     (case aB => exact th_)
     (case aF => exact tq_36)
     (case aO => exact (by (with_reducible repeat (first | apply Kd.R_alloc | apply Kd.R_drewN | apply Kd.R_drew)); exact Kd.R_mono HO164.out (fun _ hk => ⟨hk.1.2, hk.2⟩)))
     (case aS => exact (below_size th_))
     (case aL => have := LMc78.out; omega)
     intro v170 w89 ho hb hg hat
     rw [← Ny169.out] at ho
     have z_ := p_ (Kd.R_after (ok := (fun k_ => k_ ≠ gb134)) (raR_ HO_133000) hg hat) <| p_ (blk_grown (g := gb130) (o := .cells #[.slice (some ad133) l0_0.length c0_0] 28 (0, 0)) (kb_ BK130) hg (Kd.R_ne HO164.out BK130.out (by decide))) <| p_ (blk_grown (g := gb131) (o := .cells #[.slice none 0 0] 28 (0, 0)) (kb_ BK131) hg (Kd.R_ne HO164.out BK131.out (by decide))) <| p_ (blk_grown (g := gb132) (o := .cells #[.slice Ao84 x133000_1.length co84] 28 (0, 0)) (kb_ BK132) hg (Kd.R_ne HO164.out BK132.out (by decide))) <| p_ (blk_grown (g := gb134) (o := .cells #[.string x135000_35, .bool ((rd_T36 l0_0 x8_1).f1), .string ((rd_T36 l0_0 x8_1).f2)] 36 (0, 0)) (kb_ BK134) hg (Kd.R_away HO164.out (fun _ hk => hk.2))) <| p_ (hb) <| p_ ((show Kd.C k36 w89 Ao84 y165.length y165 from by rw [Ny165.out]; exact Kd.C_take (m := (x10_4 : Int).toNat) ((Kd.R_reads' (Kd.R_after (ok := (fun k_ => k_ ≠ gb134)) (raR_ HO_133000) hg hat)).2.2) KL86.out)) <| a_ (ho)
     clear HO_133000 BK130 BK131 BK132 BK134 HB HR168 HO164
     obtain ⟨HO_133000, BK130, BK131, BK132, BK134, HB, HR168, HO171⟩ := z_
     clear ho hb hg hat
     refine hK.out _ _ ⟨(blk_cell BK132.out 0).trans rfl, bk3_ BK134.out⟩ (fun hHeld => ?_)
     clear hK K
     refine nm_ (some 66) ?_
     refine one_ (i := 7) (N := some 68) bq_0 rfl rfl (one_of HT_.out (by kernel_rfl)) (by decide) (fun K hK => ?_)
     refine Kd.R_lit_step k36 _ 36 ?hg (N := 68) ?hd (xs := ([(⟨x135000_35, ((rd_T36 l0_0 x8_1).f1), ((rd_T36 l0_0 x8_1).f2)⟩ : S36)] : List (S36))) (inner := [.string x135000_35, .bool ((rd_T36 l0_0 x8_1).f1), .string ((rd_T36 l0_0 x8_1).f2)]) (ok := fun _ => True) (okp := fun _ => True) ?hr ?hp (fun _ hk => hk) trivial (Below.refl _ _) (Nat.le_refl _) (by simp) ?_; (case hd => rfl); (case hg => rfl); (case hr => first | (go_simp; done) | (go_simp; rfl)); (case hp => exact tq_7)
     intro v173 w90 ho91 hb hg_ hnew_
     clear hg_ hnew_
     (first | rw [← Ny172.out] at ho91 | (simp only [Int.reduceToNat] at ho91; rw [← Ny172.out] at ho91))
     have z_ := p_ (Kd.R_elder' (raR_ HO_133000) (Kd.R_base ho91) hb) <| p_ (Kd.R_elder' (raR_ HO171) (Kd.R_base ho91) hb) <| p_ (Kd.R_lower (Kd.R_newB (Kd.R_new' (Kd.R_new' ho91 (Kd.R_lt (raR_ HO_133000))) (Kd.R_lt (raR_ HO171))) (g := gb134) (o := .cells #[.string x135000_35, .bool ((rd_T36 l0_0 x8_1).f1), .string ((rd_T36 l0_0 x8_1).f2)] 36 (0, 0)) (kb_ BK134)) (below_size th_)) <| p_ (blk_below (kb_ BK130) hb) <| p_ (blk_below (kb_ BK131) hb) <| p_ (blk_below (kb_ BK132) hb) <| p_ (blk_below (kb_ BK134) hb) <| p_ (Kd.C_below tq_9 hb) <| a_ (below_step th_ hb)
     clear HO_133000 HO171 BK130 BK131 BK132 BK134 HR168 HB
     obtain ⟨HO_133000, HO171, HO174, BK130, BK131, BK132, BK134, HR168, HB⟩ := z_
     clear hb ho91
     refine hK.out _ _ ⟨(blk_cell BK132.out 0).trans rfl, bk3_ BK134.out⟩ (fun hHeld => ?_)
     clear hK K
     refine nm_ (some 68) ?_
     exact norm_ tq_13 (hCont (v163, v170, v173) _ ⟨hHeld, (by (with_reducible repeat (first | apply Kd.R_alloc | apply Kd.R_drewN | apply Kd.R_drew)); exact Kd.R_mono HO171.out (fun _ hk => ⟨hk.2, ⟨hk.1.1, hk.1.2⟩⟩)), (by (with_reducible repeat (first | apply Kd.R_alloc | apply Kd.R_drewN | apply Kd.R_drew)); exact Kd.R_mono HO174.out (fun _ hk => ⟨hk.1.2, ⟨hk.1.1.2, hk.2⟩⟩)), tq_48, (kb_ BK130), (kb_ BK131), (kb_ BK132), (kb_ BK134), th_⟩)
    ·skip
     refine Kd.R_lit_step k36 _ 36 ?hg (N := 68) ?hd (xs := ([(⟨x135000_35, ((rd_T36 l0_0 x8_1).f1), ((rd_T36 l0_0 x8_1).f2)⟩ : S36)] : List (S36))) (inner := [.string x135000_35, .bool ((rd_T36 l0_0 x8_1).f1), .string ((rd_T36 l0_0 x8_1).f2)]) (ok := fun _ => True) (okp := fun _ => True) ?hr ?hp (fun _ hk => hk) trivial (Below.refl _ _) (Nat.le_refl _) (by simp) ?_; (case hd => rfl); (case hg => rfl); (case hr => first | (go_simp; done) | (go_simp; rfl)); (case hp => exact tq_7)
     intro v173 w89 ho90 hb hg_ hnew_
     clear hg_ hnew_
     (first | rw [← Ny172.out] at ho90 | (simp only [Int.reduceToNat] at ho90; rw [← Ny172.out] at ho90))
     have z_ := p_ (Kd.R_elder' (raR_ HO_133000) (Kd.R_base ho90) hb) <| p_ (Kd.R_elder' (raR_ HO164) (Kd.R_base ho90) hb) <| p_ (Kd.R_lower (Kd.R_newB (Kd.R_new' (Kd.R_new' ho90 (Kd.R_lt (raR_ HO_133000))) (Kd.R_lt (raR_ HO164))) (g := gb134) (o := .cells #[.string x135000_35, .bool ((rd_T36 l0_0 x8_1).f1), .string ((rd_T36 l0_0 x8_1).f2)] 36 (0, 0)) (kb_ BK134)) (below_size th_)) <| p_ (blk_below (kb_ BK130) hb) <| p_ (blk_below (kb_ BK131) hb) <| p_ (blk_below (kb_ BK132) hb) <| p_ (blk_below (kb_ BK134) hb) <| p_ (Kd.C_below tq_9 hb) <| a_ (below_step th_ hb)
     clear HO_133000 HO164 BK130 BK131 BK132 BK134 HR168 HB
     obtain ⟨HO_133000, HO164, HO174, BK130, BK131, BK132, BK134, HR168, HB⟩ := z_
     clear hb ho90
     refine hK.out _ _ ⟨(blk_cell BK132.out 0).trans rfl, bk3_ BK134.out⟩ (fun hHeld => ?_)
     clear hK K
     refine nm_ (some 68) ?_
     refine one_ (i := 5) (N := some 66) bq_0 rfl rfl (one_of HT_.out (by kernel_rfl)) (by decide) (fun K hK => ?_)
     refine Kd.R_append_rows_step k36 (w0 := w) w.heap.size (by rfl) (.tmp 61) (.tmp 65) 26 36 (.agg #[(.string ⟨#[]⟩), (.bool false), (.string ⟨#[]⟩)]) 40 rfl Tryd.underlying26 info36 rfl (by decide) (by omega) v163 y162 y165 _ _ _ (fun k_ => some k_ ≠ (.slice Ao84 x133000_1.length co84 : Value).ownBlock ∧ some k_ ≠ (v173 : Value).ownBlock ∧ k_ ≠ gb134) (fun _ => False) rfl rfl ?aO ?aR (fun _ _ h => h) (fun _ h => h.elim) ?aF ?aB ?aS ?aL ?_
     (case aR => exact tq_29)
     (case aB => exact th_)
     (case aF => exact tq_11)
     (case aO => exact (by (with_reducible repeat (first | apply Kd.R_alloc | apply Kd.R_drewN | apply Kd.R_drew)); exact Kd.R_mono HO164.out (fun _ hk => ⟨hk.1.1.2, ⟨hk.2, hk.1.2⟩⟩)))
     (case aS => exact (below_size th_))
     (case aL => have := LMc78.out; omega)
     intro v170 w91 ho hb hg hat
     rw [← Ny169.out] at ho
     have z_ := p_ (Kd.R_after (ok := (fun k_ => some k_ ≠ (v173 : Value).ownBlock ∧ k_ ≠ gb134)) tq_14 hg hat) <| p_ (blk_grown (g := gb130) (o := .cells #[.slice (some ad133) l0_0.length c0_0] 28 (0, 0)) (kb_ BK130) hg (Kd.R_ne HO164.out BK130.out (by decide))) <| p_ (blk_grown (g := gb131) (o := .cells #[.slice none 0 0] 28 (0, 0)) (kb_ BK131) hg (Kd.R_ne HO164.out BK131.out (by decide))) <| p_ (blk_grown (g := gb132) (o := .cells #[.slice Ao84 x133000_1.length co84] 28 (0, 0)) (kb_ BK132) hg (Kd.R_ne HO164.out BK132.out (by decide))) <| p_ (blk_grown (g := gb134) (o := .cells #[.string x135000_35, .bool ((rd_T36 l0_0 x8_1).f1), .string ((rd_T36 l0_0 x8_1).f2)] 36 (0, 0)) (kb_ BK134) hg (Kd.R_away HO164.out (fun _ hk => hk.1.2))) <| p_ (Kd.R_after (ok := (fun k_ => some k_ ≠ (.slice Ao84 x133000_1.length co84 : Value).ownBlock ∧ k_ ≠ gb134)) (by (with_reducible repeat (first | apply Kd.R_alloc | apply Kd.R_drewN | apply Kd.R_drew)); exact Kd.R_mono HO174.out (fun _ hk => ⟨⟨hk.1.1.2, hk.2⟩, hk.1.2⟩)) hg hat) <| p_ (hb) <| p_ ((show Kd.C k36 w91 Ao84 y165.length y165 from by rw [Ny165.out]; exact Kd.C_take (m := (x10_4 : Int).toNat) ((Kd.R_reads' (Kd.R_after (ok := (fun k_ => some k_ ≠ (v173 : Value).ownBlock ∧ k_ ≠ gb134)) tq_14 hg hat)).2.2) KL86.out)) <| a_ (ho)
     clear HO_133000 BK130 BK131 BK132 BK134 HO174 HB HR168 HO164
     obtain ⟨HO_133000, BK130, BK131, BK132, BK134, HO174, HB, HR168, HO171⟩ := z_
     clear ho hb hg hat
     refine hK.out _ _ ⟨(blk_cell BK132.out 0).trans rfl, bk3_ BK134.out⟩ (fun hHeld => ?_)
     clear hK K
     refine nm_ (some 66) ?_
     exact norm_ tq_13 (hCont (v163, v170, v173) _ ⟨hHeld, tq_24, tq_49, tq_16, (kb_ BK130), (kb_ BK131), (kb_ BK132), (kb_ BK134), th_⟩)
   ·skip
    refine Kd.R_lit_step k36 _ 36 ?hg (N := 68) ?hd (xs := ([(⟨x135000_35, ((rd_T36 l0_0 x8_1).f1), ((rd_T36 l0_0 x8_1).f2)⟩ : S36)] : List (S36))) (inner := [.string x135000_35, .bool ((rd_T36 l0_0 x8_1).f1), .string ((rd_T36 l0_0 x8_1).f2)]) (ok := fun _ => True) (okp := fun _ => True) ?hr ?hp (fun _ hk => hk) trivial (Below.refl _ _) (Nat.le_refl _) (by simp) ?_; (case hd => rfl); (case hg => rfl); (case hr => first | (go_simp; done) | (go_simp; rfl)); (case hp => exact tq_7)
    intro v173 w87 ho88 hb hg_ hnew_
    clear hg_ hnew_
    (first | rw [← Ny172.out] at ho88 | (simp only [Int.reduceToNat] at ho88; rw [← Ny172.out] at ho88))
    have z_ := p_ (Kd.R_elder' (raR_ HO_133000) (Kd.R_base ho88) hb) <| p_ (Kd.R_lower (Kd.R_newB (Kd.R_new' ho88 (Kd.R_lt (raR_ HO_133000))) (g := gb134) (o := .cells #[.string x135000_35, .bool ((rd_T36 l0_0 x8_1).f1), .string ((rd_T36 l0_0 x8_1).f2)] 36 (0, 0)) (kb_ BK134)) (below_size th_)) <| p_ (blk_below (kb_ BK130) hb) <| p_ (blk_below (kb_ BK131) hb) <| p_ (blk_below (kb_ BK132) hb) <| p_ (blk_below (kb_ BK134) hb) <| p_ (Kd.C_below tq_9 hb) <| a_ (below_step th_ hb)
    clear HO_133000 BK130 BK131 BK132 BK134 HR168 HB
    obtain ⟨HO_133000, HO174, BK130, BK131, BK132, BK134, HR168, HB⟩ := z_
    clear hb ho88
    refine hK.out _ _ ⟨(blk_cell BK132.out 0).trans rfl, bk3_ BK134.out⟩ (fun hHeld => ?_)
    clear hK K
    refine nm_ (some 68) ?_
    refine one_ (i := 0) (N := some 61) bq_10 rfl rfl (one_of HT_.out (by kernel_rfl)) (by decide) (fun K hK => ?_)
    refine Kd.R_lit_step k36 _ 36 ?hg (N := 61) ?hd (xs := ([] : List (S36))) (inner := []) (ok := fun _ => True) (okp := fun _ => True) ?hr ?hp (fun _ hk => hk) trivial (Below.refl _ _) (Nat.le_refl _) (by simp) ?_; (case hd => rfl); (case hg => rfl); (case hr => first | (go_simp; done) | (go_simp; rfl)); (case hp => exact (Reps.none _ _))
    intro v163 w89 ho90 hb hg_ hnew_
    clear hg_ hnew_
    (first | rw [← Ny162.out] at ho90 | (simp only [Int.reduceToNat] at ho90; rw [← Ny162.out] at ho90))
    have z_ := p_ (Kd.R_elder' (raR_ HO_133000) (Kd.R_base ho90) hb) <| p_ (Kd.R_elder' (raR_ HO174) (Kd.R_base ho90) hb) <| p_ (Kd.R_lower (Kd.R_newB (Kd.R_new' (Kd.R_new' ho90 (Kd.R_lt (raR_ HO_133000))) (Kd.R_lt (raR_ HO174))) (g := gb134) (o := .cells #[.string x135000_35, .bool ((rd_T36 l0_0 x8_1).f1), .string ((rd_T36 l0_0 x8_1).f2)] 36 (0, 0)) (kb_ BK134)) (below_size th_)) <| p_ (blk_below (kb_ BK130) hb) <| p_ (blk_below (kb_ BK131) hb) <| p_ (blk_below (kb_ BK132) hb) <| p_ (blk_below (kb_ BK134) hb) <| p_ (Kd.C_below tq_9 hb) <| a_ (below_step th_ hb)
    clear HO_133000 HO174 BK130 BK131 BK132 BK134 HR168 HB
    obtain ⟨HO_133000, HO174, HO164, BK130, BK131, BK132, BK134, HR168, HB⟩ := z_
    clear hb ho90
    refine hK.out _ _ ⟨(blk_cell BK132.out 0).trans rfl, bk3_ BK134.out⟩ (fun hHeld => ?_)
    clear hK K
    refine nm_ (some 61) ?_
    refine one_ (i := 5) (N := some 66) bq_0 rfl rfl (one_of HT_.out (by kernel_rfl)) (by decide) (fun K hK => ?_)
    refine Kd.R_append_rows_step k36 (w0 := w) w.heap.size (by rfl) (.tmp 61) (.tmp 65) 26 36 (.agg #[(.string ⟨#[]⟩), (.bool false), (.string ⟨#[]⟩)]) 40 rfl Tryd.underlying26 info36 rfl (by decide) (by omega) v163 y162 y165 _ _ _ (fun k_ => some k_ ≠ (.slice Ao84 x133000_1.length co84 : Value).ownBlock ∧ some k_ ≠ (v173 : Value).ownBlock ∧ k_ ≠ gb134) (fun _ => False) rfl rfl ?aO ?aR (fun _ _ h => h) (fun _ h => h.elim) ?aF ?aB ?aS ?aL ?_
    (case aR => exact tq_29)
    (case aB => exact th_)
    (case aF => exact tq_11)
    (case aO => exact (by (with_reducible repeat (first | apply Kd.R_alloc | apply Kd.R_drewN | apply Kd.R_drew)); exact Kd.R_mono HO164.out (fun _ hk => ⟨hk.1.1.2, ⟨hk.1.2, hk.2⟩⟩)))
    (case aS => exact (below_size th_))
    (case aL => have := LMc78.out; omega)
    intro v170 w91 ho hb hg hat
    rw [← Ny169.out] at ho
    have z_ := p_ (Kd.R_after (ok := (fun k_ => some k_ ≠ (v173 : Value).ownBlock ∧ k_ ≠ gb134)) tq_15 hg hat) <| p_ (blk_grown (g := gb130) (o := .cells #[.slice (some ad133) l0_0.length c0_0] 28 (0, 0)) (kb_ BK130) hg (Kd.R_ne HO164.out BK130.out (by decide))) <| p_ (blk_grown (g := gb131) (o := .cells #[.slice none 0 0] 28 (0, 0)) (kb_ BK131) hg (Kd.R_ne HO164.out BK131.out (by decide))) <| p_ (blk_grown (g := gb132) (o := .cells #[.slice Ao84 x133000_1.length co84] 28 (0, 0)) (kb_ BK132) hg (Kd.R_ne HO164.out BK132.out (by decide))) <| p_ (blk_grown (g := gb134) (o := .cells #[.string x135000_35, .bool ((rd_T36 l0_0 x8_1).f1), .string ((rd_T36 l0_0 x8_1).f2)] 36 (0, 0)) (kb_ BK134) hg (Kd.R_away HO164.out (fun _ hk => hk.2))) <| p_ (Kd.R_after (ok := (fun k_ => some k_ ≠ (.slice Ao84 x133000_1.length co84 : Value).ownBlock ∧ k_ ≠ gb134)) (by (with_reducible repeat (first | apply Kd.R_alloc | apply Kd.R_drewN | apply Kd.R_drew)); exact Kd.R_mono HO174.out (fun _ hk => ⟨⟨hk.1.1.2, hk.1.2⟩, hk.2⟩)) hg hat) <| p_ (hb) <| p_ ((show Kd.C k36 w91 Ao84 y165.length y165 from by rw [Ny165.out]; exact Kd.C_take (m := (x10_4 : Int).toNat) ((Kd.R_reads' (Kd.R_after (ok := (fun k_ => some k_ ≠ (v173 : Value).ownBlock ∧ k_ ≠ gb134)) tq_15 hg hat)).2.2) KL86.out)) <| a_ (ho)
    clear HO_133000 BK130 BK131 BK132 BK134 HO174 HB HR168 HO164
    obtain ⟨HO_133000, BK130, BK131, BK132, BK134, HO174, HB, HR168, HO171⟩ := z_
    clear ho hb hg hat
    refine hK.out _ _ ⟨(blk_cell BK132.out 0).trans rfl, bk3_ BK134.out⟩ (fun hHeld => ?_)
    clear hK K
    refine nm_ (some 66) ?_
    exact norm_ tq_13 (hCont (v163, v170, v173) _ ⟨hHeld, tq_24, tq_49, tq_16, (kb_ BK130), (kb_ BK131), (kb_ BK132), (kb_ BK134), th_⟩)
  rintro ⟨v163, v170, v173⟩ w92 ⟨hS_, h0_, h1_, h2_, h3_, h4_, h5_, h6_, h7_⟩
  have z_ := q_ (⟨h0_⟩ : Aside0 (Kd.R k36 36 w92 w.heap.size (fun k_ => some k_ ≠ (v173 : Value).ownBlock ∧ some k_ ≠ (.slice Ao84 x133000_1.length co84 : Value).ownBlock ∧ k_ ≠ gb134) v170 y169)) <| q_ (⟨h1_⟩ : Aside0 (Kd.R k36 36 w92 w.heap.size (fun k_ => some k_ ≠ (v170 : Value).ownBlock ∧ some k_ ≠ (.slice Ao84 x133000_1.length co84 : Value).ownBlock ∧ k_ ≠ gb134) v173 y172)) <| q_ (⟨h2_⟩ : Aside0 (Kd.R k36 36 w92 w.heap.size (fun k_ => some k_ ≠ (v170 : Value).ownBlock ∧ some k_ ≠ (v173 : Value).ownBlock ∧ k_ ≠ gb134) (.slice Ao84 x133000_1.length co84) x133000_1)) <| q_ (⟨h3_⟩ : Aside0 (w92.heap[gb130]? = some (.cells #[.slice (some ad133) l0_0.length c0_0] 28 (0, 0)))) <| q_ (⟨h4_⟩ : Aside0 (w92.heap[gb131]? = some (.cells #[.slice none 0 0] 28 (0, 0)))) <| q_ (⟨h5_⟩ : Aside0 (w92.heap[gb132]? = some (.cells #[.slice Ao84 x133000_1.length co84] 28 (0, 0)))) <| q_ (⟨h6_⟩ : Aside0 (w92.heap[gb134]? = some (.cells #[.string x135000_35, .bool ((rd_T36 l0_0 x8_1).f1), .string ((rd_T36 l0_0 x8_1).f2)] 36 (0, 0)))) <| (⟨h7_⟩ : Aside0 (Below w.heap.size w w92))
  clear HO_133000 BK130 BK131 BK132 BK134 HB h0_ h1_ h2_ h3_ h4_ h5_ h6_ h7_
  obtain ⟨HO171, HO174, HO_133000, BK130, BK131, BK132, BK134, HB⟩ := z_
  have hHeld : w92.cell? ⟨gb132, 0, none⟩ = some (.slice Ao84 x133000_1.length co84) ∧ w92.cell? ⟨gb134, 0, none⟩ = some (.string x135000_35) ∧ w92.cell? ⟨gb134, 1, none⟩ = some (.bool ((rd_T36 l0_0 x8_1).f1)) ∧ w92.cell? ⟨gb134, 2, none⟩ = some (.string ((rd_T36 l0_0 x8_1).f2)) := hS_
  obtain ⟨Ao94, co94, eo94⟩ := Kd.R_slice HO174.out
  (first | subst eo94 | (injection eo94 with f1_ f2_ f3_; have f4_ := f1_.symm; have f5_ := f3_.symm; clear f1_ f2_ f3_; subst f4_; subst f5_))
  refine norm_ (a' := ?_) ?_ ?_
  rotate_left
  ·simp only [putAll, Act.put, List.setIfInBounds_toArray, List.set_cons_zero, List.set_cons_succ]
   rfl
  refine one_ (i := 8) (N := some 69) bq_13 rfl rfl (one_of HT_.out (by kernel_rfl)) (by decide) (fun K hK => ?_)
  refine Kd.R_append_rows_step k36 (w0 := w) w.heap.size (by rfl) (.tmp 66) (.tmp 68) 26 36 (.agg #[(.string ⟨#[]⟩), (.bool false), (.string ⟨#[]⟩)]) 40 rfl Tryd.underlying26 info36 rfl (by decide) (by omega) v170 y169 y172 _ _ _ (fun k_ => some k_ ≠ (.slice Ao84 x133000_1.length co84 : Value).ownBlock ∧ some k_ ≠ (.slice Ao94 y172.length co94 : Value).ownBlock ∧ k_ ≠ gb134) (fun _ => False) rfl rfl ?aO ?aR (fun _ _ h => h) (fun _ h => h.elim) ?aF ?aB ?aS ?aL ?_
  (case aR => repeat (first | exact (Kd.R_reads' HO174.out).2.2 | (with_reducible refine Kd.C_alloc ?_ _) | (with_reducible refine Kd.C_drewN ?_ _) | (with_reducible refine Kd.C_drew ?_)))
  (case aB => exact th_)
  (case aF => exact tq_11)
  (case aO => exact tq_24)
  (case aS => exact (below_size th_))
  (case aL => have := LMc79.out; omega)
  intro v176 w93 ho hb hg hat
  rw [← Ny175.out] at ho
  have z_ := p_ (Kd.R_after (ok := (fun k_ => some k_ ≠ (.slice Ao94 y172.length co94 : Value).ownBlock ∧ k_ ≠ gb134)) tq_47 hg hat) <| p_ (blk_grown (g := gb130) (o := .cells #[.slice (some ad133) l0_0.length c0_0] 28 (0, 0)) (kb_ BK130) hg (Kd.R_ne HO171.out BK130.out (by decide))) <| p_ (blk_grown (g := gb131) (o := .cells #[.slice none 0 0] 28 (0, 0)) (kb_ BK131) hg (Kd.R_ne HO171.out BK131.out (by decide))) <| p_ (blk_grown (g := gb132) (o := .cells #[.slice Ao84 x133000_1.length co84] 28 (0, 0)) (kb_ BK132) hg (Kd.R_ne HO171.out BK132.out (by decide))) <| p_ (blk_grown (g := gb134) (o := .cells #[.string x135000_35, .bool ((rd_T36 l0_0 x8_1).f1), .string ((rd_T36 l0_0 x8_1).f2)] 36 (0, 0)) (kb_ BK134) hg (Kd.R_away HO171.out (fun _ hk => hk.2.2))) <| p_ (Kd.R_after (ok := (fun k_ => some k_ ≠ (.slice Ao84 x133000_1.length co84 : Value).ownBlock ∧ k_ ≠ gb134)) (by (with_reducible repeat (first | apply Kd.R_alloc | apply Kd.R_drewN | apply Kd.R_drew)); exact Kd.R_mono HO174.out (fun _ hk => ⟨⟨hk.2.1, hk.2.2⟩, hk.1⟩)) hg hat) <| p_ (hb) <| a_ (ho)
  clear HO_133000 BK130 BK131 BK132 BK134 HO174 HB HO171
  obtain ⟨HO_133000, BK130, BK131, BK132, BK134, HO174, HB, HO177⟩ := z_
  clear ho hb hg hat
  refine hK.out _ _ ⟨(blk_cell BK132.out 0).trans rfl, bk3_ BK134.out⟩ (fun hHeld => ?_)
  clear hK K
  refine nm_ (some 69) ?_
  refine yr_ 9 11 bq_14 HT_ ?_
  refine done_ (done_of HT_.out (by kernel_rfl)) ?_
  obtain ⟨n132_131, n131_132⟩ := an2_ NB132_131 NB131_132
  have hcz98_0 := bc_ BK132.out 0
  have hfz98_0 := blk_frozen BK132.out 0
  have q99 : (x10_4 : Int) ≤ ((x133000_1.length : Int) : Int) := of_decide_eq_true tq_1
  obtain ⟨i099, hi099, _, hsz99, _⟩ := info_parts info36
  have hroom99 : x133000_1.length ≤ co84 := (Kd.R_reads' HO_133000.out).2.1
  have hC99 : Kd.C k36 _ Ao84 x133000_1.length x133000_1 := (Kd.R_reads' HO_133000.out).2.2
  have q099 : (0 : Int) ≤ (x10_4 : Int) := of_decide_eq_true tq_1
  have hcut99 := cut_from (P := Tryd.prog) 26 36 .i64 Tryd.underlying26 hi099 3 hsz99 Ao84 x133000_1.length co84 x10_4 q099 q99
  have hr99 := Kd.C_drop (m := (x10_4 : Int).toNat) (c := co84) hC99 (by omega) hroom99
  obtain ⟨A99, hA99⟩ : ∃ A1, A1 = (if co84 = (x10_4 : Int).toNat then Ao84 else (Ao84 : Option Addr).map (·.add ((x10_4 : Int).toNat * 3))) := ⟨_, rfl⟩
  obtain ⟨c99, hc99⟩ : ∃ c1, c1 = co84 - (x10_4 : Int).toNat := ⟨_, rfl⟩
  have hy99 : y178.length = x133000_1.length - (x10_4 : Int).toNat := (by rw [Ny178.out, List.length_drop] <;> omega)
  rw [show (x133000_1).drop (x10_4 : Int).toNat = y178 from Ny178.out.symm] at hr99
  replace hr99 : Kd.C k36 _ A99 y178.length y178 := (by rw [hA99]; exact hr99)
  rw [← hy99, ← hA99, ← hc99] at hcut99
  have HR181 := Aside0.mk hr99
  have HC181 := Aside0.mk (show y178.length ≤ c99 from by rw [hy99, hc99]; exact Nat.sub_le_sub_right hroom99 _)
  clear hr99 hC99 hroom99 hi099 hsz99 hc99
  have KY99 := Aside0.mk hy99
  have KA99 := Aside0.mk hA99
  clear hy99 hA99
  have KL99 := Aside0.mk (show (x10_4 : Int).toNat ≤ x133000_1.length from by omega)
  replace q99 := eq_true q99
  try go_wp2_with (first | ((with_reducible refine gate_builtin (b := .append) (xs := #[.tmp 70, .tmp 74]) rfl ?_); at_builtin; refine Kd.R_append_rows k36 (w0 := w) w.heap.size rfl (.tmp 70) (.tmp 74) 26 36 (.agg #[(.string ⟨#[]⟩), (.bool false), (.string ⟨#[]⟩)]) 40 rfl Tryd.underlying26 info36 rfl (by decide) (by omega) v176 y175 y178 _ _ _ (fun k_ => some k_ ≠ (.slice Ao84 x133000_1.length co84 : Value).ownBlock ∧ some k_ ≠ (.slice Ao94 y172.length co94 : Value).ownBlock ∧ k_ ≠ gb134) (fun _ => False) rfl rfl ?aO ?aR (fun _ _ h => h) (fun _ h => h.elim) ?aF ?aB ?aS ?aL ?_; (case aR => repeat (first | exact (by repeat (first | (with_reducible exact HR181.out) | (with_reducible refine Kd.C_alloc ?_ _) | (with_reducible refine Kd.C_drewN ?_ _) | (with_reducible refine Kd.C_drew ?_) | exact HR181.out)) | (with_reducible refine Kd.C_alloc ?_ _) | (with_reducible refine Kd.C_drewN ?_ _) | (with_reducible refine Kd.C_drew ?_))); (case aB => exact th_); (case aF => exact tq_11); (case aO => exact (raR_ HO177)); (case aS => exact (below_size th_)); (case aL => have := LMc82.out; omega); intro v183 w100 ho hb hg hat; rw [← Ny182.out] at ho; have z_ := p_ (Kd.R_after (ok := (fun k_ => some k_ ≠ (.slice Ao94 y172.length co94 : Value).ownBlock ∧ k_ ≠ gb134)) (raR_ HO_133000) hg hat) <| p_ (blk_grown (g := gb130) (o := .cells #[.slice (some ad133) l0_0.length c0_0] 28 (0, 0)) (kb_ BK130) hg (Kd.R_ne HO177.out BK130.out (by decide))) <| p_ (blk_grown (g := gb131) (o := .cells #[.slice none 0 0] 28 (0, 0)) (kb_ BK131) hg (Kd.R_ne HO177.out BK131.out (by decide))) <| p_ (blk_grown (g := gb132) (o := .cells #[.slice Ao84 x133000_1.length co84] 28 (0, 0)) (kb_ BK132) hg (Kd.R_ne HO177.out BK132.out (by decide))) <| p_ (blk_grown (g := gb134) (o := .cells #[.string x135000_35, .bool ((rd_T36 l0_0 x8_1).f1), .string ((rd_T36 l0_0 x8_1).f2)] 36 (0, 0)) (kb_ BK134) hg (Kd.R_away HO177.out (fun _ hk => hk.2.2))) <| p_ (Kd.R_after (ok := (fun k_ => some k_ ≠ (.slice Ao84 x133000_1.length co84 : Value).ownBlock ∧ k_ ≠ gb134)) (raR_ HO174) hg hat) <| p_ (hb) <| p_ ((show Kd.C k36 w100 A99 y178.length y178 from by rw [Ny178.out, KA99.out]; exact Kd.C_drop (m := (x10_4 : Int).toNat) (c := co84) ((Kd.R_reads' (Kd.R_after (ok := (fun k_ => some k_ ≠ (.slice Ao94 y172.length co94 : Value).ownBlock ∧ k_ ≠ gb134)) (raR_ HO_133000) hg hat)).2.2) KL99.out ((Kd.R_reads' (Kd.R_after (ok := (fun k_ => some k_ ≠ (.slice Ao94 y172.length co94 : Value).ownBlock ∧ k_ ≠ gb134)) (raR_ HO_133000) hg hat)).2.1))) <| a_ (ho); clear HO_133000 BK130 BK131 BK132 BK134 HO174 HB HR181 HO177; obtain ⟨HO_133000, BK130, BK131, BK132, BK134, HO174, HB, HR181, HO184⟩ := z_; clear ho hb hg hat; obtain ⟨Ao101, co101, eo101⟩ := Kd.R_slice HO184.out; subst eo101; have hcz102_0 := bc_ BK132.out 0; have hfz102_0 := blk_frozen BK132.out 0))
  go_roundg k4
  case measure => have := HK1.out; have := HJ15.out; have := HJ35.out; have := HK4.out; omega
  case rel => exact ⟨(wrap64 (x8_1 + 1)), (y182), (.slice Ao101 y182.length co101), tq_4, H', ⟨tq_52⟩, ⟨(by (with_reducible repeat (first | apply Kd.R_alloc | apply Kd.R_drewN | apply Kd.R_drew)); exact Kd.R_mono (rR_ (Kd.R_types HO184.out BK132.out (by decide))) (fun _ hk => trivial))⟩, ⟨tb_⟩, ⟨tb_⟩, ⟨tb_⟩, ⟨th_⟩⟩
 rw [if_pos c45] at H
 have c45b0 := decide_eq_true c45
 clear c45
 obtain ⟨c46, H⟩ := fc_ H
 have c46b0 := decide_eq_true c46
 clear c46
 have HC47 := Aside0.mk H
 clear H
 try go_wp2
 have z_ := p_ (Kd.R_drew HO_133000.out) <| dw4_ BK130 BK131 BK132 BK134 HB
 clear HO_133000 BK130 BK131 BK132 BK134 HB
 obtain ⟨HO_133000, BK130, BK131, BK132, BK134, HB⟩ := z_
 obtain ⟨Ao49, co49, eo49⟩ := Kd.R_slice HO_133000.out
 (first | subst eo49 | (injection eo49 with f1_ f2_ f3_; have f4_ := f1_.symm; have f5_ := f3_.symm; clear f1_ f2_ f3_; subst f4_; subst f5_))
 have p138 : 0 ≤ (x10_4 : Int) := of_decide_eq_true tq_1
 have q138 : x10_4 < (x133000_1.length : Int) := of_decide_eq_true tq_1
 obtain ⟨ad138, e138, hx138_0, hx138_1, hx138_2⟩ := at_T36 (Kd.R_reads' HO_133000.out).2.2 x10_4 p138 q138
 cases e138
 replace p138 := eq_true p138
 replace q138 := eq_true q138
 refine start_ (n := 16) (S := fun w' => w'.cell? ⟨gb132, 0, none⟩ = some (.slice (some ad138) x133000_1.length co49) ∧ w'.cell? ⟨gb134, 0, none⟩ = some (.string x135000_35) ∧ w'.cell? ⟨gb134, 1, none⟩ = some (.bool ((rd_T36 l0_0 x8_1).f1)) ∧ w'.cell? ⟨gb134, 2, none⟩ = some (.string ((rd_T36 l0_0 x8_1).f2)) ∧ w'.cell? (ad138.add ((x10_4).toNat * 3)) = some (.string ((rd_T36 x133000_1 x10_4).f0)) ∧ w'.cell? ⟨(ad138.add ((x10_4).toNat * 3)).block, (ad138.add ((x10_4).toNat * 3)).off + 1, none⟩ = some (.bool ((rd_T36 x133000_1 x10_4).f1)) ∧ w'.cell? ⟨(ad138.add ((x10_4).toNat * 3)).block, (ad138.add ((x10_4).toNat * 3)).off + 2, none⟩ = some (.string ((rd_T36 x133000_1 x10_4).f2))) (ds := []) bq_34 (by kernel_rfl) rfl rfl ⟨(blk_cell BK132.out 0).trans rfl, bc3_ BK134.out ⟨hx138_0, hx138_1, hx138_2⟩⟩ (fun hHeld => ?_); refine with_tabW spec_MovedItems.tab9 spec_MovedItems.bits9 (fun HT_ HW_ => ?_)
 generalize wr.drew = w48 at HO_133000 BK130 BK131 BK132 BK134 HB hx138_0 hx138_1 hx138_2 hHeld ⊢
 refine yr_ 0 43 bq_35 HT_ ?_
 refine yr_ 1 44 bq_36 HT_ ?_
 refine tr_ 2 45 bq_37 HT_ HW_ hHeld ?_
 refine yr_ 3 46 bq_38 HT_ ?_
 refine yr_ 4 47 bq_39 HT_ ?_
 refine yr_ 5 48 bq_40 HT_ ?_
 refine yr_ 6 49 bq_41 HT_ ?_
 refine yr_ 8 51 #[true, true, true, true, true, true, true, false, true, false, false, false, false, false, false, false] HT_ ?_
 refine yr_ 12 55 #[true, true, true, true, true, true, true, false, true, false, false, false, true, false, false, false] HT_ ?_
 refine tr_ 7 50 #[true, true, true, true, true, true, true, true, true, false, false, false, true, false, false, false] HT_ HW_ hHeld ?_
 refine yr_ 9 52 #[true, true, true, true, true, true, true, true, true, true, false, false, true, false, false, false] HT_ ?_
 refine yr_ 10 53 #[true, true, true, true, true, true, true, true, true, true, true, false, true, false, false, false] HT_ ?_
 refine tr_ 11 54 bq_42 HT_ HW_ hHeld ?_
 refine tr_ 13 56 bq_43 HT_ HW_ hHeld ?_
 refine yr_ 14 57 bq_44 HT_ ?_
 refine yr_ 15 58 bq_45 HT_ ?_
 refine done_ (done_of HT_.out (by kernel_rfl)) ?_
 go_upto_if 58 with (fail)
 (try clear n130_131 n130_132 n130_134 n131_130 n131_134 n132_130 n132_134 n134_130 n134_131 n134_132)
 (try clear hcz24_0 hcz24_1 hcz24_2)
 (try clear hfz24_0 hfz24_1 hfz24_2)
 (try clear hx133_0 hx133_1 hx133_2)
 (try clear hx138_0 hx138_1 hx138_2)
 have H := HC47.out
 clear HC47
 by_cases c50 : ((Op.bytesLess x135000_35.toList (((rd_T36 x133000_1 x10_4).f0).toList)) = true)
 rotate_left
 ·rw [if_neg c50] at H
  have c50b0 : (Op.bytesLess x135000_35.toList (((rd_T36 x133000_1 x10_4).f0).toList)) = false := by simpa using c50
  clear c50
  (first | rw [c50b0] | (simp only [i64_w, i32_w]; rw [c50b0]) | rw [bl_leq, c50b0] | rw [bl_gtr, c50b0] | skip)
  have H' := Aside0.mk H
  clear H
  go_wp2
  go_roundg k4
  case measure => have := HK1.out; have := HJ15.out; have := HJ35.out; have := HK4.out; omega
  case rel => exact ⟨(wrap64 (x10_4 + 1)), tq_4, H', ⟨tq_52⟩, ⟨(raR_ HO_133000)⟩, ⟨(kb_ BK130)⟩, ⟨(kb_ BK131)⟩, ⟨(kb_ BK132)⟩, ⟨(kb_ BK134)⟩, ⟨th_⟩⟩
 rw [if_pos c50] at H
 have c50b0 : (Op.bytesLess x135000_35.toList (((rd_T36 x133000_1 x10_4).f0).toList)) = true := c50
 clear c50
 (first | rw [c50b0] | (simp only [i64_w, i32_w]; rw [c50b0]) | rw [bl_leq, c50b0] | rw [bl_gtr, c50b0] | skip)
 obtain ⟨y139, Ny139, H⟩ := bs_ H
 have c51b0 := eq_true (of_decide_eq_true tq_1 : 0 ≤ x10_4)
 obtain ⟨c52, H⟩ := fc_ H
 have c52b0 := eq_true c52
 have c52b1 := decide_eq_true c52
 clear c52
 obtain ⟨y142, Ny142, H⟩ := bs_ H
 obtain ⟨c53, H⟩ := fc_ H
 have LMc53 := Aside0.mk c53
 clear c53
 obtain ⟨y146, Ny146, H⟩ := bs_ H
 obtain ⟨y149, Ny149, H⟩ := bs_ H
 obtain ⟨c54, H⟩ := fc_ H
 have LMc54 := Aside0.mk c54
 clear c54
 obtain ⟨y152, Ny152, H⟩ := bs_ H
 have c55b0 := eq_true (of_decide_eq_true tq_1 : 0 ≤ x10_4)
 have c56b0 := eq_true (of_decide_eq_true tq_1 : x10_4 ≤ (x133000_1.length : Int))
 obtain ⟨y155, Ny155, H⟩ := bs_ H
 obtain ⟨c57, H⟩ := fc_ H
 have LMc57 := Aside0.mk c57
 clear c57
 obtain ⟨y159, hy159⟩ : ∃ y_ : List (S36), y_ = (y152 ++ y155) := ⟨_, rfl⟩
 replace H : (spec_MovedItems.l0 k4 a1 a2 (wrap64 (x8_1 + 1)) l0_0 y159) = some r := by first | (rw [hy159]; with_reducible exact H) | (have H2_ := (Option.bind_some _ _).symm.trans H; rw [hy159]; with_reducible exact H2_) | (have H2_ := (Option.bind_some _ _).symm.trans H; with_reducible exact H2_) | with_reducible exact H | (rw [hy159]; exact H) | exact H
 have Ny159 := Aside0.mk hy159
 clear hy159
 have H' := Aside0.mk H
 clear H
 try go_wp2
 have z_ := p_ (Kd.R_drew HO_133000.out) <| dw4_ BK130 BK131 BK132 BK134 HB
 clear HO_133000 BK130 BK131 BK132 BK134 HB
 obtain ⟨HO_133000, BK130, BK131, BK132, BK134, HB⟩ := z_
 have q59 : (x10_4 : Int) ≤ ((x133000_1.length : Int) : Int) := of_decide_eq_true tq_1
 obtain ⟨i059, hi059, _, hsz59, _⟩ := info_parts info36
 have hroom59 : x133000_1.length ≤ co49 := (Kd.R_reads' HO_133000.out).2.1
 have hC59 : Kd.C k36 _ (some ad138) x133000_1.length x133000_1 := (Kd.R_reads' HO_133000.out).2.2
 have hcut59 := cut_to (P := Tryd.prog) 26 36 .i64 Tryd.underlying26 hi059 (some ad138) x133000_1.length co49 x10_4 (of_decide_eq_true tq_1) q59 hroom59
 have hr59 := Kd.C_take (m := (x10_4 : Int).toNat) hC59 (by omega)
 have hy59 : y142.length = (x10_4 : Int).toNat := (by rw [Ny142.out, List.length_take]; omega)
 rw [← Ny142.out] at hr59
 rw [← hy59] at hcut59
 have HR145 := Aside0.mk hr59
 have HC145 := Aside0.mk (show y142.length ≤ co49 from by omega)
 clear hr59 hC59 hroom59 hi059 hsz59
 have KY59 := Aside0.mk hy59
 clear hy59
 have KL59 := Aside0.mk (show (x10_4 : Int).toNat ≤ x133000_1.length from by omega)
 replace q59 := eq_true q59
 refine start_ (n := 10) (S := fun w' => w'.cell? ⟨gb132, 0, none⟩ = some (.slice (some ad138) x133000_1.length co49) ∧ w'.cell? ⟨gb134, 0, none⟩ = some (.string x135000_35) ∧ w'.cell? ⟨gb134, 1, none⟩ = some (.bool ((rd_T36 l0_0 x8_1).f1)) ∧ w'.cell? ⟨gb134, 2, none⟩ = some (.string ((rd_T36 l0_0 x8_1).f2))) (ds := []) bq_11 (by kernel_rfl) rfl rfl ⟨(blk_cell BK132.out 0).trans rfl, bk3_ BK134.out⟩ (fun hHeld => ?_); refine with_tabW spec_MovedItems.tab11 spec_MovedItems.bits11 (fun HT_ HW_ => ?_)
 generalize w48.drew = w58 at HO_133000 BK130 BK131 BK132 BK134 HB HR145 hHeld ⊢
 refine yr_ 1 62 bq_46 HT_ ?_
 refine yr_ 3 64 bq_47 HT_ ?_
 refine tr_ 2 63 bq_48 HT_ HW_ hHeld ?_
 refine yr_ 4 65 bq_49 HT_ ?_
 refine tr_ 6 67 bq_50 HT_ HW_ hHeld ?_
 refine join_ (σ := Value × Value × Value) 2 bq_0 (fun s_ => [(61, s_.1), (66, s_.2.1), (68, s_.2.2)]) (fun s_ w' => (w'.cell? ⟨gb132, 0, none⟩ = some (.slice (some ad138) x133000_1.length co49) ∧ w'.cell? ⟨gb134, 0, none⟩ = some (.string x135000_35) ∧ w'.cell? ⟨gb134, 1, none⟩ = some (.bool ((rd_T36 l0_0 x8_1).f1)) ∧ w'.cell? ⟨gb134, 2, none⟩ = some (.string ((rd_T36 l0_0 x8_1).f2))) ∧ (Kd.R k36 36 w' w.heap.size (fun k_ => some k_ ≠ (s_.2.2 : Value).ownBlock ∧ some k_ ≠ (.slice (some ad138) x133000_1.length co49 : Value).ownBlock ∧ k_ ≠ gb134) s_.2.1 y146) ∧ (Kd.R k36 36 w' w.heap.size (fun k_ => some k_ ≠ (s_.2.1 : Value).ownBlock ∧ some k_ ≠ (.slice (some ad138) x133000_1.length co49 : Value).ownBlock ∧ k_ ≠ gb134) s_.2.2 y149) ∧ (Kd.R k36 36 w' w.heap.size (fun k_ => some k_ ≠ (s_.2.1 : Value).ownBlock ∧ some k_ ≠ (s_.2.2 : Value).ownBlock ∧ k_ ≠ gb134) (.slice (some ad138) x133000_1.length co49) x133000_1) ∧ (w'.heap[gb130]? = some (.cells #[.slice (some ad133) l0_0.length c0_0] 28 (0, 0))) ∧ (w'.heap[gb131]? = some (.cells #[.slice none 0 0] 28 (0, 0))) ∧ (w'.heap[gb132]? = some (.cells #[.slice (some ad138) x133000_1.length co49] 28 (0, 0))) ∧ (w'.heap[gb134]? = some (.cells #[.string x135000_35, .bool ((rd_T36 l0_0 x8_1).f1), .string ((rd_T36 l0_0 x8_1).f2)] 36 (0, 0))) ∧ (Below w.heap.size w w')) ?_ ?_
 rotate_left
 ·intro hCont
  refine two_ (i := 0) (j := 7) (Ni := some 61) (Nj := some 68) bq_51 bq_52 rfl rfl rfl rfl (two_of HT_.out (by kernel_rfl)) (by decide) (by decide) (fun K hK => ?_) (fun K hK => ?_)
  ·skip
   refine Kd.R_lit_step k36 _ 36 ?hg (N := 61) ?hd (xs := ([] : List (S36))) (inner := []) (ok := fun _ => True) (okp := fun _ => True) ?hr ?hp (fun _ hk => hk) trivial (Below.refl _ _) (Nat.le_refl _) (by simp) ?_; (case hd => rfl); (case hg => rfl); (case hr => first | (go_simp; done) | (go_simp; rfl)); (case hp => exact (Reps.none _ _))
   intro v140 w60 ho61 hb hg_ hnew_
   clear hg_ hnew_
   (first | rw [← Ny139.out] at ho61 | (simp only [Int.reduceToNat] at ho61; rw [← Ny139.out] at ho61))
   have z_ := p_ (Kd.R_elder' (raR_ HO_133000) (Kd.R_base ho61) hb) <| p_ (Kd.R_lower (Kd.R_newB (Kd.R_new' ho61 (Kd.R_lt (raR_ HO_133000))) (g := gb134) (o := .cells #[.string x135000_35, .bool ((rd_T36 l0_0 x8_1).f1), .string ((rd_T36 l0_0 x8_1).f2)] 36 (0, 0)) (kb_ BK134)) (below_size th_)) <| p_ (blk_below (kb_ BK130) hb) <| p_ (blk_below (kb_ BK131) hb) <| p_ (blk_below (kb_ BK132) hb) <| p_ (blk_below (kb_ BK134) hb) <| p_ (Kd.C_below tq_10 hb) <| a_ (below_step th_ hb)
   clear HO_133000 BK130 BK131 BK132 BK134 HR145 HB
   obtain ⟨HO_133000, HO141, BK130, BK131, BK132, BK134, HR145, HB⟩ := z_
   clear hb ho61
   refine hK.out _ _ ⟨(blk_cell BK132.out 0).trans rfl, bk3_ BK134.out⟩ (fun hHeld => ?_)
   clear hK K
   refine nm_ (some 61) ?_
   refine two_ (i := 5) (j := 7) (Ni := some 66) (Nj := some 68) bq_12 bq_10 rfl rfl rfl rfl (two_of HT_.out (by kernel_rfl)) (by decide) (by decide) (fun K hK => ?_) (fun K hK => ?_)
   ·skip
    refine Kd.R_append_rows_step k36 (w0 := w) w.heap.size (by rfl) (.tmp 61) (.tmp 65) 26 36 (.agg #[(.string ⟨#[]⟩), (.bool false), (.string ⟨#[]⟩)]) 40 rfl Tryd.underlying26 info36 rfl (by decide) (by omega) v140 y139 y142 _ _ _ (fun k_ => some k_ ≠ (.slice (some ad138) x133000_1.length co49 : Value).ownBlock ∧ k_ ≠ gb134) (fun _ => False) rfl rfl ?aO ?aR (fun _ _ h => h) (fun _ h => h.elim) ?aF ?aB ?aS ?aL ?_
    (case aR => exact tq_28)
    (case aB => exact th_)
    (case aF => exact tq_36)
    (case aO => exact (by (with_reducible repeat (first | apply Kd.R_alloc | apply Kd.R_drewN | apply Kd.R_drew)); exact Kd.R_mono HO141.out (fun _ hk => ⟨hk.1.2, hk.2⟩)))
    (case aS => exact (below_size th_))
    (case aL => have := LMc53.out; omega)
    intro v147 w62 ho hb hg hat
    rw [← Ny146.out] at ho
    have z_ := p_ (Kd.R_after (ok := (fun k_ => k_ ≠ gb134)) (raR_ HO_133000) hg hat) <| p_ (blk_grown (g := gb130) (o := .cells #[.slice (some ad133) l0_0.length c0_0] 28 (0, 0)) (kb_ BK130) hg (Kd.R_ne HO141.out BK130.out (by decide))) <| p_ (blk_grown (g := gb131) (o := .cells #[.slice none 0 0] 28 (0, 0)) (kb_ BK131) hg (Kd.R_ne HO141.out BK131.out (by decide))) <| p_ (blk_grown (g := gb132) (o := .cells #[.slice (some ad138) x133000_1.length co49] 28 (0, 0)) (kb_ BK132) hg (Kd.R_ne HO141.out BK132.out (by decide))) <| p_ (blk_grown (g := gb134) (o := .cells #[.string x135000_35, .bool ((rd_T36 l0_0 x8_1).f1), .string ((rd_T36 l0_0 x8_1).f2)] 36 (0, 0)) (kb_ BK134) hg (Kd.R_away HO141.out (fun _ hk => hk.2))) <| p_ (hb) <| p_ ((show Kd.C k36 w62 (some ad138) y142.length y142 from by rw [Ny142.out]; exact Kd.C_take (m := (x10_4 : Int).toNat) ((Kd.R_reads' (Kd.R_after (ok := (fun k_ => k_ ≠ gb134)) (raR_ HO_133000) hg hat)).2.2) KL59.out)) <| a_ (ho)
    clear HO_133000 BK130 BK131 BK132 BK134 HB HR145 HO141
    obtain ⟨HO_133000, BK130, BK131, BK132, BK134, HB, HR145, HO148⟩ := z_
    clear ho hb hg hat
    refine hK.out _ _ ⟨(blk_cell BK132.out 0).trans rfl, bk3_ BK134.out⟩ (fun hHeld => ?_)
    clear hK K
    refine nm_ (some 66) ?_
    refine one_ (i := 7) (N := some 68) bq_0 rfl rfl (one_of HT_.out (by kernel_rfl)) (by decide) (fun K hK => ?_)
    refine Kd.R_lit_step k36 _ 36 ?hg (N := 68) ?hd (xs := ([(⟨x135000_35, ((rd_T36 l0_0 x8_1).f1), ((rd_T36 l0_0 x8_1).f2)⟩ : S36)] : List (S36))) (inner := [.string x135000_35, .bool ((rd_T36 l0_0 x8_1).f1), .string ((rd_T36 l0_0 x8_1).f2)]) (ok := fun _ => True) (okp := fun _ => True) ?hr ?hp (fun _ hk => hk) trivial (Below.refl _ _) (Nat.le_refl _) (by simp) ?_; (case hd => rfl); (case hg => rfl); (case hr => first | (go_simp; done) | (go_simp; rfl)); (case hp => exact tq_7)
    intro v150 w63 ho64 hb hg_ hnew_
    clear hg_ hnew_
    (first | rw [← Ny149.out] at ho64 | (simp only [Int.reduceToNat] at ho64; rw [← Ny149.out] at ho64))
    have z_ := p_ (Kd.R_elder' (raR_ HO_133000) (Kd.R_base ho64) hb) <| p_ (Kd.R_elder' (raR_ HO148) (Kd.R_base ho64) hb) <| p_ (Kd.R_lower (Kd.R_newB (Kd.R_new' (Kd.R_new' ho64 (Kd.R_lt (raR_ HO_133000))) (Kd.R_lt (raR_ HO148))) (g := gb134) (o := .cells #[.string x135000_35, .bool ((rd_T36 l0_0 x8_1).f1), .string ((rd_T36 l0_0 x8_1).f2)] 36 (0, 0)) (kb_ BK134)) (below_size th_)) <| p_ (blk_below (kb_ BK130) hb) <| p_ (blk_below (kb_ BK131) hb) <| p_ (blk_below (kb_ BK132) hb) <| p_ (blk_below (kb_ BK134) hb) <| p_ (Kd.C_below tq_10 hb) <| a_ (below_step th_ hb)
    clear HO_133000 HO148 BK130 BK131 BK132 BK134 HR145 HB
    obtain ⟨HO_133000, HO148, HO151, BK130, BK131, BK132, BK134, HR145, HB⟩ := z_
    clear hb ho64
    refine hK.out _ _ ⟨(blk_cell BK132.out 0).trans rfl, bk3_ BK134.out⟩ (fun hHeld => ?_)
    clear hK K
    refine nm_ (some 68) ?_
    exact norm_ tq_13 (hCont (v140, v147, v150) _ ⟨hHeld, (by (with_reducible repeat (first | apply Kd.R_alloc | apply Kd.R_drewN | apply Kd.R_drew)); exact Kd.R_mono HO148.out (fun _ hk => ⟨hk.2, ⟨hk.1.1, hk.1.2⟩⟩)), (by (with_reducible repeat (first | apply Kd.R_alloc | apply Kd.R_drewN | apply Kd.R_drew)); exact Kd.R_mono HO151.out (fun _ hk => ⟨hk.1.2, ⟨hk.1.1.2, hk.2⟩⟩)), tq_48, (kb_ BK130), (kb_ BK131), (kb_ BK132), (kb_ BK134), th_⟩)
   ·skip
    refine Kd.R_lit_step k36 _ 36 ?hg (N := 68) ?hd (xs := ([(⟨x135000_35, ((rd_T36 l0_0 x8_1).f1), ((rd_T36 l0_0 x8_1).f2)⟩ : S36)] : List (S36))) (inner := [.string x135000_35, .bool ((rd_T36 l0_0 x8_1).f1), .string ((rd_T36 l0_0 x8_1).f2)]) (ok := fun _ => True) (okp := fun _ => True) ?hr ?hp (fun _ hk => hk) trivial (Below.refl _ _) (Nat.le_refl _) (by simp) ?_; (case hd => rfl); (case hg => rfl); (case hr => first | (go_simp; done) | (go_simp; rfl)); (case hp => exact tq_7)
    intro v150 w62 ho63 hb hg_ hnew_
    clear hg_ hnew_
    (first | rw [← Ny149.out] at ho63 | (simp only [Int.reduceToNat] at ho63; rw [← Ny149.out] at ho63))
    have z_ := p_ (Kd.R_elder' (raR_ HO_133000) (Kd.R_base ho63) hb) <| p_ (Kd.R_elder' (raR_ HO141) (Kd.R_base ho63) hb) <| p_ (Kd.R_lower (Kd.R_newB (Kd.R_new' (Kd.R_new' ho63 (Kd.R_lt (raR_ HO_133000))) (Kd.R_lt (raR_ HO141))) (g := gb134) (o := .cells #[.string x135000_35, .bool ((rd_T36 l0_0 x8_1).f1), .string ((rd_T36 l0_0 x8_1).f2)] 36 (0, 0)) (kb_ BK134)) (below_size th_)) <| p_ (blk_below (kb_ BK130) hb) <| p_ (blk_below (kb_ BK131) hb) <| p_ (blk_below (kb_ BK132) hb) <| p_ (blk_below (kb_ BK134) hb) <| p_ (Kd.C_below tq_10 hb) <| a_ (below_step th_ hb)
    clear HO_133000 HO141 BK130 BK131 BK132 BK134 HR145 HB
    obtain ⟨HO_133000, HO141, HO151, BK130, BK131, BK132, BK134, HR145, HB⟩ := z_
    clear hb ho63
    refine hK.out _ _ ⟨(blk_cell BK132.out 0).trans rfl, bk3_ BK134.out⟩ (fun hHeld => ?_)
    clear hK K
    refine nm_ (some 68) ?_
    refine one_ (i := 5) (N := some 66) bq_0 rfl rfl (one_of HT_.out (by kernel_rfl)) (by decide) (fun K hK => ?_)
    refine Kd.R_append_rows_step k36 (w0 := w) w.heap.size (by rfl) (.tmp 61) (.tmp 65) 26 36 (.agg #[(.string ⟨#[]⟩), (.bool false), (.string ⟨#[]⟩)]) 40 rfl Tryd.underlying26 info36 rfl (by decide) (by omega) v140 y139 y142 _ _ _ (fun k_ => some k_ ≠ (.slice (some ad138) x133000_1.length co49 : Value).ownBlock ∧ some k_ ≠ (v150 : Value).ownBlock ∧ k_ ≠ gb134) (fun _ => False) rfl rfl ?aO ?aR (fun _ _ h => h) (fun _ h => h.elim) ?aF ?aB ?aS ?aL ?_
    (case aR => exact tq_28)
    (case aB => exact th_)
    (case aF => exact tq_12)
    (case aO => exact (by (with_reducible repeat (first | apply Kd.R_alloc | apply Kd.R_drewN | apply Kd.R_drew)); exact Kd.R_mono HO141.out (fun _ hk => ⟨hk.1.1.2, ⟨hk.2, hk.1.2⟩⟩)))
    (case aS => exact (below_size th_))
    (case aL => have := LMc53.out; omega)
    intro v147 w64 ho hb hg hat
    rw [← Ny146.out] at ho
    have z_ := p_ (Kd.R_after (ok := (fun k_ => some k_ ≠ (v150 : Value).ownBlock ∧ k_ ≠ gb134)) tq_14 hg hat) <| p_ (blk_grown (g := gb130) (o := .cells #[.slice (some ad133) l0_0.length c0_0] 28 (0, 0)) (kb_ BK130) hg (Kd.R_ne HO141.out BK130.out (by decide))) <| p_ (blk_grown (g := gb131) (o := .cells #[.slice none 0 0] 28 (0, 0)) (kb_ BK131) hg (Kd.R_ne HO141.out BK131.out (by decide))) <| p_ (blk_grown (g := gb132) (o := .cells #[.slice (some ad138) x133000_1.length co49] 28 (0, 0)) (kb_ BK132) hg (Kd.R_ne HO141.out BK132.out (by decide))) <| p_ (blk_grown (g := gb134) (o := .cells #[.string x135000_35, .bool ((rd_T36 l0_0 x8_1).f1), .string ((rd_T36 l0_0 x8_1).f2)] 36 (0, 0)) (kb_ BK134) hg (Kd.R_away HO141.out (fun _ hk => hk.1.2))) <| p_ (Kd.R_after (ok := (fun k_ => some k_ ≠ (.slice (some ad138) x133000_1.length co49 : Value).ownBlock ∧ k_ ≠ gb134)) (by (with_reducible repeat (first | apply Kd.R_alloc | apply Kd.R_drewN | apply Kd.R_drew)); exact Kd.R_mono HO151.out (fun _ hk => ⟨⟨hk.1.1.2, hk.2⟩, hk.1.2⟩)) hg hat) <| p_ (hb) <| p_ ((show Kd.C k36 w64 (some ad138) y142.length y142 from by rw [Ny142.out]; exact Kd.C_take (m := (x10_4 : Int).toNat) ((Kd.R_reads' (Kd.R_after (ok := (fun k_ => some k_ ≠ (v150 : Value).ownBlock ∧ k_ ≠ gb134)) tq_14 hg hat)).2.2) KL59.out)) <| a_ (ho)
    clear HO_133000 BK130 BK131 BK132 BK134 HO151 HB HR145 HO141
    obtain ⟨HO_133000, BK130, BK131, BK132, BK134, HO151, HB, HR145, HO148⟩ := z_
    clear ho hb hg hat
    refine hK.out _ _ ⟨(blk_cell BK132.out 0).trans rfl, bk3_ BK134.out⟩ (fun hHeld => ?_)
    clear hK K
    refine nm_ (some 66) ?_
    exact norm_ tq_13 (hCont (v140, v147, v150) _ ⟨hHeld, tq_25, tq_50, tq_16, (kb_ BK130), (kb_ BK131), (kb_ BK132), (kb_ BK134), th_⟩)
  ·skip
   refine Kd.R_lit_step k36 _ 36 ?hg (N := 68) ?hd (xs := ([(⟨x135000_35, ((rd_T36 l0_0 x8_1).f1), ((rd_T36 l0_0 x8_1).f2)⟩ : S36)] : List (S36))) (inner := [.string x135000_35, .bool ((rd_T36 l0_0 x8_1).f1), .string ((rd_T36 l0_0 x8_1).f2)]) (ok := fun _ => True) (okp := fun _ => True) ?hr ?hp (fun _ hk => hk) trivial (Below.refl _ _) (Nat.le_refl _) (by simp) ?_; (case hd => rfl); (case hg => rfl); (case hr => first | (go_simp; done) | (go_simp; rfl)); (case hp => exact tq_7)
   intro v150 w60 ho61 hb hg_ hnew_
   clear hg_ hnew_
   (first | rw [← Ny149.out] at ho61 | (simp only [Int.reduceToNat] at ho61; rw [← Ny149.out] at ho61))
   have z_ := p_ (Kd.R_elder' (raR_ HO_133000) (Kd.R_base ho61) hb) <| p_ (Kd.R_lower (Kd.R_newB (Kd.R_new' ho61 (Kd.R_lt (raR_ HO_133000))) (g := gb134) (o := .cells #[.string x135000_35, .bool ((rd_T36 l0_0 x8_1).f1), .string ((rd_T36 l0_0 x8_1).f2)] 36 (0, 0)) (kb_ BK134)) (below_size th_)) <| p_ (blk_below (kb_ BK130) hb) <| p_ (blk_below (kb_ BK131) hb) <| p_ (blk_below (kb_ BK132) hb) <| p_ (blk_below (kb_ BK134) hb) <| p_ (Kd.C_below tq_10 hb) <| a_ (below_step th_ hb)
   clear HO_133000 BK130 BK131 BK132 BK134 HR145 HB
   obtain ⟨HO_133000, HO151, BK130, BK131, BK132, BK134, HR145, HB⟩ := z_
   clear hb ho61
   refine hK.out _ _ ⟨(blk_cell BK132.out 0).trans rfl, bk3_ BK134.out⟩ (fun hHeld => ?_)
   clear hK K
   refine nm_ (some 68) ?_
   refine one_ (i := 0) (N := some 61) bq_10 rfl rfl (one_of HT_.out (by kernel_rfl)) (by decide) (fun K hK => ?_)
   refine Kd.R_lit_step k36 _ 36 ?hg (N := 61) ?hd (xs := ([] : List (S36))) (inner := []) (ok := fun _ => True) (okp := fun _ => True) ?hr ?hp (fun _ hk => hk) trivial (Below.refl _ _) (Nat.le_refl _) (by simp) ?_; (case hd => rfl); (case hg => rfl); (case hr => first | (go_simp; done) | (go_simp; rfl)); (case hp => exact (Reps.none _ _))
   intro v140 w62 ho63 hb hg_ hnew_
   clear hg_ hnew_
   (first | rw [← Ny139.out] at ho63 | (simp only [Int.reduceToNat] at ho63; rw [← Ny139.out] at ho63))
   have z_ := p_ (Kd.R_elder' (raR_ HO_133000) (Kd.R_base ho63) hb) <| p_ (Kd.R_elder' (raR_ HO151) (Kd.R_base ho63) hb) <| p_ (Kd.R_lower (Kd.R_newB (Kd.R_new' (Kd.R_new' ho63 (Kd.R_lt (raR_ HO_133000))) (Kd.R_lt (raR_ HO151))) (g := gb134) (o := .cells #[.string x135000_35, .bool ((rd_T36 l0_0 x8_1).f1), .string ((rd_T36 l0_0 x8_1).f2)] 36 (0, 0)) (kb_ BK134)) (below_size th_)) <| p_ (blk_below (kb_ BK130) hb) <| p_ (blk_below (kb_ BK131) hb) <| p_ (blk_below (kb_ BK132) hb) <| p_ (blk_below (kb_ BK134) hb) <| p_ (Kd.C_below tq_10 hb) <| a_ (below_step th_ hb)
   clear HO_133000 HO151 BK130 BK131 BK132 BK134 HR145 HB
   obtain ⟨HO_133000, HO151, HO141, BK130, BK131, BK132, BK134, HR145, HB⟩ := z_
   clear hb ho63
   refine hK.out _ _ ⟨(blk_cell BK132.out 0).trans rfl, bk3_ BK134.out⟩ (fun hHeld => ?_)
   clear hK K
   refine nm_ (some 61) ?_
   refine one_ (i := 5) (N := some 66) bq_0 rfl rfl (one_of HT_.out (by kernel_rfl)) (by decide) (fun K hK => ?_)
   refine Kd.R_append_rows_step k36 (w0 := w) w.heap.size (by rfl) (.tmp 61) (.tmp 65) 26 36 (.agg #[(.string ⟨#[]⟩), (.bool false), (.string ⟨#[]⟩)]) 40 rfl Tryd.underlying26 info36 rfl (by decide) (by omega) v140 y139 y142 _ _ _ (fun k_ => some k_ ≠ (.slice (some ad138) x133000_1.length co49 : Value).ownBlock ∧ some k_ ≠ (v150 : Value).ownBlock ∧ k_ ≠ gb134) (fun _ => False) rfl rfl ?aO ?aR (fun _ _ h => h) (fun _ h => h.elim) ?aF ?aB ?aS ?aL ?_
   (case aR => exact tq_28)
   (case aB => exact th_)
   (case aF => exact tq_12)
   (case aO => exact (by (with_reducible repeat (first | apply Kd.R_alloc | apply Kd.R_drewN | apply Kd.R_drew)); exact Kd.R_mono HO141.out (fun _ hk => ⟨hk.1.1.2, ⟨hk.1.2, hk.2⟩⟩)))
   (case aS => exact (below_size th_))
   (case aL => have := LMc53.out; omega)
   intro v147 w64 ho hb hg hat
   rw [← Ny146.out] at ho
   have z_ := p_ (Kd.R_after (ok := (fun k_ => some k_ ≠ (v150 : Value).ownBlock ∧ k_ ≠ gb134)) tq_15 hg hat) <| p_ (blk_grown (g := gb130) (o := .cells #[.slice (some ad133) l0_0.length c0_0] 28 (0, 0)) (kb_ BK130) hg (Kd.R_ne HO141.out BK130.out (by decide))) <| p_ (blk_grown (g := gb131) (o := .cells #[.slice none 0 0] 28 (0, 0)) (kb_ BK131) hg (Kd.R_ne HO141.out BK131.out (by decide))) <| p_ (blk_grown (g := gb132) (o := .cells #[.slice (some ad138) x133000_1.length co49] 28 (0, 0)) (kb_ BK132) hg (Kd.R_ne HO141.out BK132.out (by decide))) <| p_ (blk_grown (g := gb134) (o := .cells #[.string x135000_35, .bool ((rd_T36 l0_0 x8_1).f1), .string ((rd_T36 l0_0 x8_1).f2)] 36 (0, 0)) (kb_ BK134) hg (Kd.R_away HO141.out (fun _ hk => hk.2))) <| p_ (Kd.R_after (ok := (fun k_ => some k_ ≠ (.slice (some ad138) x133000_1.length co49 : Value).ownBlock ∧ k_ ≠ gb134)) (by (with_reducible repeat (first | apply Kd.R_alloc | apply Kd.R_drewN | apply Kd.R_drew)); exact Kd.R_mono HO151.out (fun _ hk => ⟨⟨hk.1.1.2, hk.1.2⟩, hk.2⟩)) hg hat) <| p_ (hb) <| p_ ((show Kd.C k36 w64 (some ad138) y142.length y142 from by rw [Ny142.out]; exact Kd.C_take (m := (x10_4 : Int).toNat) ((Kd.R_reads' (Kd.R_after (ok := (fun k_ => some k_ ≠ (v150 : Value).ownBlock ∧ k_ ≠ gb134)) tq_15 hg hat)).2.2) KL59.out)) <| a_ (ho)
   clear HO_133000 BK130 BK131 BK132 BK134 HO151 HB HR145 HO141
   obtain ⟨HO_133000, BK130, BK131, BK132, BK134, HO151, HB, HR145, HO148⟩ := z_
   clear ho hb hg hat
   refine hK.out _ _ ⟨(blk_cell BK132.out 0).trans rfl, bk3_ BK134.out⟩ (fun hHeld => ?_)
   clear hK K
   refine nm_ (some 66) ?_
   exact norm_ tq_13 (hCont (v140, v147, v150) _ ⟨hHeld, tq_25, tq_50, tq_16, (kb_ BK130), (kb_ BK131), (kb_ BK132), (kb_ BK134), th_⟩)
 rintro ⟨v140, v147, v150⟩ w65 ⟨hS_, h0_, h1_, h2_, h3_, h4_, h5_, h6_, h7_⟩
 have z_ := q_ (⟨h0_⟩ : Aside0 (Kd.R k36 36 w65 w.heap.size (fun k_ => some k_ ≠ (v150 : Value).ownBlock ∧ some k_ ≠ (.slice (some ad138) x133000_1.length co49 : Value).ownBlock ∧ k_ ≠ gb134) v147 y146)) <| q_ (⟨h1_⟩ : Aside0 (Kd.R k36 36 w65 w.heap.size (fun k_ => some k_ ≠ (v147 : Value).ownBlock ∧ some k_ ≠ (.slice (some ad138) x133000_1.length co49 : Value).ownBlock ∧ k_ ≠ gb134) v150 y149)) <| q_ (⟨h2_⟩ : Aside0 (Kd.R k36 36 w65 w.heap.size (fun k_ => some k_ ≠ (v147 : Value).ownBlock ∧ some k_ ≠ (v150 : Value).ownBlock ∧ k_ ≠ gb134) (.slice (some ad138) x133000_1.length co49) x133000_1)) <| q_ (⟨h3_⟩ : Aside0 (w65.heap[gb130]? = some (.cells #[.slice (some ad133) l0_0.length c0_0] 28 (0, 0)))) <| q_ (⟨h4_⟩ : Aside0 (w65.heap[gb131]? = some (.cells #[.slice none 0 0] 28 (0, 0)))) <| q_ (⟨h5_⟩ : Aside0 (w65.heap[gb132]? = some (.cells #[.slice (some ad138) x133000_1.length co49] 28 (0, 0)))) <| q_ (⟨h6_⟩ : Aside0 (w65.heap[gb134]? = some (.cells #[.string x135000_35, .bool ((rd_T36 l0_0 x8_1).f1), .string ((rd_T36 l0_0 x8_1).f2)] 36 (0, 0)))) <| (⟨h7_⟩ : Aside0 (Below w.heap.size w w65))
 clear HO_133000 BK130 BK131 BK132 BK134 HB h0_ h1_ h2_ h3_ h4_ h5_ h6_ h7_
 obtain ⟨HO148, HO151, HO_133000, BK130, BK131, BK132, BK134, HB⟩ := z_
 have hHeld : w65.cell? ⟨gb132, 0, none⟩ = some (.slice (some ad138) x133000_1.length co49) ∧ w65.cell? ⟨gb134, 0, none⟩ = some (.string x135000_35) ∧ w65.cell? ⟨gb134, 1, none⟩ = some (.bool ((rd_T36 l0_0 x8_1).f1)) ∧ w65.cell? ⟨gb134, 2, none⟩ = some (.string ((rd_T36 l0_0 x8_1).f2)) := hS_
 obtain ⟨Ao67, co67, eo67⟩ := Kd.R_slice HO151.out
 (first | subst eo67 | (injection eo67 with f1_ f2_ f3_; have f4_ := f1_.symm; have f5_ := f3_.symm; clear f1_ f2_ f3_; subst f4_; subst f5_))
 refine norm_ (a' := ?_) ?_ ?_
 rotate_left
 ·simp only [putAll, Act.put, List.setIfInBounds_toArray, List.set_cons_zero, List.set_cons_succ]
  rfl
 refine one_ (i := 8) (N := some 69) bq_13 rfl rfl (one_of HT_.out (by kernel_rfl)) (by decide) (fun K hK => ?_)
 refine Kd.R_append_rows_step k36 (w0 := w) w.heap.size (by rfl) (.tmp 66) (.tmp 68) 26 36 (.agg #[(.string ⟨#[]⟩), (.bool false), (.string ⟨#[]⟩)]) 40 rfl Tryd.underlying26 info36 rfl (by decide) (by omega) v147 y146 y149 _ _ _ (fun k_ => some k_ ≠ (.slice (some ad138) x133000_1.length co49 : Value).ownBlock ∧ some k_ ≠ (.slice Ao67 y149.length co67 : Value).ownBlock ∧ k_ ≠ gb134) (fun _ => False) rfl rfl ?aO ?aR (fun _ _ h => h) (fun _ h => h.elim) ?aF ?aB ?aS ?aL ?_
 (case aR => repeat (first | exact (Kd.R_reads' HO151.out).2.2 | (with_reducible refine Kd.C_alloc ?_ _) | (with_reducible refine Kd.C_drewN ?_ _) | (with_reducible refine Kd.C_drew ?_)))
 (case aB => exact th_)
 (case aF => exact tq_12)
 (case aO => exact tq_25)
 (case aS => exact (below_size th_))
 (case aL => have := LMc54.out; omega)
 intro v153 w66 ho hb hg hat
 rw [← Ny152.out] at ho
 have z_ := p_ (Kd.R_after (ok := (fun k_ => some k_ ≠ (.slice Ao67 y149.length co67 : Value).ownBlock ∧ k_ ≠ gb134)) tq_47 hg hat) <| p_ (blk_grown (g := gb130) (o := .cells #[.slice (some ad133) l0_0.length c0_0] 28 (0, 0)) (kb_ BK130) hg (Kd.R_ne HO148.out BK130.out (by decide))) <| p_ (blk_grown (g := gb131) (o := .cells #[.slice none 0 0] 28 (0, 0)) (kb_ BK131) hg (Kd.R_ne HO148.out BK131.out (by decide))) <| p_ (blk_grown (g := gb132) (o := .cells #[.slice (some ad138) x133000_1.length co49] 28 (0, 0)) (kb_ BK132) hg (Kd.R_ne HO148.out BK132.out (by decide))) <| p_ (blk_grown (g := gb134) (o := .cells #[.string x135000_35, .bool ((rd_T36 l0_0 x8_1).f1), .string ((rd_T36 l0_0 x8_1).f2)] 36 (0, 0)) (kb_ BK134) hg (Kd.R_away HO148.out (fun _ hk => hk.2.2))) <| p_ (Kd.R_after (ok := (fun k_ => some k_ ≠ (.slice (some ad138) x133000_1.length co49 : Value).ownBlock ∧ k_ ≠ gb134)) (by (with_reducible repeat (first | apply Kd.R_alloc | apply Kd.R_drewN | apply Kd.R_drew)); exact Kd.R_mono HO151.out (fun _ hk => ⟨⟨hk.2.1, hk.2.2⟩, hk.1⟩)) hg hat) <| p_ (hb) <| a_ (ho)
 clear HO_133000 BK130 BK131 BK132 BK134 HO151 HB HO148
 obtain ⟨HO_133000, BK130, BK131, BK132, BK134, HO151, HB, HO154⟩ := z_
 clear ho hb hg hat
 refine hK.out _ _ ⟨(blk_cell BK132.out 0).trans rfl, bk3_ BK134.out⟩ (fun hHeld => ?_)
 clear hK K
 refine nm_ (some 69) ?_
 refine yr_ 9 11 bq_14 HT_ ?_
 refine done_ (done_of HT_.out (by kernel_rfl)) ?_
 obtain ⟨n132_130, n130_132, n132_131, n131_132, n132_134, n134_132⟩ := an6_ NB132_130 NB130_132 NB132_131 NB131_132 NB132_134 NB134_132
 have hcz71_0 := bc_ BK132.out 0
 have hfz71_0 := blk_frozen BK132.out 0
 have q72 : (x10_4 : Int) ≤ ((x133000_1.length : Int) : Int) := of_decide_eq_true tq_1
 obtain ⟨i072, hi072, _, hsz72, _⟩ := info_parts info36
 have hroom72 : x133000_1.length ≤ co49 := (Kd.R_reads' HO_133000.out).2.1
 have hC72 : Kd.C k36 _ (some ad138) x133000_1.length x133000_1 := (Kd.R_reads' HO_133000.out).2.2
 have q072 : (0 : Int) ≤ (x10_4 : Int) := of_decide_eq_true tq_1
 have hcut72 := cut_from (P := Tryd.prog) 26 36 .i64 Tryd.underlying26 hi072 3 hsz72 (some ad138) x133000_1.length co49 x10_4 q072 q72
 have hr72 := Kd.C_drop (m := (x10_4 : Int).toNat) (c := co49) hC72 (by omega) hroom72
 obtain ⟨A72, hA72⟩ : ∃ A1, A1 = (if co49 = (x10_4 : Int).toNat then (some ad138) else ((some ad138) : Option Addr).map (·.add ((x10_4 : Int).toNat * 3))) := ⟨_, rfl⟩
 obtain ⟨c72, hc72⟩ : ∃ c1, c1 = co49 - (x10_4 : Int).toNat := ⟨_, rfl⟩
 have hy72 : y155.length = x133000_1.length - (x10_4 : Int).toNat := (by rw [Ny155.out, List.length_drop] <;> omega)
 rw [show (x133000_1).drop (x10_4 : Int).toNat = y155 from Ny155.out.symm] at hr72
 replace hr72 : Kd.C k36 _ A72 y155.length y155 := (by rw [hA72]; exact hr72)
 rw [← hy72, ← hA72, ← hc72] at hcut72
 have HR158 := Aside0.mk hr72
 have HC158 := Aside0.mk (show y155.length ≤ c72 from by rw [hy72, hc72]; exact Nat.sub_le_sub_right hroom72 _)
 clear hr72 hC72 hroom72 hi072 hsz72 hc72
 have KY72 := Aside0.mk hy72
 have KA72 := Aside0.mk hA72
 clear hy72 hA72
 have KL72 := Aside0.mk (show (x10_4 : Int).toNat ≤ x133000_1.length from by omega)
 replace q72 := eq_true q72
 try go_wp2_with (first | ((with_reducible refine gate_builtin (b := .append) (xs := #[.tmp 70, .tmp 74]) rfl ?_); at_builtin; refine Kd.R_append_rows k36 (w0 := w) w.heap.size rfl (.tmp 70) (.tmp 74) 26 36 (.agg #[(.string ⟨#[]⟩), (.bool false), (.string ⟨#[]⟩)]) 40 rfl Tryd.underlying26 info36 rfl (by decide) (by omega) v153 y152 y155 _ _ _ (fun k_ => some k_ ≠ (.slice (some ad138) x133000_1.length co49 : Value).ownBlock ∧ some k_ ≠ (.slice Ao67 y149.length co67 : Value).ownBlock ∧ k_ ≠ gb134) (fun _ => False) rfl rfl ?aO ?aR (fun _ _ h => h) (fun _ h => h.elim) ?aF ?aB ?aS ?aL ?_; (case aR => repeat (first | exact (by repeat (first | (with_reducible exact HR158.out) | (with_reducible refine Kd.C_alloc ?_ _) | (with_reducible refine Kd.C_drewN ?_ _) | (with_reducible refine Kd.C_drew ?_) | exact HR158.out)) | (with_reducible refine Kd.C_alloc ?_ _) | (with_reducible refine Kd.C_drewN ?_ _) | (with_reducible refine Kd.C_drew ?_))); (case aB => exact th_); (case aF => exact tq_12); (case aO => exact (raR_ HO154)); (case aS => exact (below_size th_)); (case aL => have := LMc57.out; omega); intro v160 w73 ho hb hg hat; rw [← Ny159.out] at ho; have z_ := p_ (Kd.R_after (ok := (fun k_ => some k_ ≠ (.slice Ao67 y149.length co67 : Value).ownBlock ∧ k_ ≠ gb134)) (raR_ HO_133000) hg hat) <| p_ (blk_grown (g := gb130) (o := .cells #[.slice (some ad133) l0_0.length c0_0] 28 (0, 0)) (kb_ BK130) hg (Kd.R_ne HO154.out BK130.out (by decide))) <| p_ (blk_grown (g := gb131) (o := .cells #[.slice none 0 0] 28 (0, 0)) (kb_ BK131) hg (Kd.R_ne HO154.out BK131.out (by decide))) <| p_ (blk_grown (g := gb132) (o := .cells #[.slice (some ad138) x133000_1.length co49] 28 (0, 0)) (kb_ BK132) hg (Kd.R_ne HO154.out BK132.out (by decide))) <| p_ (blk_grown (g := gb134) (o := .cells #[.string x135000_35, .bool ((rd_T36 l0_0 x8_1).f1), .string ((rd_T36 l0_0 x8_1).f2)] 36 (0, 0)) (kb_ BK134) hg (Kd.R_away HO154.out (fun _ hk => hk.2.2))) <| p_ (Kd.R_after (ok := (fun k_ => some k_ ≠ (.slice (some ad138) x133000_1.length co49 : Value).ownBlock ∧ k_ ≠ gb134)) (raR_ HO151) hg hat) <| p_ (hb) <| p_ ((show Kd.C k36 w73 A72 y155.length y155 from by rw [Ny155.out, KA72.out]; exact Kd.C_drop (m := (x10_4 : Int).toNat) (c := co49) ((Kd.R_reads' (Kd.R_after (ok := (fun k_ => some k_ ≠ (.slice Ao67 y149.length co67 : Value).ownBlock ∧ k_ ≠ gb134)) (raR_ HO_133000) hg hat)).2.2) KL72.out ((Kd.R_reads' (Kd.R_after (ok := (fun k_ => some k_ ≠ (.slice Ao67 y149.length co67 : Value).ownBlock ∧ k_ ≠ gb134)) (raR_ HO_133000) hg hat)).2.1))) <| a_ (ho); clear HO_133000 BK130 BK131 BK132 BK134 HO151 HB HR158 HO154; obtain ⟨HO_133000, BK130, BK131, BK132, BK134, HO151, HB, HR158, HO161⟩ := z_; clear ho hb hg hat; obtain ⟨Ao74, co74, eo74⟩ := Kd.R_slice HO161.out; subst eo74; have hcz75_0 := bc_ BK132.out 0; have hfz75_0 := blk_frozen BK132.out 0))
 go_roundg k4
 case measure => have := HK1.out; have := HJ15.out; have := HJ35.out; have := HK4.out; omega
 case rel => exact ⟨(wrap64 (x8_1 + 1)), (y159), (.slice Ao74 y159.length co74), tq_4, H', ⟨tq_52⟩, ⟨(by (with_reducible repeat (first | apply Kd.R_alloc | apply Kd.R_drewN | apply Kd.R_drew)); exact Kd.R_mono (rR_ (Kd.R_types HO161.out BK132.out (by decide))) (fun _ hk => trivial))⟩, ⟨tb_⟩, ⟨tb_⟩, ⟨tb_⟩, ⟨th_⟩⟩

end Go.Proofs.YtmddplifammohaaDoor.PFnExactMovedItems
