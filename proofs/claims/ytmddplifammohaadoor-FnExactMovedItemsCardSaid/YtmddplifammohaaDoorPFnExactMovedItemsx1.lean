/- Contracts of Go functions, written by a program of ours over the print of the kit: each says that the call returns what the Lean function beside it computes. Conditions: as each theorem states them. -/
import Derived.Test.YtmddplifammohaaDoorPkFnExactMovedItems
import Derived.Test.YtmddplifammohaaDoorPFnExactMovedItemsx0
namespace Go.Proofs.YtmddplifammohaaDoor.PFnExactMovedItems
open Go.RowKit Go.Proofs.YtmddplifammohaaDoorW.PrintWords Go.Proofs.YtmddplifammohaaDoorW.PrintLast Go.Proofs.YtmddplifammohaaDoorW.PrintMore
attribute [local go_sem] max2_int min2_int max_two min_two max_three min_three max_four min_four   -- for this text's walks alone
set_option linter.unusedVariables false
set_option linter.unusedSimpArgs false

/-! ### laws_szItem: function 22 -/
def laws_szItem.f (a0_0 : ByteArray) (a0_1 : Bool) (a0_2 : ByteArray) (a1 : Int) : Option (Int) := if (wrap64 (a1 - (a0_0.size : Int))) < 0 then (some (-1)) else (if (wrap64 ((wrap64 (a1 - (a0_0.size : Int))) - (a0_2.size : Int))) < 0 then (some (-1)) else (some (wrap64 ((wrap64 (a1 - (a0_0.size : Int))) - (a0_2.size : Int)))))
set_option maxHeartbeats 8000000 in
set_option maxRecDepth 100000 in
theorem laws_szItem.calls (a0_0 : ByteArray) (a0_1 : Bool) (a0_2 : ByteArray) (a1 : Int) (r : Int) (w : World) (h : laws_szItem.f a0_0 a0_1 a0_2 a1 = some r) :
  Calls Tryd.prog 22 #[.agg #[.string a0_0, .bool a0_1, .string a0_2], .int .i64 a1] w fun e w' => e = .returned (.int .i64 r) ∧ Below w.heap.size w w' := by
 have hu46 := Tryd.underlying46
 have HB := Aside0.mk (Below.refl w.heap.size w)
 unfold laws_szItem.f at h
 have H := h
 clear h
 have HC3 := Aside0.mk H
 clear H
 go_enter Tryd.func22, Tryd.ntmps22
 go_upto_if 11 with (first | ((with_reducible refine gate_dst (N := 2) rfl ?_); refine be_ 2 (cs := #[.string a0_0, .bool a0_1, .string a0_2]) 46 ?_; intro gb101 hg w4 hbox hb; have z_ := bx0_ th_ hb hbox hg; clear HB; obtain ⟨HB, BK101, GW101, GE101⟩ := z_; clear hb hbox hg; obtain ⟨hcz5_0, hcz5_1, hcz5_2⟩ := bk3_ BK101.out; obtain ⟨hfz5_0, hfz5_1, hfz5_2⟩ := bf3_ BK101.out))
 (try simp only [Act.put, List.setIfInBounds_toArray, List.set_cons_zero, List.set_cons_succ])
 (try clear hcz5_0 hcz5_1 hcz5_2)
 (try clear hfz5_0 hfz5_1 hfz5_2)
 have H := HC3.out
 clear HC3
 by_cases c6 : (wrap64 (a1 - (a0_0.size : Int))) < 0
 ·rw [if_pos c6] at H
  have c6b0 := decide_eq_true c6
  clear c6
  (first | rw [c6b0] | (simp only [i64_w, i32_w]; rw [c6b0]) | skip)
  obtain rfl := Option.some.inj H
  go_wp2
  go_ret
  exact ⟨tq_3, th_⟩
 rw [if_neg c6] at H
 have c6b0 := decide_eq_false c6
 clear c6
 (first | rw [c6b0] | (simp only [i64_w, i32_w]; rw [c6b0]) | skip)
 have HC7 := Aside0.mk H
 clear H
 obtain ⟨hcz8_0, hcz8_1, hcz8_2⟩ := bk3_ BK101.out
 obtain ⟨hfz8_0, hfz8_1, hfz8_2⟩ := bf3_ BK101.out
 go_upto_if 18 with (fail)
 (try clear hcz8_0 hcz8_1 hcz8_2)
 (try clear hfz8_0 hfz8_1 hfz8_2)
 have H := HC7.out
 clear HC7
 by_cases c9 : (wrap64 ((wrap64 (a1 - (a0_0.size : Int))) - (a0_2.size : Int))) < 0
 ·rw [if_pos c9] at H
  have c9b0 := decide_eq_true c9
  clear c9
  (first | rw [c9b0] | (simp only [i64_w, i32_w]; rw [c9b0]) | skip)
  obtain rfl := Option.some.inj H
  go_wp2
  go_ret
  exact ⟨tq_3, th_⟩
 rw [if_neg c9] at H
 have c9b0 := decide_eq_false c9
 clear c9
 (first | rw [c9b0] | (simp only [i64_w, i32_w]; rw [c9b0]) | skip)
 obtain rfl := Option.some.inj H
 go_wp2
 go_ret
 exact ⟨tq_3, th_⟩

/-! ### laws_szItemS: function 11 -/
def laws_szItemS.l0 : Nat → List (S46) → Int → Int → Option (Int)
 | 0, _, _, _ => none
 | k + 1, x0, x1, x5 => if x5 < (x0.length : Int) then (if 0 ≤ x5 then ((laws_szItem.f ((rd_T46 x0 x5).f0) ((rd_T46 x0 x5).f1) ((rd_T46 x0 x5).f2) x1).bind fun t103 => (if t103 < 0 then (some (-1)) else (laws_szItemS.l0 k x0 t103 (wrap64 (x5 + 1))))) else (none)) else (some x1)
def laws_szItemS.f (k : Nat) (l0 : List (S46)) (a1 : Int) : Option (Int) := if (wrap64 (a1 - (l0.length : Int))) < 0 then (some (-1)) else (laws_szItemS.l0 k l0 (wrap64 (a1 - (l0.length : Int))) 0)
theorem laws_szItemS.mono_l : ∀ k, (∀ y0 y1 y2, LeO (laws_szItemS.l0 k y0 y1 y2) (laws_szItemS.l0 (k + 1) y0 y1 y2))
 | 0 => fun _ _ _ r h => by simp [laws_szItemS.l0] at h
 | k + 1 => by
  have ih0 := laws_szItemS.mono_l k
  ·intro y0 y1 y2
   unfold laws_szItemS.l0
   exact mo_0
theorem laws_szItemS.mono : ∀ a0 a1 k, LeO (laws_szItemS.f k a0 a1) (laws_szItemS.f (k + 1) a0 a1) := by
 intro a0 a1 k
 have ih0 := laws_szItemS.mono_l k
 unfold laws_szItemS.f
 repeat' first
   | (with_reducible exact ih0 ..)
   | (with_reducible exact LeO.refl _)
   | (with_reducible exact LeO.none _)
   | (with_reducible refine LeO.ite ?_ ?_)
   | (with_reducible refine LeO.bind ?_ (fun _ => ?_))
   | exact ih0 ..
   | exact LeO.none _
   | refine LeO.ite ?_ ?_
   | refine LeO.bind ?_ (fun _ => ?_)
set_option maxHeartbeats 8000000 in
set_option maxRecDepth 100000 in
theorem laws_szItemS.calls (k : Nat) (A0 : Option Addr) (c0 : Nat) (l0 : List (S46)) (a1 : Int) (r : Int) (w : World) (hr0 : Kd.C k46 w A0 l0.length l0) (hc0 : l0.length ≤ c0) (h : laws_szItemS.f k l0 a1 = some r) :
  Calls Tryd.prog 11 #[.slice A0 l0.length c0, .int .i64 a1] w fun e w' => e = .returned (.int .i64 r) ∧ Below w.heap.size w w' := by
 have hu46 := Tryd.underlying46
 have HR0 := Aside0.mk hr0
 have HC0 := Aside0.mk hc0
 clear hr0 hc0
 have HB := Aside0.mk (Below.refl w.heap.size w)
 unfold laws_szItemS.f at h
 have H := h
 clear h
 by_cases c3 : (wrap64 (a1 - (l0.length : Int))) < 0
 ·rw [if_pos c3] at H
  have c3b0 := decide_eq_true c3
  clear c3
  obtain rfl := Option.some.inj H
  go_enter Tryd.func11, Tryd.ntmps11
  go_wp2
  go_ret
  exact ⟨tq_3, th_⟩
 rw [if_neg c3] at H
 have c3b0 := decide_eq_false c3
 clear c3
 have H' := Aside0.mk H
 clear H
 go_enter Tryd.func11, Tryd.ntmps11
 go_wp2
 go_loopg [1, 5] k (fun kq v1 v5 w' => ∃ (x1_1 : Int) (x5_1 : Int), v1 = .int .i64 x1_1 ∧ v5 = .int .i64 x5_1 ∧ Aside0 (laws_szItemS.l0 kq l0 x1_1 x5_1 = some r) ∧ Aside0 (kq ≤ k) ∧ Aside0 (Below w.heap.size w w'))
 case atStart => exact ⟨(wrap64 (a1 - (l0.length : Int))), (0), tq_4, tq_4, H', ⟨Nat.le_refl _⟩, ⟨th_⟩⟩
 case round =>
 clear H'
 try clear c1; try clear p2; try clear c3; try clear c3b0
 obtain ⟨x1_1, x5_1, rfl, rfl, HA, HK1, HB⟩ := hrel
 cases gk with
 | zero => exact absurd HA.out (by simp [laws_szItemS.l0])
 | succ k1 =>
 have H := HA.out
 clear HA
 simp only [laws_szItemS.l0] at H
 by_cases c4 : x5_1 < (l0.length : Int)
 rotate_left
 ·rw [if_neg c4] at H
  have c4b0 := decide_eq_false c4
  clear c4
  obtain rfl := Option.some.inj H
  go_wp2
  go_ret
  exact ⟨tq_3, th_⟩
 rw [if_pos c4] at H
 have c4b0 := decide_eq_true c4
 clear c4
 obtain ⟨c5, H⟩ := fc_ H
 have c5b0 := decide_eq_true c5
 clear c5
 obtain ⟨t103, A6, H⟩ := bd_ H
 have HC7 := Aside0.mk H
 clear H
 have p102 : 0 ≤ (x5_1 : Int) := of_decide_eq_true tq_1
 have q102 : x5_1 < (l0.length : Int) := of_decide_eq_true tq_1
 obtain ⟨ad102, e102, hx102_0, hx102_1, hx102_2⟩ := at_T46 HR0.out x5_1 p102 q102
 cases e102
 replace hx102_0 := hx_ HB.out hx102_0
 replace hx102_1 := hx_ HB.out hx102_1
 replace hx102_2 := hx_ HB.out hx102_2
 replace p102 := eq_true p102
 replace q102 := eq_true q102
 go_upto_if 25 with (first | ((with_reducible refine gate_callee (f := 22) rfl ?_); refine goesL_ (some 23) rfl rfl Tryd.func22 (by kernel_rfl) rfl #[.agg #[.string ((rd_T46 l0 x5_1).f0), .bool ((rd_T46 l0 x5_1).f1), .string ((rd_T46 l0 x5_1).f2)], .int .i64 x1_1] rfl tq_2 ?_; (with_reducible refine (laws_szItem.calls ((rd_T46 l0 x5_1).f0) ((rd_T46 l0 x5_1).f1) ((rd_T46 l0 x5_1).f2) x1_1 t103 _ A6.out).mono ?_); rintro e w8 ⟨rfl, hb⟩; refine ⟨_, rfl, ?_⟩; have n0_ := Aside0.mk (below_step th_ hb); clear HB; have HB := n0_; clear n0_; (try clear hb)))
 (try simp only [Act.put, List.setIfInBounds_toArray, List.set_cons_zero, List.set_cons_succ])
 (try clear hx102_0 hx102_1 hx102_2)
 have H := HC7.out
 clear HC7
 by_cases c9 : t103 < 0
 ·rw [if_pos c9] at H
  have c9b0 := decide_eq_true c9
  clear c9
  (first | rw [c9b0] | (simp only [i64_w, i32_w]; rw [c9b0]) | skip)
  obtain rfl := Option.some.inj H
  go_wp2
  go_ret
  exact ⟨tq_3, th_⟩
 rw [if_neg c9] at H
 have c9b0 := decide_eq_false c9
 clear c9
 (first | rw [c9b0] | (simp only [i64_w, i32_w]; rw [c9b0]) | skip)
 have H' := Aside0.mk H
 clear H
 go_wp2
 go_roundg k1
 case measure => have := HK1.out; omega
 case rel => exact ⟨(t103), (wrap64 (x5_1 + 1)), tq_4, tq_4, H', ⟨tq_22⟩, ⟨th_⟩⟩

/-! ### laws_szView: function 4 -/
def laws_szView.f (k : Nat) (l0_0 : List (S46)) (a1 : Int) : Option (Int) := (laws_szItemS.f k l0_0 a1).bind fun t105 => (if t105 < 0 then (some (-1)) else (some t105))
theorem laws_szView.mono : ∀ a0 a1 k, LeO (laws_szView.f k a0 a1) (laws_szView.f (k + 1) a0 a1) := by
 intro a0 a1 k
 unfold laws_szView.f
 repeat' first
   | (with_reducible exact laws_szItemS.mono ..)
   | (with_reducible exact LeO.refl _)
   | (with_reducible exact LeO.none _)
   | (with_reducible refine LeO.ite ?_ ?_)
   | (with_reducible refine LeO.bind ?_ (fun _ => ?_))
   | exact laws_szItemS.mono ..
   | exact LeO.none _
   | refine LeO.ite ?_ ?_
   | refine LeO.bind ?_ (fun _ => ?_)
set_option maxHeartbeats 8000000 in
set_option maxRecDepth 100000 in
theorem laws_szView.calls (k : Nat) (A0_0 : Option Addr) (c0_0 : Nat) (l0_0 : List (S46)) (a1 : Int) (r : Int) (w : World) (hr0_0 : Kd.C k46 w A0_0 l0_0.length l0_0) (hc0_0 : l0_0.length ≤ c0_0) (h : laws_szView.f k l0_0 a1 = some r) :
  Calls Tryd.prog 4 #[.agg #[.slice A0_0 l0_0.length c0_0], .int .i64 a1] w fun e w' => e = .returned (.int .i64 r) ∧ Below w.heap.size w w' := by
 have hu24 := Tryd.underlying24
 have HR0_0 := Aside0.mk hr0_0
 have HC0_0 := Aside0.mk hc0_0
 clear hr0_0 hc0_0
 have HB := Aside0.mk (Below.refl w.heap.size w)
 unfold laws_szView.f at h
 have H := h
 clear h
 obtain ⟨t105, A3, H⟩ := bd_ H
 have HC4 := Aside0.mk H
 clear H
 go_enter Tryd.func4, Tryd.ntmps4
 go_upto_if 10 with (first | ((with_reducible refine gate_dst (N := 2) rfl ?_); refine be_ 2 (cs := #[.slice A0_0 l0_0.length c0_0]) 24 ?_; intro gb104 hg w5 hbox hb; have z_ := bx0_ th_ hb hbox hg; clear HB; obtain ⟨HB, BK104, GW104, GE104⟩ := z_; clear hb hbox hg; have hcz6_0 := bc_ BK104.out 0; have hfz6_0 := blk_frozen BK104.out 0) | ((with_reducible refine gate_callee (f := 11) rfl ?_); refine goesL_ (some 8) rfl rfl Tryd.func11 (by kernel_rfl) rfl #[.slice A0_0 l0_0.length c0_0, .int .i64 a1] rfl tq_2 ?_; (with_reducible refine (laws_szItemS.calls k _ _ l0_0 a1 t105 _ ?side1 ?side2 A3.out).mono ?_); (case side1 => exact tq_5); (case side2 => exact HC0_0.out); rintro e w7 ⟨rfl, hb⟩; refine ⟨_, rfl, ?_⟩; have z_ := bw1_ (kb_ BK104) th_ hb; clear BK104 HB; obtain ⟨BK104, HB⟩ := z_; (try clear hb)))
 (try simp only [Act.put, List.setIfInBounds_toArray, List.set_cons_zero, List.set_cons_succ])
 (try clear hcz6_0)
 (try clear hfz6_0)
 have H := HC4.out
 clear HC4
 by_cases c8 : t105 < 0
 ·rw [if_pos c8] at H
  have c8b0 := decide_eq_true c8
  clear c8
  (first | rw [c8b0] | (simp only [i64_w, i32_w]; rw [c8b0]) | skip)
  obtain rfl := Option.some.inj H
  go_wp2
  go_ret
  exact ⟨tq_3, th_⟩
 rw [if_neg c8] at H
 have c8b0 := decide_eq_false c8
 clear c8
 (first | rw [c8b0] | (simp only [i64_w, i32_w]; rw [c8b0]) | skip)
 obtain rfl := Option.some.inj H
 go_wp2
 go_ret
 exact ⟨tq_3, th_⟩

/-! ### spec_l01In: function 32 -/
def spec_l01In.f (a0 : Int) (a1 : Int) (a2 : Int) : Option (Bool) := if a0 ≥ a1 then (some (decide (a0 ≤ a2))) else (some false)
set_option maxHeartbeats 8000000 in
set_option maxRecDepth 100000 in
theorem spec_l01In.calls (a0 : Int) (a1 : Int) (a2 : Int) (r : Bool) (w : World) (h : spec_l01In.f a0 a1 a2 = some r) :
  Calls Tryd.prog 32 #[.int .i64 a0, .int .i64 a1, .int .i64 a2] w fun e w' => e = .returned (.bool r) ∧ Drawn0 w w' := by
 unfold spec_l01In.f at h
 have H := h
 clear h
 by_cases c4 : a0 ≥ a1
 ·rw [if_pos c4] at H
  have c4b0 := decide_eq_true c4
  clear c4
  obtain rfl := Option.some.inj H
  go_enter Tryd.func32, Tryd.ntmps32
  go_wp2
  go_ret
  exact ⟨tq_4, tq_6⟩
 rw [if_neg c4] at H
 have c4b0 := decide_eq_false c4
 clear c4
 obtain rfl := Option.some.inj H
 go_enter Tryd.func32, Tryd.ntmps32
 go_wp2
 go_ret
 exact ⟨tq_4, tq_6⟩

/-! ### spec_SplitPath: function 23 -/
mutual
def spec_SplitPath.j0 : Nat → ByteArray → List ByteArray → Bool → Option (List ByteArray × Int)
 | 0, _, _, _ => none
 | k + 1, x0, x4, x22 => if x22 = true then (some (x4, 1)) else (if x0.toList = ([47] : List UInt8) then (some (x4, 0)) else (spec_SplitPath.l0 k x0 x4 (([] : List ByteArray)) false 1 1))
def spec_SplitPath.l0 : Nat → ByteArray → List ByteArray → List ByteArray → Bool → Int → Int → Option (List ByteArray × Int)
 | 0, _, _, _, _, _, _ => none
 | k + 1, x0, x4, x5, x6, x7, x8 => if x8 ≤ (x0.size : Int) then (if x8 < (x0.size : Int) then (if 0 ≤ x8 then (spec_SplitPath.j2 k x0 x4 x5 x6 x7 x8 ((bt x0 x8) != 47)) else (none)) else (spec_SplitPath.j2 k x0 x4 x5 x6 x7 x8 false)) else (if x6 = true then (some (x4, 2)) else (some (x5, 0)))
def spec_SplitPath.j2 : Nat → ByteArray → List ByteArray → List ByteArray → Bool → Int → Int → Bool → Option (List ByteArray × Int)
 | 0, _, _, _, _, _, _, _ => none
 | k + 1, x0, x4, x5, x6, x7, x8, x43 => if x43 = true then (if 0 ≤ x8 then (if x8 < (x0.size : Int) then ((spec_l01In.f (wrap64 (bt x0 x8)) 97 122).bind fun t112 => (if t112 = true then (spec_SplitPath.j3 k x0 x4 x5 x6 x7 x8 false) else ((spec_l01In.f (wrap64 (bt x0 x8)) 48 57).bind fun t113 => (spec_SplitPath.j3 k x0 x4 x5 x6 x7 x8 (!t113))))) else (none)) else (none)) else (if x7 = x8 then (some (x4, 1)) else (if x6 = true then (if 0 ≤ x7 then (if x7 ≤ x8 then (if x8 ≤ (x0.size : Int) then (if x5.length < 8796093022208 then (spec_SplitPath.l0 k x0 x4 (x5 ++ [x0.extract (x7 : Int).toNat (x8 : Int).toNat]) true (wrap64 (x8 + 1)) (wrap64 (x8 + 1))) else (none)) else (none)) else (none)) else (none)) else (if 0 ≤ x7 then (if x7 ≤ x8 then (if x8 ≤ (x0.size : Int) then (if x5.length < 8796093022208 then (spec_SplitPath.l0 k x0 x4 (x5 ++ [x0.extract (x7 : Int).toNat (x8 : Int).toNat]) (decide ((wrap64 (x8 - x7)) > 7)) (wrap64 (x8 + 1)) (wrap64 (x8 + 1))) else (none)) else (none)) else (none)) else (none))))
def spec_SplitPath.j3 : Nat → ByteArray → List ByteArray → List ByteArray → Bool → Int → Int → Bool → Option (List ByteArray × Int)
 | 0, _, _, _, _, _, _, _ => none
 | k + 1, x0, x4, x5, x6, x7, x8, x57 => if x57 = true then (some (x4, 1)) else (spec_SplitPath.l0 k x0 x4 x5 x6 x7 (wrap64 (x8 + 1)))
end
def spec_SplitPath.f (k : Nat) (a0 : ByteArray) : Option (List ByteArray × Int) := (some (([] : List ByteArray) : List ByteArray)).bind fun y106 => (if (a0.size : Int) > 60 then (spec_SplitPath.j0 k a0 y106 true) else (if (a0.size : Int) = 0 then (spec_SplitPath.j0 k a0 y106 true) else (if 0 < (a0.size : Int) then (spec_SplitPath.j0 k a0 y106 ((bt a0 0) != 47)) else (none))))
theorem spec_SplitPath.mono_l : ∀ k, (∀ y0 y1 y2, LeO (spec_SplitPath.j0 k y0 y1 y2) (spec_SplitPath.j0 (k + 1) y0 y1 y2)) ∧ (∀ y0 y1 y2 y3 y4 y5, LeO (spec_SplitPath.l0 k y0 y1 y2 y3 y4 y5) (spec_SplitPath.l0 (k + 1) y0 y1 y2 y3 y4 y5)) ∧ (∀ y0 y1 y2 y3 y4 y5 y6, LeO (spec_SplitPath.j2 k y0 y1 y2 y3 y4 y5 y6) (spec_SplitPath.j2 (k + 1) y0 y1 y2 y3 y4 y5 y6)) ∧ (∀ y0 y1 y2 y3 y4 y5 y6, LeO (spec_SplitPath.j3 k y0 y1 y2 y3 y4 y5 y6) (spec_SplitPath.j3 (k + 1) y0 y1 y2 y3 y4 y5 y6))
 | 0 => ⟨fun _ _ _ r h => by simp [spec_SplitPath.j0] at h, fun _ _ _ _ _ _ r h => by simp [spec_SplitPath.l0] at h, fun _ _ _ _ _ _ _ r h => by simp [spec_SplitPath.j2] at h, fun _ _ _ _ _ _ _ r h => by simp [spec_SplitPath.j3] at h⟩
 | k + 1 => by
  obtain ⟨ih0, ih1, ih2, ih3⟩ := spec_SplitPath.mono_l k
  refine ⟨?_, ?_, ?_, ?_⟩
  ·intro y0 y1 y2
   unfold spec_SplitPath.j0
   exact mo_1
  ·intro y0 y1 y2 y3 y4 y5
   unfold spec_SplitPath.l0
   exact mo_1
  ·intro y0 y1 y2 y3 y4 y5 y6
   unfold spec_SplitPath.j2
   exact mo_1
  ·intro y0 y1 y2 y3 y4 y5 y6
   unfold spec_SplitPath.j3
   exact mo_1
theorem spec_SplitPath.mono : ∀ a0 k, LeO (spec_SplitPath.f k a0) (spec_SplitPath.f (k + 1) a0) := by
 intro a0 k
 obtain ⟨ih0, ih1, ih2, ih3⟩ := spec_SplitPath.mono_l k
 unfold spec_SplitPath.f
 repeat' first
   | (with_reducible exact ih0 ..)
   | (with_reducible exact ih1 ..)
   | (with_reducible exact ih2 ..)
   | (with_reducible exact ih3 ..)
   | (with_reducible exact LeO.refl _)
   | (with_reducible exact LeO.none _)
   | (with_reducible refine LeO.ite ?_ ?_)
   | (with_reducible refine LeO.bind ?_ (fun _ => ?_))
   | exact ih0 ..
   | exact ih1 ..
   | exact ih2 ..
   | exact ih3 ..
   | exact LeO.none _
   | refine LeO.ite ?_ ?_
   | refine LeO.bind ?_ (fun _ => ?_)
set_option maxHeartbeats 8000000 in
set_option maxRecDepth 100000 in
theorem spec_SplitPath.calls (k : Nat) (a0 : ByteArray) (r1 : List ByteArray) (r2 : Int) (w : World) (h : spec_SplitPath.f k a0 = some (r1, r2)) :
  Calls Tryd.prog 23 #[.string a0] w fun e w' => ∃ v0_ : Value, e = .returned (.tuple #[v0_, .int .i64 r2]) ∧ Kd.R Kd.string 9 w' w.heap.size (fun _ => True) v0_ r1 ∧ Below w.heap.size w w' := by
 have HB := Aside0.mk (Below.refl w.heap.size w)
 unfold spec_SplitPath.f at h
 have H := h
 clear h
 obtain ⟨y106, Ny106, H⟩ := bs_ H
 have HC2 := Aside0.mk H
 clear H
 go_enter Tryd.func23, Tryd.ntmps23
 go_upto_region 2 with (first | ((with_reducible refine gate_dst (N := 9) rfl ?_); (try (refine gate_guard (by rfl) ?_; dsimp only)); refine Kd.R_lit Kd.string _ 9 ?hg (N := 9) ?hd (xs := ([] : List ByteArray)) (inner := []) (ok := fun _ => True) (okp := fun _ => True) ?hr ?hp (fun _ hk => hk) trivial (Below.refl _ _) (Nat.le_refl _) (by simp) ?_; (case hd => rfl); (case hg => rfl); (case hr => first | (go_simp; done) | (go_simp; rfl)); (case hp => exact (Reps.none _ _)); intro v107 w3 ho4 hb hg_ hnew_; clear hg_ hnew_; (first | rw [← Ny106.out] at ho4 | (simp only [Int.reduceToNat] at ho4; rw [← Ny106.out] at ho4)); have z_ := p_ (Kd.R_lower ho4 (below_size th_)) <| a_ (below_step th_ hb); clear HB; obtain ⟨HO108, HB⟩ := z_; clear hb ho4))
 (try simp only [Act.put, List.setIfInBounds_toArray, List.set_cons_zero, List.set_cons_succ])
 go_cut [22] (fun v22 wc => ∃ (kq : Nat) (x22_1 : Bool), v22 = .bool x22_1 ∧ Aside0 (spec_SplitPath.j0 kq a0 y106 x22_1 = some (r1, r2)) ∧ Aside0 (kq ≤ k) ∧ Aside0 (Kd.R Kd.string 9 wc w.heap.size (fun _ => True) v107 y106) ∧ Aside0 (Below w.heap.size w wc))
 case first =>
  have H := HC2.out
  clear HC2
  by_cases c5 : (a0.size : Int) > 60
  ·rw [if_pos c5] at H
   have c5b0 := decide_eq_true c5
   have c5b1 : decide (60 < a0.size) = true := decide_eq_true (by omega)
   clear c5
   (first | rw [c5b0] | (simp only [i64_w, i32_w]; rw [c5b0]) | skip)
   have H' := Aside0.mk H
   clear H
   go_wp2
   go_meet
   case rel => exact ⟨_, (true), tq_4, H', ⟨tq_17⟩, ⟨(raR_ HO108)⟩, ⟨th_⟩⟩
  rw [if_neg c5] at H
  have c5b0 := decide_eq_false c5
  have c5b1 : decide (60 < a0.size) = false := decide_eq_false (by omega)
  clear c5
  (first | rw [c5b0] | (simp only [i64_w, i32_w]; rw [c5b0]) | skip)
  by_cases c6 : (a0.size : Int) = 0
  ·rw [if_pos c6] at H
   have c6b0 := beq_iff_eq.mpr c6
   have c6b1 := bne_eq_false_iff_eq.mpr c6
   clear c6
   have H' := Aside0.mk H
   clear H
   go_wp2
   go_meet
   case rel => exact ⟨_, (true), tq_4, H', ⟨tq_17⟩, ⟨(raR_ HO108)⟩, ⟨th_⟩⟩
  rw [if_neg c6] at H
  have c6b0 := beq_eq_false_iff_ne.mpr c6
  have c6b1 := bne_iff_ne.mpr c6
  obtain ⟨c7, H⟩ := fc_ H
  have c7b0 := decide_eq_true c7
  have c7b1 : decide (0 < a0.size) = true := decide_eq_true (by omega)
  clear c7
  have H' := Aside0.mk H
  clear H
  have p8 : 0 ≤ (0 : Int) := (by omega)
  have q8 : 0 < a0.size := (by have : (0 : Int) < (a0.size : Int) := of_decide_eq_true tq_1; omega)
  have hx8 : ∀ h : 0 < a0.size, ((a0[0]'h).toNat : Int) = bt a0 0 := bt_at a0 0
  clear p8
  have qi8 : (0 < (a0.size : Int)) = True := eq_true (of_decide_eq_true tq_1)
  replace q8 := eq_true q8
  go_wp2
  go_meet
  case rel => exact ⟨_, (((bt a0 0) != 47)), tq_4, H', ⟨tq_17⟩, ⟨(raR_ HO108)⟩, ⟨th_⟩⟩
 case rest =>
 clear HC2
 try clear c2; try clear p2; try clear c5; try clear c5b0; try clear c5b1; try clear c6; try clear c6b0; try clear c6b1; try clear c7; try clear c7b0; try clear c7b1; try clear p8; try clear q8; try clear hx8; try clear qi8; try clear p8; try clear q8
 obtain ⟨kq, x22_1, rfl, HA, HJ1, HO_4, HB⟩ := hcut
 cases kq with
 | zero => exact absurd HA.out (by simp [spec_SplitPath.j0])
 | succ kj1 =>
 have H := HA.out
 clear HA
 simp only [spec_SplitPath.j0] at H
 by_cases c9 : x22_1 = true
 ·subst c9
  rw [if_pos rfl] at H
  simp only [Option.some.injEq, Prod.mk.injEq] at H
  obtain ⟨rfl, rfl⟩ := H
  go_wp2
  go_ret2
  exact ⟨_, tq_3, (raR_ HO_4), th_⟩
 replace c9 := Bool.eq_false_iff.mpr c9
 subst c9
 rw [if_neg nf_] at H
 by_cases c10 : a0.toList = ([47] : List UInt8)
 ·rw [if_pos c10] at H
  have c10b0 := beq_iff_eq.mpr c10
  have c10b1 := bne_eq_false_iff_eq.mpr c10
  clear c10
  simp only [Option.some.injEq, Prod.mk.injEq] at H
  obtain ⟨rfl, rfl⟩ := H
  go_wp2
  go_ret2
  exact ⟨_, tq_3, (raR_ HO_4), th_⟩
 rw [if_neg c10] at H
 have c10b0 := beq_eq_false_iff_ne.mpr c10
 have c10b1 := bne_iff_ne.mpr c10
 obtain ⟨y109, hy109⟩ : ∃ y_ : List ByteArray, y_ = (([] : List ByteArray)) := ⟨_, rfl⟩
 replace H : (spec_SplitPath.l0 kj1 a0 y106 y109 false 1 1) = some (r1, r2) := by first | (rw [hy109]; with_reducible exact H) | (have H2_ := (Option.bind_some _ _).symm.trans H; rw [hy109]; with_reducible exact H2_) | (have H2_ := (Option.bind_some _ _).symm.trans H; with_reducible exact H2_) | with_reducible exact H | (rw [hy109]; exact H) | exact H
 have Ny109 := Aside0.mk hy109
 clear hy109
 have H' := Aside0.mk H
 clear H
 go_wp2_with (first | ((with_reducible refine gate_dst (N := 27) rfl ?_); (try (refine gate_guard (by rfl) ?_; dsimp only)); refine Kd.R_lit Kd.string _ 9 ?hg (N := 27) ?hd (xs := ([] : List ByteArray)) (inner := []) (ok := fun _ => True) (okp := fun _ => True) ?hr ?hp (fun _ hk => hk) trivial (Below.refl _ _) (Nat.le_refl _) (by simp) ?_; (case hd => rfl); (case hg => rfl); (case hr => first | (go_simp; done) | (go_simp; rfl)); (case hp => exact (Reps.none _ _)); intro v110 w11 ho12 hb hg_ hnew_; clear hg_ hnew_; (first | rw [← Ny109.out] at ho12 | (simp only [Int.reduceToNat] at ho12; rw [← Ny109.out] at ho12)); have z_ := p_ (Kd.R_elder' (raR_ HO_4) (Kd.R_base ho12) hb) <| p_ (Kd.R_lower (Kd.R_new' ho12 (Kd.R_lt (raR_ HO_4))) (below_size th_)) <| a_ (below_step th_ hb); clear HO_4 HB; obtain ⟨HO_4, HO111, HB⟩ := z_; clear hb ho12))
 go_loopg [5, 6, 7, 8] kj1 (fun kq v5 v6 v7 v8 w' => ∃ (x5_2 : List ByteArray) (x6_2 : Bool) (x7_2 : Int) (x8_2 : Int), v6 = .bool x6_2 ∧ v7 = .int .i64 x7_2 ∧ v8 = .int .i64 x8_2 ∧ Aside0 (spec_SplitPath.l0 kq a0 y106 x5_2 x6_2 x7_2 x8_2 = some (r1, r2)) ∧ Aside0 (kq ≤ kj1) ∧ Aside0 (Kd.R Kd.string 9 w' w.heap.size (fun k_ => some k_ ≠ (v5 : Value).ownBlock) v107 y106) ∧ Aside0 (Kd.R Kd.string 9 w' w.heap.size (fun k_ => some k_ ≠ (v107 : Value).ownBlock) v5 x5_2) ∧ Aside0 (Below w.heap.size w w'))
 case atStart => exact ⟨(y109), (false), (1), (1), tq_4, tq_4, tq_4, H', ⟨Nat.le_refl _⟩, ⟨tq_33⟩, ⟨(by (with_reducible repeat (first | apply Kd.R_alloc | apply Kd.R_drewN | apply Kd.R_drew)); exact Kd.R_mono HO111.out (fun _ hk => hk.2))⟩, ⟨th_⟩⟩
 case round =>
 clear H'
 try clear c1; try clear c2; try clear p2; try clear c5; try clear c5b0; try clear c5b1; try clear c6; try clear c6b0; try clear c6b1; try clear c7; try clear c7b0; try clear c7b1; try clear p8; try clear q8; try clear hx8; try clear qi8; try clear c9; try clear c10; try clear c10b0; try clear c10b1; try clear p2; try clear p8; try clear q8
 obtain ⟨x5_2, x6_2, x7_2, x8_2, rfl, rfl, rfl, HA, HK2, HO_4, HO_5, HB⟩ := hrel
 cases gk with
 | zero => exact absurd HA.out (by simp [spec_SplitPath.l0])
 | succ k2 =>
 have H := HA.out
 clear HA
 simp only [spec_SplitPath.l0] at H
 by_cases c13 : x8_2 ≤ (a0.size : Int)
 rotate_left
 ·rw [if_neg c13] at H
  have c13b0 := decide_eq_false c13
  clear c13
  by_cases c40 : x6_2 = true
  ·subst c40
   rw [if_pos rfl] at H
   simp only [Option.some.injEq, Prod.mk.injEq] at H
   obtain ⟨rfl, rfl⟩ := H
   go_wp2
   go_ret2
   exact ⟨_, tq_3, tq_30, th_⟩
  replace c40 := Bool.eq_false_iff.mpr c40
  subst c40
  rw [if_neg nf_] at H
  simp only [Option.some.injEq, Prod.mk.injEq] at H
  obtain ⟨rfl, rfl⟩ := H
  go_wp2
  go_ret2
  exact ⟨_, tq_3, (by (with_reducible repeat (first | apply Kd.R_alloc | apply Kd.R_drewN | apply Kd.R_drew)); exact Kd.R_mono HO_5.out (fun _ hk => trivial)), th_⟩
 rw [if_pos c13] at H
 have c13b0 := decide_eq_true c13
 clear c13
 have HC14 := Aside0.mk H
 clear H
 go_upto_region 12 with (fail)
 go_cut [43] (fun v43 wc => ∃ (kq : Nat) (x43_13 : Bool), v43 = .bool x43_13 ∧ Aside0 (spec_SplitPath.j2 kq a0 y106 x5_2 x6_2 x7_2 x8_2 x43_13 = some (r1, r2)) ∧ Aside0 (kq ≤ k2) ∧ Aside0 (Kd.R Kd.string 9 wc w.heap.size (fun k_ => some k_ ≠ (u5 : Value).ownBlock) v107 y106) ∧ Aside0 (Kd.R Kd.string 9 wc w.heap.size (fun k_ => some k_ ≠ (v107 : Value).ownBlock) u5 x5_2) ∧ Aside0 (Below w.heap.size w wc))
 case first =>
  have H := HC14.out
  clear HC14
  by_cases c15 : x8_2 < (a0.size : Int)
  rotate_left
  ·rw [if_neg c15] at H
   have c15b0 := decide_eq_false c15
   clear c15
   (first | rw [c15b0] | (simp only [i64_w, i32_w]; rw [c15b0]) | skip)
   have H' := Aside0.mk H
   clear H
   go_wp2
   go_meet
   case rel => exact ⟨_, (false), tq_4, H', ⟨(by have := HJ1.out; have := HK2.out; first | omega | exact Nat.le_refl _)⟩, ⟨(raR_ HO_4)⟩, ⟨(raR_ HO_5)⟩, ⟨th_⟩⟩
  rw [if_pos c15] at H
  have c15b0 := decide_eq_true c15
  clear c15
  (first | rw [c15b0] | (simp only [i64_w, i32_w]; rw [c15b0]) | skip)
  obtain ⟨c16, H⟩ := fc_ H
  have c16b0 := decide_eq_true c16
  clear c16
  have H' := Aside0.mk H
  clear H
  have p17 : 0 ≤ (x8_2 : Int) := of_decide_eq_true tq_1
  have q17 : x8_2 < (a0.size : Int) := of_decide_eq_true tq_1
  have hx17 := bt_at a0 x8_2
  replace p17 := eq_true p17
  replace q17 := eq_true q17
  go_wp2
  go_meet
  case rel => exact ⟨_, (((bt a0 x8_2) != 47)), tq_4, H', ⟨(by have := HJ1.out; have := HK2.out; first | omega | exact Nat.le_refl _)⟩, ⟨(raR_ HO_4)⟩, ⟨(raR_ HO_5)⟩, ⟨th_⟩⟩
 case rest =>
 clear HC14
 try clear c1; try clear p1; try clear q1; try clear hx1; try clear c2; try clear p2; try clear c5; try clear c5b0; try clear c5b1; try clear c6; try clear c6b0; try clear c6b1; try clear c7; try clear c7b0; try clear c7b1; try clear p8; try clear q8; try clear hx8; try clear qi8; try clear c9; try clear c10; try clear c10b0; try clear c10b1; try clear c13; try clear c13b0; try clear c15; try clear c15b0; try clear c16; try clear c16b0; try clear p17; try clear q17; try clear hx17; try clear p17; try clear p2; try clear p8; try clear q17; try clear q8
 obtain ⟨kq, x43_13, rfl, HA, HJ13, HO_4, HO_5, HB⟩ := hcut
 cases kq with
 | zero => exact absurd HA.out (by simp [spec_SplitPath.j2])
 | succ kj13 =>
 have H := HA.out
 clear HA
 simp only [spec_SplitPath.j2] at H
 by_cases c18 : x43_13 = true
 ·subst c18
  rw [if_pos rfl] at H
  have HC19 := Aside0.mk H
  clear H
  go_upto_region 13 with (fail)
  go_cut [57] (fun v57 wc => ∃ (kq : Nat) (x57_18 : Bool), v57 = .bool x57_18 ∧ Aside0 (spec_SplitPath.j3 kq a0 y106 x5_2 x6_2 x7_2 x8_2 x57_18 = some (r1, r2)) ∧ Aside0 (kq ≤ kj13) ∧ Aside0 (Kd.R Kd.string 9 wc w.heap.size (fun k_ => some k_ ≠ (u5 : Value).ownBlock) v107 y106) ∧ Aside0 (Kd.R Kd.string 9 wc w.heap.size (fun k_ => some k_ ≠ (v107 : Value).ownBlock) u5 x5_2) ∧ Aside0 (Below w.heap.size w wc))
  case first =>
   have H := HC19.out
   clear HC19
   obtain ⟨c20, H⟩ := fc_ H
   have c20b0 := decide_eq_true c20
   clear c20
   (first | rw [c20b0] | (simp only [i64_w, i32_w]; rw [c20b0]) | skip)
   obtain ⟨c21, H⟩ := fc_ H
   have c21b0 := decide_eq_true c21
   clear c21
   obtain ⟨t112, A23, H⟩ := bd_ H
   by_cases c24 : t112 = true
   ·subst c24
    rw [if_pos rfl] at H
    have H' := Aside0.mk H
    clear H
    have p22 : 0 ≤ (x8_2 : Int) := of_decide_eq_true tq_1
    have q22 : x8_2 < (a0.size : Int) := of_decide_eq_true tq_1
    have hx22 := bt_at a0 x8_2
    replace p22 := eq_true p22
    replace q22 := eq_true q22
    go_wp2_with (first | ((with_reducible refine gate_callee (f := 32) rfl ?_); refine goesL_ (some 48) rfl rfl Tryd.func32 (by kernel_rfl) rfl #[.int .i64 (wrap64 (bt a0 x8_2)), .int .i64 97, .int .i64 122] rfl tq_2 ?_; (with_reducible refine (spec_l01In.calls (wrap64 (bt a0 x8_2)) 97 122 true _ A23.out).mono ?_); rintro e w' ⟨rfl, ⟨nd, rfl⟩⟩; refine ⟨_, rfl, ?_⟩))
    go_meet
    case rel => exact ⟨_, (false), tq_4, H', ⟨(by have := HJ1.out; have := HK2.out; have := HJ13.out; first | omega | exact Nat.le_refl _)⟩, ⟨(raR_ HO_4)⟩, ⟨(raR_ HO_5)⟩, ⟨th_⟩⟩
   replace c24 := Bool.eq_false_iff.mpr c24
   subst c24
   rw [if_neg nf_] at H
   obtain ⟨t113, A26, H⟩ := bd_ H
   have H' := Aside0.mk H
   clear H
   have p22 : 0 ≤ (x8_2 : Int) := of_decide_eq_true tq_1
   have q22 : x8_2 < (a0.size : Int) := of_decide_eq_true tq_1
   have hx22 := bt_at a0 x8_2
   replace p22 := eq_true p22
   replace q22 := eq_true q22
   go_wp2_with (first | ((with_reducible refine gate_callee (f := 32) rfl ?_); refine goesL_ (some 48) rfl rfl Tryd.func32 (by kernel_rfl) rfl #[.int .i64 (wrap64 (bt a0 x8_2)), .int .i64 97, .int .i64 122] rfl tq_2 ?_; (with_reducible refine (spec_l01In.calls (wrap64 (bt a0 x8_2)) 97 122 false _ A23.out).mono ?_); rintro e w' ⟨rfl, ⟨nd, rfl⟩⟩; refine ⟨_, rfl, ?_⟩; have p25 : 0 ≤ (x8_2 : Int) := of_decide_eq_true tq_1; have q25 : x8_2 < (a0.size : Int) := of_decide_eq_true tq_1; have hx25 := bt_at a0 x8_2; replace p25 := eq_true p25; replace q25 := eq_true q25) | (go_at_call 32; (with_reducible refine (spec_l01In.calls (wrap64 (bt a0 x8_2)) 48 57 t113 _ A26.out).mono ?_); rintro e w' ⟨rfl, ⟨nd, rfl⟩⟩))
   go_meet
   case rel => exact ⟨_, (!t113), tq_4, H', ⟨(by have := HJ1.out; have := HK2.out; have := HJ13.out; first | omega | exact Nat.le_refl _)⟩, ⟨(raR_ HO_4)⟩, ⟨(raR_ HO_5)⟩, ⟨th_⟩⟩
  case rest =>
  clear HC19
  try clear c1; try clear p1; try clear q1; try clear hx1; try clear c2; try clear p2; try clear q2; try clear hx2; try clear c3; try clear c5; try clear c5b0; try clear c5b1; try clear c6; try clear c6b0; try clear c6b1; try clear p6; try clear c7; try clear c7b0; try clear c7b1; try clear p8; try clear q8; try clear hx8; try clear qi8; try clear c9; try clear c10; try clear c10b0; try clear c10b1; try clear c13; try clear c13b0; try clear c15; try clear c15b0; try clear c16; try clear c16b0; try clear p17; try clear q17; try clear hx17; try clear c18; try clear c20; try clear c20b0; try clear c21; try clear c21b0; try clear p22; try clear q22; try clear hx22; try clear c23; try clear c24; try clear p25; try clear q25; try clear hx25; try clear p1; try clear p17; try clear p2; try clear p22; try clear p25; try clear p8; try clear q1; try clear q17; try clear q22; try clear q25; try clear q8
  obtain ⟨kq, x57_18, rfl, HA, HJ18, HO_4, HO_5, HB⟩ := hcut
  cases kq with
  | zero => exact absurd HA.out (by simp [spec_SplitPath.j3])
  | succ kj18 =>
  have H := HA.out
  clear HA
  simp only [spec_SplitPath.j3] at H
  by_cases c27 : x57_18 = true
  ·subst c27
   rw [if_pos rfl] at H
   simp only [Option.some.injEq, Prod.mk.injEq] at H
   obtain ⟨rfl, rfl⟩ := H
   go_wp2
   go_ret2
   exact ⟨_, tq_3, tq_30, th_⟩
  replace c27 := Bool.eq_false_iff.mpr c27
  subst c27
  rw [if_neg nf_] at H
  have H' := Aside0.mk H
  clear H
  go_wp2
  go_roundg kj18
  case measure => have := HJ1.out; have := HK2.out; have := HJ13.out; have := HJ18.out; omega
  case rel => exact ⟨(x5_2), (x6_2), (x7_2), (wrap64 (x8_2 + 1)), tq_4, tq_4, tq_4, H', ⟨(by have := HJ1.out; have := HK2.out; have := HJ13.out; have := HJ18.out; omega)⟩, ⟨(raR_ HO_4)⟩, ⟨(raR_ HO_5)⟩, ⟨th_⟩⟩
 replace c18 := Bool.eq_false_iff.mpr c18
 subst c18
 rw [if_neg nf_] at H
 by_cases c28 : x7_2 = x8_2
 ·rw [if_pos c28] at H
  have c28b0 := beq_iff_eq.mpr c28
  have c28b1 := bne_eq_false_iff_eq.mpr c28
  clear c28
  simp only [Option.some.injEq, Prod.mk.injEq] at H
  obtain ⟨rfl, rfl⟩ := H
  go_wp2
  go_ret2
  exact ⟨_, tq_3, tq_30, th_⟩
 rw [if_neg c28] at H
 have c28b0 := beq_eq_false_iff_ne.mpr c28
 have c28b1 := bne_iff_ne.mpr c28
 by_cases c29 : x6_2 = true
 ·subst c29
  rw [if_pos rfl] at H
  obtain ⟨c30, H⟩ := fc_ H
  have c30b0 := eq_true c30
  have c30b1 := decide_eq_true c30
  clear c30
  obtain ⟨c31, H⟩ := fc_ H
  have c31b0 := eq_true c31
  have c31b1 := decide_eq_true c31
  clear c31
  obtain ⟨c32, H⟩ := fc_ H
  have c32b0 := eq_true c32
  have c32b1 := decide_eq_true c32
  clear c32
  obtain ⟨c33, H⟩ := fc_ H
  have LMc33 := Aside0.mk c33
  clear c33
  obtain ⟨y114, hy114⟩ : ∃ y_ : List ByteArray, y_ = (x5_2 ++ [a0.extract (x7_2 : Int).toNat (x8_2 : Int).toNat]) := ⟨_, rfl⟩
  replace H : (spec_SplitPath.l0 kj13 a0 y106 y114 true (wrap64 (x8_2 + 1)) (wrap64 (x8_2 + 1))) = some (r1, r2) := by first | (rw [hy114]; with_reducible exact H) | (have H2_ := (Option.bind_some _ _).symm.trans H; rw [hy114]; with_reducible exact H2_) | (have H2_ := (Option.bind_some _ _).symm.trans H; with_reducible exact H2_) | with_reducible exact H | (rw [hy114]; exact H) | exact H
  have Ny114 := Aside0.mk hy114
  clear hy114
  have H' := Aside0.mk H
  clear H
  go_wp2_with (first | ((with_reducible refine gate_builtin (b := .append) (xs := #[.tmp 70, .tmp 75]) rfl ?_); (try (refine gate_guard (by rfl) ?_; dsimp only)); at_builtin; refine Kd.R_append Kd.string (w0 := w) w.heap.size rfl (.tmp 70) (.tmp 75) 47 9 (.string ⟨#[]⟩) 16 rfl Tryd.underlying47 info9 rfl (by decide) (by omega) u5 x5_2 (a0.extract (x7_2 : Int).toNat (x8_2 : Int).toNat) [.string (a0.extract (x7_2 : Int).toNat (x8_2 : Int).toNat)] (fun k_ => some k_ ≠ (v107 : Value).ownBlock) (fun _ => False) rfl rfl ?aP (fun _ hk => hk.elim) ?aF ?aO ?aB ?aS ?aL ?_; (case aP => exact rfl); (case aB => exact th_); (case aF => exact (fun k_ hk => Kd.fresh' (Kd.R_lt (raR_ HO_4)) k_ hk)); (case aO => exact (raR_ HO_5)); (case aS => exact (below_size th_)); (case aL => have := LMc33.out; omega); intro v115 w34 ho hb hg hat; rw [← Ny114.out] at ho; have z_ := p_ (Kd.R_after (ok := (fun _ => True)) tq_53 hg hat) <| p_ (hb) <| a_ (ho); clear HO_4 HB HO_5; obtain ⟨HO_4, HB, HO116⟩ := z_; clear ho hb hg hat))
  go_roundg kj13
  case measure => have := HJ1.out; have := HK2.out; have := HJ13.out; omega
  case rel => exact ⟨(y114), (true), (wrap64 (x8_2 + 1)), (wrap64 (x8_2 + 1)), tq_4, tq_4, tq_4, H', ⟨(by have := HJ1.out; have := HK2.out; have := HJ13.out; omega)⟩, ⟨tq_33⟩, ⟨(raR_ HO116)⟩, ⟨th_⟩⟩
 replace c29 := Bool.eq_false_iff.mpr c29
 subst c29
 rw [if_neg nf_] at H
 obtain ⟨c35, H⟩ := fc_ H
 have c35b0 := eq_true c35
 have c35b1 := decide_eq_true c35
 clear c35
 obtain ⟨c36, H⟩ := fc_ H
 have c36b0 := eq_true c36
 have c36b1 := decide_eq_true c36
 clear c36
 obtain ⟨c37, H⟩ := fc_ H
 have c37b0 := eq_true c37
 have c37b1 := decide_eq_true c37
 clear c37
 obtain ⟨c38, H⟩ := fc_ H
 have LMc38 := Aside0.mk c38
 clear c38
 obtain ⟨y117, hy117⟩ : ∃ y_ : List ByteArray, y_ = (x5_2 ++ [a0.extract (x7_2 : Int).toNat (x8_2 : Int).toNat]) := ⟨_, rfl⟩
 replace H : (spec_SplitPath.l0 kj13 a0 y106 y117 (decide ((wrap64 (x8_2 - x7_2)) > 7)) (wrap64 (x8_2 + 1)) (wrap64 (x8_2 + 1))) = some (r1, r2) := by first | (rw [hy117]; with_reducible exact H) | (have H2_ := (Option.bind_some _ _).symm.trans H; rw [hy117]; with_reducible exact H2_) | (have H2_ := (Option.bind_some _ _).symm.trans H; with_reducible exact H2_) | with_reducible exact H | (rw [hy117]; exact H) | exact H
 have Ny117 := Aside0.mk hy117
 clear hy117
 have H' := Aside0.mk H
 clear H
 go_wp2_with (first | ((with_reducible refine gate_builtin (b := .append) (xs := #[.tmp 70, .tmp 75]) rfl ?_); (try (refine gate_guard (by rfl) ?_; dsimp only)); at_builtin; refine Kd.R_append Kd.string (w0 := w) w.heap.size rfl (.tmp 70) (.tmp 75) 47 9 (.string ⟨#[]⟩) 16 rfl Tryd.underlying47 info9 rfl (by decide) (by omega) u5 x5_2 (a0.extract (x7_2 : Int).toNat (x8_2 : Int).toNat) [.string (a0.extract (x7_2 : Int).toNat (x8_2 : Int).toNat)] (fun k_ => some k_ ≠ (v107 : Value).ownBlock) (fun _ => False) rfl rfl ?aP (fun _ hk => hk.elim) ?aF ?aO ?aB ?aS ?aL ?_; (case aP => exact rfl); (case aB => exact th_); (case aF => exact (fun k_ hk => Kd.fresh' (Kd.R_lt (raR_ HO_4)) k_ hk)); (case aO => exact (raR_ HO_5)); (case aS => exact (below_size th_)); (case aL => have := LMc38.out; omega); intro v118 w39 ho hb hg hat; rw [← Ny117.out] at ho; have z_ := p_ (Kd.R_after (ok := (fun _ => True)) tq_53 hg hat) <| p_ (hb) <| a_ (ho); clear HO_4 HB HO_5; obtain ⟨HO_4, HB, HO119⟩ := z_; clear ho hb hg hat))
 go_roundg kj13
 case measure => have := HJ1.out; have := HK2.out; have := HJ13.out; omega
 case rel => exact ⟨(y117), (decide ((wrap64 (x8_2 - x7_2)) > 7)), (wrap64 (x8_2 + 1)), (wrap64 (x8_2 + 1)), tq_4, tq_4, tq_4, H', ⟨(by have := HJ1.out; have := HK2.out; have := HJ13.out; omega)⟩, ⟨tq_33⟩, ⟨(raR_ HO119)⟩, ⟨th_⟩⟩

end Go.Proofs.YtmddplifammohaaDoor.PFnExactMovedItems
