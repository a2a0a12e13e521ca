/- Contracts of Go functions: each call returns what the Lean function beside it computes. Conditions: as each theorem states them. -/
import Derived.Test.YtleoknilacjakaaGreatPkFnExactChanged
import Derived.Test.YtleoknilacjakaaGreatPFnExactChangedx1
namespace Go.Proofs.YtleoknilacjakaaGreat.PFnExactChanged
open Go.RowKit Go.Proofs.YtleoknilacjakaaGreatW.PrintWords Go.Proofs.YtleoknilacjakaaGreatW.PrintLast Go.Proofs.YtleoknilacjakaaGreatW.PrintMore
attribute [local go_sem] max2_int min2_int max_two min_two max_three min_three max_four min_four   -- for this text's walks alone
set_option linter.unusedVariables false
set_option linter.unusedSimpArgs false

/-! ### laws_szIntS: function 17 -/
def laws_szIntS.f (l0 : List Int) (a1 : Int) : Option (Int) := if (wrap64 (a1 - (l0.length : Int))) < 0 then (some (-1)) else (some (wrap64 (a1 - (l0.length : Int))))
set_option maxHeartbeats 8000000 in
set_option maxRecDepth 100000 in
theorem laws_szIntS.calls (A0 : Option Addr) (c0 : Nat) (l0 : List Int) (a1 : Int) (r : Int) (w : World) (hr0 : Kd.C (Kd.int .i64) w A0 l0.length l0) (hc0 : l0.length ≤ c0) (h : laws_szIntS.f l0 a1 = some r) :
  Calls Tryz.prog 17 #[.slice A0 l0.length c0, .int .i64 a1] w fun e w' => e = .returned (.int .i64 r) ∧ Drawn0 w w' := by
 have HR0 := Aside0.mk hr0
 have a6 := Aside0.mk hc0
 clear hr0 hc0
 unfold laws_szIntS.f at h
 have H := h
 clear h
 by_cases c3 : (wrap64 (a1 - (l0.length : Int))) < 0
 ·rw [if_pos c3] at H
  have a5 := decide_eq_true c3
  clear c3
  obtain rfl := Option.some.inj H
  go_enter Tryz.func17, Tryz.ntmps17
  go_wp2
  go_ret
  exact ⟨tq_3, tq_9⟩
 rw [if_neg c3] at H
 have a5 := decide_eq_false c3
 clear c3
 obtain rfl := Option.some.inj H
 go_enter Tryz.func17, Tryz.ntmps17
 go_wp2
 go_ret
 exact ⟨tq_3, tq_9⟩

/-! ### laws_szRec: function 90 -/
def laws_szRec.f (a6 : Int) (a7 : Int) (a5 : ByteArray) (a1 : Int) : Option (Int) := if (wrap64 (a1 - (a5.size : Int))) < 0 then (some (-1)) else (some (wrap64 (a1 - (a5.size : Int))))
set_option maxHeartbeats 8000000 in
set_option maxRecDepth 100000 in
theorem laws_szRec.calls (a7 : Int) (a8 : Int) (a6 : ByteArray) (a1 : Int) (r : Int) (w : World) (h : laws_szRec.f a7 a8 a6 a1 = some r) :
  Calls Tryz.prog 90 #[.agg #[.int .i64 a7, .int .i64 a8, .string a6], .int .i64 a1] w fun e w' => e = .returned (.int .i64 r) ∧ Below w.heap.size w w' := by
 have hu107 := Tryz.underlying107
 have HB := Aside0.mk (Below.refl w.heap.size w)
 unfold laws_szRec.f at h
 have H := h
 clear h
 have aa := Aside0.mk H
 clear H
 go_enter Tryz.func90, Tryz.ntmps90
 go_upto_if 11 with (first | ((with_reducible refine gate_dst (N := 2) rfl ?_); refine be_ 2 (cs := #[.int .i64 a7, .int .i64 a8, .string a6]) 107 ?_; intro ab hg w4 hbox hb; have z_ := bx0_ th_ hb hbox hg; clear HB; obtain ⟨HB, a9, ac, ae⟩ := z_; clear hb hbox hg; have af := bb3_ a9.out))
 (try simp only [Act.put, List.setIfInBounds_toArray, List.set_cons_zero, List.set_cons_succ])
 (try clear af)
 have H := aa.out
 clear aa
 by_cases c6 : (wrap64 (a1 - (a6.size : Int))) < 0
 ·rw [if_pos c6] at H
  have a5 := decide_eq_true c6
  clear c6
  (first | rw [a5] | (simp only [i64_w, i32_w]; rw [a5]) | skip)
  obtain rfl := Option.some.inj H
  go_wp2
  go_ret
  exact ⟨tq_1, th_⟩
 rw [if_neg c6] at H
 have a5 := decide_eq_false c6
 clear c6
 (first | rw [a5] | (simp only [i64_w, i32_w]; rw [a5]) | skip)
 obtain rfl := Option.some.inj H
 go_wp2
 go_ret
 exact ⟨tq_1, th_⟩

/-! ### laws_szRecS: function 61 -/
def laws_szRecS.l0 : Nat → List (S107) → Int → Int → Option (Int)
 | 0, _, _, _ => none
 | k + 1, x0, x1, x5 => if x5 < (x0.length : Int) then (if 0 ≤ x5 then ((laws_szRec.f ((rd_T107 x0 x5).f0) ((rd_T107 x0 x5).f1) ((rd_T107 x0 x5).f2) x1).bind fun a5 => (if a5 < 0 then (some (-1)) else (laws_szRecS.l0 k x0 a5 (wrap64 (x5 + 1))))) else (none)) else (some x1)
def laws_szRecS.f (k : Nat) (l0 : List (S107)) (a1 : Int) : Option (Int) := if (wrap64 (a1 - (l0.length : Int))) < 0 then (some (-1)) else (laws_szRecS.l0 k l0 (wrap64 (a1 - (l0.length : Int))) 0)
set_option maxHeartbeats 8000000 in
set_option maxRecDepth 100000 in
theorem laws_szRecS.calls (k : Nat) (A0 : Option Addr) (c0 : Nat) (l0 : List (S107)) (a1 : Int) (r : Int) (w : World) (hr0 : Kd.C k107 w A0 l0.length l0) (hc0 : l0.length ≤ c0) (h : laws_szRecS.f k l0 a1 = some r) :
  Calls Tryz.prog 61 #[.slice A0 l0.length c0, .int .i64 a1] w fun e w' => e = .returned (.int .i64 r) ∧ Below w.heap.size w w' := by
 have hu107 := Tryz.underlying107
 have HR0 := Aside0.mk hr0
 have aj := Aside0.mk hc0
 clear hr0 hc0
 have HB := Aside0.mk (Below.refl w.heap.size w)
 unfold laws_szRecS.f at h
 have H := h
 clear h
 by_cases c3 : (wrap64 (a1 - (l0.length : Int))) < 0
 ·rw [if_pos c3] at H
  have ac := decide_eq_true c3
  clear c3
  obtain rfl := Option.some.inj H
  go_enter Tryz.func61, Tryz.ntmps61
  go_wp2
  go_ret
  exact ⟨tq_1, th_⟩
 rw [if_neg c3] at H
 have ac := decide_eq_false c3
 clear c3
 have H' := Aside0.mk H
 clear H
 go_enter Tryz.func61, Tryz.ntmps61
 go_wp2
 go_loopg [1, 5] k (fun kq v1 v5 w' => ∃ (a9 : Int) (a5 : Int), v1 = .int .i64 a9 ∧ v5 = .int .i64 a5 ∧ Aside0 (laws_szRecS.l0 kq l0 a9 a5 = some r) ∧ Aside0 (kq ≤ k) ∧ Aside0 (Below w.heap.size w w'))
 case atStart => exact ⟨(wrap64 (a1 - (l0.length : Int))), (0), tq_3, tq_3, H', ⟨Nat.le_refl _⟩, ⟨th_⟩⟩
 case round =>
 clear H'
 try clear p2; try clear c3; try clear ac
 obtain ⟨a9, a5, rfl, rfl, HA, HK1, HB⟩ := hrel
 cases gk with
 | zero => exact absurd HA.out (by simp [laws_szRecS.l0])
 | succ k1 =>
 have H := HA.out
 clear HA
 simp only [laws_szRecS.l0] at H
 by_cases c4 : a5 < (l0.length : Int)
 rotate_left
 ·rw [if_neg c4] at H
  have ae := decide_eq_false c4
  clear c4
  obtain rfl := Option.some.inj H
  go_wp2
  go_ret
  exact ⟨tq_1, th_⟩
 rw [if_pos c4] at H
 have ae := decide_eq_true c4
 clear c4
 obtain ⟨c5, H⟩ := fc_ H
 have ai := decide_eq_true c5
 clear c5
 obtain ⟨ab, A6, H⟩ := bd_ H
 have ag := Aside0.mk H
 clear H
 have p102 : 0 ≤ (a5 : Int) := of_decide_eq_true tq_2
 have q102 : a5 < (l0.length : Int) := of_decide_eq_true tq_2
 obtain ⟨ah, af, a6, a7, a8⟩ := at_T107 HR0.out a5 p102 q102
 cases af
 replace a6 := hx_ HB.out a6
 replace a7 := hx_ HB.out a7
 replace a8 := hx_ HB.out a8
 replace p102 := eq_true p102
 replace q102 := eq_true q102
 go_upto_if 25 with (first | ((with_reducible refine gate_callee (f := 90) rfl ?_); refine goesL_ (some 23) rfl rfl Tryz.func90 (by kernel_rfl) rfl #[.agg #[.int .i64 ((rd_T107 l0 a5).f0), .int .i64 ((rd_T107 l0 a5).f1), .string ((rd_T107 l0 a5).f2)], .int .i64 a9] rfl tq_0 ?_; (with_reducible refine (laws_szRec.calls ((rd_T107 l0 a5).f0) ((rd_T107 l0 a5).f1) ((rd_T107 l0 a5).f2) a9 ab _ A6.out).mono ?_); rintro e w8 ⟨rfl, hb⟩; refine ⟨_, rfl, ?_⟩; have n0_ := Aside0.mk (below_step th_ hb); clear HB; have HB := n0_; clear n0_; (try clear hb)))
 (try simp only [Act.put, List.setIfInBounds_toArray, List.set_cons_zero, List.set_cons_succ])
 (try clear a6 a7 a8)
 have H := ag.out
 clear ag
 by_cases c9 : ab < 0
 ·rw [if_pos c9] at H
  have aa := decide_eq_true c9
  clear c9
  (first | rw [aa] | (simp only [i64_w, i32_w]; rw [aa]) | skip)
  obtain rfl := Option.some.inj H
  go_wp2
  go_ret
  exact ⟨tq_1, th_⟩
 rw [if_neg c9] at H
 have aa := decide_eq_false c9
 clear c9
 (first | rw [aa] | (simp only [i64_w, i32_w]; rw [aa]) | skip)
 have H' := Aside0.mk H
 clear H
 go_wp2
 go_roundg k1
 case measure => have := HK1.out; omega
 case rel => exact ⟨(ab), (wrap64 (a5 + 1)), tq_3, tq_3, H', ⟨tq_22⟩, ⟨th_⟩⟩

/-! ### laws_szEntry: function 91 -/
def laws_szEntry.f (a6 : Int) (a5 : ByteArray) (a1 : Int) : Option (Int) := if (wrap64 (a1 - (a5.size : Int))) < 0 then (some (-1)) else (some (wrap64 (a1 - (a5.size : Int))))
set_option maxHeartbeats 8000000 in
set_option maxRecDepth 100000 in
theorem laws_szEntry.calls (a7 : Int) (a6 : ByteArray) (a1 : Int) (r : Int) (w : World) (h : laws_szEntry.f a7 a6 a1 = some r) :
  Calls Tryz.prog 91 #[.agg #[.int .i64 a7, .string a6], .int .i64 a1] w fun e w' => e = .returned (.int .i64 r) ∧ Below w.heap.size w w' := by
 have hu109 := Tryz.underlying109
 have HB := Aside0.mk (Below.refl w.heap.size w)
 unfold laws_szEntry.f at h
 have H := h
 clear h
 have a9 := Aside0.mk H
 clear H
 go_enter Tryz.func91, Tryz.ntmps91
 go_upto_if 11 with (first | ((with_reducible refine gate_dst (N := 2) rfl ?_); refine be_ 2 (cs := #[.int .i64 a7, .string a6]) 109 ?_; intro aa hg w4 hbox hb; have z_ := bx0_ th_ hb hbox hg; clear HB; obtain ⟨HB, a8, ab, ac⟩ := z_; clear hb hbox hg; have ae := bb2_ a8.out))
 (try simp only [Act.put, List.setIfInBounds_toArray, List.set_cons_zero, List.set_cons_succ])
 (try clear ae)
 have H := a9.out
 clear a9
 by_cases c6 : (wrap64 (a1 - (a6.size : Int))) < 0
 ·rw [if_pos c6] at H
  have a5 := decide_eq_true c6
  clear c6
  (first | rw [a5] | (simp only [i64_w, i32_w]; rw [a5]) | skip)
  obtain rfl := Option.some.inj H
  go_wp2
  go_ret
  exact ⟨tq_1, th_⟩
 rw [if_neg c6] at H
 have a5 := decide_eq_false c6
 clear c6
 (first | rw [a5] | (simp only [i64_w, i32_w]; rw [a5]) | skip)
 obtain rfl := Option.some.inj H
 go_wp2
 go_ret
 exact ⟨tq_1, th_⟩

/-! ### laws_szEntryS: function 62 -/
def laws_szEntryS.l0 : Nat → List (S109) → Int → Int → Option (Int)
 | 0, _, _, _ => none
 | k + 1, x0, x1, x5 => if x5 < (x0.length : Int) then (if 0 ≤ x5 then ((laws_szEntry.f ((rd_T109 x0 x5).f0) ((rd_T109 x0 x5).f1) x1).bind fun a5 => (if a5 < 0 then (some (-1)) else (laws_szEntryS.l0 k x0 a5 (wrap64 (x5 + 1))))) else (none)) else (some x1)
def laws_szEntryS.f (k : Nat) (l0 : List (S109)) (a1 : Int) : Option (Int) := if (wrap64 (a1 - (l0.length : Int))) < 0 then (some (-1)) else (laws_szEntryS.l0 k l0 (wrap64 (a1 - (l0.length : Int))) 0)
set_option maxHeartbeats 8000000 in
set_option maxRecDepth 100000 in
theorem laws_szEntryS.calls (k : Nat) (A0 : Option Addr) (c0 : Nat) (l0 : List (S109)) (a1 : Int) (r : Int) (w : World) (hr0 : Kd.C k109 w A0 l0.length l0) (hc0 : l0.length ≤ c0) (h : laws_szEntryS.f k l0 a1 = some r) :
  Calls Tryz.prog 62 #[.slice A0 l0.length c0, .int .i64 a1] w fun e w' => e = .returned (.int .i64 r) ∧ Below w.heap.size w w' := by
 have hu109 := Tryz.underlying109
 have HR0 := Aside0.mk hr0
 have ai := Aside0.mk hc0
 clear hr0 hc0
 have HB := Aside0.mk (Below.refl w.heap.size w)
 unfold laws_szEntryS.f at h
 have H := h
 clear h
 by_cases c3 : (wrap64 (a1 - (l0.length : Int))) < 0
 ·rw [if_pos c3] at H
  have ab := decide_eq_true c3
  clear c3
  obtain rfl := Option.some.inj H
  go_enter Tryz.func62, Tryz.ntmps62
  go_wp2
  go_ret
  exact ⟨tq_1, th_⟩
 rw [if_neg c3] at H
 have ab := decide_eq_false c3
 clear c3
 have H' := Aside0.mk H
 clear H
 go_enter Tryz.func62, Tryz.ntmps62
 go_wp2
 go_loopg [1, 5] k (fun kq v1 v5 w' => ∃ (a8 : Int) (a5 : Int), v1 = .int .i64 a8 ∧ v5 = .int .i64 a5 ∧ Aside0 (laws_szEntryS.l0 kq l0 a8 a5 = some r) ∧ Aside0 (kq ≤ k) ∧ Aside0 (Below w.heap.size w w'))
 case atStart => exact ⟨(wrap64 (a1 - (l0.length : Int))), (0), tq_3, tq_3, H', ⟨Nat.le_refl _⟩, ⟨th_⟩⟩
 case round =>
 clear H'
 try clear p2; try clear c3; try clear ab
 obtain ⟨a8, a5, rfl, rfl, HA, HK1, HB⟩ := hrel
 cases gk with
 | zero => exact absurd HA.out (by simp [laws_szEntryS.l0])
 | succ k1 =>
 have H := HA.out
 clear HA
 simp only [laws_szEntryS.l0] at H
 by_cases c4 : a5 < (l0.length : Int)
 rotate_left
 ·rw [if_neg c4] at H
  have ac := decide_eq_false c4
  clear c4
  obtain rfl := Option.some.inj H
  go_wp2
  go_ret
  exact ⟨tq_1, th_⟩
 rw [if_pos c4] at H
 have ac := decide_eq_true c4
 clear c4
 obtain ⟨c5, H⟩ := fc_ H
 have ah := decide_eq_true c5
 clear c5
 obtain ⟨aa, A6, H⟩ := bd_ H
 have af := Aside0.mk H
 clear H
 have p105 : 0 ≤ (a5 : Int) := of_decide_eq_true tq_2
 have q105 : a5 < (l0.length : Int) := of_decide_eq_true tq_2
 obtain ⟨ag, ae, a6, a7⟩ := at_T109 HR0.out a5 p105 q105
 cases ae
 replace a6 := hx_ HB.out a6
 replace a7 := hx_ HB.out a7
 replace p105 := eq_true p105
 replace q105 := eq_true q105
 go_upto_if 25 with (first | ((with_reducible refine gate_callee (f := 91) rfl ?_); refine goesL_ (some 23) rfl rfl Tryz.func91 (by kernel_rfl) rfl #[.agg #[.int .i64 ((rd_T109 l0 a5).f0), .string ((rd_T109 l0 a5).f1)], .int .i64 a8] rfl tq_0 ?_; (with_reducible refine (laws_szEntry.calls ((rd_T109 l0 a5).f0) ((rd_T109 l0 a5).f1) a8 aa _ A6.out).mono ?_); rintro e w8 ⟨rfl, hb⟩; refine ⟨_, rfl, ?_⟩; have n0_ := Aside0.mk (below_step th_ hb); clear HB; have HB := n0_; clear n0_; (try clear hb)))
 (try simp only [Act.put, List.setIfInBounds_toArray, List.set_cons_zero, List.set_cons_succ])
 (try clear a6 a7)
 have H := af.out
 clear af
 by_cases c9 : aa < 0
 ·rw [if_pos c9] at H
  have a9 := decide_eq_true c9
  clear c9
  (first | rw [a9] | (simp only [i64_w, i32_w]; rw [a9]) | skip)
  obtain rfl := Option.some.inj H
  go_wp2
  go_ret
  exact ⟨tq_1, th_⟩
 rw [if_neg c9] at H
 have a9 := decide_eq_false c9
 clear c9
 (first | rw [a9] | (simp only [i64_w, i32_w]; rw [a9]) | skip)
 have H' := Aside0.mk H
 clear H
 go_wp2
 go_roundg k1
 case measure => have := HK1.out; omega
 case rel => exact ⟨(aa), (wrap64 (a5 + 1)), tq_3, tq_3, H', ⟨tq_22⟩, ⟨th_⟩⟩

/-! ### laws_szInode: function 34 -/
def laws_szInode.f (k : Nat) (aa : Int) (ab : Int) (ac : Int) (a5 : ByteArray) (a8 : List (S107)) (a9 : List (S109)) (a1 : Int) : Option (Int) := if (wrap64 (a1 - (a5.size : Int))) < 0 then (some (-1)) else ((laws_szRecS.f k a8 (wrap64 (a1 - (a5.size : Int)))).bind fun a6 => (if a6 < 0 then (some (-1)) else ((laws_szEntryS.f k a9 a6).bind fun a7 => (if a7 < 0 then (some (-1)) else (some a7)))))
set_option maxHeartbeats 8000000 in
set_option maxRecDepth 100000 in
theorem laws_szInode.calls (k : Nat) (al : Int) (am : Int) (an : Int) (a9 : ByteArray) (ab : Option Addr) (ac : Nat) (l0_4 : List (S107)) (ae : Option Addr) (af : Nat) (a6 : List (S109)) (a1 : Int) (r : Int) (w : World) (ah : Kd.C k107 w ab l0_4.length l0_4) (ai : l0_4.length ≤ ac) (aj : Kd.C k109 w ae a6.length a6) (ak : a6.length ≤ af) (h : laws_szInode.f k al am an a9 l0_4 a6 a1 = some r) :
  Calls Tryz.prog 34 #[.agg #[.int .i64 al, .int .i64 am, .int .i64 an, .string a9, .slice ab l0_4.length ac, .slice ae a6.length af], .int .i64 a1] w fun e w' => e = .returned (.int .i64 r) ∧ Below w.heap.size w w' := by
 have hu62 := Tryz.underlying62
 have HR0_4 := Aside0.mk ah
 have aq := Aside0.mk ai
 clear ah ai
 have HR0_5 := Aside0.mk aj
 have ar := Aside0.mk ak
 clear aj ak
 have HB := Aside0.mk (Below.refl w.heap.size w)
 unfold laws_szInode.f at h
 have H := h
 clear h
 have ax := Aside0.mk H
 clear H
 go_enter Tryz.func34, Tryz.ntmps34
 go_upto_if 11 with (first | ((with_reducible refine gate_dst (N := 2) rfl ?_); refine be_ 2 (cs := #[.int .i64 al, .int .i64 am, .int .i64 an, .string a9, .slice ab l0_4.length ac, .slice ae a6.length af]) 62 ?_; intro ay hg w4 hbox hb; have z_ := bx0_ th_ hb hbox hg; clear HB; obtain ⟨HB, a5, az, b0⟩ := z_; clear hb hbox hg; have b2 := bb6_ a5.out))
 (try simp only [Act.put, List.setIfInBounds_toArray, List.set_cons_zero, List.set_cons_succ])
 (try clear b2)
 have H := ax.out
 clear ax
 by_cases c6 : (wrap64 (a1 - (a9.size : Int))) < 0
 ·rw [if_pos c6] at H
  have aa := decide_eq_true c6
  clear c6
  (first | rw [aa] | (simp only [i64_w, i32_w]; rw [aa]) | skip)
  obtain rfl := Option.some.inj H
  go_wp2
  go_ret
  exact ⟨tq_1, th_⟩
 rw [if_neg c6] at H
 have aa := decide_eq_false c6
 clear c6
 (first | rw [aa] | (simp only [i64_w, i32_w]; rw [aa]) | skip)
 obtain ⟨ag, A7, H⟩ := bd_ H
 have b1 := Aside0.mk H
 clear H
 have b3 := bb6_ a5.out
 go_upto_if 17 with (first | ((with_reducible refine gate_callee (f := 61) rfl ?_); refine goesL_ (some 15) rfl rfl Tryz.func61 (by kernel_rfl) rfl #[.slice ab l0_4.length ac, .int .i64 (wrap64 (a1 - (a9.size : Int)))] rfl tq_0 ?_; (with_reducible refine (laws_szRecS.calls k _ _ l0_4 (wrap64 (a1 - (a9.size : Int))) ag _ ?side1 ?side2 A7.out).mono ?_); (case side1 => exact tq_41); (case side2 => exact aq.out); rintro e b5 ⟨rfl, hb⟩; refine ⟨_, rfl, ?_⟩; have z_ := bw1_ (kb_ a5) th_ hb; clear a5 HB; obtain ⟨a5, HB⟩ := z_; (try clear hb)))
 (try simp only [Act.put, List.setIfInBounds_toArray, List.set_cons_zero, List.set_cons_succ])
 (try clear b3)
 have H := b1.out
 clear b1
 by_cases ao : ag < 0
 ·rw [if_pos ao] at H
  have a7 := decide_eq_true ao
  clear ao
  (first | rw [a7] | (simp only [i64_w, i32_w]; rw [a7]) | skip)
  obtain rfl := Option.some.inj H
  go_wp2
  go_ret
  exact ⟨tq_1, th_⟩
 rw [if_neg ao] at H
 have a7 := decide_eq_false ao
 clear ao
 (first | rw [a7] | (simp only [i64_w, i32_w]; rw [a7]) | skip)
 obtain ⟨au, b4, H⟩ := bd_ H
 have av := Aside0.mk H
 clear H
 have aw := bb6_ a5.out
 go_upto_if 23 with (first | ((with_reducible refine gate_callee (f := 62) rfl ?_); refine goesL_ (some 21) rfl rfl Tryz.func62 (by kernel_rfl) rfl #[.slice ae a6.length af, .int .i64 ag] rfl tq_0 ?_; (with_reducible refine (laws_szEntryS.calls k _ _ a6 ag au _ ?side1 ?side2 b4.out).mono ?_); (case side1 => exact tq_40); (case side2 => exact ar.out); rintro e b6 ⟨rfl, hb⟩; refine ⟨_, rfl, ?_⟩; have z_ := bw1_ (kb_ a5) th_ hb; clear a5 HB; obtain ⟨a5, HB⟩ := z_; (try clear hb)))
 (try simp only [Act.put, List.setIfInBounds_toArray, List.set_cons_zero, List.set_cons_succ])
 (try clear aw)
 have H := av.out
 clear av
 by_cases ap : au < 0
 ·rw [if_pos ap] at H
  have a8 := decide_eq_true ap
  clear ap
  (first | rw [a8] | (simp only [i64_w, i32_w]; rw [a8]) | skip)
  obtain rfl := Option.some.inj H
  go_wp2
  go_ret
  exact ⟨tq_1, th_⟩
 rw [if_neg ap] at H
 have a8 := decide_eq_false ap
 clear ap
 (first | rw [a8] | (simp only [i64_w, i32_w]; rw [a8]) | skip)
 obtain rfl := Option.some.inj H
 go_wp2
 go_ret
 exact ⟨tq_1, th_⟩

/-! ### laws_szInodeS: function 18 -/
def laws_szInodeS.l0 : Nat → List (S62) → Int → Int → Option (Int)
 | 0, _, _, _ => none
 | k + 1, x0, x1, x5 => if x5 < (x0.length : Int) then (if 0 ≤ x5 then ((laws_szInode.f k ((rd_T62 x0 x5).f0) ((rd_T62 x0 x5).f1) ((rd_T62 x0 x5).f2) ((rd_T62 x0 x5).f3) ((rd_T62 x0 x5).f4) ((rd_T62 x0 x5).f5) x1).bind fun a5 => (if a5 < 0 then (some (-1)) else (laws_szInodeS.l0 k x0 a5 (wrap64 (x5 + 1))))) else (none)) else (some x1)
def laws_szInodeS.f (k : Nat) (l0 : List (S62)) (a1 : Int) : Option (Int) := if (wrap64 (a1 - (l0.length : Int))) < 0 then (some (-1)) else (laws_szInodeS.l0 k l0 (wrap64 (a1 - (l0.length : Int))) 0)
set_option maxHeartbeats 8000000 in
set_option maxRecDepth 100000 in
theorem laws_szInodeS.calls (k : Nat) (A0 : Option Addr) (c0 : Nat) (l0 : List (S62)) (a1 : Int) (r : Int) (w : World) (hr0 : Kd.C k62 w A0 l0.length l0) (hc0 : l0.length ≤ c0) (h : laws_szInodeS.f k l0 a1 = some r) :
  Calls Tryz.prog 18 #[.slice A0 l0.length c0, .int .i64 a1] w fun e w' => e = .returned (.int .i64 r) ∧ Below w.heap.size w w' := by
 have hu62 := Tryz.underlying62
 have HR0 := Aside0.mk hr0
 have b0 := Aside0.mk hc0
 clear hr0 hc0
 have HB := Aside0.mk (Below.refl w.heap.size w)
 unfold laws_szInodeS.f at h
 have H := h
 clear h
 by_cases c3 : (wrap64 (a1 - (l0.length : Int))) < 0
 ·rw [if_pos c3] at H
  have au := decide_eq_true c3
  clear c3
  obtain rfl := Option.some.inj H
  go_enter Tryz.func18, Tryz.ntmps18
  go_wp2
  go_ret
  exact ⟨tq_1, th_⟩
 rw [if_neg c3] at H
 have au := decide_eq_false c3
 clear c3
 have H' := Aside0.mk H
 clear H
 go_enter Tryz.func18, Tryz.ntmps18
 go_wp2
 go_loopg [1, 5] k (fun kq v1 v5 w' => ∃ (ah : Int) (a5 : Int), v1 = .int .i64 ah ∧ v5 = .int .i64 a5 ∧ Aside0 (laws_szInodeS.l0 kq l0 ah a5 = some r) ∧ Aside0 (kq ≤ k) ∧ Aside0 (Below w.heap.size w w'))
 case atStart => exact ⟨(wrap64 (a1 - (l0.length : Int))), (0), tq_3, tq_3, H', ⟨Nat.le_refl _⟩, ⟨th_⟩⟩
 case round =>
 clear H'
 try clear c1; try clear p2; try clear c3; try clear au
 obtain ⟨ah, a5, rfl, rfl, HA, HK1, HB⟩ := hrel
 cases gk with
 | zero => exact absurd HA.out (by simp [laws_szInodeS.l0])
 | succ k1 =>
 have H := HA.out
 clear HA
 simp only [laws_szInodeS.l0] at H
 by_cases c4 : a5 < (l0.length : Int)
 rotate_left
 ·rw [if_neg c4] at H
  have av := decide_eq_false c4
  clear c4
  obtain rfl := Option.some.inj H
  go_wp2
  go_ret
  exact ⟨tq_1, th_⟩
 rw [if_pos c4] at H
 have av := decide_eq_true c4
 clear c4
 obtain ⟨c5, H⟩ := fc_ H
 have az := decide_eq_true c5
 clear c5
 obtain ⟨an, A6, H⟩ := bd_ H
 have ax := Aside0.mk H
 clear H
 have p110 : 0 ≤ (a5 : Int) := of_decide_eq_true tq_2
 have q110 : a5 < (l0.length : Int) := of_decide_eq_true tq_2
 obtain ⟨ay, ao, ap, aq, ar, aw, a6, a7, a8, a9, aa, ab, ac, ae, af, ag⟩ := at_T62 HR0.out a5 p110 q110
 cases aw
 replace a6 := hx_ HB.out a6
 replace a7 := hx_ HB.out a7
 replace a8 := hx_ HB.out a8
 replace a9 := hx_ HB.out a9
 replace aa := hx_ HB.out aa
 replace ab := hx_ HB.out ab
 have aj := Aside0.mk ae
 have ak := Aside0.mk ac
 clear ae ac
 have al := Aside0.mk ag
 have am := Aside0.mk af
 clear ag af
 replace p110 := eq_true p110
 replace q110 := eq_true q110
 go_upto_if 25 with (first | ((with_reducible refine gate_callee (f := 34) rfl ?_); refine goesL_ (some 23) rfl rfl Tryz.func34 (by kernel_rfl) rfl #[.agg #[.int .i64 ((rd_T62 l0 a5).f0), .int .i64 ((rd_T62 l0 a5).f1), .int .i64 ((rd_T62 l0 a5).f2), .string ((rd_T62 l0 a5).f3), .slice ao ((rd_T62 l0 a5).f4).length ap, .slice aq ((rd_T62 l0 a5).f5).length ar], .int .i64 ah] rfl tq_0 ?_; (with_reducible refine (laws_szInode.calls k1 ((rd_T62 l0 a5).f0) ((rd_T62 l0 a5).f1) ((rd_T62 l0 a5).f2) ((rd_T62 l0 a5).f3) _ _ ((rd_T62 l0 a5).f4) _ _ ((rd_T62 l0 a5).f5) ah an _ ?side1 ?side2 ?side3 ?side4 A6.out).mono ?_); (case side1 => repeat (first | exact (Kd.C_below aj.out HB.out) | (with_reducible refine Kd.C_alloc ?_ _) | (with_reducible refine Kd.C_drewN ?_ _) | (with_reducible refine Kd.C_drew ?_))); (case side2 => exact ak.out); (case side3 => repeat (first | exact (Kd.C_below al.out HB.out) | (with_reducible refine Kd.C_alloc ?_ _) | (with_reducible refine Kd.C_drewN ?_ _) | (with_reducible refine Kd.C_drew ?_))); (case side4 => exact am.out); rintro e w8 ⟨rfl, hb⟩; refine ⟨_, rfl, ?_⟩; have n0_ := Aside0.mk (below_step th_ hb); clear HB; have HB := n0_; clear n0_; (try clear hb)))
 (try simp only [Act.put, List.setIfInBounds_toArray, List.set_cons_zero, List.set_cons_succ])
 (try clear a6 a7 a8 a9 aa ab)
 have H := ax.out
 clear ax
 by_cases c9 : an < 0
 ·rw [if_pos c9] at H
  have ai := decide_eq_true c9
  clear c9
  (first | rw [ai] | (simp only [i64_w, i32_w]; rw [ai]) | skip)
  obtain rfl := Option.some.inj H
  go_wp2
  go_ret
  exact ⟨tq_1, th_⟩
 rw [if_neg c9] at H
 have ai := decide_eq_false c9
 clear c9
 (first | rw [ai] | (simp only [i64_w, i32_w]; rw [ai]) | skip)
 have H' := Aside0.mk H
 clear H
 go_wp2
 go_roundg k1
 case measure => have := HK1.out; omega
 case rel => exact ⟨(an), (wrap64 (a5 + 1)), tq_3, tq_3, H', ⟨tq_22⟩, ⟨th_⟩⟩

/-! ### laws_szPart: function 5 -/
def laws_szPart.f (k : Nat) (a9 : Int) (a7 : List Int) (a8 : List (S62)) (a1 : Int) : Option (Int) := (laws_szIntS.f a7 a1).bind fun a5 => (if a5 < 0 then (some (-1)) else ((laws_szInodeS.f k a8 a5).bind fun a6 => (if a6 < 0 then (some (-1)) else (some a6))))
set_option maxHeartbeats 8000000 in
set_option maxRecDepth 100000 in
theorem laws_szPart.calls (k : Nat) (ak : Int) (aa : Option Addr) (ab : Nat) (a5 : List Int) (ac : Option Addr) (ae : Nat) (a6 : List (S62)) (a1 : Int) (r : Int) (w : World) (ag : Kd.C (Kd.int .i64) w aa a5.length a5) (ah : a5.length ≤ ab) (ai : Kd.C k62 w ac a6.length a6) (aj : a6.length ≤ ae) (h : laws_szPart.f k ak a5 a6 a1 = some r) :
  Calls Tryz.prog 5 #[.agg #[.int .i64 ak, .slice aa a5.length ab, .slice ac a6.length ae], .int .i64 a1] w fun e w' => e = .returned (.int .i64 r) ∧ Below w.heap.size w w' := by
 have hu27 := Tryz.underlying27
 have HR0_1 := Aside0.mk ag
 have am := Aside0.mk ah
 clear ag ah
 have HR0_2 := Aside0.mk ai
 have an := Aside0.mk aj
 clear ai aj
 have HB := Aside0.mk (Below.refl w.heap.size w)
 unfold laws_szPart.f at h
 have H := h
 clear h
 obtain ⟨af, A3, H⟩ := bd_ H
 have aq := Aside0.mk H
 clear H
 go_enter Tryz.func5, Tryz.ntmps5
 go_upto_if 10 with (first | ((with_reducible refine gate_dst (N := 2) rfl ?_); refine be_ 2 (cs := #[.int .i64 ak, .slice aa a5.length ab, .slice ac a6.length ae]) 27 ?_; intro ar hg w5 hbox hb; have z_ := bx0_ th_ hb hbox hg; clear HB; obtain ⟨HB, a7, au, av⟩ := z_; clear hb hbox hg; have ax := bb3_ a7.out) | ((with_reducible refine gate_callee (f := 17) rfl ?_); refine goesL_ (some 8) rfl rfl Tryz.func17 (by kernel_rfl) rfl #[.slice aa a5.length ab, .int .i64 a1] rfl tq_0 ?_; (with_reducible refine (laws_szIntS.calls _ _ a5 a1 af _ ?side1 ?side2 A3.out).mono ?_); (case side1 => exact tq_21); (case side2 => exact am.out); rintro e w' ⟨rfl, ⟨nd, rfl⟩⟩; refine ⟨_, rfl, ?_⟩))
 (try simp only [Act.put, List.setIfInBounds_toArray, List.set_cons_zero, List.set_cons_succ])
 (try clear ax)
 have H := aq.out
 clear aq
 by_cases c7 : af < 0
 ·rw [if_pos c7] at H
  have a9 := decide_eq_true c7
  clear c7
  (first | rw [a9] | (simp only [i64_w, i32_w]; rw [a9]) | skip)
  obtain rfl := Option.some.inj H
  go_wp2
  go_ret
  exact ⟨tq_1, th_⟩
 rw [if_neg c7] at H
 have a9 := decide_eq_false c7
 clear c7
 (first | rw [a9] | (simp only [i64_w, i32_w]; rw [a9]) | skip)
 obtain ⟨ao, A8, H⟩ := bd_ H
 have aw := Aside0.mk H
 clear H
 have ap := bb3_ a7.out
 go_upto_if 16 with (first | ((with_reducible refine gate_callee (f := 18) rfl ?_); refine goesL_ (some 14) rfl rfl Tryz.func18 (by kernel_rfl) rfl #[.slice ac a6.length ae, .int .i64 af] rfl tq_0 ?_; (with_reducible refine (laws_szInodeS.calls k _ _ a6 af ao _ ?side1 ?side2 A8.out).mono ?_); (case side1 => exact tq_68); (case side2 => exact an.out); rintro e ay ⟨rfl, hb⟩; refine ⟨_, rfl, ?_⟩; have z_ := bw1_ (kb_ a7) th_ hb; clear a7 HB; obtain ⟨a7, HB⟩ := z_; (try clear hb)))
 (try simp only [Act.put, List.setIfInBounds_toArray, List.set_cons_zero, List.set_cons_succ])
 (try clear ap)
 have H := aw.out
 clear aw
 by_cases al : ao < 0
 ·rw [if_pos al] at H
  have a8 := decide_eq_true al
  clear al
  (first | rw [a8] | (simp only [i64_w, i32_w]; rw [a8]) | skip)
  obtain rfl := Option.some.inj H
  go_wp2
  go_ret
  exact ⟨tq_1, th_⟩
 rw [if_neg al] at H
 have a8 := decide_eq_false al
 clear al
 (first | rw [a8] | (simp only [i64_w, i32_w]; rw [a8]) | skip)
 obtain rfl := Option.some.inj H
 go_wp2
 go_ret
 exact ⟨tq_1, th_⟩

/-! ### laws_toGeo: function 7 -/
def laws_toGeo.f (a5 : Int) (a6 : Int) (a7 : Int) (a8 : Int) : Option (Int × Int × Int × Int) := some (a5, a6, a7, a8)
set_option maxHeartbeats 8000000 in
set_option maxRecDepth 100000 in
theorem laws_toGeo.calls (ae : Int) (af : Int) (ag : Int) (ah : Int) (r1 : Int) (r2 : Int) (r3 : Int) (r4 : Int) (w : World) (h : laws_toGeo.f ae af ag ah = some (r1, r2, r3, r4)) :
  Calls Tryz.prog 7 #[.agg #[.int .i64 ae, .int .i64 af, .int .i64 ag, .int .i64 ah]] w fun e w' => e = .returned (.agg #[.int .i64 r1, .int .i64 r2, .int .i64 r3, .int .i64 r4]) ∧ Below w.heap.size w w' := by
 have hu23 := Tryz.underlying23
 have hu31 := Tryz.underlying31
 have HB := Aside0.mk (Below.refl w.heap.size w)
 unfold laws_toGeo.f at h
 have H := h
 clear h
 simp only [Option.some.injEq, Prod.mk.injEq] at H
 obtain ⟨rfl, rfl, rfl, rfl⟩ := H
 go_enter Tryz.func7, Tryz.ntmps7
 go_wp2_with (first | ((with_reducible refine gate_dst (N := 1) rfl ?_); refine be_ 1 (cs := #[.int .i64 ae, .int .i64 af, .int .i64 ag, .int .i64 ah]) 23 ?_; intro ak hg w2 hbox hb; have z_ := bx0_ th_ hb hbox hg; clear HB; obtain ⟨HB, a5, al, am⟩ := z_; clear hb hbox hg) | ((with_reducible refine gate_dst (N := 2) rfl ?_); refine be_ 2 (cs := #[.int .i64 0, .int .i64 0, .int .i64 0, .int .i64 0]) 31 ?_; intro ai hg w3 hbox hb; have z_ := bx1_ (kb_ a5) th_ hb hbox hg; clear a5 HB; obtain ⟨a5, HB, a6, an, ao, a7, a8⟩ := z_; clear hb hbox hg) | ((with_reducible refine gate_dst (N := 3) rfl ?_); refine be_ 3 (cs := #[.int .i64 0, .int .i64 0, .int .i64 0, .int .i64 0]) 31 ?_; intro ap hg w4 hbox hb; have z_ := bx2_ (kb_ a5) (kb_ a6) th_ hb hbox hg; clear a5 a6 HB; obtain ⟨a5, a6, HB, aj, aq, ar, a9, aa, ab, ac⟩ := z_; clear hb hbox hg; obtain ⟨hnb5, hnc5, hnb6, hnc6⟩ := an4_ a7 a8 a9 aa; have av := bb4_ a5.out; obtain ⟨hnb8, hnc8⟩ := an2_ ac ab; have aw := bb4_ aj.out; have au := bb4_ a6.out))
 refine bodyPost_ret (results_cell_row rfl _ _ ai 31 #[.int .i64 ae, .int .i64 af, .int .i64 ag, .int .i64 ah] (0, 0) _ rfl tb_ Tryz.underlying31 rfl (by kernel_rfl)) rfl ?_
 exact ⟨tq_1, th_⟩

/-! ### laws_toIntS: function 22 -/
def laws_toIntS.l0 : Nat → List Int → List Int → Int → Option (List Int)
 | 0, _, _, _ => none
 | k + 1, x0, x3, x4 => if x4 < (x0.length : Int) then (if 0 ≤ x4 then (if x4 < (x3.length : Int) then (laws_toIntS.l0 k x0 (x3.set (x4 : Int).toNat (rd x0 x4)) (wrap64 (x4 + 1))) else (none)) else (none)) else (some x3)
def laws_toIntS.f (k : Nat) (l0 : List Int) : Option (List Int) := if 0 ≤ (l0.length : Int) then (if ((l0.length : Int) : Int).toNat ≤ 35184372088832 then (laws_toIntS.l0 k l0 (List.replicate ((l0.length : Int) : Int).toNat 0) 0) else (none)) else (none)
set_option maxHeartbeats 8000000 in
set_option maxRecDepth 100000 in
theorem laws_toIntS.calls (k : Nat) (A0 : Option Addr) (c0 : Nat) (l0 : List Int) (r : List Int) (w : World) (hr0 : Kd.C (Kd.int .i64) w A0 l0.length l0) (hc0 : l0.length ≤ c0) (h : laws_toIntS.f k l0 = some r) :
  Calls Tryz.prog 22 #[.slice A0 l0.length c0] w fun e w' => ∃ v0_ : Value, e = .returned (v0_) ∧ Kd.R (Kd.int .i64) 3 w' w.heap.size (fun _ => True) v0_ r ∧ Below w.heap.size w w' := by
 have HR0 := Aside0.mk hr0
 have ax := Aside0.mk hc0
 clear hr0 hc0
 have HB := Aside0.mk (Below.refl w.heap.size w)
 unfold laws_toIntS.f at h
 have H := h
 clear h
 obtain ⟨c2, H⟩ := fc_ H
 have ab := eq_true c2
 have ac := decide_eq_true c2
 clear c2
 obtain ⟨c3, H⟩ := fc_ H
 have ae := eq_true c3
 have af := decide_eq_true c3
 clear c3
 obtain ⟨aa, hy118⟩ : ∃ y_ : List Int, y_ = (List.replicate ((l0.length : Int) : Int).toNat 0) := ⟨_, rfl⟩
 replace H : (laws_toIntS.l0 k l0 aa 0) = some r := by first | (rw [hy118]; with_reducible exact H) | (have H2_ := (Option.bind_some _ _).symm.trans H; rw [hy118]; with_reducible exact H2_) | (have H2_ := (Option.bind_some _ _).symm.trans H; with_reducible exact H2_) | with_reducible exact H | (rw [hy118]; exact H) | exact H
 have Ny118 := Aside0.mk hy118
 clear hy118
 have H' := Aside0.mk H
 clear H
 go_enter Tryz.func22, Tryz.ntmps22
 go_wp2_with (first | ((with_reducible refine gate_dst (N := 7) rfl ?_); refine Kd.R_make (Kd.int .i64) _ 3 rfl (N := 7) rfl 24 _ _ rfl (l0.length : Int) rfl rfl Tryz.underlying24 (.int .i64 0) 8 info3 rfl (by decide) (by omega) 0 (ok := fun _ => True) (okp := fun _ => True) rfl (fun _ hk => hk) trivial (of_decide_eq_true tq_2) (Nat.le_trans (Nat.mul_le_mul_right _ (of_decide_eq_true tq_2 : (l0.length : Int).toNat ≤ 35184372088832)) (by omega)) (Below.refl _ _) (Nat.le_refl _) ?_; intro v119 w4 ho5 hb hg_ hnew_; clear hg_ hnew_; (first | rw [← Ny118.out] at ho5 | (simp only [Int.reduceToNat] at ho5; rw [← Ny118.out] at ho5)); have z_ := p_ (Kd.R_lower ho5 (below_size th_)) <| a_ (below_step th_ hb); clear HB; obtain ⟨HO120, HB⟩ := z_; clear hb ho5))
 go_loopg [4] k (fun kq v4 w' => ∃ (a8 : List Int) (a5 : Int), v4 = .int .i64 a5 ∧ Aside0 (laws_toIntS.l0 kq l0 a8 a5 = some r) ∧ Aside0 (kq ≤ k) ∧ Aside0 (Kd.R (Kd.int .i64) 3 w' w.heap.size (fun _ => True) v119 a8) ∧ Aside0 (Below w.heap.size w w'))
 case atStart => exact ⟨(aa), (0), tq_3, H', ⟨Nat.le_refl _⟩, ⟨(raR_ HO120)⟩, ⟨th_⟩⟩
 case round =>
 clear H'
 try clear c2; try clear ab; try clear ac; try clear p2; try clear c3; try clear ae; try clear af
 obtain ⟨a8, a5, rfl, HA, HK1, a6, HB⟩ := hrel
 cases gk with
 | zero => exact absurd HA.out (by simp [laws_toIntS.l0])
 | succ k1 =>
 have H := HA.out
 clear HA
 simp only [laws_toIntS.l0] at H
 by_cases c6 : a5 < (l0.length : Int)
 rotate_left
 ·rw [if_neg c6] at H
  have ag := decide_eq_false c6
  clear c6
  obtain rfl := Option.some.inj H
  go_wp2
  go_ret
  exact ⟨_, tq_1, (raR_ a6), th_⟩
 rw [if_pos c6] at H
 have ag := decide_eq_true c6
 clear c6
 obtain ⟨c7, H⟩ := fc_ H
 have aq := decide_eq_true c7
 clear c7
 obtain ⟨c8, H⟩ := fc_ H
 have ar := decide_eq_true c8
 clear c8
 obtain ⟨a9, hy122⟩ : ∃ y_ : List Int, y_ = (a8.set (a5 : Int).toNat (rd l0 a5)) := ⟨_, rfl⟩
 replace H : (laws_toIntS.l0 k1 l0 a9 (wrap64 (a5 + 1))) = some r := by first | (rw [hy122]; with_reducible exact H) | (have H2_ := (Option.bind_some _ _).symm.trans H; rw [hy122]; with_reducible exact H2_) | (have H2_ := (Option.bind_some _ _).symm.trans H; with_reducible exact H2_) | with_reducible exact H | (rw [hy122]; exact H) | exact H
 have Ny122 := Aside0.mk hy122
 clear hy122
 have H' := Aside0.mk H
 clear H
 have p121 : 0 ≤ (a5 : Int) := of_decide_eq_true tq_2
 have q121 : a5 < (l0.length : Int) := of_decide_eq_true tq_2
 obtain ⟨ak, ah, a7⟩ := Kd.at_int HR0.out a5 p121 q121
 cases ah
 replace a7 := hx_ HB.out a7
 replace p121 := eq_true p121
 replace q121 := eq_true q121
 have p9 : 0 ≤ (a5 : Int) := of_decide_eq_true tq_2
 have q9 : (a5 : Int) < ((a8.length : Int) : Int) := of_decide_eq_true tq_2
 obtain ⟨ai, au, al, am, av, ay, an⟩ := Kd.R_form a6.out (by omega)
 (first | cases al | (injection al with ea_ en_ ec_; (first | subst ea_ | (injection ea_ with ea_; subst ea_)); subst ec_; clear en_))
 have aw := Aside0.mk am
 have az := Aside0.mk an
 clear am av an
 obtain ⟨ao, ap⟩ := Kd.R_celln 0 a6.out (a5 : Int) p9 q9
 replace p9 := eq_true p9
 replace q9 := eq_true q9
 have HP10 := Kd.R_putg a6.out (a5 : Int) (rd l0 a5)
 go_wp2_with (first | ((with_reducible refine gate_store (t := 3) (p := 20) rfl ?_); refine store_event (t := 3) (p := 20) (v := ?vo_w11) (w1 := (wr.setCell ⟨ai, (a5 : Int).toNat, none⟩ (.int .i64 (rd l0 a5)))) ?hg ?ho ?hn ?hr ?_; (case ho => rfl); (case hg => rfl); (case hn => rfl); (case hr => first | (go_simp; done) | (go_simp; rfl)); intro aj hw; have hg : wr.grownBy aj (some ai) := (by rw [hw]; exact HP10.2); have hp_ : Kd.R (Kd.int .i64) 3 aj w.heap.size (fun _ => True) (.slice (some ⟨ai, 0, none⟩) a8.length au) a9 := (by rw [hw, Ny122.out]; exact HP10.1); clear HP10; have z_ := p_ (hp_) <| a_ ((by rw [hw]; exact below_set (HB.out) aw.out : Below w.heap.size w aj)); clear a6 HB; obtain ⟨a6, HB⟩ := z_; clear hg hw hp_))
 go_roundg k1
 case measure => have := HK1.out; omega
 case rel => exact ⟨(a9), (wrap64 (a5 + 1)), tq_3, H', ⟨tq_22⟩, ⟨(raR_ a6)⟩, ⟨th_⟩⟩

/-! ### laws_toRec: function 94 -/
def laws_toRec.f (a5 : Int) (a6 : Int) (a7 : ByteArray) : Option (Int × Int × ByteArray) := some (a5, a6, a7)
set_option maxHeartbeats 8000000 in
set_option maxRecDepth 100000 in
theorem laws_toRec.calls (ae : Int) (af : Int) (ag : ByteArray) (r1 : Int) (r2 : Int) (r3 : ByteArray) (w : World) (h : laws_toRec.f ae af ag = some (r1, r2, r3)) :
  Calls Tryz.prog 94 #[.agg #[.int .i64 ae, .int .i64 af, .string ag]] w fun e w' => e = .returned (.agg #[.int .i64 r1, .int .i64 r2, .string r3]) ∧ Below w.heap.size w w' := by
 have hu107 := Tryz.underlying107
 have hu89 := Tryz.underlying89
 have HB := Aside0.mk (Below.refl w.heap.size w)
 unfold laws_toRec.f at h
 have H := h
 clear h
 simp only [Option.some.injEq, Prod.mk.injEq] at H
 obtain ⟨rfl, rfl, rfl⟩ := H
 go_enter Tryz.func94, Tryz.ntmps94
 go_wp2_with (first | ((with_reducible refine gate_dst (N := 1) rfl ?_); refine be_ 1 (cs := #[.int .i64 ae, .int .i64 af, .string ag]) 107 ?_; intro aj hg w2 hbox hb; have z_ := bx0_ th_ hb hbox hg; clear HB; obtain ⟨HB, a5, ak, al⟩ := z_; clear hb hbox hg) | ((with_reducible refine gate_dst (N := 2) rfl ?_); refine be_ 2 (cs := #[.int .i64 0, .int .i64 0, .string (⟨#[]⟩ : ByteArray)]) 89 ?_; intro ah hg w3 hbox hb; have z_ := bx1_ (kb_ a5) th_ hb hbox hg; clear a5 HB; obtain ⟨a5, HB, a6, am, an, a7, a8⟩ := z_; clear hb hbox hg) | ((with_reducible refine gate_dst (N := 3) rfl ?_); refine be_ 3 (cs := #[.int .i64 0, .int .i64 0, .string (⟨#[]⟩ : ByteArray)]) 89 ?_; intro ao hg w4 hbox hb; have z_ := bx2_ (kb_ a5) (kb_ a6) th_ hb hbox hg; clear a5 a6 HB; obtain ⟨a5, a6, HB, ai, ap, aq, a9, aa, ab, ac⟩ := z_; clear hb hbox hg; obtain ⟨hnb5, hnc5, hnb6, hnc6⟩ := an4_ a7 a8 a9 aa; have au := bb3_ a5.out; obtain ⟨hnb8, hnc8⟩ := an2_ ac ab; have av := bb3_ ai.out; have ar := bb3_ a6.out))
 refine bodyPost_ret (results_cell_row rfl _ _ ah 89 #[.int .i64 ae, .int .i64 af, .string ag] (0, 0) _ rfl tb_ Tryz.underlying89 rfl (by kernel_rfl)) rfl ?_
 exact ⟨tq_1, th_⟩

end Go.Proofs.YtleoknilacjakaaGreat.PFnExactChanged
