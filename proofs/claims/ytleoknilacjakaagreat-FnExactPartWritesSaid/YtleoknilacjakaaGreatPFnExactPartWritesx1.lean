/- Contracts of Go functions, written by a program of ours over the print of the kit: each says that the call returns what the Lean function beside it computes. Conditions: as each theorem states them. -/
import Derived.Test.YtleoknilacjakaaGreatPkFnExactPartWrites
import Derived.Test.YtleoknilacjakaaGreatPFnExactPartWritesx0
namespace Go.Proofs.YtleoknilacjakaaGreat.PFnExactPartWrites
open Go.RowKit Go.Proofs.YtleoknilacjakaaGreatW.PrintWords Go.Proofs.YtleoknilacjakaaGreatW.PrintLast Go.Proofs.YtleoknilacjakaaGreatW.PrintMore
attribute [local go_sem] max2_int min2_int max_two min_two max_three min_three max_four min_four   -- for this text's walks alone
set_option linter.unusedVariables false
set_option linter.unusedSimpArgs false

/-! ### laws_szIntS: function 17 -/
def laws_szIntS.f (l0 : List Int) (a1 : Int) : Option (Int) := if (wrap64 (a1 - (l0.length : Int))) < 0 then (some (-1)) else (some (wrap64 (a1 - (l0.length : Int))))
set_option maxHeartbeats 8000000 in
set_option maxRecDepth 100000 in
theorem laws_szIntS.calls (A0 : Option Addr) (c0 : Nat) (l0 : List Int) (a1 : Int) (r : Int) (w : World) (hr0 : Kd.C (Kd.int .i64) w A0 l0.length l0) (hc0 : l0.length ≤ c0) (h : laws_szIntS.f l0 a1 = some r) :
  Calls Tryz.prog 17 #[.slice A0 l0.length c0, .int .i64 a1] w fun e w' => e = .returned (.int .i64 r) ∧ Drawn0 w w' := by
 have HR0 := Aside0.mk hr0
 have a6 := Aside0.mk hc0
 clear hr0 hc0
 unfold laws_szIntS.f at h
 have H := h
 clear h
 by_cases c3 : (wrap64 (a1 - (l0.length : Int))) < 0
 ·rw [if_pos c3] at H
  have a5 := decide_eq_true c3
  clear c3
  obtain rfl := Option.some.inj H
  go_enter Tryz.func17, Tryz.ntmps17
  go_wp2
  go_ret
  exact ⟨tq_3, tq_7⟩
 rw [if_neg c3] at H
 have a5 := decide_eq_false c3
 clear c3
 obtain rfl := Option.some.inj H
 go_enter Tryz.func17, Tryz.ntmps17
 go_wp2
 go_ret
 exact ⟨tq_3, tq_7⟩

/-! ### laws_szRec: function 90 -/
def laws_szRec.f (a0_0 : Int) (a0_1 : Int) (a0_2 : ByteArray) (a1 : Int) : Option (Int) := if (wrap64 (a1 - (a0_2.size : Int))) < 0 then (some (-1)) else (some (wrap64 (a1 - (a0_2.size : Int))))
set_option maxHeartbeats 8000000 in
set_option maxRecDepth 100000 in
theorem laws_szRec.calls (a7 : Int) (a8 : Int) (a6 : ByteArray) (a1 : Int) (r : Int) (w : World) (h : laws_szRec.f a7 a8 a6 a1 = some r) :
  Calls Tryz.prog 90 #[.agg #[.int .i64 a7, .int .i64 a8, .string a6], .int .i64 a1] w fun e w' => e = .returned (.int .i64 r) ∧ Below w.heap.size w w' := by
 have hu107 := Tryz.underlying107
 have HB := Aside0.mk (Below.refl w.heap.size w)
 unfold laws_szRec.f at h
 have H := h
 clear h
 have aa := Aside0.mk H
 clear H
 go_enter Tryz.func90, Tryz.ntmps90
 go_upto_if 11 with (first | ((with_reducible refine gate_dst (N := 2) rfl ?_); refine be_ 2 (cs := #[.int .i64 a7, .int .i64 a8, .string a6]) 107 ?_; intro ab hg w4 hbox hb; have z_ := bx0_ th_ hb hbox hg; clear HB; obtain ⟨HB, a9, ac, ae⟩ := z_; clear hb hbox hg; have af := bb3_ a9.out))
 (try simp only [Act.put, List.setIfInBounds_toArray, List.set_cons_zero, List.set_cons_succ])
 (try clear af)
 have H := aa.out
 clear aa
 by_cases c6 : (wrap64 (a1 - (a6.size : Int))) < 0
 ·rw [if_pos c6] at H
  have a5 := decide_eq_true c6
  clear c6
  (first | rw [a5] | (simp only [i64_w, i32_w]; rw [a5]) | skip)
  obtain rfl := Option.some.inj H
  go_wp2
  go_ret
  exact ⟨tq_1, th_⟩
 rw [if_neg c6] at H
 have a5 := decide_eq_false c6
 clear c6
 (first | rw [a5] | (simp only [i64_w, i32_w]; rw [a5]) | skip)
 obtain rfl := Option.some.inj H
 go_wp2
 go_ret
 exact ⟨tq_1, th_⟩

/-! ### laws_szRecS: function 61 -/
def laws_szRecS.l0 : Nat → List (S107) → Int → Int → Option (Int)
 | 0, _, _, _ => none
 | k + 1, x0, x1, x5 => if x5 < (x0.length : Int) then (if 0 ≤ x5 then ((laws_szRec.f ((rd_T107 x0 x5).f0) ((rd_T107 x0 x5).f1) ((rd_T107 x0 x5).f2) x1).bind fun t103 => (if t103 < 0 then (some (-1)) else (laws_szRecS.l0 k x0 t103 (wrap64 (x5 + 1))))) else (none)) else (some x1)
def laws_szRecS.f (k : Nat) (l0 : List (S107)) (a1 : Int) : Option (Int) := if (wrap64 (a1 - (l0.length : Int))) < 0 then (some (-1)) else (laws_szRecS.l0 k l0 (wrap64 (a1 - (l0.length : Int))) 0)
set_option maxHeartbeats 8000000 in
set_option maxRecDepth 100000 in
theorem laws_szRecS.calls (k : Nat) (A0 : Option Addr) (c0 : Nat) (l0 : List (S107)) (a1 : Int) (r : Int) (w : World) (hr0 : Kd.C k107 w A0 l0.length l0) (hc0 : l0.length ≤ c0) (h : laws_szRecS.f k l0 a1 = some r) :
  Calls Tryz.prog 61 #[.slice A0 l0.length c0, .int .i64 a1] w fun e w' => e = .returned (.int .i64 r) ∧ Below w.heap.size w w' := by
 have hu107 := Tryz.underlying107
 have HR0 := Aside0.mk hr0
 have aj := Aside0.mk hc0
 clear hr0 hc0
 have HB := Aside0.mk (Below.refl w.heap.size w)
 unfold laws_szRecS.f at h
 have H := h
 clear h
 by_cases c3 : (wrap64 (a1 - (l0.length : Int))) < 0
 ·rw [if_pos c3] at H
  have ac := decide_eq_true c3
  clear c3
  obtain rfl := Option.some.inj H
  go_enter Tryz.func61, Tryz.ntmps61
  go_wp2
  go_ret
  exact ⟨tq_1, th_⟩
 rw [if_neg c3] at H
 have ac := decide_eq_false c3
 clear c3
 have H' := Aside0.mk H
 clear H
 go_enter Tryz.func61, Tryz.ntmps61
 go_wp2
 go_loopg [1, 5] k (fun kq v1 v5 w' => ∃ (a9 : Int) (a5 : Int), v1 = .int .i64 a9 ∧ v5 = .int .i64 a5 ∧ Aside0 (laws_szRecS.l0 kq l0 a9 a5 = some r) ∧ Aside0 (kq ≤ k) ∧ Aside0 (Below w.heap.size w w'))
 case atStart => exact ⟨(wrap64 (a1 - (l0.length : Int))), (0), tq_3, tq_3, H', ⟨Nat.le_refl _⟩, ⟨th_⟩⟩
 case round =>
 clear H'
 try clear p2; try clear c3; try clear ac
 obtain ⟨a9, a5, rfl, rfl, HA, HK1, HB⟩ := hrel
 cases gk with
 | zero => exact absurd HA.out (by simp [laws_szRecS.l0])
 | succ k1 =>
 have H := HA.out
 clear HA
 simp only [laws_szRecS.l0] at H
 by_cases c4 : a5 < (l0.length : Int)
 rotate_left
 ·rw [if_neg c4] at H
  have ae := decide_eq_false c4
  clear c4
  obtain rfl := Option.some.inj H
  go_wp2
  go_ret
  exact ⟨tq_1, th_⟩
 rw [if_pos c4] at H
 have ae := decide_eq_true c4
 clear c4
 obtain ⟨c5, H⟩ := fc_ H
 have ai := decide_eq_true c5
 clear c5
 obtain ⟨ab, A6, H⟩ := bd_ H
 have ag := Aside0.mk H
 clear H
 have p102 : 0 ≤ (a5 : Int) := of_decide_eq_true tq_2
 have q102 : a5 < (l0.length : Int) := of_decide_eq_true tq_2
 obtain ⟨ah, af, a6, a7, a8⟩ := at_T107 HR0.out a5 p102 q102
 cases af
 replace a6 := hx_ HB.out a6
 replace a7 := hx_ HB.out a7
 replace a8 := hx_ HB.out a8
 replace p102 := eq_true p102
 replace q102 := eq_true q102
 go_upto_if 25 with (first | ((with_reducible refine gate_callee (f := 90) rfl ?_); refine goesL_ (some 23) rfl rfl Tryz.func90 (by kernel_rfl) rfl #[.agg #[.int .i64 ((rd_T107 l0 a5).f0), .int .i64 ((rd_T107 l0 a5).f1), .string ((rd_T107 l0 a5).f2)], .int .i64 a9] rfl tq_0 ?_; (with_reducible refine (laws_szRec.calls ((rd_T107 l0 a5).f0) ((rd_T107 l0 a5).f1) ((rd_T107 l0 a5).f2) a9 ab _ A6.out).mono ?_); rintro e w8 ⟨rfl, hb⟩; refine ⟨_, rfl, ?_⟩; have n0_ := Aside0.mk (below_step th_ hb); clear HB; have HB := n0_; clear n0_; (try clear hb)))
 (try simp only [Act.put, List.setIfInBounds_toArray, List.set_cons_zero, List.set_cons_succ])
 (try clear a6 a7 a8)
 have H := ag.out
 clear ag
 by_cases c9 : ab < 0
 ·rw [if_pos c9] at H
  have aa := decide_eq_true c9
  clear c9
  (first | rw [aa] | (simp only [i64_w, i32_w]; rw [aa]) | skip)
  obtain rfl := Option.some.inj H
  go_wp2
  go_ret
  exact ⟨tq_1, th_⟩
 rw [if_neg c9] at H
 have aa := decide_eq_false c9
 clear c9
 (first | rw [aa] | (simp only [i64_w, i32_w]; rw [aa]) | skip)
 have H' := Aside0.mk H
 clear H
 go_wp2
 go_roundg k1
 case measure => have := HK1.out; omega
 case rel => exact ⟨(ab), (wrap64 (a5 + 1)), tq_3, tq_3, H', ⟨tq_15⟩, ⟨th_⟩⟩

/-! ### laws_szEntry: function 91 -/
def laws_szEntry.f (a0_0 : Int) (a0_1 : ByteArray) (a1 : Int) : Option (Int) := if (wrap64 (a1 - (a0_1.size : Int))) < 0 then (some (-1)) else (some (wrap64 (a1 - (a0_1.size : Int))))
set_option maxHeartbeats 8000000 in
set_option maxRecDepth 100000 in
theorem laws_szEntry.calls (a7 : Int) (a6 : ByteArray) (a1 : Int) (r : Int) (w : World) (h : laws_szEntry.f a7 a6 a1 = some r) :
  Calls Tryz.prog 91 #[.agg #[.int .i64 a7, .string a6], .int .i64 a1] w fun e w' => e = .returned (.int .i64 r) ∧ Below w.heap.size w w' := by
 have hu109 := Tryz.underlying109
 have HB := Aside0.mk (Below.refl w.heap.size w)
 unfold laws_szEntry.f at h
 have H := h
 clear h
 have a9 := Aside0.mk H
 clear H
 go_enter Tryz.func91, Tryz.ntmps91
 go_upto_if 11 with (first | ((with_reducible refine gate_dst (N := 2) rfl ?_); refine be_ 2 (cs := #[.int .i64 a7, .string a6]) 109 ?_; intro aa hg w4 hbox hb; have z_ := bx0_ th_ hb hbox hg; clear HB; obtain ⟨HB, a8, ab, ac⟩ := z_; clear hb hbox hg; have ae := bb2_ a8.out))
 (try simp only [Act.put, List.setIfInBounds_toArray, List.set_cons_zero, List.set_cons_succ])
 (try clear ae)
 have H := a9.out
 clear a9
 by_cases c6 : (wrap64 (a1 - (a6.size : Int))) < 0
 ·rw [if_pos c6] at H
  have a5 := decide_eq_true c6
  clear c6
  (first | rw [a5] | (simp only [i64_w, i32_w]; rw [a5]) | skip)
  obtain rfl := Option.some.inj H
  go_wp2
  go_ret
  exact ⟨tq_1, th_⟩
 rw [if_neg c6] at H
 have a5 := decide_eq_false c6
 clear c6
 (first | rw [a5] | (simp only [i64_w, i32_w]; rw [a5]) | skip)
 obtain rfl := Option.some.inj H
 go_wp2
 go_ret
 exact ⟨tq_1, th_⟩

/-! ### laws_szEntryS: function 62 -/
def laws_szEntryS.l0 : Nat → List (S109) → Int → Int → Option (Int)
 | 0, _, _, _ => none
 | k + 1, x0, x1, x5 => if x5 < (x0.length : Int) then (if 0 ≤ x5 then ((laws_szEntry.f ((rd_T109 x0 x5).f0) ((rd_T109 x0 x5).f1) x1).bind fun t106 => (if t106 < 0 then (some (-1)) else (laws_szEntryS.l0 k x0 t106 (wrap64 (x5 + 1))))) else (none)) else (some x1)
def laws_szEntryS.f (k : Nat) (l0 : List (S109)) (a1 : Int) : Option (Int) := if (wrap64 (a1 - (l0.length : Int))) < 0 then (some (-1)) else (laws_szEntryS.l0 k l0 (wrap64 (a1 - (l0.length : Int))) 0)
set_option maxHeartbeats 8000000 in
set_option maxRecDepth 100000 in
theorem laws_szEntryS.calls (k : Nat) (A0 : Option Addr) (c0 : Nat) (l0 : List (S109)) (a1 : Int) (r : Int) (w : World) (hr0 : Kd.C k109 w A0 l0.length l0) (hc0 : l0.length ≤ c0) (h : laws_szEntryS.f k l0 a1 = some r) :
  Calls Tryz.prog 62 #[.slice A0 l0.length c0, .int .i64 a1] w fun e w' => e = .returned (.int .i64 r) ∧ Below w.heap.size w w' := by
 have hu109 := Tryz.underlying109
 have HR0 := Aside0.mk hr0
 have ai := Aside0.mk hc0
 clear hr0 hc0
 have HB := Aside0.mk (Below.refl w.heap.size w)
 unfold laws_szEntryS.f at h
 have H := h
 clear h
 by_cases c3 : (wrap64 (a1 - (l0.length : Int))) < 0
 ·rw [if_pos c3] at H
  have ab := decide_eq_true c3
  clear c3
  obtain rfl := Option.some.inj H
  go_enter Tryz.func62, Tryz.ntmps62
  go_wp2
  go_ret
  exact ⟨tq_1, th_⟩
 rw [if_neg c3] at H
 have ab := decide_eq_false c3
 clear c3
 have H' := Aside0.mk H
 clear H
 go_enter Tryz.func62, Tryz.ntmps62
 go_wp2
 go_loopg [1, 5] k (fun kq v1 v5 w' => ∃ (a8 : Int) (a5 : Int), v1 = .int .i64 a8 ∧ v5 = .int .i64 a5 ∧ Aside0 (laws_szEntryS.l0 kq l0 a8 a5 = some r) ∧ Aside0 (kq ≤ k) ∧ Aside0 (Below w.heap.size w w'))
 case atStart => exact ⟨(wrap64 (a1 - (l0.length : Int))), (0), tq_3, tq_3, H', ⟨Nat.le_refl _⟩, ⟨th_⟩⟩
 case round =>
 clear H'
 try clear p2; try clear c3; try clear ab
 obtain ⟨a8, a5, rfl, rfl, HA, HK1, HB⟩ := hrel
 cases gk with
 | zero => exact absurd HA.out (by simp [laws_szEntryS.l0])
 | succ k1 =>
 have H := HA.out
 clear HA
 simp only [laws_szEntryS.l0] at H
 by_cases c4 : a5 < (l0.length : Int)
 rotate_left
 ·rw [if_neg c4] at H
  have ac := decide_eq_false c4
  clear c4
  obtain rfl := Option.some.inj H
  go_wp2
  go_ret
  exact ⟨tq_1, th_⟩
 rw [if_pos c4] at H
 have ac := decide_eq_true c4
 clear c4
 obtain ⟨c5, H⟩ := fc_ H
 have ah := decide_eq_true c5
 clear c5
 obtain ⟨aa, A6, H⟩ := bd_ H
 have af := Aside0.mk H
 clear H
 have p105 : 0 ≤ (a5 : Int) := of_decide_eq_true tq_2
 have q105 : a5 < (l0.length : Int) := of_decide_eq_true tq_2
 obtain ⟨ag, ae, a6, a7⟩ := at_T109 HR0.out a5 p105 q105
 cases ae
 replace a6 := hx_ HB.out a6
 replace a7 := hx_ HB.out a7
 replace p105 := eq_true p105
 replace q105 := eq_true q105
 go_upto_if 25 with (first | ((with_reducible refine gate_callee (f := 91) rfl ?_); refine goesL_ (some 23) rfl rfl Tryz.func91 (by kernel_rfl) rfl #[.agg #[.int .i64 ((rd_T109 l0 a5).f0), .string ((rd_T109 l0 a5).f1)], .int .i64 a8] rfl tq_0 ?_; (with_reducible refine (laws_szEntry.calls ((rd_T109 l0 a5).f0) ((rd_T109 l0 a5).f1) a8 aa _ A6.out).mono ?_); rintro e w8 ⟨rfl, hb⟩; refine ⟨_, rfl, ?_⟩; have n0_ := Aside0.mk (below_step th_ hb); clear HB; have HB := n0_; clear n0_; (try clear hb)))
 (try simp only [Act.put, List.setIfInBounds_toArray, List.set_cons_zero, List.set_cons_succ])
 (try clear a6 a7)
 have H := af.out
 clear af
 by_cases c9 : aa < 0
 ·rw [if_pos c9] at H
  have a9 := decide_eq_true c9
  clear c9
  (first | rw [a9] | (simp only [i64_w, i32_w]; rw [a9]) | skip)
  obtain rfl := Option.some.inj H
  go_wp2
  go_ret
  exact ⟨tq_1, th_⟩
 rw [if_neg c9] at H
 have a9 := decide_eq_false c9
 clear c9
 (first | rw [a9] | (simp only [i64_w, i32_w]; rw [a9]) | skip)
 have H' := Aside0.mk H
 clear H
 go_wp2
 go_roundg k1
 case measure => have := HK1.out; omega
 case rel => exact ⟨(aa), (wrap64 (a5 + 1)), tq_3, tq_3, H', ⟨tq_15⟩, ⟨th_⟩⟩

/-! ### laws_szInode: function 34 -/
def laws_szInode.f (k : Nat) (a0_0 : Int) (a0_1 : Int) (a0_2 : Int) (a0_3 : ByteArray) (l0_4 : List (S107)) (l0_5 : List (S109)) (a1 : Int) : Option (Int) := if (wrap64 (a1 - (a0_3.size : Int))) < 0 then (some (-1)) else ((laws_szRecS.f k l0_4 (wrap64 (a1 - (a0_3.size : Int)))).bind fun t108 => (if t108 < 0 then (some (-1)) else ((laws_szEntryS.f k l0_5 t108).bind fun t109 => (if t109 < 0 then (some (-1)) else (some t109)))))
set_option maxHeartbeats 8000000 in
set_option maxRecDepth 100000 in
theorem laws_szInode.calls (k : Nat) (al : Int) (am : Int) (an : Int) (a9 : ByteArray) (ab : Option Addr) (ac : Nat) (l0_4 : List (S107)) (ae : Option Addr) (af : Nat) (a6 : List (S109)) (a1 : Int) (r : Int) (w : World) (ah : Kd.C k107 w ab l0_4.length l0_4) (ai : l0_4.length ≤ ac) (aj : Kd.C k109 w ae a6.length a6) (ak : a6.length ≤ af) (h : laws_szInode.f k al am an a9 l0_4 a6 a1 = some r) :
  Calls Tryz.prog 34 #[.agg #[.int .i64 al, .int .i64 am, .int .i64 an, .string a9, .slice ab l0_4.length ac, .slice ae a6.length af], .int .i64 a1] w fun e w' => e = .returned (.int .i64 r) ∧ Below w.heap.size w w' := by
 have hu62 := Tryz.underlying62
 have HR0_4 := Aside0.mk ah
 have aq := Aside0.mk ai
 clear ah ai
 have HR0_5 := Aside0.mk aj
 have ar := Aside0.mk ak
 clear aj ak
 have HB := Aside0.mk (Below.refl w.heap.size w)
 unfold laws_szInode.f at h
 have H := h
 clear h
 have ax := Aside0.mk H
 clear H
 go_enter Tryz.func34, Tryz.ntmps34
 go_upto_if 11 with (first | ((with_reducible refine gate_dst (N := 2) rfl ?_); refine be_ 2 (cs := #[.int .i64 al, .int .i64 am, .int .i64 an, .string a9, .slice ab l0_4.length ac, .slice ae a6.length af]) 62 ?_; intro ay hg w4 hbox hb; have z_ := bx0_ th_ hb hbox hg; clear HB; obtain ⟨HB, a5, az, b0⟩ := z_; clear hb hbox hg; have b2 := bb6_ a5.out))
 (try simp only [Act.put, List.setIfInBounds_toArray, List.set_cons_zero, List.set_cons_succ])
 (try clear b2)
 have H := ax.out
 clear ax
 by_cases c6 : (wrap64 (a1 - (a9.size : Int))) < 0
 ·rw [if_pos c6] at H
  have aa := decide_eq_true c6
  clear c6
  (first | rw [aa] | (simp only [i64_w, i32_w]; rw [aa]) | skip)
  obtain rfl := Option.some.inj H
  go_wp2
  go_ret
  exact ⟨tq_1, th_⟩
 rw [if_neg c6] at H
 have aa := decide_eq_false c6
 clear c6
 (first | rw [aa] | (simp only [i64_w, i32_w]; rw [aa]) | skip)
 obtain ⟨ag, A7, H⟩ := bd_ H
 have b1 := Aside0.mk H
 clear H
 have b3 := bb6_ a5.out
 go_upto_if 17 with (first | ((with_reducible refine gate_callee (f := 61) rfl ?_); refine goesL_ (some 15) rfl rfl Tryz.func61 (by kernel_rfl) rfl #[.slice ab l0_4.length ac, .int .i64 (wrap64 (a1 - (a9.size : Int)))] rfl tq_0 ?_; (with_reducible refine (laws_szRecS.calls k _ _ l0_4 (wrap64 (a1 - (a9.size : Int))) ag _ ?side1 ?side2 A7.out).mono ?_); (case side1 => exact tq_26); (case side2 => exact aq.out); rintro e b5 ⟨rfl, hb⟩; refine ⟨_, rfl, ?_⟩; have z_ := bw1_ (kb_ a5) th_ hb; clear a5 HB; obtain ⟨a5, HB⟩ := z_; (try clear hb)))
 (try simp only [Act.put, List.setIfInBounds_toArray, List.set_cons_zero, List.set_cons_succ])
 (try clear b3)
 have H := b1.out
 clear b1
 by_cases ao : ag < 0
 ·rw [if_pos ao] at H
  have a7 := decide_eq_true ao
  clear ao
  (first | rw [a7] | (simp only [i64_w, i32_w]; rw [a7]) | skip)
  obtain rfl := Option.some.inj H
  go_wp2
  go_ret
  exact ⟨tq_1, th_⟩
 rw [if_neg ao] at H
 have a7 := decide_eq_false ao
 clear ao
 (first | rw [a7] | (simp only [i64_w, i32_w]; rw [a7]) | skip)
 obtain ⟨au, b4, H⟩ := bd_ H
 have av := Aside0.mk H
 clear H
 have aw := bb6_ a5.out
 go_upto_if 23 with (first | ((with_reducible refine gate_callee (f := 62) rfl ?_); refine goesL_ (some 21) rfl rfl Tryz.func62 (by kernel_rfl) rfl #[.slice ae a6.length af, .int .i64 ag] rfl tq_0 ?_; (with_reducible refine (laws_szEntryS.calls k _ _ a6 ag au _ ?side1 ?side2 b4.out).mono ?_); (case side1 => exact tq_25); (case side2 => exact ar.out); rintro e b6 ⟨rfl, hb⟩; refine ⟨_, rfl, ?_⟩; have z_ := bw1_ (kb_ a5) th_ hb; clear a5 HB; obtain ⟨a5, HB⟩ := z_; (try clear hb)))
 (try simp only [Act.put, List.setIfInBounds_toArray, List.set_cons_zero, List.set_cons_succ])
 (try clear aw)
 have H := av.out
 clear av
 by_cases ap : au < 0
 ·rw [if_pos ap] at H
  have a8 := decide_eq_true ap
  clear ap
  (first | rw [a8] | (simp only [i64_w, i32_w]; rw [a8]) | skip)
  obtain rfl := Option.some.inj H
  go_wp2
  go_ret
  exact ⟨tq_1, th_⟩
 rw [if_neg ap] at H
 have a8 := decide_eq_false ap
 clear ap
 (first | rw [a8] | (simp only [i64_w, i32_w]; rw [a8]) | skip)
 obtain rfl := Option.some.inj H
 go_wp2
 go_ret
 exact ⟨tq_1, th_⟩

/-! ### laws_szInodeS: function 18 -/
def laws_szInodeS.l0 : Nat → List (S62) → Int → Int → Option (Int)
 | 0, _, _, _ => none
 | k + 1, x0, x1, x5 => if x5 < (x0.length : Int) then (if 0 ≤ x5 then ((laws_szInode.f k ((rd_T62 x0 x5).f0) ((rd_T62 x0 x5).f1) ((rd_T62 x0 x5).f2) ((rd_T62 x0 x5).f3) ((rd_T62 x0 x5).f4) ((rd_T62 x0 x5).f5) x1).bind fun t111 => (if t111 < 0 then (some (-1)) else (laws_szInodeS.l0 k x0 t111 (wrap64 (x5 + 1))))) else (none)) else (some x1)
def laws_szInodeS.f (k : Nat) (l0 : List (S62)) (a1 : Int) : Option (Int) := if (wrap64 (a1 - (l0.length : Int))) < 0 then (some (-1)) else (laws_szInodeS.l0 k l0 (wrap64 (a1 - (l0.length : Int))) 0)
set_option maxHeartbeats 8000000 in
set_option maxRecDepth 100000 in
theorem laws_szInodeS.calls (k : Nat) (A0 : Option Addr) (c0 : Nat) (l0 : List (S62)) (a1 : Int) (r : Int) (w : World) (hr0 : Kd.C k62 w A0 l0.length l0) (hc0 : l0.length ≤ c0) (h : laws_szInodeS.f k l0 a1 = some r) :
  Calls Tryz.prog 18 #[.slice A0 l0.length c0, .int .i64 a1] w fun e w' => e = .returned (.int .i64 r) ∧ Below w.heap.size w w' := by
 have hu62 := Tryz.underlying62
 have HR0 := Aside0.mk hr0
 have b0 := Aside0.mk hc0
 clear hr0 hc0
 have HB := Aside0.mk (Below.refl w.heap.size w)
 unfold laws_szInodeS.f at h
 have H := h
 clear h
 by_cases c3 : (wrap64 (a1 - (l0.length : Int))) < 0
 ·rw [if_pos c3] at H
  have au := decide_eq_true c3
  clear c3
  obtain rfl := Option.some.inj H
  go_enter Tryz.func18, Tryz.ntmps18
  go_wp2
  go_ret
  exact ⟨tq_1, th_⟩
 rw [if_neg c3] at H
 have au := decide_eq_false c3
 clear c3
 have H' := Aside0.mk H
 clear H
 go_enter Tryz.func18, Tryz.ntmps18
 go_wp2
 go_loopg [1, 5] k (fun kq v1 v5 w' => ∃ (ah : Int) (a5 : Int), v1 = .int .i64 ah ∧ v5 = .int .i64 a5 ∧ Aside0 (laws_szInodeS.l0 kq l0 ah a5 = some r) ∧ Aside0 (kq ≤ k) ∧ Aside0 (Below w.heap.size w w'))
 case atStart => exact ⟨(wrap64 (a1 - (l0.length : Int))), (0), tq_3, tq_3, H', ⟨Nat.le_refl _⟩, ⟨th_⟩⟩
 case round =>
 clear H'
 try clear c1; try clear p2; try clear c3; try clear au
 obtain ⟨ah, a5, rfl, rfl, HA, HK1, HB⟩ := hrel
 cases gk with
 | zero => exact absurd HA.out (by simp [laws_szInodeS.l0])
 | succ k1 =>
 have H := HA.out
 clear HA
 simp only [laws_szInodeS.l0] at H
 by_cases c4 : a5 < (l0.length : Int)
 rotate_left
 ·rw [if_neg c4] at H
  have av := decide_eq_false c4
  clear c4
  obtain rfl := Option.some.inj H
  go_wp2
  go_ret
  exact ⟨tq_1, th_⟩
 rw [if_pos c4] at H
 have av := decide_eq_true c4
 clear c4
 obtain ⟨c5, H⟩ := fc_ H
 have az := decide_eq_true c5
 clear c5
 obtain ⟨an, A6, H⟩ := bd_ H
 have ax := Aside0.mk H
 clear H
 have p110 : 0 ≤ (a5 : Int) := of_decide_eq_true tq_2
 have q110 : a5 < (l0.length : Int) := of_decide_eq_true tq_2
 obtain ⟨ay, ao, ap, aq, ar, aw, a6, a7, a8, a9, aa, ab, ac, ae, af, ag⟩ := at_T62 HR0.out a5 p110 q110
 cases aw
 replace a6 := hx_ HB.out a6
 replace a7 := hx_ HB.out a7
 replace a8 := hx_ HB.out a8
 replace a9 := hx_ HB.out a9
 replace aa := hx_ HB.out aa
 replace ab := hx_ HB.out ab
 have aj := Aside0.mk ae
 have ak := Aside0.mk ac
 clear ae ac
 have al := Aside0.mk ag
 have am := Aside0.mk af
 clear ag af
 replace p110 := eq_true p110
 replace q110 := eq_true q110
 go_upto_if 25 with (first | ((with_reducible refine gate_callee (f := 34) rfl ?_); refine goesL_ (some 23) rfl rfl Tryz.func34 (by kernel_rfl) rfl #[.agg #[.int .i64 ((rd_T62 l0 a5).f0), .int .i64 ((rd_T62 l0 a5).f1), .int .i64 ((rd_T62 l0 a5).f2), .string ((rd_T62 l0 a5).f3), .slice ao ((rd_T62 l0 a5).f4).length ap, .slice aq ((rd_T62 l0 a5).f5).length ar], .int .i64 ah] rfl tq_0 ?_; (with_reducible refine (laws_szInode.calls k1 ((rd_T62 l0 a5).f0) ((rd_T62 l0 a5).f1) ((rd_T62 l0 a5).f2) ((rd_T62 l0 a5).f3) _ _ ((rd_T62 l0 a5).f4) _ _ ((rd_T62 l0 a5).f5) ah an _ ?side1 ?side2 ?side3 ?side4 A6.out).mono ?_); (case side1 => repeat (first | exact (Kd.C_below aj.out HB.out) | (with_reducible refine Kd.C_alloc ?_ _) | (with_reducible refine Kd.C_drewN ?_ _) | (with_reducible refine Kd.C_drew ?_))); (case side2 => exact ak.out); (case side3 => repeat (first | exact (Kd.C_below al.out HB.out) | (with_reducible refine Kd.C_alloc ?_ _) | (with_reducible refine Kd.C_drewN ?_ _) | (with_reducible refine Kd.C_drew ?_))); (case side4 => exact am.out); rintro e w8 ⟨rfl, hb⟩; refine ⟨_, rfl, ?_⟩; have n0_ := Aside0.mk (below_step th_ hb); clear HB; have HB := n0_; clear n0_; (try clear hb)))
 (try simp only [Act.put, List.setIfInBounds_toArray, List.set_cons_zero, List.set_cons_succ])
 (try clear a6 a7 a8 a9 aa ab)
 have H := ax.out
 clear ax
 by_cases c9 : an < 0
 ·rw [if_pos c9] at H
  have ai := decide_eq_true c9
  clear c9
  (first | rw [ai] | (simp only [i64_w, i32_w]; rw [ai]) | skip)
  obtain rfl := Option.some.inj H
  go_wp2
  go_ret
  exact ⟨tq_1, th_⟩
 rw [if_neg c9] at H
 have ai := decide_eq_false c9
 clear c9
 (first | rw [ai] | (simp only [i64_w, i32_w]; rw [ai]) | skip)
 have H' := Aside0.mk H
 clear H
 go_wp2
 go_roundg k1
 case measure => have := HK1.out; omega
 case rel => exact ⟨(an), (wrap64 (a5 + 1)), tq_3, tq_3, H', ⟨tq_15⟩, ⟨th_⟩⟩

/-! ### laws_szPart: function 5 -/
def laws_szPart.f (k : Nat) (a0_0 : Int) (l0_1 : List Int) (l0_2 : List (S62)) (a1 : Int) : Option (Int) := (laws_szIntS.f l0_1 a1).bind fun t113 => (if t113 < 0 then (some (-1)) else ((laws_szInodeS.f k l0_2 t113).bind fun t114 => (if t114 < 0 then (some (-1)) else (some t114))))
set_option maxHeartbeats 8000000 in
set_option maxRecDepth 100000 in
theorem laws_szPart.calls (k : Nat) (ak : Int) (aa : Option Addr) (ab : Nat) (a5 : List Int) (ac : Option Addr) (ae : Nat) (a6 : List (S62)) (a1 : Int) (r : Int) (w : World) (ag : Kd.C (Kd.int .i64) w aa a5.length a5) (ah : a5.length ≤ ab) (ai : Kd.C k62 w ac a6.length a6) (aj : a6.length ≤ ae) (h : laws_szPart.f k ak a5 a6 a1 = some r) :
  Calls Tryz.prog 5 #[.agg #[.int .i64 ak, .slice aa a5.length ab, .slice ac a6.length ae], .int .i64 a1] w fun e w' => e = .returned (.int .i64 r) ∧ Below w.heap.size w w' := by
 have hu27 := Tryz.underlying27
 have HR0_1 := Aside0.mk ag
 have am := Aside0.mk ah
 clear ag ah
 have HR0_2 := Aside0.mk ai
 have an := Aside0.mk aj
 clear ai aj
 have HB := Aside0.mk (Below.refl w.heap.size w)
 unfold laws_szPart.f at h
 have H := h
 clear h
 obtain ⟨af, A3, H⟩ := bd_ H
 have aq := Aside0.mk H
 clear H
 go_enter Tryz.func5, Tryz.ntmps5
 go_upto_if 10 with (first | ((with_reducible refine gate_dst (N := 2) rfl ?_); refine be_ 2 (cs := #[.int .i64 ak, .slice aa a5.length ab, .slice ac a6.length ae]) 27 ?_; intro ar hg w5 hbox hb; have z_ := bx0_ th_ hb hbox hg; clear HB; obtain ⟨HB, a7, au, av⟩ := z_; clear hb hbox hg; have ax := bb3_ a7.out) | ((with_reducible refine gate_callee (f := 17) rfl ?_); refine goesL_ (some 8) rfl rfl Tryz.func17 (by kernel_rfl) rfl #[.slice aa a5.length ab, .int .i64 a1] rfl tq_0 ?_; (with_reducible refine (laws_szIntS.calls _ _ a5 a1 af _ ?side1 ?side2 A3.out).mono ?_); (case side1 => exact tq_14); (case side2 => exact am.out); rintro e w' ⟨rfl, ⟨nd, rfl⟩⟩; refine ⟨_, rfl, ?_⟩))
 (try simp only [Act.put, List.setIfInBounds_toArray, List.set_cons_zero, List.set_cons_succ])
 (try clear ax)
 have H := aq.out
 clear aq
 by_cases c7 : af < 0
 ·rw [if_pos c7] at H
  have a9 := decide_eq_true c7
  clear c7
  (first | rw [a9] | (simp only [i64_w, i32_w]; rw [a9]) | skip)
  obtain rfl := Option.some.inj H
  go_wp2
  go_ret
  exact ⟨tq_1, th_⟩
 rw [if_neg c7] at H
 have a9 := decide_eq_false c7
 clear c7
 (first | rw [a9] | (simp only [i64_w, i32_w]; rw [a9]) | skip)
 obtain ⟨ao, A8, H⟩ := bd_ H
 have aw := Aside0.mk H
 clear H
 have ap := bb3_ a7.out
 go_upto_if 16 with (first | ((with_reducible refine gate_callee (f := 18) rfl ?_); refine goesL_ (some 14) rfl rfl Tryz.func18 (by kernel_rfl) rfl #[.slice ac a6.length ae, .int .i64 af] rfl tq_0 ?_; (with_reducible refine (laws_szInodeS.calls k _ _ a6 af ao _ ?side1 ?side2 A8.out).mono ?_); (case side1 => exact tq_45); (case side2 => exact an.out); rintro e ay ⟨rfl, hb⟩; refine ⟨_, rfl, ?_⟩; have z_ := bw1_ (kb_ a7) th_ hb; clear a7 HB; obtain ⟨a7, HB⟩ := z_; (try clear hb)))
 (try simp only [Act.put, List.setIfInBounds_toArray, List.set_cons_zero, List.set_cons_succ])
 (try clear ap)
 have H := aw.out
 clear aw
 by_cases al : ao < 0
 ·rw [if_pos al] at H
  have a8 := decide_eq_true al
  clear al
  (first | rw [a8] | (simp only [i64_w, i32_w]; rw [a8]) | skip)
  obtain rfl := Option.some.inj H
  go_wp2
  go_ret
  exact ⟨tq_1, th_⟩
 rw [if_neg al] at H
 have a8 := decide_eq_false al
 clear al
 (first | rw [a8] | (simp only [i64_w, i32_w]; rw [a8]) | skip)
 obtain rfl := Option.some.inj H
 go_wp2
 go_ret
 exact ⟨tq_1, th_⟩

/-! ### spec_l01In: function 36 -/
def spec_l01In.f (a0 : Int) (a1 : Int) (a2 : Int) : Option (Bool) := if a0 ≥ a1 then (some (decide (a0 ≤ a2))) else (some false)
set_option maxHeartbeats 8000000 in
set_option maxRecDepth 100000 in
theorem spec_l01In.calls (a0 : Int) (a1 : Int) (a2 : Int) (r : Bool) (w : World) (h : spec_l01In.f a0 a1 a2 = some r) :
  Calls Tryz.prog 36 #[.int .i64 a0, .int .i64 a1, .int .i64 a2] w fun e w' => e = .returned (.bool r) ∧ Drawn0 w w' := by
 unfold spec_l01In.f at h
 have H := h
 clear h
 by_cases c4 : a0 ≥ a1
 ·rw [if_pos c4] at H
  have a5 := decide_eq_true c4
  clear c4
  obtain rfl := Option.some.inj H
  go_enter Tryz.func36, Tryz.ntmps36
  go_wp2
  go_ret
  exact ⟨tq_3, tq_7⟩
 rw [if_neg c4] at H
 have a5 := decide_eq_false c4
 clear c4
 obtain rfl := Option.some.inj H
 go_enter Tryz.func36, Tryz.ntmps36
 go_wp2
 go_ret
 exact ⟨tq_3, tq_7⟩

/-! ### spec_GeoOk: function 35 -/
def spec_GeoOk.f (a0_0 : Int) (a0_1 : Int) (a0_2 : Int) (a0_3 : Int) : Option (Bool) := (spec_l01In.f a0_0 1 3).bind fun t116 => (if t116 = true then ((spec_l01In.f a0_1 5 12).bind fun t117 => (if t117 = true then ((spec_l01In.f a0_2 2 6).bind fun t118 => (if t118 = true then ((spec_l01In.f a0_3 1 (wrap64 (a0_1 - 4))).bind fun t119 => (some t119)) else (some false))) else (some false))) else (some false))
set_option maxHeartbeats 8000000 in
set_option maxRecDepth 100000 in
theorem spec_GeoOk.calls (a5 : Int) (a7 : Int) (a8 : Int) (a9 : Int) (r : Bool) (w : World) (h : spec_GeoOk.f a5 a7 a8 a9 = some r) :
  Calls Tryz.prog 35 #[.agg #[.int .i64 a5, .int .i64 a7, .int .i64 a8, .int .i64 a9]] w fun e w' => e = .returned (.bool r) ∧ Below w.heap.size w w' := by
 have hu31 := Tryz.underlying31
 have HB := Aside0.mk (Below.refl w.heap.size w)
 unfold spec_GeoOk.f at h
 have H := h
 clear h
 obtain ⟨ae, A2, H⟩ := bd_ H
 by_cases c3 : ae = true
 rotate_left
 ·replace c3 := Bool.eq_false_iff.mpr c3
  subst c3
  rw [if_neg nf_] at H
  obtain rfl := Option.some.inj H
  go_enter Tryz.func35, Tryz.ntmps35
  go_wp2_with (first | ((with_reducible refine gate_dst (N := 1) rfl ?_); refine be_ 1 (cs := #[.int .i64 a5, .int .i64 a7, .int .i64 a8, .int .i64 a9]) 31 ?_; intro aa hg am hbox hb; have z_ := bx0_ th_ hb hbox hg; clear HB; obtain ⟨HB, a6, ab, ac⟩ := z_; clear hb hbox hg; have ai := bb4_ a6.out) | ((with_reducible refine gate_callee (f := 36) rfl ?_); refine goesL_ (some 5) rfl rfl Tryz.func36 (by kernel_rfl) rfl #[.int .i64 a5, .int .i64 1, .int .i64 3] rfl tq_0 ?_; (with_reducible refine (spec_l01In.calls a5 1 3 false _ A2.out).mono ?_); rintro e w' ⟨rfl, ⟨nd, rfl⟩⟩; refine ⟨_, rfl, ?_⟩))
  go_ret
  exact ⟨tq_1, th_⟩
 subst c3
 rw [if_pos rfl] at H
 obtain ⟨af, A4, H⟩ := bd_ H
 by_cases c5 : af = true
 rotate_left
 ·replace c5 := Bool.eq_false_iff.mpr c5
  subst c5
  rw [if_neg nf_] at H
  obtain rfl := Option.some.inj H
  go_enter Tryz.func35, Tryz.ntmps35
  go_wp2_with (first | ((with_reducible refine gate_dst (N := 1) rfl ?_); refine be_ 1 (cs := #[.int .i64 a5, .int .i64 a7, .int .i64 a8, .int .i64 a9]) 31 ?_; intro aa hg an hbox hb; have z_ := bx0_ th_ hb hbox hg; clear HB; obtain ⟨HB, a6, ab, ac⟩ := z_; clear hb hbox hg; have aj := bb4_ a6.out) | ((with_reducible refine gate_callee (f := 36) rfl ?_); refine goesL_ (some 5) rfl rfl Tryz.func36 (by kernel_rfl) rfl #[.int .i64 a5, .int .i64 1, .int .i64 3] rfl tq_0 ?_; (with_reducible refine (spec_l01In.calls a5 1 3 true _ A2.out).mono ?_); rintro e w' ⟨rfl, ⟨nd, rfl⟩⟩; refine ⟨_, rfl, ?_⟩) | (go_at_call 36; (with_reducible refine (spec_l01In.calls a7 5 12 false _ A4.out).mono ?_); rintro e w' ⟨rfl, ⟨nd, rfl⟩⟩))
  go_ret
  exact ⟨tq_1, th_⟩
 subst c5
 rw [if_pos rfl] at H
 obtain ⟨ag, A6, H⟩ := bd_ H
 by_cases c7 : ag = true
 rotate_left
 ·replace c7 := Bool.eq_false_iff.mpr c7
  subst c7
  rw [if_neg nf_] at H
  obtain rfl := Option.some.inj H
  go_enter Tryz.func35, Tryz.ntmps35
  go_wp2_with (first | ((with_reducible refine gate_dst (N := 1) rfl ?_); refine be_ 1 (cs := #[.int .i64 a5, .int .i64 a7, .int .i64 a8, .int .i64 a9]) 31 ?_; intro aa hg ao hbox hb; have z_ := bx0_ th_ hb hbox hg; clear HB; obtain ⟨HB, a6, ab, ac⟩ := z_; clear hb hbox hg; have ak := bb4_ a6.out) | ((with_reducible refine gate_callee (f := 36) rfl ?_); refine goesL_ (some 5) rfl rfl Tryz.func36 (by kernel_rfl) rfl #[.int .i64 a5, .int .i64 1, .int .i64 3] rfl tq_0 ?_; (with_reducible refine (spec_l01In.calls a5 1 3 true _ A2.out).mono ?_); rintro e w' ⟨rfl, ⟨nd, rfl⟩⟩; refine ⟨_, rfl, ?_⟩) | (go_at_call 36; (with_reducible refine (spec_l01In.calls a7 5 12 true _ A4.out).mono ?_); rintro e w' ⟨rfl, ⟨nd, rfl⟩⟩) | (go_at_call 36; (with_reducible refine (spec_l01In.calls a8 2 6 false _ A6.out).mono ?_); rintro e w' ⟨rfl, ⟨nd, rfl⟩⟩))
  go_ret
  exact ⟨tq_1, th_⟩
 subst c7
 rw [if_pos rfl] at H
 obtain ⟨ah, A8, H⟩ := bd_ H
 obtain rfl := Option.some.inj H
 go_enter Tryz.func35, Tryz.ntmps35
 go_wp2_with (first | ((with_reducible refine gate_dst (N := 1) rfl ?_); refine be_ 1 (cs := #[.int .i64 a5, .int .i64 a7, .int .i64 a8, .int .i64 a9]) 31 ?_; intro aa hg w9 hbox hb; have z_ := bx0_ th_ hb hbox hg; clear HB; obtain ⟨HB, a6, ab, ac⟩ := z_; clear hb hbox hg; have al := bb4_ a6.out) | ((with_reducible refine gate_callee (f := 36) rfl ?_); refine goesL_ (some 5) rfl rfl Tryz.func36 (by kernel_rfl) rfl #[.int .i64 a5, .int .i64 1, .int .i64 3] rfl tq_0 ?_; (with_reducible refine (spec_l01In.calls a5 1 3 true _ A2.out).mono ?_); rintro e w' ⟨rfl, ⟨nd, rfl⟩⟩; refine ⟨_, rfl, ?_⟩) | (go_at_call 36; (with_reducible refine (spec_l01In.calls a7 5 12 true _ A4.out).mono ?_); rintro e w' ⟨rfl, ⟨nd, rfl⟩⟩) | (go_at_call 36; (with_reducible refine (spec_l01In.calls a8 2 6 true _ A6.out).mono ?_); rintro e w' ⟨rfl, ⟨nd, rfl⟩⟩) | (go_at_call 36; (with_reducible refine (spec_l01In.calls a9 1 (wrap64 (a7 - 4)) ah _ A8.out).mono ?_); rintro e w' ⟨rfl, ⟨nd, rfl⟩⟩))
 go_ret
 exact ⟨tq_1, th_⟩

/-! ### spec_StatesOk: function 37 -/
def spec_StatesOk.l0 : Nat → List Int → Int → Int → Option (Bool)
 | 0, _, _, _ => none
 | k + 1, x0, x1, x5 => if x5 < (x0.length : Int) then (if 0 ≤ x5 then ((spec_l01In.f (rd x0 x5) 0 2).bind fun t121 => (if t121 = true then (spec_StatesOk.l0 k x0 x1 (wrap64 (x5 + 1))) else (some false))) else (none)) else (if (x0.length : Int) = x1 then ((spec_l01In.f x1 1 12).bind fun t122 => (some t122)) else (some false))
def spec_StatesOk.f (k : Nat) (l0 : List Int) (a1 : Int) : Option (Bool) := spec_StatesOk.l0 k l0 a1 0
set_option maxHeartbeats 8000000 in
set_option maxRecDepth 100000 in
theorem spec_StatesOk.calls (k : Nat) (A0 : Option Addr) (c0 : Nat) (l0 : List Int) (a1 : Int) (r : Bool) (w : World) (hr0 : Kd.C (Kd.int .i64) w A0 l0.length l0) (hc0 : l0.length ≤ c0) (h : spec_StatesOk.f k l0 a1 = some r) :
  Calls Tryz.prog 37 #[.slice A0 l0.length c0, .int .i64 a1] w fun e w' => e = .returned (.bool r) ∧ Drawn0 w w' := by
 have HR0 := Aside0.mk hr0
 have ah := Aside0.mk hc0
 clear hr0 hc0
 unfold spec_StatesOk.f at h
 have H := h
 clear h
 have H' := Aside0.mk H
 clear H
 go_enter Tryz.func37, Tryz.ntmps37
 go_wp2
 go_loopg [5] k (fun kq v5 w' => ∃ (a5 : Int), v5 = .int .i64 a5 ∧ Aside0 (spec_StatesOk.l0 kq l0 a1 a5 = some r) ∧ Aside0 (kq ≤ k) ∧ Drawn0 w w')
 case atStart => exact ⟨(0), tq_3, H', ⟨Nat.le_refl _⟩, tq_7⟩
 case round =>
 clear H'
 try clear p2
 obtain ⟨a5, rfl, HA, HK1, ⟨m1, rfl⟩⟩ := hrel
 cases gk with
 | zero => exact absurd HA.out (by simp [spec_StatesOk.l0])
 | succ k1 =>
 have H := HA.out
 clear HA
 simp only [spec_StatesOk.l0] at H
 by_cases c3 : a5 < (l0.length : Int)
 rotate_left
 ·rw [if_neg c3] at H
  have a8 := decide_eq_false c3
  clear c3
  by_cases c8 : (l0.length : Int) = a1
  rotate_left
  ·rw [if_neg c8] at H
   have a9 := beq_eq_false_iff_ne.mpr c8
   have aa := bne_iff_ne.mpr c8
   obtain rfl := Option.some.inj H
   go_wp2
   go_ret
   exact ⟨tq_3, tq_7⟩
  rw [if_pos c8] at H
  have a9 := beq_iff_eq.mpr c8
  have aa := bne_eq_false_iff_eq.mpr c8
  clear c8
  obtain ⟨ab, A9, H⟩ := bd_ H
  obtain rfl := Option.some.inj H
  go_wp2_with (first | (go_at_call 36; (with_reducible refine (spec_l01In.calls a1 1 12 ab _ A9.out).mono ?_); rintro e w' ⟨rfl, ⟨nd, rfl⟩⟩))
  go_ret
  exact ⟨tq_3, tq_7⟩
 rw [if_pos c3] at H
 have a8 := decide_eq_true c3
 clear c3
 obtain ⟨c4, H⟩ := fc_ H
 have ag := decide_eq_true c4
 clear c4
 obtain ⟨a7, A5, H⟩ := bd_ H
 have ae := Aside0.mk H
 clear H
 have p120 : 0 ≤ (a5 : Int) := of_decide_eq_true tq_2
 have q120 : a5 < (l0.length : Int) := of_decide_eq_true tq_2
 obtain ⟨af, ac, a6⟩ := Kd.at_int HR0.out a5 p120 q120
 cases ac
 replace p120 := eq_true p120
 replace q120 := eq_true q120
 go_upto_if 17 with (first | ((with_reducible refine gate_callee (f := 36) rfl ?_); refine goesL_ (some 16) rfl rfl Tryz.func36 (by kernel_rfl) rfl #[.int .i64 (rd l0 a5), .int .i64 0, .int .i64 2] rfl tq_0 ?_; (with_reducible refine (spec_l01In.calls (rd l0 a5) 0 2 a7 _ A5.out).mono ?_); rintro e w' ⟨rfl, ⟨nd, rfl⟩⟩; refine ⟨_, rfl, ?_⟩))
 (try simp only [Act.put, List.setIfInBounds_toArray, List.set_cons_zero, List.set_cons_succ])
 (try clear a6)
 have H := ae.out
 clear ae
 by_cases c7 : a7 = true
 rotate_left
 ·replace c7 := Bool.eq_false_iff.mpr c7
  subst c7
  rw [if_neg nf_] at H
  obtain rfl := Option.some.inj H
  go_wp2
  go_ret
  exact ⟨tq_3, tq_7⟩
 subst c7
 rw [if_pos rfl] at H
 have H' := Aside0.mk H
 clear H
 go_wp2
 go_roundg k1
 case measure => have := HK1.out; omega
 case rel => exact ⟨(wrap64 (a5 + 1)), tq_3, H', ⟨tq_15⟩, tq_7⟩

end Go.Proofs.YtleoknilacjakaaGreat.PFnExactPartWrites
