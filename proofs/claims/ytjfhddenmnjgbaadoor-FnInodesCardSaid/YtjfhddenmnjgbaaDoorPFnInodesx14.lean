/- Contracts of Go functions, written by a program of ours over the print of the kit: each says that the call returns what the Lean function beside it computes. Conditions: as each theorem states them. -/
import Derived.Test.YtjfhddenmnjgbaaDoorPkFnInodes
import Derived.Test.YtjfhddenmnjgbaaDoorPFnInodesx0
import Derived.Test.YtjfhddenmnjgbaaDoorPFnInodesx13
namespace Go.Proofs.YtjfhddenmnjgbaaDoor.PFnInodes
open Go.RowKit Go.Proofs.YtjfhddenmnjgbaaDoorW.PrintWords Go.Proofs.YtjfhddenmnjgbaaDoorW.PrintLast Go.Proofs.YtjfhddenmnjgbaaDoorW.PrintMore
attribute [local go_sem] max2_int min2_int max_two min_two max_three min_three max_four min_four setCell_drewN   -- for this text's walks alone
set_option linter.unusedVariables false
set_option linter.unusedSimpArgs false

/-! ### spec_NameOk: function 76 -/
def spec_NameOk.l0 : Nat → ByteArray → Int → Option (Bool)
 | 0, _, _ => none
 | k + 1, x0, x3 => if x3 < (x0.size : Int) then (if 0 ≤ x3 then ((spec_l01In.f (wrap64 (bt x0 x3)) 97 122).bind fun t464 => (if t464 = true then (spec_NameOk.l0 k x0 (wrap64 (x3 + 1))) else ((spec_l01In.f (wrap64 (bt x0 x3)) 48 57).bind fun t465 => (if t465 = true then (spec_NameOk.l0 k x0 (wrap64 (x3 + 1))) else (some false))))) else (none)) else ((spec_l01In.f (x0.size : Int) 1 7).bind fun t463 => (some t463))
def spec_NameOk.f (k : Nat) (a0 : ByteArray) : Option (Bool) := spec_NameOk.l0 k a0 0
theorem spec_NameOk.mono_l : ∀ k, (∀ y0 y1, LeO (spec_NameOk.l0 k y0 y1) (spec_NameOk.l0 (k + 1) y0 y1))
 | 0 => fun _ _ r h => by simp [spec_NameOk.l0] at h
 | k + 1 => by
  have ih0 := spec_NameOk.mono_l k
  ·intro y0 y1
   unfold spec_NameOk.l0
   exact mo_1
theorem spec_NameOk.mono : ∀ a0 k, LeO (spec_NameOk.f k a0) (spec_NameOk.f (k + 1) a0) := by
 intro a0 k
 have ih0 := spec_NameOk.mono_l k
 unfold spec_NameOk.f
 repeat' first
   | (with_reducible exact ih0 ..)
   | (with_reducible exact LeO.refl _)
   | (with_reducible exact LeO.none _)
   | (with_reducible refine LeO.ite ?_ ?_)
   | (with_reducible refine LeO.bind ?_ (fun _ => ?_))
   | exact ih0 ..
   | exact LeO.none _
   | refine LeO.ite ?_ ?_
   | refine LeO.bind ?_ (fun _ => ?_)
set_option maxHeartbeats 8000000 in
set_option maxRecDepth 100000 in
theorem spec_NameOk.calls (k : Nat) (a0 : ByteArray) (r : Bool) (w : World) (h : spec_NameOk.f k a0 = some r) :
  Calls Tryd.prog 76 #[.string a0] w fun e w' => e = .returned (.bool r) ∧ Drawn0 w w' := by
 unfold spec_NameOk.f at h
 have H := h
 clear h
 have H' := Aside0.mk H
 clear H
 go_enter Tryd.func76, Tryd.ntmps76
 go_wp2
 go_loopg [3] k (fun kq v3 w' => ∃ (x3_1 : Int), v3 = .int .i64 x3_1 ∧ Aside0 (spec_NameOk.l0 kq a0 x3_1 = some r) ∧ Aside0 (kq ≤ k) ∧ Drawn0 w w')
 case atStart => exact ⟨(0), tq_13, H', ⟨Nat.le_refl _⟩, tq_20⟩
 case round =>
 clear H'
 obtain ⟨x3_1, rfl, HA, HK1, ⟨m1, rfl⟩⟩ := hrel
 cases gk with
 | zero => exact absurd HA.out (by simp [spec_NameOk.l0])
 | succ k1 =>
 have H := HA.out
 clear HA
 simp only [spec_NameOk.l0] at H
 by_cases c2 : x3_1 < (a0.size : Int)
 rotate_left
 ·rw [if_neg c2] at H
  have c2b0 := decide_eq_false c2
  clear c2
  obtain ⟨t463, A10, H⟩ := bd_ H
  obtain rfl := Option.some.inj H
  go_wp2_with (first | ((with_reducible refine gate_callee (f := 50) rfl ?_); refine goesL_ (some 26) rfl rfl Tryd.func50 (by kernel_rfl) rfl #[.int .i64 (a0.size : Int), .int .i64 1, .int .i64 7] rfl tq_0 ?_; (with_reducible refine (spec_l01In.calls (a0.size : Int) 1 7 t463 _ A10.out).mono ?_); rintro e w' ⟨rfl, ⟨nd, rfl⟩⟩; refine ⟨_, rfl, ?_⟩))
  go_ret
  exact ⟨tq_13, tq_20⟩
 rw [if_pos c2] at H
 have c2b0 := decide_eq_true c2
 clear c2
 obtain ⟨c3, H⟩ := fc_ H
 have c3b0 := decide_eq_true c3
 clear c3
 obtain ⟨t464, A5, H⟩ := bd_ H
 by_cases c6 : t464 = true
 ·subst c6
  rw [if_pos rfl] at H
  have H' := Aside0.mk H
  clear H
  have p4 : 0 ≤ (x3_1 : Int) := of_decide_eq_true tq_5
  have q4 : x3_1 < (a0.size : Int) := of_decide_eq_true tq_5
  have hx4 := bt_at a0 x3_1
  replace p4 := eq_true p4
  replace q4 := eq_true q4
  go_wp2_with (first | ((with_reducible refine gate_callee (f := 50) rfl ?_); refine goesL_ (some 14) rfl rfl Tryd.func50 (by kernel_rfl) rfl #[.int .i64 (wrap64 (bt a0 x3_1)), .int .i64 97, .int .i64 122] rfl tq_0 ?_; (with_reducible refine (spec_l01In.calls (wrap64 (bt a0 x3_1)) 97 122 true _ A5.out).mono ?_); rintro e w' ⟨rfl, ⟨nd, rfl⟩⟩; refine ⟨_, rfl, ?_⟩))
  go_roundg k1
  case measure => have := HK1.out; omega
  case rel => exact ⟨(wrap64 (x3_1 + 1)), tq_13, H', ⟨tq_91⟩, tq_20⟩
 replace c6 := Bool.eq_false_iff.mpr c6
 subst c6
 rw [if_neg nf_] at H
 obtain ⟨t465, A8, H⟩ := bd_ H
 by_cases c9 : t465 = true
 rotate_left
 ·replace c9 := Bool.eq_false_iff.mpr c9
  subst c9
  rw [if_neg nf_] at H
  obtain rfl := Option.some.inj H
  have p4 : 0 ≤ (x3_1 : Int) := of_decide_eq_true tq_5
  have q4 : x3_1 < (a0.size : Int) := of_decide_eq_true tq_5
  have hx4 := bt_at a0 x3_1
  replace p4 := eq_true p4
  replace q4 := eq_true q4
  go_wp2_with (first | ((with_reducible refine gate_callee (f := 50) rfl ?_); refine goesL_ (some 14) rfl rfl Tryd.func50 (by kernel_rfl) rfl #[.int .i64 (wrap64 (bt a0 x3_1)), .int .i64 97, .int .i64 122] rfl tq_0 ?_; (with_reducible refine (spec_l01In.calls (wrap64 (bt a0 x3_1)) 97 122 false _ A5.out).mono ?_); rintro e w' ⟨rfl, ⟨nd, rfl⟩⟩; refine ⟨_, rfl, ?_⟩; have p7 : 0 ≤ (x3_1 : Int) := of_decide_eq_true tq_5; have q7 : x3_1 < (a0.size : Int) := of_decide_eq_true tq_5; have hx7 := bt_at a0 x3_1; replace p7 := eq_true p7; replace q7 := eq_true q7) | (go_at_call 50; (with_reducible refine (spec_l01In.calls (wrap64 (bt a0 x3_1)) 48 57 false _ A8.out).mono ?_); rintro e w' ⟨rfl, ⟨nd, rfl⟩⟩))
  go_ret
  exact ⟨tq_13, tq_20⟩
 subst c9
 rw [if_pos rfl] at H
 have H' := Aside0.mk H
 clear H
 have p4 : 0 ≤ (x3_1 : Int) := of_decide_eq_true tq_5
 have q4 : x3_1 < (a0.size : Int) := of_decide_eq_true tq_5
 have hx4 := bt_at a0 x3_1
 replace p4 := eq_true p4
 replace q4 := eq_true q4
 go_wp2_with (first | ((with_reducible refine gate_callee (f := 50) rfl ?_); refine goesL_ (some 14) rfl rfl Tryd.func50 (by kernel_rfl) rfl #[.int .i64 (wrap64 (bt a0 x3_1)), .int .i64 97, .int .i64 122] rfl tq_0 ?_; (with_reducible refine (spec_l01In.calls (wrap64 (bt a0 x3_1)) 97 122 false _ A5.out).mono ?_); rintro e w' ⟨rfl, ⟨nd, rfl⟩⟩; refine ⟨_, rfl, ?_⟩; have p7 : 0 ≤ (x3_1 : Int) := of_decide_eq_true tq_5; have q7 : x3_1 < (a0.size : Int) := of_decide_eq_true tq_5; have hx7 := bt_at a0 x3_1; replace p7 := eq_true p7; replace q7 := eq_true q7) | (go_at_call 50; (with_reducible refine (spec_l01In.calls (wrap64 (bt a0 x3_1)) 48 57 true _ A8.out).mono ?_); rintro e w' ⟨rfl, ⟨nd, rfl⟩⟩))
 go_roundg k1
 case measure => have := HK1.out; omega
 case rel => exact ⟨(wrap64 (x3_1 + 1)), tq_13, H', ⟨tq_91⟩, tq_20⟩

/-! ### spec_EntryWord: function 53 -/
def spec_EntryWord.j0 : Nat → Bool → Int → ByteArray → Option (ByteArray)
 | 0, _, _, _ => none
 | k + 1, x12, x467000, x467001 => if x12 = true then (some (⟨#[]⟩ : ByteArray)) else ((spec_NumText.f k x467000 1).bind fun t469 => (if t469.size + x467001.size ≤ 9223372036854775807 then ((spec_WordText.f k (t469 ++ x467001)).bind fun t470 => (some t470)) else (none)))
def spec_EntryWord.f (k : Nat) (a0_0 : Int) (a0_1 : ByteArray) : Option (ByteArray) := (spec_l01In.f a0_0 1 5).bind fun t467 => (if t467 = true then ((spec_NameOk.f k a0_1).bind fun t468 => (spec_EntryWord.j0 k (!t468) a0_0 a0_1)) else (spec_EntryWord.j0 k true a0_0 a0_1))
theorem spec_EntryWord.mono_l : ∀ k, (∀ y0 y1 y2, LeO (spec_EntryWord.j0 k y0 y1 y2) (spec_EntryWord.j0 (k + 1) y0 y1 y2))
 | 0 => fun _ _ _ r h => by simp [spec_EntryWord.j0] at h
 | k + 1 => by
  have ih0 := spec_EntryWord.mono_l k
  ·intro y0 y1 y2
   unfold spec_EntryWord.j0
   repeat' first
   | (with_reducible exact ih0 ..)
   | (with_reducible exact spec_NameOk.mono ..)
   | (with_reducible exact spec_NumText.mono ..)
   | (with_reducible exact spec_WordText.mono ..)
   | (with_reducible exact LeO.refl _)
   | (with_reducible exact LeO.none _)
   | (with_reducible refine LeO.ite ?_ ?_)
   | (with_reducible refine LeO.bind ?_ (fun _ => ?_))
   | exact ih0 ..
   | exact spec_NameOk.mono ..
   | exact spec_NumText.mono ..
   | exact spec_WordText.mono ..
   | exact LeO.none _
   | refine LeO.ite ?_ ?_
   | refine LeO.bind ?_ (fun _ => ?_)
theorem spec_EntryWord.mono : ∀ a0 a1 k, LeO (spec_EntryWord.f k a0 a1) (spec_EntryWord.f (k + 1) a0 a1) := by
 intro a0 a1 k
 have ih0 := spec_EntryWord.mono_l k
 unfold spec_EntryWord.f
 repeat' first
   | (with_reducible exact ih0 ..)
   | (with_reducible exact spec_NameOk.mono ..)
   | (with_reducible exact spec_NumText.mono ..)
   | (with_reducible exact spec_WordText.mono ..)
   | (with_reducible exact LeO.refl _)
   | (with_reducible exact LeO.none _)
   | (with_reducible refine LeO.ite ?_ ?_)
   | (with_reducible refine LeO.bind ?_ (fun _ => ?_))
   | exact ih0 ..
   | exact spec_NameOk.mono ..
   | exact spec_NumText.mono ..
   | exact spec_WordText.mono ..
   | exact LeO.none _
   | refine LeO.ite ?_ ?_
   | refine LeO.bind ?_ (fun _ => ?_)
def spec_EntryWord.T3 : Bool × List (List Nat × List Nat) := (true, [([], []), ([0], [0]), ([1], [1]), ([], []), ([3], [3]), ([2, 4], [2, 4]), ([5, 2], [5]), ([6, 6, 0, 1, 2, 3, 4, 5, 6], [6])])
def spec_EntryWord.B3 : List Nat := [0, 1, 3, 0, 8, 31, 63, 127]
theorem spec_EntryWord.tab3 : rtab .any (opsOf Tryd.f53 3) = spec_EntryWord.T3 := by kernel_rfl
theorem spec_EntryWord.bits3 : waitsOk spec_EntryWord.T3.2 spec_EntryWord.B3 = true := by kernel_rfl
set_option maxHeartbeats 8000000 in
set_option maxRecDepth 100000 in
theorem spec_EntryWord.calls (k : Nat) (a0_0 : Int) (a0_1 : ByteArray) (r : ByteArray) (w : World) (h : spec_EntryWord.f k a0_0 a0_1 = some r) :
  Calls Tryd.prog 53 #[.agg #[.int .i64 a0_0, .string a0_1]] w fun e w' => e = .returned (.string r) ∧ Below w.heap.size w w' := by
 have hu47 := Tryd.underlying47
 have HB := Aside0.mk (Below.refl w.heap.size w)
 unfold spec_EntryWord.f at h
 have H := h
 clear h
 have HC2 := Aside0.mk H
 clear H
 go_enter Tryd.func53, Tryd.ntmps53
 go_upto_region 1 with (first | ((with_reducible refine gate_dst (N := 1) rfl ?_); refine be_ 1 (cs := #[.int .i64 a0_0, .string a0_1]) 47 ?_; intro gb466 hg w3 hbox hb; have z_ := bx0_ th_ hb hbox hg; clear HB; obtain ⟨HB, BK466, GW466, GE466⟩ := z_; clear hb hbox hg))
 (try simp only [Act.put, List.setIfInBounds_toArray, List.set_cons_zero, List.set_cons_succ])
 go_cut [12] (fun v12 wc => ∃ (kq : Nat) (x12_1 : Bool), v12 = .bool x12_1 ∧ Aside0 (spec_EntryWord.j0 kq x12_1 a0_0 a0_1 = some r) ∧ Aside0 (kq ≤ k) ∧ Aside0 (wc.heap[gb466]? = some (.cells #[.int .i64 a0_0, .string a0_1] 47 (0, 0))) ∧ Aside0 (Below w.heap.size w wc))
 case first =>
  have H := HC2.out
  clear HC2
  obtain ⟨t467, A4, H⟩ := bd_ H
  by_cases c5 : t467 = true
  rotate_left
  ·replace c5 := Bool.eq_false_iff.mpr c5
   subst c5
   rw [if_neg nf_] at H
   have H' := Aside0.mk H
   clear H
   obtain ⟨hcz8_0, hcz8_1⟩ := bk2_ BK466.out
   obtain ⟨hfz8_0, hfz8_1⟩ := bf2_ BK466.out
   go_wp2_with (first | ((with_reducible refine gate_callee (f := 50) rfl ?_); refine goesL_ (some 5) rfl rfl Tryd.func50 (by kernel_rfl) rfl #[.int .i64 a0_0, .int .i64 1, .int .i64 5] rfl tq_0 ?_; (with_reducible refine (spec_l01In.calls a0_0 1 5 false _ A4.out).mono ?_); rintro e w' ⟨rfl, ⟨nd, rfl⟩⟩; refine ⟨_, rfl, ?_⟩))
   go_meet
   case rel => exact ⟨_, (true), tq_13, H', ⟨tq_46⟩, ⟨(kb_ BK466)⟩, ⟨th_⟩⟩
  subst c5
  rw [if_pos rfl] at H
  obtain ⟨t468, A6, H⟩ := bd_ H
  have H' := Aside0.mk H
  clear H
  obtain ⟨hcz7_0, hcz7_1⟩ := bk2_ BK466.out
  obtain ⟨hfz7_0, hfz7_1⟩ := bf2_ BK466.out
  go_wp2_with (first | ((with_reducible refine gate_callee (f := 50) rfl ?_); refine goesL_ (some 5) rfl rfl Tryd.func50 (by kernel_rfl) rfl #[.int .i64 a0_0, .int .i64 1, .int .i64 5] rfl tq_0 ?_; (with_reducible refine (spec_l01In.calls a0_0 1 5 true _ A4.out).mono ?_); rintro e w' ⟨rfl, ⟨nd, rfl⟩⟩; refine ⟨_, rfl, ?_⟩) | (go_at_call 76; (with_reducible refine (spec_NameOk.calls k a0_1 t468 _ A6.out).mono ?_); rintro e w' ⟨rfl, ⟨nd, rfl⟩⟩))
  go_meet
  case rel => exact ⟨_, (!t468), tq_13, H', ⟨tq_46⟩, ⟨(kb_ BK466)⟩, ⟨th_⟩⟩
 case rest =>
 clear HC2
 try clear p2; try clear c5; try clear hcz7_0 hcz7_1; try clear hcz8_0 hcz8_1; try clear hfz7_0 hfz7_1; try clear hfz8_0 hfz8_1
 obtain ⟨kq, x12_1, rfl, HA, HJ1, BK466, HB⟩ := hcut
 cases kq with
 | zero => exact absurd HA.out (by simp [spec_EntryWord.j0])
 | succ kj1 =>
 have H := HA.out
 clear HA
 simp only [spec_EntryWord.j0] at H
 by_cases c9 : x12_1 = true
 ·subst c9
  rw [if_pos rfl] at H
  obtain rfl := Option.some.inj H
  go_wp2
  go_ret
  exact ⟨tq_3, th_⟩
 replace c9 := Bool.eq_false_iff.mpr c9
 subst c9
 rw [if_neg nf_] at H
 obtain ⟨t469, A10, H⟩ := bd_ H
 obtain ⟨c11, H⟩ := fc_ H
 have c11b0 := eq_true c11
 have c11b1 := decide_eq_true c11
 try have c11b2 : (9223372036854775807 < t469.size + a0_1.size) = False := eq_false (Nat.not_lt.2 c11)
 obtain ⟨t470, A12, H⟩ := bd_ H
 obtain rfl := Option.some.inj H
 try go_wp2
 have z_ := dw1_ BK466 HB
 clear BK466 HB
 obtain ⟨BK466, HB⟩ := z_
 refine start_ (n := 8) (S := fun w' => w'.cell? ⟨gb466, 0, none⟩ = some (.int .i64 a0_0) ∧ w'.cell? ⟨gb466, 1, none⟩ = some (.string a0_1)) (ds := []) bq_38 (by kernel_rfl) rfl rfl (bk2_ BK466.out) (fun hHeld => ?_); refine with_tabW spec_EntryWord.tab3 spec_EntryWord.bits3 (fun HT_ HW_ => ?_)
 generalize wc.drew = w13 at BK466 HB hHeld ⊢
 refine yr_ 0 13 bq_39 HT_ ?_
 refine yr_ 3 16 bq_103 HT_ ?_
 refine tr_ 1 14 bq_104 HT_ HW_ hHeld ?_
 refine tr_ 4 17 bq_105 HT_ HW_ hHeld ?_
 refine one_ (i := 2) (N := some 15) bq_40 rfl rfl (one_of HT_.out (by kernel_rfl)) (by decide) (fun K hK => ?_)
 refine goes_ Tryd.func67 (by kernel_rfl) rfl #[.int .i64 a0_0, .int .i64 1] (by rfl) rfl rfl tq_0 ?_
 with_reducible refine (spec_NumText.calls kj1 a0_0 1 t469 _ A10.out).mono ?_
 rintro e w14 ⟨rfl, hb⟩
 refine ⟨_, rfl, ?_⟩
 have z_ := bw1_ (kb_ BK466) th_ hb
 clear BK466 HB
 obtain ⟨BK466, HB⟩ := z_
 (try clear hb)
 refine hK.out _ _ (bk2_ BK466.out) (fun hHeld => ?_)
 clear hK K
 refine nm_ (some 15) ?_
 refine yr_ 5 18 bq_41 HT_ ?_
 refine one_ (i := 6) (N := some 19) bq_42 rfl rfl (one_of HT_.out (by kernel_rfl)) (by decide) (fun K hK => ?_)
 refine goes_ Tryd.func66 (by kernel_rfl) rfl #[.string (t469 ++ a0_1)] (by rfl) rfl rfl tq_0 ?_
 with_reducible refine (spec_WordText.calls kj1 (t469 ++ a0_1) t470 _ A12.out).mono ?_
 rintro e w15 ⟨rfl, hb⟩
 refine ⟨_, rfl, ?_⟩
 have z_ := bw1_ (kb_ BK466) th_ hb
 clear BK466 HB
 obtain ⟨BK466, HB⟩ := z_
 (try clear hb)
 refine hK.out _ _ (bk2_ BK466.out) (fun hHeld => ?_)
 clear hK K
 refine nm_ (some 19) ?_
 refine yr_ 7 2 bq_43 HT_ ?_
 refine done_ (done_of HT_.out (by kernel_rfl)) ?_
 try go_wp2
 go_ret
 exact ⟨tq_3, th_⟩

end Go.Proofs.YtjfhddenmnjgbaaDoor.PFnInodes
