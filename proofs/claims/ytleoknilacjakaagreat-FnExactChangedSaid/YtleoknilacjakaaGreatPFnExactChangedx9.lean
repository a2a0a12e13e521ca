/- Contracts of Go functions: each call returns what the Lean function beside it computes. Conditions: as each theorem states them. -/
import Derived.Test.YtleoknilacjakaaGreatPkFnExactChanged
import Derived.Test.YtleoknilacjakaaGreatPFnExactChangedx1
import Derived.Test.YtleoknilacjakaaGreatPFnExactChangedx8
namespace Go.Proofs.YtleoknilacjakaaGreat.PFnExactChanged
open Go.RowKit Go.Proofs.YtleoknilacjakaaGreatW.PrintWords Go.Proofs.YtleoknilacjakaaGreatW.PrintLast Go.Proofs.YtleoknilacjakaaGreatW.PrintMore
attribute [local go_sem] max2_int min2_int max_two min_two max_three min_three max_four min_four   -- for this text's walks alone
set_option linter.unusedVariables false
set_option linter.unusedSimpArgs false

/-! ### spec_EntryWord: function 65 -/
def spec_EntryWord.j0 : Nat → Bool → Int → ByteArray → Option (ByteArray)
 | 0, _, _, _ => none
 | k + 1, a9, a6, a5 => if a9 = true then (some (⟨#[]⟩ : ByteArray)) else ((spec_NumText.f k a6 1).bind fun a7 => (if a7.size + a5.size ≤ 9223372036854775807 then ((spec_WordText.f k (a7 ++ a5)).bind fun a8 => (some a8)) else (none)))
def spec_EntryWord.f (k : Nat) (a5 : Int) (a6 : ByteArray) : Option (ByteArray) := (spec_l01In.f a5 1 5).bind fun a7 => (if a7 = true then ((spec_NameOk.f k a6).bind fun a8 => (spec_EntryWord.j0 k (!a8) a5 a6)) else (spec_EntryWord.j0 k true a5 a6))
def spec_EntryWord.T3 : Bool × List (List Nat × List Nat) := (true, [([], []), ([0], [0]), ([1], [1]), ([], []), ([3], [3]), ([2, 4], [2, 4]), ([5, 2], [5]), ([6, 6, 0, 1, 2, 3, 4, 5, 6], [6])])
def spec_EntryWord.B3 : List Nat := [0, 1, 3, 0, 8, 31, 63, 127]
theorem spec_EntryWord.tab3 : rtab .any (opsOf Tryz.f65 3) = spec_EntryWord.T3 := by kernel_rfl
theorem spec_EntryWord.bits3 : waitsOk spec_EntryWord.T3.2 spec_EntryWord.B3 = true := by kernel_rfl
set_option maxHeartbeats 8000000 in
set_option maxRecDepth 100000 in
theorem spec_EntryWord.calls (k : Nat) (a6 : Int) (a7 : ByteArray) (r : ByteArray) (w : World) (h : spec_EntryWord.f k a6 a7 = some r) :
  Calls Tryz.prog 65 #[.agg #[.int .i64 a6, .string a7]] w fun e w' => e = .returned (.string r) ∧ Below w.heap.size w w' := by
 have hu72 := Tryz.underlying72
 have HB := Aside0.mk (Below.refl w.heap.size w)
 unfold spec_EntryWord.f at h
 have H := h
 clear h
 have ab := Aside0.mk H
 clear H
 go_enter Tryz.func65, Tryz.ntmps65
 go_upto_region 1 with (first | ((with_reducible refine gate_dst (N := 1) rfl ?_); refine be_ 1 (cs := #[.int .i64 a6, .string a7]) 72 ?_; intro a8 hg w3 hbox hb; have z_ := bx0_ th_ hb hbox hg; clear HB; obtain ⟨HB, a5, ag, ah⟩ := z_; clear hb hbox hg))
 (try simp only [Act.put, List.setIfInBounds_toArray, List.set_cons_zero, List.set_cons_succ])
 go_cut [12] (fun v12 wc => ∃ (kq : Nat) (x12_1 : Bool), v12 = .bool x12_1 ∧ Aside0 (spec_EntryWord.j0 kq x12_1 a6 a7 = some r) ∧ Aside0 (kq ≤ k) ∧ Aside0 (wc.heap[a8]? = some (.cells #[.int .i64 a6, .string a7] 72 (0, 0))) ∧ Aside0 (Below w.heap.size w wc))
 case first =>
  have H := ab.out
  clear ab
  obtain ⟨ac, A4, H⟩ := bd_ H
  by_cases c5 : ac = true
  rotate_left
  ·replace c5 := Bool.eq_false_iff.mpr c5
   subst c5
   rw [if_neg nf_] at H
   have H' := Aside0.mk H
   clear H
   have ai := bb2_ a5.out
   go_wp2_with (first | ((with_reducible refine gate_callee (f := 36) rfl ?_); refine goesL_ (some 5) rfl rfl Tryz.func36 (by kernel_rfl) rfl #[.int .i64 a6, .int .i64 1, .int .i64 5] rfl tq_0 ?_; (with_reducible refine (spec_l01In.calls a6 1 5 false _ A4.out).mono ?_); rintro e w' ⟨rfl, ⟨nd, rfl⟩⟩; refine ⟨_, rfl, ?_⟩))
   go_meet
   case rel => exact ⟨_, (true), tq_3, H', ⟨tq_18⟩, ⟨(kb_ a5)⟩, ⟨th_⟩⟩
  subst c5
  rw [if_pos rfl] at H
  obtain ⟨aa, A6, H⟩ := bd_ H
  have H' := Aside0.mk H
  clear H
  have aj := bb2_ a5.out
  go_wp2_with (first | ((with_reducible refine gate_callee (f := 36) rfl ?_); refine goesL_ (some 5) rfl rfl Tryz.func36 (by kernel_rfl) rfl #[.int .i64 a6, .int .i64 1, .int .i64 5] rfl tq_0 ?_; (with_reducible refine (spec_l01In.calls a6 1 5 true _ A4.out).mono ?_); rintro e w' ⟨rfl, ⟨nd, rfl⟩⟩; refine ⟨_, rfl, ?_⟩) | (go_at_call 92; (with_reducible refine (spec_NameOk.calls k a7 aa _ A6.out).mono ?_); rintro e w' ⟨rfl, ⟨nd, rfl⟩⟩))
  go_meet
  case rel => exact ⟨_, (!aa), tq_3, H', ⟨tq_18⟩, ⟨(kb_ a5)⟩, ⟨th_⟩⟩
 case rest =>
 clear ab
 try clear p2; try clear c3; try clear c5; try clear c6; try clear aj; try clear ai; try clear aj; try clear ai
 obtain ⟨kq, x12_1, rfl, HA, HJ1, a5, HB⟩ := hcut
 cases kq with
 | zero => exact absurd HA.out (by simp [spec_EntryWord.j0])
 | succ kj1 =>
 have H := HA.out
 clear HA
 simp only [spec_EntryWord.j0] at H
 by_cases c9 : x12_1 = true
 ·subst c9
  rw [if_pos rfl] at H
  obtain rfl := Option.some.inj H
  go_wp2
  go_ret
  exact ⟨tq_1, th_⟩
 replace c9 := Bool.eq_false_iff.mpr c9
 subst c9
 rw [if_neg nf_] at H
 obtain ⟨a9, an, H⟩ := bd_ H
 obtain ⟨ae, H⟩ := fc_ H
 have ak := eq_true ae
 have al := decide_eq_true ae
 try have am : (9223372036854775807 < a9.size + a7.size) = False := eq_false (Nat.not_lt.2 ae)
 obtain ⟨af, ao, H⟩ := bd_ H
 obtain rfl := Option.some.inj H
 try go_wp2
 have z_ := dw1_ a5 HB
 clear a5 HB
 obtain ⟨a5, HB⟩ := z_
 refine start_ (n := 8) (S := fun w' => w'.cell? ⟨a8, 0, none⟩ = some (.int .i64 a6) ∧ w'.cell? ⟨a8, 1, none⟩ = some (.string a7)) (ds := []) bq_0 (by kernel_rfl) rfl rfl (bk2_ a5.out) (fun hHeld => ?_); refine with_tabW spec_EntryWord.tab3 spec_EntryWord.bits3 (fun HT_ HW_ => ?_)
 generalize wc.drew = ap at a5 HB hHeld ⊢
 refine yr_ 0 13 bq_1 HT_ ?_
 refine yr_ 3 16 bq_97 HT_ ?_
 refine tr_ 1 14 bq_98 HT_ HW_ hHeld ?_
 refine tr_ 4 17 bq_99 HT_ HW_ hHeld ?_
 refine one_ (i := 2) (N := some 15) bq_40 rfl rfl (one_of HT_.out (by kernel_rfl)) (by decide) (fun K hK => ?_)
 refine goes_ Tryz.func69 (by kernel_rfl) rfl #[.int .i64 a6, .int .i64 1] (by rfl) rfl rfl tq_0 ?_
 with_reducible refine (spec_NumText.calls kj1 a6 1 a9 _ an.out).mono ?_
 rintro e aq ⟨rfl, hb⟩
 refine ⟨_, rfl, ?_⟩
 have z_ := bw1_ (kb_ a5) th_ hb
 clear a5 HB
 obtain ⟨a5, HB⟩ := z_
 (try clear hb)
 refine hK.out _ _ (bk2_ a5.out) (fun hHeld => ?_)
 clear hK K
 refine nm_ (some 15) ?_
 refine yr_ 5 18 bq_2 HT_ ?_
 refine one_ (i := 6) (N := some 19) bq_3 rfl rfl (one_of HT_.out (by kernel_rfl)) (by decide) (fun K hK => ?_)
 refine goes_ Tryz.func68 (by kernel_rfl) rfl #[.string (a9 ++ a7)] (by rfl) rfl rfl tq_0 ?_
 with_reducible refine (spec_WordText.calls kj1 (a9 ++ a7) af _ ao.out).mono ?_
 rintro e ar ⟨rfl, hb⟩
 refine ⟨_, rfl, ?_⟩
 have z_ := bw1_ (kb_ a5) th_ hb
 clear a5 HB
 obtain ⟨a5, HB⟩ := z_
 (try clear hb)
 refine hK.out _ _ (bk2_ a5.out) (fun hHeld => ?_)
 clear hK K
 refine nm_ (some 19) ?_
 refine yr_ 7 2 bq_4 HT_ ?_
 refine done_ (done_of HT_.out (by kernel_rfl)) ?_
 try go_wp2
 go_ret
 exact ⟨tq_1, th_⟩

end Go.Proofs.YtleoknilacjakaaGreat.PFnExactChanged
