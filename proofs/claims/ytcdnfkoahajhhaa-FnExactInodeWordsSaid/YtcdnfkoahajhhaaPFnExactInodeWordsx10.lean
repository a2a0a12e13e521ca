/- Contracts of Go functions, written by a program of ours over the print of the kit: each says that the call returns what the Lean function beside it computes. Conditions: as each theorem states them. -/
import Derived.Test.YtcdnfkoahajhhaaPkFnExactInodeWords
import Derived.Test.YtcdnfkoahajhhaaPFnExactInodeWordsx0
import Derived.Test.YtcdnfkoahajhhaaPFnExactInodeWordsx7
import Derived.Test.YtcdnfkoahajhhaaPFnExactInodeWordsx8
import Derived.Test.YtcdnfkoahajhhaaPFnExactInodeWordsx9
namespace Go.Proofs.Ytcdnfkoahajhhaa.PFnExactInodeWords
open Go.RowKit Go.Proofs.YtcdnfkoahajhhaaW.PrintWords Go.Proofs.YtcdnfkoahajhhaaW.PrintLast Go.Proofs.YtcdnfkoahajhhaaW.PrintMore
attribute [local go_sem] max2_int min2_int max_two min_two max_three min_three max_four min_four   -- for this text's walks alone
set_option linter.unusedVariables false
set_option linter.unusedSimpArgs false

/-! ### impl_EntryWord: function 200 -/
def impl_EntryWord.j0 : Nat → Bool → Int → ByteArray → Option (ByteArray)
 | 0, _, _, _ => none
 | k + 1, x12, x260000, x260001 => if x12 = true then (some (⟨#[]⟩ : ByteArray)) else ((impl_NumText.f k x260000 1).bind fun t262 => (if t262.size + x260001.size ≤ 9223372036854775807 then ((impl_WordText.f (t262 ++ x260001)).bind fun t263 => (some t263)) else (none)))
def impl_EntryWord.f (k : Nat) (a0_0 : Int) (a0_1 : ByteArray) : Option (ByteArray) := (impl_within.f a0_0 1 5).bind fun t260 => (if t260 = true then ((impl_NameOk.f k a0_1).bind fun t261 => (impl_EntryWord.j0 k (!t261) a0_0 a0_1)) else (impl_EntryWord.j0 k true a0_0 a0_1))
theorem impl_EntryWord.mono_l : ∀ k, (∀ y0 y1 y2, LeO (impl_EntryWord.j0 k y0 y1 y2) (impl_EntryWord.j0 (k + 1) y0 y1 y2))
 | 0 => fun _ _ _ r h => by simp [impl_EntryWord.j0] at h
 | k + 1 => by
  have ih0 := impl_EntryWord.mono_l k
  ·intro y0 y1 y2
   unfold impl_EntryWord.j0
   repeat' first
   | (with_reducible exact ih0 ..)
   | (with_reducible exact impl_NameOk.mono ..)
   | (with_reducible exact impl_NumText.mono ..)
   | (with_reducible exact LeO.refl _)
   | (with_reducible exact LeO.none _)
   | (with_reducible refine LeO.ite ?_ ?_)
   | (with_reducible refine LeO.bind ?_ (fun _ => ?_))
   | exact ih0 ..
   | exact impl_NameOk.mono ..
   | exact impl_NumText.mono ..
   | exact LeO.none _
   | refine LeO.ite ?_ ?_
   | refine LeO.bind ?_ (fun _ => ?_)
theorem impl_EntryWord.mono : ∀ a0 a1 k, LeO (impl_EntryWord.f k a0 a1) (impl_EntryWord.f (k + 1) a0 a1) := by
 intro a0 a1 k
 have ih0 := impl_EntryWord.mono_l k
 unfold impl_EntryWord.f
 repeat' first
   | (with_reducible exact ih0 ..)
   | (with_reducible exact impl_NameOk.mono ..)
   | (with_reducible exact impl_NumText.mono ..)
   | (with_reducible exact LeO.refl _)
   | (with_reducible exact LeO.none _)
   | (with_reducible refine LeO.ite ?_ ?_)
   | (with_reducible refine LeO.bind ?_ (fun _ => ?_))
   | exact ih0 ..
   | exact impl_NameOk.mono ..
   | exact impl_NumText.mono ..
   | exact LeO.none _
   | refine LeO.ite ?_ ?_
   | refine LeO.bind ?_ (fun _ => ?_)
def impl_EntryWord.T3 : Bool × List (List Nat × List Nat) := (true, [([], []), ([0], [0]), ([1], [1]), ([], []), ([3], [3]), ([2, 4], [2, 4]), ([5, 2], [5]), ([6, 6, 0, 1, 2, 3, 4, 5, 6], [6])])
def impl_EntryWord.B3 : List Nat := [0, 1, 3, 0, 8, 31, 63, 127]
theorem impl_EntryWord.tab3 : rtab .any (opsOf Try.f200 3) = impl_EntryWord.T3 := by kernel_rfl
theorem impl_EntryWord.bits3 : waitsOk impl_EntryWord.T3.2 impl_EntryWord.B3 = true := by kernel_rfl
set_option maxHeartbeats 8000000 in
set_option maxRecDepth 100000 in
theorem impl_EntryWord.calls (k : Nat) (a0_0 : Int) (a0_1 : ByteArray) (r : ByteArray) (w : World) (h : impl_EntryWord.f k a0_0 a0_1 = some r) :
  Calls Try.prog 200 #[.agg #[.int .i64 a0_0, .string a0_1]] w fun e w' => e = .returned (.string r) ∧ Below w.heap.size w w' := by
 have hu59 := Try.underlying59
 have HB := Aside0.mk (Below.refl w.heap.size w)
 have H : ((impl_within.f a0_0 1 5).bind fun t260 => (if t260 = true then ((impl_NameOk.f k a0_1).bind fun t261 => (impl_EntryWord.j0 k (!t261) a0_0 a0_1)) else (impl_EntryWord.j0 k true a0_0 a0_1))) = some r := h
 clear h
 have HC2 := Aside0.mk H
 clear H
 go_enter Try.func200, Try.ntmps200
 go_upto_region 1 with (first | ((with_reducible refine gate_dst (N := 1) rfl ?_); refine box_event ?hg (N := 1) ?hd (cs := #[.int .i64 a0_0, .string a0_1]) (t := 59) ?hr ?_; (case hd => rfl); (case hg => rfl); (case hr => first | (go_simp; done) | (go_simp; rfl)); intro gb259 hg w3 hbox hb; have z_ := p_ (below_step tq_0 hb) <| p_ (hbox) <| p_ (gb_ hg tq_0) <| a_ (gb_ hg tq_0); clear HB; obtain ⟨HB, BK259, GW259, GE259⟩ := z_; clear hb hbox hg))
 (try simp only [Act.put, List.setIfInBounds_toArray, List.set_cons_zero, List.set_cons_succ])
 go_cut [12] (fun v12 wc => ∃ (kq : Nat) (x12_1 : Bool), v12 = .bool x12_1 ∧ Aside0 (impl_EntryWord.j0 kq x12_1 a0_0 a0_1 = some r) ∧ Aside0 (kq ≤ k) ∧ Aside0 (wc.heap[gb259]? = some (.cells #[.int .i64 a0_0, .string a0_1] 59 (0, 0))) ∧ Aside0 (Below w.heap.size w wc))
 case first =>
  have H := HC2.out
  clear HC2
  replace H := Option.bind_eq_some_iff.mp H
  obtain ⟨t260, A40, H⟩ := H
  replace H : (if t260 = true then ((impl_NameOk.f k a0_1).bind fun t261 => (impl_EntryWord.j0 k (!t261) a0_0 a0_1)) else (impl_EntryWord.j0 k true a0_0 a0_1)) = some r := H
  have A4 := Aside0.mk A40
  clear A40
  by_cases c5 : t260 = true
  ·subst c5
   have H1 : ((impl_NameOk.f k a0_1).bind fun t261 => (impl_EntryWord.j0 k (!t261) a0_0 a0_1)) = some r := by rw [if_pos rfl] at H; exact H
   clear H
   have H := H1
   clear H1
   replace H := Option.bind_eq_some_iff.mp H
   obtain ⟨t261, A60, H⟩ := H
   replace H : (impl_EntryWord.j0 k (!t261) a0_0 a0_1) = some r := H
   have A6 := Aside0.mk A60
   clear A60
   have H' := Aside0.mk H
   clear H
   have hcz7_0 := bc_ BK259.out 0
   have hcz7_1 := bc_ BK259.out 1
   have hfz7_0 := blk_frozen BK259.out 0
   have hfz7_1 := blk_frozen BK259.out 1
   go_wp2_with (first | ((with_reducible refine gate_callee (f := 140) rfl ?_); refine goesL_ (some 5) rfl rfl Try.func140 (by kernel_rfl) rfl #[.int .i64 a0_0, .int .i64 1, .int .i64 5] rfl tq_1 ?_; (with_reducible refine (impl_within.calls a0_0 1 5 true _ A4.out).mono ?_); rintro e w' ⟨rfl, ⟨nd, rfl⟩⟩; refine ⟨_, rfl, ?_⟩) | (go_at_call 228; (with_reducible refine (impl_NameOk.calls k a0_1 t261 _ A6.out).mono ?_); rintro e w' ⟨rfl, ⟨nd, rfl⟩⟩))
   go_meet
   case rel => exact ⟨_, (!t261), tq_8, H', ⟨tq_51⟩, ⟨tq_73⟩, ⟨tq_48⟩⟩
  ·replace c5 := Bool.eq_false_iff.mpr c5
   subst c5
   have H1 : (impl_EntryWord.j0 k true a0_0 a0_1) = some r := by rw [if_neg (show ¬ (false = true) by decide)] at H; exact H
   clear H
   have H := H1
   clear H1
   have H' := Aside0.mk H
   clear H
   have hcz8_0 := bc_ BK259.out 0
   have hcz8_1 := bc_ BK259.out 1
   have hfz8_0 := blk_frozen BK259.out 0
   have hfz8_1 := blk_frozen BK259.out 1
   go_wp2_with (first | ((with_reducible refine gate_callee (f := 140) rfl ?_); refine goesL_ (some 5) rfl rfl Try.func140 (by kernel_rfl) rfl #[.int .i64 a0_0, .int .i64 1, .int .i64 5] rfl tq_1 ?_; (with_reducible refine (impl_within.calls a0_0 1 5 false _ A4.out).mono ?_); rintro e w' ⟨rfl, ⟨nd, rfl⟩⟩; refine ⟨_, rfl, ?_⟩))
   go_meet
   case rel => exact ⟨_, (true), tq_8, H', ⟨tq_51⟩, ⟨tq_73⟩, ⟨tq_48⟩⟩
 case rest =>
  clear HC2
  try clear c1
  try clear c2
  try clear p2
  try clear c5
  try clear hcz7_0 hcz7_1
  try clear hcz8_0 hcz8_1
  try clear hfz7_0 hfz7_1
  try clear hfz8_0 hfz8_1
  obtain ⟨kq, x12_1, rfl, HA, HJ1, BK259, HB⟩ := hcut
  cases kq with
  | zero => exact absurd HA.out (by simp [impl_EntryWord.j0])
  | succ kj1 =>
   have H := HA.out
   clear HA
   simp only [impl_EntryWord.j0] at H
   by_cases c9 : x12_1 = true
   ·subst c9
    have H1 : (some (⟨#[]⟩ : ByteArray)) = some r := by rw [if_pos rfl] at H; exact H
    clear H
    have H := H1
    clear H1
    obtain rfl := Option.some.inj H
    go_wp2
    go_ret
    exact ⟨tq_2, tq_48⟩
   ·replace c9 := Bool.eq_false_iff.mpr c9
    subst c9
    have H1 : ((impl_NumText.f kj1 a0_0 1).bind fun t262 => (if t262.size + a0_1.size ≤ 9223372036854775807 then ((impl_WordText.f (t262 ++ a0_1)).bind fun t263 => (some t263)) else (none))) = some r := by rw [if_neg (show ¬ (false = true) by decide)] at H; exact H
    clear H
    have H := H1
    clear H1
    replace H := Option.bind_eq_some_iff.mp H
    obtain ⟨t262, A100, H⟩ := H
    replace H : (if t262.size + a0_1.size ≤ 9223372036854775807 then ((impl_WordText.f (t262 ++ a0_1)).bind fun t263 => (some t263)) else (none)) = some r := H
    have A10 := Aside0.mk A100
    clear A100
    by_cases c11 : t262.size + a0_1.size ≤ 9223372036854775807
    ·rw [if_pos c11] at H
     have c11b0 := eq_true c11
     have c11b1 : decide (t262.size + a0_1.size ≤ 9223372036854775807) = true := decide_eq_true c11
     try have c11b2 : (9223372036854775807 < t262.size + a0_1.size) = False := eq_false (Nat.not_lt.2 c11)
     replace H := Option.bind_eq_some_iff.mp H
     obtain ⟨t263, A120, H⟩ := H
     replace H : (some t263) = some r := H
     have A12 := Aside0.mk A120
     clear A120
     obtain rfl := Option.some.inj H
     try go_wp2
     have z_ := p_ (blk_drew BK259.out) <| a_ (below_drew1 HB.out)
     clear BK259 HB
     obtain ⟨BK259, HB⟩ := z_
     refine start_ (n := 8) (S := fun w' => w'.cell? ⟨gb259, 0, none⟩ = some (.int .i64 a0_0) ∧ w'.cell? ⟨gb259, 1, none⟩ = some (.string a0_1)) (ds := []) bq_83 (by kernel_rfl) rfl rfl (bk2_ BK259.out) (fun hHeld => ?_); refine with_tabW impl_EntryWord.tab3 impl_EntryWord.bits3 (fun HT_ HW_ => ?_)
     generalize wc.drew = w13 at BK259 HB hHeld ⊢
     refine yq_ (i := 0) (N := some 13) bq_84 (any_of HT_.out (by kernel_rfl)) ?_
     refine yq_ (i := 3) (N := some 16) bq_85 (any_of HT_.out (by kernel_rfl)) ?_
     refine tk_ (i := 1) (N := some 14) bq_86 (take_ofW HT_.out HW_.out (by kernel_rfl)) hHeld ?_
     refine tk_ (i := 4) (N := some 17) bq_87 (take_ofW HT_.out HW_.out (by kernel_rfl)) hHeld ?_
     refine one_ (i := 2) (N := some 15) #[true, true, true, true, true, false, false, false] rfl rfl (one_of HT_.out (by kernel_rfl)) (by decide) (fun K hK => ?_)
     refine goes_ Try.func198 (by kernel_rfl) rfl #[.int .i64 a0_0, .int .i64 1] (by rfl) rfl rfl tq_1 ?_
     with_reducible refine (impl_NumText.calls kj1 a0_0 1 t262 _ A10.out).mono ?_
     rintro e w14 ⟨rfl, hb⟩
     refine ⟨_, rfl, ?_⟩
     have z_ := p_ (blk_below tq_73 hb) <| a_ (below_step tq_48 hb)
     clear BK259 HB
     obtain ⟨BK259, HB⟩ := z_
     (try clear hb)
     (try clear hb2)
     (try clear hk)
     (try clear hi)
     refine hK.out _ _ (bk2_ BK259.out) (fun hHeld => ?_)
     clear hK K
     refine nm_ (some 15) ?_
     refine yq_ (i := 5) (N := some 18) #[true, true, true, true, true, true, false, false] (any_of HT_.out (by kernel_rfl)) ?_
     refine one_ (i := 6) (N := some 19) #[true, true, true, true, true, true, true, false] rfl rfl (one_of HT_.out (by kernel_rfl)) (by decide) (fun K hK => ?_)
     refine goes_ Try.func197 (by kernel_rfl) rfl #[.string (t262 ++ a0_1)] (by rfl) rfl rfl tq_1 ?_
     with_reducible refine (impl_WordText.calls (t262 ++ a0_1) t263 _ A12.out).mono ?_
     rintro e w15 ⟨rfl, hb⟩
     refine ⟨_, rfl, ?_⟩
     have z_ := p_ (blk_below tq_73 hb) <| a_ (below_step tq_48 hb)
     clear BK259 HB
     obtain ⟨BK259, HB⟩ := z_
     (try clear hb)
     (try clear hb2)
     (try clear hk)
     (try clear hi)
     refine hK.out _ _ (bk2_ BK259.out) (fun hHeld => ?_)
     clear hK K
     refine nm_ (some 19) ?_
     refine yq_ (i := 7) (N := some 2) #[true, true, true, true, true, true, true, true] (any_of HT_.out (by kernel_rfl)) ?_
     refine done_ (done_of HT_.out (by kernel_rfl)) ?_
     try go_wp2
     go_ret
     exact ⟨tq_2, tq_48⟩
    ·rw [if_neg c11] at H
     exact absurd H (by simp)

end Go.Proofs.Ytcdnfkoahajhhaa.PFnExactInodeWords
