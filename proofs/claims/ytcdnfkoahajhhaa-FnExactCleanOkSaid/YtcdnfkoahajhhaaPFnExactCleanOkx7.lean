/- Contracts of Go functions, written by a program of ours over the print of the kit: each says that the call returns what the Lean function beside it computes. Conditions: as each theorem states them. -/
import Derived.Test.YtcdnfkoahajhhaaPkFnExactCleanOk
import Derived.Test.YtcdnfkoahajhhaaPFnExactCleanOkx0
import Derived.Test.YtcdnfkoahajhhaaPFnExactCleanOkx5
import Derived.Test.YtcdnfkoahajhhaaPFnExactCleanOkx6
namespace Go.Proofs.Ytcdnfkoahajhhaa.PFnExactCleanOk
open Go.RowKit Go.Proofs.YtcdnfkoahajhhaaW.PrintWords Go.Proofs.YtcdnfkoahajhhaaW.PrintLast Go.Proofs.YtcdnfkoahajhhaaW.PrintMore
attribute [local go_sem] max2_int min2_int max_two min_two max_three min_three max_four min_four   -- for this text's walks alone
set_option linter.unusedVariables false
set_option linter.unusedSimpArgs false

/-! ### spec_MemoryOk: function 253 -/
mutual
def spec_MemoryOk.j0 : Nat → Bool → ByteArray → List (S206) → Option (Bool)
 | 0, _, _, _ => none
 | k + 1, x18, x234000, x234001 => if x18 = true then (some false) else (spec_MemoryOk.l0 k 0 x234000 x234001)
def spec_MemoryOk.l0 : Nat → Int → ByteArray → List (S206) → Option (Bool)
 | 0, _, _, _ => none
 | k + 1, x3, x234000, x234001 => if x3 < (x234001.length : Int) then (if 0 ≤ x3 then ((spec_l10Size.f).bind fun t238 => (if t238 = 0 then (none) else ((spec_l01In.f ((rd_T206 x234001 x3).f0) 0 (wrap64 ((wrap64 ((x234000.size : Int) / t238)) - 1))).bind fun t239 => (if t239 = true then ((spec_l10Size.f).bind fun t240 => (if (((rd_T206 x234001 x3).f1).size : Int) = t240 then (if x3 > 0 then (if 0 ≤ (wrap64 (x3 - 1)) then (if (wrap64 (x3 - 1)) < (x234001.length : Int) then (if ((rd_T206 x234001 (wrap64 (x3 - 1))).f0) ≥ ((rd_T206 x234001 x3).f0) then (some false) else (spec_MemoryOk.l0 k (wrap64 (x3 + 1)) x234000 x234001)) else (none)) else (none)) else (spec_MemoryOk.l0 k (wrap64 (x3 + 1)) x234000 x234001)) else (some false))) else (some false))))) else (none)) else (some true)
end
def spec_MemoryOk.f (k : Nat) (a0_0 : ByteArray) (l0_1 : List (S206)) : Option (Bool) := (spec_l10Size.f).bind fun t234 => (if t234 = 0 then (none) else (if ((a0_0.size : Int) % t234) = 0 then ((spec_l10Size.f).bind fun t235 => (spec_MemoryOk.j0 k (decide ((a0_0.size : Int) > (wrap64 (1000 * t235)))) a0_0 l0_1)) else (spec_MemoryOk.j0 k true a0_0 l0_1)))
theorem spec_MemoryOk.mono_l : ∀ k, (∀ y0 y1 y2, LeO (spec_MemoryOk.j0 k y0 y1 y2) (spec_MemoryOk.j0 (k + 1) y0 y1 y2)) ∧ (∀ y0 y1 y2, LeO (spec_MemoryOk.l0 k y0 y1 y2) (spec_MemoryOk.l0 (k + 1) y0 y1 y2))
 | 0 => ⟨fun _ _ _ r h => by simp [spec_MemoryOk.j0] at h, fun _ _ _ r h => by simp [spec_MemoryOk.l0] at h⟩
 | k + 1 => by
  obtain ⟨ih0, ih1⟩ := spec_MemoryOk.mono_l k
  refine ⟨?_, ?_⟩
  ·intro y0 y1 y2
   unfold spec_MemoryOk.j0
   repeat' first
   | (with_reducible exact ih0 ..)
   | (with_reducible exact ih1 ..)
   | (with_reducible exact LeO.refl _)
   | (with_reducible exact LeO.none _)
   | (with_reducible refine LeO.ite ?_ ?_)
   | (with_reducible refine LeO.bind ?_ (fun _ => ?_))
   | exact ih0 ..
   | exact ih1 ..
   | exact LeO.none _
   | refine LeO.ite ?_ ?_
   | refine LeO.bind ?_ (fun _ => ?_)
  ·intro y0 y1 y2
   unfold spec_MemoryOk.l0
   repeat' first
   | (with_reducible exact ih0 ..)
   | (with_reducible exact ih1 ..)
   | (with_reducible exact LeO.refl _)
   | (with_reducible exact LeO.none _)
   | (with_reducible refine LeO.ite ?_ ?_)
   | (with_reducible refine LeO.bind ?_ (fun _ => ?_))
   | exact ih0 ..
   | exact ih1 ..
   | exact LeO.none _
   | refine LeO.ite ?_ ?_
   | refine LeO.bind ?_ (fun _ => ?_)
theorem spec_MemoryOk.mono : ∀ a0 a1 k, LeO (spec_MemoryOk.f k a0 a1) (spec_MemoryOk.f (k + 1) a0 a1) := by
 intro a0 a1 k
 obtain ⟨ih0, ih1⟩ := spec_MemoryOk.mono_l k
 unfold spec_MemoryOk.f
 repeat' first
   | (with_reducible exact ih0 ..)
   | (with_reducible exact ih1 ..)
   | (with_reducible exact LeO.refl _)
   | (with_reducible exact LeO.none _)
   | (with_reducible refine LeO.ite ?_ ?_)
   | (with_reducible refine LeO.bind ?_ (fun _ => ?_))
   | exact ih0 ..
   | exact ih1 ..
   | exact LeO.none _
   | refine LeO.ite ?_ ?_
   | refine LeO.bind ?_ (fun _ => ?_)
def spec_MemoryOk.T1 : Bool × List (List Nat × List Nat) := (true, [([], []), ([0], [0]), ([1], [1]), ([], []), ([2, 3], [2, 3]), ([4], [4]), ([5, 3], [5]), ([6], [6]), ([7, 6], [6, 7]), ([8, 6], [6, 8]), ([6, 6], [6]), ([10, 6], [6, 10]), ([9, 11, 6], [6, 9, 11]), ([6, 12], [6, 12])])
def spec_MemoryOk.B1 : List Nat := [0, 1, 3, 0, 15, 31, 63, 127, 255, 511, 127, 1151, 4095, 8191]
theorem spec_MemoryOk.tab1 : rtab .any (opsOf Try.f253 1) = spec_MemoryOk.T1 := by kernel_rfl
theorem spec_MemoryOk.bits1 : waitsOk spec_MemoryOk.T1.2 spec_MemoryOk.B1 = true := by kernel_rfl
def spec_MemoryOk.T7 : Bool × List (List Nat × List Nat) := (true, [([], []), ([0], [0]), ([], []), ([2], [2]), ([3], [3]), ([], []), ([4, 5], [4, 5]), ([6], [6]), ([1, 7, 5], [1, 7]), ([8], [8]), ([9, 8], [9]), ([10], [10]), ([11, 10], [10, 11]), ([12, 10], [10, 12]), ([10, 10], [10]), ([13, 14, 10], [10, 13, 14]), ([10, 15], [10, 15]), ([16, 14], [16]), ([17], [17]), ([18, 17], [17, 18]), ([19, 17, 17], [17, 19]), ([20], [20]), ([21, 20], [20, 21]), ([20], [20]), ([23, 20], [20, 23]), ([22, 24, 20], [20, 22, 24]), ([25, 20], [20, 25]), ([26, 20], [20, 26]), ([20], [20]), ([28, 20], [20, 28]), ([27, 29, 20], [20, 27, 29]), ([20, 30, 17], [17, 20, 30]), ([17, 31], [17, 31])])
def spec_MemoryOk.B7 : List Nat := [0, 1, 0, 4, 12, 0, 60, 124, 255, 511, 1023, 2047, 4095, 8191, 2047, 32767, 65535, 131071, 262143, 524287, 1048575, 2097151, 4194303, 2097151, 10485759, 33554431, 67108863, 134217727, 2097151, 270532607, 1073741823, 2147483647, 4294967295]
theorem spec_MemoryOk.tab7 : rtab .any (opsOf Try.f253 7) = spec_MemoryOk.T7 := by kernel_rfl
theorem spec_MemoryOk.bits7 : waitsOk spec_MemoryOk.T7.2 spec_MemoryOk.B7 = true := by kernel_rfl
set_option maxHeartbeats 8000000 in
set_option maxRecDepth 100000 in
theorem spec_MemoryOk.calls (k : Nat) (a0_0 : ByteArray) (A0_1 : Option Addr) (c0_1 : Nat) (l0_1 : List (S206)) (r : Bool) (w : World) (hr0_1 : Kd.C k206 w A0_1 l0_1.length l0_1) (hc0_1 : l0_1.length ≤ c0_1) (h : spec_MemoryOk.f k a0_0 l0_1 = some r) :
  Calls Try.prog 253 #[.agg #[.string a0_0, .slice A0_1 l0_1.length c0_1]] w fun e w' => e = .returned (.bool r) ∧ Below w.heap.size w w' := by
 have hu113 := Try.underlying113
 have hu206 := Try.underlying206
 have HR0_1 := Aside0.mk hr0_1
 have HC0_1 := Aside0.mk hc0_1
 clear hr0_1 hc0_1
 have HB := Aside0.mk (Below.refl w.heap.size w)
 have H : ((spec_l10Size.f).bind fun t234 => (if t234 = 0 then (none) else (if ((a0_0.size : Int) % t234) = 0 then ((spec_l10Size.f).bind fun t235 => (spec_MemoryOk.j0 k (decide ((a0_0.size : Int) > (wrap64 (1000 * t235)))) a0_0 l0_1)) else (spec_MemoryOk.j0 k true a0_0 l0_1)))) = some r := h
 clear h
 have HC2 := Aside0.mk H
 clear H
 go_enter Try.func253, Try.ntmps253
 go_upto_region 1 with (first | ((with_reducible refine gate_dst (N := 1) rfl ?_); (try (refine gate_guard (by rfl) ?_; dsimp only)); refine box_event ?hg (N := 1) ?hd (cs := #[.string a0_0, .slice A0_1 l0_1.length c0_1]) (t := 113) ?hr ?_; (case hd => rfl); (case hg => rfl); (case hr => first | (go_simp; done) | (go_simp; rfl)); intro gb233 hg w3 hbox hb; have z_ := p_ (below_step tq_0 hb) <| p_ (hbox) <| p_ (gb_ hg tq_0) <| a_ (gb_ hg tq_0); clear HB; obtain ⟨HB, BK233, GW233, GE233⟩ := z_; clear hb hbox hg))
 (try simp only [Act.put, List.setIfInBounds_toArray, List.set_cons_zero, List.set_cons_succ])
 go_cut [18] (fun v18 wc => ∃ (kq : Nat) (x18_1 : Bool), v18 = .bool x18_1 ∧ Aside0 (spec_MemoryOk.j0 kq x18_1 a0_0 l0_1 = some r) ∧ Aside0 (kq ≤ k) ∧ Aside0 (wc.heap[gb233]? = some (.cells #[.string a0_0, (.slice A0_1 l0_1.length c0_1)] 113 (0, 0))) ∧ Aside0 (Below w.heap.size w wc))
 case first =>
  have H := HC2.out
  clear HC2
  replace H := Option.bind_eq_some_iff.mp H
  obtain ⟨t234, A40, H⟩ := H
  replace H : (if t234 = 0 then (none) else (if ((a0_0.size : Int) % t234) = 0 then ((spec_l10Size.f).bind fun t235 => (spec_MemoryOk.j0 k (decide ((a0_0.size : Int) > (wrap64 (1000 * t235)))) a0_0 l0_1)) else (spec_MemoryOk.j0 k true a0_0 l0_1))) = some r := H
  have A4 := Aside0.mk A40
  clear A40
  by_cases c5 : t234 = 0
  ·rw [if_pos c5] at H
   exact absurd H (by simp)
  ·rw [if_neg c5] at H
   have c5b0 : (t234 == 0) = false := beq_eq_false_iff_ne.mpr c5
   have c5b1 : (t234 != 0) = true := bne_iff_ne.mpr c5
   (first | rw [c5b0] | (simp only [i64_w, i32_w]; rw [c5b0]) | skip)
   by_cases c6 : ((a0_0.size : Int) % t234) = 0
   ·rw [if_pos c6] at H
    have c6b0 : (((a0_0.size : Int) % t234) == 0) = true := beq_iff_eq.mpr c6
    have c6b0t : ((Int.tmod (a0_0.size : Int) t234) == 0) = true := by rw [Int.tmod_eq_emod_of_nonneg (by omega)]; exact c6b0
    have c6b1 : (((a0_0.size : Int) % t234) != 0) = false := bne_eq_false_iff_eq.mpr c6
    have c6b1t : ((Int.tmod (a0_0.size : Int) t234) != 0) = false := by rw [Int.tmod_eq_emod_of_nonneg (by omega)]; exact c6b1
    clear c6
    replace H := Option.bind_eq_some_iff.mp H
    obtain ⟨t235, A70, H⟩ := H
    replace H : (spec_MemoryOk.j0 k (decide ((a0_0.size : Int) > (wrap64 (1000 * t235)))) a0_0 l0_1) = some r := H
    have A7 := Aside0.mk A70
    clear A70
    have H' := Aside0.mk H
    clear H
    try go_wp2
    have z_ := p_ (blk_drew BK233.out) <| a_ (below_drew1 HB.out)
    clear BK233 HB
    obtain ⟨BK233, HB⟩ := z_
    refine start_ (n := 14) (S := fun w' => w'.cell? ⟨gb233, 0, none⟩ = some (.string a0_0) ∧ w'.cell? ⟨gb233, 1, none⟩ = some (.slice A0_1 l0_1.length c0_1)) (ds := []) bq_124 (by kernel_rfl) rfl rfl (bk2_ BK233.out) (fun hHeld => ?_); refine with_tabW spec_MemoryOk.tab1 spec_MemoryOk.bits1 (fun HT_ HW_ => ?_)
    generalize w3.drew = w8 at BK233 HB hHeld ⊢
    refine yq_ (i := 0) (N := some 5) bq_125 (any_of HT_.out (by kernel_rfl)) ?_
    refine tk_ (i := 1) (N := some 6) bq_126 (take_ofW HT_.out HW_.out (by kernel_rfl)) hHeld ?_
    refine yq_ (i := 2) (N := some 7) bq_127 (any_of HT_.out (by kernel_rfl)) ?_
    refine one_ (i := 3) (N := some 8) bq_128 rfl rfl (one_of HT_.out (by kernel_rfl)) (by decide) (fun K hK => ?_)
    refine goes_ Try.func274 (by kernel_rfl) rfl #[] (by rfl) rfl rfl tq_1 ?_
    with_reducible refine (spec_l10Size.calls  t234 _ A4.out).mono ?_
    rintro e w' ⟨rfl, ⟨nd, rfl⟩⟩
    refine ⟨_, rfl, ?_⟩
    refine hK.out _ _ (bk2_ BK233.out) (fun hHeld => ?_)
    clear hK K
    refine nm_ (some 8) ?_
    refine yq_ (i := 4) (N := some 9) bq_129 (any_of HT_.out (by kernel_rfl)) ?_
    refine yq_ (i := 5) (N := some 10) bq_130 (any_of HT_.out (by kernel_rfl)) ?_
    refine yq_ (i := 6) (N := some 11) bq_131 (any_of HT_.out (by kernel_rfl)) ?_
    refine yq_ (i := 7) (N := some 12) bq_132 (any_of HT_.out (by kernel_rfl)) ?_
    refine tk_ (i := 8) (N := some 13) bq_133 (take_ofW HT_.out HW_.out (by kernel_rfl)) hHeld ?_
    refine yq_ (i := 9) (N := some 14) bq_134 (any_of HT_.out (by kernel_rfl)) ?_
    refine one_ (i := 10) (N := some 15) bq_135 rfl rfl (one_of HT_.out (by kernel_rfl)) (by decide) (fun K hK => ?_)
    refine goes_ Try.func274 (by kernel_rfl) rfl #[] (by rfl) rfl rfl tq_1 ?_
    with_reducible refine (spec_l10Size.calls  t235 _ A7.out).mono ?_
    rintro e w' ⟨rfl, ⟨nd, rfl⟩⟩
    refine ⟨_, rfl, ?_⟩
    refine hK.out _ _ (bk2_ BK233.out) (fun hHeld => ?_)
    clear hK K
    refine nm_ (some 15) ?_
    refine yq_ (i := 11) (N := some 16) bq_136 (any_of HT_.out (by kernel_rfl)) ?_
    refine yq_ (i := 12) (N := some 17) bq_137 (any_of HT_.out (by kernel_rfl)) ?_
    refine yq_ (i := 13) (N := some 18) bq_138 (any_of HT_.out (by kernel_rfl)) ?_
    refine done_ (done_of HT_.out (by kernel_rfl)) ?_
    try go_wp2
    go_meet
    case rel => exact ⟨_, (decide ((a0_0.size : Int) > (wrap64 (1000 * t235)))), tq_7, H', ⟨tq_189⟩, ⟨tq_17⟩, ⟨tq_11⟩⟩
   ·rw [if_neg c6] at H
    have c6b0 : (((a0_0.size : Int) % t234) == 0) = false := beq_eq_false_iff_ne.mpr c6
    have c6b0t : ((Int.tmod (a0_0.size : Int) t234) == 0) = false := by rw [Int.tmod_eq_emod_of_nonneg (by omega)]; exact c6b0
    have c6b1 : (((a0_0.size : Int) % t234) != 0) = true := bne_iff_ne.mpr c6
    have c6b1t : ((Int.tmod (a0_0.size : Int) t234) != 0) = true := by rw [Int.tmod_eq_emod_of_nonneg (by omega)]; exact c6b1
    have H' := Aside0.mk H
    clear H
    try go_wp2
    have z_ := p_ (blk_drew BK233.out) <| a_ (below_drew1 HB.out)
    clear BK233 HB
    obtain ⟨BK233, HB⟩ := z_
    refine start_ (n := 14) (S := fun w' => w'.cell? ⟨gb233, 0, none⟩ = some (.string a0_0) ∧ w'.cell? ⟨gb233, 1, none⟩ = some (.slice A0_1 l0_1.length c0_1)) (ds := []) bq_124 (by kernel_rfl) rfl rfl (bk2_ BK233.out) (fun hHeld => ?_); refine with_tabW spec_MemoryOk.tab1 spec_MemoryOk.bits1 (fun HT_ HW_ => ?_)
    generalize w3.drew = w9 at BK233 HB hHeld ⊢
    refine yq_ (i := 0) (N := some 5) bq_125 (any_of HT_.out (by kernel_rfl)) ?_
    refine tk_ (i := 1) (N := some 6) bq_126 (take_ofW HT_.out HW_.out (by kernel_rfl)) hHeld ?_
    refine yq_ (i := 2) (N := some 7) bq_127 (any_of HT_.out (by kernel_rfl)) ?_
    refine one_ (i := 3) (N := some 8) bq_128 rfl rfl (one_of HT_.out (by kernel_rfl)) (by decide) (fun K hK => ?_)
    refine goes_ Try.func274 (by kernel_rfl) rfl #[] (by rfl) rfl rfl tq_1 ?_
    with_reducible refine (spec_l10Size.calls  t234 _ A4.out).mono ?_
    rintro e w' ⟨rfl, ⟨nd, rfl⟩⟩
    refine ⟨_, rfl, ?_⟩
    refine hK.out _ _ (bk2_ BK233.out) (fun hHeld => ?_)
    clear hK K
    refine nm_ (some 8) ?_
    refine yq_ (i := 4) (N := some 9) bq_129 (any_of HT_.out (by kernel_rfl)) ?_
    refine yq_ (i := 5) (N := some 10) bq_130 (any_of HT_.out (by kernel_rfl)) ?_
    refine yq_ (i := 6) (N := some 11) bq_131 (any_of HT_.out (by kernel_rfl)) ?_
    refine uq_ (i := 7) (N := some 12) bq_132 (any_of HT_.out (by kernel_rfl)) ?_
    refine uq_ (i := 8) (N := some 13) bq_133 (any_of HT_.out (by kernel_rfl)) ?_
    refine uq_ (i := 9) (N := some 14) bq_134 (any_of HT_.out (by kernel_rfl)) ?_
    refine uq_ (i := 10) (N := some 15) bq_135 (any_of HT_.out (by kernel_rfl)) ?_
    refine uq_ (i := 11) (N := some 16) bq_136 (any_of HT_.out (by kernel_rfl)) ?_
    refine uq_ (i := 12) (N := some 17) bq_137 (any_of HT_.out (by kernel_rfl)) ?_
    refine yq_ (i := 13) (N := some 18) bq_138 (any_of HT_.out (by kernel_rfl)) ?_
    refine done_ (done_of HT_.out (by kernel_rfl)) ?_
    try go_wp2
    go_meet
    case rel => exact ⟨_, (true), tq_7, H', ⟨tq_189⟩, ⟨tq_17⟩, ⟨tq_11⟩⟩
 case rest =>
  clear HC2
  try clear c2
  try clear p2
  try clear c5
  try clear c5b0
  try clear c5b1
  try clear c6
  try clear c6b0
  try clear c6b1
  try clear p6
  obtain ⟨kq, x18_1, rfl, HA, HJ1, BK233, HB⟩ := hcut
  cases kq with
  | zero => exact absurd HA.out (by simp [spec_MemoryOk.j0])
  | succ kj1 =>
   have H := HA.out
   clear HA
   simp only [spec_MemoryOk.j0] at H
   by_cases c10 : x18_1 = true
   ·subst c10
    have H1 : (some false) = some r := by rw [if_pos rfl] at H; exact H
    clear H
    have H := H1
    clear H1
    obtain rfl := Option.some.inj H
    go_wp2
    go_ret
    exact ⟨tq_2, tq_11⟩
   ·replace c10 := Bool.eq_false_iff.mpr c10
    subst c10
    have H1 : (spec_MemoryOk.l0 kj1 0 a0_0 l0_1) = some r := by rw [if_neg (show ¬ (false = true) by decide)] at H; exact H
    clear H
    have H := H1
    clear H1
    have H' := Aside0.mk H
    clear H
    go_wp2
    go_loopg [3] kj1 (fun kq v3 w' => ∃ (x3_2 : Int), v3 = .int .i64 x3_2 ∧ Aside0 (spec_MemoryOk.l0 kq x3_2 a0_0 l0_1 = some r) ∧ Aside0 (kq ≤ kj1) ∧ Aside0 (w'.heap[gb233]? = some (.cells #[.string a0_0, (.slice A0_1 l0_1.length c0_1)] 113 (0, 0))) ∧ Aside0 (Below w.heap.size w w'))
    case atStart => exact ⟨(0), tq_7, H', ⟨Nat.le_refl _⟩, ⟨tq_17⟩, ⟨tq_11⟩⟩
    case round =>
     clear H'
     try clear c1
     try clear c2
     try clear p2
     try clear c5
     try clear c5b0
     try clear c5b1
     try clear c6
     try clear c6b0
     try clear c6b1
     try clear p6
     try clear c10
     try clear p2
     try clear p6
     obtain ⟨x3_2, rfl, HA, HK2, BK233, HB⟩ := hrel
     cases gk with
     | zero => exact absurd HA.out (by simp [spec_MemoryOk.l0])
     | succ k2 =>
      have H := HA.out
      clear HA
      simp only [spec_MemoryOk.l0] at H
      by_cases c11 : x3_2 < (l0_1.length : Int)
      ·rw [if_pos c11] at H
       have c11b0 : decide (x3_2 < (l0_1.length : Int)) = true := decide_eq_true c11
       clear c11
       by_cases c12 : 0 ≤ x3_2
       ·rw [if_pos c12] at H
        have c12b0 : decide (0 ≤ x3_2) = true := decide_eq_true c12
        clear c12
        replace H := Option.bind_eq_some_iff.mp H
        obtain ⟨t238, A130, H⟩ := H
        replace H : (if t238 = 0 then (none) else ((spec_l01In.f ((rd_T206 l0_1 x3_2).f0) 0 (wrap64 ((wrap64 ((a0_0.size : Int) / t238)) - 1))).bind fun t239 => (if t239 = true then ((spec_l10Size.f).bind fun t240 => (if (((rd_T206 l0_1 x3_2).f1).size : Int) = t240 then (if x3_2 > 0 then (if 0 ≤ (wrap64 (x3_2 - 1)) then (if (wrap64 (x3_2 - 1)) < (l0_1.length : Int) then (if ((rd_T206 l0_1 (wrap64 (x3_2 - 1))).f0) ≥ ((rd_T206 l0_1 x3_2).f0) then (some false) else (spec_MemoryOk.l0 k2 (wrap64 (x3_2 + 1)) a0_0 l0_1)) else (none)) else (none)) else (spec_MemoryOk.l0 k2 (wrap64 (x3_2 + 1)) a0_0 l0_1)) else (some false))) else (some false)))) = some r := H
        have A13 := Aside0.mk A130
        clear A130
        by_cases c14 : t238 = 0
        ·rw [if_pos c14] at H
         exact absurd H (by simp)
        ·rw [if_neg c14] at H
         have c14b0 : (t238 == 0) = false := beq_eq_false_iff_ne.mpr c14
         have c14b1 : (t238 != 0) = true := bne_iff_ne.mpr c14
         replace H := Option.bind_eq_some_iff.mp H
         obtain ⟨t239, A150, H⟩ := H
         replace H : (if t239 = true then ((spec_l10Size.f).bind fun t240 => (if (((rd_T206 l0_1 x3_2).f1).size : Int) = t240 then (if x3_2 > 0 then (if 0 ≤ (wrap64 (x3_2 - 1)) then (if (wrap64 (x3_2 - 1)) < (l0_1.length : Int) then (if ((rd_T206 l0_1 (wrap64 (x3_2 - 1))).f0) ≥ ((rd_T206 l0_1 x3_2).f0) then (some false) else (spec_MemoryOk.l0 k2 (wrap64 (x3_2 + 1)) a0_0 l0_1)) else (none)) else (none)) else (spec_MemoryOk.l0 k2 (wrap64 (x3_2 + 1)) a0_0 l0_1)) else (some false))) else (some false)) = some r := H
         have A15 := Aside0.mk A150
         clear A150
         by_cases c16 : t239 = true
         ·subst c16
          have H1 : ((spec_l10Size.f).bind fun t240 => (if (((rd_T206 l0_1 x3_2).f1).size : Int) = t240 then (if x3_2 > 0 then (if 0 ≤ (wrap64 (x3_2 - 1)) then (if (wrap64 (x3_2 - 1)) < (l0_1.length : Int) then (if ((rd_T206 l0_1 (wrap64 (x3_2 - 1))).f0) ≥ ((rd_T206 l0_1 x3_2).f0) then (some false) else (spec_MemoryOk.l0 k2 (wrap64 (x3_2 + 1)) a0_0 l0_1)) else (none)) else (none)) else (spec_MemoryOk.l0 k2 (wrap64 (x3_2 + 1)) a0_0 l0_1)) else (some false))) = some r := by rw [if_pos rfl] at H; exact H
          clear H
          have H := H1
          clear H1
          replace H := Option.bind_eq_some_iff.mp H
          obtain ⟨t240, A170, H⟩ := H
          replace H : (if (((rd_T206 l0_1 x3_2).f1).size : Int) = t240 then (if x3_2 > 0 then (if 0 ≤ (wrap64 (x3_2 - 1)) then (if (wrap64 (x3_2 - 1)) < (l0_1.length : Int) then (if ((rd_T206 l0_1 (wrap64 (x3_2 - 1))).f0) ≥ ((rd_T206 l0_1 x3_2).f0) then (some false) else (spec_MemoryOk.l0 k2 (wrap64 (x3_2 + 1)) a0_0 l0_1)) else (none)) else (none)) else (spec_MemoryOk.l0 k2 (wrap64 (x3_2 + 1)) a0_0 l0_1)) else (some false)) = some r := H
          have A17 := Aside0.mk A170
          clear A170
          by_cases c18 : (((rd_T206 l0_1 x3_2).f1).size : Int) = t240
          ·rw [if_pos c18] at H
           have c18b0 : ((((rd_T206 l0_1 x3_2).f1).size : Int) == t240) = true := beq_iff_eq.mpr c18
           have c18b1 : ((((rd_T206 l0_1 x3_2).f1).size : Int) != t240) = false := bne_eq_false_iff_eq.mpr c18
           clear c18
           by_cases c19 : x3_2 > 0
           ·rw [if_pos c19] at H
            have c19b0 : decide (0 < x3_2) = true := decide_eq_true c19
            clear c19
            obtain ⟨ji20, hji20⟩ : ∃ j_ : Int, (wrap64 (x3_2 - 1)) = j_ := ⟨_, rfl⟩
            replace H : (if 0 ≤ (ji20) then (if (ji20) < (l0_1.length : Int) then (if ((rd_T206 l0_1 (ji20)).f0) ≥ ((rd_T206 l0_1 x3_2).f0) then (some false) else (spec_MemoryOk.l0 k2 (wrap64 (x3_2 + 1)) a0_0 l0_1)) else (none)) else (none)) = some r := by first | (rw [hji20] at H; exact H) | (simp only [hji20] at H ⊢; exact H)
            (try rw [hji20] at A13)
            (try rw [hji20] at A15)
            (try rw [hji20] at A17)
            have hji20w : (IntKind.i64.wrap (x3_2 - 1)) = ji20 := (i64_w _).trans hji20
            by_cases c21 : 0 ≤ (ji20)
            ·rw [if_pos c21] at H
             have c21b0 : decide (0 ≤ (ji20)) = true := decide_eq_true c21
             clear c21
             by_cases c22 : (ji20) < (l0_1.length : Int)
             ·rw [if_pos c22] at H
              have c22b0 : decide ((ji20) < (l0_1.length : Int)) = true := decide_eq_true c22
              clear c22
              by_cases c23 : ((rd_T206 l0_1 (ji20)).f0) ≥ ((rd_T206 l0_1 x3_2).f0)
              ·rw [if_pos c23] at H
               have c23b0 : decide (((rd_T206 l0_1 x3_2).f0) ≤ ((rd_T206 l0_1 (ji20)).f0)) = true := decide_eq_true c23
               clear c23
               obtain rfl := Option.some.inj H
               have hcz24_0 := bc_ BK233.out 0
               have hcz24_1 := bc_ BK233.out 1
               have hfz24_0 := blk_frozen BK233.out 0
               have hfz24_1 := blk_frozen BK233.out 1
               have p236 : 0 ≤ (x3_2 : Int) := of_decide_eq_true tq_3
               have q236 : x3_2 < (l0_1.length : Int) := of_decide_eq_true tq_3
               obtain ⟨ad236, e236, hx236_0, hx236_1, hx236_2⟩ := at_T206 HR0_1.out x3_2 p236 q236
               cases e236
               replace hx236_0 := hx_ HB.out hx236_0
               replace hx236_1 := hx_ HB.out hx236_1
               replace hx236_2 := hx_ HB.out hx236_2
               replace p236 := eq_true p236
               replace q236 := eq_true q236
               try go_wp2_with (first | ((with_reducible refine gate_dst (N := 4) rfl ?_); (try (refine gate_guard (by rfl) ?_; dsimp only)); refine box_event ?hg (N := 4) ?hd (cs := #[.int .i64 0, .string (⟨#[]⟩ : ByteArray), .bool false]) (t := 206) ?hr ?_; (case hd => rfl); (case hg => rfl); (case hr => first | (go_simp; done) | (go_simp; rfl)); intro gb237 hg w25 hbox hb; have z_ := p_ (blk_below tq_17 hb) <| p_ (below_step tq_11 hb) <| p_ (hbox) <| p_ (gb_ hg tq_11) <| p_ (gb_ hg tq_11) <| p_ (ltne_ hg (blk_lt tq_17)) <| a_ (gtne_ hg (blk_lt tq_17)); clear BK233 HB; obtain ⟨BK233, HB, BK237, GW237, GE237, NB233_237, NB237_233⟩ := z_; clear hb hbox hg; have hnb26 := NB237_233.out; have hnc26 := NB233_237.out; have hcz27_0 := bc_ BK237.out 0; have hcz27_1 := bc_ BK237.out 1; have hcz27_2 := bc_ BK237.out 2; have hfz27_0 := blk_frozen BK237.out 0; have hfz27_1 := blk_frozen BK237.out 1; have hfz27_2 := blk_frozen BK237.out 2))
               have n0_ : Aside0 ((((w25.setCell ⟨gb237, 0, none⟩ (.int .i64 ((rd_T206 l0_1 x3_2).f0))).setCell ⟨gb237, 1, none⟩ (.string ((rd_T206 l0_1 x3_2).f1))).setCell ⟨gb237, 2, none⟩ (.bool ((rd_T206 l0_1 x3_2).f2))).heap[gb233]? = some (.cells #[.string a0_0, .slice (some ad236) l0_1.length c0_1] 113 (0, 0))) := ⟨tq_20⟩
               have n1_ : Aside0 ((((w25.setCell ⟨gb237, 0, none⟩ (.int .i64 ((rd_T206 l0_1 x3_2).f0))).setCell ⟨gb237, 1, none⟩ (.string ((rd_T206 l0_1 x3_2).f1))).setCell ⟨gb237, 2, none⟩ (.bool ((rd_T206 l0_1 x3_2).f2))).heap[gb237]? = some (.cells #[.int .i64 ((rd_T206 l0_1 x3_2).f0), .string ((rd_T206 l0_1 x3_2).f1), .bool ((rd_T206 l0_1 x3_2).f2)] 206 (0, 0))) := ⟨tq_13⟩
               have n2_ : Aside0 (Below w.heap.size w (((w25.setCell ⟨gb237, 0, none⟩ (.int .i64 ((rd_T206 l0_1 x3_2).f0))).setCell ⟨gb237, 1, none⟩ (.string ((rd_T206 l0_1 x3_2).f1))).setCell ⟨gb237, 2, none⟩ (.bool ((rd_T206 l0_1 x3_2).f2)))) := ⟨tq_28⟩
               (try clear BK233)
               (try clear BK237)
               (try clear HB)
               generalize (((w25.setCell ⟨gb237, 0, none⟩ (.int .i64 ((rd_T206 l0_1 x3_2).f0))).setCell ⟨gb237, 1, none⟩ (.string ((rd_T206 l0_1 x3_2).f1))).setCell ⟨gb237, 2, none⟩ (.bool ((rd_T206 l0_1 x3_2).f2))) = w28 at n0_ n1_ n2_ ⊢
               have BK233 := n0_
               have BK237 := n1_
               have HB := n2_
               clear n0_ n1_ n2_
               have z_ := p_ (blk_drew BK233.out) <| p_ (blk_drew BK237.out) <| a_ (below_drew1 HB.out)
               clear BK233 BK237 HB
               obtain ⟨BK233, BK237, HB⟩ := z_
               have p241 : 0 ≤ ((ji20) : Int) := of_decide_eq_true tq_3
               have q241 : (ji20) < (l0_1.length : Int) := of_decide_eq_true tq_3
               obtain ⟨ad241, e241, hx241_0, hx241_1, hx241_2⟩ := at_T206 HR0_1.out (ji20) p241 q241
               have hw241_2 := hx241_2
               have hw241_1 := hx241_1
               have hw241_0 := hx241_0
               obtain rfl : ad236 = ad241 := (by injection e241)
               replace hx241_0 := hx_ HB.out hx241_0
               replace hx241_1 := hx_ HB.out hx241_1
               replace hx241_2 := hx_ HB.out hx241_2
               replace p241 := eq_true p241
               replace q241 := eq_true q241
               refine start_ (n := 33) (S := fun w' => w'.cell? ⟨gb237, 0, none⟩ = some (.int .i64 ((rd_T206 l0_1 x3_2).f0)) ∧ w'.cell? ⟨gb237, 1, none⟩ = some (.string ((rd_T206 l0_1 x3_2).f1)) ∧ w'.cell? ⟨gb237, 2, none⟩ = some (.bool ((rd_T206 l0_1 x3_2).f2)) ∧ w'.cell? ⟨gb233, 0, none⟩ = some (.string a0_0) ∧ w'.cell? ⟨gb233, 1, none⟩ = some (.slice (some ad236) l0_1.length c0_1) ∧ w'.cell? (ad236.add (((ji20)).toNat * 3)) = some (.int .i64 ((rd_T206 l0_1 (ji20)).f0)) ∧ w'.cell? ⟨(ad236.add (((ji20)).toNat * 3)).block, (ad236.add (((ji20)).toNat * 3)).off + 1, none⟩ = some (.string ((rd_T206 l0_1 (ji20)).f1)) ∧ w'.cell? ⟨(ad236.add (((ji20)).toNat * 3)).block, (ad236.add (((ji20)).toNat * 3)).off + 2, none⟩ = some (.bool ((rd_T206 l0_1 (ji20)).f2))) (ds := []) bq_11 (by kernel_rfl) rfl rfl (bc3_ BK237.out (bc2_ BK233.out ⟨((HB.out.cell (World.block_lt_of_cell? w _ hw241_0)).trans hw241_0), ((HB.out.cell (World.block_lt_of_cell? w _ hw241_1)).trans hw241_1), ((HB.out.cell (World.block_lt_of_cell? w _ hw241_2)).trans hw241_2)⟩)) (fun hHeld => ?_); refine with_tabW spec_MemoryOk.tab7 spec_MemoryOk.bits7 (fun HT_ HW_ => ?_)
               generalize w28.drew = w29 at BK233 BK237 HB hx241_0 hx241_1 hx241_2 hHeld ⊢
               refine yq_ (i := 0) (N := some 31) bq_12 (any_of HT_.out (by kernel_rfl)) ?_
               refine yq_ (i := 2) (N := some 33) bq_13 (any_of HT_.out (by kernel_rfl)) ?_
               refine tk_ (i := 1) (N := some 32) bq_14 (take_ofW HT_.out HW_.out (by kernel_rfl)) hHeld ?_
               refine tk_ (i := 3) (N := some 34) bq_15 (take_ofW HT_.out HW_.out (by kernel_rfl)) hHeld ?_
               refine yq_ (i := 4) (N := some 35) bq_16 (any_of HT_.out (by kernel_rfl)) ?_
               refine one_ (i := 5) (N := some 36) bq_17 rfl rfl (one_of HT_.out (by kernel_rfl)) (by decide) (fun K hK => ?_)
               refine goes_ Try.func274 (by kernel_rfl) rfl #[] (by rfl) rfl rfl tq_1 ?_
               with_reducible refine (spec_l10Size.calls  t238 _ A13.out).mono ?_
               rintro e w' ⟨rfl, ⟨nd, rfl⟩⟩
               refine ⟨_, rfl, ?_⟩
               refine hK.out _ _ (bc3_ BK237.out (bc2_ BK233.out ⟨((HB.out.cell (World.block_lt_of_cell? w _ hw241_0)).trans hw241_0), ((HB.out.cell (World.block_lt_of_cell? w _ hw241_1)).trans hw241_1), ((HB.out.cell (World.block_lt_of_cell? w _ hw241_2)).trans hw241_2)⟩)) (fun hHeld => ?_)
               clear hK K
               refine nm_ (some 36) ?_
               refine yq_ (i := 6) (N := some 37) bq_18 (any_of HT_.out (by kernel_rfl)) ?_
               refine yq_ (i := 7) (N := some 38) bq_19 (any_of HT_.out (by kernel_rfl)) ?_
               refine one_ (i := 8) (N := some 39) bq_20 rfl rfl (one_of HT_.out (by kernel_rfl)) (by decide) (fun K hK => ?_)
               refine goes_ Try.func141 (by kernel_rfl) rfl #[.int .i64 ((rd_T206 l0_1 x3_2).f0), .int .i64 0, .int .i64 (wrap64 ((wrap64 ((a0_0.size : Int) / t238)) - 1))] (by rfl) rfl rfl tq_1 ?_
               with_reducible refine (spec_l01In.calls ((rd_T206 l0_1 x3_2).f0) 0 (wrap64 ((wrap64 ((a0_0.size : Int) / t238)) - 1)) true _ A15.out).mono ?_
               rintro e w' ⟨rfl, ⟨nd, rfl⟩⟩
               refine ⟨_, rfl, ?_⟩
               refine hK.out _ _ (bc3_ BK237.out (bc2_ BK233.out ⟨((HB.out.cell (World.block_lt_of_cell? w _ hw241_0)).trans hw241_0), ((HB.out.cell (World.block_lt_of_cell? w _ hw241_1)).trans hw241_1), ((HB.out.cell (World.block_lt_of_cell? w _ hw241_2)).trans hw241_2)⟩)) (fun hHeld => ?_)
               clear hK K
               refine nm_ (some 39) ?_
               refine yq_ (i := 9) (N := some 40) bq_21 (any_of HT_.out (by kernel_rfl)) ?_
               refine yq_ (i := 10) (N := some 41) bq_22 (any_of HT_.out (by kernel_rfl)) ?_
               refine yq_ (i := 11) (N := some 42) bq_23 (any_of HT_.out (by kernel_rfl)) ?_
               refine tk_ (i := 12) (N := some 43) bq_24 (take_ofW HT_.out HW_.out (by kernel_rfl)) hHeld ?_
               refine yq_ (i := 13) (N := some 44) bq_25 (any_of HT_.out (by kernel_rfl)) ?_
               refine one_ (i := 14) (N := some 45) bq_26 rfl rfl (one_of HT_.out (by kernel_rfl)) (by decide) (fun K hK => ?_)
               refine goes_ Try.func274 (by kernel_rfl) rfl #[] (by rfl) rfl rfl tq_1 ?_
               with_reducible refine (spec_l10Size.calls  t240 _ A17.out).mono ?_
               rintro e w' ⟨rfl, ⟨nd, rfl⟩⟩
               refine ⟨_, rfl, ?_⟩
               refine hK.out _ _ (bc3_ BK237.out (bc2_ BK233.out ⟨((HB.out.cell (World.block_lt_of_cell? w _ hw241_0)).trans hw241_0), ((HB.out.cell (World.block_lt_of_cell? w _ hw241_1)).trans hw241_1), ((HB.out.cell (World.block_lt_of_cell? w _ hw241_2)).trans hw241_2)⟩)) (fun hHeld => ?_)
               clear hK K
               refine nm_ (some 45) ?_
               refine yq_ (i := 15) (N := some 46) bq_27 (any_of HT_.out (by kernel_rfl)) ?_
               refine yq_ (i := 16) (N := some 47) bq_28 (any_of HT_.out (by kernel_rfl)) ?_
               refine yq_ (i := 17) (N := some 48) bq_29 (any_of HT_.out (by kernel_rfl)) ?_
               refine yq_ (i := 18) (N := some 49) bq_30 (any_of HT_.out (by kernel_rfl)) ?_
               refine yq_ (i := 19) (N := some 50) bq_31 (any_of HT_.out (by kernel_rfl)) ?_
               refine yq_ (i := 20) (N := some 51) bq_32 (any_of HT_.out (by kernel_rfl)) ?_
               refine yq_ (i := 21) (N := some 52) bq_33 (any_of HT_.out (by kernel_rfl)) ?_
               refine yq_ (i := 23) (N := some 54) bq_139 (any_of HT_.out (by kernel_rfl)) ?_
               refine yq_ (i := 24) (N := some 55) bq_140 (any_of HT_.out (by kernel_rfl)) ?_
               refine yq_ (i := 28) (N := some 59) bq_141 (any_of HT_.out (by kernel_rfl)) ?_
               refine tk_ (i := 22) (N := some 53) bq_142 (take_ofW HT_.out HW_.out (by kernel_rfl)) hHeld ?_
               refine yq_ (i := 25) (N := some 56) bq_143 (any_of HT_.out (by kernel_rfl)) ?_
               refine yq_ (i := 26) (N := some 57) bq_144 (any_of HT_.out (by kernel_rfl)) ?_
               refine tk_ (i := 27) (N := some 58) bq_34 (take_ofW HT_.out HW_.out (by kernel_rfl)) hHeld ?_
               refine tk_ (i := 29) (N := some 60) bq_35 (take_ofW HT_.out HW_.out (by kernel_rfl)) hHeld ?_
               refine yq_ (i := 30) (N := some 61) bq_36 (any_of HT_.out (by kernel_rfl)) ?_
               refine yq_ (i := 31) (N := some 62) bq_37 (any_of HT_.out (by kernel_rfl)) ?_
               refine yq_ (i := 32) (N := some 63) bq_38 (any_of HT_.out (by kernel_rfl)) ?_
               refine done_ (done_of HT_.out (by kernel_rfl)) ?_
               try go_wp2
               go_ret
               exact ⟨(by first | rfl | (simp [errW_none, errW_some] <;> rfl) | (simp only [← hji20]; first | rfl | (simp [errW_none, errW_some] <;> rfl)) | (simp [*, errW_none, errW_some] <;> rfl)), tq_28⟩
              ·rw [if_neg c23] at H
               have c23b0 : decide (((rd_T206 l0_1 x3_2).f0) ≤ ((rd_T206 l0_1 (ji20)).f0)) = false := decide_eq_false c23
               clear c23
               have H' := Aside0.mk H
               clear H
               have hcz30_0 := bc_ BK233.out 0
               have hcz30_1 := bc_ BK233.out 1
               have hfz30_0 := blk_frozen BK233.out 0
               have hfz30_1 := blk_frozen BK233.out 1
               have p236 : 0 ≤ (x3_2 : Int) := of_decide_eq_true tq_3
               have q236 : x3_2 < (l0_1.length : Int) := of_decide_eq_true tq_3
               obtain ⟨ad236, e236, hx236_0, hx236_1, hx236_2⟩ := at_T206 HR0_1.out x3_2 p236 q236
               cases e236
               replace hx236_0 := hx_ HB.out hx236_0
               replace hx236_1 := hx_ HB.out hx236_1
               replace hx236_2 := hx_ HB.out hx236_2
               replace p236 := eq_true p236
               replace q236 := eq_true q236
               try go_wp2_with (first | ((with_reducible refine gate_dst (N := 4) rfl ?_); (try (refine gate_guard (by rfl) ?_; dsimp only)); refine box_event ?hg (N := 4) ?hd (cs := #[.int .i64 0, .string (⟨#[]⟩ : ByteArray), .bool false]) (t := 206) ?hr ?_; (case hd => rfl); (case hg => rfl); (case hr => first | (go_simp; done) | (go_simp; rfl)); intro gb237 hg w31 hbox hb; have z_ := p_ (blk_below tq_17 hb) <| p_ (below_step tq_11 hb) <| p_ (hbox) <| p_ (gb_ hg tq_11) <| p_ (gb_ hg tq_11) <| p_ (ltne_ hg (blk_lt tq_17)) <| a_ (gtne_ hg (blk_lt tq_17)); clear BK233 HB; obtain ⟨BK233, HB, BK237, GW237, GE237, NB233_237, NB237_233⟩ := z_; clear hb hbox hg; have hnb32 := NB237_233.out; have hnc32 := NB233_237.out; have hcz33_0 := bc_ BK237.out 0; have hcz33_1 := bc_ BK237.out 1; have hcz33_2 := bc_ BK237.out 2; have hfz33_0 := blk_frozen BK237.out 0; have hfz33_1 := blk_frozen BK237.out 1; have hfz33_2 := blk_frozen BK237.out 2))
               have n0_ : Aside0 ((((w31.setCell ⟨gb237, 0, none⟩ (.int .i64 ((rd_T206 l0_1 x3_2).f0))).setCell ⟨gb237, 1, none⟩ (.string ((rd_T206 l0_1 x3_2).f1))).setCell ⟨gb237, 2, none⟩ (.bool ((rd_T206 l0_1 x3_2).f2))).heap[gb233]? = some (.cells #[.string a0_0, .slice (some ad236) l0_1.length c0_1] 113 (0, 0))) := ⟨tq_20⟩
               have n1_ : Aside0 ((((w31.setCell ⟨gb237, 0, none⟩ (.int .i64 ((rd_T206 l0_1 x3_2).f0))).setCell ⟨gb237, 1, none⟩ (.string ((rd_T206 l0_1 x3_2).f1))).setCell ⟨gb237, 2, none⟩ (.bool ((rd_T206 l0_1 x3_2).f2))).heap[gb237]? = some (.cells #[.int .i64 ((rd_T206 l0_1 x3_2).f0), .string ((rd_T206 l0_1 x3_2).f1), .bool ((rd_T206 l0_1 x3_2).f2)] 206 (0, 0))) := ⟨tq_13⟩
               have n2_ : Aside0 (Below w.heap.size w (((w31.setCell ⟨gb237, 0, none⟩ (.int .i64 ((rd_T206 l0_1 x3_2).f0))).setCell ⟨gb237, 1, none⟩ (.string ((rd_T206 l0_1 x3_2).f1))).setCell ⟨gb237, 2, none⟩ (.bool ((rd_T206 l0_1 x3_2).f2)))) := ⟨tq_28⟩
               (try clear BK233)
               (try clear BK237)
               (try clear HB)
               generalize (((w31.setCell ⟨gb237, 0, none⟩ (.int .i64 ((rd_T206 l0_1 x3_2).f0))).setCell ⟨gb237, 1, none⟩ (.string ((rd_T206 l0_1 x3_2).f1))).setCell ⟨gb237, 2, none⟩ (.bool ((rd_T206 l0_1 x3_2).f2))) = w34 at n0_ n1_ n2_ ⊢
               have BK233 := n0_
               have BK237 := n1_
               have HB := n2_
               clear n0_ n1_ n2_
               have z_ := p_ (blk_drew BK233.out) <| p_ (blk_drew BK237.out) <| a_ (below_drew1 HB.out)
               clear BK233 BK237 HB
               obtain ⟨BK233, BK237, HB⟩ := z_
               have p241 : 0 ≤ ((ji20) : Int) := of_decide_eq_true tq_3
               have q241 : (ji20) < (l0_1.length : Int) := of_decide_eq_true tq_3
               obtain ⟨ad241, e241, hx241_0, hx241_1, hx241_2⟩ := at_T206 HR0_1.out (ji20) p241 q241
               have hw241_2 := hx241_2
               have hw241_1 := hx241_1
               have hw241_0 := hx241_0
               obtain rfl : ad236 = ad241 := (by injection e241)
               replace hx241_0 := hx_ HB.out hx241_0
               replace hx241_1 := hx_ HB.out hx241_1
               replace hx241_2 := hx_ HB.out hx241_2
               replace p241 := eq_true p241
               replace q241 := eq_true q241
               refine start_ (n := 33) (S := fun w' => w'.cell? ⟨gb237, 0, none⟩ = some (.int .i64 ((rd_T206 l0_1 x3_2).f0)) ∧ w'.cell? ⟨gb237, 1, none⟩ = some (.string ((rd_T206 l0_1 x3_2).f1)) ∧ w'.cell? ⟨gb237, 2, none⟩ = some (.bool ((rd_T206 l0_1 x3_2).f2)) ∧ w'.cell? ⟨gb233, 0, none⟩ = some (.string a0_0) ∧ w'.cell? ⟨gb233, 1, none⟩ = some (.slice (some ad236) l0_1.length c0_1) ∧ w'.cell? (ad236.add (((ji20)).toNat * 3)) = some (.int .i64 ((rd_T206 l0_1 (ji20)).f0)) ∧ w'.cell? ⟨(ad236.add (((ji20)).toNat * 3)).block, (ad236.add (((ji20)).toNat * 3)).off + 1, none⟩ = some (.string ((rd_T206 l0_1 (ji20)).f1)) ∧ w'.cell? ⟨(ad236.add (((ji20)).toNat * 3)).block, (ad236.add (((ji20)).toNat * 3)).off + 2, none⟩ = some (.bool ((rd_T206 l0_1 (ji20)).f2))) (ds := []) bq_11 (by kernel_rfl) rfl rfl (bc3_ BK237.out (bc2_ BK233.out ⟨((HB.out.cell (World.block_lt_of_cell? w _ hw241_0)).trans hw241_0), ((HB.out.cell (World.block_lt_of_cell? w _ hw241_1)).trans hw241_1), ((HB.out.cell (World.block_lt_of_cell? w _ hw241_2)).trans hw241_2)⟩)) (fun hHeld => ?_); refine with_tabW spec_MemoryOk.tab7 spec_MemoryOk.bits7 (fun HT_ HW_ => ?_)
               generalize w34.drew = w35 at BK233 BK237 HB hx241_0 hx241_1 hx241_2 hHeld ⊢
               refine yq_ (i := 0) (N := some 31) bq_12 (any_of HT_.out (by kernel_rfl)) ?_
               refine yq_ (i := 2) (N := some 33) bq_13 (any_of HT_.out (by kernel_rfl)) ?_
               refine tk_ (i := 1) (N := some 32) bq_14 (take_ofW HT_.out HW_.out (by kernel_rfl)) hHeld ?_
               refine tk_ (i := 3) (N := some 34) bq_15 (take_ofW HT_.out HW_.out (by kernel_rfl)) hHeld ?_
               refine yq_ (i := 4) (N := some 35) bq_16 (any_of HT_.out (by kernel_rfl)) ?_
               refine one_ (i := 5) (N := some 36) bq_17 rfl rfl (one_of HT_.out (by kernel_rfl)) (by decide) (fun K hK => ?_)
               refine goes_ Try.func274 (by kernel_rfl) rfl #[] (by rfl) rfl rfl tq_1 ?_
               with_reducible refine (spec_l10Size.calls  t238 _ A13.out).mono ?_
               rintro e w' ⟨rfl, ⟨nd, rfl⟩⟩
               refine ⟨_, rfl, ?_⟩
               refine hK.out _ _ (bc3_ BK237.out (bc2_ BK233.out ⟨((HB.out.cell (World.block_lt_of_cell? w _ hw241_0)).trans hw241_0), ((HB.out.cell (World.block_lt_of_cell? w _ hw241_1)).trans hw241_1), ((HB.out.cell (World.block_lt_of_cell? w _ hw241_2)).trans hw241_2)⟩)) (fun hHeld => ?_)
               clear hK K
               refine nm_ (some 36) ?_
               refine yq_ (i := 6) (N := some 37) bq_18 (any_of HT_.out (by kernel_rfl)) ?_
               refine yq_ (i := 7) (N := some 38) bq_19 (any_of HT_.out (by kernel_rfl)) ?_
               refine one_ (i := 8) (N := some 39) bq_20 rfl rfl (one_of HT_.out (by kernel_rfl)) (by decide) (fun K hK => ?_)
               refine goes_ Try.func141 (by kernel_rfl) rfl #[.int .i64 ((rd_T206 l0_1 x3_2).f0), .int .i64 0, .int .i64 (wrap64 ((wrap64 ((a0_0.size : Int) / t238)) - 1))] (by rfl) rfl rfl tq_1 ?_
               with_reducible refine (spec_l01In.calls ((rd_T206 l0_1 x3_2).f0) 0 (wrap64 ((wrap64 ((a0_0.size : Int) / t238)) - 1)) true _ A15.out).mono ?_
               rintro e w' ⟨rfl, ⟨nd, rfl⟩⟩
               refine ⟨_, rfl, ?_⟩
               refine hK.out _ _ (bc3_ BK237.out (bc2_ BK233.out ⟨((HB.out.cell (World.block_lt_of_cell? w _ hw241_0)).trans hw241_0), ((HB.out.cell (World.block_lt_of_cell? w _ hw241_1)).trans hw241_1), ((HB.out.cell (World.block_lt_of_cell? w _ hw241_2)).trans hw241_2)⟩)) (fun hHeld => ?_)
               clear hK K
               refine nm_ (some 39) ?_
               refine yq_ (i := 9) (N := some 40) bq_21 (any_of HT_.out (by kernel_rfl)) ?_
               refine yq_ (i := 10) (N := some 41) bq_22 (any_of HT_.out (by kernel_rfl)) ?_
               refine yq_ (i := 11) (N := some 42) bq_23 (any_of HT_.out (by kernel_rfl)) ?_
               refine tk_ (i := 12) (N := some 43) bq_24 (take_ofW HT_.out HW_.out (by kernel_rfl)) hHeld ?_
               refine yq_ (i := 13) (N := some 44) bq_25 (any_of HT_.out (by kernel_rfl)) ?_
               refine one_ (i := 14) (N := some 45) bq_26 rfl rfl (one_of HT_.out (by kernel_rfl)) (by decide) (fun K hK => ?_)
               refine goes_ Try.func274 (by kernel_rfl) rfl #[] (by rfl) rfl rfl tq_1 ?_
               with_reducible refine (spec_l10Size.calls  t240 _ A17.out).mono ?_
               rintro e w' ⟨rfl, ⟨nd, rfl⟩⟩
               refine ⟨_, rfl, ?_⟩
               refine hK.out _ _ (bc3_ BK237.out (bc2_ BK233.out ⟨((HB.out.cell (World.block_lt_of_cell? w _ hw241_0)).trans hw241_0), ((HB.out.cell (World.block_lt_of_cell? w _ hw241_1)).trans hw241_1), ((HB.out.cell (World.block_lt_of_cell? w _ hw241_2)).trans hw241_2)⟩)) (fun hHeld => ?_)
               clear hK K
               refine nm_ (some 45) ?_
               refine yq_ (i := 15) (N := some 46) bq_27 (any_of HT_.out (by kernel_rfl)) ?_
               refine yq_ (i := 16) (N := some 47) bq_28 (any_of HT_.out (by kernel_rfl)) ?_
               refine yq_ (i := 17) (N := some 48) bq_29 (any_of HT_.out (by kernel_rfl)) ?_
               refine yq_ (i := 18) (N := some 49) bq_30 (any_of HT_.out (by kernel_rfl)) ?_
               refine yq_ (i := 19) (N := some 50) bq_31 (any_of HT_.out (by kernel_rfl)) ?_
               refine yq_ (i := 20) (N := some 51) bq_32 (any_of HT_.out (by kernel_rfl)) ?_
               refine yq_ (i := 21) (N := some 52) bq_33 (any_of HT_.out (by kernel_rfl)) ?_
               refine yq_ (i := 23) (N := some 54) bq_139 (any_of HT_.out (by kernel_rfl)) ?_
               refine yq_ (i := 24) (N := some 55) bq_140 (any_of HT_.out (by kernel_rfl)) ?_
               refine yq_ (i := 28) (N := some 59) bq_141 (any_of HT_.out (by kernel_rfl)) ?_
               refine tk_ (i := 22) (N := some 53) bq_142 (take_ofW HT_.out HW_.out (by kernel_rfl)) hHeld ?_
               refine yq_ (i := 25) (N := some 56) bq_143 (any_of HT_.out (by kernel_rfl)) ?_
               refine yq_ (i := 26) (N := some 57) bq_144 (any_of HT_.out (by kernel_rfl)) ?_
               refine tk_ (i := 27) (N := some 58) bq_34 (take_ofW HT_.out HW_.out (by kernel_rfl)) hHeld ?_
               refine tk_ (i := 29) (N := some 60) bq_35 (take_ofW HT_.out HW_.out (by kernel_rfl)) hHeld ?_
               refine yq_ (i := 30) (N := some 61) bq_36 (any_of HT_.out (by kernel_rfl)) ?_
               refine yq_ (i := 31) (N := some 62) bq_37 (any_of HT_.out (by kernel_rfl)) ?_
               refine yq_ (i := 32) (N := some 63) bq_38 (any_of HT_.out (by kernel_rfl)) ?_
               refine done_ (done_of HT_.out (by kernel_rfl)) ?_
               try go_wp2
               go_roundg k2
               case measure => have := HJ1.out; have := HK2.out; omega
               case rel => exact ⟨(wrap64 (x3_2 + 1)), tq_7, H', ⟨(by have := HJ1.out; have := HK2.out; omega)⟩, ⟨tq_17⟩, ⟨tq_28⟩⟩
             ·rw [if_neg c22] at H
              exact absurd H (by simp)
            ·rw [if_neg c21] at H
             exact absurd H (by simp)
           ·rw [if_neg c19] at H
            have c19b0 : decide (0 < x3_2) = false := decide_eq_false c19
            clear c19
            have H' := Aside0.mk H
            clear H
            have hcz36_0 := bc_ BK233.out 0
            have hcz36_1 := bc_ BK233.out 1
            have hfz36_0 := blk_frozen BK233.out 0
            have hfz36_1 := blk_frozen BK233.out 1
            have p236 : 0 ≤ (x3_2 : Int) := of_decide_eq_true tq_3
            have q236 : x3_2 < (l0_1.length : Int) := of_decide_eq_true tq_3
            obtain ⟨ad236, e236, hx236_0, hx236_1, hx236_2⟩ := at_T206 HR0_1.out x3_2 p236 q236
            cases e236
            replace hx236_0 := hx_ HB.out hx236_0
            replace hx236_1 := hx_ HB.out hx236_1
            replace hx236_2 := hx_ HB.out hx236_2
            replace p236 := eq_true p236
            replace q236 := eq_true q236
            try go_wp2_with (first | ((with_reducible refine gate_dst (N := 4) rfl ?_); (try (refine gate_guard (by rfl) ?_; dsimp only)); refine box_event ?hg (N := 4) ?hd (cs := #[.int .i64 0, .string (⟨#[]⟩ : ByteArray), .bool false]) (t := 206) ?hr ?_; (case hd => rfl); (case hg => rfl); (case hr => first | (go_simp; done) | (go_simp; rfl)); intro gb237 hg w37 hbox hb; have z_ := p_ (blk_below tq_17 hb) <| p_ (below_step tq_11 hb) <| p_ (hbox) <| p_ (gb_ hg tq_11) <| p_ (gb_ hg tq_11) <| p_ (ltne_ hg (blk_lt tq_17)) <| a_ (gtne_ hg (blk_lt tq_17)); clear BK233 HB; obtain ⟨BK233, HB, BK237, GW237, GE237, NB233_237, NB237_233⟩ := z_; clear hb hbox hg; have hnb38 := NB237_233.out; have hnc38 := NB233_237.out; have hcz39_0 := bc_ BK237.out 0; have hcz39_1 := bc_ BK237.out 1; have hcz39_2 := bc_ BK237.out 2; have hfz39_0 := blk_frozen BK237.out 0; have hfz39_1 := blk_frozen BK237.out 1; have hfz39_2 := blk_frozen BK237.out 2))
            have n0_ : Aside0 ((((w37.setCell ⟨gb237, 0, none⟩ (.int .i64 ((rd_T206 l0_1 x3_2).f0))).setCell ⟨gb237, 1, none⟩ (.string ((rd_T206 l0_1 x3_2).f1))).setCell ⟨gb237, 2, none⟩ (.bool ((rd_T206 l0_1 x3_2).f2))).heap[gb233]? = some (.cells #[.string a0_0, .slice (some ad236) l0_1.length c0_1] 113 (0, 0))) := ⟨tq_20⟩
            have n1_ : Aside0 ((((w37.setCell ⟨gb237, 0, none⟩ (.int .i64 ((rd_T206 l0_1 x3_2).f0))).setCell ⟨gb237, 1, none⟩ (.string ((rd_T206 l0_1 x3_2).f1))).setCell ⟨gb237, 2, none⟩ (.bool ((rd_T206 l0_1 x3_2).f2))).heap[gb237]? = some (.cells #[.int .i64 ((rd_T206 l0_1 x3_2).f0), .string ((rd_T206 l0_1 x3_2).f1), .bool ((rd_T206 l0_1 x3_2).f2)] 206 (0, 0))) := ⟨tq_13⟩
            have n2_ : Aside0 (Below w.heap.size w (((w37.setCell ⟨gb237, 0, none⟩ (.int .i64 ((rd_T206 l0_1 x3_2).f0))).setCell ⟨gb237, 1, none⟩ (.string ((rd_T206 l0_1 x3_2).f1))).setCell ⟨gb237, 2, none⟩ (.bool ((rd_T206 l0_1 x3_2).f2)))) := ⟨tq_28⟩
            (try clear BK233)
            (try clear BK237)
            (try clear HB)
            generalize (((w37.setCell ⟨gb237, 0, none⟩ (.int .i64 ((rd_T206 l0_1 x3_2).f0))).setCell ⟨gb237, 1, none⟩ (.string ((rd_T206 l0_1 x3_2).f1))).setCell ⟨gb237, 2, none⟩ (.bool ((rd_T206 l0_1 x3_2).f2))) = w40 at n0_ n1_ n2_ ⊢
            have BK233 := n0_
            have BK237 := n1_
            have HB := n2_
            clear n0_ n1_ n2_
            have z_ := p_ (blk_drew BK233.out) <| p_ (blk_drew BK237.out) <| a_ (below_drew1 HB.out)
            clear BK233 BK237 HB
            obtain ⟨BK233, BK237, HB⟩ := z_
            refine start_ (n := 33) (S := fun w' => w'.cell? ⟨gb237, 0, none⟩ = some (.int .i64 ((rd_T206 l0_1 x3_2).f0)) ∧ w'.cell? ⟨gb237, 1, none⟩ = some (.string ((rd_T206 l0_1 x3_2).f1)) ∧ w'.cell? ⟨gb237, 2, none⟩ = some (.bool ((rd_T206 l0_1 x3_2).f2)) ∧ w'.cell? ⟨gb233, 0, none⟩ = some (.string a0_0) ∧ w'.cell? ⟨gb233, 1, none⟩ = some (.slice (some ad236) l0_1.length c0_1)) (ds := []) bq_11 (by kernel_rfl) rfl rfl (bc3_ BK237.out (bk2_ BK233.out)) (fun hHeld => ?_); refine with_tabW spec_MemoryOk.tab7 spec_MemoryOk.bits7 (fun HT_ HW_ => ?_)
            generalize w40.drew = w41 at BK233 BK237 HB hHeld ⊢
            refine yq_ (i := 0) (N := some 31) bq_12 (any_of HT_.out (by kernel_rfl)) ?_
            refine yq_ (i := 2) (N := some 33) bq_13 (any_of HT_.out (by kernel_rfl)) ?_
            refine tk_ (i := 1) (N := some 32) bq_14 (take_ofW HT_.out HW_.out (by kernel_rfl)) hHeld ?_
            refine tk_ (i := 3) (N := some 34) bq_15 (take_ofW HT_.out HW_.out (by kernel_rfl)) hHeld ?_
            refine yq_ (i := 4) (N := some 35) bq_16 (any_of HT_.out (by kernel_rfl)) ?_
            refine one_ (i := 5) (N := some 36) bq_17 rfl rfl (one_of HT_.out (by kernel_rfl)) (by decide) (fun K hK => ?_)
            refine goes_ Try.func274 (by kernel_rfl) rfl #[] (by rfl) rfl rfl tq_1 ?_
            with_reducible refine (spec_l10Size.calls  t238 _ A13.out).mono ?_
            rintro e w' ⟨rfl, ⟨nd, rfl⟩⟩
            refine ⟨_, rfl, ?_⟩
            refine hK.out _ _ (bc3_ BK237.out (bk2_ BK233.out)) (fun hHeld => ?_)
            clear hK K
            refine nm_ (some 36) ?_
            refine yq_ (i := 6) (N := some 37) bq_18 (any_of HT_.out (by kernel_rfl)) ?_
            refine yq_ (i := 7) (N := some 38) bq_19 (any_of HT_.out (by kernel_rfl)) ?_
            refine one_ (i := 8) (N := some 39) bq_20 rfl rfl (one_of HT_.out (by kernel_rfl)) (by decide) (fun K hK => ?_)
            refine goes_ Try.func141 (by kernel_rfl) rfl #[.int .i64 ((rd_T206 l0_1 x3_2).f0), .int .i64 0, .int .i64 (wrap64 ((wrap64 ((a0_0.size : Int) / t238)) - 1))] (by rfl) rfl rfl tq_1 ?_
            with_reducible refine (spec_l01In.calls ((rd_T206 l0_1 x3_2).f0) 0 (wrap64 ((wrap64 ((a0_0.size : Int) / t238)) - 1)) true _ A15.out).mono ?_
            rintro e w' ⟨rfl, ⟨nd, rfl⟩⟩
            refine ⟨_, rfl, ?_⟩
            refine hK.out _ _ (bc3_ BK237.out (bk2_ BK233.out)) (fun hHeld => ?_)
            clear hK K
            refine nm_ (some 39) ?_
            refine yq_ (i := 9) (N := some 40) bq_21 (any_of HT_.out (by kernel_rfl)) ?_
            refine yq_ (i := 10) (N := some 41) bq_22 (any_of HT_.out (by kernel_rfl)) ?_
            refine yq_ (i := 11) (N := some 42) bq_23 (any_of HT_.out (by kernel_rfl)) ?_
            refine tk_ (i := 12) (N := some 43) bq_24 (take_ofW HT_.out HW_.out (by kernel_rfl)) hHeld ?_
            refine yq_ (i := 13) (N := some 44) bq_25 (any_of HT_.out (by kernel_rfl)) ?_
            refine one_ (i := 14) (N := some 45) bq_26 rfl rfl (one_of HT_.out (by kernel_rfl)) (by decide) (fun K hK => ?_)
            refine goes_ Try.func274 (by kernel_rfl) rfl #[] (by rfl) rfl rfl tq_1 ?_
            with_reducible refine (spec_l10Size.calls  t240 _ A17.out).mono ?_
            rintro e w' ⟨rfl, ⟨nd, rfl⟩⟩
            refine ⟨_, rfl, ?_⟩
            refine hK.out _ _ (bc3_ BK237.out (bk2_ BK233.out)) (fun hHeld => ?_)
            clear hK K
            refine nm_ (some 45) ?_
            refine yq_ (i := 15) (N := some 46) bq_27 (any_of HT_.out (by kernel_rfl)) ?_
            refine yq_ (i := 16) (N := some 47) bq_28 (any_of HT_.out (by kernel_rfl)) ?_
            refine yq_ (i := 17) (N := some 48) bq_29 (any_of HT_.out (by kernel_rfl)) ?_
            refine yq_ (i := 18) (N := some 49) bq_30 (any_of HT_.out (by kernel_rfl)) ?_
            refine yq_ (i := 19) (N := some 50) bq_31 (any_of HT_.out (by kernel_rfl)) ?_
            refine yq_ (i := 20) (N := some 51) bq_32 (any_of HT_.out (by kernel_rfl)) ?_
            refine uq_ (i := 21) (N := some 52) bq_33 (any_of HT_.out (by kernel_rfl)) ?_
            refine uq_ (i := 22) (N := some 53) bq_71 (any_of HT_.out (by kernel_rfl)) ?_
            refine uq_ (i := 23) (N := some 54) bq_72 (any_of HT_.out (by kernel_rfl)) ?_
            refine uq_ (i := 24) (N := some 55) bq_73 (any_of HT_.out (by kernel_rfl)) ?_
            refine uq_ (i := 25) (N := some 56) bq_74 (any_of HT_.out (by kernel_rfl)) ?_
            refine uq_ (i := 26) (N := some 57) bq_75 (any_of HT_.out (by kernel_rfl)) ?_
            refine uq_ (i := 27) (N := some 58) bq_76 (any_of HT_.out (by kernel_rfl)) ?_
            refine uq_ (i := 28) (N := some 59) bq_34 (any_of HT_.out (by kernel_rfl)) ?_
            refine uq_ (i := 29) (N := some 60) bq_35 (any_of HT_.out (by kernel_rfl)) ?_
            refine uq_ (i := 30) (N := some 61) bq_36 (any_of HT_.out (by kernel_rfl)) ?_
            refine yq_ (i := 31) (N := some 62) bq_37 (any_of HT_.out (by kernel_rfl)) ?_
            refine yq_ (i := 32) (N := some 63) bq_38 (any_of HT_.out (by kernel_rfl)) ?_
            refine done_ (done_of HT_.out (by kernel_rfl)) ?_
            try go_wp2
            go_roundg k2
            case measure => have := HJ1.out; have := HK2.out; omega
            case rel => exact ⟨(wrap64 (x3_2 + 1)), tq_7, H', ⟨(by have := HJ1.out; have := HK2.out; omega)⟩, ⟨tq_17⟩, ⟨tq_28⟩⟩
          ·rw [if_neg c18] at H
           have c18b0 : ((((rd_T206 l0_1 x3_2).f1).size : Int) == t240) = false := beq_eq_false_iff_ne.mpr c18
           have c18b1 : ((((rd_T206 l0_1 x3_2).f1).size : Int) != t240) = true := bne_iff_ne.mpr c18
           obtain rfl := Option.some.inj H
           have hcz42_0 := bc_ BK233.out 0
           have hcz42_1 := bc_ BK233.out 1
           have hfz42_0 := blk_frozen BK233.out 0
           have hfz42_1 := blk_frozen BK233.out 1
           have p236 : 0 ≤ (x3_2 : Int) := of_decide_eq_true tq_3
           have q236 : x3_2 < (l0_1.length : Int) := of_decide_eq_true tq_3
           obtain ⟨ad236, e236, hx236_0, hx236_1, hx236_2⟩ := at_T206 HR0_1.out x3_2 p236 q236
           cases e236
           replace hx236_0 := hx_ HB.out hx236_0
           replace hx236_1 := hx_ HB.out hx236_1
           replace hx236_2 := hx_ HB.out hx236_2
           replace p236 := eq_true p236
           replace q236 := eq_true q236
           try go_wp2_with (first | ((with_reducible refine gate_dst (N := 4) rfl ?_); (try (refine gate_guard (by rfl) ?_; dsimp only)); refine box_event ?hg (N := 4) ?hd (cs := #[.int .i64 0, .string (⟨#[]⟩ : ByteArray), .bool false]) (t := 206) ?hr ?_; (case hd => rfl); (case hg => rfl); (case hr => first | (go_simp; done) | (go_simp; rfl)); intro gb237 hg w43 hbox hb; have z_ := p_ (blk_below tq_17 hb) <| p_ (below_step tq_11 hb) <| p_ (hbox) <| p_ (gb_ hg tq_11) <| p_ (gb_ hg tq_11) <| p_ (ltne_ hg (blk_lt tq_17)) <| a_ (gtne_ hg (blk_lt tq_17)); clear BK233 HB; obtain ⟨BK233, HB, BK237, GW237, GE237, NB233_237, NB237_233⟩ := z_; clear hb hbox hg; have hnb44 := NB237_233.out; have hnc44 := NB233_237.out; have hcz45_0 := bc_ BK237.out 0; have hcz45_1 := bc_ BK237.out 1; have hcz45_2 := bc_ BK237.out 2; have hfz45_0 := blk_frozen BK237.out 0; have hfz45_1 := blk_frozen BK237.out 1; have hfz45_2 := blk_frozen BK237.out 2))
           have n0_ : Aside0 ((((w43.setCell ⟨gb237, 0, none⟩ (.int .i64 ((rd_T206 l0_1 x3_2).f0))).setCell ⟨gb237, 1, none⟩ (.string ((rd_T206 l0_1 x3_2).f1))).setCell ⟨gb237, 2, none⟩ (.bool ((rd_T206 l0_1 x3_2).f2))).heap[gb233]? = some (.cells #[.string a0_0, .slice (some ad236) l0_1.length c0_1] 113 (0, 0))) := ⟨tq_20⟩
           have n1_ : Aside0 ((((w43.setCell ⟨gb237, 0, none⟩ (.int .i64 ((rd_T206 l0_1 x3_2).f0))).setCell ⟨gb237, 1, none⟩ (.string ((rd_T206 l0_1 x3_2).f1))).setCell ⟨gb237, 2, none⟩ (.bool ((rd_T206 l0_1 x3_2).f2))).heap[gb237]? = some (.cells #[.int .i64 ((rd_T206 l0_1 x3_2).f0), .string ((rd_T206 l0_1 x3_2).f1), .bool ((rd_T206 l0_1 x3_2).f2)] 206 (0, 0))) := ⟨tq_13⟩
           have n2_ : Aside0 (Below w.heap.size w (((w43.setCell ⟨gb237, 0, none⟩ (.int .i64 ((rd_T206 l0_1 x3_2).f0))).setCell ⟨gb237, 1, none⟩ (.string ((rd_T206 l0_1 x3_2).f1))).setCell ⟨gb237, 2, none⟩ (.bool ((rd_T206 l0_1 x3_2).f2)))) := ⟨tq_28⟩
           (try clear BK233)
           (try clear BK237)
           (try clear HB)
           generalize (((w43.setCell ⟨gb237, 0, none⟩ (.int .i64 ((rd_T206 l0_1 x3_2).f0))).setCell ⟨gb237, 1, none⟩ (.string ((rd_T206 l0_1 x3_2).f1))).setCell ⟨gb237, 2, none⟩ (.bool ((rd_T206 l0_1 x3_2).f2))) = w46 at n0_ n1_ n2_ ⊢
           have BK233 := n0_
           have BK237 := n1_
           have HB := n2_
           clear n0_ n1_ n2_
           have z_ := p_ (blk_drew BK233.out) <| p_ (blk_drew BK237.out) <| a_ (below_drew1 HB.out)
           clear BK233 BK237 HB
           obtain ⟨BK233, BK237, HB⟩ := z_
           refine start_ (n := 33) (S := fun w' => w'.cell? ⟨gb237, 0, none⟩ = some (.int .i64 ((rd_T206 l0_1 x3_2).f0)) ∧ w'.cell? ⟨gb237, 1, none⟩ = some (.string ((rd_T206 l0_1 x3_2).f1)) ∧ w'.cell? ⟨gb237, 2, none⟩ = some (.bool ((rd_T206 l0_1 x3_2).f2)) ∧ w'.cell? ⟨gb233, 0, none⟩ = some (.string a0_0) ∧ w'.cell? ⟨gb233, 1, none⟩ = some (.slice (some ad236) l0_1.length c0_1)) (ds := []) bq_11 (by kernel_rfl) rfl rfl (bc3_ BK237.out (bk2_ BK233.out)) (fun hHeld => ?_); refine with_tabW spec_MemoryOk.tab7 spec_MemoryOk.bits7 (fun HT_ HW_ => ?_)
           generalize w46.drew = w47 at BK233 BK237 HB hHeld ⊢
           refine yq_ (i := 0) (N := some 31) bq_12 (any_of HT_.out (by kernel_rfl)) ?_
           refine yq_ (i := 2) (N := some 33) bq_13 (any_of HT_.out (by kernel_rfl)) ?_
           refine tk_ (i := 1) (N := some 32) bq_14 (take_ofW HT_.out HW_.out (by kernel_rfl)) hHeld ?_
           refine tk_ (i := 3) (N := some 34) bq_15 (take_ofW HT_.out HW_.out (by kernel_rfl)) hHeld ?_
           refine yq_ (i := 4) (N := some 35) bq_16 (any_of HT_.out (by kernel_rfl)) ?_
           refine one_ (i := 5) (N := some 36) bq_17 rfl rfl (one_of HT_.out (by kernel_rfl)) (by decide) (fun K hK => ?_)
           refine goes_ Try.func274 (by kernel_rfl) rfl #[] (by rfl) rfl rfl tq_1 ?_
           with_reducible refine (spec_l10Size.calls  t238 _ A13.out).mono ?_
           rintro e w' ⟨rfl, ⟨nd, rfl⟩⟩
           refine ⟨_, rfl, ?_⟩
           refine hK.out _ _ (bc3_ BK237.out (bk2_ BK233.out)) (fun hHeld => ?_)
           clear hK K
           refine nm_ (some 36) ?_
           refine yq_ (i := 6) (N := some 37) bq_18 (any_of HT_.out (by kernel_rfl)) ?_
           refine yq_ (i := 7) (N := some 38) bq_19 (any_of HT_.out (by kernel_rfl)) ?_
           refine one_ (i := 8) (N := some 39) bq_20 rfl rfl (one_of HT_.out (by kernel_rfl)) (by decide) (fun K hK => ?_)
           refine goes_ Try.func141 (by kernel_rfl) rfl #[.int .i64 ((rd_T206 l0_1 x3_2).f0), .int .i64 0, .int .i64 (wrap64 ((wrap64 ((a0_0.size : Int) / t238)) - 1))] (by rfl) rfl rfl tq_1 ?_
           with_reducible refine (spec_l01In.calls ((rd_T206 l0_1 x3_2).f0) 0 (wrap64 ((wrap64 ((a0_0.size : Int) / t238)) - 1)) true _ A15.out).mono ?_
           rintro e w' ⟨rfl, ⟨nd, rfl⟩⟩
           refine ⟨_, rfl, ?_⟩
           refine hK.out _ _ (bc3_ BK237.out (bk2_ BK233.out)) (fun hHeld => ?_)
           clear hK K
           refine nm_ (some 39) ?_
           refine yq_ (i := 9) (N := some 40) bq_21 (any_of HT_.out (by kernel_rfl)) ?_
           refine yq_ (i := 10) (N := some 41) bq_22 (any_of HT_.out (by kernel_rfl)) ?_
           refine yq_ (i := 11) (N := some 42) bq_23 (any_of HT_.out (by kernel_rfl)) ?_
           refine tk_ (i := 12) (N := some 43) bq_24 (take_ofW HT_.out HW_.out (by kernel_rfl)) hHeld ?_
           refine yq_ (i := 13) (N := some 44) bq_25 (any_of HT_.out (by kernel_rfl)) ?_
           refine one_ (i := 14) (N := some 45) bq_26 rfl rfl (one_of HT_.out (by kernel_rfl)) (by decide) (fun K hK => ?_)
           refine goes_ Try.func274 (by kernel_rfl) rfl #[] (by rfl) rfl rfl tq_1 ?_
           with_reducible refine (spec_l10Size.calls  t240 _ A17.out).mono ?_
           rintro e w' ⟨rfl, ⟨nd, rfl⟩⟩
           refine ⟨_, rfl, ?_⟩
           refine hK.out _ _ (bc3_ BK237.out (bk2_ BK233.out)) (fun hHeld => ?_)
           clear hK K
           refine nm_ (some 45) ?_
           refine yq_ (i := 15) (N := some 46) bq_27 (any_of HT_.out (by kernel_rfl)) ?_
           refine yq_ (i := 16) (N := some 47) bq_28 (any_of HT_.out (by kernel_rfl)) ?_
           refine yq_ (i := 17) (N := some 48) bq_29 (any_of HT_.out (by kernel_rfl)) ?_
           refine uq_ (i := 18) (N := some 49) bq_30 (any_of HT_.out (by kernel_rfl)) ?_
           refine uq_ (i := 19) (N := some 50) bq_31 (any_of HT_.out (by kernel_rfl)) ?_
           refine uq_ (i := 20) (N := some 51) bq_32 (any_of HT_.out (by kernel_rfl)) ?_
           refine uq_ (i := 21) (N := some 52) bq_33 (any_of HT_.out (by kernel_rfl)) ?_
           refine uq_ (i := 22) (N := some 53) bq_71 (any_of HT_.out (by kernel_rfl)) ?_
           refine uq_ (i := 23) (N := some 54) bq_72 (any_of HT_.out (by kernel_rfl)) ?_
           refine uq_ (i := 24) (N := some 55) bq_73 (any_of HT_.out (by kernel_rfl)) ?_
           refine uq_ (i := 25) (N := some 56) bq_74 (any_of HT_.out (by kernel_rfl)) ?_
           refine uq_ (i := 26) (N := some 57) bq_75 (any_of HT_.out (by kernel_rfl)) ?_
           refine uq_ (i := 27) (N := some 58) bq_76 (any_of HT_.out (by kernel_rfl)) ?_
           refine uq_ (i := 28) (N := some 59) bq_34 (any_of HT_.out (by kernel_rfl)) ?_
           refine uq_ (i := 29) (N := some 60) bq_35 (any_of HT_.out (by kernel_rfl)) ?_
           refine uq_ (i := 30) (N := some 61) bq_36 (any_of HT_.out (by kernel_rfl)) ?_
           refine uq_ (i := 31) (N := some 62) bq_37 (any_of HT_.out (by kernel_rfl)) ?_
           refine yq_ (i := 32) (N := some 63) bq_38 (any_of HT_.out (by kernel_rfl)) ?_
           refine done_ (done_of HT_.out (by kernel_rfl)) ?_
           try go_wp2
           go_ret
           exact ⟨tq_2, tq_28⟩
         ·replace c16 := Bool.eq_false_iff.mpr c16
          subst c16
          have H1 : (some false) = some r := by rw [if_neg (show ¬ (false = true) by decide)] at H; exact H
          clear H
          have H := H1
          clear H1
          obtain rfl := Option.some.inj H
          have hcz48_0 := bc_ BK233.out 0
          have hcz48_1 := bc_ BK233.out 1
          have hfz48_0 := blk_frozen BK233.out 0
          have hfz48_1 := blk_frozen BK233.out 1
          have p236 : 0 ≤ (x3_2 : Int) := of_decide_eq_true tq_3
          have q236 : x3_2 < (l0_1.length : Int) := of_decide_eq_true tq_3
          obtain ⟨ad236, e236, hx236_0, hx236_1, hx236_2⟩ := at_T206 HR0_1.out x3_2 p236 q236
          cases e236
          replace hx236_0 := hx_ HB.out hx236_0
          replace hx236_1 := hx_ HB.out hx236_1
          replace hx236_2 := hx_ HB.out hx236_2
          replace p236 := eq_true p236
          replace q236 := eq_true q236
          try go_wp2_with (first | ((with_reducible refine gate_dst (N := 4) rfl ?_); (try (refine gate_guard (by rfl) ?_; dsimp only)); refine box_event ?hg (N := 4) ?hd (cs := #[.int .i64 0, .string (⟨#[]⟩ : ByteArray), .bool false]) (t := 206) ?hr ?_; (case hd => rfl); (case hg => rfl); (case hr => first | (go_simp; done) | (go_simp; rfl)); intro gb237 hg w49 hbox hb; have z_ := p_ (blk_below tq_17 hb) <| p_ (below_step tq_11 hb) <| p_ (hbox) <| p_ (gb_ hg tq_11) <| p_ (gb_ hg tq_11) <| p_ (ltne_ hg (blk_lt tq_17)) <| a_ (gtne_ hg (blk_lt tq_17)); clear BK233 HB; obtain ⟨BK233, HB, BK237, GW237, GE237, NB233_237, NB237_233⟩ := z_; clear hb hbox hg; have hnb50 := NB237_233.out; have hnc50 := NB233_237.out; have hcz51_0 := bc_ BK237.out 0; have hcz51_1 := bc_ BK237.out 1; have hcz51_2 := bc_ BK237.out 2; have hfz51_0 := blk_frozen BK237.out 0; have hfz51_1 := blk_frozen BK237.out 1; have hfz51_2 := blk_frozen BK237.out 2))
          have n0_ : Aside0 ((((w49.setCell ⟨gb237, 0, none⟩ (.int .i64 ((rd_T206 l0_1 x3_2).f0))).setCell ⟨gb237, 1, none⟩ (.string ((rd_T206 l0_1 x3_2).f1))).setCell ⟨gb237, 2, none⟩ (.bool ((rd_T206 l0_1 x3_2).f2))).heap[gb233]? = some (.cells #[.string a0_0, .slice (some ad236) l0_1.length c0_1] 113 (0, 0))) := ⟨tq_20⟩
          have n1_ : Aside0 ((((w49.setCell ⟨gb237, 0, none⟩ (.int .i64 ((rd_T206 l0_1 x3_2).f0))).setCell ⟨gb237, 1, none⟩ (.string ((rd_T206 l0_1 x3_2).f1))).setCell ⟨gb237, 2, none⟩ (.bool ((rd_T206 l0_1 x3_2).f2))).heap[gb237]? = some (.cells #[.int .i64 ((rd_T206 l0_1 x3_2).f0), .string ((rd_T206 l0_1 x3_2).f1), .bool ((rd_T206 l0_1 x3_2).f2)] 206 (0, 0))) := ⟨tq_13⟩
          have n2_ : Aside0 (Below w.heap.size w (((w49.setCell ⟨gb237, 0, none⟩ (.int .i64 ((rd_T206 l0_1 x3_2).f0))).setCell ⟨gb237, 1, none⟩ (.string ((rd_T206 l0_1 x3_2).f1))).setCell ⟨gb237, 2, none⟩ (.bool ((rd_T206 l0_1 x3_2).f2)))) := ⟨tq_28⟩
          (try clear BK233)
          (try clear BK237)
          (try clear HB)
          generalize (((w49.setCell ⟨gb237, 0, none⟩ (.int .i64 ((rd_T206 l0_1 x3_2).f0))).setCell ⟨gb237, 1, none⟩ (.string ((rd_T206 l0_1 x3_2).f1))).setCell ⟨gb237, 2, none⟩ (.bool ((rd_T206 l0_1 x3_2).f2))) = w52 at n0_ n1_ n2_ ⊢
          have BK233 := n0_
          have BK237 := n1_
          have HB := n2_
          clear n0_ n1_ n2_
          have z_ := p_ (blk_drew BK233.out) <| p_ (blk_drew BK237.out) <| a_ (below_drew1 HB.out)
          clear BK233 BK237 HB
          obtain ⟨BK233, BK237, HB⟩ := z_
          refine start_ (n := 33) (S := fun w' => w'.cell? ⟨gb237, 0, none⟩ = some (.int .i64 ((rd_T206 l0_1 x3_2).f0)) ∧ w'.cell? ⟨gb237, 1, none⟩ = some (.string ((rd_T206 l0_1 x3_2).f1)) ∧ w'.cell? ⟨gb237, 2, none⟩ = some (.bool ((rd_T206 l0_1 x3_2).f2)) ∧ w'.cell? ⟨gb233, 0, none⟩ = some (.string a0_0) ∧ w'.cell? ⟨gb233, 1, none⟩ = some (.slice (some ad236) l0_1.length c0_1)) (ds := []) bq_11 (by kernel_rfl) rfl rfl (bc3_ BK237.out (bk2_ BK233.out)) (fun hHeld => ?_); refine with_tabW spec_MemoryOk.tab7 spec_MemoryOk.bits7 (fun HT_ HW_ => ?_)
          generalize w52.drew = w53 at BK233 BK237 HB hHeld ⊢
          refine yq_ (i := 0) (N := some 31) bq_12 (any_of HT_.out (by kernel_rfl)) ?_
          refine yq_ (i := 2) (N := some 33) bq_13 (any_of HT_.out (by kernel_rfl)) ?_
          refine tk_ (i := 1) (N := some 32) bq_14 (take_ofW HT_.out HW_.out (by kernel_rfl)) hHeld ?_
          refine tk_ (i := 3) (N := some 34) bq_15 (take_ofW HT_.out HW_.out (by kernel_rfl)) hHeld ?_
          refine yq_ (i := 4) (N := some 35) bq_16 (any_of HT_.out (by kernel_rfl)) ?_
          refine one_ (i := 5) (N := some 36) bq_17 rfl rfl (one_of HT_.out (by kernel_rfl)) (by decide) (fun K hK => ?_)
          refine goes_ Try.func274 (by kernel_rfl) rfl #[] (by rfl) rfl rfl tq_1 ?_
          with_reducible refine (spec_l10Size.calls  t238 _ A13.out).mono ?_
          rintro e w' ⟨rfl, ⟨nd, rfl⟩⟩
          refine ⟨_, rfl, ?_⟩
          refine hK.out _ _ (bc3_ BK237.out (bk2_ BK233.out)) (fun hHeld => ?_)
          clear hK K
          refine nm_ (some 36) ?_
          refine yq_ (i := 6) (N := some 37) bq_18 (any_of HT_.out (by kernel_rfl)) ?_
          refine yq_ (i := 7) (N := some 38) bq_19 (any_of HT_.out (by kernel_rfl)) ?_
          refine one_ (i := 8) (N := some 39) bq_20 rfl rfl (one_of HT_.out (by kernel_rfl)) (by decide) (fun K hK => ?_)
          refine goes_ Try.func141 (by kernel_rfl) rfl #[.int .i64 ((rd_T206 l0_1 x3_2).f0), .int .i64 0, .int .i64 (wrap64 ((wrap64 ((a0_0.size : Int) / t238)) - 1))] (by rfl) rfl rfl tq_1 ?_
          with_reducible refine (spec_l01In.calls ((rd_T206 l0_1 x3_2).f0) 0 (wrap64 ((wrap64 ((a0_0.size : Int) / t238)) - 1)) false _ A15.out).mono ?_
          rintro e w' ⟨rfl, ⟨nd, rfl⟩⟩
          refine ⟨_, rfl, ?_⟩
          refine hK.out _ _ (bc3_ BK237.out (bk2_ BK233.out)) (fun hHeld => ?_)
          clear hK K
          refine nm_ (some 39) ?_
          refine yq_ (i := 9) (N := some 40) bq_21 (any_of HT_.out (by kernel_rfl)) ?_
          refine yq_ (i := 10) (N := some 41) bq_22 (any_of HT_.out (by kernel_rfl)) ?_
          refine uq_ (i := 11) (N := some 42) bq_23 (any_of HT_.out (by kernel_rfl)) ?_
          refine uq_ (i := 12) (N := some 43) bq_24 (any_of HT_.out (by kernel_rfl)) ?_
          refine uq_ (i := 13) (N := some 44) bq_25 (any_of HT_.out (by kernel_rfl)) ?_
          refine uq_ (i := 14) (N := some 45) bq_26 (any_of HT_.out (by kernel_rfl)) ?_
          refine uq_ (i := 15) (N := some 46) bq_27 (any_of HT_.out (by kernel_rfl)) ?_
          refine yq_ (i := 16) (N := some 47) bq_28 (any_of HT_.out (by kernel_rfl)) ?_
          refine yq_ (i := 17) (N := some 48) bq_29 (any_of HT_.out (by kernel_rfl)) ?_
          refine uq_ (i := 18) (N := some 49) bq_30 (any_of HT_.out (by kernel_rfl)) ?_
          refine uq_ (i := 19) (N := some 50) bq_31 (any_of HT_.out (by kernel_rfl)) ?_
          refine uq_ (i := 20) (N := some 51) bq_32 (any_of HT_.out (by kernel_rfl)) ?_
          refine uq_ (i := 21) (N := some 52) bq_33 (any_of HT_.out (by kernel_rfl)) ?_
          refine uq_ (i := 22) (N := some 53) bq_71 (any_of HT_.out (by kernel_rfl)) ?_
          refine uq_ (i := 23) (N := some 54) bq_72 (any_of HT_.out (by kernel_rfl)) ?_
          refine uq_ (i := 24) (N := some 55) bq_73 (any_of HT_.out (by kernel_rfl)) ?_
          refine uq_ (i := 25) (N := some 56) bq_74 (any_of HT_.out (by kernel_rfl)) ?_
          refine uq_ (i := 26) (N := some 57) bq_75 (any_of HT_.out (by kernel_rfl)) ?_
          refine uq_ (i := 27) (N := some 58) bq_76 (any_of HT_.out (by kernel_rfl)) ?_
          refine uq_ (i := 28) (N := some 59) bq_34 (any_of HT_.out (by kernel_rfl)) ?_
          refine uq_ (i := 29) (N := some 60) bq_35 (any_of HT_.out (by kernel_rfl)) ?_
          refine uq_ (i := 30) (N := some 61) bq_36 (any_of HT_.out (by kernel_rfl)) ?_
          refine uq_ (i := 31) (N := some 62) bq_37 (any_of HT_.out (by kernel_rfl)) ?_
          refine yq_ (i := 32) (N := some 63) bq_38 (any_of HT_.out (by kernel_rfl)) ?_
          refine done_ (done_of HT_.out (by kernel_rfl)) ?_
          try go_wp2
          go_ret
          exact ⟨tq_2, tq_28⟩
       ·rw [if_neg c12] at H
        exact absurd H (by simp)
      ·rw [if_neg c11] at H
       have c11b0 : decide (x3_2 < (l0_1.length : Int)) = false := decide_eq_false c11
       clear c11
       obtain rfl := Option.some.inj H
       have hcz54_0 := bc_ BK233.out 0
       have hcz54_1 := bc_ BK233.out 1
       have hfz54_0 := blk_frozen BK233.out 0
       have hfz54_1 := blk_frozen BK233.out 1
       go_wp2
       go_ret
       exact ⟨tq_2, tq_11⟩

end Go.Proofs.Ytcdnfkoahajhhaa.PFnExactCleanOk
