/- Contracts of Go functions: each call returns what the Lean function beside it computes. Conditions: as each theorem states them. -/
import Derived.Test.YtleoknilacjakaaGreatPkFnExactChanged
import Derived.Test.YtleoknilacjakaaGreatPFnExactChangedx1
import Derived.Test.YtleoknilacjakaaGreatPFnExactChangedx19
import Derived.Test.YtleoknilacjakaaGreatPFnExactChangedx17
namespace Go.Proofs.YtleoknilacjakaaGreat.PFnExactChanged
open Go.RowKit Go.Proofs.YtleoknilacjakaaGreatW.PrintWords Go.Proofs.YtleoknilacjakaaGreatW.PrintLast Go.Proofs.YtleoknilacjakaaGreatW.PrintMore
attribute [local go_sem] max2_int min2_int max_two min_two max_three min_three max_four min_four   -- for this text's walks alone
set_option linter.unusedVariables false
set_option linter.unusedSimpArgs false

/-! ### impl_isDir: function 98 -/
def impl_isDir.l0 : Nat → List (S72) → Int → Int → Int → Int → Int → ByteArray → List (S89) → List (S72) → Option (Bool)
 | 0, _, _, _, _, _, _, _, _, _ => none
 | k + 1, x6, x7, x8, a9, a6, aa, a7, a8, a5 => if x8 < x7 then (if 0 ≤ x8 then (if x8 < (x6.length : Int) then ((impl_EntryWord.f k ((rd_T72 x6 x8).f0) ((rd_T72 x6 x8).f1)).bind fun ab => (if ab.toList = ([] : List UInt8) then (some false) else (if x8 > 0 then (if 0 ≤ (wrap64 (x8 - 1)) then (if (wrap64 (x8 - 1)) < (a5.length : Int) then (if ((Op.bytesLess (((rd_T72 a5 (wrap64 (x8 - 1))).f1).toList) (((rd_T72 x6 x8).f1).toList)) = true) then (impl_isDir.l0 k x6 x7 (wrap64 (x8 + 1)) a9 a6 aa a7 a8 a5) else (some false)) else (none)) else (none)) else (impl_isDir.l0 k x6 x7 (wrap64 (x8 + 1)) a9 a6 aa a7 a8 a5)))) else (none)) else (none)) else (if a6 = 0 then (if a7.toList = ([] : List UInt8) then (if (a8.length : Int) = 0 then (some (decide ((a5.length : Int) ≤ 6))) else (some false)) else (some false)) else (some false))
def impl_isDir.f (k : Nat) (a6 : Int) (a7 : Int) (a8 : Int) (a9 : ByteArray) (aa : List (S89)) (a5 : List (S72)) : Option (Bool) := impl_isDir.l0 k a5 (a5.length : Int) 0 a6 a7 a8 a9 aa a5
def impl_isDir.T4 : Bool × List (List Nat × List Nat) := (true, [([], []), ([0], [0]), ([1], [1]), ([2, 1], [2]), ([3], [3]), ([4, 3], [3, 4]), ([5, 3, 3], [3, 5]), ([6], [6]), ([7, 6], [6, 7]), ([6], [6]), ([9, 6], [6, 9]), ([6], [6]), ([11, 6], [6, 11]), ([10, 12, 6], [6, 10, 12]), ([13, 6], [6, 13]), ([14, 6], [6, 14]), ([8, 15, 6], [6, 8, 15]), ([6, 16, 3], [3, 6, 16]), ([3, 17], [3, 17])])
def impl_isDir.B4 : List Nat := [0, 1, 3, 7, 15, 31, 63, 127, 255, 127, 639, 127, 2175, 7807, 15999, 32383, 65535, 131071, 262143]
theorem impl_isDir.tab4 : rtab .any (opsOf Tryz.f98 4) = impl_isDir.T4 := by kernel_rfl
theorem impl_isDir.bits4 : waitsOk impl_isDir.T4.2 impl_isDir.B4 = true := by kernel_rfl
set_option maxHeartbeats 8000000 in
set_option maxRecDepth 100000 in
theorem impl_isDir.calls (k : Nat) (an : Int) (aj : Int) (ao : Int) (ak : ByteArray) (ap : Option Addr) (aq : Nat) (l0_4 : List (S89)) (av : Option Addr) (ar : Nat) (a5 : List (S72)) (r : Bool) (w : World) (ax : Kd.C k89 w ap l0_4.length l0_4) (ay : l0_4.length ≤ aq) (az : Kd.C k72 w av a5.length a5) (b0 : a5.length ≤ ar) (h : impl_isDir.f k an aj ao ak l0_4 a5 = some r) :
  Calls Tryz.prog 98 #[.agg #[.int .i64 an, .int .i64 aj, .int .i64 ao, .string ak, .slice ap l0_4.length aq, .slice av a5.length ar]] w fun e w' => e = .returned (.bool r) ∧ Below w.heap.size w w' := by
 have hu69 := Tryz.underlying69
 have hu72 := Tryz.underlying72
 have HR0_4 := Aside0.mk ax
 have bq := Aside0.mk ay
 clear ax ay
 have HR0_5 := Aside0.mk az
 have br := Aside0.mk b0
 clear az b0
 have HB := Aside0.mk (Below.refl w.heap.size w)
 unfold impl_isDir.f at h
 have H := h
 clear h
 have H' := Aside0.mk H
 clear H
 go_enter Tryz.func98, Tryz.ntmps98
 go_wp2_with (first | ((with_reducible refine gate_dst (N := 1) rfl ?_); (try (refine gate_guard (by rfl) ?_; dsimp only)); refine be_ 1 (cs := #[.int .i64 an, .int .i64 aj, .int .i64 ao, .string ak, .slice ap l0_4.length aq, .slice av a5.length ar]) 69 ?_; intro af hg w2 hbox hb; have z_ := bx0_ th_ hb hbox hg; clear HB; obtain ⟨HB, a6, bs, bu⟩ := z_; clear hb hbox hg; have bl := bb6_ a6.out))
 go_loopg [8] k (fun kq v8 w' => ∃ (x8_1 : Int), v8 = .int .i64 x8_1 ∧ Aside0 (impl_isDir.l0 kq a5 (a5.length : Int) x8_1 an aj ao ak l0_4 a5 = some r) ∧ Aside0 (kq ≤ k) ∧ Aside0 (w'.heap[af]? = some (.cells #[.int .i64 an, .int .i64 aj, .int .i64 ao, .string ak, (.slice ap l0_4.length aq), (.slice av a5.length ar)] 69 (0, 0))) ∧ Aside0 (Below w.heap.size w w'))
 case atStart => exact ⟨(0), tq_3, H', ⟨Nat.le_refl _⟩, ⟨(kb_ a6)⟩, ⟨th_⟩⟩
 case round =>
 clear H'
 try clear p2; try clear bl
 obtain ⟨x8_1, rfl, HA, HK1, a6, HB⟩ := hrel
 cases gk with
 | zero => exact absurd HA.out (by simp [impl_isDir.l0])
 | succ k1 =>
 have H := HA.out
 clear HA
 simp only [impl_isDir.l0] at H
 by_cases c4 : x8_1 < (a5.length : Int)
 rotate_left
 ·rw [if_neg c4] at H
  have bm := decide_eq_false c4
  clear c4
  by_cases b4 : aj = 0
  rotate_left
  ·rw [if_neg b4] at H
   have b8 := beq_eq_false_iff_ne.mpr b4
   have b9 := bne_iff_ne.mpr b4
   obtain rfl := Option.some.inj H
   have cb := bb6_ a6.out
   go_wp2
   go_ret
   exact ⟨tq_1, th_⟩
  rw [if_pos b4] at H
  have b8 := beq_iff_eq.mpr b4
  have b9 := bne_eq_false_iff_eq.mpr b4
  clear b4
  by_cases b5 : ak.toList = ([] : List UInt8)
  rotate_left
  ·rw [if_neg b5] at H
   have ba := beq_eq_false_iff_ne.mpr b5
   have bb := bne_iff_ne.mpr b5
   obtain rfl := Option.some.inj H
   have cc := bb6_ a6.out
   go_wp2
   go_ret
   exact ⟨tq_1, th_⟩
  rw [if_pos b5] at H
  have ba := beq_iff_eq.mpr b5
  have bb := bne_eq_false_iff_eq.mpr b5
  clear b5
  by_cases b1 : (l0_4.length : Int) = 0
  ·rw [if_pos b1] at H
   have bc := beq_iff_eq.mpr b1
   have bd := bne_eq_false_iff_eq.mpr b1
   clear b1
   obtain rfl := Option.some.inj H
   have cd := bb6_ a6.out
   go_wp2
   go_ret
   exact ⟨tq_1, th_⟩
  rw [if_neg b1] at H
  have bc := beq_eq_false_iff_ne.mpr b1
  have bd := bne_iff_ne.mpr b1
  have bv : ¬ (l0_4 = []) := fun h_ => b1 (by rw [h_]; rfl)
  obtain rfl := Option.some.inj H
  have ce := bb6_ a6.out
  go_wp2
  go_ret
  exact ⟨tq_1, th_⟩
 rw [if_pos c4] at H
 have bm := decide_eq_true c4
 clear c4
 obtain ⟨c5, H⟩ := fc_ H
 have cf := decide_eq_true c5
 clear c5
 obtain ⟨c6, H⟩ := fc_ H
 have cg := decide_eq_true c6
 clear c6
 obtain ⟨aw, A7, H⟩ := bd_ H
 by_cases c8 : aw.toList = ([] : List UInt8)
 ·rw [if_pos c8] at H
  have bn := beq_iff_eq.mpr c8
  have bo := bne_eq_false_iff_eq.mpr c8
  clear c8
  obtain rfl := Option.some.inj H
  have p479 : 0 ≤ (x8_1 : Int) := of_decide_eq_true tq_2
  have q479 : x8_1 < (a5.length : Int) := of_decide_eq_true tq_2
  obtain ⟨ag, au, a9, aa⟩ := at_T72 HR0_5.out x8_1 p479 q479
  cases au
  replace a9 := hx_ HB.out a9
  replace aa := hx_ HB.out aa
  replace p479 := eq_true p479
  replace q479 := eq_true q479
  try go_wp2_with (first | ((with_reducible refine gate_dst (N := 4) rfl ?_); (try (refine gate_guard (by rfl) ?_; dsimp only)); refine be_ 4 (cs := #[.int .i64 0, .string (⟨#[]⟩ : ByteArray)]) 72 ?_; intro a8 hg w9 hbox hb; have z_ := bx1_ (kb_ a6) th_ hb hbox hg; clear a6 HB; obtain ⟨a6, HB, a7, b2, b3, ab, ac⟩ := z_; clear hb hbox hg; obtain ⟨al, am⟩ := an2_ ac ab; have ch := bb2_ a7.out))
  have n0_ : Aside0 (((w9.setCell ⟨a8, 0, none⟩ (.int .i64 ((rd_T72 a5 x8_1).f0))).setCell ⟨a8, 1, none⟩ (.string ((rd_T72 a5 x8_1).f1))).heap[af]? = some (.cells #[.int .i64 an, .int .i64 aj, .int .i64 ao, .string ak, .slice ap l0_4.length aq, .slice (some ag) a5.length ar] 69 (0, 0))) := ⟨tb_⟩
  have n1_ : Aside0 (((w9.setCell ⟨a8, 0, none⟩ (.int .i64 ((rd_T72 a5 x8_1).f0))).setCell ⟨a8, 1, none⟩ (.string ((rd_T72 a5 x8_1).f1))).heap[a8]? = some (.cells #[.int .i64 ((rd_T72 a5 x8_1).f0), .string ((rd_T72 a5 x8_1).f1)] 72 (0, 0))) := ⟨tb_⟩
  have n2_ : Aside0 (Below w.heap.size w ((w9.setCell ⟨a8, 0, none⟩ (.int .i64 ((rd_T72 a5 x8_1).f0))).setCell ⟨a8, 1, none⟩ (.string ((rd_T72 a5 x8_1).f1)))) := ⟨th_⟩
  (try clear a6)
  (try clear a7)
  (try clear HB)
  generalize ((w9.setCell ⟨a8, 0, none⟩ (.int .i64 ((rd_T72 a5 x8_1).f0))).setCell ⟨a8, 1, none⟩ (.string ((rd_T72 a5 x8_1).f1))) = ci at n0_ n1_ n2_ ⊢
  have a6 := n0_
  have a7 := n1_
  have HB := n2_
  clear n0_ n1_ n2_
  have z_ := dw2_ a6 a7 HB
  clear a6 a7 HB
  obtain ⟨a6, a7, HB⟩ := z_
  refine start_ (n := 19) (S := fun w' => w'.cell? ⟨a8, 0, none⟩ = some (.int .i64 ((rd_T72 a5 x8_1).f0)) ∧ w'.cell? ⟨a8, 1, none⟩ = some (.string ((rd_T72 a5 x8_1).f1))) (ds := []) bq_66 (by kernel_rfl) rfl rfl (bk2_ a7.out) (fun hHeld => ?_); refine with_tabW impl_isDir.tab4 impl_isDir.bits4 (fun HT_ HW_ => ?_)
  generalize ci.drew = cm at a6 a7 HB hHeld ⊢
  refine tr_ 0 13 bq_67 HT_ HW_ hHeld ?_
  refine one_ (i := 1) (N := some 14) bq_68 rfl rfl (one_of HT_.out (by kernel_rfl)) (by decide) (fun K hK => ?_)
  refine goes_ Tryz.func86 (by kernel_rfl) rfl #[.agg #[.int .i64 ((rd_T72 a5 x8_1).f0), .string ((rd_T72 a5 x8_1).f1)]] (by rfl) rfl rfl tq_0 ?_
  with_reducible refine (impl_EntryWord.calls k1 ((rd_T72 a5 x8_1).f0) ((rd_T72 a5 x8_1).f1) aw _ A7.out).mono ?_
  rintro e cn ⟨rfl, hb⟩
  refine ⟨_, rfl, ?_⟩
  have z_ := bw2_ (kb_ a6) (kb_ a7) th_ hb
  clear a6 a7 HB
  obtain ⟨a6, a7, HB⟩ := z_
  (try clear hb)
  refine hK.out _ _ (bk2_ a7.out) (fun hHeld => ?_)
  clear hK K
  refine nm_ (some 14) ?_
  refine yr_ 2 15 bq_69 HT_ ?_
  refine yr_ 3 16 bq_70 HT_ ?_
  refine ur_ 4 17 bq_71 HT_ ?_
  refine ur_ 5 18 bq_72 HT_ ?_
  refine ur_ 6 19 bq_73 HT_ ?_
  refine ur_ 7 20 bq_74 HT_ ?_
  refine ur_ 8 21 bq_130 HT_ ?_
  refine ur_ 9 22 bq_131 HT_ ?_
  refine ur_ 10 23 bq_132 HT_ ?_
  refine ur_ 11 24 bq_133 HT_ ?_
  refine ur_ 12 25 bq_75 HT_ ?_
  refine ur_ 13 26 bq_76 HT_ ?_
  refine ur_ 14 27 bq_77 HT_ ?_
  refine ur_ 15 28 bq_78 HT_ ?_
  refine ur_ 16 29 bq_79 HT_ ?_
  refine ur_ 17 30 bq_80 HT_ ?_
  refine yr_ 18 31 bq_81 HT_ ?_
  refine done_ (done_of HT_.out (by kernel_rfl)) ?_
  try go_wp2
  go_ret
  exact ⟨tq_1, th_⟩
 rw [if_neg c8] at H
 have bn := beq_eq_false_iff_ne.mpr c8
 have bo := bne_iff_ne.mpr c8
 by_cases b6 : x8_1 > 0
 rotate_left
 ·rw [if_neg b6] at H
  have be := decide_eq_false b6
  clear b6
  have H' := Aside0.mk H
  clear H
  have p479 : 0 ≤ (x8_1 : Int) := of_decide_eq_true tq_2
  have q479 : x8_1 < (a5.length : Int) := of_decide_eq_true tq_2
  obtain ⟨ag, au, a9, aa⟩ := at_T72 HR0_5.out x8_1 p479 q479
  cases au
  replace a9 := hx_ HB.out a9
  replace aa := hx_ HB.out aa
  replace p479 := eq_true p479
  replace q479 := eq_true q479
  try go_wp2_with (first | ((with_reducible refine gate_dst (N := 4) rfl ?_); (try (refine gate_guard (by rfl) ?_; dsimp only)); refine be_ 4 (cs := #[.int .i64 0, .string (⟨#[]⟩ : ByteArray)]) 72 ?_; intro a8 hg bi hbox hb; have z_ := bx1_ (kb_ a6) th_ hb hbox hg; clear a6 HB; obtain ⟨a6, HB, a7, b2, b3, ab, ac⟩ := z_; clear hb hbox hg; obtain ⟨al, am⟩ := an2_ ac ab; have cj := bb2_ a7.out))
  have n0_ : Aside0 (((bi.setCell ⟨a8, 0, none⟩ (.int .i64 ((rd_T72 a5 x8_1).f0))).setCell ⟨a8, 1, none⟩ (.string ((rd_T72 a5 x8_1).f1))).heap[af]? = some (.cells #[.int .i64 an, .int .i64 aj, .int .i64 ao, .string ak, .slice ap l0_4.length aq, .slice (some ag) a5.length ar] 69 (0, 0))) := ⟨tb_⟩
  have n1_ : Aside0 (((bi.setCell ⟨a8, 0, none⟩ (.int .i64 ((rd_T72 a5 x8_1).f0))).setCell ⟨a8, 1, none⟩ (.string ((rd_T72 a5 x8_1).f1))).heap[a8]? = some (.cells #[.int .i64 ((rd_T72 a5 x8_1).f0), .string ((rd_T72 a5 x8_1).f1)] 72 (0, 0))) := ⟨tb_⟩
  have n2_ : Aside0 (Below w.heap.size w ((bi.setCell ⟨a8, 0, none⟩ (.int .i64 ((rd_T72 a5 x8_1).f0))).setCell ⟨a8, 1, none⟩ (.string ((rd_T72 a5 x8_1).f1)))) := ⟨th_⟩
  (try clear a6)
  (try clear a7)
  (try clear HB)
  generalize ((bi.setCell ⟨a8, 0, none⟩ (.int .i64 ((rd_T72 a5 x8_1).f0))).setCell ⟨a8, 1, none⟩ (.string ((rd_T72 a5 x8_1).f1))) = ck at n0_ n1_ n2_ ⊢
  have a6 := n0_
  have a7 := n1_
  have HB := n2_
  clear n0_ n1_ n2_
  have z_ := dw2_ a6 a7 HB
  clear a6 a7 HB
  obtain ⟨a6, a7, HB⟩ := z_
  refine start_ (n := 19) (S := fun w' => w'.cell? ⟨a8, 0, none⟩ = some (.int .i64 ((rd_T72 a5 x8_1).f0)) ∧ w'.cell? ⟨a8, 1, none⟩ = some (.string ((rd_T72 a5 x8_1).f1))) (ds := []) bq_66 (by kernel_rfl) rfl rfl (bk2_ a7.out) (fun hHeld => ?_); refine with_tabW impl_isDir.tab4 impl_isDir.bits4 (fun HT_ HW_ => ?_)
  generalize ck.drew = co at a6 a7 HB hHeld ⊢
  refine tr_ 0 13 bq_67 HT_ HW_ hHeld ?_
  refine one_ (i := 1) (N := some 14) bq_68 rfl rfl (one_of HT_.out (by kernel_rfl)) (by decide) (fun K hK => ?_)
  refine goes_ Tryz.func86 (by kernel_rfl) rfl #[.agg #[.int .i64 ((rd_T72 a5 x8_1).f0), .string ((rd_T72 a5 x8_1).f1)]] (by rfl) rfl rfl tq_0 ?_
  with_reducible refine (impl_EntryWord.calls k1 ((rd_T72 a5 x8_1).f0) ((rd_T72 a5 x8_1).f1) aw _ A7.out).mono ?_
  rintro e cp ⟨rfl, hb⟩
  refine ⟨_, rfl, ?_⟩
  have z_ := bw2_ (kb_ a6) (kb_ a7) th_ hb
  clear a6 a7 HB
  obtain ⟨a6, a7, HB⟩ := z_
  (try clear hb)
  refine hK.out _ _ (bk2_ a7.out) (fun hHeld => ?_)
  clear hK K
  refine nm_ (some 14) ?_
  refine yr_ 2 15 bq_69 HT_ ?_
  refine yr_ 3 16 bq_70 HT_ ?_
  refine yr_ 4 17 bq_71 HT_ ?_
  refine yr_ 5 18 bq_72 HT_ ?_
  refine yr_ 6 19 bq_73 HT_ ?_
  refine ur_ 7 20 bq_74 HT_ ?_
  refine ur_ 8 21 bq_130 HT_ ?_
  refine ur_ 9 22 bq_131 HT_ ?_
  refine ur_ 10 23 bq_132 HT_ ?_
  refine ur_ 11 24 bq_133 HT_ ?_
  refine ur_ 12 25 bq_75 HT_ ?_
  refine ur_ 13 26 bq_76 HT_ ?_
  refine ur_ 14 27 bq_77 HT_ ?_
  refine ur_ 15 28 bq_78 HT_ ?_
  refine ur_ 16 29 bq_79 HT_ ?_
  refine yr_ 17 30 bq_80 HT_ ?_
  refine yr_ 18 31 bq_81 HT_ ?_
  refine done_ (done_of HT_.out (by kernel_rfl)) ?_
  try go_wp2
  go_roundg k1
  case measure => have := HK1.out; omega
  case rel => exact ⟨(wrap64 (x8_1 + 1)), tq_3, H', ⟨tq_22⟩, ⟨(kb_ a6)⟩, ⟨th_⟩⟩
 rw [if_pos b6] at H
 have be := decide_eq_true b6
 clear b6
 obtain ⟨ji16, hji16⟩ : ∃ j_ : Int, (wrap64 (x8_1 - 1)) = j_ := ⟨_, rfl⟩
 replace H : (if 0 ≤ (ji16) then (if (ji16) < (a5.length : Int) then (if ((Op.bytesLess (((rd_T72 a5 (ji16)).f1).toList) (((rd_T72 a5 x8_1).f1).toList)) = true) then (impl_isDir.l0 k1 a5 (a5.length : Int) (wrap64 (x8_1 + 1)) an aj ao ak l0_4 a5) else (some false)) else (none)) else (none)) = some r := by first | (rw [hji16] at H; exact H) | (simp only [hji16] at H ⊢; exact H)
 (try rw [hji16] at A7)
 have hji16w : (IntKind.i64.wrap (x8_1 - 1)) = ji16 := (i64_w _).trans hji16
 obtain ⟨bw, H⟩ := fc_ H
 have bx := decide_eq_true bw
 clear bw
 obtain ⟨bz, H⟩ := fc_ H
 have ca := decide_eq_true bz
 clear bz
 have bf := Aside0.mk H
 clear H
 have p479 : 0 ≤ (x8_1 : Int) := of_decide_eq_true tq_2
 have q479 : x8_1 < (a5.length : Int) := of_decide_eq_true tq_2
 obtain ⟨ag, au, a9, aa⟩ := at_T72 HR0_5.out x8_1 p479 q479
 cases au
 replace a9 := hx_ HB.out a9
 replace aa := hx_ HB.out aa
 replace p479 := eq_true p479
 replace q479 := eq_true q479
 try go_wp2_with (first | ((with_reducible refine gate_dst (N := 4) rfl ?_); (try (refine gate_guard (by rfl) ?_; dsimp only)); refine be_ 4 (cs := #[.int .i64 0, .string (⟨#[]⟩ : ByteArray)]) 72 ?_; intro a8 hg bj hbox hb; have z_ := bx1_ (kb_ a6) th_ hb hbox hg; clear a6 HB; obtain ⟨a6, HB, a7, b2, b3, ab, ac⟩ := z_; clear hb hbox hg; obtain ⟨al, am⟩ := an2_ ac ab; have bg := bb2_ a7.out))
 have n0_ : Aside0 (((bj.setCell ⟨a8, 0, none⟩ (.int .i64 ((rd_T72 a5 x8_1).f0))).setCell ⟨a8, 1, none⟩ (.string ((rd_T72 a5 x8_1).f1))).heap[af]? = some (.cells #[.int .i64 an, .int .i64 aj, .int .i64 ao, .string ak, .slice ap l0_4.length aq, .slice (some ag) a5.length ar] 69 (0, 0))) := ⟨tb_⟩
 have n1_ : Aside0 (((bj.setCell ⟨a8, 0, none⟩ (.int .i64 ((rd_T72 a5 x8_1).f0))).setCell ⟨a8, 1, none⟩ (.string ((rd_T72 a5 x8_1).f1))).heap[a8]? = some (.cells #[.int .i64 ((rd_T72 a5 x8_1).f0), .string ((rd_T72 a5 x8_1).f1)] 72 (0, 0))) := ⟨tb_⟩
 have n2_ : Aside0 (Below w.heap.size w ((bj.setCell ⟨a8, 0, none⟩ (.int .i64 ((rd_T72 a5 x8_1).f0))).setCell ⟨a8, 1, none⟩ (.string ((rd_T72 a5 x8_1).f1)))) := ⟨th_⟩
 (try clear a6)
 (try clear a7)
 (try clear HB)
 generalize ((bj.setCell ⟨a8, 0, none⟩ (.int .i64 ((rd_T72 a5 x8_1).f0))).setCell ⟨a8, 1, none⟩ (.string ((rd_T72 a5 x8_1).f1))) = cl at n0_ n1_ n2_ ⊢
 have a6 := n0_
 have a7 := n1_
 have HB := n2_
 clear n0_ n1_ n2_
 have z_ := dw2_ a6 a7 HB
 clear a6 a7 HB
 obtain ⟨a6, a7, HB⟩ := z_
 have p482 : 0 ≤ ((ji16) : Int) := of_decide_eq_true tq_2
 have q482 : (ji16) < (a5.length : Int) := of_decide_eq_true tq_2
 obtain ⟨bh, bp, ah, ai⟩ := at_T72 HR0_5.out (ji16) p482 q482
 have hw482_1 := ai
 have hw482_0 := ah
 obtain rfl : ag = bh := (by injection bp)
 replace ah := hx_ HB.out ah
 replace ai := hx_ HB.out ai
 replace p482 := eq_true p482
 replace q482 := eq_true q482
 refine start_ (n := 19) (S := fun w' => w'.cell? ⟨a8, 0, none⟩ = some (.int .i64 ((rd_T72 a5 x8_1).f0)) ∧ w'.cell? ⟨a8, 1, none⟩ = some (.string ((rd_T72 a5 x8_1).f1)) ∧ w'.cell? ⟨af, 0, none⟩ = some (.int .i64 an) ∧ w'.cell? ⟨af, 1, none⟩ = some (.int .i64 aj) ∧ w'.cell? ⟨af, 2, none⟩ = some (.int .i64 ao) ∧ w'.cell? ⟨af, 3, none⟩ = some (.string ak) ∧ w'.cell? ⟨af, 4, none⟩ = some (.slice ap l0_4.length aq) ∧ w'.cell? ⟨af, 5, none⟩ = some (.slice (some ag) a5.length ar) ∧ w'.cell? (ag.add (((ji16)).toNat * 2)) = some (.int .i64 ((rd_T72 a5 (ji16)).f0)) ∧ w'.cell? ⟨(ag.add (((ji16)).toNat * 2)).block, (ag.add (((ji16)).toNat * 2)).off + 1, none⟩ = some (.string ((rd_T72 a5 (ji16)).f1))) (ds := []) bq_66 (by kernel_rfl) rfl rfl (bc2_ a7.out (bc6_ a6.out ⟨((HB.out.cell (World.block_lt_of_cell? w _ hw482_0)).trans hw482_0), ((HB.out.cell (World.block_lt_of_cell? w _ hw482_1)).trans hw482_1)⟩)) (fun hHeld => ?_); refine with_tabW impl_isDir.tab4 impl_isDir.bits4 (fun HT_ HW_ => ?_)
 generalize cl.drew = cq at a6 a7 HB ah ai hHeld ⊢
 refine tr_ 0 13 bq_67 HT_ HW_ hHeld ?_
 refine one_ (i := 1) (N := some 14) bq_68 rfl rfl (one_of HT_.out (by kernel_rfl)) (by decide) (fun K hK => ?_)
 refine goes_ Tryz.func86 (by kernel_rfl) rfl #[.agg #[.int .i64 ((rd_T72 a5 x8_1).f0), .string ((rd_T72 a5 x8_1).f1)]] (by rfl) rfl rfl tq_0 ?_
 with_reducible refine (impl_EntryWord.calls k1 ((rd_T72 a5 x8_1).f0) ((rd_T72 a5 x8_1).f1) aw _ A7.out).mono ?_
 rintro e cr ⟨rfl, hb⟩
 refine ⟨_, rfl, ?_⟩
 have z_ := bw2_ (kb_ a6) (kb_ a7) th_ hb
 clear a6 a7 HB
 obtain ⟨a6, a7, HB⟩ := z_
 (try clear hb)
 refine hK.out _ _ (bc2_ a7.out (bc6_ a6.out ⟨((HB.out.cell (World.block_lt_of_cell? w _ hw482_0)).trans hw482_0), ((HB.out.cell (World.block_lt_of_cell? w _ hw482_1)).trans hw482_1)⟩)) (fun hHeld => ?_)
 clear hK K
 refine nm_ (some 14) ?_
 refine yr_ 2 15 bq_69 HT_ ?_
 refine yr_ 3 16 bq_70 HT_ ?_
 refine yr_ 4 17 bq_71 HT_ ?_
 refine yr_ 5 18 bq_72 HT_ ?_
 refine yr_ 6 19 bq_73 HT_ ?_
 refine yr_ 7 20 bq_74 HT_ ?_
 refine yr_ 9 22 #[true, true, true, true, true, true, true, true, false, true, false, false, false, false, false, false, false, false, false] HT_ ?_
 refine yr_ 11 24 #[true, true, true, true, true, true, true, true, false, true, false, true, false, false, false, false, false, false, false] HT_ ?_
 refine yr_ 12 25 #[true, true, true, true, true, true, true, true, false, true, false, true, true, false, false, false, false, false, false] HT_ ?_
 refine tr_ 8 21 #[true, true, true, true, true, true, true, true, true, true, false, true, true, false, false, false, false, false, false] HT_ HW_ hHeld ?_
 refine tr_ 10 23 bq_75 HT_ HW_ hHeld ?_
 refine yr_ 13 26 bq_76 HT_ ?_
 refine yr_ 14 27 bq_77 HT_ ?_
 refine tr_ 15 28 bq_78 HT_ HW_ hHeld ?_
 refine yr_ 16 29 bq_79 HT_ ?_
 refine yr_ 17 30 bq_80 HT_ ?_
 refine yr_ 18 31 bq_81 HT_ ?_
 refine done_ (done_of HT_.out (by kernel_rfl)) ?_
 go_upto_if 31 with (fail)
 (try clear am al)
 (try clear bg)
 (try clear bl)
 (try clear bg)
 (try clear bl)
 (try clear a9 aa)
 (try clear ah ai)
 have H := bf.out
 clear bf
 by_cases b7 : ((Op.bytesLess (((rd_T72 a5 (ji16)).f1).toList) (((rd_T72 a5 x8_1).f1).toList)) = true)
 ·rw [if_pos b7] at H
  have ae : (Op.bytesLess (((rd_T72 a5 (ji16)).f1).toList) (((rd_T72 a5 x8_1).f1).toList)) = true := b7
  have c26b0q : (Op.bytesLess (((rd_T72 a5 x8_1).f1).toList) (((rd_T72 a5 (ji16)).f1).toList) || ((((rd_T72 a5 x8_1).f1).toList) == (((rd_T72 a5 (ji16)).f1).toList))) = false := by rw [bl_leq, ae]; rfl
  clear b7
  (first | rw [ae] | (simp only [i64_w, i32_w]; rw [ae]) | rw [bl_leq, ae] | rw [bl_gtr, ae] | skip)
  have H' := Aside0.mk H
  clear H
  go_wp2
  go_roundg k1
  case measure => have := HK1.out; omega
  case rel => exact ⟨(wrap64 (x8_1 + 1)), tq_3, H', ⟨tq_22⟩, ⟨(kb_ a6)⟩, ⟨th_⟩⟩
 rw [if_neg b7] at H
 have ae : (Op.bytesLess (((rd_T72 a5 (ji16)).f1).toList) (((rd_T72 a5 x8_1).f1).toList)) = false := by simpa using b7
 have c26b0q : (Op.bytesLess (((rd_T72 a5 x8_1).f1).toList) (((rd_T72 a5 (ji16)).f1).toList) || ((((rd_T72 a5 x8_1).f1).toList) == (((rd_T72 a5 (ji16)).f1).toList))) = true := by rw [bl_leq, ae]; rfl
 clear b7
 (first | rw [ae] | (simp only [i64_w, i32_w]; rw [ae]) | rw [bl_leq, ae] | rw [bl_gtr, ae] | skip)
 obtain rfl := Option.some.inj H
 go_wp2
 go_ret
 exact ⟨(by first | rfl | (simp [errW_none, errW_some] <;> rfl) | (simp only [← hji16]; first | rfl | (simp [errW_none, errW_some] <;> rfl)) | (simp [*, errW_none, errW_some] <;> rfl)), th_⟩

/-! ### impl_InodeOk: function 76 -/
def impl_InodeOk.f (k : Nat) (a5 : Int) (a6 : Int) (a7 : Int) (a8 : ByteArray) (a9 : List (S89)) (aa : List (S72)) : Option (Bool) := (impl_within.f a7 0 65535).bind fun ab => (if ab = true then (if a5 = 0 then (if a6 = 0 then (if a8.toList = ([] : List UInt8) then (if (a9.length : Int) = 0 then (some ((aa.length : Int) == 0)) else (some false)) else (some false)) else (some false)) else (if a5 = 1 then ((impl_isFile.f k a5 a6 a7 a8 a9 aa).bind fun ac => (some ac)) else (if a5 = 2 then ((impl_isDir.f k a5 a6 a7 a8 a9 aa).bind fun ae => (some ae)) else (some false)))) else (some false))
set_option maxHeartbeats 8000000 in
set_option maxRecDepth 100000 in
theorem impl_InodeOk.calls (k : Nat) (a6 : Int) (a9 : Int) (a8 : Int) (aa : ByteArray) (ab : Option Addr) (ac : Nat) (l0_4 : List (S89)) (ae : Option Addr) (af : Nat) (a7 : List (S72)) (r : Bool) (w : World) (ah : Kd.C k89 w ab l0_4.length l0_4) (ai : l0_4.length ≤ ac) (aj : Kd.C k72 w ae a7.length a7) (ak : a7.length ≤ af) (h : impl_InodeOk.f k a6 a9 a8 aa l0_4 a7 = some r) :
  Calls Tryz.prog 76 #[.agg #[.int .i64 a6, .int .i64 a9, .int .i64 a8, .string aa, .slice ab l0_4.length ac, .slice ae a7.length af]] w fun e w' => e = .returned (.bool r) ∧ Below w.heap.size w w' := by
 have hu69 := Tryz.underlying69
 have HR0_4 := Aside0.mk ah
 have al := Aside0.mk ai
 clear ah ai
 have HR0_5 := Aside0.mk aj
 have am := Aside0.mk ak
 clear aj ak
 have HB := Aside0.mk (Below.refl w.heap.size w)
 unfold impl_InodeOk.f at h
 have H := h
 clear h
 obtain ⟨au, A2, H⟩ := bd_ H
 have b8 := Aside0.mk H
 clear H
 go_enter Tryz.func76, Tryz.ntmps76
 go_upto_if 6 with (first | ((with_reducible refine gate_dst (N := 1) rfl ?_); (try (refine gate_guard (by rfl) ?_; dsimp only)); refine be_ 1 (cs := #[.int .i64 a6, .int .i64 a9, .int .i64 a8, .string aa, .slice ab l0_4.length ac, .slice ae a7.length af]) 69 ?_; intro b9 hg w4 hbox hb; have z_ := bx0_ th_ hb hbox hg; clear HB; obtain ⟨HB, a5, ba, bb⟩ := z_; clear hb hbox hg; have be := bb6_ a5.out) | ((with_reducible refine gate_callee (f := 49) rfl ?_); refine goesL_ (some 5) rfl rfl Tryz.func49 (by kernel_rfl) rfl #[.int .i64 a8, .int .i64 0, .int .i64 65535] rfl tq_0 ?_; (with_reducible refine (impl_within.calls a8 0 65535 au _ A2.out).mono ?_); rintro e w' ⟨rfl, ⟨nd, rfl⟩⟩; refine ⟨_, rfl, ?_⟩))
 (try simp only [Act.put, List.setIfInBounds_toArray, List.set_cons_zero, List.set_cons_succ])
 (try clear be)
 have H := b8.out
 clear b8
 by_cases c6 : au = true
 rotate_left
 ·replace c6 := Bool.eq_false_iff.mpr c6
  subst c6
  rw [if_neg nf_] at H
  obtain rfl := Option.some.inj H
  go_wp2
  go_ret
  exact ⟨tq_1, th_⟩
 subst c6
 rw [if_pos rfl] at H
 have bc := Aside0.mk H
 clear H
 have bf := bb6_ a5.out
 go_upto_if 9 with (fail)
 (try clear bf)
 have H := bc.out
 clear bc
 by_cases c9 : a6 = 0
 ·rw [if_pos c9] at H
  have ag := beq_iff_eq.mpr c9
  have b5 := bne_eq_false_iff_eq.mpr c9
  clear c9
  (first | rw [ag] | (simp only [i64_w, i32_w]; rw [ag]) | skip)
  by_cases ao : a9 = 0
  rotate_left
  ·rw [if_neg ao] at H
   have av := beq_eq_false_iff_ne.mpr ao
   have aw := bne_iff_ne.mpr ao
   obtain rfl := Option.some.inj H
   have bg := bb6_ a5.out
   go_wp2
   go_ret
   exact ⟨tq_1, th_⟩
  rw [if_pos ao] at H
  have av := beq_iff_eq.mpr ao
  have aw := bne_eq_false_iff_eq.mpr ao
  clear ao
  by_cases ap : aa.toList = ([] : List UInt8)
  rotate_left
  ·rw [if_neg ap] at H
   have ax := beq_eq_false_iff_ne.mpr ap
   have ay := bne_iff_ne.mpr ap
   obtain rfl := Option.some.inj H
   have bh := bb6_ a5.out
   go_wp2
   go_ret
   exact ⟨tq_1, th_⟩
  rw [if_pos ap] at H
  have ax := beq_iff_eq.mpr ap
  have ay := bne_eq_false_iff_eq.mpr ap
  clear ap
  by_cases an : (l0_4.length : Int) = 0
  ·rw [if_pos an] at H
   have az := beq_iff_eq.mpr an
   have b0 := bne_eq_false_iff_eq.mpr an
   clear an
   obtain rfl := Option.some.inj H
   have bi := bb6_ a5.out
   go_wp2
   go_ret
   exact ⟨tq_1, th_⟩
  rw [if_neg an] at H
  have az := beq_eq_false_iff_ne.mpr an
  have b0 := bne_iff_ne.mpr an
  have bd : ¬ (l0_4 = []) := fun h_ => an (by rw [h_]; rfl)
  obtain rfl := Option.some.inj H
  have bj := bb6_ a5.out
  go_wp2
  go_ret
  exact ⟨tq_1, th_⟩
 rw [if_neg c9] at H
 have ag := beq_eq_false_iff_ne.mpr c9
 have b5 := bne_iff_ne.mpr c9
 (first | rw [ag] | (simp only [i64_w, i32_w]; rw [ag]) | skip)
 by_cases aq : a6 = 1
 ·rw [if_pos aq] at H
  have b1 := beq_iff_eq.mpr aq
  have b2 := bne_eq_false_iff_eq.mpr aq
  clear aq
  obtain ⟨b6, bl, H⟩ := bd_ H
  obtain rfl := Option.some.inj H
  have bm := bb6_ a5.out
  go_wp2_with (first | ((with_reducible refine gate_callee (f := 97) rfl ?_); refine goesL_ (some 34) rfl rfl Tryz.func97 (by kernel_rfl) rfl #[.agg #[.int .i64 a6, .int .i64 a9, .int .i64 a8, .string aa, .slice ab l0_4.length ac, .slice ae a7.length af]] rfl tq_0 ?_; (with_reducible refine (impl_isFile.calls k a6 a9 a8 aa _ _ l0_4 _ _ a7 b6 _ ?side1 ?side2 ?side3 ?side4 bl.out).mono ?_); (case side1 => exact tq_67); (case side2 => exact al.out); (case side3 => exact tq_66); (case side4 => exact am.out); rintro e bp ⟨rfl, hb⟩; refine ⟨_, rfl, ?_⟩; have z_ := bw1_ (kb_ a5) th_ hb; clear a5 HB; obtain ⟨a5, HB⟩ := z_; (try clear hb)))
  go_ret
  exact ⟨tq_1, th_⟩
 rw [if_neg aq] at H
 have b1 := beq_eq_false_iff_ne.mpr aq
 have b2 := bne_iff_ne.mpr aq
 by_cases ar : a6 = 2
 rotate_left
 ·rw [if_neg ar] at H
  have b3 := beq_eq_false_iff_ne.mpr ar
  have b4 := bne_iff_ne.mpr ar
  obtain rfl := Option.some.inj H
  go_wp2
  go_ret
  exact ⟨tq_1, th_⟩
 rw [if_pos ar] at H
 have b3 := beq_iff_eq.mpr ar
 have b4 := bne_eq_false_iff_eq.mpr ar
 clear ar
 obtain ⟨b7, bn, H⟩ := bd_ H
 obtain rfl := Option.some.inj H
 have bo := bb6_ a5.out
 go_wp2_with (first | ((with_reducible refine gate_callee (f := 98) rfl ?_); refine goesL_ (some 38) rfl rfl Tryz.func98 (by kernel_rfl) rfl #[.agg #[.int .i64 a6, .int .i64 a9, .int .i64 a8, .string aa, .slice ab l0_4.length ac, .slice ae a7.length af]] rfl tq_0 ?_; (with_reducible refine (impl_isDir.calls k a6 a9 a8 aa _ _ l0_4 _ _ a7 b7 _ ?side1 ?side2 ?side3 ?side4 bn.out).mono ?_); (case side1 => exact tq_67); (case side2 => exact al.out); (case side3 => exact tq_66); (case side4 => exact am.out); rintro e bq ⟨rfl, hb⟩; refine ⟨_, rfl, ?_⟩; have z_ := bw1_ (kb_ a5) th_ hb; clear a5 HB; obtain ⟨a5, HB⟩ := z_; (try clear hb)))
 go_ret
 exact ⟨tq_1, th_⟩

/-! ### impl_areInodes_1: function 78 -/
def clo78.p (c0_0 : Int) (l0_1 : List Int) (l0_2 : List (S69)) (x : S72) : Bool := decide (x.f0 ≥ (l0_2.length : Int))
theorem clo78 (x : S72) (gb0 : Nat) (c0_0 : Int) (A0_1 : Option Addr) (n0_1 : Nat) (l0_1 : List Int) (A0_2 : Option Addr) (n0_2 : Nat) (l0_2 : List (S69)) (W : World) (hcl0 : W.heap[gb0]? = some (.cells #[.int .i64 c0_0, .slice A0_1 l0_1.length n0_1, .slice A0_2 l0_2.length n0_2] 35 (0, 0))) : Calls Tryz.prog 78 (#[.agg #[.int .i64 x.f0, .string x.f1]] ++ #[.pointer (some ⟨gb0, 0, none⟩)]) W fun e w' => e = .returned (.bool (clo78.p c0_0 l0_1 l0_2 x)) ∧ Below W.heap.size W w' := by
 have hu35 := Tryz.underlying35
 have hu72 := Tryz.underlying72
 have hb0 : gb0 < W.heap.size := blk_lt hcl0
 have h0_0 : W.cell? ⟨gb0, 0, none⟩ = some (.int .i64 c0_0) := (blk_cell hcl0 0).trans rfl
 have h0_1 : W.cell? ⟨gb0, 1, none⟩ = some (.slice A0_1 l0_1.length n0_1) := (blk_cell hcl0 1).trans rfl
 have h0_2 : W.cell? ⟨gb0, 2, none⟩ = some (.slice A0_2 l0_2.length n0_2) := (blk_cell hcl0 2).trans rfl
 clear hcl0
 show Calls Tryz.prog 78 #[.agg #[.int .i64 x.f0, .string x.f1], .pointer (some ⟨gb0, 0, none⟩)] W _
 go_enter Tryz.func78, Tryz.ntmps78
 go_wp2
 go_ret
 exact ⟨(by unfold clo78.p; first | rfl | (simp; done)), (by repeat (first | (with_reducible first | exact Below.refl _ _ | apply below_alloc) | exact Below.refl ..))⟩

/-! ### slices_IndexFunc_Entry: function 99 -/
def lq99_ren : Go.Shelf.Ren := ⟨fun | 6 => 99 | n => n, fun | 22 => 67 | 23 => 72 | 25 => 99 | 3 => 3 | 0 => 0 | 4 => 4 | n => n, fun | n => n⟩
theorem lq99 : Go.Proofs.SlLaysH0.n6 Tryz.prog lq99_ren := {
 mixed := by kernel_rfl
 f6 := ⟨Tryz.f99.name, (by decide), Tryz.func99.trans (congrArg some (by kernel_rfl))⟩
 t0 := Tryz.underlying0
 a0 := Tryz.isAgg0
 z0 := Tryz.sizeOf0
 v0 := Tryz.zeroValue0
 t3 := Tryz.underlying3
 a3 := Tryz.isAgg3
 z3 := Tryz.sizeOf3
 v3 := Tryz.zeroValue3
 t4 := Tryz.underlying4
 a4 := Tryz.isAgg4
 z4 := Tryz.sizeOf4
 v4 := Tryz.zeroValue4
 t22 := Tryz.underlying67
 a22 := Tryz.isAgg67
 z22 := Tryz.sizeOf67
 v22 := Tryz.zeroValue67
 t25 := Tryz.underlying99
 a25 := Tryz.isAgg99
 z25 := Tryz.sizeOf99
 v25 := Tryz.zeroValue99 }
theorem idx99_nil (a : Option Addr) (c : Nat) (fv : Value) (w : World) : Calls Tryz.prog 99 #[.slice a 0 c, fv] w fun e w' => e = .returned (.int .i64 (-1)) ∧ w' = w := by
 go_enter Tryz.func99, Tryz.ntmps99
 go_wp2
 go_loopg [5, 8] 0 (fun gg _ s8 wr => s8 = .int .i64 0 ∧ wr = w)
 case atStart => exact ⟨rfl, rfl⟩
 case round =>
 obtain ⟨rfl, rfl⟩ := hrel
 go_wp2
 go_ret
 exact ⟨rfl, rfl⟩
instance inh72 : Inhabited S72 := ⟨z72⟩
def enc72 (x : S72) : List Value := [.int .i64 x.f0, .string x.f1]
theorem idx99 (p : S72 → Bool) (g : Nat) (lb : Array Value) (eg : ∀ args w, (callFunc g args).run Tryz.prog w = .ok (.enter g args) w) (A0 : Option Addr) (c0 : Nat) (l0 : List S72) (w : World) (hr0 : Kd.C k72 w A0 l0.length l0) (hbig : l0.length ≤ 9223372036854775807)
  (hp : PredBelow Tryz.prog g lb (fun x => .agg (enc72 x).toArray) p w) :
  Calls Tryz.prog 99 #[.slice A0 l0.length c0, .func (.func g) #[] lb] w fun e w' => e = .returned (.int .i64 (Lib.idxBy (fun _ y => p y) l0 default)) ∧ Below w.heap.size w w' := by
 rcases Nat.eq_zero_or_pos l0.length with hz | hz
 ·have hn := List.eq_nil_of_length_eq_zero hz
  subst hn
  refine (idx99_nil A0 c0 _ w).mono ?_
  rintro e w' ⟨rfl, rfl⟩
  exact ⟨rfl, Below.refl _ _⟩
 ·obtain ⟨ad, rfl, hcell⟩ := hr0.2.2 hz
  have cells : ∀ (j : Nat) x, l0[j]? = some x → ∀ i v, (enc72 x)[i]? = some v → w.cell? (ad.add (j * 2 + i)) = some v := by
   intro j x hx i v hv
   obtain ⟨c, _, hk, hc⟩ := hcell j x hx
   have hk2 := k72_open hk
   subst hk2
   exact hc i _ hv
  have h0 := cells 0 _ (List.getElem?_eq_getElem hz) 0 _ rfl
  have hsp : ad.spot = none := by
   have h0' : w.cell? ad = some _ := h0
   unfold World.cell? at h0'
   split at h0'
   ·split at h0'
    ·cases h0'
    ·simpa using ‹¬ ad.spot.isSome = true›
   ·cases h0'
  obtain ⟨bk, o, sp⟩ := ad
  cases hsp
  have := AnyQ.slices_IndexFunc lq99 2 Tryz.isAgg72 Tryz.sizeOf72 enc72 (fun _ => rfl) p g lb eg bk o l0.length c0 l0 w hp (Nat.le_refl _) hbig (World.block_lt_of_cell? w _ h0) (fun j hj i v hv => by
   have := cells j _ (List.getElem?_eq_getElem hj) i v (by rw [← getElem!_pos l0 j hj]; exact hv)
   rw [Addr.add_lit] at this
   rw [Nat.add_assoc]
   exact this)
  rw [List.take_length] at this
  exact this
def slices_IndexFunc_Entry_g78.f (l0 : List S72) (c0_0 : Int) (a5 : List Int) (a6 : List (S69)) : Option (Int) := if l0.length ≤ 9223372036854775807 then some (Lib.idxBy (fun _ y => clo78.p c0_0 a5 a6 y) l0 z72) else none
theorem slices_IndexFunc_Entry_g78.calls (A0 : Option Addr) (c0 : Nat) (l0 : List S72) (ac : Nat) (a5 : Int) (a8 : Option Addr) (a9 : Nat) (a6 : List Int) (aa : Option Addr) (ab : Nat) (a7 : List (S69)) (r : Int) (w : World) (hr0 : Kd.C k72 w A0 l0.length l0) (hc0 : l0.length ≤ c0) (ae : w.heap[ac]? = some (.cells #[.int .i64 a5, .slice a8 a6.length a9, .slice aa a7.length ab] 35 (0, 0))) (h : slices_IndexFunc_Entry_g78.f l0 a5 a6 a7 = some r) :
  Calls Tryz.prog 99 #[.slice A0 l0.length c0, .func (.func 78) #[] #[.pointer (some ⟨ac, 0, none⟩)]] w fun e w' => e = .returned (.int .i64 r) ∧ Below w.heap.size w w' := by
 unfold slices_IndexFunc_Entry_g78.f at h
 split at h
 case isFalse => cases h
 case isTrue hl =>
 obtain rfl := Option.some.inj h
 exact idx99 (fun y => clo78.p a5 a6 a7 y) 78 #[.pointer (some ⟨ac, 0, none⟩)] (fun args W => enters_ Tryz.func78 rfl rfl args W) A0 c0 l0 w hr0 hl (fun W x hW => (clo78 x ac a5 a8 a9 a6 aa ab a7 W (blk_below ae hW)).mono fun e w' hq => ⟨hq.1, hW.trans (hq.2.mono hW.size)⟩)

/-! ### slices_ContainsFunc_Entry: function 77 -/
def slices_ContainsFunc_Entry_g78.f (l0 : List S72) (c0_0 : Int) (a5 : List Int) (a6 : List (S69)) : Option (Bool) := if l0.length ≤ 9223372036854775807 then some (decide (Lib.idxBy (fun _ y => clo78.p c0_0 a5 a6 y) l0 z72 ≥ 0)) else none
theorem slices_ContainsFunc_Entry_g78.calls (A0 : Option Addr) (c0 : Nat) (l0 : List S72) (ac : Nat) (a5 : Int) (a8 : Option Addr) (a9 : Nat) (a6 : List Int) (aa : Option Addr) (ab : Nat) (a7 : List (S69)) (r : Bool) (w : World) (hr0 : Kd.C k72 w A0 l0.length l0) (hc0 : l0.length ≤ c0) (ae : w.heap[ac]? = some (.cells #[.int .i64 a5, .slice a8 a6.length a9, .slice aa a7.length ab] 35 (0, 0))) (h : slices_ContainsFunc_Entry_g78.f l0 a5 a6 a7 = some r) :
  Calls Tryz.prog 77 #[.slice A0 l0.length c0, .func (.func 78) #[] #[.pointer (some ⟨ac, 0, none⟩)]] w fun e w' => e = .returned (.bool r) ∧ Below w.heap.size w w' := by
 unfold slices_ContainsFunc_Entry_g78.f at h
 split at h
 case isFalse => cases h
 case isTrue hl =>
 obtain rfl := Option.some.inj h
 have hI := slices_IndexFunc_Entry_g78.calls A0 c0 l0 ac a5 a8 a9 a6 aa ab a7 _ w hr0 hc0 ae (by unfold slices_IndexFunc_Entry_g78.f; rw [if_pos hl])
 go_enter Tryz.func77, Tryz.ntmps77
 go_wp2_with (go_at_call 99; refine hI.mono ?_; rintro e w1 ⟨rfl, hb⟩)
 go_ret
 exact ⟨rfl, hb⟩

/-! ### impl_above: function 109 -/
mutual
def impl_above.l0 : Nat → Int → List (S69) → Int → Int → Option (Int × ByteArray × Bool)
 | 0, _, _, _, _ => none
 | k + 1, x1, a6, a7, a5 => if a5 < a7 then (if 0 ≤ a5 then (if a5 < (a6.length : Int) then (if ((rd_T69 a6 a5).f0) = 2 then (impl_above.l1 k x1 a5 a6 a7 a5 ((rd_T69 a6 a5).f5) (((rd_T69 a6 a5).f5).length : Int) 0) else (impl_above.l0 k x1 a6 a7 (wrap64 (a5 + 1)))) else (none)) else (none)) else (some (0, (⟨#[]⟩ : ByteArray), false))
def impl_above.l1 : Nat → Int → Int → List (S69) → Int → Int → List (S72) → Int → Int → Option (Int × ByteArray × Bool)
 | 0, _, _, _, _, _, _, _, _ => none
 | k + 1, x1, x7, a7, a8, a9, a6, aa, a5 => if a5 < aa then (if 0 ≤ a5 then (if a5 < (a6.length : Int) then (if ((rd_T72 a6 a5).f0) = x1 then (some (x7, (rd_T72 a6 a5).f1, true)) else (impl_above.l1 k x1 x7 a7 a8 a9 a6 aa (wrap64 (a5 + 1)))) else (none)) else (none)) else (impl_above.l0 k x1 a7 a8 (wrap64 (a9 + 1)))
end
def impl_above.f (k : Nat) (a6 : Int) (a7 : List Int) (a5 : List (S69)) (a1 : Int) : Option (Int × ByteArray × Bool) := impl_above.l0 k a1 a5 (a5.length : Int) 0
set_option maxHeartbeats 8000000 in
set_option maxRecDepth 100000 in
theorem impl_above.calls (k : Nat) (b4 : Int) (b5 : Option Addr) (b6 : Nat) (aw : List Int) (b9 : Option Addr) (b7 : Nat) (af : List (S69)) (a1 : Int) (r1 : Int) (r2 : ByteArray) (r3 : Bool) (w : World) (bi : Kd.C (Kd.int .i64) w b5 aw.length aw) (bj : aw.length ≤ b6) (bl : Kd.C k69 w b9 af.length af) (bm : af.length ≤ b7) (h : impl_above.f k b4 aw af a1 = some (r1, r2, r3)) :
  Calls Tryz.prog 109 #[.agg #[.int .i64 b4, .slice b5 aw.length b6, .slice b9 af.length b7], .int .i64 a1] w fun e w' => e = .returned (.tuple #[.int .i64 r1, .string r2, .bool r3]) ∧ Below w.heap.size w w' := by
 have hu35 := Tryz.underlying35
 have hu69 := Tryz.underlying69
 have hu72 := Tryz.underlying72
 have HR0_1 := Aside0.mk bi
 have cj := Aside0.mk bj
 clear bi bj
 have HR0_2 := Aside0.mk bl
 have ck := Aside0.mk bm
 clear bl bm
 have HB := Aside0.mk (Below.refl w.heap.size w)
 unfold impl_above.f at h
 have H := h
 clear h
 have H' := Aside0.mk H
 clear H
 go_enter Tryz.func109, Tryz.ntmps109
 go_wp2_with (first | ((with_reducible refine gate_dst (N := 2) rfl ?_); refine be_ 2 (cs := #[.int .i64 b4, .slice b5 aw.length b6, .slice b9 af.length b7]) 35 ?_; intro b8 hg w3 hbox hb; have z_ := bx0_ th_ hb hbox hg; clear HB; obtain ⟨HB, a5, bn, bo⟩ := z_; clear hb hbox hg; have bv := bb3_ a5.out))
 repeat (go_quiet (first | ((with_reducible refine gate_dst (N := 2) rfl ?_); refine be_ 2 (cs := #[.int .i64 b4, .slice b5 aw.length b6, .slice b9 af.length b7]) 35 ?_; intro b8 hg w3 hbox hb; have z_ := bx0_ th_ hb hbox hg; clear HB; obtain ⟨HB, a5, bn, bo⟩ := z_; clear hb hbox hg; have bv := bb3_ a5.out)); try go_wp2_with (first | ((with_reducible refine gate_dst (N := 2) rfl ?_); refine be_ 2 (cs := #[.int .i64 b4, .slice b5 aw.length b6, .slice b9 af.length b7]) 35 ?_; intro b8 hg w3 hbox hb; have z_ := bx0_ th_ hb hbox hg; clear HB; obtain ⟨HB, a5, bn, bo⟩ := z_; clear hb hbox hg; have bv := bb3_ a5.out)))
 go_loopg [14] k (fun kq v14 w' => ∃ (a7 : Int), v14 = .int .i64 a7 ∧ Aside0 (impl_above.l0 kq a1 af (af.length : Int) a7 = some (r1, r2, r3)) ∧ Aside0 (kq ≤ k) ∧ Aside0 (w'.heap[b8]? = some (.cells #[.int .i64 b4, (.slice b5 aw.length b6), (.slice b9 af.length b7)] 35 (0, 0))) ∧ Aside0 (Below w.heap.size w w'))
 case atStart => exact ⟨(0), tq_3, H', ⟨Nat.le_refl _⟩, ⟨(kb_ a5)⟩, ⟨th_⟩⟩
 case round =>
 clear H'
 try clear c1; try clear p2; try clear bv
 obtain ⟨a7, rfl, HA, HK1, a5, HB⟩ := hrel
 cases gk with
 | zero => exact absurd HA.out (by simp [impl_above.l0])
 | succ k1 =>
 have H := HA.out
 clear HA
 simp only [impl_above.l0] at H
 by_cases c5 : a7 < (af.length : Int)
 rotate_left
 ·rw [if_neg c5] at H
  have bw := decide_eq_false c5
  clear c5
  simp only [Option.some.injEq, Prod.mk.injEq] at H
  obtain ⟨rfl, rfl, rfl⟩ := H
  go_wp2
  repeat (go_quiet (fail); try go_wp2)
  go_ret3
  exact ⟨tq_1, th_⟩
 rw [if_pos c5] at H
 have bw := decide_eq_true c5
 clear c5
 obtain ⟨c6, H⟩ := fc_ H
 have ch := decide_eq_true c6
 clear c6
 obtain ⟨c7, H⟩ := fc_ H
 have ci := decide_eq_true c7
 clear c7
 by_cases c8 : ((rd_T69 af a7).f0) = 2
 rotate_left
 ·rw [if_neg c8] at H
  have bx := beq_eq_false_iff_ne.mpr c8
  have bz := bne_iff_ne.mpr c8
  have H' := Aside0.mk H
  clear H
  have p488 : 0 ≤ (a7 : Int) := of_decide_eq_true tq_2
  have q488 : a7 < (af.length : Int) := of_decide_eq_true tq_2
  obtain ⟨bp, ba, bb, bc, bd, bq, ai, aj, ak, al, am, an, ao, ap, aq, ar⟩ := at_T69 HR0_2.out a7 p488 q488
  cases bq
  replace ai := hx_ HB.out ai
  replace aj := hx_ HB.out aj
  replace ak := hx_ HB.out ak
  replace al := hx_ HB.out al
  replace am := hx_ HB.out am
  replace an := hx_ HB.out an
  have be := Aside0.mk ap
  have bf := Aside0.mk ao
  clear ap ao
  have ay := Aside0.mk ar
  have bg := Aside0.mk aq
  clear ar aq
  replace p488 := eq_true p488
  replace q488 := eq_true q488
  go_wp2_with (first | ((with_reducible refine gate_dst (N := 8) rfl ?_); refine be_ 8 (cs := #[.int .i64 0, .int .i64 0, .int .i64 0, .string (⟨#[]⟩ : ByteArray), .slice none 0 0, .slice none 0 0]) 69 ?_; intro ax hg cl hbox hb; have z_ := bx1_ (kb_ a5) th_ hb hbox hg; clear a5 HB; obtain ⟨a5, HB, a6, az, b0, a8, a9⟩ := z_; clear hb hbox hg; obtain ⟨hnb25, hnc25⟩ := an2_ a9 a8; have ca := bb6_ a6.out))
  repeat (go_quiet (first | ((with_reducible refine gate_dst (N := 8) rfl ?_); refine be_ 8 (cs := #[.int .i64 0, .int .i64 0, .int .i64 0, .string (⟨#[]⟩ : ByteArray), .slice none 0 0, .slice none 0 0]) 69 ?_; intro ax hg cl hbox hb; have z_ := bx1_ (kb_ a5) th_ hb hbox hg; clear a5 HB; obtain ⟨a5, HB, a6, az, b0, a8, a9⟩ := z_; clear hb hbox hg; obtain ⟨hnb25, hnc25⟩ := an2_ a9 a8; have ca := bb6_ a6.out)); try go_wp2_with (first | ((with_reducible refine gate_dst (N := 8) rfl ?_); refine be_ 8 (cs := #[.int .i64 0, .int .i64 0, .int .i64 0, .string (⟨#[]⟩ : ByteArray), .slice none 0 0, .slice none 0 0]) 69 ?_; intro ax hg cl hbox hb; have z_ := bx1_ (kb_ a5) th_ hb hbox hg; clear a5 HB; obtain ⟨a5, HB, a6, az, b0, a8, a9⟩ := z_; clear hb hbox hg; obtain ⟨hnb25, hnc25⟩ := an2_ a9 a8; have ca := bb6_ a6.out)))
  go_roundg k1
  case measure => have := HK1.out; omega
  case rel => exact ⟨(wrap64 (a7 + 1)), tq_3, H', ⟨tq_22⟩, ⟨tb_⟩, ⟨th_⟩⟩
 rw [if_pos c8] at H
 have bx := beq_iff_eq.mpr c8
 have bz := bne_eq_false_iff_eq.mpr c8
 clear c8
 have H' := Aside0.mk H
 clear H
 have p488 : 0 ≤ (a7 : Int) := of_decide_eq_true tq_2
 have q488 : a7 < (af.length : Int) := of_decide_eq_true tq_2
 obtain ⟨bp, ba, bb, bc, bd, bq, ai, aj, ak, al, am, an, ao, ap, aq, ar⟩ := at_T69 HR0_2.out a7 p488 q488
 cases bq
 replace ai := hx_ HB.out ai
 replace aj := hx_ HB.out aj
 replace ak := hx_ HB.out ak
 replace al := hx_ HB.out al
 replace am := hx_ HB.out am
 replace an := hx_ HB.out an
 have be := Aside0.mk ap
 have bf := Aside0.mk ao
 clear ap ao
 have ay := Aside0.mk ar
 have bg := Aside0.mk aq
 clear ar aq
 replace p488 := eq_true p488
 replace q488 := eq_true q488
 go_wp2_with (first | ((with_reducible refine gate_dst (N := 8) rfl ?_); refine be_ 8 (cs := #[.int .i64 0, .int .i64 0, .int .i64 0, .string (⟨#[]⟩ : ByteArray), .slice none 0 0, .slice none 0 0]) 69 ?_; intro ax hg w9 hbox hb; have z_ := bx1_ (kb_ a5) th_ hb hbox hg; clear a5 HB; obtain ⟨a5, HB, a6, az, b0, a8, a9⟩ := z_; clear hb hbox hg; obtain ⟨hnb10, hnc10⟩ := an2_ a9 a8; have bh := bb6_ a6.out))
 repeat (go_quiet (first | ((with_reducible refine gate_dst (N := 8) rfl ?_); refine be_ 8 (cs := #[.int .i64 0, .int .i64 0, .int .i64 0, .string (⟨#[]⟩ : ByteArray), .slice none 0 0, .slice none 0 0]) 69 ?_; intro ax hg w9 hbox hb; have z_ := bx1_ (kb_ a5) th_ hb hbox hg; clear a5 HB; obtain ⟨a5, HB, a6, az, b0, a8, a9⟩ := z_; clear hb hbox hg; obtain ⟨hnb10, hnc10⟩ := an2_ a9 a8; have bh := bb6_ a6.out)); try go_wp2_with (first | ((with_reducible refine gate_dst (N := 8) rfl ?_); refine be_ 8 (cs := #[.int .i64 0, .int .i64 0, .int .i64 0, .string (⟨#[]⟩ : ByteArray), .slice none 0 0, .slice none 0 0]) 69 ?_; intro ax hg w9 hbox hb; have z_ := bx1_ (kb_ a5) th_ hb hbox hg; clear a5 HB; obtain ⟨a5, HB, a6, az, b0, a8, a9⟩ := z_; clear hb hbox hg; obtain ⟨hnb10, hnc10⟩ := an2_ a9 a8; have bh := bb6_ a6.out)))
 go_loopg [25] k1 (fun kq v25 w' => ∃ (ag : Int), v25 = .int .i64 ag ∧ Aside0 (impl_above.l1 kq a1 a7 af (af.length : Int) a7 ((rd_T69 af a7).f5) (((rd_T69 af a7).f5).length : Int) ag = some (r1, r2, r3)) ∧ Aside0 (kq ≤ k1) ∧ Aside0 (w'.heap[b8]? = some (.cells #[.int .i64 b4, (.slice b5 aw.length b6), (.slice (some bp) af.length b7)] 35 (0, 0))) ∧ Aside0 (w'.heap[ax]? = some (.cells #[.int .i64 ((rd_T69 af a7).f0), .int .i64 ((rd_T69 af a7).f1), .int .i64 ((rd_T69 af a7).f2), .string ((rd_T69 af a7).f3), (.slice ba ((rd_T69 af a7).f4).length bb), (.slice bc ((rd_T69 af a7).f5).length bd)] 69 (0, 0))) ∧ Aside0 (Below w.heap.size w w'))
 case atStart => exact ⟨(0), tq_3, H', ⟨Nat.le_refl _⟩, ⟨tb_⟩, ⟨tb_⟩, ⟨th_⟩⟩
 case round =>
 clear H'
 try clear c1; try clear p2; try clear c4; try clear p4; try clear q4; try clear hx4; try clear c5; try clear bw; try clear c6; try clear ch; try clear c7; try clear ci; try clear c8; try clear bx; try clear bz; try clear ct; try clear bh; try clear bv; try clear bh; try clear bv; try clear ai; try clear aj; try clear ak; try clear al; try clear am; try clear an; try clear p2; try clear p488; try clear q488
 obtain ⟨ag, rfl, HA, HK2, a5, a6, HB⟩ := hrel
 cases gk with
 | zero => exact absurd HA.out (by simp [impl_above.l1])
 | succ k2 =>
 have H := HA.out
 clear HA
 simp only [impl_above.l1] at H
 by_cases bu : ag < (((rd_T69 af a7).f5).length : Int)
 rotate_left
 ·rw [if_neg bu] at H
  have cb := decide_eq_false bu
  clear bu
  have H' := Aside0.mk H
  clear H
  go_wp2
  repeat (go_quiet (fail); try go_wp2)
  go_roundg k2
  case measure => have := HK1.out; have := HK2.out; omega
  case rel => exact ⟨(wrap64 (a7 + 1)), tq_3, H', ⟨tq_34⟩, ⟨(kb_ a5)⟩, ⟨th_⟩⟩
 rw [if_pos bu] at H
 have cb := decide_eq_true bu
 clear bu
 obtain ⟨cm, H⟩ := fc_ H
 have cn := decide_eq_true cm
 clear cm
 obtain ⟨co, H⟩ := fc_ H
 have cp := decide_eq_true co
 clear co
 by_cases br : ((rd_T72 ((rd_T69 af a7).f5) ag).f0) = a1
 ·rw [if_pos br] at H
  have cc := beq_iff_eq.mpr br
  have cd := bne_eq_false_iff_eq.mpr br
  clear br
  simp only [Option.some.injEq, Prod.mk.injEq] at H
  obtain ⟨rfl, rfl, rfl⟩ := H
  have p490 : 0 ≤ (ag : Int) := of_decide_eq_true tq_2
  have q490 : ag < (((rd_T69 af a7).f5).length : Int) := of_decide_eq_true tq_2
  obtain ⟨ce, bs, au, av⟩ := at_T72 ay.out ag p490 q490
  cases bs
  replace au := hx_ HB.out au
  replace av := hx_ HB.out av
  replace p490 := eq_true p490
  replace q490 := eq_true q490
  go_wp2_with (first | ((with_reducible refine gate_dst (N := 10) rfl ?_); refine be_ 10 (cs := #[.int .i64 0, .string (⟨#[]⟩ : ByteArray)]) 72 ?_; intro b1 hg cq hbox hb; have z_ := bx2_ (kb_ a5) (kb_ a6) th_ hb hbox hg; clear a5 a6 HB; obtain ⟨a5, a6, HB, ah, b2, b3, aa, ab, ac, ae⟩ := z_; clear hb hbox hg; obtain ⟨hnb17, hnc17, hnb18, hnc18⟩ := an4_ ab aa ae ac; have cf := bb2_ ah.out))
  repeat (go_quiet (first | ((with_reducible refine gate_dst (N := 10) rfl ?_); refine be_ 10 (cs := #[.int .i64 0, .string (⟨#[]⟩ : ByteArray)]) 72 ?_; intro b1 hg cq hbox hb; have z_ := bx2_ (kb_ a5) (kb_ a6) th_ hb hbox hg; clear a5 a6 HB; obtain ⟨a5, a6, HB, ah, b2, b3, aa, ab, ac, ae⟩ := z_; clear hb hbox hg; obtain ⟨hnb17, hnc17, hnb18, hnc18⟩ := an4_ ab aa ae ac; have cf := bb2_ ah.out)); try go_wp2_with (first | ((with_reducible refine gate_dst (N := 10) rfl ?_); refine be_ 10 (cs := #[.int .i64 0, .string (⟨#[]⟩ : ByteArray)]) 72 ?_; intro b1 hg cq hbox hb; have z_ := bx2_ (kb_ a5) (kb_ a6) th_ hb hbox hg; clear a5 a6 HB; obtain ⟨a5, a6, HB, ah, b2, b3, aa, ab, ac, ae⟩ := z_; clear hb hbox hg; obtain ⟨hnb17, hnc17, hnb18, hnc18⟩ := an4_ ab aa ae ac; have cf := bb2_ ah.out)))
  go_ret3
  exact ⟨tq_1, th_⟩
 rw [if_neg br] at H
 have cc := beq_eq_false_iff_ne.mpr br
 have cd := bne_iff_ne.mpr br
 have H' := Aside0.mk H
 clear H
 have p490 : 0 ≤ (ag : Int) := of_decide_eq_true tq_2
 have q490 : ag < (((rd_T69 af a7).f5).length : Int) := of_decide_eq_true tq_2
 obtain ⟨ce, bs, au, av⟩ := at_T72 ay.out ag p490 q490
 cases bs
 replace au := hx_ HB.out au
 replace av := hx_ HB.out av
 replace p490 := eq_true p490
 replace q490 := eq_true q490
 go_wp2_with (first | ((with_reducible refine gate_dst (N := 10) rfl ?_); refine be_ 10 (cs := #[.int .i64 0, .string (⟨#[]⟩ : ByteArray)]) 72 ?_; intro b1 hg cr hbox hb; have z_ := bx2_ (kb_ a5) (kb_ a6) th_ hb hbox hg; clear a5 a6 HB; obtain ⟨a5, a6, HB, ah, b2, b3, aa, ab, ac, ae⟩ := z_; clear hb hbox hg; obtain ⟨hnb21, hnc21, hnb22, hnc22⟩ := an4_ ab aa ae ac; have cg := bb2_ ah.out))
 repeat (go_quiet (first | ((with_reducible refine gate_dst (N := 10) rfl ?_); refine be_ 10 (cs := #[.int .i64 0, .string (⟨#[]⟩ : ByteArray)]) 72 ?_; intro b1 hg cr hbox hb; have z_ := bx2_ (kb_ a5) (kb_ a6) th_ hb hbox hg; clear a5 a6 HB; obtain ⟨a5, a6, HB, ah, b2, b3, aa, ab, ac, ae⟩ := z_; clear hb hbox hg; obtain ⟨hnb21, hnc21, hnb22, hnc22⟩ := an4_ ab aa ae ac; have cg := bb2_ ah.out)); try go_wp2_with (first | ((with_reducible refine gate_dst (N := 10) rfl ?_); refine be_ 10 (cs := #[.int .i64 0, .string (⟨#[]⟩ : ByteArray)]) 72 ?_; intro b1 hg cr hbox hb; have z_ := bx2_ (kb_ a5) (kb_ a6) th_ hb hbox hg; clear a5 a6 HB; obtain ⟨a5, a6, HB, ah, b2, b3, aa, ab, ac, ae⟩ := z_; clear hb hbox hg; obtain ⟨hnb21, hnc21, hnb22, hnc22⟩ := an4_ ab aa ae ac; have cg := bb2_ ah.out)))
 go_roundg k2
 case measure => have := HK1.out; have := HK2.out; omega
 case rel => exact ⟨(wrap64 (ag + 1)), tq_3, H', ⟨tq_34⟩, ⟨tb_⟩, ⟨tb_⟩, ⟨th_⟩⟩

end Go.Proofs.YtleoknilacjakaaGreat.PFnExactChanged
