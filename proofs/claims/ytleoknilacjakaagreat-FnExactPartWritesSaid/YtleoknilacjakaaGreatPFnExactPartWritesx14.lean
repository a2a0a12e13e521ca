/- Contracts of Go functions, written by a program of ours over the print of the kit: each says that the call returns what the Lean function beside it computes. Conditions: as each theorem states them. -/
import Derived.Test.YtleoknilacjakaaGreatPkFnExactPartWrites
import Derived.Test.YtleoknilacjakaaGreatPFnExactPartWritesx0
import Derived.Test.YtleoknilacjakaaGreatPFnExactPartWritesx13
namespace Go.Proofs.YtleoknilacjakaaGreat.PFnExactPartWrites
open Go.RowKit Go.Proofs.YtleoknilacjakaaGreatW.PrintWords Go.Proofs.YtleoknilacjakaaGreatW.PrintLast Go.Proofs.YtleoknilacjakaaGreatW.PrintMore
attribute [local go_sem] max2_int min2_int max_two min_two max_three min_three max_four min_four   -- for this text's walks alone
set_option linter.unusedVariables false
set_option linter.unusedSimpArgs false

/-! ### impl_isDir: function 98 -/
def impl_isDir.l0 : Nat → List (S72) → Int → Int → Int → Int → Int → ByteArray → List (S89) → List (S72) → Option (Bool)
 | 0, _, _, _, _, _, _, _, _, _ => none
 | k + 1, x6, x7, x8, x406000, x406001, x406002, x406003, x406004, x406005 => if x8 < x7 then (if 0 ≤ x8 then (if x8 < (x6.length : Int) then ((impl_EntryWord.f k ((rd_T72 x6 x8).f0) ((rd_T72 x6 x8).f1)).bind fun t408 => (if t408.toList = ([] : List UInt8) then (some false) else (if x8 > 0 then (if 0 ≤ (wrap64 (x8 - 1)) then (if (wrap64 (x8 - 1)) < (x406005.length : Int) then (if ((Op.bytesLess (((rd_T72 x406005 (wrap64 (x8 - 1))).f1).toList) (((rd_T72 x6 x8).f1).toList)) = true) then (impl_isDir.l0 k x6 x7 (wrap64 (x8 + 1)) x406000 x406001 x406002 x406003 x406004 x406005) else (some false)) else (none)) else (none)) else (impl_isDir.l0 k x6 x7 (wrap64 (x8 + 1)) x406000 x406001 x406002 x406003 x406004 x406005)))) else (none)) else (none)) else (if x406001 = 0 then (if x406003.toList = ([] : List UInt8) then (if (x406004.length : Int) = 0 then (some (decide ((x406005.length : Int) ≤ 6))) else (some false)) else (some false)) else (some false))
def impl_isDir.f (k : Nat) (a0_0 : Int) (a0_1 : Int) (a0_2 : Int) (a0_3 : ByteArray) (l0_4 : List (S89)) (l0_5 : List (S72)) : Option (Bool) := impl_isDir.l0 k l0_5 (l0_5.length : Int) 0 a0_0 a0_1 a0_2 a0_3 l0_4 l0_5
def impl_isDir.T4 : Bool × List (List Nat × List Nat) := (true, [([], []), ([0], [0]), ([1], [1]), ([2, 1], [2]), ([3], [3]), ([4, 3], [3, 4]), ([5, 3, 3], [3, 5]), ([6], [6]), ([7, 6], [6, 7]), ([6], [6]), ([9, 6], [6, 9]), ([6], [6]), ([11, 6], [6, 11]), ([10, 12, 6], [6, 10, 12]), ([13, 6], [6, 13]), ([14, 6], [6, 14]), ([8, 15, 6], [6, 8, 15]), ([6, 16, 3], [3, 6, 16]), ([3, 17], [3, 17])])
def impl_isDir.B4 : List Nat := [0, 1, 3, 7, 15, 31, 63, 127, 255, 127, 639, 127, 2175, 7807, 15999, 32383, 65535, 131071, 262143]
theorem impl_isDir.tab4 : rtab .any (opsOf Tryz.f98 4) = impl_isDir.T4 := by kernel_rfl
theorem impl_isDir.bits4 : waitsOk impl_isDir.T4.2 impl_isDir.B4 = true := by kernel_rfl
set_option maxHeartbeats 8000000 in
set_option maxRecDepth 100000 in
theorem impl_isDir.calls (k : Nat) (an : Int) (aj : Int) (ao : Int) (ak : ByteArray) (ap : Option Addr) (aq : Nat) (l0_4 : List (S89)) (av : Option Addr) (ar : Nat) (a5 : List (S72)) (r : Bool) (w : World) (ax : Kd.C k89 w ap l0_4.length l0_4) (ay : l0_4.length ≤ aq) (az : Kd.C k72 w av a5.length a5) (b0 : a5.length ≤ ar) (h : impl_isDir.f k an aj ao ak l0_4 a5 = some r) :
  Calls Tryz.prog 98 #[.agg #[.int .i64 an, .int .i64 aj, .int .i64 ao, .string ak, .slice ap l0_4.length aq, .slice av a5.length ar]] w fun e w' => e = .returned (.bool r) ∧ Below w.heap.size w w' := by
 have hu69 := Tryz.underlying69
 have hu72 := Tryz.underlying72
 have HR0_4 := Aside0.mk ax
 have bq := Aside0.mk ay
 clear ax ay
 have HR0_5 := Aside0.mk az
 have br := Aside0.mk b0
 clear az b0
 have HB := Aside0.mk (Below.refl w.heap.size w)
 unfold impl_isDir.f at h
 have H := h
 clear h
 have H' := Aside0.mk H
 clear H
 go_enter Tryz.func98, Tryz.ntmps98
 go_wp2_with (first | ((with_reducible refine gate_dst (N := 1) rfl ?_); (try (refine gate_guard (by rfl) ?_; dsimp only)); refine be_ 1 (cs := #[.int .i64 an, .int .i64 aj, .int .i64 ao, .string ak, .slice ap l0_4.length aq, .slice av a5.length ar]) 69 ?_; intro af hg w2 hbox hb; have z_ := bx0_ th_ hb hbox hg; clear HB; obtain ⟨HB, a6, bs, bu⟩ := z_; clear hb hbox hg; have bl := bb6_ a6.out))
 go_loopg [8] k (fun kq v8 w' => ∃ (x8_1 : Int), v8 = .int .i64 x8_1 ∧ Aside0 (impl_isDir.l0 kq a5 (a5.length : Int) x8_1 an aj ao ak l0_4 a5 = some r) ∧ Aside0 (kq ≤ k) ∧ Aside0 (w'.heap[af]? = some (.cells #[.int .i64 an, .int .i64 aj, .int .i64 ao, .string ak, (.slice ap l0_4.length aq), (.slice av a5.length ar)] 69 (0, 0))) ∧ Aside0 (Below w.heap.size w w'))
 case atStart => exact ⟨(0), tq_3, H', ⟨Nat.le_refl _⟩, ⟨(kb_ a6)⟩, ⟨th_⟩⟩
 case round =>
 clear H'
 try clear p2; try clear bl
 obtain ⟨x8_1, rfl, HA, HK1, a6, HB⟩ := hrel
 cases gk with
 | zero => exact absurd HA.out (by simp [impl_isDir.l0])
 | succ k1 =>
 have H := HA.out
 clear HA
 simp only [impl_isDir.l0] at H
 by_cases c4 : x8_1 < (a5.length : Int)
 rotate_left
 ·rw [if_neg c4] at H
  have bm := decide_eq_false c4
  clear c4
  by_cases b4 : aj = 0
  rotate_left
  ·rw [if_neg b4] at H
   have b8 := beq_eq_false_iff_ne.mpr b4
   have b9 := bne_iff_ne.mpr b4
   obtain rfl := Option.some.inj H
   have cb := bb6_ a6.out
   go_wp2
   go_ret
   exact ⟨tq_1, th_⟩
  rw [if_pos b4] at H
  have b8 := beq_iff_eq.mpr b4
  have b9 := bne_eq_false_iff_eq.mpr b4
  clear b4
  by_cases b5 : ak.toList = ([] : List UInt8)
  rotate_left
  ·rw [if_neg b5] at H
   have ba := beq_eq_false_iff_ne.mpr b5
   have bb := bne_iff_ne.mpr b5
   obtain rfl := Option.some.inj H
   have cc := bb6_ a6.out
   go_wp2
   go_ret
   exact ⟨tq_1, th_⟩
  rw [if_pos b5] at H
  have ba := beq_iff_eq.mpr b5
  have bb := bne_eq_false_iff_eq.mpr b5
  clear b5
  by_cases b1 : (l0_4.length : Int) = 0
  ·rw [if_pos b1] at H
   have bc := beq_iff_eq.mpr b1
   have bd := bne_eq_false_iff_eq.mpr b1
   clear b1
   obtain rfl := Option.some.inj H
   have cd := bb6_ a6.out
   go_wp2
   go_ret
   exact ⟨tq_1, th_⟩
  rw [if_neg b1] at H
  have bc := beq_eq_false_iff_ne.mpr b1
  have bd := bne_iff_ne.mpr b1
  have bv : ¬ (l0_4 = []) := fun h_ => b1 (by rw [h_]; rfl)
  obtain rfl := Option.some.inj H
  have ce := bb6_ a6.out
  go_wp2
  go_ret
  exact ⟨tq_1, th_⟩
 rw [if_pos c4] at H
 have bm := decide_eq_true c4
 clear c4
 obtain ⟨c5, H⟩ := fc_ H
 have cf := decide_eq_true c5
 clear c5
 obtain ⟨c6, H⟩ := fc_ H
 have cg := decide_eq_true c6
 clear c6
 obtain ⟨aw, A7, H⟩ := bd_ H
 by_cases c8 : aw.toList = ([] : List UInt8)
 ·rw [if_pos c8] at H
  have bn := beq_iff_eq.mpr c8
  have bo := bne_eq_false_iff_eq.mpr c8
  clear c8
  obtain rfl := Option.some.inj H
  have p406 : 0 ≤ (x8_1 : Int) := of_decide_eq_true tq_2
  have q406 : x8_1 < (a5.length : Int) := of_decide_eq_true tq_2
  obtain ⟨ag, au, a9, aa⟩ := at_T72 HR0_5.out x8_1 p406 q406
  cases au
  replace a9 := hx_ HB.out a9
  replace aa := hx_ HB.out aa
  replace p406 := eq_true p406
  replace q406 := eq_true q406
  try go_wp2_with (first | ((with_reducible refine gate_dst (N := 4) rfl ?_); (try (refine gate_guard (by rfl) ?_; dsimp only)); refine be_ 4 (cs := #[.int .i64 0, .string (⟨#[]⟩ : ByteArray)]) 72 ?_; intro a8 hg w9 hbox hb; have z_ := bx1_ (kb_ a6) th_ hb hbox hg; clear a6 HB; obtain ⟨a6, HB, a7, b2, b3, ab, ac⟩ := z_; clear hb hbox hg; obtain ⟨al, am⟩ := an2_ ac ab; have ch := bb2_ a7.out))
  have n0_ : Aside0 (((w9.setCell ⟨a8, 0, none⟩ (.int .i64 ((rd_T72 a5 x8_1).f0))).setCell ⟨a8, 1, none⟩ (.string ((rd_T72 a5 x8_1).f1))).heap[af]? = some (.cells #[.int .i64 an, .int .i64 aj, .int .i64 ao, .string ak, .slice ap l0_4.length aq, .slice (some ag) a5.length ar] 69 (0, 0))) := ⟨tb_⟩
  have n1_ : Aside0 (((w9.setCell ⟨a8, 0, none⟩ (.int .i64 ((rd_T72 a5 x8_1).f0))).setCell ⟨a8, 1, none⟩ (.string ((rd_T72 a5 x8_1).f1))).heap[a8]? = some (.cells #[.int .i64 ((rd_T72 a5 x8_1).f0), .string ((rd_T72 a5 x8_1).f1)] 72 (0, 0))) := ⟨tb_⟩
  have n2_ : Aside0 (Below w.heap.size w ((w9.setCell ⟨a8, 0, none⟩ (.int .i64 ((rd_T72 a5 x8_1).f0))).setCell ⟨a8, 1, none⟩ (.string ((rd_T72 a5 x8_1).f1)))) := ⟨th_⟩
  (try clear a6)
  (try clear a7)
  (try clear HB)
  generalize ((w9.setCell ⟨a8, 0, none⟩ (.int .i64 ((rd_T72 a5 x8_1).f0))).setCell ⟨a8, 1, none⟩ (.string ((rd_T72 a5 x8_1).f1))) = ci at n0_ n1_ n2_ ⊢
  have a6 := n0_
  have a7 := n1_
  have HB := n2_
  clear n0_ n1_ n2_
  have z_ := dw2_ a6 a7 HB
  clear a6 a7 HB
  obtain ⟨a6, a7, HB⟩ := z_
  refine start_ (n := 19) (S := fun w' => w'.cell? ⟨a8, 0, none⟩ = some (.int .i64 ((rd_T72 a5 x8_1).f0)) ∧ w'.cell? ⟨a8, 1, none⟩ = some (.string ((rd_T72 a5 x8_1).f1))) (ds := []) bq_66 (by kernel_rfl) rfl rfl (bk2_ a7.out) (fun hHeld => ?_); refine with_tabW impl_isDir.tab4 impl_isDir.bits4 (fun HT_ HW_ => ?_)
  generalize ci.drew = cm at a6 a7 HB hHeld ⊢
  refine tr_ 0 13 bq_67 HT_ HW_ hHeld ?_
  refine one_ (i := 1) (N := some 14) bq_68 rfl rfl (one_of HT_.out (by kernel_rfl)) (by decide) (fun K hK => ?_)
  refine goes_ Tryz.func86 (by kernel_rfl) rfl #[.agg #[.int .i64 ((rd_T72 a5 x8_1).f0), .string ((rd_T72 a5 x8_1).f1)]] (by rfl) rfl rfl tq_0 ?_
  with_reducible refine (impl_EntryWord.calls k1 ((rd_T72 a5 x8_1).f0) ((rd_T72 a5 x8_1).f1) aw _ A7.out).mono ?_
  rintro e cn ⟨rfl, hb⟩
  refine ⟨_, rfl, ?_⟩
  have z_ := bw2_ (kb_ a6) (kb_ a7) th_ hb
  clear a6 a7 HB
  obtain ⟨a6, a7, HB⟩ := z_
  (try clear hb)
  refine hK.out _ _ (bk2_ a7.out) (fun hHeld => ?_)
  clear hK K
  refine nm_ (some 14) ?_
  refine yr_ 2 15 bq_69 HT_ ?_
  refine yr_ 3 16 bq_70 HT_ ?_
  refine ur_ 4 17 bq_71 HT_ ?_
  refine ur_ 5 18 bq_72 HT_ ?_
  refine ur_ 6 19 bq_73 HT_ ?_
  refine ur_ 7 20 bq_74 HT_ ?_
  refine ur_ 8 21 bq_130 HT_ ?_
  refine ur_ 9 22 bq_131 HT_ ?_
  refine ur_ 10 23 bq_132 HT_ ?_
  refine ur_ 11 24 bq_133 HT_ ?_
  refine ur_ 12 25 bq_75 HT_ ?_
  refine ur_ 13 26 bq_76 HT_ ?_
  refine ur_ 14 27 bq_77 HT_ ?_
  refine ur_ 15 28 bq_78 HT_ ?_
  refine ur_ 16 29 bq_79 HT_ ?_
  refine ur_ 17 30 bq_80 HT_ ?_
  refine yr_ 18 31 bq_81 HT_ ?_
  refine done_ (done_of HT_.out (by kernel_rfl)) ?_
  try go_wp2
  go_ret
  exact ⟨tq_1, th_⟩
 rw [if_neg c8] at H
 have bn := beq_eq_false_iff_ne.mpr c8
 have bo := bne_iff_ne.mpr c8
 by_cases b6 : x8_1 > 0
 rotate_left
 ·rw [if_neg b6] at H
  have be := decide_eq_false b6
  clear b6
  have H' := Aside0.mk H
  clear H
  have p406 : 0 ≤ (x8_1 : Int) := of_decide_eq_true tq_2
  have q406 : x8_1 < (a5.length : Int) := of_decide_eq_true tq_2
  obtain ⟨ag, au, a9, aa⟩ := at_T72 HR0_5.out x8_1 p406 q406
  cases au
  replace a9 := hx_ HB.out a9
  replace aa := hx_ HB.out aa
  replace p406 := eq_true p406
  replace q406 := eq_true q406
  try go_wp2_with (first | ((with_reducible refine gate_dst (N := 4) rfl ?_); (try (refine gate_guard (by rfl) ?_; dsimp only)); refine be_ 4 (cs := #[.int .i64 0, .string (⟨#[]⟩ : ByteArray)]) 72 ?_; intro a8 hg bi hbox hb; have z_ := bx1_ (kb_ a6) th_ hb hbox hg; clear a6 HB; obtain ⟨a6, HB, a7, b2, b3, ab, ac⟩ := z_; clear hb hbox hg; obtain ⟨al, am⟩ := an2_ ac ab; have cj := bb2_ a7.out))
  have n0_ : Aside0 (((bi.setCell ⟨a8, 0, none⟩ (.int .i64 ((rd_T72 a5 x8_1).f0))).setCell ⟨a8, 1, none⟩ (.string ((rd_T72 a5 x8_1).f1))).heap[af]? = some (.cells #[.int .i64 an, .int .i64 aj, .int .i64 ao, .string ak, .slice ap l0_4.length aq, .slice (some ag) a5.length ar] 69 (0, 0))) := ⟨tb_⟩
  have n1_ : Aside0 (((bi.setCell ⟨a8, 0, none⟩ (.int .i64 ((rd_T72 a5 x8_1).f0))).setCell ⟨a8, 1, none⟩ (.string ((rd_T72 a5 x8_1).f1))).heap[a8]? = some (.cells #[.int .i64 ((rd_T72 a5 x8_1).f0), .string ((rd_T72 a5 x8_1).f1)] 72 (0, 0))) := ⟨tb_⟩
  have n2_ : Aside0 (Below w.heap.size w ((bi.setCell ⟨a8, 0, none⟩ (.int .i64 ((rd_T72 a5 x8_1).f0))).setCell ⟨a8, 1, none⟩ (.string ((rd_T72 a5 x8_1).f1)))) := ⟨th_⟩
  (try clear a6)
  (try clear a7)
  (try clear HB)
  generalize ((bi.setCell ⟨a8, 0, none⟩ (.int .i64 ((rd_T72 a5 x8_1).f0))).setCell ⟨a8, 1, none⟩ (.string ((rd_T72 a5 x8_1).f1))) = ck at n0_ n1_ n2_ ⊢
  have a6 := n0_
  have a7 := n1_
  have HB := n2_
  clear n0_ n1_ n2_
  have z_ := dw2_ a6 a7 HB
  clear a6 a7 HB
  obtain ⟨a6, a7, HB⟩ := z_
  refine start_ (n := 19) (S := fun w' => w'.cell? ⟨a8, 0, none⟩ = some (.int .i64 ((rd_T72 a5 x8_1).f0)) ∧ w'.cell? ⟨a8, 1, none⟩ = some (.string ((rd_T72 a5 x8_1).f1))) (ds := []) bq_66 (by kernel_rfl) rfl rfl (bk2_ a7.out) (fun hHeld => ?_); refine with_tabW impl_isDir.tab4 impl_isDir.bits4 (fun HT_ HW_ => ?_)
  generalize ck.drew = co at a6 a7 HB hHeld ⊢
  refine tr_ 0 13 bq_67 HT_ HW_ hHeld ?_
  refine one_ (i := 1) (N := some 14) bq_68 rfl rfl (one_of HT_.out (by kernel_rfl)) (by decide) (fun K hK => ?_)
  refine goes_ Tryz.func86 (by kernel_rfl) rfl #[.agg #[.int .i64 ((rd_T72 a5 x8_1).f0), .string ((rd_T72 a5 x8_1).f1)]] (by rfl) rfl rfl tq_0 ?_
  with_reducible refine (impl_EntryWord.calls k1 ((rd_T72 a5 x8_1).f0) ((rd_T72 a5 x8_1).f1) aw _ A7.out).mono ?_
  rintro e cp ⟨rfl, hb⟩
  refine ⟨_, rfl, ?_⟩
  have z_ := bw2_ (kb_ a6) (kb_ a7) th_ hb
  clear a6 a7 HB
  obtain ⟨a6, a7, HB⟩ := z_
  (try clear hb)
  refine hK.out _ _ (bk2_ a7.out) (fun hHeld => ?_)
  clear hK K
  refine nm_ (some 14) ?_
  refine yr_ 2 15 bq_69 HT_ ?_
  refine yr_ 3 16 bq_70 HT_ ?_
  refine yr_ 4 17 bq_71 HT_ ?_
  refine yr_ 5 18 bq_72 HT_ ?_
  refine yr_ 6 19 bq_73 HT_ ?_
  refine ur_ 7 20 bq_74 HT_ ?_
  refine ur_ 8 21 bq_130 HT_ ?_
  refine ur_ 9 22 bq_131 HT_ ?_
  refine ur_ 10 23 bq_132 HT_ ?_
  refine ur_ 11 24 bq_133 HT_ ?_
  refine ur_ 12 25 bq_75 HT_ ?_
  refine ur_ 13 26 bq_76 HT_ ?_
  refine ur_ 14 27 bq_77 HT_ ?_
  refine ur_ 15 28 bq_78 HT_ ?_
  refine ur_ 16 29 bq_79 HT_ ?_
  refine yr_ 17 30 bq_80 HT_ ?_
  refine yr_ 18 31 bq_81 HT_ ?_
  refine done_ (done_of HT_.out (by kernel_rfl)) ?_
  try go_wp2
  go_roundg k1
  case measure => have := HK1.out; omega
  case rel => exact ⟨(wrap64 (x8_1 + 1)), tq_3, H', ⟨tq_15⟩, ⟨(kb_ a6)⟩, ⟨th_⟩⟩
 rw [if_pos b6] at H
 have be := decide_eq_true b6
 clear b6
 obtain ⟨ji16, hji16⟩ : ∃ j_ : Int, (wrap64 (x8_1 - 1)) = j_ := ⟨_, rfl⟩
 replace H : (if 0 ≤ (ji16) then (if (ji16) < (a5.length : Int) then (if ((Op.bytesLess (((rd_T72 a5 (ji16)).f1).toList) (((rd_T72 a5 x8_1).f1).toList)) = true) then (impl_isDir.l0 k1 a5 (a5.length : Int) (wrap64 (x8_1 + 1)) an aj ao ak l0_4 a5) else (some false)) else (none)) else (none)) = some r := by first | (rw [hji16] at H; exact H) | (simp only [hji16] at H ⊢; exact H)
 (try rw [hji16] at A7)
 have hji16w : (IntKind.i64.wrap (x8_1 - 1)) = ji16 := (i64_w _).trans hji16
 obtain ⟨bw, H⟩ := fc_ H
 have bx := decide_eq_true bw
 clear bw
 obtain ⟨bz, H⟩ := fc_ H
 have ca := decide_eq_true bz
 clear bz
 have bf := Aside0.mk H
 clear H
 have p406 : 0 ≤ (x8_1 : Int) := of_decide_eq_true tq_2
 have q406 : x8_1 < (a5.length : Int) := of_decide_eq_true tq_2
 obtain ⟨ag, au, a9, aa⟩ := at_T72 HR0_5.out x8_1 p406 q406
 cases au
 replace a9 := hx_ HB.out a9
 replace aa := hx_ HB.out aa
 replace p406 := eq_true p406
 replace q406 := eq_true q406
 try go_wp2_with (first | ((with_reducible refine gate_dst (N := 4) rfl ?_); (try (refine gate_guard (by rfl) ?_; dsimp only)); refine be_ 4 (cs := #[.int .i64 0, .string (⟨#[]⟩ : ByteArray)]) 72 ?_; intro a8 hg bj hbox hb; have z_ := bx1_ (kb_ a6) th_ hb hbox hg; clear a6 HB; obtain ⟨a6, HB, a7, b2, b3, ab, ac⟩ := z_; clear hb hbox hg; obtain ⟨al, am⟩ := an2_ ac ab; have bg := bb2_ a7.out))
 have n0_ : Aside0 (((bj.setCell ⟨a8, 0, none⟩ (.int .i64 ((rd_T72 a5 x8_1).f0))).setCell ⟨a8, 1, none⟩ (.string ((rd_T72 a5 x8_1).f1))).heap[af]? = some (.cells #[.int .i64 an, .int .i64 aj, .int .i64 ao, .string ak, .slice ap l0_4.length aq, .slice (some ag) a5.length ar] 69 (0, 0))) := ⟨tb_⟩
 have n1_ : Aside0 (((bj.setCell ⟨a8, 0, none⟩ (.int .i64 ((rd_T72 a5 x8_1).f0))).setCell ⟨a8, 1, none⟩ (.string ((rd_T72 a5 x8_1).f1))).heap[a8]? = some (.cells #[.int .i64 ((rd_T72 a5 x8_1).f0), .string ((rd_T72 a5 x8_1).f1)] 72 (0, 0))) := ⟨tb_⟩
 have n2_ : Aside0 (Below w.heap.size w ((bj.setCell ⟨a8, 0, none⟩ (.int .i64 ((rd_T72 a5 x8_1).f0))).setCell ⟨a8, 1, none⟩ (.string ((rd_T72 a5 x8_1).f1)))) := ⟨th_⟩
 (try clear a6)
 (try clear a7)
 (try clear HB)
 generalize ((bj.setCell ⟨a8, 0, none⟩ (.int .i64 ((rd_T72 a5 x8_1).f0))).setCell ⟨a8, 1, none⟩ (.string ((rd_T72 a5 x8_1).f1))) = cl at n0_ n1_ n2_ ⊢
 have a6 := n0_
 have a7 := n1_
 have HB := n2_
 clear n0_ n1_ n2_
 have z_ := dw2_ a6 a7 HB
 clear a6 a7 HB
 obtain ⟨a6, a7, HB⟩ := z_
 have p409 : 0 ≤ ((ji16) : Int) := of_decide_eq_true tq_2
 have q409 : (ji16) < (a5.length : Int) := of_decide_eq_true tq_2
 obtain ⟨bh, bp, ah, ai⟩ := at_T72 HR0_5.out (ji16) p409 q409
 have hw409_1 := ai
 have hw409_0 := ah
 obtain rfl : ag = bh := (by injection bp)
 replace ah := hx_ HB.out ah
 replace ai := hx_ HB.out ai
 replace p409 := eq_true p409
 replace q409 := eq_true q409
 refine start_ (n := 19) (S := fun w' => w'.cell? ⟨a8, 0, none⟩ = some (.int .i64 ((rd_T72 a5 x8_1).f0)) ∧ w'.cell? ⟨a8, 1, none⟩ = some (.string ((rd_T72 a5 x8_1).f1)) ∧ w'.cell? ⟨af, 0, none⟩ = some (.int .i64 an) ∧ w'.cell? ⟨af, 1, none⟩ = some (.int .i64 aj) ∧ w'.cell? ⟨af, 2, none⟩ = some (.int .i64 ao) ∧ w'.cell? ⟨af, 3, none⟩ = some (.string ak) ∧ w'.cell? ⟨af, 4, none⟩ = some (.slice ap l0_4.length aq) ∧ w'.cell? ⟨af, 5, none⟩ = some (.slice (some ag) a5.length ar) ∧ w'.cell? (ag.add (((ji16)).toNat * 2)) = some (.int .i64 ((rd_T72 a5 (ji16)).f0)) ∧ w'.cell? ⟨(ag.add (((ji16)).toNat * 2)).block, (ag.add (((ji16)).toNat * 2)).off + 1, none⟩ = some (.string ((rd_T72 a5 (ji16)).f1))) (ds := []) bq_66 (by kernel_rfl) rfl rfl (bc2_ a7.out (bc6_ a6.out ⟨((HB.out.cell (World.block_lt_of_cell? w _ hw409_0)).trans hw409_0), ((HB.out.cell (World.block_lt_of_cell? w _ hw409_1)).trans hw409_1)⟩)) (fun hHeld => ?_); refine with_tabW impl_isDir.tab4 impl_isDir.bits4 (fun HT_ HW_ => ?_)
 generalize cl.drew = cq at a6 a7 HB ah ai hHeld ⊢
 refine tr_ 0 13 bq_67 HT_ HW_ hHeld ?_
 refine one_ (i := 1) (N := some 14) bq_68 rfl rfl (one_of HT_.out (by kernel_rfl)) (by decide) (fun K hK => ?_)
 refine goes_ Tryz.func86 (by kernel_rfl) rfl #[.agg #[.int .i64 ((rd_T72 a5 x8_1).f0), .string ((rd_T72 a5 x8_1).f1)]] (by rfl) rfl rfl tq_0 ?_
 with_reducible refine (impl_EntryWord.calls k1 ((rd_T72 a5 x8_1).f0) ((rd_T72 a5 x8_1).f1) aw _ A7.out).mono ?_
 rintro e cr ⟨rfl, hb⟩
 refine ⟨_, rfl, ?_⟩
 have z_ := bw2_ (kb_ a6) (kb_ a7) th_ hb
 clear a6 a7 HB
 obtain ⟨a6, a7, HB⟩ := z_
 (try clear hb)
 refine hK.out _ _ (bc2_ a7.out (bc6_ a6.out ⟨((HB.out.cell (World.block_lt_of_cell? w _ hw409_0)).trans hw409_0), ((HB.out.cell (World.block_lt_of_cell? w _ hw409_1)).trans hw409_1)⟩)) (fun hHeld => ?_)
 clear hK K
 refine nm_ (some 14) ?_
 refine yr_ 2 15 bq_69 HT_ ?_
 refine yr_ 3 16 bq_70 HT_ ?_
 refine yr_ 4 17 bq_71 HT_ ?_
 refine yr_ 5 18 bq_72 HT_ ?_
 refine yr_ 6 19 bq_73 HT_ ?_
 refine yr_ 7 20 bq_74 HT_ ?_
 refine yr_ 9 22 #[true, true, true, true, true, true, true, true, false, true, false, false, false, false, false, false, false, false, false] HT_ ?_
 refine yr_ 11 24 #[true, true, true, true, true, true, true, true, false, true, false, true, false, false, false, false, false, false, false] HT_ ?_
 refine yr_ 12 25 #[true, true, true, true, true, true, true, true, false, true, false, true, true, false, false, false, false, false, false] HT_ ?_
 refine tr_ 8 21 #[true, true, true, true, true, true, true, true, true, true, false, true, true, false, false, false, false, false, false] HT_ HW_ hHeld ?_
 refine tr_ 10 23 bq_75 HT_ HW_ hHeld ?_
 refine yr_ 13 26 bq_76 HT_ ?_
 refine yr_ 14 27 bq_77 HT_ ?_
 refine tr_ 15 28 bq_78 HT_ HW_ hHeld ?_
 refine yr_ 16 29 bq_79 HT_ ?_
 refine yr_ 17 30 bq_80 HT_ ?_
 refine yr_ 18 31 bq_81 HT_ ?_
 refine done_ (done_of HT_.out (by kernel_rfl)) ?_
 go_upto_if 31 with (fail)
 (try clear am al)
 (try clear bg)
 (try clear bl)
 (try clear bg)
 (try clear bl)
 (try clear a9 aa)
 (try clear ah ai)
 have H := bf.out
 clear bf
 by_cases b7 : ((Op.bytesLess (((rd_T72 a5 (ji16)).f1).toList) (((rd_T72 a5 x8_1).f1).toList)) = true)
 ·rw [if_pos b7] at H
  have ae : (Op.bytesLess (((rd_T72 a5 (ji16)).f1).toList) (((rd_T72 a5 x8_1).f1).toList)) = true := b7
  have c26b0q : (Op.bytesLess (((rd_T72 a5 x8_1).f1).toList) (((rd_T72 a5 (ji16)).f1).toList) || ((((rd_T72 a5 x8_1).f1).toList) == (((rd_T72 a5 (ji16)).f1).toList))) = false := by rw [bl_leq, ae]; rfl
  clear b7
  (first | rw [ae] | (simp only [i64_w, i32_w]; rw [ae]) | rw [bl_leq, ae] | rw [bl_gtr, ae] | skip)
  have H' := Aside0.mk H
  clear H
  go_wp2
  go_roundg k1
  case measure => have := HK1.out; omega
  case rel => exact ⟨(wrap64 (x8_1 + 1)), tq_3, H', ⟨tq_15⟩, ⟨(kb_ a6)⟩, ⟨th_⟩⟩
 rw [if_neg b7] at H
 have ae : (Op.bytesLess (((rd_T72 a5 (ji16)).f1).toList) (((rd_T72 a5 x8_1).f1).toList)) = false := by simpa using b7
 have c26b0q : (Op.bytesLess (((rd_T72 a5 x8_1).f1).toList) (((rd_T72 a5 (ji16)).f1).toList) || ((((rd_T72 a5 x8_1).f1).toList) == (((rd_T72 a5 (ji16)).f1).toList))) = true := by rw [bl_leq, ae]; rfl
 clear b7
 (first | rw [ae] | (simp only [i64_w, i32_w]; rw [ae]) | rw [bl_leq, ae] | rw [bl_gtr, ae] | skip)
 obtain rfl := Option.some.inj H
 go_wp2
 go_ret
 exact ⟨(by first | rfl | (simp [errW_none, errW_some] <;> rfl) | (simp only [← hji16]; first | rfl | (simp [errW_none, errW_some] <;> rfl)) | (simp [*, errW_none, errW_some] <;> rfl)), th_⟩

end Go.Proofs.YtleoknilacjakaaGreat.PFnExactPartWrites
