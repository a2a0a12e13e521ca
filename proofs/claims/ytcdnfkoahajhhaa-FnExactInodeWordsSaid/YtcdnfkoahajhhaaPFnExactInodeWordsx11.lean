/- Contracts of Go functions, written by a program of ours over the print of the kit: each says that the call returns what the Lean function beside it computes. Conditions: as each theorem states them. -/
import Derived.Test.YtcdnfkoahajhhaaPkFnExactInodeWords
import Derived.Test.YtcdnfkoahajhhaaPFnExactInodeWordsx0
import Derived.Test.YtcdnfkoahajhhaaPFnExactInodeWordsx10
namespace Go.Proofs.Ytcdnfkoahajhhaa.PFnExactInodeWords
open Go.RowKit Go.Proofs.YtcdnfkoahajhhaaW.PrintWords Go.Proofs.YtcdnfkoahajhhaaW.PrintLast Go.Proofs.YtcdnfkoahajhhaaW.PrintMore
attribute [local go_sem] max2_int min2_int max_two min_two max_three min_three max_four min_four   -- for this text's walks alone
set_option linter.unusedVariables false
set_option linter.unusedSimpArgs false

/-! ### impl_isDir: function 196 -/
def impl_isDir.l0 : Nat → List (S59) → Int → Int → Int → Int → Int → ByteArray → List (S170) → List (S59) → Option (Bool)
 | 0, _, _, _, _, _, _, _, _, _ => none
 | k + 1, x6, x7, x8, x265000, x265001, x265002, x265003, x265004, x265005 => if x8 < x7 then (if 0 ≤ x8 then (if x8 < (x6.length : Int) then ((impl_EntryWord.f k ((rd_T59 x6 x8).f0) ((rd_T59 x6 x8).f1)).bind fun t267 => (if t267.toList = ([] : List UInt8) then (some false) else (if x8 > 0 then (if 0 ≤ (wrap64 (x8 - 1)) then (if (wrap64 (x8 - 1)) < (x265005.length : Int) then (if ((Op.bytesLess (((rd_T59 x265005 (wrap64 (x8 - 1))).f1).toList) (((rd_T59 x6 x8).f1).toList)) = true) then (impl_isDir.l0 k x6 x7 (wrap64 (x8 + 1)) x265000 x265001 x265002 x265003 x265004 x265005) else (some false)) else (none)) else (none)) else (impl_isDir.l0 k x6 x7 (wrap64 (x8 + 1)) x265000 x265001 x265002 x265003 x265004 x265005)))) else (none)) else (none)) else (if x265001 = 0 then (if x265003.toList = ([] : List UInt8) then (if (x265004.length : Int) = 0 then (some (decide ((x265005.length : Int) ≤ 6))) else (some false)) else (some false)) else (some false))
def impl_isDir.f (k : Nat) (a0_0 : Int) (a0_1 : Int) (a0_2 : Int) (a0_3 : ByteArray) (l0_4 : List (S170)) (l0_5 : List (S59)) : Option (Bool) := impl_isDir.l0 k l0_5 (l0_5.length : Int) 0 a0_0 a0_1 a0_2 a0_3 l0_4 l0_5
theorem impl_isDir.mono_l : ∀ k, (∀ y0 y1 y2 y3 y4 y5 y6 y7 y8, LeO (impl_isDir.l0 k y0 y1 y2 y3 y4 y5 y6 y7 y8) (impl_isDir.l0 (k + 1) y0 y1 y2 y3 y4 y5 y6 y7 y8))
 | 0 => fun _ _ _ _ _ _ _ _ _ r h => by simp [impl_isDir.l0] at h
 | k + 1 => by
  have ih0 := impl_isDir.mono_l k
  ·intro y0 y1 y2 y3 y4 y5 y6 y7 y8
   unfold impl_isDir.l0
   repeat' first
   | (with_reducible exact ih0 ..)
   | (with_reducible exact impl_EntryWord.mono ..)
   | (with_reducible exact LeO.refl _)
   | (with_reducible exact LeO.none _)
   | (with_reducible refine LeO.ite ?_ ?_)
   | (with_reducible refine LeO.bind ?_ (fun _ => ?_))
   | exact ih0 ..
   | exact impl_EntryWord.mono ..
   | exact LeO.none _
   | refine LeO.ite ?_ ?_
   | refine LeO.bind ?_ (fun _ => ?_)
theorem impl_isDir.mono : ∀ a0 a1 a2 a3 a4 a5 k, LeO (impl_isDir.f k a0 a1 a2 a3 a4 a5) (impl_isDir.f (k + 1) a0 a1 a2 a3 a4 a5) := by
 intro a0 a1 a2 a3 a4 a5 k
 have ih0 := impl_isDir.mono_l k
 unfold impl_isDir.f
 repeat' first
   | (with_reducible exact ih0 ..)
   | (with_reducible exact impl_EntryWord.mono ..)
   | (with_reducible exact LeO.refl _)
   | (with_reducible exact LeO.none _)
   | (with_reducible refine LeO.ite ?_ ?_)
   | (with_reducible refine LeO.bind ?_ (fun _ => ?_))
   | exact ih0 ..
   | exact impl_EntryWord.mono ..
   | exact LeO.none _
   | refine LeO.ite ?_ ?_
   | refine LeO.bind ?_ (fun _ => ?_)
def impl_isDir.T4 : Bool × List (List Nat × List Nat) := (true, [([], []), ([0], [0]), ([1], [1]), ([2, 1], [2]), ([3], [3]), ([4, 3], [3, 4]), ([5, 3, 3], [3, 5]), ([6], [6]), ([7, 6], [6, 7]), ([6], [6]), ([9, 6], [6, 9]), ([6], [6]), ([11, 6], [6, 11]), ([10, 12, 6], [6, 10, 12]), ([13, 6], [6, 13]), ([14, 6], [6, 14]), ([8, 15, 6], [6, 8, 15]), ([6, 16, 3], [3, 6, 16]), ([3, 17], [3, 17])])
def impl_isDir.B4 : List Nat := [0, 1, 3, 7, 15, 31, 63, 127, 255, 127, 639, 127, 2175, 7807, 15999, 32383, 65535, 131071, 262143]
theorem impl_isDir.tab4 : rtab .any (opsOf Try.f196 4) = impl_isDir.T4 := by kernel_rfl
theorem impl_isDir.bits4 : waitsOk impl_isDir.T4.2 impl_isDir.B4 = true := by kernel_rfl
set_option maxHeartbeats 8000000 in
set_option maxRecDepth 100000 in
theorem impl_isDir.calls (k : Nat) (a0_0 : Int) (a0_1 : Int) (a0_2 : Int) (a0_3 : ByteArray) (A0_4 : Option Addr) (c0_4 : Nat) (l0_4 : List (S170)) (A0_5 : Option Addr) (c0_5 : Nat) (l0_5 : List (S59)) (r : Bool) (w : World) (hr0_4 : Kd.C k170 w A0_4 l0_4.length l0_4) (hc0_4 : l0_4.length ≤ c0_4) (hr0_5 : Kd.C k59 w A0_5 l0_5.length l0_5) (hc0_5 : l0_5.length ≤ c0_5) (h : impl_isDir.f k a0_0 a0_1 a0_2 a0_3 l0_4 l0_5 = some r) :
  Calls Try.prog 196 #[.agg #[.int .i64 a0_0, .int .i64 a0_1, .int .i64 a0_2, .string a0_3, .slice A0_4 l0_4.length c0_4, .slice A0_5 l0_5.length c0_5]] w fun e w' => e = .returned (.bool r) ∧ Below w.heap.size w w' := by
 have hu49 := Try.underlying49
 have hu59 := Try.underlying59
 have HR0_4 := Aside0.mk hr0_4
 have HC0_4 := Aside0.mk hc0_4
 clear hr0_4 hc0_4
 have HR0_5 := Aside0.mk hr0_5
 have HC0_5 := Aside0.mk hc0_5
 clear hr0_5 hc0_5
 have HB := Aside0.mk (Below.refl w.heap.size w)
 have H : (impl_isDir.l0 k l0_5 (l0_5.length : Int) 0 a0_0 a0_1 a0_2 a0_3 l0_4 l0_5) = some r := h
 clear h
 have H' := Aside0.mk H
 clear H
 go_enter Try.func196, Try.ntmps196
 go_wp2_with (first | ((with_reducible refine gate_dst (N := 1) rfl ?_); (try (refine gate_guard (by rfl) ?_; dsimp only)); refine box_event ?hg (N := 1) ?hd (cs := #[.int .i64 a0_0, .int .i64 a0_1, .int .i64 a0_2, .string a0_3, .slice A0_4 l0_4.length c0_4, .slice A0_5 l0_5.length c0_5]) (t := 49) ?hr ?_; (case hd => rfl); (case hg => rfl); (case hr => first | (go_simp; done) | (go_simp; rfl)); intro gb264 hg w2 hbox hb; have z_ := p_ (below_step tq_0 hb) <| p_ (hbox) <| p_ (gb_ hg tq_0) <| a_ (gb_ hg tq_0); clear HB; obtain ⟨HB, BK264, GW264, GE264⟩ := z_; clear hb hbox hg; have hcz3_0 := bc_ BK264.out 0; have hcz3_1 := bc_ BK264.out 1; have hcz3_2 := bc_ BK264.out 2; have hcz3_3 := bc_ BK264.out 3; have hcz3_4 := bc_ BK264.out 4; have hcz3_5 := bc_ BK264.out 5; have hfz3_0 := blk_frozen BK264.out 0; have hfz3_1 := blk_frozen BK264.out 1; have hfz3_2 := blk_frozen BK264.out 2; have hfz3_3 := blk_frozen BK264.out 3; have hfz3_4 := blk_frozen BK264.out 4; have hfz3_5 := blk_frozen BK264.out 5))
 go_loopg [8] k (fun kq v8 w' => ∃ (x8_1 : Int), v8 = .int .i64 x8_1 ∧ Aside0 (impl_isDir.l0 kq l0_5 (l0_5.length : Int) x8_1 a0_0 a0_1 a0_2 a0_3 l0_4 l0_5 = some r) ∧ Aside0 (kq ≤ k) ∧ Aside0 (w'.heap[gb264]? = some (.cells #[.int .i64 a0_0, .int .i64 a0_1, .int .i64 a0_2, .string a0_3, (.slice A0_4 l0_4.length c0_4), (.slice A0_5 l0_5.length c0_5)] 49 (0, 0))) ∧ Aside0 (Below w.heap.size w w'))
 case atStart => exact ⟨(0), tq_8, H', ⟨Nat.le_refl _⟩, ⟨tq_29⟩, ⟨tq_16⟩⟩
 case round =>
  clear H'
  try clear c1
  try clear p2
  try clear hcz3_0 hcz3_1 hcz3_2 hcz3_3 hcz3_4 hcz3_5 hfz3_0 hfz3_1 hfz3_2 hfz3_3 hfz3_4 hfz3_5
  obtain ⟨x8_1, rfl, HA, HK1, BK264, HB⟩ := hrel
  cases gk with
  | zero => exact absurd HA.out (by simp [impl_isDir.l0])
  | succ k1 =>
   have H := HA.out
   clear HA
   simp only [impl_isDir.l0] at H
   by_cases c4 : x8_1 < (l0_5.length : Int)
   ·rw [if_pos c4] at H
    have c4b0 : decide (x8_1 < (l0_5.length : Int)) = true := decide_eq_true c4
    clear c4
    by_cases c5 : 0 ≤ x8_1
    ·rw [if_pos c5] at H
     have c5b0 : decide (0 ≤ x8_1) = true := decide_eq_true c5
     clear c5
     by_cases c6 : x8_1 < (l0_5.length : Int)
     ·rw [if_pos c6] at H
      have c6b0 : decide (x8_1 < (l0_5.length : Int)) = true := decide_eq_true c6
      clear c6
      replace H := Option.bind_eq_some_iff.mp H
      obtain ⟨t267, A70, H⟩ := H
      replace H : (if t267.toList = ([] : List UInt8) then (some false) else (if x8_1 > 0 then (if 0 ≤ (wrap64 (x8_1 - 1)) then (if (wrap64 (x8_1 - 1)) < (l0_5.length : Int) then (if ((Op.bytesLess (((rd_T59 l0_5 (wrap64 (x8_1 - 1))).f1).toList) (((rd_T59 l0_5 x8_1).f1).toList)) = true) then (impl_isDir.l0 k1 l0_5 (l0_5.length : Int) (wrap64 (x8_1 + 1)) a0_0 a0_1 a0_2 a0_3 l0_4 l0_5) else (some false)) else (none)) else (none)) else (impl_isDir.l0 k1 l0_5 (l0_5.length : Int) (wrap64 (x8_1 + 1)) a0_0 a0_1 a0_2 a0_3 l0_4 l0_5))) = some r := H
      have A7 := Aside0.mk A70
      clear A70
      by_cases c8 : t267.toList = ([] : List UInt8)
      ·rw [if_pos c8] at H
       have c8b0 : (t267.toList == ([] : List UInt8)) = true := beq_iff_eq.mpr c8
       have c8b1 : (t267.toList != ([] : List UInt8)) = false := bne_eq_false_iff_eq.mpr c8
       clear c8
       obtain rfl := Option.some.inj H
       have p265 : 0 ≤ (x8_1 : Int) := of_decide_eq_true tq_3
       have q265 : x8_1 < (l0_5.length : Int) := of_decide_eq_true tq_3
       obtain ⟨ad265, e265, hx265_0, hx265_1⟩ := at_T59 HR0_5.out x8_1 p265 q265
       cases e265
       replace hx265_0 := hx_ HB.out hx265_0
       replace hx265_1 := hx_ HB.out hx265_1
       replace p265 := eq_true p265
       replace q265 := eq_true q265
       try go_wp2_with (first | ((with_reducible refine gate_dst (N := 4) rfl ?_); (try (refine gate_guard (by rfl) ?_; dsimp only)); refine box_event ?hg (N := 4) ?hd (cs := #[.int .i64 0, .string (⟨#[]⟩ : ByteArray)]) (t := 59) ?hr ?_; (case hd => rfl); (case hg => rfl); (case hr => first | (go_simp; done) | (go_simp; rfl)); intro gb266 hg w9 hbox hb; have z_ := p_ (blk_below tq_29 hb) <| p_ (below_step tq_16 hb) <| p_ (hbox) <| p_ (gb_ hg tq_16) <| p_ (gb_ hg tq_16) <| p_ (ltne_ hg (blk_lt tq_29)) <| a_ (gtne_ hg (blk_lt tq_29)); clear BK264 HB; obtain ⟨BK264, HB, BK266, GW266, GE266, NB264_266, NB266_264⟩ := z_; clear hb hbox hg; have hnb10 := NB266_264.out; have hnc10 := NB264_266.out; have hcz11_0 := bc_ BK266.out 0; have hcz11_1 := bc_ BK266.out 1; have hfz11_0 := blk_frozen BK266.out 0; have hfz11_1 := blk_frozen BK266.out 1))
       have n0_ : Aside0 (((w9.setCell ⟨gb266, 0, none⟩ (.int .i64 ((rd_T59 l0_5 x8_1).f0))).setCell ⟨gb266, 1, none⟩ (.string ((rd_T59 l0_5 x8_1).f1))).heap[gb264]? = some (.cells #[.int .i64 a0_0, .int .i64 a0_1, .int .i64 a0_2, .string a0_3, .slice A0_4 l0_4.length c0_4, .slice (some ad265) l0_5.length c0_5] 49 (0, 0))) := ⟨tq_39⟩
       have n1_ : Aside0 (((w9.setCell ⟨gb266, 0, none⟩ (.int .i64 ((rd_T59 l0_5 x8_1).f0))).setCell ⟨gb266, 1, none⟩ (.string ((rd_T59 l0_5 x8_1).f1))).heap[gb266]? = some (.cells #[.int .i64 ((rd_T59 l0_5 x8_1).f0), .string ((rd_T59 l0_5 x8_1).f1)] 59 (0, 0))) := ⟨tq_31⟩
       have n2_ : Aside0 (Below w.heap.size w ((w9.setCell ⟨gb266, 0, none⟩ (.int .i64 ((rd_T59 l0_5 x8_1).f0))).setCell ⟨gb266, 1, none⟩ (.string ((rd_T59 l0_5 x8_1).f1)))) := ⟨tq_24⟩
       (try clear BK264)
       (try clear BK266)
       (try clear HB)
       generalize ((w9.setCell ⟨gb266, 0, none⟩ (.int .i64 ((rd_T59 l0_5 x8_1).f0))).setCell ⟨gb266, 1, none⟩ (.string ((rd_T59 l0_5 x8_1).f1))) = w12 at n0_ n1_ n2_ ⊢
       have BK264 := n0_
       have BK266 := n1_
       have HB := n2_
       clear n0_ n1_ n2_
       have z_ := p_ (blk_drew BK264.out) <| p_ (blk_drew BK266.out) <| a_ (below_drew1 HB.out)
       clear BK264 BK266 HB
       obtain ⟨BK264, BK266, HB⟩ := z_
       refine start_ (n := 19) (S := fun w' => w'.cell? ⟨gb266, 0, none⟩ = some (.int .i64 ((rd_T59 l0_5 x8_1).f0)) ∧ w'.cell? ⟨gb266, 1, none⟩ = some (.string ((rd_T59 l0_5 x8_1).f1))) (ds := []) bq_55 (by kernel_rfl) rfl rfl (bk2_ BK266.out) (fun hHeld => ?_); refine with_tabW impl_isDir.tab4 impl_isDir.bits4 (fun HT_ HW_ => ?_)
       generalize w12.drew = w13 at BK264 BK266 HB hHeld ⊢
       refine tk_ (i := 0) (N := some 13) bq_56 (take_ofW HT_.out HW_.out (by kernel_rfl)) hHeld ?_
       refine one_ (i := 1) (N := some 14) bq_57 rfl rfl (one_of HT_.out (by kernel_rfl)) (by decide) (fun K hK => ?_)
       refine goes_ Try.func200 (by kernel_rfl) rfl #[.agg #[.int .i64 ((rd_T59 l0_5 x8_1).f0), .string ((rd_T59 l0_5 x8_1).f1)]] (by rfl) rfl rfl tq_1 ?_
       with_reducible refine (impl_EntryWord.calls k1 ((rd_T59 l0_5 x8_1).f0) ((rd_T59 l0_5 x8_1).f1) t267 _ A7.out).mono ?_
       rintro e w14 ⟨rfl, hb⟩
       refine ⟨_, rfl, ?_⟩
       have z_ := p_ (blk_below tq_29 hb) <| p_ (blk_below tq_72 hb) <| a_ (below_step tq_24 hb)
       clear BK264 BK266 HB
       obtain ⟨BK264, BK266, HB⟩ := z_
       (try clear hb)
       (try clear hb2)
       (try clear hk)
       (try clear hi)
       refine hK.out _ _ (bk2_ BK266.out) (fun hHeld => ?_)
       clear hK K
       refine nm_ (some 14) ?_
       refine yq_ (i := 2) (N := some 15) bq_58 (any_of HT_.out (by kernel_rfl)) ?_
       refine yq_ (i := 3) (N := some 16) bq_59 (any_of HT_.out (by kernel_rfl)) ?_
       refine uq_ (i := 4) (N := some 17) bq_60 (any_of HT_.out (by kernel_rfl)) ?_
       refine uq_ (i := 5) (N := some 18) bq_61 (any_of HT_.out (by kernel_rfl)) ?_
       refine uq_ (i := 6) (N := some 19) bq_62 (any_of HT_.out (by kernel_rfl)) ?_
       refine uq_ (i := 7) (N := some 20) bq_63 (any_of HT_.out (by kernel_rfl)) ?_
       refine uq_ (i := 8) (N := some 21) bq_140 (any_of HT_.out (by kernel_rfl)) ?_
       refine uq_ (i := 9) (N := some 22) bq_141 (any_of HT_.out (by kernel_rfl)) ?_
       refine uq_ (i := 10) (N := some 23) bq_142 (any_of HT_.out (by kernel_rfl)) ?_
       refine uq_ (i := 11) (N := some 24) bq_143 (any_of HT_.out (by kernel_rfl)) ?_
       refine uq_ (i := 12) (N := some 25) bq_64 (any_of HT_.out (by kernel_rfl)) ?_
       refine uq_ (i := 13) (N := some 26) bq_65 (any_of HT_.out (by kernel_rfl)) ?_
       refine uq_ (i := 14) (N := some 27) bq_66 (any_of HT_.out (by kernel_rfl)) ?_
       refine uq_ (i := 15) (N := some 28) bq_67 (any_of HT_.out (by kernel_rfl)) ?_
       refine uq_ (i := 16) (N := some 29) bq_68 (any_of HT_.out (by kernel_rfl)) ?_
       refine uq_ (i := 17) (N := some 30) bq_69 (any_of HT_.out (by kernel_rfl)) ?_
       refine yq_ (i := 18) (N := some 31) bq_70 (any_of HT_.out (by kernel_rfl)) ?_
       refine done_ (done_of HT_.out (by kernel_rfl)) ?_
       try go_wp2
       go_ret
       exact ⟨tq_2, tq_24⟩
      ·rw [if_neg c8] at H
       have c8b0 : (t267.toList == ([] : List UInt8)) = false := beq_eq_false_iff_ne.mpr c8
       have c8b1 : (t267.toList != ([] : List UInt8)) = true := bne_iff_ne.mpr c8
       by_cases c15 : x8_1 > 0
       ·rw [if_pos c15] at H
        have c15b0 : decide (0 < x8_1) = true := decide_eq_true c15
        clear c15
        obtain ⟨ji16, hji16⟩ : ∃ j_ : Int, (wrap64 (x8_1 - 1)) = j_ := ⟨_, rfl⟩
        replace H : (if 0 ≤ (ji16) then (if (ji16) < (l0_5.length : Int) then (if ((Op.bytesLess (((rd_T59 l0_5 (ji16)).f1).toList) (((rd_T59 l0_5 x8_1).f1).toList)) = true) then (impl_isDir.l0 k1 l0_5 (l0_5.length : Int) (wrap64 (x8_1 + 1)) a0_0 a0_1 a0_2 a0_3 l0_4 l0_5) else (some false)) else (none)) else (none)) = some r := by first | (rw [hji16] at H; exact H) | (simp only [hji16] at H ⊢; exact H)
        (try rw [hji16] at A7)
        have hji16w : (IntKind.i64.wrap (x8_1 - 1)) = ji16 := (i64_w _).trans hji16
        by_cases c17 : 0 ≤ (ji16)
        ·rw [if_pos c17] at H
         have c17b0 : decide (0 ≤ (ji16)) = true := decide_eq_true c17
         clear c17
         by_cases c18 : (ji16) < (l0_5.length : Int)
         ·rw [if_pos c18] at H
          have c18b0 : decide ((ji16) < (l0_5.length : Int)) = true := decide_eq_true c18
          clear c18
          by_cases c19 : ((Op.bytesLess (((rd_T59 l0_5 (ji16)).f1).toList) (((rd_T59 l0_5 x8_1).f1).toList)) = true)
          ·rw [if_pos c19] at H
           have c19b0 : (Op.bytesLess (((rd_T59 l0_5 (ji16)).f1).toList) (((rd_T59 l0_5 x8_1).f1).toList)) = true := c19
           have c19b0q : (Op.bytesLess (((rd_T59 l0_5 x8_1).f1).toList) (((rd_T59 l0_5 (ji16)).f1).toList) || ((((rd_T59 l0_5 x8_1).f1).toList) == (((rd_T59 l0_5 (ji16)).f1).toList))) = false := by rw [bl_leq, c19b0]; rfl
           clear c19
           have H' := Aside0.mk H
           clear H
           have p265 : 0 ≤ (x8_1 : Int) := of_decide_eq_true tq_3
           have q265 : x8_1 < (l0_5.length : Int) := of_decide_eq_true tq_3
           obtain ⟨ad265, e265, hx265_0, hx265_1⟩ := at_T59 HR0_5.out x8_1 p265 q265
           cases e265
           replace hx265_0 := hx_ HB.out hx265_0
           replace hx265_1 := hx_ HB.out hx265_1
           replace p265 := eq_true p265
           replace q265 := eq_true q265
           try go_wp2_with (first | ((with_reducible refine gate_dst (N := 4) rfl ?_); (try (refine gate_guard (by rfl) ?_; dsimp only)); refine box_event ?hg (N := 4) ?hd (cs := #[.int .i64 0, .string (⟨#[]⟩ : ByteArray)]) (t := 59) ?hr ?_; (case hd => rfl); (case hg => rfl); (case hr => first | (go_simp; done) | (go_simp; rfl)); intro gb266 hg w20 hbox hb; have z_ := p_ (blk_below tq_29 hb) <| p_ (below_step tq_16 hb) <| p_ (hbox) <| p_ (gb_ hg tq_16) <| p_ (gb_ hg tq_16) <| p_ (ltne_ hg (blk_lt tq_29)) <| a_ (gtne_ hg (blk_lt tq_29)); clear BK264 HB; obtain ⟨BK264, HB, BK266, GW266, GE266, NB264_266, NB266_264⟩ := z_; clear hb hbox hg; have hnb21 := NB266_264.out; have hnc21 := NB264_266.out; have hcz22_0 := bc_ BK266.out 0; have hcz22_1 := bc_ BK266.out 1; have hfz22_0 := blk_frozen BK266.out 0; have hfz22_1 := blk_frozen BK266.out 1))
           have n0_ : Aside0 (((w20.setCell ⟨gb266, 0, none⟩ (.int .i64 ((rd_T59 l0_5 x8_1).f0))).setCell ⟨gb266, 1, none⟩ (.string ((rd_T59 l0_5 x8_1).f1))).heap[gb264]? = some (.cells #[.int .i64 a0_0, .int .i64 a0_1, .int .i64 a0_2, .string a0_3, .slice A0_4 l0_4.length c0_4, .slice (some ad265) l0_5.length c0_5] 49 (0, 0))) := ⟨tq_39⟩
           have n1_ : Aside0 (((w20.setCell ⟨gb266, 0, none⟩ (.int .i64 ((rd_T59 l0_5 x8_1).f0))).setCell ⟨gb266, 1, none⟩ (.string ((rd_T59 l0_5 x8_1).f1))).heap[gb266]? = some (.cells #[.int .i64 ((rd_T59 l0_5 x8_1).f0), .string ((rd_T59 l0_5 x8_1).f1)] 59 (0, 0))) := ⟨tq_31⟩
           have n2_ : Aside0 (Below w.heap.size w ((w20.setCell ⟨gb266, 0, none⟩ (.int .i64 ((rd_T59 l0_5 x8_1).f0))).setCell ⟨gb266, 1, none⟩ (.string ((rd_T59 l0_5 x8_1).f1)))) := ⟨tq_24⟩
           (try clear BK264)
           (try clear BK266)
           (try clear HB)
           generalize ((w20.setCell ⟨gb266, 0, none⟩ (.int .i64 ((rd_T59 l0_5 x8_1).f0))).setCell ⟨gb266, 1, none⟩ (.string ((rd_T59 l0_5 x8_1).f1))) = w23 at n0_ n1_ n2_ ⊢
           have BK264 := n0_
           have BK266 := n1_
           have HB := n2_
           clear n0_ n1_ n2_
           have z_ := p_ (blk_drew BK264.out) <| p_ (blk_drew BK266.out) <| a_ (below_drew1 HB.out)
           clear BK264 BK266 HB
           obtain ⟨BK264, BK266, HB⟩ := z_
           have p268 : 0 ≤ ((ji16) : Int) := of_decide_eq_true tq_3
           have q268 : (ji16) < (l0_5.length : Int) := of_decide_eq_true tq_3
           obtain ⟨ad268, e268, hx268_0, hx268_1⟩ := at_T59 HR0_5.out (ji16) p268 q268
           have hw268_1 := hx268_1
           have hw268_0 := hx268_0
           obtain rfl : ad265 = ad268 := (by injection e268)
           replace hx268_0 := hx_ HB.out hx268_0
           replace hx268_1 := hx_ HB.out hx268_1
           replace p268 := eq_true p268
           replace q268 := eq_true q268
           refine start_ (n := 19) (S := fun w' => w'.cell? ⟨gb266, 0, none⟩ = some (.int .i64 ((rd_T59 l0_5 x8_1).f0)) ∧ w'.cell? ⟨gb266, 1, none⟩ = some (.string ((rd_T59 l0_5 x8_1).f1)) ∧ w'.cell? ⟨gb264, 0, none⟩ = some (.int .i64 a0_0) ∧ w'.cell? ⟨gb264, 1, none⟩ = some (.int .i64 a0_1) ∧ w'.cell? ⟨gb264, 2, none⟩ = some (.int .i64 a0_2) ∧ w'.cell? ⟨gb264, 3, none⟩ = some (.string a0_3) ∧ w'.cell? ⟨gb264, 4, none⟩ = some (.slice A0_4 l0_4.length c0_4) ∧ w'.cell? ⟨gb264, 5, none⟩ = some (.slice (some ad265) l0_5.length c0_5) ∧ w'.cell? (ad265.add (((ji16)).toNat * 2)) = some (.int .i64 ((rd_T59 l0_5 (ji16)).f0)) ∧ w'.cell? ⟨(ad265.add (((ji16)).toNat * 2)).block, (ad265.add (((ji16)).toNat * 2)).off + 1, none⟩ = some (.string ((rd_T59 l0_5 (ji16)).f1))) (ds := []) bq_55 (by kernel_rfl) rfl rfl (bc2_ BK266.out (bc6_ BK264.out ⟨((HB.out.cell (World.block_lt_of_cell? w _ hw268_0)).trans hw268_0), ((HB.out.cell (World.block_lt_of_cell? w _ hw268_1)).trans hw268_1)⟩)) (fun hHeld => ?_); refine with_tabW impl_isDir.tab4 impl_isDir.bits4 (fun HT_ HW_ => ?_)
           generalize w23.drew = w24 at BK264 BK266 HB hx268_0 hx268_1 hHeld ⊢
           refine tk_ (i := 0) (N := some 13) bq_56 (take_ofW HT_.out HW_.out (by kernel_rfl)) hHeld ?_
           refine one_ (i := 1) (N := some 14) bq_57 rfl rfl (one_of HT_.out (by kernel_rfl)) (by decide) (fun K hK => ?_)
           refine goes_ Try.func200 (by kernel_rfl) rfl #[.agg #[.int .i64 ((rd_T59 l0_5 x8_1).f0), .string ((rd_T59 l0_5 x8_1).f1)]] (by rfl) rfl rfl tq_1 ?_
           with_reducible refine (impl_EntryWord.calls k1 ((rd_T59 l0_5 x8_1).f0) ((rd_T59 l0_5 x8_1).f1) t267 _ A7.out).mono ?_
           rintro e w25 ⟨rfl, hb⟩
           refine ⟨_, rfl, ?_⟩
           have z_ := p_ (blk_below tq_29 hb) <| p_ (blk_below tq_72 hb) <| a_ (below_step tq_24 hb)
           clear BK264 BK266 HB
           obtain ⟨BK264, BK266, HB⟩ := z_
           (try clear hb)
           (try clear hb2)
           (try clear hk)
           (try clear hi)
           refine hK.out _ _ (bc2_ BK266.out (bc6_ BK264.out ⟨((HB.out.cell (World.block_lt_of_cell? w _ hw268_0)).trans hw268_0), ((HB.out.cell (World.block_lt_of_cell? w _ hw268_1)).trans hw268_1)⟩)) (fun hHeld => ?_)
           clear hK K
           refine nm_ (some 14) ?_
           refine yq_ (i := 2) (N := some 15) bq_58 (any_of HT_.out (by kernel_rfl)) ?_
           refine yq_ (i := 3) (N := some 16) bq_59 (any_of HT_.out (by kernel_rfl)) ?_
           refine yq_ (i := 4) (N := some 17) bq_60 (any_of HT_.out (by kernel_rfl)) ?_
           refine yq_ (i := 5) (N := some 18) bq_61 (any_of HT_.out (by kernel_rfl)) ?_
           refine yq_ (i := 6) (N := some 19) bq_62 (any_of HT_.out (by kernel_rfl)) ?_
           refine yq_ (i := 7) (N := some 20) bq_63 (any_of HT_.out (by kernel_rfl)) ?_
           refine yq_ (i := 9) (N := some 22) bq_144 (any_of HT_.out (by kernel_rfl)) ?_
           refine yq_ (i := 11) (N := some 24) bq_145 (any_of HT_.out (by kernel_rfl)) ?_
           refine yq_ (i := 12) (N := some 25) bq_146 (any_of HT_.out (by kernel_rfl)) ?_
           refine tk_ (i := 8) (N := some 21) bq_147 (take_ofW HT_.out HW_.out (by kernel_rfl)) hHeld ?_
           refine tk_ (i := 10) (N := some 23) bq_64 (take_ofW HT_.out HW_.out (by kernel_rfl)) hHeld ?_
           refine yq_ (i := 13) (N := some 26) bq_65 (any_of HT_.out (by kernel_rfl)) ?_
           refine yq_ (i := 14) (N := some 27) bq_66 (any_of HT_.out (by kernel_rfl)) ?_
           refine tk_ (i := 15) (N := some 28) bq_67 (take_ofW HT_.out HW_.out (by kernel_rfl)) hHeld ?_
           refine yq_ (i := 16) (N := some 29) bq_68 (any_of HT_.out (by kernel_rfl)) ?_
           refine yq_ (i := 17) (N := some 30) bq_69 (any_of HT_.out (by kernel_rfl)) ?_
           refine yq_ (i := 18) (N := some 31) bq_70 (any_of HT_.out (by kernel_rfl)) ?_
           refine done_ (done_of HT_.out (by kernel_rfl)) ?_
           try go_wp2
           go_roundg k1
           case measure => have := HK1.out; omega
           case rel => exact ⟨(wrap64 (x8_1 + 1)), tq_8, H', ⟨tq_67⟩, ⟨tq_29⟩, ⟨tq_24⟩⟩
          ·rw [if_neg c19] at H
           have c19b0 : (Op.bytesLess (((rd_T59 l0_5 (ji16)).f1).toList) (((rd_T59 l0_5 x8_1).f1).toList)) = false := by simpa using c19
           have c19b0q : (Op.bytesLess (((rd_T59 l0_5 x8_1).f1).toList) (((rd_T59 l0_5 (ji16)).f1).toList) || ((((rd_T59 l0_5 x8_1).f1).toList) == (((rd_T59 l0_5 (ji16)).f1).toList))) = true := by rw [bl_leq, c19b0]; rfl
           clear c19
           obtain rfl := Option.some.inj H
           have p265 : 0 ≤ (x8_1 : Int) := of_decide_eq_true tq_3
           have q265 : x8_1 < (l0_5.length : Int) := of_decide_eq_true tq_3
           obtain ⟨ad265, e265, hx265_0, hx265_1⟩ := at_T59 HR0_5.out x8_1 p265 q265
           cases e265
           replace hx265_0 := hx_ HB.out hx265_0
           replace hx265_1 := hx_ HB.out hx265_1
           replace p265 := eq_true p265
           replace q265 := eq_true q265
           try go_wp2_with (first | ((with_reducible refine gate_dst (N := 4) rfl ?_); (try (refine gate_guard (by rfl) ?_; dsimp only)); refine box_event ?hg (N := 4) ?hd (cs := #[.int .i64 0, .string (⟨#[]⟩ : ByteArray)]) (t := 59) ?hr ?_; (case hd => rfl); (case hg => rfl); (case hr => first | (go_simp; done) | (go_simp; rfl)); intro gb266 hg w26 hbox hb; have z_ := p_ (blk_below tq_29 hb) <| p_ (below_step tq_16 hb) <| p_ (hbox) <| p_ (gb_ hg tq_16) <| p_ (gb_ hg tq_16) <| p_ (ltne_ hg (blk_lt tq_29)) <| a_ (gtne_ hg (blk_lt tq_29)); clear BK264 HB; obtain ⟨BK264, HB, BK266, GW266, GE266, NB264_266, NB266_264⟩ := z_; clear hb hbox hg; have hnb27 := NB266_264.out; have hnc27 := NB264_266.out; have hcz28_0 := bc_ BK266.out 0; have hcz28_1 := bc_ BK266.out 1; have hfz28_0 := blk_frozen BK266.out 0; have hfz28_1 := blk_frozen BK266.out 1))
           have n0_ : Aside0 (((w26.setCell ⟨gb266, 0, none⟩ (.int .i64 ((rd_T59 l0_5 x8_1).f0))).setCell ⟨gb266, 1, none⟩ (.string ((rd_T59 l0_5 x8_1).f1))).heap[gb264]? = some (.cells #[.int .i64 a0_0, .int .i64 a0_1, .int .i64 a0_2, .string a0_3, .slice A0_4 l0_4.length c0_4, .slice (some ad265) l0_5.length c0_5] 49 (0, 0))) := ⟨tq_39⟩
           have n1_ : Aside0 (((w26.setCell ⟨gb266, 0, none⟩ (.int .i64 ((rd_T59 l0_5 x8_1).f0))).setCell ⟨gb266, 1, none⟩ (.string ((rd_T59 l0_5 x8_1).f1))).heap[gb266]? = some (.cells #[.int .i64 ((rd_T59 l0_5 x8_1).f0), .string ((rd_T59 l0_5 x8_1).f1)] 59 (0, 0))) := ⟨tq_31⟩
           have n2_ : Aside0 (Below w.heap.size w ((w26.setCell ⟨gb266, 0, none⟩ (.int .i64 ((rd_T59 l0_5 x8_1).f0))).setCell ⟨gb266, 1, none⟩ (.string ((rd_T59 l0_5 x8_1).f1)))) := ⟨tq_24⟩
           (try clear BK264)
           (try clear BK266)
           (try clear HB)
           generalize ((w26.setCell ⟨gb266, 0, none⟩ (.int .i64 ((rd_T59 l0_5 x8_1).f0))).setCell ⟨gb266, 1, none⟩ (.string ((rd_T59 l0_5 x8_1).f1))) = w29 at n0_ n1_ n2_ ⊢
           have BK264 := n0_
           have BK266 := n1_
           have HB := n2_
           clear n0_ n1_ n2_
           have z_ := p_ (blk_drew BK264.out) <| p_ (blk_drew BK266.out) <| a_ (below_drew1 HB.out)
           clear BK264 BK266 HB
           obtain ⟨BK264, BK266, HB⟩ := z_
           have p268 : 0 ≤ ((ji16) : Int) := of_decide_eq_true tq_3
           have q268 : (ji16) < (l0_5.length : Int) := of_decide_eq_true tq_3
           obtain ⟨ad268, e268, hx268_0, hx268_1⟩ := at_T59 HR0_5.out (ji16) p268 q268
           have hw268_1 := hx268_1
           have hw268_0 := hx268_0
           obtain rfl : ad265 = ad268 := (by injection e268)
           replace hx268_0 := hx_ HB.out hx268_0
           replace hx268_1 := hx_ HB.out hx268_1
           replace p268 := eq_true p268
           replace q268 := eq_true q268
           refine start_ (n := 19) (S := fun w' => w'.cell? ⟨gb266, 0, none⟩ = some (.int .i64 ((rd_T59 l0_5 x8_1).f0)) ∧ w'.cell? ⟨gb266, 1, none⟩ = some (.string ((rd_T59 l0_5 x8_1).f1)) ∧ w'.cell? ⟨gb264, 0, none⟩ = some (.int .i64 a0_0) ∧ w'.cell? ⟨gb264, 1, none⟩ = some (.int .i64 a0_1) ∧ w'.cell? ⟨gb264, 2, none⟩ = some (.int .i64 a0_2) ∧ w'.cell? ⟨gb264, 3, none⟩ = some (.string a0_3) ∧ w'.cell? ⟨gb264, 4, none⟩ = some (.slice A0_4 l0_4.length c0_4) ∧ w'.cell? ⟨gb264, 5, none⟩ = some (.slice (some ad265) l0_5.length c0_5) ∧ w'.cell? (ad265.add (((ji16)).toNat * 2)) = some (.int .i64 ((rd_T59 l0_5 (ji16)).f0)) ∧ w'.cell? ⟨(ad265.add (((ji16)).toNat * 2)).block, (ad265.add (((ji16)).toNat * 2)).off + 1, none⟩ = some (.string ((rd_T59 l0_5 (ji16)).f1))) (ds := []) bq_55 (by kernel_rfl) rfl rfl (bc2_ BK266.out (bc6_ BK264.out ⟨((HB.out.cell (World.block_lt_of_cell? w _ hw268_0)).trans hw268_0), ((HB.out.cell (World.block_lt_of_cell? w _ hw268_1)).trans hw268_1)⟩)) (fun hHeld => ?_); refine with_tabW impl_isDir.tab4 impl_isDir.bits4 (fun HT_ HW_ => ?_)
           generalize w29.drew = w30 at BK264 BK266 HB hx268_0 hx268_1 hHeld ⊢
           refine tk_ (i := 0) (N := some 13) bq_56 (take_ofW HT_.out HW_.out (by kernel_rfl)) hHeld ?_
           refine one_ (i := 1) (N := some 14) bq_57 rfl rfl (one_of HT_.out (by kernel_rfl)) (by decide) (fun K hK => ?_)
           refine goes_ Try.func200 (by kernel_rfl) rfl #[.agg #[.int .i64 ((rd_T59 l0_5 x8_1).f0), .string ((rd_T59 l0_5 x8_1).f1)]] (by rfl) rfl rfl tq_1 ?_
           with_reducible refine (impl_EntryWord.calls k1 ((rd_T59 l0_5 x8_1).f0) ((rd_T59 l0_5 x8_1).f1) t267 _ A7.out).mono ?_
           rintro e w31 ⟨rfl, hb⟩
           refine ⟨_, rfl, ?_⟩
           have z_ := p_ (blk_below tq_29 hb) <| p_ (blk_below tq_72 hb) <| a_ (below_step tq_24 hb)
           clear BK264 BK266 HB
           obtain ⟨BK264, BK266, HB⟩ := z_
           (try clear hb)
           (try clear hb2)
           (try clear hk)
           (try clear hi)
           refine hK.out _ _ (bc2_ BK266.out (bc6_ BK264.out ⟨((HB.out.cell (World.block_lt_of_cell? w _ hw268_0)).trans hw268_0), ((HB.out.cell (World.block_lt_of_cell? w _ hw268_1)).trans hw268_1)⟩)) (fun hHeld => ?_)
           clear hK K
           refine nm_ (some 14) ?_
           refine yq_ (i := 2) (N := some 15) bq_58 (any_of HT_.out (by kernel_rfl)) ?_
           refine yq_ (i := 3) (N := some 16) bq_59 (any_of HT_.out (by kernel_rfl)) ?_
           refine yq_ (i := 4) (N := some 17) bq_60 (any_of HT_.out (by kernel_rfl)) ?_
           refine yq_ (i := 5) (N := some 18) bq_61 (any_of HT_.out (by kernel_rfl)) ?_
           refine yq_ (i := 6) (N := some 19) bq_62 (any_of HT_.out (by kernel_rfl)) ?_
           refine yq_ (i := 7) (N := some 20) bq_63 (any_of HT_.out (by kernel_rfl)) ?_
           refine yq_ (i := 9) (N := some 22) bq_144 (any_of HT_.out (by kernel_rfl)) ?_
           refine yq_ (i := 11) (N := some 24) bq_145 (any_of HT_.out (by kernel_rfl)) ?_
           refine yq_ (i := 12) (N := some 25) bq_146 (any_of HT_.out (by kernel_rfl)) ?_
           refine tk_ (i := 8) (N := some 21) bq_147 (take_ofW HT_.out HW_.out (by kernel_rfl)) hHeld ?_
           refine tk_ (i := 10) (N := some 23) bq_64 (take_ofW HT_.out HW_.out (by kernel_rfl)) hHeld ?_
           refine yq_ (i := 13) (N := some 26) bq_65 (any_of HT_.out (by kernel_rfl)) ?_
           refine yq_ (i := 14) (N := some 27) bq_66 (any_of HT_.out (by kernel_rfl)) ?_
           refine tk_ (i := 15) (N := some 28) bq_67 (take_ofW HT_.out HW_.out (by kernel_rfl)) hHeld ?_
           refine yq_ (i := 16) (N := some 29) bq_68 (any_of HT_.out (by kernel_rfl)) ?_
           refine yq_ (i := 17) (N := some 30) bq_69 (any_of HT_.out (by kernel_rfl)) ?_
           refine yq_ (i := 18) (N := some 31) bq_70 (any_of HT_.out (by kernel_rfl)) ?_
           refine done_ (done_of HT_.out (by kernel_rfl)) ?_
           try go_wp2
           go_ret
           exact ⟨(by first | rfl | (simp [errW_none, errW_some] <;> rfl) | (simp only [← hji16]; first | rfl | (simp [errW_none, errW_some] <;> rfl)) | (simp [*, errW_none, errW_some] <;> rfl)), tq_24⟩
         ·rw [if_neg c18] at H
          exact absurd H (by simp)
        ·rw [if_neg c17] at H
         exact absurd H (by simp)
       ·rw [if_neg c15] at H
        have c15b0 : decide (0 < x8_1) = false := decide_eq_false c15
        clear c15
        have H' := Aside0.mk H
        clear H
        have p265 : 0 ≤ (x8_1 : Int) := of_decide_eq_true tq_3
        have q265 : x8_1 < (l0_5.length : Int) := of_decide_eq_true tq_3
        obtain ⟨ad265, e265, hx265_0, hx265_1⟩ := at_T59 HR0_5.out x8_1 p265 q265
        cases e265
        replace hx265_0 := hx_ HB.out hx265_0
        replace hx265_1 := hx_ HB.out hx265_1
        replace p265 := eq_true p265
        replace q265 := eq_true q265
        try go_wp2_with (first | ((with_reducible refine gate_dst (N := 4) rfl ?_); (try (refine gate_guard (by rfl) ?_; dsimp only)); refine box_event ?hg (N := 4) ?hd (cs := #[.int .i64 0, .string (⟨#[]⟩ : ByteArray)]) (t := 59) ?hr ?_; (case hd => rfl); (case hg => rfl); (case hr => first | (go_simp; done) | (go_simp; rfl)); intro gb266 hg w32 hbox hb; have z_ := p_ (blk_below tq_29 hb) <| p_ (below_step tq_16 hb) <| p_ (hbox) <| p_ (gb_ hg tq_16) <| p_ (gb_ hg tq_16) <| p_ (ltne_ hg (blk_lt tq_29)) <| a_ (gtne_ hg (blk_lt tq_29)); clear BK264 HB; obtain ⟨BK264, HB, BK266, GW266, GE266, NB264_266, NB266_264⟩ := z_; clear hb hbox hg; have hnb33 := NB266_264.out; have hnc33 := NB264_266.out; have hcz34_0 := bc_ BK266.out 0; have hcz34_1 := bc_ BK266.out 1; have hfz34_0 := blk_frozen BK266.out 0; have hfz34_1 := blk_frozen BK266.out 1))
        have n0_ : Aside0 (((w32.setCell ⟨gb266, 0, none⟩ (.int .i64 ((rd_T59 l0_5 x8_1).f0))).setCell ⟨gb266, 1, none⟩ (.string ((rd_T59 l0_5 x8_1).f1))).heap[gb264]? = some (.cells #[.int .i64 a0_0, .int .i64 a0_1, .int .i64 a0_2, .string a0_3, .slice A0_4 l0_4.length c0_4, .slice (some ad265) l0_5.length c0_5] 49 (0, 0))) := ⟨tq_39⟩
        have n1_ : Aside0 (((w32.setCell ⟨gb266, 0, none⟩ (.int .i64 ((rd_T59 l0_5 x8_1).f0))).setCell ⟨gb266, 1, none⟩ (.string ((rd_T59 l0_5 x8_1).f1))).heap[gb266]? = some (.cells #[.int .i64 ((rd_T59 l0_5 x8_1).f0), .string ((rd_T59 l0_5 x8_1).f1)] 59 (0, 0))) := ⟨tq_31⟩
        have n2_ : Aside0 (Below w.heap.size w ((w32.setCell ⟨gb266, 0, none⟩ (.int .i64 ((rd_T59 l0_5 x8_1).f0))).setCell ⟨gb266, 1, none⟩ (.string ((rd_T59 l0_5 x8_1).f1)))) := ⟨tq_24⟩
        (try clear BK264)
        (try clear BK266)
        (try clear HB)
        generalize ((w32.setCell ⟨gb266, 0, none⟩ (.int .i64 ((rd_T59 l0_5 x8_1).f0))).setCell ⟨gb266, 1, none⟩ (.string ((rd_T59 l0_5 x8_1).f1))) = w35 at n0_ n1_ n2_ ⊢
        have BK264 := n0_
        have BK266 := n1_
        have HB := n2_
        clear n0_ n1_ n2_
        have z_ := p_ (blk_drew BK264.out) <| p_ (blk_drew BK266.out) <| a_ (below_drew1 HB.out)
        clear BK264 BK266 HB
        obtain ⟨BK264, BK266, HB⟩ := z_
        refine start_ (n := 19) (S := fun w' => w'.cell? ⟨gb266, 0, none⟩ = some (.int .i64 ((rd_T59 l0_5 x8_1).f0)) ∧ w'.cell? ⟨gb266, 1, none⟩ = some (.string ((rd_T59 l0_5 x8_1).f1))) (ds := []) bq_55 (by kernel_rfl) rfl rfl (bk2_ BK266.out) (fun hHeld => ?_); refine with_tabW impl_isDir.tab4 impl_isDir.bits4 (fun HT_ HW_ => ?_)
        generalize w35.drew = w36 at BK264 BK266 HB hHeld ⊢
        refine tk_ (i := 0) (N := some 13) bq_56 (take_ofW HT_.out HW_.out (by kernel_rfl)) hHeld ?_
        refine one_ (i := 1) (N := some 14) bq_57 rfl rfl (one_of HT_.out (by kernel_rfl)) (by decide) (fun K hK => ?_)
        refine goes_ Try.func200 (by kernel_rfl) rfl #[.agg #[.int .i64 ((rd_T59 l0_5 x8_1).f0), .string ((rd_T59 l0_5 x8_1).f1)]] (by rfl) rfl rfl tq_1 ?_
        with_reducible refine (impl_EntryWord.calls k1 ((rd_T59 l0_5 x8_1).f0) ((rd_T59 l0_5 x8_1).f1) t267 _ A7.out).mono ?_
        rintro e w37 ⟨rfl, hb⟩
        refine ⟨_, rfl, ?_⟩
        have z_ := p_ (blk_below tq_29 hb) <| p_ (blk_below tq_72 hb) <| a_ (below_step tq_24 hb)
        clear BK264 BK266 HB
        obtain ⟨BK264, BK266, HB⟩ := z_
        (try clear hb)
        (try clear hb2)
        (try clear hk)
        (try clear hi)
        refine hK.out _ _ (bk2_ BK266.out) (fun hHeld => ?_)
        clear hK K
        refine nm_ (some 14) ?_
        refine yq_ (i := 2) (N := some 15) bq_58 (any_of HT_.out (by kernel_rfl)) ?_
        refine yq_ (i := 3) (N := some 16) bq_59 (any_of HT_.out (by kernel_rfl)) ?_
        refine yq_ (i := 4) (N := some 17) bq_60 (any_of HT_.out (by kernel_rfl)) ?_
        refine yq_ (i := 5) (N := some 18) bq_61 (any_of HT_.out (by kernel_rfl)) ?_
        refine yq_ (i := 6) (N := some 19) bq_62 (any_of HT_.out (by kernel_rfl)) ?_
        refine uq_ (i := 7) (N := some 20) bq_63 (any_of HT_.out (by kernel_rfl)) ?_
        refine uq_ (i := 8) (N := some 21) bq_140 (any_of HT_.out (by kernel_rfl)) ?_
        refine uq_ (i := 9) (N := some 22) bq_141 (any_of HT_.out (by kernel_rfl)) ?_
        refine uq_ (i := 10) (N := some 23) bq_142 (any_of HT_.out (by kernel_rfl)) ?_
        refine uq_ (i := 11) (N := some 24) bq_143 (any_of HT_.out (by kernel_rfl)) ?_
        refine uq_ (i := 12) (N := some 25) bq_64 (any_of HT_.out (by kernel_rfl)) ?_
        refine uq_ (i := 13) (N := some 26) bq_65 (any_of HT_.out (by kernel_rfl)) ?_
        refine uq_ (i := 14) (N := some 27) bq_66 (any_of HT_.out (by kernel_rfl)) ?_
        refine uq_ (i := 15) (N := some 28) bq_67 (any_of HT_.out (by kernel_rfl)) ?_
        refine uq_ (i := 16) (N := some 29) bq_68 (any_of HT_.out (by kernel_rfl)) ?_
        refine yq_ (i := 17) (N := some 30) bq_69 (any_of HT_.out (by kernel_rfl)) ?_
        refine yq_ (i := 18) (N := some 31) bq_70 (any_of HT_.out (by kernel_rfl)) ?_
        refine done_ (done_of HT_.out (by kernel_rfl)) ?_
        try go_wp2
        go_roundg k1
        case measure => have := HK1.out; omega
        case rel => exact ⟨(wrap64 (x8_1 + 1)), tq_8, H', ⟨tq_67⟩, ⟨tq_29⟩, ⟨tq_24⟩⟩
     ·rw [if_neg c6] at H
      exact absurd H (by simp)
    ·rw [if_neg c5] at H
     exact absurd H (by simp)
   ·rw [if_neg c4] at H
    have c4b0 : decide (x8_1 < (l0_5.length : Int)) = false := decide_eq_false c4
    clear c4
    by_cases c38 : a0_1 = 0
    ·rw [if_pos c38] at H
     have c38b0 : (a0_1 == 0) = true := beq_iff_eq.mpr c38
     have c38b1 : (a0_1 != 0) = false := bne_eq_false_iff_eq.mpr c38
     clear c38
     by_cases c39 : a0_3.toList = ([] : List UInt8)
     ·rw [if_pos c39] at H
      have c39b0 : (a0_3.toList == ([] : List UInt8)) = true := beq_iff_eq.mpr c39
      have c39b1 : (a0_3.toList != ([] : List UInt8)) = false := bne_eq_false_iff_eq.mpr c39
      clear c39
      by_cases c40 : (l0_4.length : Int) = 0
      ·rw [if_pos c40] at H
       have c40b0 : ((l0_4.length : Int) == 0) = true := beq_iff_eq.mpr c40
       have c40b1 : ((l0_4.length : Int) != 0) = false := bne_eq_false_iff_eq.mpr c40
       clear c40
       obtain rfl := Option.some.inj H
       have hcz41_0 := bc_ BK264.out 0
       have hcz41_1 := bc_ BK264.out 1
       have hcz41_2 := bc_ BK264.out 2
       have hcz41_3 := bc_ BK264.out 3
       have hcz41_4 := bc_ BK264.out 4
       have hcz41_5 := bc_ BK264.out 5
       have hfz41_0 := blk_frozen BK264.out 0
       have hfz41_1 := blk_frozen BK264.out 1
       have hfz41_2 := blk_frozen BK264.out 2
       have hfz41_3 := blk_frozen BK264.out 3
       have hfz41_4 := blk_frozen BK264.out 4
       have hfz41_5 := blk_frozen BK264.out 5
       go_wp2
       go_ret
       exact ⟨tq_2, tq_16⟩
      ·rw [if_neg c40] at H
       have c40b0 : ((l0_4.length : Int) == 0) = false := beq_eq_false_iff_ne.mpr c40
       have c40b1 : ((l0_4.length : Int) != 0) = true := bne_iff_ne.mpr c40
       have c40b2 : ¬ (l0_4 = []) := fun h_ => c40 (by rw [h_]; rfl)
       obtain rfl := Option.some.inj H
       have hcz42_0 := bc_ BK264.out 0
       have hcz42_1 := bc_ BK264.out 1
       have hcz42_2 := bc_ BK264.out 2
       have hcz42_3 := bc_ BK264.out 3
       have hcz42_4 := bc_ BK264.out 4
       have hcz42_5 := bc_ BK264.out 5
       have hfz42_0 := blk_frozen BK264.out 0
       have hfz42_1 := blk_frozen BK264.out 1
       have hfz42_2 := blk_frozen BK264.out 2
       have hfz42_3 := blk_frozen BK264.out 3
       have hfz42_4 := blk_frozen BK264.out 4
       have hfz42_5 := blk_frozen BK264.out 5
       go_wp2
       go_ret
       exact ⟨tq_2, tq_16⟩
     ·rw [if_neg c39] at H
      have c39b0 : (a0_3.toList == ([] : List UInt8)) = false := beq_eq_false_iff_ne.mpr c39
      have c39b1 : (a0_3.toList != ([] : List UInt8)) = true := bne_iff_ne.mpr c39
      obtain rfl := Option.some.inj H
      have hcz43_0 := bc_ BK264.out 0
      have hcz43_1 := bc_ BK264.out 1
      have hcz43_2 := bc_ BK264.out 2
      have hcz43_3 := bc_ BK264.out 3
      have hcz43_4 := bc_ BK264.out 4
      have hcz43_5 := bc_ BK264.out 5
      have hfz43_0 := blk_frozen BK264.out 0
      have hfz43_1 := blk_frozen BK264.out 1
      have hfz43_2 := blk_frozen BK264.out 2
      have hfz43_3 := blk_frozen BK264.out 3
      have hfz43_4 := blk_frozen BK264.out 4
      have hfz43_5 := blk_frozen BK264.out 5
      go_wp2
      go_ret
      exact ⟨tq_2, tq_16⟩
    ·rw [if_neg c38] at H
     have c38b0 : (a0_1 == 0) = false := beq_eq_false_iff_ne.mpr c38
     have c38b1 : (a0_1 != 0) = true := bne_iff_ne.mpr c38
     obtain rfl := Option.some.inj H
     have hcz44_0 := bc_ BK264.out 0
     have hcz44_1 := bc_ BK264.out 1
     have hcz44_2 := bc_ BK264.out 2
     have hcz44_3 := bc_ BK264.out 3
     have hcz44_4 := bc_ BK264.out 4
     have hcz44_5 := bc_ BK264.out 5
     have hfz44_0 := blk_frozen BK264.out 0
     have hfz44_1 := blk_frozen BK264.out 1
     have hfz44_2 := blk_frozen BK264.out 2
     have hfz44_3 := blk_frozen BK264.out 3
     have hfz44_4 := blk_frozen BK264.out 4
     have hfz44_5 := blk_frozen BK264.out 5
     go_wp2
     go_ret
     exact ⟨tq_2, tq_16⟩

end Go.Proofs.Ytcdnfkoahajhhaa.PFnExactInodeWords
