/- Contracts of Go functions, written by a program of ours over the print of the kit: each says that the call returns what the Lean function beside it computes. Conditions: as each theorem states them. -/
import Derived.Test.YtcdnfkoahajhhaaPkFnExactCleanOk
import Derived.Test.YtcdnfkoahajhhaaPFnExactCleanOkx0
import Derived.Test.YtcdnfkoahajhhaaPFnExactCleanOkx10
namespace Go.Proofs.Ytcdnfkoahajhhaa.PFnExactCleanOk
open Go.RowKit Go.Proofs.YtcdnfkoahajhhaaW.PrintWords Go.Proofs.YtcdnfkoahajhhaaW.PrintLast Go.Proofs.YtcdnfkoahajhhaaW.PrintMore
attribute [local go_sem] max2_int min2_int max_two min_two max_three min_three max_four min_four   -- for this text's walks alone
set_option linter.unusedVariables false
set_option linter.unusedSimpArgs false

/-! ### impl_MemoryOk: function 257 -/
def impl_MemoryOk.l0 : Nat → List (S206) → Int → Int → ByteArray → List (S206) → Option (Bool)
 | 0, _, _, _, _, _ => none
 | k + 1, x6, x7, x8, x311000, x311001 => if x8 < x7 then (if 0 ≤ x8 then (if x8 < (x6.length : Int) then ((impl_within.f ((rd_T206 x6 x8).f0) 0 (wrap64 ((wrap64 ((x311000.size : Int) / 16)) - 1))).bind fun t313 => (if t313 = true then (if (((rd_T206 x6 x8).f1).size : Int) = 16 then (if x8 > 0 then (if 0 ≤ (wrap64 (x8 - 1)) then (if (wrap64 (x8 - 1)) < (x311001.length : Int) then (if ((rd_T206 x6 x8).f0) ≤ ((rd_T206 x311001 (wrap64 (x8 - 1))).f0) then (some false) else (impl_MemoryOk.l0 k x6 x7 (wrap64 (x8 + 1)) x311000 x311001)) else (none)) else (none)) else (impl_MemoryOk.l0 k x6 x7 (wrap64 (x8 + 1)) x311000 x311001)) else (some false)) else (some false))) else (none)) else (none)) else (if ((x311000.size : Int) % 16) = 0 then (some (decide ((x311000.size : Int) ≤ 16000))) else (some false))
def impl_MemoryOk.f (k : Nat) (a0_0 : ByteArray) (l0_1 : List (S206)) : Option (Bool) := impl_MemoryOk.l0 k l0_1 (l0_1.length : Int) 0 a0_0 l0_1
theorem impl_MemoryOk.mono_l : ∀ k, (∀ y0 y1 y2 y3 y4, LeO (impl_MemoryOk.l0 k y0 y1 y2 y3 y4) (impl_MemoryOk.l0 (k + 1) y0 y1 y2 y3 y4))
 | 0 => fun _ _ _ _ _ r h => by simp [impl_MemoryOk.l0] at h
 | k + 1 => by
  have ih0 := impl_MemoryOk.mono_l k
  ·intro y0 y1 y2 y3 y4
   unfold impl_MemoryOk.l0
   repeat' first
   | (with_reducible exact ih0 ..)
   | (with_reducible exact LeO.refl _)
   | (with_reducible exact LeO.none _)
   | (with_reducible refine LeO.ite ?_ ?_)
   | (with_reducible refine LeO.bind ?_ (fun _ => ?_))
   | exact ih0 ..
   | exact LeO.none _
   | refine LeO.ite ?_ ?_
   | refine LeO.bind ?_ (fun _ => ?_)
theorem impl_MemoryOk.mono : ∀ a0 a1 k, LeO (impl_MemoryOk.f k a0 a1) (impl_MemoryOk.f (k + 1) a0 a1) := by
 intro a0 a1 k
 have ih0 := impl_MemoryOk.mono_l k
 unfold impl_MemoryOk.f
 repeat' first
   | (with_reducible exact ih0 ..)
   | (with_reducible exact LeO.refl _)
   | (with_reducible exact LeO.none _)
   | (with_reducible refine LeO.ite ?_ ?_)
   | (with_reducible refine LeO.bind ?_ (fun _ => ?_))
   | exact ih0 ..
   | exact LeO.none _
   | refine LeO.ite ?_ ?_
   | refine LeO.bind ?_ (fun _ => ?_)
def impl_MemoryOk.T4 : Bool × List (List Nat × List Nat) := (true, [([], []), ([0], [0]), ([], []), ([2], [2]), ([3], [3]), ([4], [4]), ([5], [5]), ([1, 6], [1, 6]), ([7], [7]), ([8, 7], [8]), ([9], [9]), ([10, 9], [9, 10]), ([11, 9], [9, 11]), ([12, 9], [9, 12]), ([9, 13], [9, 13]), ([14, 9], [14]), ([15], [15]), ([16, 15], [15, 16]), ([17, 15, 15], [15, 17]), ([18], [18]), ([19, 18], [18, 19]), ([18], [18]), ([21, 18], [18, 21]), ([18], [18]), ([23, 18], [18, 23]), ([22, 24, 18], [18, 22, 24]), ([25, 18], [18, 25]), ([26, 18], [18, 26]), ([20, 27, 18], [18, 20, 27]), ([18, 28, 15], [15, 18, 28]), ([15, 29], [15, 29])])
def impl_MemoryOk.B4 : List Nat := [0, 1, 0, 4, 12, 28, 60, 127, 255, 511, 1023, 2047, 4095, 8191, 16383, 32767, 65535, 131071, 262143, 524287, 1048575, 524287, 2621439, 524287, 8912895, 31981567, 65535999, 132644863, 268435455, 536870911, 1073741823]
theorem impl_MemoryOk.tab4 : rtab .any (opsOf Try.f257 4) = impl_MemoryOk.T4 := by kernel_rfl
theorem impl_MemoryOk.bits4 : waitsOk impl_MemoryOk.T4.2 impl_MemoryOk.B4 = true := by kernel_rfl
set_option maxHeartbeats 8000000 in
set_option maxRecDepth 100000 in
theorem impl_MemoryOk.calls (k : Nat) (a0_0 : ByteArray) (A0_1 : Option Addr) (c0_1 : Nat) (l0_1 : List (S206)) (r : Bool) (w : World) (hr0_1 : Kd.C k206 w A0_1 l0_1.length l0_1) (hc0_1 : l0_1.length ≤ c0_1) (h : impl_MemoryOk.f k a0_0 l0_1 = some r) :
  Calls Try.prog 257 #[.agg #[.string a0_0, .slice A0_1 l0_1.length c0_1]] w fun e w' => e = .returned (.bool r) ∧ Below w.heap.size w w' := by
 have hu113 := Try.underlying113
 have hu206 := Try.underlying206
 have HR0_1 := Aside0.mk hr0_1
 have HC0_1 := Aside0.mk hc0_1
 clear hr0_1 hc0_1
 have HB := Aside0.mk (Below.refl w.heap.size w)
 have H : (impl_MemoryOk.l0 k l0_1 (l0_1.length : Int) 0 a0_0 l0_1) = some r := h
 clear h
 have H' := Aside0.mk H
 clear H
 go_enter Try.func257, Try.ntmps257
 go_wp2_with (first | ((with_reducible refine gate_dst (N := 1) rfl ?_); (try (refine gate_guard (by rfl) ?_; dsimp only)); refine box_event ?hg (N := 1) ?hd (cs := #[.string a0_0, .slice A0_1 l0_1.length c0_1]) (t := 113) ?hr ?_; (case hd => rfl); (case hg => rfl); (case hr => first | (go_simp; done) | (go_simp; rfl)); intro gb310 hg w2 hbox hb; have z_ := p_ (below_step tq_0 hb) <| p_ (hbox) <| p_ (gb_ hg tq_0) <| a_ (gb_ hg tq_0); clear HB; obtain ⟨HB, BK310, GW310, GE310⟩ := z_; clear hb hbox hg; have hcz3_0 := bc_ BK310.out 0; have hcz3_1 := bc_ BK310.out 1; have hfz3_0 := blk_frozen BK310.out 0; have hfz3_1 := blk_frozen BK310.out 1))
 go_loopg [8] k (fun kq v8 w' => ∃ (x8_1 : Int), v8 = .int .i64 x8_1 ∧ Aside0 (impl_MemoryOk.l0 kq l0_1 (l0_1.length : Int) x8_1 a0_0 l0_1 = some r) ∧ Aside0 (kq ≤ k) ∧ Aside0 (w'.heap[gb310]? = some (.cells #[.string a0_0, (.slice A0_1 l0_1.length c0_1)] 113 (0, 0))) ∧ Aside0 (Below w.heap.size w w'))
 case atStart => exact ⟨(0), tq_7, H', ⟨Nat.le_refl _⟩, ⟨tq_21⟩, ⟨tq_16⟩⟩
 case round =>
  clear H'
  try clear c2
  try clear p2
  try clear hcz3_0 hcz3_1 hfz3_0 hfz3_1
  obtain ⟨x8_1, rfl, HA, HK1, BK310, HB⟩ := hrel
  cases gk with
  | zero => exact absurd HA.out (by simp [impl_MemoryOk.l0])
  | succ k1 =>
   have H := HA.out
   clear HA
   simp only [impl_MemoryOk.l0] at H
   by_cases c4 : x8_1 < (l0_1.length : Int)
   ·rw [if_pos c4] at H
    have c4b0 : decide (x8_1 < (l0_1.length : Int)) = true := decide_eq_true c4
    clear c4
    by_cases c5 : 0 ≤ x8_1
    ·rw [if_pos c5] at H
     have c5b0 : decide (0 ≤ x8_1) = true := decide_eq_true c5
     clear c5
     by_cases c6 : x8_1 < (l0_1.length : Int)
     ·rw [if_pos c6] at H
      have c6b0 : decide (x8_1 < (l0_1.length : Int)) = true := decide_eq_true c6
      clear c6
      replace H := Option.bind_eq_some_iff.mp H
      obtain ⟨t313, A70, H⟩ := H
      replace H : (if t313 = true then (if (((rd_T206 l0_1 x8_1).f1).size : Int) = 16 then (if x8_1 > 0 then (if 0 ≤ (wrap64 (x8_1 - 1)) then (if (wrap64 (x8_1 - 1)) < (l0_1.length : Int) then (if ((rd_T206 l0_1 x8_1).f0) ≤ ((rd_T206 l0_1 (wrap64 (x8_1 - 1))).f0) then (some false) else (impl_MemoryOk.l0 k1 l0_1 (l0_1.length : Int) (wrap64 (x8_1 + 1)) a0_0 l0_1)) else (none)) else (none)) else (impl_MemoryOk.l0 k1 l0_1 (l0_1.length : Int) (wrap64 (x8_1 + 1)) a0_0 l0_1)) else (some false)) else (some false)) = some r := H
      have A7 := Aside0.mk A70
      clear A70
      by_cases c8 : t313 = true
      ·subst c8
       have H1 : (if (((rd_T206 l0_1 x8_1).f1).size : Int) = 16 then (if x8_1 > 0 then (if 0 ≤ (wrap64 (x8_1 - 1)) then (if (wrap64 (x8_1 - 1)) < (l0_1.length : Int) then (if ((rd_T206 l0_1 x8_1).f0) ≤ ((rd_T206 l0_1 (wrap64 (x8_1 - 1))).f0) then (some false) else (impl_MemoryOk.l0 k1 l0_1 (l0_1.length : Int) (wrap64 (x8_1 + 1)) a0_0 l0_1)) else (none)) else (none)) else (impl_MemoryOk.l0 k1 l0_1 (l0_1.length : Int) (wrap64 (x8_1 + 1)) a0_0 l0_1)) else (some false)) = some r := by rw [if_pos rfl] at H; exact H
       clear H
       have H := H1
       clear H1
       by_cases c9 : (((rd_T206 l0_1 x8_1).f1).size : Int) = 16
       ·rw [if_pos c9] at H
        have c9b0 : ((((rd_T206 l0_1 x8_1).f1).size : Int) == 16) = true := beq_iff_eq.mpr c9
        have c9b1 : ((((rd_T206 l0_1 x8_1).f1).size : Int) != 16) = false := bne_eq_false_iff_eq.mpr c9
        clear c9
        by_cases c10 : x8_1 > 0
        ·rw [if_pos c10] at H
         have c10b0 : decide (0 < x8_1) = true := decide_eq_true c10
         clear c10
         obtain ⟨ji11, hji11⟩ : ∃ j_ : Int, (wrap64 (x8_1 - 1)) = j_ := ⟨_, rfl⟩
         replace H : (if 0 ≤ (ji11) then (if (ji11) < (l0_1.length : Int) then (if ((rd_T206 l0_1 x8_1).f0) ≤ ((rd_T206 l0_1 (ji11)).f0) then (some false) else (impl_MemoryOk.l0 k1 l0_1 (l0_1.length : Int) (wrap64 (x8_1 + 1)) a0_0 l0_1)) else (none)) else (none)) = some r := by first | (rw [hji11] at H; exact H) | (simp only [hji11] at H ⊢; exact H)
         (try rw [hji11] at A7)
         have hji11w : (IntKind.i64.wrap (x8_1 - 1)) = ji11 := (i64_w _).trans hji11
         by_cases c12 : 0 ≤ (ji11)
         ·rw [if_pos c12] at H
          have c12b0 : decide (0 ≤ (ji11)) = true := decide_eq_true c12
          clear c12
          by_cases c13 : (ji11) < (l0_1.length : Int)
          ·rw [if_pos c13] at H
           have c13b0 : decide ((ji11) < (l0_1.length : Int)) = true := decide_eq_true c13
           clear c13
           by_cases c14 : ((rd_T206 l0_1 x8_1).f0) ≤ ((rd_T206 l0_1 (ji11)).f0)
           ·rw [if_pos c14] at H
            have c14b0 : decide (((rd_T206 l0_1 x8_1).f0) ≤ ((rd_T206 l0_1 (ji11)).f0)) = true := decide_eq_true c14
            clear c14
            obtain rfl := Option.some.inj H
            have p311 : 0 ≤ (x8_1 : Int) := of_decide_eq_true tq_3
            have q311 : x8_1 < (l0_1.length : Int) := of_decide_eq_true tq_3
            obtain ⟨ad311, e311, hx311_0, hx311_1, hx311_2⟩ := at_T206 HR0_1.out x8_1 p311 q311
            cases e311
            replace hx311_0 := hx_ HB.out hx311_0
            replace hx311_1 := hx_ HB.out hx311_1
            replace hx311_2 := hx_ HB.out hx311_2
            replace p311 := eq_true p311
            replace q311 := eq_true q311
            try go_wp2_with (first | ((with_reducible refine gate_dst (N := 4) rfl ?_); (try (refine gate_guard (by rfl) ?_; dsimp only)); refine box_event ?hg (N := 4) ?hd (cs := #[.int .i64 0, .string (⟨#[]⟩ : ByteArray), .bool false]) (t := 206) ?hr ?_; (case hd => rfl); (case hg => rfl); (case hr => first | (go_simp; done) | (go_simp; rfl)); intro gb312 hg w15 hbox hb; have z_ := p_ (blk_below tq_21 hb) <| p_ (below_step tq_16 hb) <| p_ (hbox) <| p_ (gb_ hg tq_16) <| p_ (gb_ hg tq_16) <| p_ (ltne_ hg (blk_lt tq_21)) <| a_ (gtne_ hg (blk_lt tq_21)); clear BK310 HB; obtain ⟨BK310, HB, BK312, GW312, GE312, NB310_312, NB312_310⟩ := z_; clear hb hbox hg; have hnb16 := NB312_310.out; have hnc16 := NB310_312.out; have hcz17_0 := bc_ BK312.out 0; have hcz17_1 := bc_ BK312.out 1; have hcz17_2 := bc_ BK312.out 2; have hfz17_0 := blk_frozen BK312.out 0; have hfz17_1 := blk_frozen BK312.out 1; have hfz17_2 := blk_frozen BK312.out 2))
            have n0_ : Aside0 ((((w15.setCell ⟨gb312, 0, none⟩ (.int .i64 ((rd_T206 l0_1 x8_1).f0))).setCell ⟨gb312, 1, none⟩ (.string ((rd_T206 l0_1 x8_1).f1))).setCell ⟨gb312, 2, none⟩ (.bool ((rd_T206 l0_1 x8_1).f2))).heap[gb310]? = some (.cells #[.string a0_0, .slice (some ad311) l0_1.length c0_1] 113 (0, 0))) := ⟨tq_19⟩
            have n1_ : Aside0 ((((w15.setCell ⟨gb312, 0, none⟩ (.int .i64 ((rd_T206 l0_1 x8_1).f0))).setCell ⟨gb312, 1, none⟩ (.string ((rd_T206 l0_1 x8_1).f1))).setCell ⟨gb312, 2, none⟩ (.bool ((rd_T206 l0_1 x8_1).f2))).heap[gb312]? = some (.cells #[.int .i64 ((rd_T206 l0_1 x8_1).f0), .string ((rd_T206 l0_1 x8_1).f1), .bool ((rd_T206 l0_1 x8_1).f2)] 206 (0, 0))) := ⟨tq_12⟩
            have n2_ : Aside0 (Below w.heap.size w (((w15.setCell ⟨gb312, 0, none⟩ (.int .i64 ((rd_T206 l0_1 x8_1).f0))).setCell ⟨gb312, 1, none⟩ (.string ((rd_T206 l0_1 x8_1).f1))).setCell ⟨gb312, 2, none⟩ (.bool ((rd_T206 l0_1 x8_1).f2)))) := ⟨tq_26⟩
            (try clear BK310)
            (try clear BK312)
            (try clear HB)
            generalize (((w15.setCell ⟨gb312, 0, none⟩ (.int .i64 ((rd_T206 l0_1 x8_1).f0))).setCell ⟨gb312, 1, none⟩ (.string ((rd_T206 l0_1 x8_1).f1))).setCell ⟨gb312, 2, none⟩ (.bool ((rd_T206 l0_1 x8_1).f2))) = w18 at n0_ n1_ n2_ ⊢
            have BK310 := n0_
            have BK312 := n1_
            have HB := n2_
            clear n0_ n1_ n2_
            have z_ := p_ (blk_drew BK310.out) <| p_ (blk_drew BK312.out) <| a_ (below_drew1 HB.out)
            clear BK310 BK312 HB
            obtain ⟨BK310, BK312, HB⟩ := z_
            have p314 : 0 ≤ ((ji11) : Int) := of_decide_eq_true tq_3
            have q314 : (ji11) < (l0_1.length : Int) := of_decide_eq_true tq_3
            obtain ⟨ad314, e314, hx314_0, hx314_1, hx314_2⟩ := at_T206 HR0_1.out (ji11) p314 q314
            have hw314_2 := hx314_2
            have hw314_1 := hx314_1
            have hw314_0 := hx314_0
            obtain rfl : ad311 = ad314 := (by injection e314)
            replace hx314_0 := hx_ HB.out hx314_0
            replace hx314_1 := hx_ HB.out hx314_1
            replace hx314_2 := hx_ HB.out hx314_2
            replace p314 := eq_true p314
            replace q314 := eq_true q314
            refine start_ (n := 31) (S := fun w' => w'.cell? ⟨gb312, 0, none⟩ = some (.int .i64 ((rd_T206 l0_1 x8_1).f0)) ∧ w'.cell? ⟨gb312, 1, none⟩ = some (.string ((rd_T206 l0_1 x8_1).f1)) ∧ w'.cell? ⟨gb312, 2, none⟩ = some (.bool ((rd_T206 l0_1 x8_1).f2)) ∧ w'.cell? ⟨gb310, 0, none⟩ = some (.string a0_0) ∧ w'.cell? ⟨gb310, 1, none⟩ = some (.slice (some ad311) l0_1.length c0_1) ∧ w'.cell? (ad311.add (((ji11)).toNat * 3)) = some (.int .i64 ((rd_T206 l0_1 (ji11)).f0)) ∧ w'.cell? ⟨(ad311.add (((ji11)).toNat * 3)).block, (ad311.add (((ji11)).toNat * 3)).off + 1, none⟩ = some (.string ((rd_T206 l0_1 (ji11)).f1)) ∧ w'.cell? ⟨(ad311.add (((ji11)).toNat * 3)).block, (ad311.add (((ji11)).toNat * 3)).off + 2, none⟩ = some (.bool ((rd_T206 l0_1 (ji11)).f2))) (ds := []) bq_39 (by kernel_rfl) rfl rfl (bc3_ BK312.out (bc2_ BK310.out ⟨((HB.out.cell (World.block_lt_of_cell? w _ hw314_0)).trans hw314_0), ((HB.out.cell (World.block_lt_of_cell? w _ hw314_1)).trans hw314_1), ((HB.out.cell (World.block_lt_of_cell? w _ hw314_2)).trans hw314_2)⟩)) (fun hHeld => ?_); refine with_tabW impl_MemoryOk.tab4 impl_MemoryOk.bits4 (fun HT_ HW_ => ?_)
            generalize w18.drew = w19 at BK310 BK312 HB hx314_0 hx314_1 hx314_2 hHeld ⊢
            refine yq_ (i := 0) (N := some 13) bq_40 (any_of HT_.out (by kernel_rfl)) ?_
            refine yq_ (i := 2) (N := some 15) bq_41 (any_of HT_.out (by kernel_rfl)) ?_
            refine tk_ (i := 1) (N := some 14) bq_42 (take_ofW HT_.out HW_.out (by kernel_rfl)) hHeld ?_
            refine tk_ (i := 3) (N := some 16) bq_43 (take_ofW HT_.out HW_.out (by kernel_rfl)) hHeld ?_
            refine yq_ (i := 4) (N := some 17) bq_44 (any_of HT_.out (by kernel_rfl)) ?_
            refine yq_ (i := 5) (N := some 18) bq_45 (any_of HT_.out (by kernel_rfl)) ?_
            refine yq_ (i := 6) (N := some 19) bq_46 (any_of HT_.out (by kernel_rfl)) ?_
            refine one_ (i := 7) (N := some 20) bq_47 rfl rfl (one_of HT_.out (by kernel_rfl)) (by decide) (fun K hK => ?_)
            refine goes_ Try.func140 (by kernel_rfl) rfl #[.int .i64 ((rd_T206 l0_1 x8_1).f0), .int .i64 0, .int .i64 (wrap64 ((wrap64 ((a0_0.size : Int) / 16)) - 1))] (by rfl) rfl rfl tq_1 ?_
            with_reducible refine (impl_within.calls ((rd_T206 l0_1 x8_1).f0) 0 (wrap64 ((wrap64 ((a0_0.size : Int) / 16)) - 1)) true _ A7.out).mono ?_
            rintro e w' ⟨rfl, ⟨nd, rfl⟩⟩
            refine ⟨_, rfl, ?_⟩
            refine hK.out _ _ (bc3_ BK312.out (bc2_ BK310.out ⟨((HB.out.cell (World.block_lt_of_cell? w _ hw314_0)).trans hw314_0), ((HB.out.cell (World.block_lt_of_cell? w _ hw314_1)).trans hw314_1), ((HB.out.cell (World.block_lt_of_cell? w _ hw314_2)).trans hw314_2)⟩)) (fun hHeld => ?_)
            clear hK K
            refine nm_ (some 20) ?_
            refine yq_ (i := 8) (N := some 21) bq_48 (any_of HT_.out (by kernel_rfl)) ?_
            refine yq_ (i := 9) (N := some 22) bq_49 (any_of HT_.out (by kernel_rfl)) ?_
            refine yq_ (i := 10) (N := some 23) bq_50 (any_of HT_.out (by kernel_rfl)) ?_
            refine tk_ (i := 11) (N := some 24) bq_51 (take_ofW HT_.out HW_.out (by kernel_rfl)) hHeld ?_
            refine yq_ (i := 12) (N := some 25) bq_52 (any_of HT_.out (by kernel_rfl)) ?_
            refine yq_ (i := 13) (N := some 26) bq_53 (any_of HT_.out (by kernel_rfl)) ?_
            refine yq_ (i := 14) (N := some 27) bq_54 (any_of HT_.out (by kernel_rfl)) ?_
            refine yq_ (i := 15) (N := some 28) bq_55 (any_of HT_.out (by kernel_rfl)) ?_
            refine yq_ (i := 16) (N := some 29) bq_56 (any_of HT_.out (by kernel_rfl)) ?_
            refine yq_ (i := 17) (N := some 30) bq_57 (any_of HT_.out (by kernel_rfl)) ?_
            refine yq_ (i := 18) (N := some 31) bq_58 (any_of HT_.out (by kernel_rfl)) ?_
            refine yq_ (i := 19) (N := some 32) bq_59 (any_of HT_.out (by kernel_rfl)) ?_
            refine yq_ (i := 21) (N := some 34) bq_151 (any_of HT_.out (by kernel_rfl)) ?_
            refine yq_ (i := 23) (N := some 36) bq_152 (any_of HT_.out (by kernel_rfl)) ?_
            refine yq_ (i := 24) (N := some 37) bq_153 (any_of HT_.out (by kernel_rfl)) ?_
            refine tk_ (i := 20) (N := some 33) bq_154 (take_ofW HT_.out HW_.out (by kernel_rfl)) hHeld ?_
            refine tk_ (i := 22) (N := some 35) bq_60 (take_ofW HT_.out HW_.out (by kernel_rfl)) hHeld ?_
            refine yq_ (i := 25) (N := some 38) bq_61 (any_of HT_.out (by kernel_rfl)) ?_
            refine yq_ (i := 26) (N := some 39) bq_62 (any_of HT_.out (by kernel_rfl)) ?_
            refine tk_ (i := 27) (N := some 40) bq_63 (take_ofW HT_.out HW_.out (by kernel_rfl)) hHeld ?_
            refine yq_ (i := 28) (N := some 41) bq_64 (any_of HT_.out (by kernel_rfl)) ?_
            refine yq_ (i := 29) (N := some 42) bq_65 (any_of HT_.out (by kernel_rfl)) ?_
            refine yq_ (i := 30) (N := some 43) bq_66 (any_of HT_.out (by kernel_rfl)) ?_
            refine done_ (done_of HT_.out (by kernel_rfl)) ?_
            try go_wp2
            go_ret
            exact ⟨tq_164, tq_26⟩
           ·rw [if_neg c14] at H
            have c14b0 : decide (((rd_T206 l0_1 x8_1).f0) ≤ ((rd_T206 l0_1 (ji11)).f0)) = false := decide_eq_false c14
            clear c14
            have H' := Aside0.mk H
            clear H
            have p311 : 0 ≤ (x8_1 : Int) := of_decide_eq_true tq_3
            have q311 : x8_1 < (l0_1.length : Int) := of_decide_eq_true tq_3
            obtain ⟨ad311, e311, hx311_0, hx311_1, hx311_2⟩ := at_T206 HR0_1.out x8_1 p311 q311
            cases e311
            replace hx311_0 := hx_ HB.out hx311_0
            replace hx311_1 := hx_ HB.out hx311_1
            replace hx311_2 := hx_ HB.out hx311_2
            replace p311 := eq_true p311
            replace q311 := eq_true q311
            try go_wp2_with (first | ((with_reducible refine gate_dst (N := 4) rfl ?_); (try (refine gate_guard (by rfl) ?_; dsimp only)); refine box_event ?hg (N := 4) ?hd (cs := #[.int .i64 0, .string (⟨#[]⟩ : ByteArray), .bool false]) (t := 206) ?hr ?_; (case hd => rfl); (case hg => rfl); (case hr => first | (go_simp; done) | (go_simp; rfl)); intro gb312 hg w20 hbox hb; have z_ := p_ (blk_below tq_21 hb) <| p_ (below_step tq_16 hb) <| p_ (hbox) <| p_ (gb_ hg tq_16) <| p_ (gb_ hg tq_16) <| p_ (ltne_ hg (blk_lt tq_21)) <| a_ (gtne_ hg (blk_lt tq_21)); clear BK310 HB; obtain ⟨BK310, HB, BK312, GW312, GE312, NB310_312, NB312_310⟩ := z_; clear hb hbox hg; have hnb21 := NB312_310.out; have hnc21 := NB310_312.out; have hcz22_0 := bc_ BK312.out 0; have hcz22_1 := bc_ BK312.out 1; have hcz22_2 := bc_ BK312.out 2; have hfz22_0 := blk_frozen BK312.out 0; have hfz22_1 := blk_frozen BK312.out 1; have hfz22_2 := blk_frozen BK312.out 2))
            have n0_ : Aside0 ((((w20.setCell ⟨gb312, 0, none⟩ (.int .i64 ((rd_T206 l0_1 x8_1).f0))).setCell ⟨gb312, 1, none⟩ (.string ((rd_T206 l0_1 x8_1).f1))).setCell ⟨gb312, 2, none⟩ (.bool ((rd_T206 l0_1 x8_1).f2))).heap[gb310]? = some (.cells #[.string a0_0, .slice (some ad311) l0_1.length c0_1] 113 (0, 0))) := ⟨tq_19⟩
            have n1_ : Aside0 ((((w20.setCell ⟨gb312, 0, none⟩ (.int .i64 ((rd_T206 l0_1 x8_1).f0))).setCell ⟨gb312, 1, none⟩ (.string ((rd_T206 l0_1 x8_1).f1))).setCell ⟨gb312, 2, none⟩ (.bool ((rd_T206 l0_1 x8_1).f2))).heap[gb312]? = some (.cells #[.int .i64 ((rd_T206 l0_1 x8_1).f0), .string ((rd_T206 l0_1 x8_1).f1), .bool ((rd_T206 l0_1 x8_1).f2)] 206 (0, 0))) := ⟨tq_12⟩
            have n2_ : Aside0 (Below w.heap.size w (((w20.setCell ⟨gb312, 0, none⟩ (.int .i64 ((rd_T206 l0_1 x8_1).f0))).setCell ⟨gb312, 1, none⟩ (.string ((rd_T206 l0_1 x8_1).f1))).setCell ⟨gb312, 2, none⟩ (.bool ((rd_T206 l0_1 x8_1).f2)))) := ⟨tq_26⟩
            (try clear BK310)
            (try clear BK312)
            (try clear HB)
            generalize (((w20.setCell ⟨gb312, 0, none⟩ (.int .i64 ((rd_T206 l0_1 x8_1).f0))).setCell ⟨gb312, 1, none⟩ (.string ((rd_T206 l0_1 x8_1).f1))).setCell ⟨gb312, 2, none⟩ (.bool ((rd_T206 l0_1 x8_1).f2))) = w23 at n0_ n1_ n2_ ⊢
            have BK310 := n0_
            have BK312 := n1_
            have HB := n2_
            clear n0_ n1_ n2_
            have z_ := p_ (blk_drew BK310.out) <| p_ (blk_drew BK312.out) <| a_ (below_drew1 HB.out)
            clear BK310 BK312 HB
            obtain ⟨BK310, BK312, HB⟩ := z_
            have p314 : 0 ≤ ((ji11) : Int) := of_decide_eq_true tq_3
            have q314 : (ji11) < (l0_1.length : Int) := of_decide_eq_true tq_3
            obtain ⟨ad314, e314, hx314_0, hx314_1, hx314_2⟩ := at_T206 HR0_1.out (ji11) p314 q314
            have hw314_2 := hx314_2
            have hw314_1 := hx314_1
            have hw314_0 := hx314_0
            obtain rfl : ad311 = ad314 := (by injection e314)
            replace hx314_0 := hx_ HB.out hx314_0
            replace hx314_1 := hx_ HB.out hx314_1
            replace hx314_2 := hx_ HB.out hx314_2
            replace p314 := eq_true p314
            replace q314 := eq_true q314
            refine start_ (n := 31) (S := fun w' => w'.cell? ⟨gb312, 0, none⟩ = some (.int .i64 ((rd_T206 l0_1 x8_1).f0)) ∧ w'.cell? ⟨gb312, 1, none⟩ = some (.string ((rd_T206 l0_1 x8_1).f1)) ∧ w'.cell? ⟨gb312, 2, none⟩ = some (.bool ((rd_T206 l0_1 x8_1).f2)) ∧ w'.cell? ⟨gb310, 0, none⟩ = some (.string a0_0) ∧ w'.cell? ⟨gb310, 1, none⟩ = some (.slice (some ad311) l0_1.length c0_1) ∧ w'.cell? (ad311.add (((ji11)).toNat * 3)) = some (.int .i64 ((rd_T206 l0_1 (ji11)).f0)) ∧ w'.cell? ⟨(ad311.add (((ji11)).toNat * 3)).block, (ad311.add (((ji11)).toNat * 3)).off + 1, none⟩ = some (.string ((rd_T206 l0_1 (ji11)).f1)) ∧ w'.cell? ⟨(ad311.add (((ji11)).toNat * 3)).block, (ad311.add (((ji11)).toNat * 3)).off + 2, none⟩ = some (.bool ((rd_T206 l0_1 (ji11)).f2))) (ds := []) bq_39 (by kernel_rfl) rfl rfl (bc3_ BK312.out (bc2_ BK310.out ⟨((HB.out.cell (World.block_lt_of_cell? w _ hw314_0)).trans hw314_0), ((HB.out.cell (World.block_lt_of_cell? w _ hw314_1)).trans hw314_1), ((HB.out.cell (World.block_lt_of_cell? w _ hw314_2)).trans hw314_2)⟩)) (fun hHeld => ?_); refine with_tabW impl_MemoryOk.tab4 impl_MemoryOk.bits4 (fun HT_ HW_ => ?_)
            generalize w23.drew = w24 at BK310 BK312 HB hx314_0 hx314_1 hx314_2 hHeld ⊢
            refine yq_ (i := 0) (N := some 13) bq_40 (any_of HT_.out (by kernel_rfl)) ?_
            refine yq_ (i := 2) (N := some 15) bq_41 (any_of HT_.out (by kernel_rfl)) ?_
            refine tk_ (i := 1) (N := some 14) bq_42 (take_ofW HT_.out HW_.out (by kernel_rfl)) hHeld ?_
            refine tk_ (i := 3) (N := some 16) bq_43 (take_ofW HT_.out HW_.out (by kernel_rfl)) hHeld ?_
            refine yq_ (i := 4) (N := some 17) bq_44 (any_of HT_.out (by kernel_rfl)) ?_
            refine yq_ (i := 5) (N := some 18) bq_45 (any_of HT_.out (by kernel_rfl)) ?_
            refine yq_ (i := 6) (N := some 19) bq_46 (any_of HT_.out (by kernel_rfl)) ?_
            refine one_ (i := 7) (N := some 20) bq_47 rfl rfl (one_of HT_.out (by kernel_rfl)) (by decide) (fun K hK => ?_)
            refine goes_ Try.func140 (by kernel_rfl) rfl #[.int .i64 ((rd_T206 l0_1 x8_1).f0), .int .i64 0, .int .i64 (wrap64 ((wrap64 ((a0_0.size : Int) / 16)) - 1))] (by rfl) rfl rfl tq_1 ?_
            with_reducible refine (impl_within.calls ((rd_T206 l0_1 x8_1).f0) 0 (wrap64 ((wrap64 ((a0_0.size : Int) / 16)) - 1)) true _ A7.out).mono ?_
            rintro e w' ⟨rfl, ⟨nd, rfl⟩⟩
            refine ⟨_, rfl, ?_⟩
            refine hK.out _ _ (bc3_ BK312.out (bc2_ BK310.out ⟨((HB.out.cell (World.block_lt_of_cell? w _ hw314_0)).trans hw314_0), ((HB.out.cell (World.block_lt_of_cell? w _ hw314_1)).trans hw314_1), ((HB.out.cell (World.block_lt_of_cell? w _ hw314_2)).trans hw314_2)⟩)) (fun hHeld => ?_)
            clear hK K
            refine nm_ (some 20) ?_
            refine yq_ (i := 8) (N := some 21) bq_48 (any_of HT_.out (by kernel_rfl)) ?_
            refine yq_ (i := 9) (N := some 22) bq_49 (any_of HT_.out (by kernel_rfl)) ?_
            refine yq_ (i := 10) (N := some 23) bq_50 (any_of HT_.out (by kernel_rfl)) ?_
            refine tk_ (i := 11) (N := some 24) bq_51 (take_ofW HT_.out HW_.out (by kernel_rfl)) hHeld ?_
            refine yq_ (i := 12) (N := some 25) bq_52 (any_of HT_.out (by kernel_rfl)) ?_
            refine yq_ (i := 13) (N := some 26) bq_53 (any_of HT_.out (by kernel_rfl)) ?_
            refine yq_ (i := 14) (N := some 27) bq_54 (any_of HT_.out (by kernel_rfl)) ?_
            refine yq_ (i := 15) (N := some 28) bq_55 (any_of HT_.out (by kernel_rfl)) ?_
            refine yq_ (i := 16) (N := some 29) bq_56 (any_of HT_.out (by kernel_rfl)) ?_
            refine yq_ (i := 17) (N := some 30) bq_57 (any_of HT_.out (by kernel_rfl)) ?_
            refine yq_ (i := 18) (N := some 31) bq_58 (any_of HT_.out (by kernel_rfl)) ?_
            refine yq_ (i := 19) (N := some 32) bq_59 (any_of HT_.out (by kernel_rfl)) ?_
            refine yq_ (i := 21) (N := some 34) bq_151 (any_of HT_.out (by kernel_rfl)) ?_
            refine yq_ (i := 23) (N := some 36) bq_152 (any_of HT_.out (by kernel_rfl)) ?_
            refine yq_ (i := 24) (N := some 37) bq_153 (any_of HT_.out (by kernel_rfl)) ?_
            refine tk_ (i := 20) (N := some 33) bq_154 (take_ofW HT_.out HW_.out (by kernel_rfl)) hHeld ?_
            refine tk_ (i := 22) (N := some 35) bq_60 (take_ofW HT_.out HW_.out (by kernel_rfl)) hHeld ?_
            refine yq_ (i := 25) (N := some 38) bq_61 (any_of HT_.out (by kernel_rfl)) ?_
            refine yq_ (i := 26) (N := some 39) bq_62 (any_of HT_.out (by kernel_rfl)) ?_
            refine tk_ (i := 27) (N := some 40) bq_63 (take_ofW HT_.out HW_.out (by kernel_rfl)) hHeld ?_
            refine yq_ (i := 28) (N := some 41) bq_64 (any_of HT_.out (by kernel_rfl)) ?_
            refine yq_ (i := 29) (N := some 42) bq_65 (any_of HT_.out (by kernel_rfl)) ?_
            refine yq_ (i := 30) (N := some 43) bq_66 (any_of HT_.out (by kernel_rfl)) ?_
            refine done_ (done_of HT_.out (by kernel_rfl)) ?_
            try go_wp2
            go_roundg k1
            case measure => have := HK1.out; omega
            case rel => exact ⟨(wrap64 (x8_1 + 1)), tq_7, H', ⟨tq_96⟩, ⟨tq_21⟩, ⟨tq_26⟩⟩
          ·rw [if_neg c13] at H
           exact absurd H (by simp)
         ·rw [if_neg c12] at H
          exact absurd H (by simp)
        ·rw [if_neg c10] at H
         have c10b0 : decide (0 < x8_1) = false := decide_eq_false c10
         clear c10
         have H' := Aside0.mk H
         clear H
         have p311 : 0 ≤ (x8_1 : Int) := of_decide_eq_true tq_3
         have q311 : x8_1 < (l0_1.length : Int) := of_decide_eq_true tq_3
         obtain ⟨ad311, e311, hx311_0, hx311_1, hx311_2⟩ := at_T206 HR0_1.out x8_1 p311 q311
         cases e311
         replace hx311_0 := hx_ HB.out hx311_0
         replace hx311_1 := hx_ HB.out hx311_1
         replace hx311_2 := hx_ HB.out hx311_2
         replace p311 := eq_true p311
         replace q311 := eq_true q311
         try go_wp2_with (first | ((with_reducible refine gate_dst (N := 4) rfl ?_); (try (refine gate_guard (by rfl) ?_; dsimp only)); refine box_event ?hg (N := 4) ?hd (cs := #[.int .i64 0, .string (⟨#[]⟩ : ByteArray), .bool false]) (t := 206) ?hr ?_; (case hd => rfl); (case hg => rfl); (case hr => first | (go_simp; done) | (go_simp; rfl)); intro gb312 hg w25 hbox hb; have z_ := p_ (blk_below tq_21 hb) <| p_ (below_step tq_16 hb) <| p_ (hbox) <| p_ (gb_ hg tq_16) <| p_ (gb_ hg tq_16) <| p_ (ltne_ hg (blk_lt tq_21)) <| a_ (gtne_ hg (blk_lt tq_21)); clear BK310 HB; obtain ⟨BK310, HB, BK312, GW312, GE312, NB310_312, NB312_310⟩ := z_; clear hb hbox hg; have hnb26 := NB312_310.out; have hnc26 := NB310_312.out; have hcz27_0 := bc_ BK312.out 0; have hcz27_1 := bc_ BK312.out 1; have hcz27_2 := bc_ BK312.out 2; have hfz27_0 := blk_frozen BK312.out 0; have hfz27_1 := blk_frozen BK312.out 1; have hfz27_2 := blk_frozen BK312.out 2))
         have n0_ : Aside0 ((((w25.setCell ⟨gb312, 0, none⟩ (.int .i64 ((rd_T206 l0_1 x8_1).f0))).setCell ⟨gb312, 1, none⟩ (.string ((rd_T206 l0_1 x8_1).f1))).setCell ⟨gb312, 2, none⟩ (.bool ((rd_T206 l0_1 x8_1).f2))).heap[gb310]? = some (.cells #[.string a0_0, .slice (some ad311) l0_1.length c0_1] 113 (0, 0))) := ⟨tq_19⟩
         have n1_ : Aside0 ((((w25.setCell ⟨gb312, 0, none⟩ (.int .i64 ((rd_T206 l0_1 x8_1).f0))).setCell ⟨gb312, 1, none⟩ (.string ((rd_T206 l0_1 x8_1).f1))).setCell ⟨gb312, 2, none⟩ (.bool ((rd_T206 l0_1 x8_1).f2))).heap[gb312]? = some (.cells #[.int .i64 ((rd_T206 l0_1 x8_1).f0), .string ((rd_T206 l0_1 x8_1).f1), .bool ((rd_T206 l0_1 x8_1).f2)] 206 (0, 0))) := ⟨tq_12⟩
         have n2_ : Aside0 (Below w.heap.size w (((w25.setCell ⟨gb312, 0, none⟩ (.int .i64 ((rd_T206 l0_1 x8_1).f0))).setCell ⟨gb312, 1, none⟩ (.string ((rd_T206 l0_1 x8_1).f1))).setCell ⟨gb312, 2, none⟩ (.bool ((rd_T206 l0_1 x8_1).f2)))) := ⟨tq_26⟩
         (try clear BK310)
         (try clear BK312)
         (try clear HB)
         generalize (((w25.setCell ⟨gb312, 0, none⟩ (.int .i64 ((rd_T206 l0_1 x8_1).f0))).setCell ⟨gb312, 1, none⟩ (.string ((rd_T206 l0_1 x8_1).f1))).setCell ⟨gb312, 2, none⟩ (.bool ((rd_T206 l0_1 x8_1).f2))) = w28 at n0_ n1_ n2_ ⊢
         have BK310 := n0_
         have BK312 := n1_
         have HB := n2_
         clear n0_ n1_ n2_
         have z_ := p_ (blk_drew BK310.out) <| p_ (blk_drew BK312.out) <| a_ (below_drew1 HB.out)
         clear BK310 BK312 HB
         obtain ⟨BK310, BK312, HB⟩ := z_
         refine start_ (n := 31) (S := fun w' => w'.cell? ⟨gb312, 0, none⟩ = some (.int .i64 ((rd_T206 l0_1 x8_1).f0)) ∧ w'.cell? ⟨gb312, 1, none⟩ = some (.string ((rd_T206 l0_1 x8_1).f1)) ∧ w'.cell? ⟨gb312, 2, none⟩ = some (.bool ((rd_T206 l0_1 x8_1).f2)) ∧ w'.cell? ⟨gb310, 0, none⟩ = some (.string a0_0) ∧ w'.cell? ⟨gb310, 1, none⟩ = some (.slice (some ad311) l0_1.length c0_1)) (ds := []) bq_39 (by kernel_rfl) rfl rfl (bc3_ BK312.out (bk2_ BK310.out)) (fun hHeld => ?_); refine with_tabW impl_MemoryOk.tab4 impl_MemoryOk.bits4 (fun HT_ HW_ => ?_)
         generalize w28.drew = w29 at BK310 BK312 HB hHeld ⊢
         refine yq_ (i := 0) (N := some 13) bq_40 (any_of HT_.out (by kernel_rfl)) ?_
         refine yq_ (i := 2) (N := some 15) bq_41 (any_of HT_.out (by kernel_rfl)) ?_
         refine tk_ (i := 1) (N := some 14) bq_42 (take_ofW HT_.out HW_.out (by kernel_rfl)) hHeld ?_
         refine tk_ (i := 3) (N := some 16) bq_43 (take_ofW HT_.out HW_.out (by kernel_rfl)) hHeld ?_
         refine yq_ (i := 4) (N := some 17) bq_44 (any_of HT_.out (by kernel_rfl)) ?_
         refine yq_ (i := 5) (N := some 18) bq_45 (any_of HT_.out (by kernel_rfl)) ?_
         refine yq_ (i := 6) (N := some 19) bq_46 (any_of HT_.out (by kernel_rfl)) ?_
         refine one_ (i := 7) (N := some 20) bq_47 rfl rfl (one_of HT_.out (by kernel_rfl)) (by decide) (fun K hK => ?_)
         refine goes_ Try.func140 (by kernel_rfl) rfl #[.int .i64 ((rd_T206 l0_1 x8_1).f0), .int .i64 0, .int .i64 (wrap64 ((wrap64 ((a0_0.size : Int) / 16)) - 1))] (by rfl) rfl rfl tq_1 ?_
         with_reducible refine (impl_within.calls ((rd_T206 l0_1 x8_1).f0) 0 (wrap64 ((wrap64 ((a0_0.size : Int) / 16)) - 1)) true _ A7.out).mono ?_
         rintro e w' ⟨rfl, ⟨nd, rfl⟩⟩
         refine ⟨_, rfl, ?_⟩
         refine hK.out _ _ (bc3_ BK312.out (bk2_ BK310.out)) (fun hHeld => ?_)
         clear hK K
         refine nm_ (some 20) ?_
         refine yq_ (i := 8) (N := some 21) bq_48 (any_of HT_.out (by kernel_rfl)) ?_
         refine yq_ (i := 9) (N := some 22) bq_49 (any_of HT_.out (by kernel_rfl)) ?_
         refine yq_ (i := 10) (N := some 23) bq_50 (any_of HT_.out (by kernel_rfl)) ?_
         refine tk_ (i := 11) (N := some 24) bq_51 (take_ofW HT_.out HW_.out (by kernel_rfl)) hHeld ?_
         refine yq_ (i := 12) (N := some 25) bq_52 (any_of HT_.out (by kernel_rfl)) ?_
         refine yq_ (i := 13) (N := some 26) bq_53 (any_of HT_.out (by kernel_rfl)) ?_
         refine yq_ (i := 14) (N := some 27) bq_54 (any_of HT_.out (by kernel_rfl)) ?_
         refine yq_ (i := 15) (N := some 28) bq_55 (any_of HT_.out (by kernel_rfl)) ?_
         refine yq_ (i := 16) (N := some 29) bq_56 (any_of HT_.out (by kernel_rfl)) ?_
         refine yq_ (i := 17) (N := some 30) bq_57 (any_of HT_.out (by kernel_rfl)) ?_
         refine yq_ (i := 18) (N := some 31) bq_58 (any_of HT_.out (by kernel_rfl)) ?_
         refine uq_ (i := 19) (N := some 32) bq_59 (any_of HT_.out (by kernel_rfl)) ?_
         refine uq_ (i := 20) (N := some 33) bq_101 (any_of HT_.out (by kernel_rfl)) ?_
         refine uq_ (i := 21) (N := some 34) bq_102 (any_of HT_.out (by kernel_rfl)) ?_
         refine uq_ (i := 22) (N := some 35) bq_103 (any_of HT_.out (by kernel_rfl)) ?_
         refine uq_ (i := 23) (N := some 36) bq_104 (any_of HT_.out (by kernel_rfl)) ?_
         refine uq_ (i := 24) (N := some 37) bq_60 (any_of HT_.out (by kernel_rfl)) ?_
         refine uq_ (i := 25) (N := some 38) bq_61 (any_of HT_.out (by kernel_rfl)) ?_
         refine uq_ (i := 26) (N := some 39) bq_62 (any_of HT_.out (by kernel_rfl)) ?_
         refine uq_ (i := 27) (N := some 40) bq_63 (any_of HT_.out (by kernel_rfl)) ?_
         refine uq_ (i := 28) (N := some 41) bq_64 (any_of HT_.out (by kernel_rfl)) ?_
         refine yq_ (i := 29) (N := some 42) bq_65 (any_of HT_.out (by kernel_rfl)) ?_
         refine yq_ (i := 30) (N := some 43) bq_66 (any_of HT_.out (by kernel_rfl)) ?_
         refine done_ (done_of HT_.out (by kernel_rfl)) ?_
         try go_wp2
         go_roundg k1
         case measure => have := HK1.out; omega
         case rel => exact ⟨(wrap64 (x8_1 + 1)), tq_7, H', ⟨tq_96⟩, ⟨tq_21⟩, ⟨tq_26⟩⟩
       ·rw [if_neg c9] at H
        have c9b0 : ((((rd_T206 l0_1 x8_1).f1).size : Int) == 16) = false := beq_eq_false_iff_ne.mpr c9
        have c9b1 : ((((rd_T206 l0_1 x8_1).f1).size : Int) != 16) = true := bne_iff_ne.mpr c9
        obtain rfl := Option.some.inj H
        have p311 : 0 ≤ (x8_1 : Int) := of_decide_eq_true tq_3
        have q311 : x8_1 < (l0_1.length : Int) := of_decide_eq_true tq_3
        obtain ⟨ad311, e311, hx311_0, hx311_1, hx311_2⟩ := at_T206 HR0_1.out x8_1 p311 q311
        cases e311
        replace hx311_0 := hx_ HB.out hx311_0
        replace hx311_1 := hx_ HB.out hx311_1
        replace hx311_2 := hx_ HB.out hx311_2
        replace p311 := eq_true p311
        replace q311 := eq_true q311
        try go_wp2_with (first | ((with_reducible refine gate_dst (N := 4) rfl ?_); (try (refine gate_guard (by rfl) ?_; dsimp only)); refine box_event ?hg (N := 4) ?hd (cs := #[.int .i64 0, .string (⟨#[]⟩ : ByteArray), .bool false]) (t := 206) ?hr ?_; (case hd => rfl); (case hg => rfl); (case hr => first | (go_simp; done) | (go_simp; rfl)); intro gb312 hg w30 hbox hb; have z_ := p_ (blk_below tq_21 hb) <| p_ (below_step tq_16 hb) <| p_ (hbox) <| p_ (gb_ hg tq_16) <| p_ (gb_ hg tq_16) <| p_ (ltne_ hg (blk_lt tq_21)) <| a_ (gtne_ hg (blk_lt tq_21)); clear BK310 HB; obtain ⟨BK310, HB, BK312, GW312, GE312, NB310_312, NB312_310⟩ := z_; clear hb hbox hg; have hnb31 := NB312_310.out; have hnc31 := NB310_312.out; have hcz32_0 := bc_ BK312.out 0; have hcz32_1 := bc_ BK312.out 1; have hcz32_2 := bc_ BK312.out 2; have hfz32_0 := blk_frozen BK312.out 0; have hfz32_1 := blk_frozen BK312.out 1; have hfz32_2 := blk_frozen BK312.out 2))
        have n0_ : Aside0 ((((w30.setCell ⟨gb312, 0, none⟩ (.int .i64 ((rd_T206 l0_1 x8_1).f0))).setCell ⟨gb312, 1, none⟩ (.string ((rd_T206 l0_1 x8_1).f1))).setCell ⟨gb312, 2, none⟩ (.bool ((rd_T206 l0_1 x8_1).f2))).heap[gb310]? = some (.cells #[.string a0_0, .slice (some ad311) l0_1.length c0_1] 113 (0, 0))) := ⟨tq_19⟩
        have n1_ : Aside0 ((((w30.setCell ⟨gb312, 0, none⟩ (.int .i64 ((rd_T206 l0_1 x8_1).f0))).setCell ⟨gb312, 1, none⟩ (.string ((rd_T206 l0_1 x8_1).f1))).setCell ⟨gb312, 2, none⟩ (.bool ((rd_T206 l0_1 x8_1).f2))).heap[gb312]? = some (.cells #[.int .i64 ((rd_T206 l0_1 x8_1).f0), .string ((rd_T206 l0_1 x8_1).f1), .bool ((rd_T206 l0_1 x8_1).f2)] 206 (0, 0))) := ⟨tq_12⟩
        have n2_ : Aside0 (Below w.heap.size w (((w30.setCell ⟨gb312, 0, none⟩ (.int .i64 ((rd_T206 l0_1 x8_1).f0))).setCell ⟨gb312, 1, none⟩ (.string ((rd_T206 l0_1 x8_1).f1))).setCell ⟨gb312, 2, none⟩ (.bool ((rd_T206 l0_1 x8_1).f2)))) := ⟨tq_26⟩
        (try clear BK310)
        (try clear BK312)
        (try clear HB)
        generalize (((w30.setCell ⟨gb312, 0, none⟩ (.int .i64 ((rd_T206 l0_1 x8_1).f0))).setCell ⟨gb312, 1, none⟩ (.string ((rd_T206 l0_1 x8_1).f1))).setCell ⟨gb312, 2, none⟩ (.bool ((rd_T206 l0_1 x8_1).f2))) = w33 at n0_ n1_ n2_ ⊢
        have BK310 := n0_
        have BK312 := n1_
        have HB := n2_
        clear n0_ n1_ n2_
        have z_ := p_ (blk_drew BK310.out) <| p_ (blk_drew BK312.out) <| a_ (below_drew1 HB.out)
        clear BK310 BK312 HB
        obtain ⟨BK310, BK312, HB⟩ := z_
        refine start_ (n := 31) (S := fun w' => w'.cell? ⟨gb312, 0, none⟩ = some (.int .i64 ((rd_T206 l0_1 x8_1).f0)) ∧ w'.cell? ⟨gb312, 1, none⟩ = some (.string ((rd_T206 l0_1 x8_1).f1)) ∧ w'.cell? ⟨gb312, 2, none⟩ = some (.bool ((rd_T206 l0_1 x8_1).f2)) ∧ w'.cell? ⟨gb310, 0, none⟩ = some (.string a0_0) ∧ w'.cell? ⟨gb310, 1, none⟩ = some (.slice (some ad311) l0_1.length c0_1)) (ds := []) bq_39 (by kernel_rfl) rfl rfl (bc3_ BK312.out (bk2_ BK310.out)) (fun hHeld => ?_); refine with_tabW impl_MemoryOk.tab4 impl_MemoryOk.bits4 (fun HT_ HW_ => ?_)
        generalize w33.drew = w34 at BK310 BK312 HB hHeld ⊢
        refine yq_ (i := 0) (N := some 13) bq_40 (any_of HT_.out (by kernel_rfl)) ?_
        refine yq_ (i := 2) (N := some 15) bq_41 (any_of HT_.out (by kernel_rfl)) ?_
        refine tk_ (i := 1) (N := some 14) bq_42 (take_ofW HT_.out HW_.out (by kernel_rfl)) hHeld ?_
        refine tk_ (i := 3) (N := some 16) bq_43 (take_ofW HT_.out HW_.out (by kernel_rfl)) hHeld ?_
        refine yq_ (i := 4) (N := some 17) bq_44 (any_of HT_.out (by kernel_rfl)) ?_
        refine yq_ (i := 5) (N := some 18) bq_45 (any_of HT_.out (by kernel_rfl)) ?_
        refine yq_ (i := 6) (N := some 19) bq_46 (any_of HT_.out (by kernel_rfl)) ?_
        refine one_ (i := 7) (N := some 20) bq_47 rfl rfl (one_of HT_.out (by kernel_rfl)) (by decide) (fun K hK => ?_)
        refine goes_ Try.func140 (by kernel_rfl) rfl #[.int .i64 ((rd_T206 l0_1 x8_1).f0), .int .i64 0, .int .i64 (wrap64 ((wrap64 ((a0_0.size : Int) / 16)) - 1))] (by rfl) rfl rfl tq_1 ?_
        with_reducible refine (impl_within.calls ((rd_T206 l0_1 x8_1).f0) 0 (wrap64 ((wrap64 ((a0_0.size : Int) / 16)) - 1)) true _ A7.out).mono ?_
        rintro e w' ⟨rfl, ⟨nd, rfl⟩⟩
        refine ⟨_, rfl, ?_⟩
        refine hK.out _ _ (bc3_ BK312.out (bk2_ BK310.out)) (fun hHeld => ?_)
        clear hK K
        refine nm_ (some 20) ?_
        refine yq_ (i := 8) (N := some 21) bq_48 (any_of HT_.out (by kernel_rfl)) ?_
        refine yq_ (i := 9) (N := some 22) bq_49 (any_of HT_.out (by kernel_rfl)) ?_
        refine yq_ (i := 10) (N := some 23) bq_50 (any_of HT_.out (by kernel_rfl)) ?_
        refine tk_ (i := 11) (N := some 24) bq_51 (take_ofW HT_.out HW_.out (by kernel_rfl)) hHeld ?_
        refine yq_ (i := 12) (N := some 25) bq_52 (any_of HT_.out (by kernel_rfl)) ?_
        refine yq_ (i := 13) (N := some 26) bq_53 (any_of HT_.out (by kernel_rfl)) ?_
        refine yq_ (i := 14) (N := some 27) bq_54 (any_of HT_.out (by kernel_rfl)) ?_
        refine yq_ (i := 15) (N := some 28) bq_55 (any_of HT_.out (by kernel_rfl)) ?_
        refine uq_ (i := 16) (N := some 29) bq_56 (any_of HT_.out (by kernel_rfl)) ?_
        refine uq_ (i := 17) (N := some 30) bq_57 (any_of HT_.out (by kernel_rfl)) ?_
        refine uq_ (i := 18) (N := some 31) bq_58 (any_of HT_.out (by kernel_rfl)) ?_
        refine uq_ (i := 19) (N := some 32) bq_59 (any_of HT_.out (by kernel_rfl)) ?_
        refine uq_ (i := 20) (N := some 33) bq_101 (any_of HT_.out (by kernel_rfl)) ?_
        refine uq_ (i := 21) (N := some 34) bq_102 (any_of HT_.out (by kernel_rfl)) ?_
        refine uq_ (i := 22) (N := some 35) bq_103 (any_of HT_.out (by kernel_rfl)) ?_
        refine uq_ (i := 23) (N := some 36) bq_104 (any_of HT_.out (by kernel_rfl)) ?_
        refine uq_ (i := 24) (N := some 37) bq_60 (any_of HT_.out (by kernel_rfl)) ?_
        refine uq_ (i := 25) (N := some 38) bq_61 (any_of HT_.out (by kernel_rfl)) ?_
        refine uq_ (i := 26) (N := some 39) bq_62 (any_of HT_.out (by kernel_rfl)) ?_
        refine uq_ (i := 27) (N := some 40) bq_63 (any_of HT_.out (by kernel_rfl)) ?_
        refine uq_ (i := 28) (N := some 41) bq_64 (any_of HT_.out (by kernel_rfl)) ?_
        refine uq_ (i := 29) (N := some 42) bq_65 (any_of HT_.out (by kernel_rfl)) ?_
        refine yq_ (i := 30) (N := some 43) bq_66 (any_of HT_.out (by kernel_rfl)) ?_
        refine done_ (done_of HT_.out (by kernel_rfl)) ?_
        try go_wp2
        go_ret
        exact ⟨tq_2, tq_26⟩
      ·replace c8 := Bool.eq_false_iff.mpr c8
       subst c8
       have H1 : (some false) = some r := by rw [if_neg (show ¬ (false = true) by decide)] at H; exact H
       clear H
       have H := H1
       clear H1
       obtain rfl := Option.some.inj H
       have p311 : 0 ≤ (x8_1 : Int) := of_decide_eq_true tq_3
       have q311 : x8_1 < (l0_1.length : Int) := of_decide_eq_true tq_3
       obtain ⟨ad311, e311, hx311_0, hx311_1, hx311_2⟩ := at_T206 HR0_1.out x8_1 p311 q311
       cases e311
       replace hx311_0 := hx_ HB.out hx311_0
       replace hx311_1 := hx_ HB.out hx311_1
       replace hx311_2 := hx_ HB.out hx311_2
       replace p311 := eq_true p311
       replace q311 := eq_true q311
       try go_wp2_with (first | ((with_reducible refine gate_dst (N := 4) rfl ?_); (try (refine gate_guard (by rfl) ?_; dsimp only)); refine box_event ?hg (N := 4) ?hd (cs := #[.int .i64 0, .string (⟨#[]⟩ : ByteArray), .bool false]) (t := 206) ?hr ?_; (case hd => rfl); (case hg => rfl); (case hr => first | (go_simp; done) | (go_simp; rfl)); intro gb312 hg w35 hbox hb; have z_ := p_ (blk_below tq_21 hb) <| p_ (below_step tq_16 hb) <| p_ (hbox) <| p_ (gb_ hg tq_16) <| p_ (gb_ hg tq_16) <| p_ (ltne_ hg (blk_lt tq_21)) <| a_ (gtne_ hg (blk_lt tq_21)); clear BK310 HB; obtain ⟨BK310, HB, BK312, GW312, GE312, NB310_312, NB312_310⟩ := z_; clear hb hbox hg; have hnb36 := NB312_310.out; have hnc36 := NB310_312.out; have hcz37_0 := bc_ BK312.out 0; have hcz37_1 := bc_ BK312.out 1; have hcz37_2 := bc_ BK312.out 2; have hfz37_0 := blk_frozen BK312.out 0; have hfz37_1 := blk_frozen BK312.out 1; have hfz37_2 := blk_frozen BK312.out 2))
       have n0_ : Aside0 ((((w35.setCell ⟨gb312, 0, none⟩ (.int .i64 ((rd_T206 l0_1 x8_1).f0))).setCell ⟨gb312, 1, none⟩ (.string ((rd_T206 l0_1 x8_1).f1))).setCell ⟨gb312, 2, none⟩ (.bool ((rd_T206 l0_1 x8_1).f2))).heap[gb310]? = some (.cells #[.string a0_0, .slice (some ad311) l0_1.length c0_1] 113 (0, 0))) := ⟨tq_19⟩
       have n1_ : Aside0 ((((w35.setCell ⟨gb312, 0, none⟩ (.int .i64 ((rd_T206 l0_1 x8_1).f0))).setCell ⟨gb312, 1, none⟩ (.string ((rd_T206 l0_1 x8_1).f1))).setCell ⟨gb312, 2, none⟩ (.bool ((rd_T206 l0_1 x8_1).f2))).heap[gb312]? = some (.cells #[.int .i64 ((rd_T206 l0_1 x8_1).f0), .string ((rd_T206 l0_1 x8_1).f1), .bool ((rd_T206 l0_1 x8_1).f2)] 206 (0, 0))) := ⟨tq_12⟩
       have n2_ : Aside0 (Below w.heap.size w (((w35.setCell ⟨gb312, 0, none⟩ (.int .i64 ((rd_T206 l0_1 x8_1).f0))).setCell ⟨gb312, 1, none⟩ (.string ((rd_T206 l0_1 x8_1).f1))).setCell ⟨gb312, 2, none⟩ (.bool ((rd_T206 l0_1 x8_1).f2)))) := ⟨tq_26⟩
       (try clear BK310)
       (try clear BK312)
       (try clear HB)
       generalize (((w35.setCell ⟨gb312, 0, none⟩ (.int .i64 ((rd_T206 l0_1 x8_1).f0))).setCell ⟨gb312, 1, none⟩ (.string ((rd_T206 l0_1 x8_1).f1))).setCell ⟨gb312, 2, none⟩ (.bool ((rd_T206 l0_1 x8_1).f2))) = w38 at n0_ n1_ n2_ ⊢
       have BK310 := n0_
       have BK312 := n1_
       have HB := n2_
       clear n0_ n1_ n2_
       have z_ := p_ (blk_drew BK310.out) <| p_ (blk_drew BK312.out) <| a_ (below_drew1 HB.out)
       clear BK310 BK312 HB
       obtain ⟨BK310, BK312, HB⟩ := z_
       refine start_ (n := 31) (S := fun w' => w'.cell? ⟨gb312, 0, none⟩ = some (.int .i64 ((rd_T206 l0_1 x8_1).f0)) ∧ w'.cell? ⟨gb312, 1, none⟩ = some (.string ((rd_T206 l0_1 x8_1).f1)) ∧ w'.cell? ⟨gb312, 2, none⟩ = some (.bool ((rd_T206 l0_1 x8_1).f2)) ∧ w'.cell? ⟨gb310, 0, none⟩ = some (.string a0_0) ∧ w'.cell? ⟨gb310, 1, none⟩ = some (.slice (some ad311) l0_1.length c0_1)) (ds := []) bq_39 (by kernel_rfl) rfl rfl (bc3_ BK312.out (bk2_ BK310.out)) (fun hHeld => ?_); refine with_tabW impl_MemoryOk.tab4 impl_MemoryOk.bits4 (fun HT_ HW_ => ?_)
       generalize w38.drew = w39 at BK310 BK312 HB hHeld ⊢
       refine yq_ (i := 0) (N := some 13) bq_40 (any_of HT_.out (by kernel_rfl)) ?_
       refine yq_ (i := 2) (N := some 15) bq_41 (any_of HT_.out (by kernel_rfl)) ?_
       refine tk_ (i := 1) (N := some 14) bq_42 (take_ofW HT_.out HW_.out (by kernel_rfl)) hHeld ?_
       refine tk_ (i := 3) (N := some 16) bq_43 (take_ofW HT_.out HW_.out (by kernel_rfl)) hHeld ?_
       refine yq_ (i := 4) (N := some 17) bq_44 (any_of HT_.out (by kernel_rfl)) ?_
       refine yq_ (i := 5) (N := some 18) bq_45 (any_of HT_.out (by kernel_rfl)) ?_
       refine yq_ (i := 6) (N := some 19) bq_46 (any_of HT_.out (by kernel_rfl)) ?_
       refine one_ (i := 7) (N := some 20) bq_47 rfl rfl (one_of HT_.out (by kernel_rfl)) (by decide) (fun K hK => ?_)
       refine goes_ Try.func140 (by kernel_rfl) rfl #[.int .i64 ((rd_T206 l0_1 x8_1).f0), .int .i64 0, .int .i64 (wrap64 ((wrap64 ((a0_0.size : Int) / 16)) - 1))] (by rfl) rfl rfl tq_1 ?_
       with_reducible refine (impl_within.calls ((rd_T206 l0_1 x8_1).f0) 0 (wrap64 ((wrap64 ((a0_0.size : Int) / 16)) - 1)) false _ A7.out).mono ?_
       rintro e w' ⟨rfl, ⟨nd, rfl⟩⟩
       refine ⟨_, rfl, ?_⟩
       refine hK.out _ _ (bc3_ BK312.out (bk2_ BK310.out)) (fun hHeld => ?_)
       clear hK K
       refine nm_ (some 20) ?_
       refine yq_ (i := 8) (N := some 21) bq_48 (any_of HT_.out (by kernel_rfl)) ?_
       refine yq_ (i := 9) (N := some 22) bq_49 (any_of HT_.out (by kernel_rfl)) ?_
       refine uq_ (i := 10) (N := some 23) bq_50 (any_of HT_.out (by kernel_rfl)) ?_
       refine uq_ (i := 11) (N := some 24) bq_51 (any_of HT_.out (by kernel_rfl)) ?_
       refine uq_ (i := 12) (N := some 25) bq_52 (any_of HT_.out (by kernel_rfl)) ?_
       refine uq_ (i := 13) (N := some 26) bq_53 (any_of HT_.out (by kernel_rfl)) ?_
       refine yq_ (i := 14) (N := some 27) bq_54 (any_of HT_.out (by kernel_rfl)) ?_
       refine yq_ (i := 15) (N := some 28) bq_55 (any_of HT_.out (by kernel_rfl)) ?_
       refine uq_ (i := 16) (N := some 29) bq_56 (any_of HT_.out (by kernel_rfl)) ?_
       refine uq_ (i := 17) (N := some 30) bq_57 (any_of HT_.out (by kernel_rfl)) ?_
       refine uq_ (i := 18) (N := some 31) bq_58 (any_of HT_.out (by kernel_rfl)) ?_
       refine uq_ (i := 19) (N := some 32) bq_59 (any_of HT_.out (by kernel_rfl)) ?_
       refine uq_ (i := 20) (N := some 33) bq_101 (any_of HT_.out (by kernel_rfl)) ?_
       refine uq_ (i := 21) (N := some 34) bq_102 (any_of HT_.out (by kernel_rfl)) ?_
       refine uq_ (i := 22) (N := some 35) bq_103 (any_of HT_.out (by kernel_rfl)) ?_
       refine uq_ (i := 23) (N := some 36) bq_104 (any_of HT_.out (by kernel_rfl)) ?_
       refine uq_ (i := 24) (N := some 37) bq_60 (any_of HT_.out (by kernel_rfl)) ?_
       refine uq_ (i := 25) (N := some 38) bq_61 (any_of HT_.out (by kernel_rfl)) ?_
       refine uq_ (i := 26) (N := some 39) bq_62 (any_of HT_.out (by kernel_rfl)) ?_
       refine uq_ (i := 27) (N := some 40) bq_63 (any_of HT_.out (by kernel_rfl)) ?_
       refine uq_ (i := 28) (N := some 41) bq_64 (any_of HT_.out (by kernel_rfl)) ?_
       refine uq_ (i := 29) (N := some 42) bq_65 (any_of HT_.out (by kernel_rfl)) ?_
       refine yq_ (i := 30) (N := some 43) bq_66 (any_of HT_.out (by kernel_rfl)) ?_
       refine done_ (done_of HT_.out (by kernel_rfl)) ?_
       try go_wp2
       go_ret
       exact ⟨tq_2, tq_26⟩
     ·rw [if_neg c6] at H
      exact absurd H (by simp)
    ·rw [if_neg c5] at H
     exact absurd H (by simp)
   ·rw [if_neg c4] at H
    have c4b0 : decide (x8_1 < (l0_1.length : Int)) = false := decide_eq_false c4
    clear c4
    by_cases c40 : ((a0_0.size : Int) % 16) = 0
    ·rw [if_pos c40] at H
     have c40b0 : (((a0_0.size : Int) % 16) == 0) = true := beq_iff_eq.mpr c40
     have c40b0t : ((Int.tmod (a0_0.size : Int) 16) == 0) = true := by rw [Int.tmod_eq_emod_of_nonneg (by omega)]; exact c40b0
     have c40b1 : (((a0_0.size : Int) % 16) != 0) = false := bne_eq_false_iff_eq.mpr c40
     have c40b1t : ((Int.tmod (a0_0.size : Int) 16) != 0) = false := by rw [Int.tmod_eq_emod_of_nonneg (by omega)]; exact c40b1
     clear c40
     obtain rfl := Option.some.inj H
     have hcz41_0 := bc_ BK310.out 0
     have hcz41_1 := bc_ BK310.out 1
     have hfz41_0 := blk_frozen BK310.out 0
     have hfz41_1 := blk_frozen BK310.out 1
     go_wp2
     go_ret
     exact ⟨tq_2, tq_16⟩
    ·rw [if_neg c40] at H
     have c40b0 : (((a0_0.size : Int) % 16) == 0) = false := beq_eq_false_iff_ne.mpr c40
     have c40b0t : ((Int.tmod (a0_0.size : Int) 16) == 0) = false := by rw [Int.tmod_eq_emod_of_nonneg (by omega)]; exact c40b0
     have c40b1 : (((a0_0.size : Int) % 16) != 0) = true := bne_iff_ne.mpr c40
     have c40b1t : ((Int.tmod (a0_0.size : Int) 16) != 0) = true := by rw [Int.tmod_eq_emod_of_nonneg (by omega)]; exact c40b1
     obtain rfl := Option.some.inj H
     have hcz42_0 := bc_ BK310.out 0
     have hcz42_1 := bc_ BK310.out 1
     have hfz42_0 := blk_frozen BK310.out 0
     have hfz42_1 := blk_frozen BK310.out 1
     go_wp2
     go_ret
     exact ⟨tq_2, tq_16⟩

end Go.Proofs.Ytcdnfkoahajhhaa.PFnExactCleanOk
