/- Contracts of Go functions, written by a program of ours over the print of the kit: each says that the call returns what the Lean function beside it computes. Conditions: as each theorem states them. -/
import Derived.Test.YtljnnmpfeningaaPkFnViews
import Derived.Test.YtljnnmpfeningaaPFnViewsx0
import Derived.Test.YtljnnmpfeningaaPFnViewsx2
namespace Go.Proofs.Ytljnnmpfeningaa.PFnViews
open Go.RowKit Go.Proofs.YtljnnmpfeningaaW.PrintWords Go.Proofs.YtljnnmpfeningaaW.PrintLast Go.Proofs.YtljnnmpfeningaaW.PrintMore
attribute [local go_sem] max2_int min2_int max_two min_two max_three min_three max_four min_four   -- for this text's walks alone
set_option linter.unusedVariables false
set_option linter.unusedSimpArgs false

/-! ### spec_DropItem: function 18 -/
def spec_DropItem.l0 : Nat → ByteArray → Int → List (S44) → List (S44) → Option ((List (S44)))
 | 0, _, _, _, _ => none
 | k + 1, x1, x6, x126000, x128000 => if x6 < (x126000.length : Int) then (if 0 ≤ x6 then (if ((rd_T44 x126000 x6).f0).toList = x1.toList then (spec_DropItem.l0 k x1 (wrap64 (x6 + 1)) x126000 x128000) else (if x128000.length < 3518437208883 then (spec_DropItem.l0 k x1 (wrap64 (x6 + 1)) x126000 (x128000 ++ [(⟨(rd_T44 x126000 x6).f0, (rd_T44 x126000 x6).f1, (rd_T44 x126000 x6).f2⟩ : S44)])) else (none))) else (none)) else (some x128000)
def spec_DropItem.f (k : Nat) (l0_0 : List (S44)) (a1 : ByteArray) : Option ((List (S44))) := spec_DropItem.l0 k a1 0 l0_0 ([] : List (S44))
theorem spec_DropItem.mono_l : ∀ k, (∀ y0 y1 y2 y3, LeO (spec_DropItem.l0 k y0 y1 y2 y3) (spec_DropItem.l0 (k + 1) y0 y1 y2 y3))
 | 0 => fun _ _ _ _ r h => by simp [spec_DropItem.l0] at h
 | k + 1 => by
  have ih0 := spec_DropItem.mono_l k
  ·intro y0 y1 y2 y3
   unfold spec_DropItem.l0
   exact mo_0
theorem spec_DropItem.mono : ∀ a0 a1 k, LeO (spec_DropItem.f k a0 a1) (spec_DropItem.f (k + 1) a0 a1) := by
 intro a0 a1 k
 have ih0 := spec_DropItem.mono_l k
 unfold spec_DropItem.f
 repeat' first
   | (with_reducible exact ih0 ..)
   | (with_reducible exact LeO.refl _)
   | (with_reducible exact LeO.none _)
   | (with_reducible refine LeO.ite ?_ ?_)
   | (with_reducible refine LeO.bind ?_ (fun _ => ?_))
   | exact ih0 ..
   | exact LeO.none _
   | refine LeO.ite ?_ ?_
   | refine LeO.bind ?_ (fun _ => ?_)
def spec_DropItem.T6 : Bool × List (List Nat × List Nat) := (true, [([], []), ([0], [0]), ([], []), ([2], [2]), ([], []), ([3, 4], [3, 4]), ([5], [5]), ([6], [6]), ([1, 7], [1, 7]), ([0, 1, 2, 3, 4, 5, 6, 7, 8], []), ([9, 8, 8, 0, 1, 2, 3, 4, 5, 6, 7, 8], [8, 9])])
def spec_DropItem.B6 : List Nat := [0, 1, 0, 4, 0, 28, 60, 124, 255, 511, 1023]
theorem spec_DropItem.tab6 : rtab .any (opsOf Try.f18 6) = spec_DropItem.T6 := by kernel_rfl
theorem spec_DropItem.bits6 : waitsOk spec_DropItem.T6.2 spec_DropItem.B6 = true := by kernel_rfl
set_option maxHeartbeats 8000000 in
set_option maxRecDepth 100000 in
theorem spec_DropItem.calls (k : Nat) (A0_0 : Option Addr) (c0_0 : Nat) (l0_0 : List (S44)) (a1 : ByteArray) (r : List (S44)) (w : World) (hr0_0 : Kd.C k44 w A0_0 l0_0.length l0_0) (hc0_0 : l0_0.length ≤ c0_0) (h : spec_DropItem.f k l0_0 a1 = some r) :
  Calls Try.prog 18 #[.agg #[.slice A0_0 l0_0.length c0_0], .string a1] w fun e w' => ∃ v0_ : Value, e = .returned (.agg #[v0_]) ∧ Kd.R k44 44 w' w.heap.size (fun _ => True) v0_ r ∧ Below w.heap.size w w' := by
 have hu42 := Try.underlying42
 have hu44 := Try.underlying44
 have HR0_0 := Aside0.mk hr0_0
 have HC0_0 := Aside0.mk hc0_0
 clear hr0_0 hc0_0
 have HB := Aside0.mk (Below.refl w.heap.size w)
 unfold spec_DropItem.f at h
 have H := h
 clear h
 have H' := Aside0.mk H
 clear H
 go_enter Try.func18, Try.ntmps18
 go_wp2_with (first | ((with_reducible refine gate_dst (N := 2) rfl ?_); refine be_ 2 (cs := #[.slice A0_0 l0_0.length c0_0]) 42 ?_; intro gb125 hg w3 hbox hb; have z_ := bx0_ th_ hb hbox hg; clear HB; obtain ⟨HB, BK125, GW125, GE125⟩ := z_; clear hb hbox hg) | ((with_reducible refine gate_dst (N := 4) rfl ?_); refine be_ 4 (cs := #[.slice none 0 0]) 42 ?_; intro gb126 hg w4 hbox hb; have z_ := bx1_ (kb_ BK125) th_ hb hbox hg; clear BK125 HB; obtain ⟨BK125, HB, BK126, GW126, GE126, NB125_126, NB126_125⟩ := z_; clear hb hbox hg) | ((with_reducible refine gate_dst (N := 5) rfl ?_); refine be_ 5 (cs := #[.slice none 0 0]) 42 ?_; intro gb127 hg w5 hbox hb; have z_ := bx2_ (kb_ BK125) (kb_ BK126) th_ hb hbox hg; clear BK125 BK126 HB; obtain ⟨BK125, BK126, HB, BK127, GW127, GE127, NB125_127, NB127_125, NB126_127, NB127_126⟩ := z_; clear hb hbox hg; obtain ⟨n127_125, n125_127, hnb7, hnc7⟩ := an4_ NB127_125 NB125_127 NB127_126 NB126_127; have hcz8_0 := bc_ BK127.out 0; have hfz8_0 := blk_frozen BK127.out 0))
 go_loopg [6] k (fun kq v6 w' => ∃ (x6_1 : Int) (x128000_1 : List (S44)) (u128000 : Value), v6 = .int .i64 x6_1 ∧ Aside0 (spec_DropItem.l0 kq a1 x6_1 l0_0 x128000_1 = some r) ∧ Aside0 (kq ≤ k) ∧ Aside0 (Kd.R k44 44 w' w.heap.size (fun _ => True) u128000 x128000_1) ∧ Aside0 (w'.heap[gb125]? = some (.cells #[(.slice A0_0 l0_0.length c0_0)] 42 (0, 0))) ∧ Aside0 (w'.heap[gb126]? = some (.cells #[(.slice none 0 0)] 42 (0, 0))) ∧ Aside0 (w'.heap[gb127]? = some (.cells #[u128000] 42 (0, 0))) ∧ Aside0 (Below w.heap.size w w'))
 case atStart => exact ⟨(0), (([] : List (S44))), (.slice none 0 0), tq_5, H', ⟨Nat.le_refl _⟩, ⟨tq_22⟩, ⟨tb_⟩, ⟨tb_⟩, ⟨tb_⟩, ⟨th_⟩⟩
 case round =>
 clear H'
 try clear c1; try clear p2; try clear c6; try clear c7; try clear hcz8_0 hfz8_0
 obtain ⟨x6_1, x128000_1, u128000, rfl, HA, HK1, HO_128000, BK125, BK126, BK127, HB⟩ := hrel
 cases gk with
 | zero => exact absurd HA.out (by simp [spec_DropItem.l0])
 | succ k1 =>
 have H := HA.out
 clear HA
 simp only [spec_DropItem.l0] at H
 by_cases c9 : x6_1 < (l0_0.length : Int)
 rotate_left
 ·rw [if_neg c9] at H
  have c9b0 := decide_eq_false c9
  clear c9
  obtain rfl := Option.some.inj H
  obtain ⟨n125_126, n126_125⟩ := an2_ NB125_126 NB126_125
  have hcz25_0 := bc_ BK125.out 0
  have hfz25_0 := blk_frozen BK125.out 0
  obtain ⟨n127_126, n126_127⟩ := an2_ NB127_126 NB126_127
  have hcz27_0 := bc_ BK127.out 0
  have hfz27_0 := blk_frozen BK127.out 0
  obtain ⟨Ao28, co28, eo28⟩ := Kd.R_slice HO_128000.out
  subst eo28
  have hcz29_0 := bc_ BK126.out 0
  have hfz29_0 := blk_frozen BK126.out 0
  go_wp2
  refine bodyPost_ret (results_cell_row rfl _ _ gb126 42 #[.slice Ao28 x128000_1.length co28] (0, 0) _ rfl tb_ Try.underlying42 rfl (by kernel_rfl)) rfl ?_
  exact ⟨_, tq_1, (by (with_reducible repeat (first | apply Kd.R_alloc | apply Kd.R_drewN | apply Kd.R_drew)); exact Kd.R_mono (rR_ (Kd.R_types HO_128000.out BK126.out (by decide))) (fun _ hk => trivial)), th_⟩
 rw [if_pos c9] at H
 have c9b0 := decide_eq_true c9
 clear c9
 obtain ⟨c10, H⟩ := fc_ H
 have c10b0 := decide_eq_true c10
 clear c10
 by_cases c11 : ((rd_T44 l0_0 x6_1).f0).toList = a1.toList
 ·rw [if_pos c11] at H
  have c11b0 := beq_iff_eq.mpr c11
  have c11b1 := bne_eq_false_iff_eq.mpr c11
  clear c11
  have H' := Aside0.mk H
  clear H
  obtain ⟨n125_126, n126_125⟩ := an2_ NB125_126 NB126_125
  have hcz14_0 := bc_ BK125.out 0
  have hfz14_0 := blk_frozen BK125.out 0
  have p128 : 0 ≤ (x6_1 : Int) := of_decide_eq_true tq_3
  have q128 : x6_1 < (l0_0.length : Int) := of_decide_eq_true tq_3
  obtain ⟨ad128, e128, hx128_0, hx128_1, hx128_2⟩ := at_T44 HR0_0.out x6_1 p128 q128
  cases e128
  replace hx128_0 := hx_ HB.out hx128_0
  replace hx128_1 := hx_ HB.out hx128_1
  replace hx128_2 := hx_ HB.out hx128_2
  replace p128 := eq_true p128
  replace q128 := eq_true q128
  go_wp2
  go_roundg k1
  case measure => have := HK1.out; omega
  case rel => exact ⟨(wrap64 (x6_1 + 1)), (x128000_1), (u128000), tq_5, H', ⟨tq_79⟩, ⟨(raR_ HO_128000)⟩, ⟨(kb_ BK125)⟩, ⟨(kb_ BK126)⟩, ⟨(kb_ BK127)⟩, ⟨th_⟩⟩
 rw [if_neg c11] at H
 have c11b0 := beq_eq_false_iff_ne.mpr c11
 have c11b1 := bne_iff_ne.mpr c11
 obtain ⟨c15, H⟩ := fc_ H
 have LMc15 := Aside0.mk c15
 clear c15
 obtain ⟨y130, hy130⟩ : ∃ y_ : List (S44), y_ = (x128000_1 ++ [(⟨(rd_T44 l0_0 x6_1).f0, (rd_T44 l0_0 x6_1).f1, (rd_T44 l0_0 x6_1).f2⟩ : S44)]) := ⟨_, rfl⟩
 replace H : (spec_DropItem.l0 k1 a1 (wrap64 (x6_1 + 1)) l0_0 y130) = some r := by first | (rw [hy130]; with_reducible exact H) | (have H2_ := (Option.bind_some _ _).symm.trans H; rw [hy130]; with_reducible exact H2_) | (have H2_ := (Option.bind_some _ _).symm.trans H; with_reducible exact H2_) | with_reducible exact H | (rw [hy130]; exact H) | exact H
 have Ny130 := Aside0.mk hy130
 clear hy130
 have H' := Aside0.mk H
 clear H
 obtain ⟨n125_126, n126_125⟩ := an2_ NB125_126 NB126_125
 have hcz18_0 := bc_ BK125.out 0
 have hfz18_0 := blk_frozen BK125.out 0
 have p128 : 0 ≤ (x6_1 : Int) := of_decide_eq_true tq_3
 have q128 : x6_1 < (l0_0.length : Int) := of_decide_eq_true tq_3
 obtain ⟨ad128, e128, hx128_0, hx128_1, hx128_2⟩ := at_T44 HR0_0.out x6_1 p128 q128
 cases e128
 replace hx128_0 := hx_ HB.out hx128_0
 replace hx128_1 := hx_ HB.out hx128_1
 replace hx128_2 := hx_ HB.out hx128_2
 replace p128 := eq_true p128
 replace q128 := eq_true q128
 try go_wp2
 have z_ := p_ (Kd.R_drew HO_128000.out) <| dw3_ BK125 BK126 BK127 HB
 clear HO_128000 BK125 BK126 BK127 HB
 obtain ⟨HO_128000, BK125, BK126, BK127, HB⟩ := z_
 have p129 : 0 ≤ (x6_1 : Int) := of_decide_eq_true tq_3
 have q129 : x6_1 < (l0_0.length : Int) := of_decide_eq_true tq_3
 obtain ⟨ad129, e129, hx129_0, hx129_1, hx129_2⟩ := at_T44 HR0_0.out x6_1 p129 q129
 have hw129_2 := hx129_2
 have hw129_1 := hx129_1
 have hw129_0 := hx129_0
 obtain rfl : ad128 = ad129 := (by injection e129)
 replace hx129_0 := hx_ HB.out hx129_0
 replace hx129_1 := hx_ HB.out hx129_1
 replace hx129_2 := hx_ HB.out hx129_2
 replace p129 := eq_true p129
 replace q129 := eq_true q129
 refine start_ (n := 11) (S := fun w' => w'.cell? ⟨gb127, 0, none⟩ = some (u128000) ∧ w'.cell? ⟨gb125, 0, none⟩ = some (.slice (some ad128) l0_0.length c0_0) ∧ w'.cell? (ad128.add ((x6_1).toNat * 3)) = some (.string ((rd_T44 l0_0 x6_1).f0)) ∧ w'.cell? ⟨(ad128.add ((x6_1).toNat * 3)).block, (ad128.add ((x6_1).toNat * 3)).off + 1, none⟩ = some (.bool ((rd_T44 l0_0 x6_1).f1)) ∧ w'.cell? ⟨(ad128.add ((x6_1).toNat * 3)).block, (ad128.add ((x6_1).toNat * 3)).off + 2, none⟩ = some (.string ((rd_T44 l0_0 x6_1).f2))) (ds := [10]) bq_45 (by kernel_rfl) rfl rfl ⟨(blk_cell BK127.out 0).trans rfl, (blk_cell BK125.out 0).trans rfl, ((HB.out.cell (World.block_lt_of_cell? w _ hw129_0)).trans hw129_0), ((HB.out.cell (World.block_lt_of_cell? w _ hw129_1)).trans hw129_1), ((HB.out.cell (World.block_lt_of_cell? w _ hw129_2)).trans hw129_2)⟩ (fun hHeld => ?_); refine with_tabW spec_DropItem.tab6 spec_DropItem.bits6 (fun HT_ HW_ => ?_)
 generalize wr.drew = w19 at HO_128000 BK125 BK126 BK127 HB hx129_0 hx129_1 hx129_2 hHeld ⊢
 refine yr_ 0 23 bq_69 HT_ ?_
 refine yr_ 2 25 bq_70 HT_ ?_
 refine yr_ 4 27 bq_71 HT_ ?_
 refine tr_ 1 24 bq_72 HT_ HW_ hHeld ?_
 refine tr_ 3 26 bq_46 HT_ HW_ hHeld ?_
 refine yr_ 5 28 bq_47 HT_ ?_
 refine tr_ 6 29 bq_48 HT_ HW_ hHeld ?_
 refine one_ (i := 7) (N := some 30) bq_49 rfl rfl (one_of HT_.out (by kernel_rfl)) (by decide) (fun K hK => ?_)
 refine value_ (w1 := ?_) (v := ?_) (by rfl) rfl ?_ ?_
 rotate_left 2
 ·go_simp
  constructor
  ·rfl
  ·rfl
 refine hK.out _ _ ⟨(blk_cell (blk_alloc BK127.out _) 0).trans rfl, (blk_cell (blk_alloc BK125.out _) 0).trans rfl, (World.cell?_alloc_lt _ _ _ (World.block_lt_of_cell? _ _ (((HB.out.cell (World.block_lt_of_cell? w _ hw129_0)).trans hw129_0)))).trans (((HB.out.cell (World.block_lt_of_cell? w _ hw129_0)).trans hw129_0)), (World.cell?_alloc_lt _ _ _ (World.block_lt_of_cell? _ _ (((HB.out.cell (World.block_lt_of_cell? w _ hw129_1)).trans hw129_1)))).trans (((HB.out.cell (World.block_lt_of_cell? w _ hw129_1)).trans hw129_1)), (World.cell?_alloc_lt _ _ _ (World.block_lt_of_cell? _ _ (((HB.out.cell (World.block_lt_of_cell? w _ hw129_2)).trans hw129_2)))).trans (((HB.out.cell (World.block_lt_of_cell? w _ hw129_2)).trans hw129_2))⟩ (fun hHeld => ?_)
 clear hK K
 refine nm_ (some 30) ?_
 refine one_ (i := 8) (N := some 31) bq_50 rfl rfl (one_of HT_.out (by kernel_rfl)) (by decide) (fun K hK => ?_)
 refine Kd.R_append_step k44 (w0 := w) w.heap.size (by rfl) (.tmp 24) (.tmp 30) 40 44 (.agg #[(.string ⟨#[]⟩), (.bool false), (.string ⟨#[]⟩)]) 40 rfl Try.underlying40 info44 rfl (by decide) (by omega) u128000 x128000_1 (⟨(rd_T44 l0_0 x6_1).f0, (rd_T44 l0_0 x6_1).f1, (rd_T44 l0_0 x6_1).f2⟩ : S44) [.string ((rd_T44 l0_0 x6_1).f0), .bool ((rd_T44 l0_0 x6_1).f1), .string ((rd_T44 l0_0 x6_1).f2)] (fun _ => True) (fun _ => False) rfl rfl ?aP (fun _ hk => hk.elim) ?aF ?aO ?aB ?aS ?aL ?_
 (case aP => exact k44_mkM _ _ _ (⟨(rd_T44 l0_0 x6_1).f0, (rd_T44 l0_0 x6_1).f1, (rd_T44 l0_0 x6_1).f2⟩ : S44))
 (case aB => exact th_)
 (case aF => exact (fun _ _ => trivial))
 (case aO => exact (raR_ HO_128000))
 (case aS => exact (below_size th_))
 (case aL => have := LMc15.out; omega)
 intro v131 w20 ho hb hg hat
 rw [← Ny130.out] at ho
 have z_ := p_ (blk_grown (g := gb125) (o := .cells #[.slice (some ad128) l0_0.length c0_0] 42 (0, 0)) (kb_ BK125) hg (Kd.R_ne HO_128000.out BK125.out (by decide))) <| p_ (blk_grown (g := gb126) (o := .cells #[.slice none 0 0] 42 (0, 0)) (kb_ BK126) hg (Kd.R_ne HO_128000.out BK126.out (by decide))) <| p_ (blk_grown (g := gb127) (o := .cells #[u128000] 42 (0, 0)) (kb_ BK127) hg (Kd.R_ne HO_128000.out BK127.out (by decide))) <| p_ (hb) <| a_ (ho)
 clear BK125 BK126 BK127 HB HO_128000
 obtain ⟨BK125, BK126, BK127, HB, HO132⟩ := z_
 clear ho hb hg hat
 obtain ⟨Ao21, co21, eo21⟩ := Kd.R_slice HO132.out
 (first | subst eo21 | (injection eo21 with f1_ f2_ f3_; have f4_ := f1_.symm; have f5_ := f3_.symm; clear f1_ f2_ f3_; subst f4_; subst f5_))
 refine hK.out _ _ ⟨(blk_cell BK127.out 0).trans rfl, (blk_cell BK125.out 0).trans rfl, ((HB.out.cell (World.block_lt_of_cell? w _ hw129_0)).trans hw129_0), ((HB.out.cell (World.block_lt_of_cell? w _ hw129_1)).trans hw129_1), ((HB.out.cell (World.block_lt_of_cell? w _ hw129_2)).trans hw129_2)⟩ (fun hHeld => ?_)
 clear hK K
 refine nm_ (some 31) ?_
 refine yr_ 9 32 bq_51 HT_ ?_
 refine last_ (i := 10) (N := none) bq_52 rfl rfl (one_of HT_.out (by kernel_rfl)) (by decide) (fun K hK => ?_)
 have hs22 : w20.cell? ⟨gb127, 0, none⟩ = some (u128000) := (blk_cell BK127.out 0).trans rfl
 have hfs22 := blk_frozen BK127.out 0
 obtain ⟨n126_127, n127_126⟩ := an2_ NB126_127 NB127_126
 refine skip_ (w1 := ?_) (by rfl) rfl ?_ ?_
 rotate_left
 ·go_simp
  rfl
 refine hK.out _ _ ?_
 clear hK K
 refine done_ (done_of HT_.out (by kernel_rfl)) ?_
 try go_wp2
 go_roundg k1
 case measure => have := HK1.out; omega
 case rel => exact ⟨(wrap64 (x6_1 + 1)), (y130), (.slice Ao21 y130.length co21), tq_5, H', ⟨tq_79⟩, ⟨(by (with_reducible repeat (first | apply Kd.R_alloc | apply Kd.R_drewN | apply Kd.R_drew)); exact Kd.R_mono (rR_ (Kd.R_types HO132.out BK127.out (by decide))) (fun _ hk => trivial))⟩, ⟨tb_⟩, ⟨tb_⟩, ⟨tb_⟩, ⟨th_⟩⟩

/-! ### spec_l01Byte: function 85 -/
def spec_l01Byte.f (s0_0 : List Int) (s0_1 : Int) (s0_2 : Int) : Option (Int × Int × Int) := if s0_1 < (s0_0.length : Int) then (if 0 ≤ s0_1 then (some (Go.bits .and .i64 (wrap64 ((Go.bits .and .i64 (Go.bits .xor .i64 ((wrap64 ((wrap64 (s0_2 * 6364136223846793005)) + 1442695040888963407)) / 8589934592) ((wrap64 ((wrap64 (s0_2 * 6364136223846793005)) + 1442695040888963407)) / 35184372088832)) 255) + (wrap64 (rd s0_0 s0_1)))) 255, wrap64 (s0_1 + 1), wrap64 ((wrap64 (s0_2 * 6364136223846793005)) + 1442695040888963407))) else (none)) else (some (Go.bits .and .i64 (Go.bits .xor .i64 ((wrap64 ((wrap64 (s0_2 * 6364136223846793005)) + 1442695040888963407)) / 8589934592) ((wrap64 ((wrap64 (s0_2 * 6364136223846793005)) + 1442695040888963407)) / 35184372088832)) 255, s0_1, wrap64 ((wrap64 (s0_2 * 6364136223846793005)) + 1442695040888963407)))
set_option maxHeartbeats 8000000 in
set_option maxRecDepth 100000 in
theorem spec_l01Byte.calls (g : Nat) (s0_0 : List Int) (s0_1 : Int) (s0_2 : Int) (r1 : Int) (r2 : Int) (r3 : Int) (w0 w : World) (hI : IsS105 w0 w g s0_0 s0_1 s0_2) (hB : Below w0.heap.size w0 w) (h : spec_l01Byte.f s0_0 s0_1 s0_2 = some (r1, r2, r3)) :
  Calls Try.prog 85 #[.pointer (some ⟨g, 0, none⟩)] w fun e w' => e = .returned (.int .i64 r1) ∧ IsS105 w0 w' g s0_0 r2 r3 ∧ Below w0.heap.size w0 w' ∧ KeepBut w w' g none := by
 have HI0 := Aside0.mk hI
 have HK := Aside0.mk (KeepBut.refl w g none)
 have HL := Aside0.mk hB.size
 clear hI
 have HW0 := Aside0.mk hB.size
 have HB := Aside0.mk hB
 clear hB
 unfold spec_l01Byte.f at h
 have H := h
 clear h
 by_cases c2 : s0_1 < (s0_0.length : Int)
 rotate_left
 ·rw [if_neg c2] at H
  have c2b0 := decide_eq_false c2
  clear c2
  simp only [Option.some.injEq, Prod.mk.injEq] at H
  obtain ⟨rfl, rfl, rfl⟩ := H
  obtain ⟨ASz5_0, cSz5_0, HGz5, hgz5, HSz5_0⟩ := HI0.out
  have hcz5_0 := cellS105_0 HGz5
  have hcz5_1 := cellS105_1 HGz5
  have hcz5_2 := cellS105_2 HGz5
  have hfz5_1 := blk_frozen HGz5 1
  have hfz5_2 := blk_frozen HGz5 2
  clear HGz5 hgz5
  go_enter Try.func85, Try.ntmps85
  go_wp2
  repeat (go_quiet (fail); try go_wp2)
  go_ret
  exact ⟨tq_1, tq_4, tq_12, tq_2⟩
 rw [if_pos c2] at H
 have c2b0 := decide_eq_true c2
 clear c2
 obtain ⟨c3, H⟩ := fc_ H
 have c3b0 := decide_eq_true c3
 clear c3
 simp only [Option.some.injEq, Prod.mk.injEq] at H
 obtain ⟨rfl, rfl, rfl⟩ := H
 obtain ⟨ASz4_0, cSz4_0, HGz4, hgz4, HSz4_0⟩ := HI0.out
 have hcz4_0 := cellS105_0 HGz4
 have hcz4_1 := cellS105_1 HGz4
 have hcz4_2 := cellS105_2 HGz4
 have hfz4_1 := blk_frozen HGz4 1
 have hfz4_2 := blk_frozen HGz4 2
 clear HGz4 hgz4
 have p133 : 0 ≤ (s0_1 : Int) := of_decide_eq_true tq_3
 have q133 : s0_1 < (s0_0.length : Int) := of_decide_eq_true tq_3
 obtain ⟨ad133, e133, hx133_0⟩ := Kd.at_int HSz4_0 s0_1 p133 q133
 cases e133
 have hn133_0 : ad133.block ≠ g := Nat.ne_of_lt (Nat.lt_of_lt_of_le (by have := World.block_lt_of_cell? _ _ hx133_0; first | rwa [add_block] at this | exact this) (IsS105.ge HI0.out))
 replace hx133_0 := pw_cell_below HB.out hx133_0
 replace hx133_0 := (cell_far (p := ⟨g, 2, none⟩) (by first | (rw [add_block]; exact hn133_0) | (show (Addr.add _ _).block ≠ _; rw [add_block]; exact hn133_0) | exact hn133_0) (.int .i64 (wrap64 ((wrap64 (s0_2 * 6364136223846793005)) + 1442695040888963407)))).trans hx133_0
 (try have hy133_0 := fun (n_ : Nat) => (show (((w.drewN n_).setCell ⟨g, 2, none⟩ (.int .i64 (wrap64 ((wrap64 (s0_2 * 6364136223846793005)) + 1442695040888963407))))).cell? _ = some _ from hx133_0))
 clear hn133_0
 replace p133 := eq_true p133
 replace q133 := eq_true q133
 go_enter Try.func85, Try.ntmps85
 go_wp2
 repeat (go_quiet (fail); try go_wp2)
 go_ret
 exact ⟨tq_1, tq_4, tq_12, tq_2⟩

/-! ### spec_l01Below: function 53 -/
def spec_l01Below.f (s0_0 : List Int) (s0_1 : Int) (s0_2 : Int) (a1 : Int) : Option (Int × Int × Int) := if a1 ≤ 0 then (some (0, s0_1, s0_2)) else (if a1 ≤ 256 then ((spec_l01Byte.f s0_0 s0_1 s0_2).bind fun bt134 => (if a1 = 0 then (none) else (some (Int.tmod bt134.1 a1, bt134.2.1, bt134.2.2)))) else ((spec_l01Byte.f s0_0 s0_1 s0_2).bind fun bt137 => ((spec_l01Byte.f s0_0 bt137.2.1 bt137.2.2).bind fun bt140 => ((spec_l01Byte.f s0_0 bt140.2.1 bt140.2.2).bind fun bt143 => ((spec_l01Byte.f s0_0 bt143.2.1 bt143.2.2).bind fun bt146 => (if a1 = 0 then (none) else (some (Int.tmod (wrap64 ((wrap64 ((wrap64 ((wrap64 (bt137.1 * 16777216)) + (wrap64 (bt140.1 * 65536)))) + (wrap64 (bt143.1 * 256)))) + bt146.1)) a1, bt146.2.1, bt146.2.2))))))))
set_option maxHeartbeats 8000000 in
set_option maxRecDepth 100000 in
theorem spec_l01Below.calls (g : Nat) (s0_0 : List Int) (s0_1 : Int) (s0_2 : Int) (a1 : Int) (r1 : Int) (r2 : Int) (r3 : Int) (w0 w : World) (hI : IsS105 w0 w g s0_0 s0_1 s0_2) (hB : Below w0.heap.size w0 w) (h : spec_l01Below.f s0_0 s0_1 s0_2 a1 = some (r1, r2, r3)) :
  Calls Try.prog 53 #[.pointer (some ⟨g, 0, none⟩), .int .i64 a1] w fun e w' => e = .returned (.int .i64 r1) ∧ IsS105 w0 w' g s0_0 r2 r3 ∧ Below w0.heap.size w0 w' ∧ KeepBut w w' g none := by
 have HI0 := Aside0.mk hI
 have HK := Aside0.mk (KeepBut.refl w g none)
 have HL := Aside0.mk hB.size
 clear hI
 have HW0 := Aside0.mk hB.size
 have HB := Aside0.mk hB
 clear hB
 unfold spec_l01Below.f at h
 have H := h
 clear h
 by_cases c3 : a1 ≤ 0
 ·rw [if_pos c3] at H
  have c3b0 := decide_eq_true c3
  clear c3
  simp only [Option.some.injEq, Prod.mk.injEq] at H
  obtain ⟨rfl, rfl, rfl⟩ := H
  go_enter Try.func53, Try.ntmps53
  go_wp2
  go_ret
  exact ⟨tq_1, tq_4, tq_12, tq_2⟩
 rw [if_neg c3] at H
 have c3b0 := decide_eq_false c3
 clear c3
 by_cases c4 : a1 ≤ 256
 ·rw [if_pos c4] at H
  have c4b0 := decide_eq_true c4
  clear c4
  obtain ⟨⟨t134, t135, t136⟩, A5, H⟩ := bd_ H
  try dsimp -simprocs only at H
  obtain ⟨c6, H⟩ := fd_ H
  have c6b0 := beq_eq_false_iff_ne.mpr c6
  have c6b1 := bne_iff_ne.mpr c6
  simp only [Option.some.injEq, Prod.mk.injEq] at H
  obtain ⟨rfl, rfl, rfl⟩ := H
  go_enter Try.func53, Try.ntmps53
  go_wp2_with (first | ((with_reducible refine gate_callee (f := 85) rfl ?_); refine goesL_ (some 14) rfl rfl Try.func85 (by kernel_rfl) rfl #[.pointer (some ⟨g, 0, none⟩)] rfl tq_0 ?_; (with_reducible refine (spec_l01Byte.calls g s0_0 s0_1 s0_2 t134 t135 t136 w0 _ ?side1 ?side2 A5.out).mono ?_); (case side1 => exact tq_19); (case side2 => exact tq_20); rintro e w7 ⟨rfl, hi, hb, hk⟩; refine ⟨_, rfl, ?_⟩; have z_ := p_ (KeepBut.trans tq_2 hk (.inl rfl)) <| p_ (hb) <| a_ (hi); clear HK HB HI0; obtain ⟨HK, HB, HI0⟩ := z_; (try clear hb); (try clear hk); (try clear hi)))
  go_ret
  exact ⟨tq_1, tq_4, tq_12, tq_2⟩
 rw [if_neg c4] at H
 have c4b0 := decide_eq_false c4
 clear c4
 obtain ⟨⟨t137, t138, t139⟩, A8, H⟩ := bd_ H
 try dsimp -simprocs only at H
 obtain ⟨⟨t140, t141, t142⟩, A9, H⟩ := bd_ H
 try dsimp -simprocs only at H
 obtain ⟨⟨t143, t144, t145⟩, A10, H⟩ := bd_ H
 try dsimp -simprocs only at H
 obtain ⟨⟨t146, t147, t148⟩, A11, H⟩ := bd_ H
 try dsimp -simprocs only at H
 obtain ⟨c12, H⟩ := fd_ H
 have c12b0 := beq_eq_false_iff_ne.mpr c12
 have c12b1 := bne_iff_ne.mpr c12
 simp only [Option.some.injEq, Prod.mk.injEq] at H
 obtain ⟨rfl, rfl, rfl⟩ := H
 go_enter Try.func53, Try.ntmps53
 go_wp2_with (first | ((with_reducible refine gate_callee (f := 85) rfl ?_); refine goesL_ (some 18) rfl rfl Try.func85 (by kernel_rfl) rfl #[.pointer (some ⟨g, 0, none⟩)] rfl tq_0 ?_; (with_reducible refine (spec_l01Byte.calls g s0_0 s0_1 s0_2 t137 t138 t139 w0 _ ?side1 ?side2 A8.out).mono ?_); (case side1 => exact tq_19); (case side2 => exact tq_20); rintro e w13 ⟨rfl, hi, hb, hk⟩; refine ⟨_, rfl, ?_⟩; have z_ := p_ (KeepBut.trans tq_2 hk (.inl rfl)) <| p_ (hb) <| a_ (hi); clear HK HB HI0; obtain ⟨HK, HB, HI0⟩ := z_; (try clear hb); (try clear hk); (try clear hi)) | ((with_reducible refine gate_callee (f := 85) rfl ?_); refine goesL_ (some 20) rfl rfl Try.func85 (by kernel_rfl) rfl #[.pointer (some ⟨g, 0, none⟩)] rfl tq_0 ?_; (with_reducible refine (spec_l01Byte.calls g s0_0 t138 t139 t140 t141 t142 w0 _ ?side1 ?side2 A9.out).mono ?_); (case side1 => exact tq_19); (case side2 => exact tq_20); rintro e w14 ⟨rfl, hi, hb, hk⟩; refine ⟨_, rfl, ?_⟩; have z_ := p_ (KeepBut.trans tq_2 hk (.inl rfl)) <| p_ (hb) <| a_ (hi); clear HK HB HI0; obtain ⟨HK, HB, HI0⟩ := z_; (try clear hb); (try clear hk); (try clear hi)) | ((with_reducible refine gate_callee (f := 85) rfl ?_); refine goesL_ (some 22) rfl rfl Try.func85 (by kernel_rfl) rfl #[.pointer (some ⟨g, 0, none⟩)] rfl tq_0 ?_; (with_reducible refine (spec_l01Byte.calls g s0_0 t141 t142 t143 t144 t145 w0 _ ?side1 ?side2 A10.out).mono ?_); (case side1 => exact tq_19); (case side2 => exact tq_20); rintro e w15 ⟨rfl, hi, hb, hk⟩; refine ⟨_, rfl, ?_⟩; have z_ := p_ (KeepBut.trans tq_2 hk (.inl rfl)) <| p_ (hb) <| a_ (hi); clear HK HB HI0; obtain ⟨HK, HB, HI0⟩ := z_; (try clear hb); (try clear hk); (try clear hi)) | ((with_reducible refine gate_callee (f := 85) rfl ?_); refine goesL_ (some 24) rfl rfl Try.func85 (by kernel_rfl) rfl #[.pointer (some ⟨g, 0, none⟩)] rfl tq_0 ?_; (with_reducible refine (spec_l01Byte.calls g s0_0 t144 t145 t146 t147 t148 w0 _ ?side1 ?side2 A11.out).mono ?_); (case side1 => exact tq_19); (case side2 => exact tq_20); rintro e w16 ⟨rfl, hi, hb, hk⟩; refine ⟨_, rfl, ?_⟩; have z_ := p_ (KeepBut.trans tq_2 hk (.inl rfl)) <| p_ (hb) <| a_ (hi); clear HK HB HI0; obtain ⟨HK, HB, HI0⟩ := z_; (try clear hb); (try clear hk); (try clear hi)))
 go_ret
 exact ⟨tq_1, tq_4, tq_12, tq_2⟩

/-! ### spec_l01Once: function 51 -/
def spec_l01Once.f (s0_0 : List Int) (s0_1 : Int) (s0_2 : Int) (a1 : Int) : Option (Bool × Int × Int) := (spec_l01Below.f s0_0 s0_1 s0_2 a1).bind fun bt149 => (some ((bt149.1 == 0), bt149.2.1, bt149.2.2))
set_option maxHeartbeats 8000000 in
set_option maxRecDepth 100000 in
theorem spec_l01Once.calls (g : Nat) (s0_0 : List Int) (s0_1 : Int) (s0_2 : Int) (a1 : Int) (r1 : Bool) (r2 : Int) (r3 : Int) (w0 w : World) (hI : IsS105 w0 w g s0_0 s0_1 s0_2) (hB : Below w0.heap.size w0 w) (h : spec_l01Once.f s0_0 s0_1 s0_2 a1 = some (r1, r2, r3)) :
  Calls Try.prog 51 #[.pointer (some ⟨g, 0, none⟩), .int .i64 a1] w fun e w' => e = .returned (.bool r1) ∧ IsS105 w0 w' g s0_0 r2 r3 ∧ Below w0.heap.size w0 w' ∧ KeepBut w w' g none := by
 have HI0 := Aside0.mk hI
 have HK := Aside0.mk (KeepBut.refl w g none)
 have HL := Aside0.mk hB.size
 clear hI
 have HW0 := Aside0.mk hB.size
 have HB := Aside0.mk hB
 clear hB
 unfold spec_l01Once.f at h
 have H := h
 clear h
 obtain ⟨⟨t149, t150, t151⟩, A3, H⟩ := bd_ H
 try dsimp -simprocs only at H
 simp only [Option.some.injEq, Prod.mk.injEq] at H
 obtain ⟨rfl, rfl, rfl⟩ := H
 go_enter Try.func51, Try.ntmps51
 go_wp2_with (first | ((with_reducible refine gate_callee (f := 53) rfl ?_); refine goesL_ (some 7) rfl rfl Try.func53 (by kernel_rfl) rfl #[.pointer (some ⟨g, 0, none⟩), .int .i64 a1] rfl tq_0 ?_; (with_reducible refine (spec_l01Below.calls g s0_0 s0_1 s0_2 a1 t149 t150 t151 w0 _ ?side1 ?side2 A3.out).mono ?_); (case side1 => exact tq_19); (case side2 => exact tq_20); rintro e w4 ⟨rfl, hi, hb, hk⟩; refine ⟨_, rfl, ?_⟩; have z_ := p_ (KeepBut.trans tq_2 hk (.inl rfl)) <| p_ (hb) <| a_ (hi); clear HK HB HI0; obtain ⟨HK, HB, HI0⟩ := z_; (try clear hb); (try clear hk); (try clear hi)))
 go_ret
 exact ⟨tq_1, tq_4, tq_12, tq_2⟩

/-! ### spec_l01Pick: function 84 -/
def spec_l01Pick.f (s0_0 : List Int) (s0_1 : Int) (s0_2 : Int) (l1 : List ByteArray) : Option (ByteArray × Int × Int) := (spec_l01Below.f s0_0 s0_1 s0_2 (l1.length : Int)).bind fun bt152 => (if 0 ≤ bt152.1 then (if bt152.1 < (l1.length : Int) then (some (rdOf ByteArray.empty l1 bt152.1, bt152.2.1, bt152.2.2)) else (none)) else (none))
set_option maxHeartbeats 8000000 in
set_option maxRecDepth 100000 in
theorem spec_l01Pick.calls (g : Nat) (s0_0 : List Int) (s0_1 : Int) (s0_2 : Int) (A1 : Option Addr) (c1 : Nat) (l1 : List ByteArray) (r1 : ByteArray) (r2 : Int) (r3 : Int) (w0 w : World) (hI : IsS105 w0 w g s0_0 s0_1 s0_2) (hB : Below w0.heap.size w0 w) (hr1 : Kd.C Kd.string w A1 l1.length l1) (hc1 : l1.length ≤ c1) (hf1 : ∀ ad, A1 = some ad → 0 < l1.length → ad.block ≠ g) (h : spec_l01Pick.f s0_0 s0_1 s0_2 l1 = some (r1, r2, r3)) :
  Calls Try.prog 84 #[.pointer (some ⟨g, 0, none⟩), .slice A1 l1.length c1] w fun e w' => e = .returned (.string r1) ∧ IsS105 w0 w' g s0_0 r2 r3 ∧ Below w0.heap.size w0 w' ∧ KeepBut w w' g none := by
 have HR1 := Aside0.mk hr1
 have HC1 := Aside0.mk hc1
 clear hr1 hc1
 have HI0 := Aside0.mk hI
 have HK := Aside0.mk (KeepBut.refl w g none)
 have HL := Aside0.mk hB.size
 clear hI
 have HW0 := Aside0.mk hB.size
 have HB := Aside0.mk hB
 clear hB
 unfold spec_l01Pick.f at h
 have H := h
 clear h
 obtain ⟨⟨t152, t153, t154⟩, A3, H⟩ := bd_ H
 try dsimp -simprocs only at H
 obtain ⟨c4, H⟩ := fc_ H
 have c4b0 := decide_eq_true c4
 clear c4
 obtain ⟨c5, H⟩ := fc_ H
 have c5b0 := decide_eq_true c5
 clear c5
 simp only [Option.some.injEq, Prod.mk.injEq] at H
 obtain ⟨rfl, rfl, rfl⟩ := H
 go_enter Try.func84, Try.ntmps84
 go_wp2_with (first | ((with_reducible refine gate_callee (f := 53) rfl ?_); refine goesL_ (some 9) rfl rfl Try.func53 (by kernel_rfl) rfl #[.pointer (some ⟨g, 0, none⟩), .int .i64 (l1.length : Int)] rfl tq_0 ?_; (with_reducible refine (spec_l01Below.calls g s0_0 s0_1 s0_2 (l1.length : Int) t152 t153 t154 w0 _ ?side1 ?side2 A3.out).mono ?_); (case side1 => exact tq_19); (case side2 => exact tq_20); rintro e w6 ⟨rfl, hi, hb, hk⟩; refine ⟨_, rfl, ?_⟩; have z_ := p_ (KeepBut.trans tq_2 hk (.inl rfl)) <| p_ (hb) <| a_ (hi); clear HK HB HI0; obtain ⟨HK, HB, HI0⟩ := z_; (try clear hb); (try clear hk); (try clear hi); have p155 : 0 ≤ (t152 : Int) := of_decide_eq_true tq_3; have q155 : t152 < (l1.length : Int) := of_decide_eq_true tq_3; obtain ⟨ad155, e155, hx155_0⟩ := Kd.at_string HR1.out t152 p155 q155; cases e155; replace hx155_0 := keep_cell HK.out hx155_0 (by first | (rw [add_block]; exact hf1 _ rfl (by omega)) | exact hf1 _ rfl (by omega) | exact hf1 ad155 rfl (by omega)); replace p155 := eq_true p155; replace q155 := eq_true q155))
 go_ret
 exact ⟨tq_1, tq_4, tq_12, tq_2⟩

/-! ### spec_l15Path: function 81 -/
def spec_l15Path.f (s0_0 : List Int) (s0_1 : Int) (s0_2 : Int) : Option (ByteArray × Int × Int) := (spec_l01Pick.f s0_0 s0_1 s0_2 (([(⟨#[47]⟩ : ByteArray), (⟨#[47, 97]⟩ : ByteArray), (⟨#[47, 98]⟩ : ByteArray), (⟨#[47, 99]⟩ : ByteArray), (⟨#[47, 97, 47, 98]⟩ : ByteArray), (⟨#[47, 97, 47, 99]⟩ : ByteArray), (⟨#[47, 97, 47, 98, 47, 99]⟩ : ByteArray), (⟨#[47, 98, 47, 97]⟩ : ByteArray), (⟨#[47, 99, 47, 97]⟩ : ByteArray), (⟨#[47, 100]⟩ : ByteArray), (⟨#[47, 97, 98]⟩ : ByteArray), (⟨#[47, 120, 49]⟩ : ByteArray), (⟨#[47, 97, 47, 97, 98, 99, 100, 101, 102, 103]⟩ : ByteArray)] : List ByteArray))).bind fun bt159 => (some (bt159.1, bt159.2.1, bt159.2.2))
set_option maxHeartbeats 8000000 in
set_option maxRecDepth 100000 in
theorem spec_l15Path.calls (g : Nat) (s0_0 : List Int) (s0_1 : Int) (s0_2 : Int) (r1 : ByteArray) (r2 : Int) (r3 : Int) (w0 w : World) (hI : IsS105 w0 w g s0_0 s0_1 s0_2) (hB : Below w0.heap.size w0 w) (h : spec_l15Path.f s0_0 s0_1 s0_2 = some (r1, r2, r3)) :
  Calls Try.prog 81 #[.pointer (some ⟨g, 0, none⟩)] w fun e w' => e = .returned (.string r1) ∧ IsS105 w0 w' g s0_0 r2 r3 ∧ Below w0.heap.size w0 w' ∧ KeepBut w w' g none := by
 have HI0 := Aside0.mk hI
 have HK := Aside0.mk (KeepBut.refl w g none)
 have HL := Aside0.mk hB.size
 clear hI
 have HW0 := Aside0.mk hB.size
 have HB := Aside0.mk hB
 clear hB
 unfold spec_l15Path.f at h
 have H := h
 clear h
 obtain ⟨y156, hy156⟩ : ∃ y_ : List ByteArray, y_ = (([(⟨#[47]⟩ : ByteArray), (⟨#[47, 97]⟩ : ByteArray), (⟨#[47, 98]⟩ : ByteArray), (⟨#[47, 99]⟩ : ByteArray), (⟨#[47, 97, 47, 98]⟩ : ByteArray), (⟨#[47, 97, 47, 99]⟩ : ByteArray), (⟨#[47, 97, 47, 98, 47, 99]⟩ : ByteArray), (⟨#[47, 98, 47, 97]⟩ : ByteArray), (⟨#[47, 99, 47, 97]⟩ : ByteArray), (⟨#[47, 100]⟩ : ByteArray), (⟨#[47, 97, 98]⟩ : ByteArray), (⟨#[47, 120, 49]⟩ : ByteArray), (⟨#[47, 97, 47, 97, 98, 99, 100, 101, 102, 103]⟩ : ByteArray)] : List ByteArray)) := ⟨_, rfl⟩
 replace H : ((spec_l01Pick.f s0_0 s0_1 s0_2 y156).bind fun bt159 => (some (bt159.1, bt159.2.1, bt159.2.2))) = some (r1, r2, r3) := by first | (rw [hy156]; with_reducible exact H) | (have H2_ := (Option.bind_some _ _).symm.trans H; rw [hy156]; with_reducible exact H2_) | (have H2_ := (Option.bind_some _ _).symm.trans H; with_reducible exact H2_) | with_reducible exact H | (rw [hy156]; exact H) | exact H
 have Ny156 := Aside0.mk hy156
 clear hy156
 obtain ⟨⟨t159, t160, t161⟩, A2, H⟩ := bd_ H
 try dsimp -simprocs only at H
 simp only [Option.some.injEq, Prod.mk.injEq] at H
 obtain ⟨rfl, rfl, rfl⟩ := H
 go_enter Try.func81, Try.ntmps81
 go_wp2_with (first | ((with_reducible refine gate_dst (N := 4) rfl ?_); refine Kd.R_lit Kd.string _ 9 ?hg (N := 4) ?hd (xs := ([(⟨#[47]⟩ : ByteArray), (⟨#[47, 97]⟩ : ByteArray), (⟨#[47, 98]⟩ : ByteArray), (⟨#[47, 99]⟩ : ByteArray), (⟨#[47, 97, 47, 98]⟩ : ByteArray), (⟨#[47, 97, 47, 99]⟩ : ByteArray), (⟨#[47, 97, 47, 98, 47, 99]⟩ : ByteArray), (⟨#[47, 98, 47, 97]⟩ : ByteArray), (⟨#[47, 99, 47, 97]⟩ : ByteArray), (⟨#[47, 100]⟩ : ByteArray), (⟨#[47, 97, 98]⟩ : ByteArray), (⟨#[47, 120, 49]⟩ : ByteArray), (⟨#[47, 97, 47, 97, 98, 99, 100, 101, 102, 103]⟩ : ByteArray)] : List ByteArray)) (inner := [.string (⟨#[47]⟩ : ByteArray), .string (⟨#[47, 97]⟩ : ByteArray), .string (⟨#[47, 98]⟩ : ByteArray), .string (⟨#[47, 99]⟩ : ByteArray), .string (⟨#[47, 97, 47, 98]⟩ : ByteArray), .string (⟨#[47, 97, 47, 99]⟩ : ByteArray), .string (⟨#[47, 97, 47, 98, 47, 99]⟩ : ByteArray), .string (⟨#[47, 98, 47, 97]⟩ : ByteArray), .string (⟨#[47, 99, 47, 97]⟩ : ByteArray), .string (⟨#[47, 100]⟩ : ByteArray), .string (⟨#[47, 97, 98]⟩ : ByteArray), .string (⟨#[47, 120, 49]⟩ : ByteArray), .string (⟨#[47, 97, 47, 97, 98, 99, 100, 101, 102, 103]⟩ : ByteArray)]) (ok := fun _ => True) (okp := fun _ => True) ?hr ?hp (fun _ hk => hk) trivial (Below.refl _ _) (Nat.le_refl _) (by simp) ?_; (case hd => rfl); (case hg => rfl); (case hr => first | (go_simp; done) | (go_simp; rfl)); (case hp => exact (Reps.one (show Kd.M Kd.string _ _ _ (⟨#[47]⟩ : ByteArray) [.string (⟨#[47]⟩ : ByteArray)] from rfl) (Reps.one (show Kd.M Kd.string _ _ _ (⟨#[47, 97]⟩ : ByteArray) [.string (⟨#[47, 97]⟩ : ByteArray)] from rfl) (Reps.one (show Kd.M Kd.string _ _ _ (⟨#[47, 98]⟩ : ByteArray) [.string (⟨#[47, 98]⟩ : ByteArray)] from rfl) (Reps.one (show Kd.M Kd.string _ _ _ (⟨#[47, 99]⟩ : ByteArray) [.string (⟨#[47, 99]⟩ : ByteArray)] from rfl) (Reps.one (show Kd.M Kd.string _ _ _ (⟨#[47, 97, 47, 98]⟩ : ByteArray) [.string (⟨#[47, 97, 47, 98]⟩ : ByteArray)] from rfl) (Reps.one (show Kd.M Kd.string _ _ _ (⟨#[47, 97, 47, 99]⟩ : ByteArray) [.string (⟨#[47, 97, 47, 99]⟩ : ByteArray)] from rfl) (Reps.one (show Kd.M Kd.string _ _ _ (⟨#[47, 97, 47, 98, 47, 99]⟩ : ByteArray) [.string (⟨#[47, 97, 47, 98, 47, 99]⟩ : ByteArray)] from rfl) (Reps.one (show Kd.M Kd.string _ _ _ (⟨#[47, 98, 47, 97]⟩ : ByteArray) [.string (⟨#[47, 98, 47, 97]⟩ : ByteArray)] from rfl) (Reps.one (show Kd.M Kd.string _ _ _ (⟨#[47, 99, 47, 97]⟩ : ByteArray) [.string (⟨#[47, 99, 47, 97]⟩ : ByteArray)] from rfl) (Reps.one (show Kd.M Kd.string _ _ _ (⟨#[47, 100]⟩ : ByteArray) [.string (⟨#[47, 100]⟩ : ByteArray)] from rfl) (Reps.one (show Kd.M Kd.string _ _ _ (⟨#[47, 97, 98]⟩ : ByteArray) [.string (⟨#[47, 97, 98]⟩ : ByteArray)] from rfl) (Reps.one (show Kd.M Kd.string _ _ _ (⟨#[47, 120, 49]⟩ : ByteArray) [.string (⟨#[47, 120, 49]⟩ : ByteArray)] from rfl) (Reps.one (show Kd.M Kd.string _ _ _ (⟨#[47, 97, 47, 97, 98, 99, 100, 101, 102, 103]⟩ : ByteArray) [.string (⟨#[47, 97, 47, 97, 98, 99, 100, 101, 102, 103]⟩ : ByteArray)] from rfl) (Reps.none _ _))))))))))))))); intro v157 w3 ho4 hb hg_ hnew_; clear hg_ hnew_; (first | rw [← Ny156.out] at ho4 | (simp only [Int.reduceToNat] at ho4; rw [← Ny156.out] at ho4)); have z_ := p_ (Kd.R_lower ho4 (keep_size (w := w) (g := g) (row := none) tq_2)) <| p_ (IsS105.below tq_4 hb) <| p_ (KeepBut.trans tq_2 (KeepBut.of_below hb g none) (.inl rfl)) <| a_ (below_step tq_12 hb); clear HI0 HK HB; obtain ⟨HO158, HI0, HK, HB⟩ := z_; clear hb ho4; obtain ⟨Ao5, co5, eo5⟩ := Kd.R_slice HO158.out; subst eo5) | ((with_reducible refine gate_callee (f := 84) rfl ?_); refine goesL_ (some 5) rfl rfl Try.func84 (by kernel_rfl) rfl #[.pointer (some ⟨g, 0, none⟩), .slice Ao5 y156.length co5] rfl tq_0 ?_; (with_reducible refine (spec_l01Pick.calls g s0_0 s0_1 s0_2 _ _ y156 t159 t160 t161 w0 _ ?side1 ?side2 ?side3 ?side4 ?side5 A2.out).mono ?_); (case side1 => exact tq_19); (case side2 => exact tq_20); (case side3 => repeat (first | exact (Kd.R_reads' HO158.out).2.2 | (with_reducible refine Kd.C_alloc ?_ _) | (with_reducible refine Kd.C_drewN ?_ _) | (with_reducible refine Kd.C_drew ?_))); (case side4 => exact (Kd.R_reads' HO158.out).2.1); (case side5 => exact far_slice (IsS105.own_ne HI0.out HO158.out (by decide))); rintro e w6 ⟨rfl, hi, hb, hk⟩; refine ⟨_, rfl, ?_⟩; have z_ := p_ (Kd.R_mono (Kd.R_keep (IsS105.apart (show IsS105 w0 _ g s0_0 s0_1 s0_2 from tq_4) (raR_ HO158) (by decide)) hk (fun _ h => h.2)) (fun _ h => h.1)) <| p_ (KeepBut.trans tq_2 hk (.inl rfl)) <| p_ (hb) <| a_ (hi); clear HO158 HK HB HI0; obtain ⟨HO158, HK, HB, HI0⟩ := z_; (try clear hb); (try clear hk); (try clear hi)))
 go_ret
 exact ⟨tq_1, tq_4, tq_12, tq_2⟩

/-! ### spec_l15Any: function 50 -/
def spec_l15Any.f (s0_0 : List Int) (s0_1 : Int) (s0_2 : Int) : Option (ByteArray × Int × Int) := (spec_l01Once.f s0_0 s0_1 s0_2 5).bind fun bt162 => (if bt162.1 = true then ((spec_l01Pick.f s0_0 bt162.2.1 bt162.2.2 (([(⟨#[]⟩ : ByteArray), (⟨#[97]⟩ : ByteArray), (⟨#[47, 47]⟩ : ByteArray), (⟨#[47, 97, 47]⟩ : ByteArray), (⟨#[47, 97, 47, 47, 98]⟩ : ByteArray), (⟨#[47, 65]⟩ : ByteArray), (⟨#[47, 97, 32, 98]⟩ : ByteArray), (⟨#[47, 97, 98, 99, 100, 101, 102, 103, 104]⟩ : ByteArray), (⟨#[47, 97, 47, 97, 98, 99, 100, 101, 102, 103, 104, 47, 98]⟩ : ByteArray), (⟨#[47, 97, 98, 99, 100, 101, 102, 103, 104, 47, 65]⟩ : ByteArray), (⟨#[47, 97, 98, 99, 100, 101, 102, 47, 97, 98, 99, 100, 101, 102, 47, 97, 98, 99, 100, 101, 102, 47, 97, 98, 99, 100, 101, 102, 47, 97, 98, 99, 100, 101, 102, 47, 97, 98, 99, 100, 101, 102, 47, 97, 98, 99, 100, 101, 102, 47, 97, 98, 99, 100, 101, 102, 47, 97, 98, 99]⟩ : ByteArray), (⟨#[47, 97, 98, 99, 100, 101, 102, 47, 97, 98, 99, 100, 101, 102, 47, 97, 98, 99, 100, 101, 102, 47, 97, 98, 99, 100, 101, 102, 47, 97, 98, 99, 100, 101, 102, 47, 97, 98, 99, 100, 101, 102, 47, 97, 98, 99, 100, 101, 102, 47, 97, 98, 99, 100, 101, 102, 47, 97, 98, 99, 100]⟩ : ByteArray), (⟨#[47, 0]⟩ : ByteArray)] : List ByteArray))).bind fun bt168 => (some (bt168.1, bt168.2.1, bt168.2.2))) else ((spec_l15Path.f s0_0 bt162.2.1 bt162.2.2).bind fun bt171 => (some (bt171.1, bt171.2.1, bt171.2.2))))
set_option maxHeartbeats 8000000 in
set_option maxRecDepth 100000 in
theorem spec_l15Any.calls (g : Nat) (s0_0 : List Int) (s0_1 : Int) (s0_2 : Int) (r1 : ByteArray) (r2 : Int) (r3 : Int) (w0 w : World) (hI : IsS105 w0 w g s0_0 s0_1 s0_2) (hB : Below w0.heap.size w0 w) (h : spec_l15Any.f s0_0 s0_1 s0_2 = some (r1, r2, r3)) :
  Calls Try.prog 50 #[.pointer (some ⟨g, 0, none⟩)] w fun e w' => e = .returned (.string r1) ∧ IsS105 w0 w' g s0_0 r2 r3 ∧ Below w0.heap.size w0 w' ∧ KeepBut w w' g none := by
 have HI0 := Aside0.mk hI
 have HK := Aside0.mk (KeepBut.refl w g none)
 have HL := Aside0.mk hB.size
 clear hI
 have HW0 := Aside0.mk hB.size
 have HB := Aside0.mk hB
 clear hB
 unfold spec_l15Any.f at h
 have H := h
 clear h
 obtain ⟨⟨t162, t163, t164⟩, A2, H⟩ := bd_ H
 try dsimp -simprocs only at H
 by_cases c3 : t162 = true
 rotate_left
 ·replace c3 := Bool.eq_false_iff.mpr c3
  subst c3
  rw [if_neg nf_] at H
  obtain ⟨⟨t171, t172, t173⟩, A10, H⟩ := bd_ H
  try dsimp -simprocs only at H
  simp only [Option.some.injEq, Prod.mk.injEq] at H
  obtain ⟨rfl, rfl, rfl⟩ := H
  go_enter Try.func50, Try.ntmps50
  go_wp2_with (first | ((with_reducible refine gate_callee (f := 51) rfl ?_); refine goesL_ (some 4) rfl rfl Try.func51 (by kernel_rfl) rfl #[.pointer (some ⟨g, 0, none⟩), .int .i64 5] rfl tq_0 ?_; (with_reducible refine (spec_l01Once.calls g s0_0 s0_1 s0_2 5 false t163 t164 w0 _ ?side1 ?side2 A2.out).mono ?_); (case side1 => exact tq_19); (case side2 => exact tq_20); rintro e w11 ⟨rfl, hi, hb, hk⟩; refine ⟨_, rfl, ?_⟩; have z_ := p_ (KeepBut.trans tq_2 hk (.inl rfl)) <| p_ (hb) <| a_ (hi); clear HK HB HI0; obtain ⟨HK, HB, HI0⟩ := z_; (try clear hb); (try clear hk); (try clear hi)) | ((with_reducible refine gate_callee (f := 81) rfl ?_); refine goesL_ (some 9) rfl rfl Try.func81 (by kernel_rfl) rfl #[.pointer (some ⟨g, 0, none⟩)] rfl tq_0 ?_; (with_reducible refine (spec_l15Path.calls g s0_0 t163 t164 t171 t172 t173 w0 _ ?side1 ?side2 A10.out).mono ?_); (case side1 => exact tq_19); (case side2 => exact tq_20); rintro e w12 ⟨rfl, hi, hb, hk⟩; refine ⟨_, rfl, ?_⟩; have z_ := p_ (KeepBut.trans tq_2 hk (.inl rfl)) <| p_ (hb) <| a_ (hi); clear HK HB HI0; obtain ⟨HK, HB, HI0⟩ := z_; (try clear hb); (try clear hk); (try clear hi)))
  go_ret
  exact ⟨tq_1, tq_4, tq_12, tq_2⟩
 subst c3
 rw [if_pos rfl] at H
 obtain ⟨y165, hy165⟩ : ∃ y_ : List ByteArray, y_ = (([(⟨#[]⟩ : ByteArray), (⟨#[97]⟩ : ByteArray), (⟨#[47, 47]⟩ : ByteArray), (⟨#[47, 97, 47]⟩ : ByteArray), (⟨#[47, 97, 47, 47, 98]⟩ : ByteArray), (⟨#[47, 65]⟩ : ByteArray), (⟨#[47, 97, 32, 98]⟩ : ByteArray), (⟨#[47, 97, 98, 99, 100, 101, 102, 103, 104]⟩ : ByteArray), (⟨#[47, 97, 47, 97, 98, 99, 100, 101, 102, 103, 104, 47, 98]⟩ : ByteArray), (⟨#[47, 97, 98, 99, 100, 101, 102, 103, 104, 47, 65]⟩ : ByteArray), (⟨#[47, 97, 98, 99, 100, 101, 102, 47, 97, 98, 99, 100, 101, 102, 47, 97, 98, 99, 100, 101, 102, 47, 97, 98, 99, 100, 101, 102, 47, 97, 98, 99, 100, 101, 102, 47, 97, 98, 99, 100, 101, 102, 47, 97, 98, 99, 100, 101, 102, 47, 97, 98, 99, 100, 101, 102, 47, 97, 98, 99]⟩ : ByteArray), (⟨#[47, 97, 98, 99, 100, 101, 102, 47, 97, 98, 99, 100, 101, 102, 47, 97, 98, 99, 100, 101, 102, 47, 97, 98, 99, 100, 101, 102, 47, 97, 98, 99, 100, 101, 102, 47, 97, 98, 99, 100, 101, 102, 47, 97, 98, 99, 100, 101, 102, 47, 97, 98, 99, 100, 101, 102, 47, 97, 98, 99, 100]⟩ : ByteArray), (⟨#[47, 0]⟩ : ByteArray)] : List ByteArray)) := ⟨_, rfl⟩
 replace H : ((spec_l01Pick.f s0_0 t163 t164 y165).bind fun bt168 => (some (bt168.1, bt168.2.1, bt168.2.2))) = some (r1, r2, r3) := by first | (rw [hy165]; with_reducible exact H) | (have H2_ := (Option.bind_some _ _).symm.trans H; rw [hy165]; with_reducible exact H2_) | (have H2_ := (Option.bind_some _ _).symm.trans H; with_reducible exact H2_) | with_reducible exact H | (rw [hy165]; exact H) | exact H
 have Ny165 := Aside0.mk hy165
 clear hy165
 obtain ⟨⟨t168, t169, t170⟩, A4, H⟩ := bd_ H
 try dsimp -simprocs only at H
 simp only [Option.some.injEq, Prod.mk.injEq] at H
 obtain ⟨rfl, rfl, rfl⟩ := H
 go_enter Try.func50, Try.ntmps50
 go_wp2_with (first | ((with_reducible refine gate_callee (f := 51) rfl ?_); refine goesL_ (some 4) rfl rfl Try.func51 (by kernel_rfl) rfl #[.pointer (some ⟨g, 0, none⟩), .int .i64 5] rfl tq_0 ?_; (with_reducible refine (spec_l01Once.calls g s0_0 s0_1 s0_2 5 true t163 t164 w0 _ ?side1 ?side2 A2.out).mono ?_); (case side1 => exact tq_19); (case side2 => exact tq_20); rintro e w5 ⟨rfl, hi, hb, hk⟩; refine ⟨_, rfl, ?_⟩; have z_ := p_ (KeepBut.trans tq_2 hk (.inl rfl)) <| p_ (hb) <| a_ (hi); clear HK HB HI0; obtain ⟨HK, HB, HI0⟩ := z_; (try clear hb); (try clear hk); (try clear hi)) | ((with_reducible refine gate_dst (N := 6) rfl ?_); refine Kd.R_lit Kd.string _ 9 ?hg (N := 6) ?hd (xs := ([(⟨#[]⟩ : ByteArray), (⟨#[97]⟩ : ByteArray), (⟨#[47, 47]⟩ : ByteArray), (⟨#[47, 97, 47]⟩ : ByteArray), (⟨#[47, 97, 47, 47, 98]⟩ : ByteArray), (⟨#[47, 65]⟩ : ByteArray), (⟨#[47, 97, 32, 98]⟩ : ByteArray), (⟨#[47, 97, 98, 99, 100, 101, 102, 103, 104]⟩ : ByteArray), (⟨#[47, 97, 47, 97, 98, 99, 100, 101, 102, 103, 104, 47, 98]⟩ : ByteArray), (⟨#[47, 97, 98, 99, 100, 101, 102, 103, 104, 47, 65]⟩ : ByteArray), (⟨#[47, 97, 98, 99, 100, 101, 102, 47, 97, 98, 99, 100, 101, 102, 47, 97, 98, 99, 100, 101, 102, 47, 97, 98, 99, 100, 101, 102, 47, 97, 98, 99, 100, 101, 102, 47, 97, 98, 99, 100, 101, 102, 47, 97, 98, 99, 100, 101, 102, 47, 97, 98, 99, 100, 101, 102, 47, 97, 98, 99]⟩ : ByteArray), (⟨#[47, 97, 98, 99, 100, 101, 102, 47, 97, 98, 99, 100, 101, 102, 47, 97, 98, 99, 100, 101, 102, 47, 97, 98, 99, 100, 101, 102, 47, 97, 98, 99, 100, 101, 102, 47, 97, 98, 99, 100, 101, 102, 47, 97, 98, 99, 100, 101, 102, 47, 97, 98, 99, 100, 101, 102, 47, 97, 98, 99, 100]⟩ : ByteArray), (⟨#[47, 0]⟩ : ByteArray)] : List ByteArray)) (inner := [.string (⟨#[]⟩ : ByteArray), .string (⟨#[97]⟩ : ByteArray), .string (⟨#[47, 47]⟩ : ByteArray), .string (⟨#[47, 97, 47]⟩ : ByteArray), .string (⟨#[47, 97, 47, 47, 98]⟩ : ByteArray), .string (⟨#[47, 65]⟩ : ByteArray), .string (⟨#[47, 97, 32, 98]⟩ : ByteArray), .string (⟨#[47, 97, 98, 99, 100, 101, 102, 103, 104]⟩ : ByteArray), .string (⟨#[47, 97, 47, 97, 98, 99, 100, 101, 102, 103, 104, 47, 98]⟩ : ByteArray), .string (⟨#[47, 97, 98, 99, 100, 101, 102, 103, 104, 47, 65]⟩ : ByteArray), .string (⟨#[47, 97, 98, 99, 100, 101, 102, 47, 97, 98, 99, 100, 101, 102, 47, 97, 98, 99, 100, 101, 102, 47, 97, 98, 99, 100, 101, 102, 47, 97, 98, 99, 100, 101, 102, 47, 97, 98, 99, 100, 101, 102, 47, 97, 98, 99, 100, 101, 102, 47, 97, 98, 99, 100, 101, 102, 47, 97, 98, 99]⟩ : ByteArray), .string (⟨#[47, 97, 98, 99, 100, 101, 102, 47, 97, 98, 99, 100, 101, 102, 47, 97, 98, 99, 100, 101, 102, 47, 97, 98, 99, 100, 101, 102, 47, 97, 98, 99, 100, 101, 102, 47, 97, 98, 99, 100, 101, 102, 47, 97, 98, 99, 100, 101, 102, 47, 97, 98, 99, 100, 101, 102, 47, 97, 98, 99, 100]⟩ : ByteArray), .string (⟨#[47, 0]⟩ : ByteArray)]) (ok := fun _ => True) (okp := fun _ => True) ?hr ?hp (fun _ hk => hk) trivial (Below.refl _ _) (Nat.le_refl _) (by simp) ?_; (case hd => rfl); (case hg => rfl); (case hr => first | (go_simp; done) | (go_simp; rfl)); (case hp => exact (Reps.one (show Kd.M Kd.string _ _ _ (⟨#[]⟩ : ByteArray) [.string (⟨#[]⟩ : ByteArray)] from rfl) (Reps.one (show Kd.M Kd.string _ _ _ (⟨#[97]⟩ : ByteArray) [.string (⟨#[97]⟩ : ByteArray)] from rfl) (Reps.one (show Kd.M Kd.string _ _ _ (⟨#[47, 47]⟩ : ByteArray) [.string (⟨#[47, 47]⟩ : ByteArray)] from rfl) (Reps.one (show Kd.M Kd.string _ _ _ (⟨#[47, 97, 47]⟩ : ByteArray) [.string (⟨#[47, 97, 47]⟩ : ByteArray)] from rfl) (Reps.one (show Kd.M Kd.string _ _ _ (⟨#[47, 97, 47, 47, 98]⟩ : ByteArray) [.string (⟨#[47, 97, 47, 47, 98]⟩ : ByteArray)] from rfl) (Reps.one (show Kd.M Kd.string _ _ _ (⟨#[47, 65]⟩ : ByteArray) [.string (⟨#[47, 65]⟩ : ByteArray)] from rfl) (Reps.one (show Kd.M Kd.string _ _ _ (⟨#[47, 97, 32, 98]⟩ : ByteArray) [.string (⟨#[47, 97, 32, 98]⟩ : ByteArray)] from rfl) (Reps.one (show Kd.M Kd.string _ _ _ (⟨#[47, 97, 98, 99, 100, 101, 102, 103, 104]⟩ : ByteArray) [.string (⟨#[47, 97, 98, 99, 100, 101, 102, 103, 104]⟩ : ByteArray)] from rfl) (Reps.one (show Kd.M Kd.string _ _ _ (⟨#[47, 97, 47, 97, 98, 99, 100, 101, 102, 103, 104, 47, 98]⟩ : ByteArray) [.string (⟨#[47, 97, 47, 97, 98, 99, 100, 101, 102, 103, 104, 47, 98]⟩ : ByteArray)] from rfl) (Reps.one (show Kd.M Kd.string _ _ _ (⟨#[47, 97, 98, 99, 100, 101, 102, 103, 104, 47, 65]⟩ : ByteArray) [.string (⟨#[47, 97, 98, 99, 100, 101, 102, 103, 104, 47, 65]⟩ : ByteArray)] from rfl) (Reps.one (show Kd.M Kd.string _ _ _ (⟨#[47, 97, 98, 99, 100, 101, 102, 47, 97, 98, 99, 100, 101, 102, 47, 97, 98, 99, 100, 101, 102, 47, 97, 98, 99, 100, 101, 102, 47, 97, 98, 99, 100, 101, 102, 47, 97, 98, 99, 100, 101, 102, 47, 97, 98, 99, 100, 101, 102, 47, 97, 98, 99, 100, 101, 102, 47, 97, 98, 99]⟩ : ByteArray) [.string (⟨#[47, 97, 98, 99, 100, 101, 102, 47, 97, 98, 99, 100, 101, 102, 47, 97, 98, 99, 100, 101, 102, 47, 97, 98, 99, 100, 101, 102, 47, 97, 98, 99, 100, 101, 102, 47, 97, 98, 99, 100, 101, 102, 47, 97, 98, 99, 100, 101, 102, 47, 97, 98, 99, 100, 101, 102, 47, 97, 98, 99]⟩ : ByteArray)] from rfl) (Reps.one (show Kd.M Kd.string _ _ _ (⟨#[47, 97, 98, 99, 100, 101, 102, 47, 97, 98, 99, 100, 101, 102, 47, 97, 98, 99, 100, 101, 102, 47, 97, 98, 99, 100, 101, 102, 47, 97, 98, 99, 100, 101, 102, 47, 97, 98, 99, 100, 101, 102, 47, 97, 98, 99, 100, 101, 102, 47, 97, 98, 99, 100, 101, 102, 47, 97, 98, 99, 100]⟩ : ByteArray) [.string (⟨#[47, 97, 98, 99, 100, 101, 102, 47, 97, 98, 99, 100, 101, 102, 47, 97, 98, 99, 100, 101, 102, 47, 97, 98, 99, 100, 101, 102, 47, 97, 98, 99, 100, 101, 102, 47, 97, 98, 99, 100, 101, 102, 47, 97, 98, 99, 100, 101, 102, 47, 97, 98, 99, 100, 101, 102, 47, 97, 98, 99, 100]⟩ : ByteArray)] from rfl) (Reps.one (show Kd.M Kd.string _ _ _ (⟨#[47, 0]⟩ : ByteArray) [.string (⟨#[47, 0]⟩ : ByteArray)] from rfl) (Reps.none _ _))))))))))))))); intro v166 w6 ho7 hb hg_ hnew_; clear hg_ hnew_; (first | rw [← Ny165.out] at ho7 | (simp only [Int.reduceToNat] at ho7; rw [← Ny165.out] at ho7)); have z_ := p_ (Kd.R_lower ho7 (keep_size (w := w) (g := g) (row := none) tq_2)) <| p_ (IsS105.below tq_4 hb) <| p_ (KeepBut.trans tq_2 (KeepBut.of_below hb g none) (.inl rfl)) <| a_ (below_step tq_12 hb); clear HI0 HK HB; obtain ⟨HO167, HI0, HK, HB⟩ := z_; clear hb ho7; obtain ⟨Ao8, co8, eo8⟩ := Kd.R_slice HO167.out; subst eo8) | ((with_reducible refine gate_callee (f := 84) rfl ?_); refine goesL_ (some 7) rfl rfl Try.func84 (by kernel_rfl) rfl #[.pointer (some ⟨g, 0, none⟩), .slice Ao8 y165.length co8] rfl tq_0 ?_; (with_reducible refine (spec_l01Pick.calls g s0_0 t163 t164 _ _ y165 t168 t169 t170 w0 _ ?side1 ?side2 ?side3 ?side4 ?side5 A4.out).mono ?_); (case side1 => exact tq_19); (case side2 => exact tq_20); (case side3 => repeat (first | exact (Kd.R_reads' HO167.out).2.2 | (with_reducible refine Kd.C_alloc ?_ _) | (with_reducible refine Kd.C_drewN ?_ _) | (with_reducible refine Kd.C_drew ?_))); (case side4 => exact (Kd.R_reads' HO167.out).2.1); (case side5 => exact far_slice (IsS105.own_ne HI0.out HO167.out (by decide))); rintro e w9 ⟨rfl, hi, hb, hk⟩; refine ⟨_, rfl, ?_⟩; have z_ := p_ (Kd.R_mono (Kd.R_keep (IsS105.apart (show IsS105 w0 _ g s0_0 t163 t164 from tq_4) (raR_ HO167) (by decide)) hk (fun _ h => h.2)) (fun _ h => h.1)) <| p_ (KeepBut.trans tq_2 hk (.inl rfl)) <| p_ (hb) <| a_ (hi); clear HO167 HK HB HI0; obtain ⟨HO167, HK, HB, HI0⟩ := z_; (try clear hb); (try clear hk); (try clear hi)))
 go_ret
 exact ⟨tq_1, tq_4, tq_12, tq_2⟩

/-! ### spec_l17Same: function 123 -/
def spec_l17Same.f (l0_0 : List (S44)) : Option ((List (S44))) := (some (([] : List (S44)) : List (S44))).bind fun y176 => (if y176.length + l0_0.length < 3518437208883 then (some (y176 ++ l0_0)) else (none))
set_option maxHeartbeats 8000000 in
set_option maxRecDepth 100000 in
theorem spec_l17Same.calls (A0_0 : Option Addr) (c0_0 : Nat) (l0_0 : List (S44)) (r : List (S44)) (w : World) (hr0_0 : Kd.C k44 w A0_0 l0_0.length l0_0) (hc0_0 : l0_0.length ≤ c0_0) (h : spec_l17Same.f l0_0 = some r) :
  Calls Try.prog 123 #[.agg #[.slice A0_0 l0_0.length c0_0]] w fun e w' => ∃ v0_ : Value, e = .returned (.agg #[v0_]) ∧ Kd.R k44 44 w' w.heap.size (fun _ => True) v0_ r ∧ Below w.heap.size w w' := by
 have hu42 := Try.underlying42
 have HR0_0 := Aside0.mk hr0_0
 have HC0_0 := Aside0.mk hc0_0
 clear hr0_0 hc0_0
 have HB := Aside0.mk (Below.refl w.heap.size w)
 unfold spec_l17Same.f at h
 have H := h
 clear h
 obtain ⟨y176, Ny176, H⟩ := bs_ H
 obtain ⟨c2, H⟩ := fc_ H
 have LMc2 := Aside0.mk c2
 clear c2
 obtain ⟨y179, hy179⟩ : ∃ y_ : List (S44), y_ = (y176 ++ l0_0) := ⟨_, rfl⟩
 replace H : (some y179) = some r := by first | (rw [hy179]; with_reducible exact H) | (have H2_ := (Option.bind_some _ _).symm.trans H; rw [hy179]; with_reducible exact H2_) | (have H2_ := (Option.bind_some _ _).symm.trans H; with_reducible exact H2_) | with_reducible exact H | (rw [hy179]; exact H) | exact H
 have Ny179 := Aside0.mk hy179
 clear hy179
 obtain rfl := Option.some.inj H
 go_enter Try.func123, Try.ntmps123
 go_wp2_with (first | ((with_reducible refine gate_dst (N := 1) rfl ?_); refine be_ 1 (cs := #[.slice A0_0 l0_0.length c0_0]) 42 ?_; intro gb174 hg w3 hbox hb; have z_ := bx0_ th_ hb hbox hg; clear HB; obtain ⟨HB, BK174, GW174, GE174⟩ := z_; clear hb hbox hg) | ((with_reducible refine gate_dst (N := 2) rfl ?_); refine be_ 2 (cs := #[.slice none 0 0]) 42 ?_; intro gb175 hg w4 hbox hb; have z_ := bx1_ (kb_ BK174) th_ hb hbox hg; clear BK174 HB; obtain ⟨BK174, HB, BK175, GW175, GE175, NB174_175, NB175_174⟩ := z_; clear hb hbox hg) | ((with_reducible refine gate_dst (N := 3) rfl ?_); refine Kd.R_lit k44 _ 44 ?hg (N := 3) ?hd (xs := ([] : List (S44))) (inner := []) (ok := fun _ => True) (okp := fun _ => True) ?hr ?hp (fun _ hk => hk) trivial (Below.refl _ _) (Nat.le_refl _) (by simp) ?_; (case hd => rfl); (case hg => rfl); (case hr => first | (go_simp; done) | (go_simp; rfl)); (case hp => exact (Reps.none _ _)); intro v177 w5 ho6 hb hg_ hnew_; clear hg_ hnew_; (first | rw [← Ny176.out] at ho6 | (simp only [Int.reduceToNat] at ho6; rw [← Ny176.out] at ho6)); have z_ := p_ (Kd.R_lower ho6 (below_size th_)) <| bw2_ (kb_ BK174) (kb_ BK175) th_ hb; clear BK174 BK175 HB; obtain ⟨HO178, BK174, BK175, HB⟩ := z_; clear hb ho6; obtain ⟨hnb7, hnc7⟩ := an2_ NB174_175 NB175_174; have hcz8_0 := bc_ BK174.out 0; have hfz8_0 := blk_frozen BK174.out 0) | ((with_reducible refine gate_builtin (b := .append) (xs := #[.tmp 3, .tmp 5]) rfl ?_); at_builtin; refine Kd.R_append_rows k44 (w0 := w) w.heap.size rfl (.tmp 3) (.tmp 5) 40 44 (.agg #[(.string ⟨#[]⟩), (.bool false), (.string ⟨#[]⟩)]) 40 rfl Try.underlying40 info44 rfl (by decide) (by omega) v177 y176 l0_0 _ _ _ (fun _ => True) (fun _ => False) rfl rfl ?aO ?aR (fun _ _ h => h) (fun _ h => h.elim) ?aF ?aB ?aS ?aL ?_; (case aR => exact tq_10); (case aB => exact th_); (case aF => exact (fun _ _ => trivial)); (case aO => exact (raR_ HO178)); (case aS => exact (below_size th_)); (case aL => have := LMc2.out; omega); intro v180 w9 ho hb hg hat; rw [← Ny179.out] at ho; have z_ := p_ (blk_grown (g := gb174) (o := .cells #[.slice A0_0 l0_0.length c0_0] 42 (0, 0)) (kb_ BK174) hg (Kd.R_ne HO178.out BK174.out (by decide))) <| p_ (blk_grown (g := gb175) (o := .cells #[.slice none 0 0] 42 (0, 0)) (kb_ BK175) hg (Kd.R_ne HO178.out BK175.out (by decide))) <| p_ (hb) <| a_ (ho); clear BK174 BK175 HB HO178; obtain ⟨BK174, BK175, HB, HO181⟩ := z_; clear ho hb hg hat; obtain ⟨Ao10, co10, eo10⟩ := Kd.R_slice HO181.out; subst eo10; have hcz11_0 := bc_ BK175.out 0; have hfz11_0 := blk_frozen BK175.out 0))
 refine bodyPost_ret (results_cell_row rfl _ _ gb175 42 #[.slice Ao10 y179.length co10] (0, 0) _ rfl tb_ Try.underlying42 rfl (by kernel_rfl)) rfl ?_
 exact ⟨_, tq_1, (by (with_reducible repeat (first | apply Kd.R_alloc | apply Kd.R_drewN | apply Kd.R_drew)); exact Kd.R_mono (rR_ (Kd.R_types HO181.out BK175.out (by decide))) (fun _ hk => trivial)), th_⟩

/-! ### spec_l01In: function 30 -/
def spec_l01In.f (a0 : Int) (a1 : Int) (a2 : Int) : Option (Bool) := if a0 ≥ a1 then (some (decide (a0 ≤ a2))) else (some false)
set_option maxHeartbeats 8000000 in
set_option maxRecDepth 100000 in
theorem spec_l01In.calls (a0 : Int) (a1 : Int) (a2 : Int) (r : Bool) (w : World) (h : spec_l01In.f a0 a1 a2 = some r) :
  Calls Try.prog 30 #[.int .i64 a0, .int .i64 a1, .int .i64 a2] w fun e w' => e = .returned (.bool r) ∧ Drawn0 w w' := by
 unfold spec_l01In.f at h
 have H := h
 clear h
 by_cases c4 : a0 ≥ a1
 ·rw [if_pos c4] at H
  have c4b0 := decide_eq_true c4
  clear c4
  obtain rfl := Option.some.inj H
  go_enter Try.func30, Try.ntmps30
  go_wp2
  go_ret
  exact ⟨tq_5, tq_34⟩
 rw [if_neg c4] at H
 have c4b0 := decide_eq_false c4
 clear c4
 obtain rfl := Option.some.inj H
 go_enter Try.func30, Try.ntmps30
 go_wp2
 go_ret
 exact ⟨tq_5, tq_34⟩

/-! ### spec_AskOk: function 124 -/
def spec_AskOk.f (a0_0 : Int) (a0_1 : ByteArray) (a0_2 : ByteArray) (a0_3 : Int) (a0_4 : Int) (a0_5 : ByteArray) : Option (Bool) := (spec_l01In.f a0_0 1 11).bind fun t183 => (if t183 = true then (some (decide ((a0_5.size : Int) ≤ 200))) else (some false))
set_option maxHeartbeats 8000000 in
set_option maxRecDepth 100000 in
theorem spec_AskOk.calls (a0_0 : Int) (a0_1 : ByteArray) (a0_2 : ByteArray) (a0_3 : Int) (a0_4 : Int) (a0_5 : ByteArray) (r : Bool) (w : World) (h : spec_AskOk.f a0_0 a0_1 a0_2 a0_3 a0_4 a0_5 = some r) :
  Calls Try.prog 124 #[.agg #[.int .i64 a0_0, .string a0_1, .string a0_2, .int .i64 a0_3, .int .i64 a0_4, .string a0_5]] w fun e w' => e = .returned (.bool r) ∧ Below w.heap.size w w' := by
 have hu133 := Try.underlying133
 have HB := Aside0.mk (Below.refl w.heap.size w)
 unfold spec_AskOk.f at h
 have H := h
 clear h
 obtain ⟨t183, A2, H⟩ := bd_ H
 by_cases c3 : t183 = true
 ·subst c3
  rw [if_pos rfl] at H
  obtain rfl := Option.some.inj H
  go_enter Try.func124, Try.ntmps124
  go_wp2_with (first | ((with_reducible refine gate_dst (N := 1) rfl ?_); (try (refine gate_guard (by rfl) ?_; dsimp only)); refine be_ 1 (cs := #[.int .i64 a0_0, .string a0_1, .string a0_2, .int .i64 a0_3, .int .i64 a0_4, .string a0_5]) 133 ?_; intro gb182 hg w4 hbox hb; have z_ := bx0_ th_ hb hbox hg; clear HB; obtain ⟨HB, BK182, GW182, GE182⟩ := z_; clear hb hbox hg; obtain ⟨hcz5_0, hcz5_1, hcz5_2, hcz5_3, hcz5_4, hcz5_5⟩ := bk6_ BK182.out; obtain ⟨hfz5_0, hfz5_1, hfz5_2, hfz5_3, hfz5_4, hfz5_5⟩ := bf6_ BK182.out) | ((with_reducible refine gate_callee (f := 30) rfl ?_); refine goesL_ (some 5) rfl rfl Try.func30 (by kernel_rfl) rfl #[.int .i64 a0_0, .int .i64 1, .int .i64 11] rfl tq_0 ?_; (with_reducible refine (spec_l01In.calls a0_0 1 11 true _ A2.out).mono ?_); rintro e w' ⟨rfl, ⟨nd, rfl⟩⟩; refine ⟨_, rfl, ?_⟩))
  go_ret
  exact ⟨tq_1, th_⟩
 replace c3 := Bool.eq_false_iff.mpr c3
 subst c3
 rw [if_neg nf_] at H
 obtain rfl := Option.some.inj H
 go_enter Try.func124, Try.ntmps124
 go_wp2_with (first | ((with_reducible refine gate_dst (N := 1) rfl ?_); (try (refine gate_guard (by rfl) ?_; dsimp only)); refine be_ 1 (cs := #[.int .i64 a0_0, .string a0_1, .string a0_2, .int .i64 a0_3, .int .i64 a0_4, .string a0_5]) 133 ?_; intro gb182 hg w6 hbox hb; have z_ := bx0_ th_ hb hbox hg; clear HB; obtain ⟨HB, BK182, GW182, GE182⟩ := z_; clear hb hbox hg; obtain ⟨hcz7_0, hcz7_1, hcz7_2, hcz7_3, hcz7_4, hcz7_5⟩ := bk6_ BK182.out; obtain ⟨hfz7_0, hfz7_1, hfz7_2, hfz7_3, hfz7_4, hfz7_5⟩ := bf6_ BK182.out) | ((with_reducible refine gate_callee (f := 30) rfl ?_); refine goesL_ (some 5) rfl rfl Try.func30 (by kernel_rfl) rfl #[.int .i64 a0_0, .int .i64 1, .int .i64 11] rfl tq_0 ?_; (with_reducible refine (spec_l01In.calls a0_0 1 11 false _ A2.out).mono ?_); rintro e w' ⟨rfl, ⟨nd, rfl⟩⟩; refine ⟨_, rfl, ?_⟩))
 go_ret
 exact ⟨tq_1, th_⟩

/-! ### spec_l17Fails: function 125 -/
def spec_l17Fails.f (a0 : Int) : Option (Int × ByteArray × Int × Bool × List ByteArray) := some (a0, (⟨#[]⟩ : ByteArray), 0, false, ([] : List ByteArray))
set_option maxHeartbeats 8000000 in
set_option maxRecDepth 100000 in
theorem spec_l17Fails.calls (a0 : Int) (r1 : Int) (r2 : ByteArray) (r3 : Int) (r4 : Bool) (r5 : List ByteArray) (w : World) (h : spec_l17Fails.f a0 = some (r1, r2, r3, r4, r5)) :
  Calls Try.prog 125 #[.int .i64 a0] w fun e w' => ∃ v4_ : Value, e = .returned (.agg #[.int .i64 r1, .string r2, .int .i64 r3, .bool r4, v4_]) ∧ Kd.R Kd.string 9 w' w.heap.size (fun _ => True) v4_ r5 ∧ Below w.heap.size w w' := by
 have hu129 := Try.underlying129
 have HB := Aside0.mk (Below.refl w.heap.size w)
 unfold spec_l17Fails.f at h
 have H := h
 clear h
 simp only [Option.some.injEq, Prod.mk.injEq] at H
 obtain ⟨rfl, rfl, rfl, rfl, rfl⟩ := H
 go_enter Try.func125, Try.ntmps125
 go_wp2_with (first | ((with_reducible refine gate_dst (N := 2) rfl ?_); refine be_ 2 (cs := #[.int .i64 0, .string (⟨#[]⟩ : ByteArray), .int .i64 0, .bool false, .slice none 0 0]) 129 ?_; intro gb184 hg w2 hbox hb; have z_ := bx0_ th_ hb hbox hg; clear HB; obtain ⟨HB, BK184, GW184, GE184⟩ := z_; clear hb hbox hg; obtain ⟨hcz3_0, hcz3_1, hcz3_2, hcz3_3, hcz3_4⟩ := bk5_ BK184.out; obtain ⟨hfz3_0, hfz3_1, hfz3_2, hfz3_3, hfz3_4⟩ := bf5_ BK184.out))
 refine bodyPost_ret (results_cell_row rfl _ _ gb184 129 #[.int .i64 a0, .string (⟨#[]⟩ : ByteArray), .int .i64 0, .bool false, .slice none 0 0] (0, 0) _ rfl tb_ Try.underlying129 rfl (by kernel_rfl)) rfl ?_
 exact ⟨_, tq_1, tq_22, th_⟩

/-! ### spec_ItemAt: function 129 -/
def spec_ItemAt.l0 : Nat → ByteArray → Int → List (S44) → Option (Int)
 | 0, _, _, _ => none
 | k + 1, x1, x5, x186000 => if x5 < (x186000.length : Int) then (if 0 ≤ x5 then (if ((rd_T44 x186000 x5).f0).toList = x1.toList then (some x5) else (spec_ItemAt.l0 k x1 (wrap64 (x5 + 1)) x186000)) else (none)) else (some (-1))
def spec_ItemAt.f (k : Nat) (l0_0 : List (S44)) (a1 : ByteArray) : Option (Int) := spec_ItemAt.l0 k a1 0 l0_0
theorem spec_ItemAt.mono_l : ∀ k, (∀ y0 y1 y2, LeO (spec_ItemAt.l0 k y0 y1 y2) (spec_ItemAt.l0 (k + 1) y0 y1 y2))
 | 0 => fun _ _ _ r h => by simp [spec_ItemAt.l0] at h
 | k + 1 => by
  have ih0 := spec_ItemAt.mono_l k
  ·intro y0 y1 y2
   unfold spec_ItemAt.l0
   exact mo_0
theorem spec_ItemAt.mono : ∀ a0 a1 k, LeO (spec_ItemAt.f k a0 a1) (spec_ItemAt.f (k + 1) a0 a1) := by
 intro a0 a1 k
 have ih0 := spec_ItemAt.mono_l k
 unfold spec_ItemAt.f
 repeat' first
   | (with_reducible exact ih0 ..)
   | (with_reducible exact LeO.refl _)
   | (with_reducible exact LeO.none _)
   | (with_reducible refine LeO.ite ?_ ?_)
   | (with_reducible refine LeO.bind ?_ (fun _ => ?_))
   | exact ih0 ..
   | exact LeO.none _
   | refine LeO.ite ?_ ?_
   | refine LeO.bind ?_ (fun _ => ?_)
set_option maxHeartbeats 8000000 in
set_option maxRecDepth 100000 in
theorem spec_ItemAt.calls (k : Nat) (A0_0 : Option Addr) (c0_0 : Nat) (l0_0 : List (S44)) (a1 : ByteArray) (r : Int) (w : World) (hr0_0 : Kd.C k44 w A0_0 l0_0.length l0_0) (hc0_0 : l0_0.length ≤ c0_0) (h : spec_ItemAt.f k l0_0 a1 = some r) :
  Calls Try.prog 129 #[.agg #[.slice A0_0 l0_0.length c0_0], .string a1] w fun e w' => e = .returned (.int .i64 r) ∧ Below w.heap.size w w' := by
 have hu42 := Try.underlying42
 have HR0_0 := Aside0.mk hr0_0
 have HC0_0 := Aside0.mk hc0_0
 clear hr0_0 hc0_0
 have HB := Aside0.mk (Below.refl w.heap.size w)
 unfold spec_ItemAt.f at h
 have H := h
 clear h
 have H' := Aside0.mk H
 clear H
 go_enter Try.func129, Try.ntmps129
 go_wp2_with (first | ((with_reducible refine gate_dst (N := 2) rfl ?_); refine be_ 2 (cs := #[.slice A0_0 l0_0.length c0_0]) 42 ?_; intro gb185 hg w3 hbox hb; have z_ := bx0_ th_ hb hbox hg; clear HB; obtain ⟨HB, BK185, GW185, GE185⟩ := z_; clear hb hbox hg))
 go_loopg [5] k (fun kq v5 w' => ∃ (x5_1 : Int), v5 = .int .i64 x5_1 ∧ Aside0 (spec_ItemAt.l0 kq a1 x5_1 l0_0 = some r) ∧ Aside0 (kq ≤ k) ∧ Aside0 (w'.heap[gb185]? = some (.cells #[(.slice A0_0 l0_0.length c0_0)] 42 (0, 0))) ∧ Aside0 (Below w.heap.size w w'))
 case atStart => exact ⟨(0), tq_5, H', ⟨Nat.le_refl _⟩, ⟨(kb_ BK185)⟩, ⟨th_⟩⟩
 case round =>
 clear H'
 try clear c1; try clear p2
 obtain ⟨x5_1, rfl, HA, HK1, BK185, HB⟩ := hrel
 cases gk with
 | zero => exact absurd HA.out (by simp [spec_ItemAt.l0])
 | succ k1 =>
 have H := HA.out
 clear HA
 simp only [spec_ItemAt.l0] at H
 by_cases c4 : x5_1 < (l0_0.length : Int)
 rotate_left
 ·rw [if_neg c4] at H
  have c4b0 := decide_eq_false c4
  clear c4
  obtain rfl := Option.some.inj H
  have hcz9_0 := bc_ BK185.out 0
  have hfz9_0 := blk_frozen BK185.out 0
  go_wp2
  go_ret
  exact ⟨tq_1, th_⟩
 rw [if_pos c4] at H
 have c4b0 := decide_eq_true c4
 clear c4
 obtain ⟨c5, H⟩ := fc_ H
 have c5b0 := decide_eq_true c5
 clear c5
 by_cases c6 : ((rd_T44 l0_0 x5_1).f0).toList = a1.toList
 ·rw [if_pos c6] at H
  have c6b0 := beq_iff_eq.mpr c6
  have c6b1 := bne_eq_false_iff_eq.mpr c6
  clear c6
  obtain rfl := Option.some.inj H
  have hcz7_0 := bc_ BK185.out 0
  have hfz7_0 := blk_frozen BK185.out 0
  have p186 : 0 ≤ (x5_1 : Int) := of_decide_eq_true tq_3
  have q186 : x5_1 < (l0_0.length : Int) := of_decide_eq_true tq_3
  obtain ⟨ad186, e186, hx186_0, hx186_1, hx186_2⟩ := at_T44 HR0_0.out x5_1 p186 q186
  cases e186
  replace hx186_0 := hx_ HB.out hx186_0
  replace hx186_1 := hx_ HB.out hx186_1
  replace hx186_2 := hx_ HB.out hx186_2
  replace p186 := eq_true p186
  replace q186 := eq_true q186
  go_wp2
  go_ret
  exact ⟨tq_1, th_⟩
 rw [if_neg c6] at H
 have c6b0 := beq_eq_false_iff_ne.mpr c6
 have c6b1 := bne_iff_ne.mpr c6
 have H' := Aside0.mk H
 clear H
 have hcz8_0 := bc_ BK185.out 0
 have hfz8_0 := blk_frozen BK185.out 0
 have p186 : 0 ≤ (x5_1 : Int) := of_decide_eq_true tq_3
 have q186 : x5_1 < (l0_0.length : Int) := of_decide_eq_true tq_3
 obtain ⟨ad186, e186, hx186_0, hx186_1, hx186_2⟩ := at_T44 HR0_0.out x5_1 p186 q186
 cases e186
 replace hx186_0 := hx_ HB.out hx186_0
 replace hx186_1 := hx_ HB.out hx186_1
 replace hx186_2 := hx_ HB.out hx186_2
 replace p186 := eq_true p186
 replace q186 := eq_true q186
 go_wp2
 go_roundg k1
 case measure => have := HK1.out; omega
 case rel => exact ⟨(wrap64 (x5_1 + 1)), tq_5, H', ⟨tq_79⟩, ⟨(kb_ BK185)⟩, ⟨th_⟩⟩

/-! ### spec_l17Dir: function 128 -/
def spec_l17Dir.f (k : Nat) (l0_0 : List (S44)) (a1 : ByteArray) : Option (Bool) := if a1.toList = ([47] : List UInt8) then (some true) else ((spec_ItemAt.f k l0_0 a1).bind fun t188 => (if t188 ≥ 0 then (if 0 ≤ t188 then (if t188 < (l0_0.length : Int) then (some ((rd_T44 l0_0 t188).f1)) else (none)) else (none)) else (some false)))
theorem spec_l17Dir.mono : ∀ a0 a1 k, LeO (spec_l17Dir.f k a0 a1) (spec_l17Dir.f (k + 1) a0 a1) := by
 intro a0 a1 k
 unfold spec_l17Dir.f
 repeat' first
   | (with_reducible exact spec_ItemAt.mono ..)
   | (with_reducible exact LeO.refl _)
   | (with_reducible exact LeO.none _)
   | (with_reducible refine LeO.ite ?_ ?_)
   | (with_reducible refine LeO.bind ?_ (fun _ => ?_))
   | exact spec_ItemAt.mono ..
   | exact LeO.none _
   | refine LeO.ite ?_ ?_
   | refine LeO.bind ?_ (fun _ => ?_)
set_option maxHeartbeats 8000000 in
set_option maxRecDepth 100000 in
theorem spec_l17Dir.calls (k : Nat) (A0_0 : Option Addr) (c0_0 : Nat) (l0_0 : List (S44)) (a1 : ByteArray) (r : Bool) (w : World) (hr0_0 : Kd.C k44 w A0_0 l0_0.length l0_0) (hc0_0 : l0_0.length ≤ c0_0) (h : spec_l17Dir.f k l0_0 a1 = some r) :
  Calls Try.prog 128 #[.agg #[.slice A0_0 l0_0.length c0_0], .string a1] w fun e w' => e = .returned (.bool r) ∧ Below w.heap.size w w' := by
 have hu42 := Try.underlying42
 have HR0_0 := Aside0.mk hr0_0
 have HC0_0 := Aside0.mk hc0_0
 clear hr0_0 hc0_0
 have HB := Aside0.mk (Below.refl w.heap.size w)
 unfold spec_l17Dir.f at h
 have H := h
 clear h
 by_cases c3 : a1.toList = ([47] : List UInt8)
 ·rw [if_pos c3] at H
  have c3b0 := beq_iff_eq.mpr c3
  have c3b1 := bne_eq_false_iff_eq.mpr c3
  clear c3
  obtain rfl := Option.some.inj H
  go_enter Try.func128, Try.ntmps128
  go_wp2_with (first | ((with_reducible refine gate_dst (N := 2) rfl ?_); refine be_ 2 (cs := #[.slice A0_0 l0_0.length c0_0]) 42 ?_; intro gb187 hg w4 hbox hb; have z_ := bx0_ th_ hb hbox hg; clear HB; obtain ⟨HB, BK187, GW187, GE187⟩ := z_; clear hb hbox hg))
  go_ret
  exact ⟨tq_1, th_⟩
 rw [if_neg c3] at H
 have c3b0 := beq_eq_false_iff_ne.mpr c3
 have c3b1 := bne_iff_ne.mpr c3
 obtain ⟨t188, A5, H⟩ := bd_ H
 by_cases c6 : t188 ≥ 0
 rotate_left
 ·rw [if_neg c6] at H
  have c6b0 := decide_eq_false c6
  clear c6
  obtain rfl := Option.some.inj H
  go_enter Try.func128, Try.ntmps128
  go_wp2_with (first | ((with_reducible refine gate_dst (N := 2) rfl ?_); refine be_ 2 (cs := #[.slice A0_0 l0_0.length c0_0]) 42 ?_; intro gb187 hg w13 hbox hb; have z_ := bx0_ th_ hb hbox hg; clear HB; obtain ⟨HB, BK187, GW187, GE187⟩ := z_; clear hb hbox hg; have hcz14_0 := bc_ BK187.out 0; have hfz14_0 := blk_frozen BK187.out 0) | ((with_reducible refine gate_callee (f := 129) rfl ?_); refine goesL_ (some 10) rfl rfl Try.func129 (by kernel_rfl) rfl #[.agg #[.slice A0_0 l0_0.length c0_0], .string a1] rfl tq_0 ?_; (with_reducible refine (spec_ItemAt.calls k _ _ l0_0 a1 t188 _ ?side1 ?side2 A5.out).mono ?_); (case side1 => exact tq_10); (case side2 => exact HC0_0.out); rintro e w15 ⟨rfl, hb⟩; refine ⟨_, rfl, ?_⟩; have z_ := bw1_ (kb_ BK187) th_ hb; clear BK187 HB; obtain ⟨BK187, HB⟩ := z_; (try clear hb)))
  go_ret
  exact ⟨tq_1, th_⟩
 rw [if_pos c6] at H
 have c6b0 := decide_eq_true c6
 clear c6
 obtain ⟨c7, H⟩ := fc_ H
 have c7b0 := decide_eq_true c7
 clear c7
 obtain ⟨c8, H⟩ := fc_ H
 have c8b0 := decide_eq_true c8
 clear c8
 obtain rfl := Option.some.inj H
 go_enter Try.func128, Try.ntmps128
 go_wp2_with (first | ((with_reducible refine gate_dst (N := 2) rfl ?_); refine be_ 2 (cs := #[.slice A0_0 l0_0.length c0_0]) 42 ?_; intro gb187 hg w9 hbox hb; have z_ := bx0_ th_ hb hbox hg; clear HB; obtain ⟨HB, BK187, GW187, GE187⟩ := z_; clear hb hbox hg; have hcz10_0 := bc_ BK187.out 0; have hfz10_0 := blk_frozen BK187.out 0) | ((with_reducible refine gate_callee (f := 129) rfl ?_); refine goesL_ (some 10) rfl rfl Try.func129 (by kernel_rfl) rfl #[.agg #[.slice A0_0 l0_0.length c0_0], .string a1] rfl tq_0 ?_; (with_reducible refine (spec_ItemAt.calls k _ _ l0_0 a1 t188 _ ?side1 ?side2 A5.out).mono ?_); (case side1 => exact tq_10); (case side2 => exact HC0_0.out); rintro e w11 ⟨rfl, hb⟩; refine ⟨_, rfl, ?_⟩; have z_ := bw1_ (kb_ BK187) th_ hb; clear BK187 HB; obtain ⟨BK187, HB⟩ := z_; (try clear hb); have hcz12_0 := bc_ BK187.out 0; have hfz12_0 := blk_frozen BK187.out 0; have p189 : 0 ≤ (t188 : Int) := of_decide_eq_true tq_3; have q189 : t188 < (l0_0.length : Int) := of_decide_eq_true tq_3; obtain ⟨ad189, e189, hx189_0, hx189_1, hx189_2⟩ := at_T44 HR0_0.out t188 p189 q189; cases e189; replace hx189_0 := hx_ HB.out hx189_0; replace hx189_1 := hx_ HB.out hx189_1; replace hx189_2 := hx_ HB.out hx189_2; replace p189 := eq_true p189; replace q189 := eq_true q189))
 go_ret
 exact ⟨tq_1, th_⟩

end Go.Proofs.Ytljnnmpfeningaa.PFnViews
