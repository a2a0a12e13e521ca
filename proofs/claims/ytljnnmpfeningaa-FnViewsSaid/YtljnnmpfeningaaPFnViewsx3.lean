/- Contracts of Go functions, written by a program of ours over the print of the kit: each says that the call returns what the Lean function beside it computes. Conditions: as each theorem states them. -/
import Derived.Test.YtljnnmpfeningaaPkFnViews
import Derived.Test.YtljnnmpfeningaaPFnViewsx0
namespace Go.Proofs.Ytljnnmpfeningaa.PFnViews
open Go.RowKit Go.Proofs.YtljnnmpfeningaaW.PrintWords Go.Proofs.YtljnnmpfeningaaW.PrintLast Go.Proofs.YtljnnmpfeningaaW.PrintMore
attribute [local go_sem] max2_int min2_int max_two min_two max_three min_three max_four min_four   -- for this text's walks alone
set_option linter.unusedVariables false
set_option linter.unusedSimpArgs false

/-! ### spec_PutItem: function 17 -/
mutual
def spec_PutItem.l0 : Nat → Bool → Int → List (S44) → ByteArray → Bool → ByteArray → List (S44) → Option ((List (S44)))
 | 0, _, _, _, _, _, _, _ => none
 | k + 1, x6, x7, x105000, x106000, x106001, x106002, x108000 => if x7 < (x105000.length : Int) then (if x6 = true then (spec_PutItem.j1 k x6 x7 false x105000 x106000 x106001 x106002 x108000) else (if 0 ≤ x7 then (spec_PutItem.j1 k x6 x7 (Op.bytesLess x106000.toList (((rd_T44 x105000 x7).f0).toList)) x105000 x106000 x106001 x106002 x108000) else (none))) else (if x6 = true then (some x108000) else (if x108000.length < 3518437208883 then (some (x108000 ++ [(⟨x106000, x106001, x106002⟩ : S44)])) else (none)))
def spec_PutItem.j1 : Nat → Bool → Int → Bool → List (S44) → ByteArray → Bool → ByteArray → List (S44) → Option ((List (S44)))
 | 0, _, _, _, _, _, _, _, _ => none
 | k + 1, x6, x7, x28, x105000, x106000, x106001, x106002, x108000 => if x28 = true then (if x108000.length < 3518437208883 then ((some (x108000 ++ [(⟨x106000, x106001, x106002⟩ : S44)] : List (S44))).bind fun y112 => (if 0 ≤ x7 then (if x7 < (x105000.length : Int) then (if ((rd_T44 x105000 x7).f0).toList = x106000.toList then (spec_PutItem.l0 k true (wrap64 (x7 + 1)) x105000 x106000 x106001 x106002 y112) else (if y112.length < 3518437208883 then (spec_PutItem.l0 k true (wrap64 (x7 + 1)) x105000 x106000 x106001 x106002 (y112 ++ [(⟨(rd_T44 x105000 x7).f0, (rd_T44 x105000 x7).f1, (rd_T44 x105000 x7).f2⟩ : S44)])) else (none))) else (none)) else (none))) else (none)) else (if 0 ≤ x7 then (if x7 < (x105000.length : Int) then (if ((rd_T44 x105000 x7).f0).toList = x106000.toList then (spec_PutItem.l0 k x6 (wrap64 (x7 + 1)) x105000 x106000 x106001 x106002 x108000) else (if x108000.length < 3518437208883 then (spec_PutItem.l0 k x6 (wrap64 (x7 + 1)) x105000 x106000 x106001 x106002 (x108000 ++ [(⟨(rd_T44 x105000 x7).f0, (rd_T44 x105000 x7).f1, (rd_T44 x105000 x7).f2⟩ : S44)])) else (none))) else (none)) else (none))
end
def spec_PutItem.f (k : Nat) (l0_0 : List (S44)) (a1_0 : ByteArray) (a1_1 : Bool) (a1_2 : ByteArray) : Option ((List (S44))) := spec_PutItem.l0 k false 0 l0_0 a1_0 a1_1 a1_2 ([] : List (S44))
theorem spec_PutItem.mono_l : ∀ k, (∀ y0 y1 y2 y3 y4 y5 y6, LeO (spec_PutItem.l0 k y0 y1 y2 y3 y4 y5 y6) (spec_PutItem.l0 (k + 1) y0 y1 y2 y3 y4 y5 y6)) ∧ (∀ y0 y1 y2 y3 y4 y5 y6 y7, LeO (spec_PutItem.j1 k y0 y1 y2 y3 y4 y5 y6 y7) (spec_PutItem.j1 (k + 1) y0 y1 y2 y3 y4 y5 y6 y7))
 | 0 => ⟨fun _ _ _ _ _ _ _ r h => by simp [spec_PutItem.l0] at h, fun _ _ _ _ _ _ _ _ r h => by simp [spec_PutItem.j1] at h⟩
 | k + 1 => by
  obtain ⟨ih0, ih1⟩ := spec_PutItem.mono_l k
  refine ⟨?_, ?_⟩
  ·intro y0 y1 y2 y3 y4 y5 y6
   unfold spec_PutItem.l0
   exact mo_1
  ·intro y0 y1 y2 y3 y4 y5 y6 y7
   unfold spec_PutItem.j1
   exact mo_1
theorem spec_PutItem.mono : ∀ a0 a1 a2 a3 k, LeO (spec_PutItem.f k a0 a1 a2 a3) (spec_PutItem.f (k + 1) a0 a1 a2 a3) := by
 intro a0 a1 a2 a3 k
 obtain ⟨ih0, ih1⟩ := spec_PutItem.mono_l k
 unfold spec_PutItem.f
 repeat' first
   | (with_reducible exact ih0 ..)
   | (with_reducible exact ih1 ..)
   | (with_reducible exact LeO.refl _)
   | (with_reducible exact LeO.none _)
   | (with_reducible refine LeO.ite ?_ ?_)
   | (with_reducible refine LeO.bind ?_ (fun _ => ?_))
   | exact ih0 ..
   | exact ih1 ..
   | exact LeO.none _
   | refine LeO.ite ?_ ?_
   | refine LeO.bind ?_ (fun _ => ?_)
def spec_PutItem.T6 : Bool × List (List Nat × List Nat) := (true, [([], []), ([0], [0]), ([1], [1]), ([2], [2]), ([3, 2], [2, 3]), ([2], [2]), ([4, 5, 2], [2, 4, 5]), ([6, 2], [2, 6]), ([7, 2], [2, 7]), ([2], [2]), ([9, 2], [2, 9]), ([8, 10, 2], [2, 8, 10]), ([2, 11], [2, 11])])
def spec_PutItem.B6 : List Nat := [0, 1, 3, 7, 15, 7, 63, 127, 255, 7, 519, 2047, 4095]
theorem spec_PutItem.tab6 : rtab .any (opsOf Try.f17 6) = spec_PutItem.T6 := by kernel_rfl
theorem spec_PutItem.bits6 : waitsOk spec_PutItem.T6.2 spec_PutItem.B6 = true := by kernel_rfl
def spec_PutItem.T9 : Bool × List (List Nat × List Nat) := (true, [([], []), ([0], [0]), ([], []), ([1, 2], [1, 2]), ([3], [3]), ([4], [4]), ([], []), ([6], [6]), ([5, 7], [5, 7])])
def spec_PutItem.B9 : List Nat := [0, 1, 0, 7, 15, 31, 0, 64, 255]
theorem spec_PutItem.tab9 : rtab .any (opsOf Try.f17 9) = spec_PutItem.T9 := by kernel_rfl
theorem spec_PutItem.bits9 : waitsOk spec_PutItem.T9.2 spec_PutItem.B9 = true := by kernel_rfl
def spec_PutItem.T10 : Bool × List (List Nat × List Nat) := (true, [([], []), ([0], [0]), ([], []), ([2], [2]), ([], []), ([3, 4], [3, 4]), ([5], [5]), ([6], [6]), ([1, 7], [1, 7]), ([0, 1, 2, 3, 4, 5, 6, 7, 8], []), ([9, 8, 8, 0, 1, 2, 3, 4, 5, 6, 7, 8], [8, 9])])
def spec_PutItem.B10 : List Nat := [0, 1, 0, 4, 0, 28, 60, 124, 255, 511, 1023]
theorem spec_PutItem.tab10 : rtab .any (opsOf Try.f17 10) = spec_PutItem.T10 := by kernel_rfl
theorem spec_PutItem.bits10 : waitsOk spec_PutItem.T10.2 spec_PutItem.B10 = true := by kernel_rfl
set_option maxHeartbeats 8000000 in
set_option maxRecDepth 100000 in
theorem spec_PutItem.calls (k : Nat) (A0_0 : Option Addr) (c0_0 : Nat) (l0_0 : List (S44)) (a1_0 : ByteArray) (a1_1 : Bool) (a1_2 : ByteArray) (r : List (S44)) (w : World) (hr0_0 : Kd.C k44 w A0_0 l0_0.length l0_0) (hc0_0 : l0_0.length ≤ c0_0) (h : spec_PutItem.f k l0_0 a1_0 a1_1 a1_2 = some r) :
  Calls Try.prog 17 #[.agg #[.slice A0_0 l0_0.length c0_0], .agg #[.string a1_0, .bool a1_1, .string a1_2]] w fun e w' => ∃ v0_ : Value, e = .returned (.agg #[v0_]) ∧ Kd.R k44 44 w' w.heap.size (fun _ => True) v0_ r ∧ Below w.heap.size w w' := by
 have hu42 := Try.underlying42
 have hu44 := Try.underlying44
 have HR0_0 := Aside0.mk hr0_0
 have HC0_0 := Aside0.mk hc0_0
 clear hr0_0 hc0_0
 have HB := Aside0.mk (Below.refl w.heap.size w)
 unfold spec_PutItem.f at h
 have H := h
 clear h
 have H' := Aside0.mk H
 clear H
 go_enter Try.func17, Try.ntmps17
 go_wp2_with (first | ((with_reducible refine gate_dst (N := 2) rfl ?_); refine be_ 2 (cs := #[.slice A0_0 l0_0.length c0_0]) 42 ?_; intro gb104 hg w3 hbox hb; have z_ := bx0_ th_ hb hbox hg; clear HB; obtain ⟨HB, BK104, GW104, GE104⟩ := z_; clear hb hbox hg) | ((with_reducible refine gate_dst (N := 3) rfl ?_); refine be_ 3 (cs := #[.string a1_0, .bool a1_1, .string a1_2]) 44 ?_; intro gb105 hg w4 hbox hb; have z_ := bx1_ (kb_ BK104) th_ hb hbox hg; clear BK104 HB; obtain ⟨BK104, HB, BK105, GW105, GE105, NB104_105, NB105_104⟩ := z_; clear hb hbox hg) | ((with_reducible refine gate_dst (N := 4) rfl ?_); refine be_ 4 (cs := #[.slice none 0 0]) 42 ?_; intro gb106 hg w5 hbox hb; have z_ := bx2_ (kb_ BK104) (kb_ BK105) th_ hb hbox hg; clear BK104 BK105 HB; obtain ⟨BK104, BK105, HB, BK106, GW106, GE106, NB104_106, NB106_104, NB105_106, NB106_105⟩ := z_; clear hb hbox hg) | ((with_reducible refine gate_dst (N := 5) rfl ?_); refine be_ 5 (cs := #[.slice none 0 0]) 42 ?_; intro gb107 hg w6 hbox hb; have z_ := bx3_ (kb_ BK104) (kb_ BK105) (kb_ BK106) th_ hb hbox hg; clear BK104 BK105 BK106 HB; obtain ⟨BK104, BK105, BK106, HB, BK107, GW107, GE107, NB104_107, NB107_104, NB105_107, NB107_105, NB106_107, NB107_106⟩ := z_; clear hb hbox hg; obtain ⟨n107_104, n104_107, n107_105, n105_107, n107_106, n106_107⟩ := an6_ NB107_104 NB104_107 NB107_105 NB105_107 NB107_106 NB106_107; have hcz10_0 := bc_ BK107.out 0; have hfz10_0 := blk_frozen BK107.out 0))
 go_loopg [6, 7] k (fun kq v6 v7 w' => ∃ (x6_1 : Bool) (x7_1 : Int) (x108000_1 : List (S44)) (u108000 : Value), v6 = .bool x6_1 ∧ v7 = .int .i64 x7_1 ∧ Aside0 (spec_PutItem.l0 kq x6_1 x7_1 l0_0 a1_0 a1_1 a1_2 x108000_1 = some r) ∧ Aside0 (kq ≤ k) ∧ Aside0 (Kd.R k44 44 w' w.heap.size (fun k_ => k_ ≠ gb105) u108000 x108000_1) ∧ Aside0 (w'.heap[gb104]? = some (.cells #[(.slice A0_0 l0_0.length c0_0)] 42 (0, 0))) ∧ Aside0 (w'.heap[gb105]? = some (.cells #[.string a1_0, .bool a1_1, .string a1_2] 44 (0, 0))) ∧ Aside0 (w'.heap[gb106]? = some (.cells #[(.slice none 0 0)] 42 (0, 0))) ∧ Aside0 (w'.heap[gb107]? = some (.cells #[u108000] 42 (0, 0))) ∧ Aside0 (Below w.heap.size w w'))
 case atStart => exact ⟨(false), (0), (([] : List (S44))), (.slice none 0 0), tq_5, tq_5, H', ⟨Nat.le_refl _⟩, ⟨tq_22⟩, ⟨tb_⟩, ⟨tb_⟩, ⟨tb_⟩, ⟨tb_⟩, ⟨th_⟩⟩
 case round =>
 clear H'
 try clear c1; try clear p2; try clear c7; try clear c8; try clear c9; try clear hcz10_0 hfz10_0
 obtain ⟨x6_1, x7_1, x108000_1, u108000, rfl, rfl, HA, HK1, HO_108000, BK104, BK105, BK106, BK107, HB⟩ := hrel
 cases gk with
 | zero => exact absurd HA.out (by simp [spec_PutItem.l0])
 | succ k1 =>
 have H := HA.out
 clear HA
 simp only [spec_PutItem.l0] at H
 have HC11 := Aside0.mk H
 clear H
 obtain ⟨n104_105, n105_104, n104_106, n106_104⟩ := an4_ NB104_105 NB105_104 NB104_106 NB106_104
 have hcz15_0 := bc_ BK104.out 0
 have hfz15_0 := blk_frozen BK104.out 0
 go_upto_if 13 with (fail)
 (try clear n104_105 n104_106 n104_107 n105_104 n105_107 n106_104 n106_107 n107_104 n107_105 n107_106)
 (try clear hcz15_0)
 (try clear hfz15_0)
 have H := HC11.out
 clear HC11
 by_cases c16 : x7_1 < (l0_0.length : Int)
 rotate_left
 ·rw [if_neg c16] at H
  have c16b0 := decide_eq_false c16
  clear c16
  (first | rw [c16b0] | (simp only [i64_w, i32_w]; rw [c16b0]) | skip)
  by_cases c55 : x6_1 = true
  ·subst c55
   rw [if_pos rfl] at H
   obtain rfl := Option.some.inj H
   obtain ⟨n107_104, n104_107, n107_105, n105_107, n107_106, n106_107⟩ := an6_ NB107_104 NB104_107 NB107_105 NB105_107 NB107_106 NB106_107
   have hcz59_0 := bc_ BK107.out 0
   have hfz59_0 := blk_frozen BK107.out 0
   obtain ⟨Ao60, co60, eo60⟩ := Kd.R_slice HO_108000.out
   subst eo60
   obtain ⟨n106_104, n104_106, n106_105, n105_106⟩ := an4_ NB106_104 NB104_106 NB106_105 NB105_106
   have hcz63_0 := bc_ BK106.out 0
   have hfz63_0 := blk_frozen BK106.out 0
   go_wp2
   refine bodyPost_ret (results_cell_row rfl _ _ gb106 42 #[.slice Ao60 x108000_1.length co60] (0, 0) _ rfl tb_ Try.underlying42 rfl (by kernel_rfl)) rfl ?_
   exact ⟨_, tq_1, (by (with_reducible repeat (first | apply Kd.R_alloc | apply Kd.R_drewN | apply Kd.R_drew)); exact Kd.R_mono (rR_ (Kd.R_types HO_108000.out BK106.out (by decide))) (fun _ hk => trivial)), th_⟩
  replace c55 := Bool.eq_false_iff.mpr c55
  subst c55
  rw [if_neg nf_] at H
  obtain ⟨c64, H⟩ := fc_ H
  have LMc64 := Aside0.mk c64
  clear c64
  obtain ⟨y108, hy108⟩ : ∃ y_ : List (S44), y_ = (x108000_1 ++ [(⟨a1_0, a1_1, a1_2⟩ : S44)]) := ⟨_, rfl⟩
  replace H : (some y108) = some r := by first | (rw [hy108]; with_reducible exact H) | (have H2_ := (Option.bind_some _ _).symm.trans H; rw [hy108]; with_reducible exact H2_) | (have H2_ := (Option.bind_some _ _).symm.trans H; with_reducible exact H2_) | with_reducible exact H | (rw [hy108]; exact H) | exact H
  have Ny108 := Aside0.mk hy108
  clear hy108
  obtain rfl := Option.some.inj H
  obtain ⟨n107_104, n104_107, n107_105, n105_107, n107_106, n106_107⟩ := an6_ NB107_104 NB104_107 NB107_105 NB105_107 NB107_106 NB106_107
  have hcz68_0 := bc_ BK107.out 0
  have hfz68_0 := blk_frozen BK107.out 0
  obtain ⟨n105_104, n104_105, n105_106, n106_105⟩ := an4_ NB105_104 NB104_105 NB105_106 NB106_105
  obtain ⟨hcz71_0, hcz71_1, hcz71_2⟩ := bk3_ BK105.out
  obtain ⟨hfz71_0, hfz71_1, hfz71_2⟩ := bf3_ BK105.out
  go_wp2_with (first | ((with_reducible refine gate_builtin (b := .append) (xs := #[.tmp 57, .tmp 59]) rfl ?_); at_builtin; refine Kd.R_append k44 (w0 := w) w.heap.size rfl (.tmp 57) (.tmp 59) 40 44 (.agg #[(.string ⟨#[]⟩), (.bool false), (.string ⟨#[]⟩)]) 40 rfl Try.underlying40 info44 rfl (by decide) (by omega) u108000 x108000_1 (⟨a1_0, a1_1, a1_2⟩ : S44) [.string a1_0, .bool a1_1, .string a1_2] (fun k_ => k_ ≠ gb105) (fun _ => False) rfl rfl ?aP (fun _ hk => hk.elim) ?aF ?aO ?aB ?aS ?aL ?_; (case aP => exact k44_mkM _ _ _ (⟨a1_0, a1_1, a1_2⟩ : S44)); (case aB => exact th_); (case aF => exact tq_73); (case aO => exact (raR_ HO_108000)); (case aS => exact (below_size th_)); (case aL => have := LMc64.out; omega); intro v109 w72 ho hb hg hat; rw [← Ny108.out] at ho; have z_ := p_ (blk_grown (g := gb104) (o := .cells #[.slice A0_0 l0_0.length c0_0] 42 (0, 0)) (kb_ BK104) hg (Kd.R_ne HO_108000.out BK104.out (by decide))) <| p_ (blk_grown (g := gb105) (o := .cells #[.string a1_0, .bool a1_1, .string a1_2] 44 (0, 0)) (kb_ BK105) hg (Kd.R_away HO_108000.out (fun _ hk => hk))) <| p_ (blk_grown (g := gb106) (o := .cells #[.slice none 0 0] 42 (0, 0)) (kb_ BK106) hg (Kd.R_ne HO_108000.out BK106.out (by decide))) <| p_ (blk_grown (g := gb107) (o := .cells #[u108000] 42 (0, 0)) (kb_ BK107) hg (Kd.R_ne HO_108000.out BK107.out (by decide))) <| p_ (hb) <| a_ (ho); clear BK104 BK105 BK106 BK107 HB HO_108000; obtain ⟨BK104, BK105, BK106, BK107, HB, HO110⟩ := z_; clear ho hb hg hat; obtain ⟨Ao73, co73, eo73⟩ := Kd.R_slice HO110.out; subst eo73; have hcz74_0 := bc_ BK107.out 0; have hfz74_0 := blk_frozen BK107.out 0; obtain ⟨n106_104, n104_106⟩ := an2_ NB106_104 NB104_106; have hcz76_0 := bc_ BK106.out 0; have hfz76_0 := blk_frozen BK106.out 0))
  refine bodyPost_ret (results_cell_row rfl _ _ gb106 42 #[.slice Ao73 y108.length co73] (0, 0) _ rfl tb_ Try.underlying42 rfl (by kernel_rfl)) rfl ?_
  exact ⟨_, tq_1, (by (with_reducible repeat (first | apply Kd.R_alloc | apply Kd.R_drewN | apply Kd.R_drew)); exact Kd.R_mono (rR_ (rR_ (Kd.R_types (Kd.R_types HO110.out BK107.out (by decide)) BK106.out (by decide)) (fun _ hk => hk.1.2))) (fun _ hk => trivial)), th_⟩
 rw [if_pos c16] at H
 have c16b0 := decide_eq_true c16
 clear c16
 (first | rw [c16b0] | (simp only [i64_w, i32_w]; rw [c16b0]) | skip)
 have HC17 := Aside0.mk H
 clear H
 go_upto_region 6 with (fail)
 go_cut [28] (fun v28 wc => ∃ (kq : Nat) (x28_16 : Bool), v28 = .bool x28_16 ∧ Aside0 (spec_PutItem.j1 kq x6_1 x7_1 x28_16 l0_0 a1_0 a1_1 a1_2 x108000_1 = some r) ∧ Aside0 (kq ≤ k1) ∧ Aside0 (Kd.R k44 44 wc w.heap.size (fun k_ => k_ ≠ gb105) u108000 x108000_1) ∧ Aside0 (wc.heap[gb104]? = some (.cells #[(.slice A0_0 l0_0.length c0_0)] 42 (0, 0))) ∧ Aside0 (wc.heap[gb105]? = some (.cells #[.string a1_0, .bool a1_1, .string a1_2] 44 (0, 0))) ∧ Aside0 (wc.heap[gb106]? = some (.cells #[(.slice none 0 0)] 42 (0, 0))) ∧ Aside0 (wc.heap[gb107]? = some (.cells #[u108000] 42 (0, 0))) ∧ Aside0 (Below w.heap.size w wc))
 case first =>
  have H := HC17.out
  clear HC17
  by_cases c18 : x6_1 = true
  ·subst c18
   rw [if_pos rfl] at H
   have H' := Aside0.mk H
   clear H
   try go_wp2
   have z_ := p_ (Kd.R_drew HO_108000.out) <| dw4_ BK104 BK105 BK106 BK107 HB
   clear HO_108000 BK104 BK105 BK106 BK107 HB
   obtain ⟨HO_108000, BK104, BK105, BK106, BK107, HB⟩ := z_
   refine start_ (n := 13) (S := fun w' => True) (ds := []) bq_100 (by kernel_rfl) rfl rfl trivial (fun hHeld => ?_); refine with_tabW spec_PutItem.tab6 spec_PutItem.bits6 (fun HT_ HW_ => ?_)
   generalize wr.drew = w19 at HO_108000 BK104 BK105 BK106 BK107 HB hHeld ⊢
   refine yr_ 0 16 bq_101 HT_ ?_
   refine yr_ 1 17 bq_102 HT_ ?_
   refine yr_ 2 18 bq_103 HT_ ?_
   refine ur_ 3 19 bq_104 HT_ ?_
   refine ur_ 4 20 #[true, true, true, true, true, false, false, false, false, false, false, false, false] HT_ ?_
   refine ur_ 5 21 #[true, true, true, true, true, true, false, false, false, false, false, false, false] HT_ ?_
   refine ur_ 6 22 #[true, true, true, true, true, true, true, false, false, false, false, false, false] HT_ ?_
   refine ur_ 7 23 #[true, true, true, true, true, true, true, true, false, false, false, false, false] HT_ ?_
   refine ur_ 8 24 #[true, true, true, true, true, true, true, true, true, false, false, false, false] HT_ ?_
   refine ur_ 9 25 bq_105 HT_ ?_
   refine ur_ 10 26 bq_106 HT_ ?_
   refine ur_ 11 27 bq_107 HT_ ?_
   refine yr_ 12 28 bq_108 HT_ ?_
   refine done_ (done_of HT_.out (by kernel_rfl)) ?_
   try go_wp2
   go_meet
   case rel => exact ⟨_, (false), tq_5, H', ⟨tq_122⟩, ⟨(raR_ HO_108000)⟩, ⟨(kb_ BK104)⟩, ⟨(kb_ BK105)⟩, ⟨(kb_ BK106)⟩, ⟨(kb_ BK107)⟩, ⟨th_⟩⟩
  replace c18 := Bool.eq_false_iff.mpr c18
  subst c18
  rw [if_neg nf_] at H
  obtain ⟨c20, H⟩ := fc_ H
  have c20b0 := decide_eq_true c20
  clear c20
  (first | rw [c20b0] | (simp only [i64_w, i32_w]; rw [c20b0]) | skip)
  have H' := Aside0.mk H
  clear H
  try go_wp2
  have z_ := p_ (Kd.R_drew HO_108000.out) <| dw4_ BK104 BK105 BK106 BK107 HB
  clear HO_108000 BK104 BK105 BK106 BK107 HB
  obtain ⟨HO_108000, BK104, BK105, BK106, BK107, HB⟩ := z_
  have p111 : 0 ≤ (x7_1 : Int) := of_decide_eq_true tq_3
  have q111 : x7_1 < (l0_0.length : Int) := of_decide_eq_true tq_3
  obtain ⟨ad111, e111, hx111_0, hx111_1, hx111_2⟩ := at_T44 HR0_0.out x7_1 p111 q111
  have hw111_2 := hx111_2
  have hw111_1 := hx111_1
  have hw111_0 := hx111_0
  cases e111
  replace hx111_0 := hx_ HB.out hx111_0
  replace hx111_1 := hx_ HB.out hx111_1
  replace hx111_2 := hx_ HB.out hx111_2
  replace p111 := eq_true p111
  replace q111 := eq_true q111
  refine start_ (n := 13) (S := fun w' => w'.cell? ⟨gb104, 0, none⟩ = some (.slice (some ad111) l0_0.length c0_0) ∧ w'.cell? ⟨gb105, 0, none⟩ = some (.string a1_0) ∧ w'.cell? ⟨gb105, 1, none⟩ = some (.bool a1_1) ∧ w'.cell? ⟨gb105, 2, none⟩ = some (.string a1_2) ∧ w'.cell? (ad111.add ((x7_1).toNat * 3)) = some (.string ((rd_T44 l0_0 x7_1).f0)) ∧ w'.cell? ⟨(ad111.add ((x7_1).toNat * 3)).block, (ad111.add ((x7_1).toNat * 3)).off + 1, none⟩ = some (.bool ((rd_T44 l0_0 x7_1).f1)) ∧ w'.cell? ⟨(ad111.add ((x7_1).toNat * 3)).block, (ad111.add ((x7_1).toNat * 3)).off + 2, none⟩ = some (.string ((rd_T44 l0_0 x7_1).f2))) (ds := []) bq_100 (by kernel_rfl) rfl rfl ⟨(blk_cell BK104.out 0).trans rfl, bc3_ BK105.out ⟨((HB.out.cell (World.block_lt_of_cell? w _ hw111_0)).trans hw111_0), ((HB.out.cell (World.block_lt_of_cell? w _ hw111_1)).trans hw111_1), ((HB.out.cell (World.block_lt_of_cell? w _ hw111_2)).trans hw111_2)⟩⟩ (fun hHeld => ?_); refine with_tabW spec_PutItem.tab6 spec_PutItem.bits6 (fun HT_ HW_ => ?_)
  generalize wr.drew = w21 at HO_108000 BK104 BK105 BK106 BK107 HB hx111_0 hx111_1 hx111_2 hHeld ⊢
  refine yr_ 0 16 bq_101 HT_ ?_
  refine yr_ 1 17 bq_102 HT_ ?_
  refine yr_ 2 18 bq_103 HT_ ?_
  refine yr_ 3 19 bq_104 HT_ ?_
  refine yr_ 5 21 #[true, true, true, true, false, true, false, false, false, false, false, false, false] HT_ ?_
  refine yr_ 9 25 #[true, true, true, true, false, true, false, false, false, true, false, false, false] HT_ ?_
  refine tr_ 4 20 #[true, true, true, true, true, true, false, false, false, true, false, false, false] HT_ HW_ hHeld ?_
  refine yr_ 6 22 #[true, true, true, true, true, true, true, false, false, true, false, false, false] HT_ ?_
  refine yr_ 7 23 #[true, true, true, true, true, true, true, true, false, true, false, false, false] HT_ ?_
  refine tr_ 8 24 bq_105 HT_ HW_ hHeld ?_
  refine tr_ 10 26 bq_106 HT_ HW_ hHeld ?_
  refine yr_ 11 27 bq_107 HT_ ?_
  refine yr_ 12 28 bq_108 HT_ ?_
  refine done_ (done_of HT_.out (by kernel_rfl)) ?_
  try go_wp2
  go_meet
  case rel => exact ⟨_, ((Op.bytesLess a1_0.toList (((rd_T44 l0_0 x7_1).f0).toList))), (by first | rfl | (simp; done) | exact congrArg Value.bool (bl_leq _ _) | exact congrArg Value.bool (bl_gtr _ _) | (simp only [Value.bool.injEq]; first | exact bl_leq _ _ | exact bl_gtr ..) | (simp [*]; done)), H', ⟨tq_122⟩, ⟨(raR_ HO_108000)⟩, ⟨(kb_ BK104)⟩, ⟨(kb_ BK105)⟩, ⟨(kb_ BK106)⟩, ⟨(kb_ BK107)⟩, ⟨th_⟩⟩
 case rest =>
 clear HC17
 try clear c1; try clear p1; try clear q1; try clear hx1; try clear c2; try clear p2; try clear c7; try clear c8; try clear c9; try clear p11; try clear q11; try clear hx11; try clear c12; try clear c13; try clear c14; try clear c16; try clear c16b0; try clear c17; try clear c18; try clear c20; try clear c20b0; try clear hcz10_0; try clear hcz15_0; try clear hfz10_0; try clear hfz15_0; try clear hx111_0; try clear hx111_1; try clear hx111_2; try clear p111; try clear p2; try clear q111
 obtain ⟨kq, x28_16, rfl, HA, HJ16, HO_108000, BK104, BK105, BK106, BK107, HB⟩ := hcut
 cases kq with
 | zero => exact absurd HA.out (by simp [spec_PutItem.j1])
 | succ kj16 =>
 have H := HA.out
 clear HA
 simp only [spec_PutItem.j1] at H
 by_cases c22 : x28_16 = true
 rotate_left
 ·replace c22 := Bool.eq_false_iff.mpr c22
  subst c22
  rw [if_neg nf_] at H
  obtain ⟨c45, H⟩ := fc_ H
  have c45b0 := decide_eq_true c45
  clear c45
  obtain ⟨c46, H⟩ := fc_ H
  have c46b0 := decide_eq_true c46
  clear c46
  have HC47 := Aside0.mk H
  clear H
  try go_wp2
  have z_ := p_ (Kd.R_drew HO_108000.out) <| dw4_ BK104 BK105 BK106 BK107 HB
  clear HO_108000 BK104 BK105 BK106 BK107 HB
  obtain ⟨HO_108000, BK104, BK105, BK106, BK107, HB⟩ := z_
  have p120 : 0 ≤ (x7_1 : Int) := of_decide_eq_true tq_3
  have q120 : x7_1 < (l0_0.length : Int) := of_decide_eq_true tq_3
  obtain ⟨ad120, e120, hx120_0, hx120_1, hx120_2⟩ := at_T44 HR0_0.out x7_1 p120 q120
  have hw120_2 := hx120_2
  have hw120_1 := hx120_1
  have hw120_0 := hx120_0
  cases e120
  replace hx120_0 := hx_ HB.out hx120_0
  replace hx120_1 := hx_ HB.out hx120_1
  replace hx120_2 := hx_ HB.out hx120_2
  replace p120 := eq_true p120
  replace q120 := eq_true q120
  refine start_ (n := 9) (S := fun w' => w'.cell? ⟨gb104, 0, none⟩ = some (.slice (some ad120) l0_0.length c0_0) ∧ w'.cell? ⟨gb105, 0, none⟩ = some (.string a1_0) ∧ w'.cell? ⟨gb105, 1, none⟩ = some (.bool a1_1) ∧ w'.cell? ⟨gb105, 2, none⟩ = some (.string a1_2) ∧ w'.cell? (ad120.add ((x7_1).toNat * 3)) = some (.string ((rd_T44 l0_0 x7_1).f0)) ∧ w'.cell? ⟨(ad120.add ((x7_1).toNat * 3)).block, (ad120.add ((x7_1).toNat * 3)).off + 1, none⟩ = some (.bool ((rd_T44 l0_0 x7_1).f1)) ∧ w'.cell? ⟨(ad120.add ((x7_1).toNat * 3)).block, (ad120.add ((x7_1).toNat * 3)).off + 2, none⟩ = some (.string ((rd_T44 l0_0 x7_1).f2))) (ds := []) bq_41 (by kernel_rfl) rfl rfl ⟨(blk_cell BK104.out 0).trans rfl, bc3_ BK105.out ⟨((HB.out.cell (World.block_lt_of_cell? w _ hw120_0)).trans hw120_0), ((HB.out.cell (World.block_lt_of_cell? w _ hw120_1)).trans hw120_1), ((HB.out.cell (World.block_lt_of_cell? w _ hw120_2)).trans hw120_2)⟩⟩ (fun hHeld => ?_); refine with_tabW spec_PutItem.tab9 spec_PutItem.bits9 (fun HT_ HW_ => ?_)
  generalize wc.drew = w48 at HO_108000 BK104 BK105 BK106 BK107 HB hx120_0 hx120_1 hx120_2 hHeld ⊢
  refine yr_ 0 35 bq_109 HT_ ?_
  refine yr_ 2 37 bq_82 HT_ ?_
  refine yr_ 6 41 bq_110 HT_ ?_
  refine tr_ 1 36 bq_111 HT_ HW_ hHeld ?_
  refine yr_ 3 38 bq_112 HT_ ?_
  refine yr_ 4 39 bq_113 HT_ ?_
  refine tr_ 5 40 bq_42 HT_ HW_ hHeld ?_
  refine tr_ 7 42 bq_43 HT_ HW_ hHeld ?_
  refine yr_ 8 43 bq_44 HT_ ?_
  refine done_ (done_of HT_.out (by kernel_rfl)) ?_
  go_upto_if 43 with (fail)
  (try clear hx120_0 hx120_1 hx120_2)
  have H := HC47.out
  clear HC47
  by_cases c49 : ((rd_T44 l0_0 x7_1).f0).toList = a1_0.toList
  ·rw [if_pos c49] at H
   have c49b0 := beq_iff_eq.mpr c49
   have c49b1 := bne_eq_false_iff_eq.mpr c49
   clear c49
   (first | rw [c49b0] | (simp only [i64_w, i32_w]; rw [c49b0]) | skip)
   have H' := Aside0.mk H
   clear H
   go_wp2
   go_roundg kj16
   case measure => have := HK1.out; have := HJ16.out; omega
   case rel => exact ⟨(x6_1), (wrap64 (x7_1 + 1)), (x108000_1), (u108000), tq_5, tq_5, H', ⟨(by have := HK1.out; have := HJ16.out; omega)⟩, ⟨(raR_ HO_108000)⟩, ⟨(kb_ BK104)⟩, ⟨(kb_ BK105)⟩, ⟨(kb_ BK106)⟩, ⟨(kb_ BK107)⟩, ⟨th_⟩⟩
  rw [if_neg c49] at H
  have c49b0 := beq_eq_false_iff_ne.mpr c49
  have c49b1 := bne_iff_ne.mpr c49
  (first | rw [c49b0] | (simp only [i64_w, i32_w]; rw [c49b0]) | skip)
  obtain ⟨c50, H⟩ := fc_ H
  have LMc50 := Aside0.mk c50
  clear c50
  obtain ⟨y122, hy122⟩ : ∃ y_ : List (S44), y_ = (x108000_1 ++ [(⟨(rd_T44 l0_0 x7_1).f0, (rd_T44 l0_0 x7_1).f1, (rd_T44 l0_0 x7_1).f2⟩ : S44)]) := ⟨_, rfl⟩
  replace H : (spec_PutItem.l0 kj16 x6_1 (wrap64 (x7_1 + 1)) l0_0 a1_0 a1_1 a1_2 y122) = some r := by first | (rw [hy122]; with_reducible exact H) | (have H2_ := (Option.bind_some _ _).symm.trans H; rw [hy122]; with_reducible exact H2_) | (have H2_ := (Option.bind_some _ _).symm.trans H; with_reducible exact H2_) | with_reducible exact H | (rw [hy122]; exact H) | exact H
  have Ny122 := Aside0.mk hy122
  clear hy122
  have H' := Aside0.mk H
  clear H
  try go_wp2
  have z_ := p_ (Kd.R_drew HO_108000.out) <| dw4_ BK104 BK105 BK106 BK107 HB
  clear HO_108000 BK104 BK105 BK106 BK107 HB
  obtain ⟨HO_108000, BK104, BK105, BK106, BK107, HB⟩ := z_
  have p121 : 0 ≤ (x7_1 : Int) := of_decide_eq_true tq_3
  have q121 : x7_1 < (l0_0.length : Int) := of_decide_eq_true tq_3
  obtain ⟨ad121, e121, hx121_0, hx121_1, hx121_2⟩ := at_T44 HR0_0.out x7_1 p121 q121
  have hw121_2 := hx121_2
  have hw121_1 := hx121_1
  have hw121_0 := hx121_0
  obtain rfl : ad120 = ad121 := (by injection e121)
  replace hx121_0 := hx_ HB.out hx121_0
  replace hx121_1 := hx_ HB.out hx121_1
  replace hx121_2 := hx_ HB.out hx121_2
  replace p121 := eq_true p121
  replace q121 := eq_true q121
  refine start_ (n := 11) (S := fun w' => w'.cell? ⟨gb107, 0, none⟩ = some (u108000) ∧ w'.cell? ⟨gb104, 0, none⟩ = some (.slice (some ad120) l0_0.length c0_0) ∧ w'.cell? (ad120.add ((x7_1).toNat * 3)) = some (.string ((rd_T44 l0_0 x7_1).f0)) ∧ w'.cell? ⟨(ad120.add ((x7_1).toNat * 3)).block, (ad120.add ((x7_1).toNat * 3)).off + 1, none⟩ = some (.bool ((rd_T44 l0_0 x7_1).f1)) ∧ w'.cell? ⟨(ad120.add ((x7_1).toNat * 3)).block, (ad120.add ((x7_1).toNat * 3)).off + 2, none⟩ = some (.string ((rd_T44 l0_0 x7_1).f2))) (ds := [10]) bq_45 (by kernel_rfl) rfl rfl ⟨(blk_cell BK107.out 0).trans rfl, (blk_cell BK104.out 0).trans rfl, ((HB.out.cell (World.block_lt_of_cell? w _ hw121_0)).trans hw121_0), ((HB.out.cell (World.block_lt_of_cell? w _ hw121_1)).trans hw121_1), ((HB.out.cell (World.block_lt_of_cell? w _ hw121_2)).trans hw121_2)⟩ (fun hHeld => ?_); refine with_tabW spec_PutItem.tab10 spec_PutItem.bits10 (fun HT_ HW_ => ?_)
  generalize w48.drew = w51 at HO_108000 BK104 BK105 BK106 BK107 HB hx121_0 hx121_1 hx121_2 hHeld ⊢
  refine yr_ 0 44 bq_69 HT_ ?_
  refine yr_ 2 46 bq_70 HT_ ?_
  refine yr_ 4 48 bq_71 HT_ ?_
  refine tr_ 1 45 bq_72 HT_ HW_ hHeld ?_
  refine tr_ 3 47 bq_46 HT_ HW_ hHeld ?_
  refine yr_ 5 49 bq_47 HT_ ?_
  refine tr_ 6 50 bq_48 HT_ HW_ hHeld ?_
  refine one_ (i := 7) (N := some 51) bq_49 rfl rfl (one_of HT_.out (by kernel_rfl)) (by decide) (fun K hK => ?_)
  refine value_ (w1 := ?_) (v := ?_) (by rfl) rfl ?_ ?_
  rotate_left 2
  ·go_simp
   constructor
   ·rfl
   ·rfl
  refine hK.out _ _ ⟨(blk_cell (blk_alloc BK107.out _) 0).trans rfl, (blk_cell (blk_alloc BK104.out _) 0).trans rfl, (World.cell?_alloc_lt _ _ _ (World.block_lt_of_cell? _ _ (((HB.out.cell (World.block_lt_of_cell? w _ hw121_0)).trans hw121_0)))).trans (((HB.out.cell (World.block_lt_of_cell? w _ hw121_0)).trans hw121_0)), (World.cell?_alloc_lt _ _ _ (World.block_lt_of_cell? _ _ (((HB.out.cell (World.block_lt_of_cell? w _ hw121_1)).trans hw121_1)))).trans (((HB.out.cell (World.block_lt_of_cell? w _ hw121_1)).trans hw121_1)), (World.cell?_alloc_lt _ _ _ (World.block_lt_of_cell? _ _ (((HB.out.cell (World.block_lt_of_cell? w _ hw121_2)).trans hw121_2)))).trans (((HB.out.cell (World.block_lt_of_cell? w _ hw121_2)).trans hw121_2))⟩ (fun hHeld => ?_)
  clear hK K
  refine nm_ (some 51) ?_
  refine one_ (i := 8) (N := some 52) bq_50 rfl rfl (one_of HT_.out (by kernel_rfl)) (by decide) (fun K hK => ?_)
  refine Kd.R_append_step k44 (w0 := w) w.heap.size (by rfl) (.tmp 45) (.tmp 51) 40 44 (.agg #[(.string ⟨#[]⟩), (.bool false), (.string ⟨#[]⟩)]) 40 rfl Try.underlying40 info44 rfl (by decide) (by omega) u108000 x108000_1 (⟨(rd_T44 l0_0 x7_1).f0, (rd_T44 l0_0 x7_1).f1, (rd_T44 l0_0 x7_1).f2⟩ : S44) [.string ((rd_T44 l0_0 x7_1).f0), .bool ((rd_T44 l0_0 x7_1).f1), .string ((rd_T44 l0_0 x7_1).f2)] (fun k_ => k_ ≠ gb105) (fun _ => False) rfl rfl ?aP (fun _ hk => hk.elim) ?aF ?aO ?aB ?aS ?aL ?_
  (case aP => exact k44_mkM _ _ _ (⟨(rd_T44 l0_0 x7_1).f0, (rd_T44 l0_0 x7_1).f1, (rd_T44 l0_0 x7_1).f2⟩ : S44))
  (case aB => exact th_)
  (case aF => exact tq_73)
  (case aO => exact (raR_ HO_108000))
  (case aS => exact (below_size th_))
  (case aL => have := LMc50.out; omega)
  intro v123 w52 ho hb hg hat
  rw [← Ny122.out] at ho
  have z_ := p_ (blk_grown (g := gb104) (o := .cells #[.slice (some ad120) l0_0.length c0_0] 42 (0, 0)) (kb_ BK104) hg (Kd.R_ne HO_108000.out BK104.out (by decide))) <| p_ (blk_grown (g := gb105) (o := .cells #[.string a1_0, .bool a1_1, .string a1_2] 44 (0, 0)) (kb_ BK105) hg (Kd.R_away HO_108000.out (fun _ hk => hk))) <| p_ (blk_grown (g := gb106) (o := .cells #[.slice none 0 0] 42 (0, 0)) (kb_ BK106) hg (Kd.R_ne HO_108000.out BK106.out (by decide))) <| p_ (blk_grown (g := gb107) (o := .cells #[u108000] 42 (0, 0)) (kb_ BK107) hg (Kd.R_ne HO_108000.out BK107.out (by decide))) <| p_ (hb) <| a_ (ho)
  clear BK104 BK105 BK106 BK107 HB HO_108000
  obtain ⟨BK104, BK105, BK106, BK107, HB, HO124⟩ := z_
  clear ho hb hg hat
  obtain ⟨Ao53, co53, eo53⟩ := Kd.R_slice HO124.out
  (first | subst eo53 | (injection eo53 with f1_ f2_ f3_; have f4_ := f1_.symm; have f5_ := f3_.symm; clear f1_ f2_ f3_; subst f4_; subst f5_))
  refine hK.out _ _ ⟨(blk_cell BK107.out 0).trans rfl, (blk_cell BK104.out 0).trans rfl, ((HB.out.cell (World.block_lt_of_cell? w _ hw121_0)).trans hw121_0), ((HB.out.cell (World.block_lt_of_cell? w _ hw121_1)).trans hw121_1), ((HB.out.cell (World.block_lt_of_cell? w _ hw121_2)).trans hw121_2)⟩ (fun hHeld => ?_)
  clear hK K
  refine nm_ (some 52) ?_
  refine yr_ 9 53 bq_51 HT_ ?_
  refine last_ (i := 10) (N := none) bq_52 rfl rfl (one_of HT_.out (by kernel_rfl)) (by decide) (fun K hK => ?_)
  have hs54 : w52.cell? ⟨gb107, 0, none⟩ = some (u108000) := (blk_cell BK107.out 0).trans rfl
  have hfs54 := blk_frozen BK107.out 0
  obtain ⟨n104_107, n105_107, n106_107, n107_104, n107_105, n107_106⟩ := an6_ NB104_107 NB105_107 NB106_107 NB107_104 NB107_105 NB107_106
  refine skip_ (w1 := ?_) (by rfl) rfl ?_ ?_
  rotate_left
  ·go_simp
   rfl
  refine hK.out _ _ ?_
  clear hK K
  refine done_ (done_of HT_.out (by kernel_rfl)) ?_
  try go_wp2
  go_roundg kj16
  case measure => have := HK1.out; have := HJ16.out; omega
  case rel => exact ⟨(x6_1), (wrap64 (x7_1 + 1)), (y122), (.slice Ao53 y122.length co53), tq_5, tq_5, H', ⟨(by have := HK1.out; have := HJ16.out; omega)⟩, ⟨(by (with_reducible repeat (first | apply Kd.R_alloc | apply Kd.R_drewN | apply Kd.R_drew)); exact Kd.R_mono (rR_ (Kd.R_types HO124.out BK107.out (by decide))) (fun _ hk => hk.1))⟩, ⟨tb_⟩, ⟨tb_⟩, ⟨tb_⟩, ⟨tb_⟩, ⟨th_⟩⟩
 subst c22
 rw [if_pos rfl] at H
 obtain ⟨c23, H⟩ := fc_ H
 have LMc23 := Aside0.mk c23
 clear c23
 obtain ⟨y112, Ny112, H⟩ := bs_ H
 obtain ⟨c24, H⟩ := fc_ H
 have c24b0 := decide_eq_true c24
 clear c24
 obtain ⟨c25, H⟩ := fc_ H
 have c25b0 := decide_eq_true c25
 clear c25
 have HC26 := Aside0.mk H
 clear H
 obtain ⟨n107_104, n104_107, n107_105, n105_107, n107_106, n106_107⟩ := an6_ NB107_104 NB104_107 NB107_105 NB105_107 NB107_106 NB106_107
 have hcz30_0 := bc_ BK107.out 0
 have hfz30_0 := blk_frozen BK107.out 0
 obtain ⟨n105_104, n104_105, n105_106, n106_105⟩ := an4_ NB105_104 NB104_105 NB105_106 NB106_105
 obtain ⟨hcz33_0, hcz33_1, hcz33_2⟩ := bk3_ BK105.out
 obtain ⟨hfz33_0, hfz33_1, hfz33_2⟩ := bf3_ BK105.out
 try go_wp2_with (first | ((with_reducible refine gate_builtin (b := .append) (xs := #[.tmp 30, .tmp 32]) rfl ?_); at_builtin; refine Kd.R_append k44 (w0 := w) w.heap.size rfl (.tmp 30) (.tmp 32) 40 44 (.agg #[(.string ⟨#[]⟩), (.bool false), (.string ⟨#[]⟩)]) 40 rfl Try.underlying40 info44 rfl (by decide) (by omega) u108000 x108000_1 (⟨a1_0, a1_1, a1_2⟩ : S44) [.string a1_0, .bool a1_1, .string a1_2] (fun k_ => k_ ≠ gb105) (fun _ => False) rfl rfl ?aP (fun _ hk => hk.elim) ?aF ?aO ?aB ?aS ?aL ?_; (case aP => exact k44_mkM _ _ _ (⟨a1_0, a1_1, a1_2⟩ : S44)); (case aB => exact th_); (case aF => exact tq_73); (case aO => exact (raR_ HO_108000)); (case aS => exact (below_size th_)); (case aL => have := LMc23.out; omega); intro v113 w34 ho hb hg hat; rw [← Ny112.out] at ho; have z_ := p_ (blk_grown (g := gb104) (o := .cells #[.slice A0_0 l0_0.length c0_0] 42 (0, 0)) (kb_ BK104) hg (Kd.R_ne HO_108000.out BK104.out (by decide))) <| p_ (blk_grown (g := gb105) (o := .cells #[.string a1_0, .bool a1_1, .string a1_2] 44 (0, 0)) (kb_ BK105) hg (Kd.R_away HO_108000.out (fun _ hk => hk))) <| p_ (blk_grown (g := gb106) (o := .cells #[.slice none 0 0] 42 (0, 0)) (kb_ BK106) hg (Kd.R_ne HO_108000.out BK106.out (by decide))) <| p_ (blk_grown (g := gb107) (o := .cells #[u108000] 42 (0, 0)) (kb_ BK107) hg (Kd.R_ne HO_108000.out BK107.out (by decide))) <| p_ (hb) <| a_ (ho); clear BK104 BK105 BK106 BK107 HB HO_108000; obtain ⟨BK104, BK105, BK106, BK107, HB, HO114⟩ := z_; clear ho hb hg hat; obtain ⟨Ao35, co35, eo35⟩ := Kd.R_slice HO114.out; subst eo35; have hcz36_0 := bc_ BK107.out 0; have hfz36_0 := blk_frozen BK107.out 0))
 have n0_ : Aside0 (Kd.R k44 44 (w34.setCell ⟨gb107, 0, none⟩ (.slice Ao35 y112.length co35)) w.heap.size (fun k_ => k_ ≠ gb105) (.slice Ao35 y112.length co35) y112) := ⟨(by (with_reducible repeat (first | apply Kd.R_alloc | apply Kd.R_drewN | apply Kd.R_drew)); exact Kd.R_mono (rR_ (Kd.R_types HO114.out BK107.out (by decide))) (fun _ hk => hk.1))⟩
 have n1_ : Aside0 ((w34.setCell ⟨gb107, 0, none⟩ (.slice Ao35 y112.length co35)).heap[gb104]? = some (.cells #[.slice A0_0 l0_0.length c0_0] 42 (0, 0))) := ⟨tb_⟩
 have n2_ : Aside0 ((w34.setCell ⟨gb107, 0, none⟩ (.slice Ao35 y112.length co35)).heap[gb105]? = some (.cells #[.string a1_0, .bool a1_1, .string a1_2] 44 (0, 0))) := ⟨tb_⟩
 have n3_ : Aside0 ((w34.setCell ⟨gb107, 0, none⟩ (.slice Ao35 y112.length co35)).heap[gb106]? = some (.cells #[.slice none 0 0] 42 (0, 0))) := ⟨tb_⟩
 have n4_ : Aside0 ((w34.setCell ⟨gb107, 0, none⟩ (.slice Ao35 y112.length co35)).heap[gb107]? = some (.cells #[.slice Ao35 y112.length co35] 42 (0, 0))) := ⟨tb_⟩
 have n5_ : Aside0 (Below w.heap.size w (w34.setCell ⟨gb107, 0, none⟩ (.slice Ao35 y112.length co35))) := ⟨th_⟩
 (try clear HO114)
 (try clear BK104)
 (try clear BK105)
 (try clear BK106)
 (try clear BK107)
 (try clear HB)
 generalize (w34.setCell ⟨gb107, 0, none⟩ (.slice Ao35 y112.length co35)) = w37 at n0_ n1_ n2_ n3_ n4_ n5_ ⊢
 have HO114 := n0_
 have BK104 := n1_
 have BK105 := n2_
 have BK106 := n3_
 have BK107 := n4_
 have HB := n5_
 clear n0_ n1_ n2_ n3_ n4_ n5_
 have z_ := p_ (Kd.R_drew HO114.out) <| dw4_ BK104 BK105 BK106 BK107 HB
 clear HO114 BK104 BK105 BK106 BK107 HB
 obtain ⟨HO114, BK104, BK105, BK106, BK107, HB⟩ := z_
 have p115 : 0 ≤ (x7_1 : Int) := of_decide_eq_true tq_3
 have q115 : x7_1 < (l0_0.length : Int) := of_decide_eq_true tq_3
 obtain ⟨ad115, e115, hx115_0, hx115_1, hx115_2⟩ := at_T44 HR0_0.out x7_1 p115 q115
 have hw115_2 := hx115_2
 have hw115_1 := hx115_1
 have hw115_0 := hx115_0
 cases e115
 replace hx115_0 := hx_ HB.out hx115_0
 replace hx115_1 := hx_ HB.out hx115_1
 replace hx115_2 := hx_ HB.out hx115_2
 replace p115 := eq_true p115
 replace q115 := eq_true q115
 refine start_ (n := 9) (S := fun w' => w'.cell? ⟨gb104, 0, none⟩ = some (.slice (some ad115) l0_0.length c0_0) ∧ w'.cell? ⟨gb105, 0, none⟩ = some (.string a1_0) ∧ w'.cell? ⟨gb105, 1, none⟩ = some (.bool a1_1) ∧ w'.cell? ⟨gb105, 2, none⟩ = some (.string a1_2) ∧ w'.cell? (ad115.add ((x7_1).toNat * 3)) = some (.string ((rd_T44 l0_0 x7_1).f0)) ∧ w'.cell? ⟨(ad115.add ((x7_1).toNat * 3)).block, (ad115.add ((x7_1).toNat * 3)).off + 1, none⟩ = some (.bool ((rd_T44 l0_0 x7_1).f1)) ∧ w'.cell? ⟨(ad115.add ((x7_1).toNat * 3)).block, (ad115.add ((x7_1).toNat * 3)).off + 2, none⟩ = some (.string ((rd_T44 l0_0 x7_1).f2))) (ds := []) bq_41 (by kernel_rfl) rfl rfl ⟨(blk_cell BK104.out 0).trans rfl, bc3_ BK105.out ⟨((HB.out.cell (World.block_lt_of_cell? w _ hw115_0)).trans hw115_0), ((HB.out.cell (World.block_lt_of_cell? w _ hw115_1)).trans hw115_1), ((HB.out.cell (World.block_lt_of_cell? w _ hw115_2)).trans hw115_2)⟩⟩ (fun hHeld => ?_); refine with_tabW spec_PutItem.tab9 spec_PutItem.bits9 (fun HT_ HW_ => ?_)
 generalize w37.drew = w38 at HO114 BK104 BK105 BK106 BK107 HB hx115_0 hx115_1 hx115_2 hHeld ⊢
 refine yr_ 0 35 bq_109 HT_ ?_
 refine yr_ 2 37 bq_82 HT_ ?_
 refine yr_ 6 41 bq_110 HT_ ?_
 refine tr_ 1 36 bq_111 HT_ HW_ hHeld ?_
 refine yr_ 3 38 bq_112 HT_ ?_
 refine yr_ 4 39 bq_113 HT_ ?_
 refine tr_ 5 40 bq_42 HT_ HW_ hHeld ?_
 refine tr_ 7 42 bq_43 HT_ HW_ hHeld ?_
 refine yr_ 8 43 bq_44 HT_ ?_
 refine done_ (done_of HT_.out (by kernel_rfl)) ?_
 go_upto_if 43 with (fail)
 (try clear n104_105 n104_107 n105_104 n105_106 n105_107 n106_105 n106_107 n107_104 n107_105 n107_106)
 (try clear hcz33_0 hcz33_1 hcz33_2)
 (try clear hfz33_0 hfz33_1 hfz33_2)
 (try clear hx115_0 hx115_1 hx115_2)
 have H := HC26.out
 clear HC26
 by_cases c39 : ((rd_T44 l0_0 x7_1).f0).toList = a1_0.toList
 ·rw [if_pos c39] at H
  have c39b0 := beq_iff_eq.mpr c39
  have c39b1 := bne_eq_false_iff_eq.mpr c39
  clear c39
  (first | rw [c39b0] | (simp only [i64_w, i32_w]; rw [c39b0]) | skip)
  have H' := Aside0.mk H
  clear H
  go_wp2
  go_roundg kj16
  case measure => have := HK1.out; have := HJ16.out; omega
  case rel => exact ⟨(true), (wrap64 (x7_1 + 1)), (y112), (.slice Ao35 y112.length co35), tq_5, tq_5, H', ⟨(by have := HK1.out; have := HJ16.out; omega)⟩, ⟨(raR_ HO114)⟩, ⟨(kb_ BK104)⟩, ⟨(kb_ BK105)⟩, ⟨(kb_ BK106)⟩, ⟨(kb_ BK107)⟩, ⟨th_⟩⟩
 rw [if_neg c39] at H
 have c39b0 := beq_eq_false_iff_ne.mpr c39
 have c39b1 := bne_iff_ne.mpr c39
 (first | rw [c39b0] | (simp only [i64_w, i32_w]; rw [c39b0]) | skip)
 obtain ⟨c40, H⟩ := fc_ H
 have LMc40 := Aside0.mk c40
 clear c40
 obtain ⟨y117, hy117⟩ : ∃ y_ : List (S44), y_ = (y112 ++ [(⟨(rd_T44 l0_0 x7_1).f0, (rd_T44 l0_0 x7_1).f1, (rd_T44 l0_0 x7_1).f2⟩ : S44)]) := ⟨_, rfl⟩
 replace H : (spec_PutItem.l0 kj16 true (wrap64 (x7_1 + 1)) l0_0 a1_0 a1_1 a1_2 y117) = some r := by first | (rw [hy117]; with_reducible exact H) | (have H2_ := (Option.bind_some _ _).symm.trans H; rw [hy117]; with_reducible exact H2_) | (have H2_ := (Option.bind_some _ _).symm.trans H; with_reducible exact H2_) | with_reducible exact H | (rw [hy117]; exact H) | exact H
 have Ny117 := Aside0.mk hy117
 clear hy117
 have H' := Aside0.mk H
 clear H
 try go_wp2
 have z_ := p_ (Kd.R_drew HO114.out) <| dw4_ BK104 BK105 BK106 BK107 HB
 clear HO114 BK104 BK105 BK106 BK107 HB
 obtain ⟨HO114, BK104, BK105, BK106, BK107, HB⟩ := z_
 have p116 : 0 ≤ (x7_1 : Int) := of_decide_eq_true tq_3
 have q116 : x7_1 < (l0_0.length : Int) := of_decide_eq_true tq_3
 obtain ⟨ad116, e116, hx116_0, hx116_1, hx116_2⟩ := at_T44 HR0_0.out x7_1 p116 q116
 have hw116_2 := hx116_2
 have hw116_1 := hx116_1
 have hw116_0 := hx116_0
 obtain rfl : ad115 = ad116 := (by injection e116)
 replace hx116_0 := hx_ HB.out hx116_0
 replace hx116_1 := hx_ HB.out hx116_1
 replace hx116_2 := hx_ HB.out hx116_2
 replace p116 := eq_true p116
 replace q116 := eq_true q116
 refine start_ (n := 11) (S := fun w' => w'.cell? ⟨gb107, 0, none⟩ = some (.slice Ao35 y112.length co35) ∧ w'.cell? ⟨gb104, 0, none⟩ = some (.slice (some ad115) l0_0.length c0_0) ∧ w'.cell? (ad115.add ((x7_1).toNat * 3)) = some (.string ((rd_T44 l0_0 x7_1).f0)) ∧ w'.cell? ⟨(ad115.add ((x7_1).toNat * 3)).block, (ad115.add ((x7_1).toNat * 3)).off + 1, none⟩ = some (.bool ((rd_T44 l0_0 x7_1).f1)) ∧ w'.cell? ⟨(ad115.add ((x7_1).toNat * 3)).block, (ad115.add ((x7_1).toNat * 3)).off + 2, none⟩ = some (.string ((rd_T44 l0_0 x7_1).f2))) (ds := [10]) bq_45 (by kernel_rfl) rfl rfl ⟨(blk_cell BK107.out 0).trans rfl, (blk_cell BK104.out 0).trans rfl, ((HB.out.cell (World.block_lt_of_cell? w _ hw116_0)).trans hw116_0), ((HB.out.cell (World.block_lt_of_cell? w _ hw116_1)).trans hw116_1), ((HB.out.cell (World.block_lt_of_cell? w _ hw116_2)).trans hw116_2)⟩ (fun hHeld => ?_); refine with_tabW spec_PutItem.tab10 spec_PutItem.bits10 (fun HT_ HW_ => ?_)
 generalize w38.drew = w41 at HO114 BK104 BK105 BK106 BK107 HB hx116_0 hx116_1 hx116_2 hHeld ⊢
 refine yr_ 0 44 bq_69 HT_ ?_
 refine yr_ 2 46 bq_70 HT_ ?_
 refine yr_ 4 48 bq_71 HT_ ?_
 refine tr_ 1 45 bq_72 HT_ HW_ hHeld ?_
 refine tr_ 3 47 bq_46 HT_ HW_ hHeld ?_
 refine yr_ 5 49 bq_47 HT_ ?_
 refine tr_ 6 50 bq_48 HT_ HW_ hHeld ?_
 refine one_ (i := 7) (N := some 51) bq_49 rfl rfl (one_of HT_.out (by kernel_rfl)) (by decide) (fun K hK => ?_)
 refine value_ (w1 := ?_) (v := ?_) (by rfl) rfl ?_ ?_
 rotate_left 2
 ·go_simp
  constructor
  ·rfl
  ·rfl
 refine hK.out _ _ ⟨(blk_cell (blk_alloc BK107.out _) 0).trans rfl, (blk_cell (blk_alloc BK104.out _) 0).trans rfl, (World.cell?_alloc_lt _ _ _ (World.block_lt_of_cell? _ _ (((HB.out.cell (World.block_lt_of_cell? w _ hw116_0)).trans hw116_0)))).trans (((HB.out.cell (World.block_lt_of_cell? w _ hw116_0)).trans hw116_0)), (World.cell?_alloc_lt _ _ _ (World.block_lt_of_cell? _ _ (((HB.out.cell (World.block_lt_of_cell? w _ hw116_1)).trans hw116_1)))).trans (((HB.out.cell (World.block_lt_of_cell? w _ hw116_1)).trans hw116_1)), (World.cell?_alloc_lt _ _ _ (World.block_lt_of_cell? _ _ (((HB.out.cell (World.block_lt_of_cell? w _ hw116_2)).trans hw116_2)))).trans (((HB.out.cell (World.block_lt_of_cell? w _ hw116_2)).trans hw116_2))⟩ (fun hHeld => ?_)
 clear hK K
 refine nm_ (some 51) ?_
 refine one_ (i := 8) (N := some 52) bq_50 rfl rfl (one_of HT_.out (by kernel_rfl)) (by decide) (fun K hK => ?_)
 refine Kd.R_append_step k44 (w0 := w) w.heap.size (by rfl) (.tmp 45) (.tmp 51) 40 44 (.agg #[(.string ⟨#[]⟩), (.bool false), (.string ⟨#[]⟩)]) 40 rfl Try.underlying40 info44 rfl (by decide) (by omega) (.slice Ao35 y112.length co35) y112 (⟨(rd_T44 l0_0 x7_1).f0, (rd_T44 l0_0 x7_1).f1, (rd_T44 l0_0 x7_1).f2⟩ : S44) [.string ((rd_T44 l0_0 x7_1).f0), .bool ((rd_T44 l0_0 x7_1).f1), .string ((rd_T44 l0_0 x7_1).f2)] (fun k_ => k_ ≠ gb105) (fun _ => False) rfl rfl ?aP (fun _ hk => hk.elim) ?aF ?aO ?aB ?aS ?aL ?_
 (case aP => exact k44_mkM _ _ _ (⟨(rd_T44 l0_0 x7_1).f0, (rd_T44 l0_0 x7_1).f1, (rd_T44 l0_0 x7_1).f2⟩ : S44))
 (case aB => exact th_)
 (case aF => exact tq_73)
 (case aO => exact (raR_ HO114))
 (case aS => exact (below_size th_))
 (case aL => have := LMc40.out; omega)
 intro v118 w42 ho hb hg hat
 rw [← Ny117.out] at ho
 have z_ := p_ (blk_grown (g := gb104) (o := .cells #[.slice (some ad115) l0_0.length c0_0] 42 (0, 0)) (kb_ BK104) hg (Kd.R_ne HO114.out BK104.out (by decide))) <| p_ (blk_grown (g := gb105) (o := .cells #[.string a1_0, .bool a1_1, .string a1_2] 44 (0, 0)) (kb_ BK105) hg (Kd.R_away HO114.out (fun _ hk => hk))) <| p_ (blk_grown (g := gb106) (o := .cells #[.slice none 0 0] 42 (0, 0)) (kb_ BK106) hg (Kd.R_ne HO114.out BK106.out (by decide))) <| p_ (blk_grown (g := gb107) (o := .cells #[.slice Ao35 y112.length co35] 42 (0, 0)) (kb_ BK107) hg (Kd.R_ne HO114.out BK107.out (by decide))) <| p_ (hb) <| a_ (ho)
 clear BK104 BK105 BK106 BK107 HB HO114
 obtain ⟨BK104, BK105, BK106, BK107, HB, HO119⟩ := z_
 clear ho hb hg hat
 obtain ⟨Ao43, co43, eo43⟩ := Kd.R_slice HO119.out
 (first | subst eo43 | (injection eo43 with f1_ f2_ f3_; have f4_ := f1_.symm; have f5_ := f3_.symm; clear f1_ f2_ f3_; subst f4_; subst f5_))
 refine hK.out _ _ ⟨(blk_cell BK107.out 0).trans rfl, (blk_cell BK104.out 0).trans rfl, ((HB.out.cell (World.block_lt_of_cell? w _ hw116_0)).trans hw116_0), ((HB.out.cell (World.block_lt_of_cell? w _ hw116_1)).trans hw116_1), ((HB.out.cell (World.block_lt_of_cell? w _ hw116_2)).trans hw116_2)⟩ (fun hHeld => ?_)
 clear hK K
 refine nm_ (some 52) ?_
 refine yr_ 9 53 bq_51 HT_ ?_
 refine last_ (i := 10) (N := none) bq_52 rfl rfl (one_of HT_.out (by kernel_rfl)) (by decide) (fun K hK => ?_)
 have hs44 : w42.cell? ⟨gb107, 0, none⟩ = some (.slice Ao35 y112.length co35) := (blk_cell BK107.out 0).trans rfl
 have hfs44 := blk_frozen BK107.out 0
 obtain ⟨n104_107, n105_107, n106_107, n107_104, n107_105, n107_106⟩ := an6_ NB104_107 NB105_107 NB106_107 NB107_104 NB107_105 NB107_106
 refine skip_ (w1 := ?_) (by rfl) rfl ?_ ?_
 rotate_left
 ·go_simp
  rfl
 refine hK.out _ _ ?_
 clear hK K
 refine done_ (done_of HT_.out (by kernel_rfl)) ?_
 try go_wp2
 go_roundg kj16
 case measure => have := HK1.out; have := HJ16.out; omega
 case rel => exact ⟨(true), (wrap64 (x7_1 + 1)), (y117), (.slice Ao43 y117.length co43), tq_5, tq_5, H', ⟨(by have := HK1.out; have := HJ16.out; omega)⟩, ⟨(by (with_reducible repeat (first | apply Kd.R_alloc | apply Kd.R_drewN | apply Kd.R_drew)); exact Kd.R_mono (rR_ (Kd.R_types HO119.out BK107.out (by decide))) (fun _ hk => hk.1))⟩, ⟨tb_⟩, ⟨tb_⟩, ⟨tb_⟩, ⟨tb_⟩, ⟨th_⟩⟩

end Go.Proofs.Ytljnnmpfeningaa.PFnViews
