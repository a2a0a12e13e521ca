/- Contracts of Go functions, written by a program of ours over the print of the kit: each says that the call returns what the Lean function beside it computes. Conditions: as each theorem states them. -/
import Derived.Test.YtjfhddenmnjgbaaDoorPkFnAnyInode
import Derived.Test.YtjfhddenmnjgbaaDoorPFnAnyInodex0
import Derived.Test.YtjfhddenmnjgbaaDoorPFnAnyInodex4
namespace Go.Proofs.YtjfhddenmnjgbaaDoor.PFnAnyInode
open Go.RowKit Go.Proofs.YtjfhddenmnjgbaaDoorW.PrintWords Go.Proofs.YtjfhddenmnjgbaaDoorW.PrintLast Go.Proofs.YtjfhddenmnjgbaaDoorW.PrintMore
attribute [local go_sem] max2_int min2_int max_two min_two max_three min_three max_four min_four setCell_drewN   -- for this text's walks alone
set_option linter.unusedVariables false
set_option linter.unusedSimpArgs false

/-! ### spec_ReadEntry: function 32 -/
def spec_ReadEntry.l0 : Nat → ByteArray → Int → Option (Int × ByteArray × Bool)
 | 0, _, _ => none
 | k + 1, x0, x4 => if x4 > 1 then (if 0 ≤ (wrap64 (x4 - 1)) then (if (wrap64 (x4 - 1)) < (x0.size : Int) then (if (bt x0 (wrap64 (x4 - 1))) = 0 then (spec_ReadEntry.l0 k x0 (wrap64 (x4 - 1))) else (if 0 < (x0.size : Int) then (if 1 ≤ x4 then (if x4 ≤ (x0.size : Int) then ((spec_EntryWord.f k (wrap64 (bt x0 0)) (x0.extract 1 (x4 : Int).toNat)).bind fun t139 => (if t139.toList = x0.toList then (some (wrap64 (bt x0 0), x0.extract 1 (x4 : Int).toNat, true)) else (some (0, (⟨#[]⟩ : ByteArray), false)))) else (none)) else (none)) else (none))) else (none)) else (none)) else (if 0 < (x0.size : Int) then (if 1 ≤ x4 then (if x4 ≤ (x0.size : Int) then ((spec_EntryWord.f k (wrap64 (bt x0 0)) (x0.extract 1 (x4 : Int).toNat)).bind fun t141 => (if t141.toList = x0.toList then (some (wrap64 (bt x0 0), x0.extract 1 (x4 : Int).toNat, true)) else (some (0, (⟨#[]⟩ : ByteArray), false)))) else (none)) else (none)) else (none))
def spec_ReadEntry.f (k : Nat) (a0 : ByteArray) : Option (Int × ByteArray × Bool) := if (a0.size : Int) = 8 then (spec_ReadEntry.l0 k a0 8) else (some (0, (⟨#[]⟩ : ByteArray), false))
theorem spec_ReadEntry.mono_l : ∀ k, (∀ y0 y1, LeO (spec_ReadEntry.l0 k y0 y1) (spec_ReadEntry.l0 (k + 1) y0 y1))
 | 0 => fun _ _ r h => by simp [spec_ReadEntry.l0] at h
 | k + 1 => by
  have ih0 := spec_ReadEntry.mono_l k
  ·intro y0 y1
   unfold spec_ReadEntry.l0
   repeat' first
   | (with_reducible exact ih0 ..)
   | (with_reducible exact spec_EntryWord.mono ..)
   | (with_reducible exact LeO.refl _)
   | (with_reducible exact LeO.none _)
   | (with_reducible refine LeO.ite ?_ ?_)
   | (with_reducible refine LeO.bind ?_ (fun _ => ?_))
   | exact ih0 ..
   | exact spec_EntryWord.mono ..
   | exact LeO.none _
   | refine LeO.ite ?_ ?_
   | refine LeO.bind ?_ (fun _ => ?_)
theorem spec_ReadEntry.mono : ∀ a0 k, LeO (spec_ReadEntry.f k a0) (spec_ReadEntry.f (k + 1) a0) := by
 intro a0 k
 have ih0 := spec_ReadEntry.mono_l k
 unfold spec_ReadEntry.f
 repeat' first
   | (with_reducible exact ih0 ..)
   | (with_reducible exact spec_EntryWord.mono ..)
   | (with_reducible exact LeO.refl _)
   | (with_reducible exact LeO.none _)
   | (with_reducible refine LeO.ite ?_ ?_)
   | (with_reducible refine LeO.bind ?_ (fun _ => ?_))
   | exact ih0 ..
   | exact spec_EntryWord.mono ..
   | exact LeO.none _
   | refine LeO.ite ?_ ?_
   | refine LeO.bind ?_ (fun _ => ?_)
def spec_ReadEntry.T6 : Bool × List (List Nat × List Nat) := (true, [([], []), ([0], [0]), ([1], [1]), ([], []), ([], []), ([3, 4], [3, 4]), ([2, 5], [2, 5]), ([], []), ([7, 6, 0, 1, 2, 3, 4, 5, 6, 7], [6, 7])])
def spec_ReadEntry.B6 : List Nat := [0, 1, 3, 0, 0, 24, 63, 0, 255]
theorem spec_ReadEntry.tab6 : rtab .any (opsOf Tryd.f32 6) = spec_ReadEntry.T6 := by kernel_rfl
theorem spec_ReadEntry.bits6 : waitsOk spec_ReadEntry.T6.2 spec_ReadEntry.B6 = true := by kernel_rfl
set_option maxHeartbeats 8000000 in
set_option maxRecDepth 100000 in
theorem spec_ReadEntry.calls (k : Nat) (a0 : ByteArray) (r1 : Int) (r2 : ByteArray) (r3 : Bool) (w : World) (h : spec_ReadEntry.f k a0 = some (r1, r2, r3)) :
  Calls Tryd.prog 32 #[.string a0] w fun e w' => e = .returned (.tuple #[.agg #[.int .i64 r1, .string r2], .bool r3]) ∧ Below w.heap.size w w' := by
 have hu47 := Tryd.underlying47
 have HB := Aside0.mk (Below.refl w.heap.size w)
 unfold spec_ReadEntry.f at h
 have H := h
 clear h
 by_cases c2 : (a0.size : Int) = 8
 rotate_left
 ·rw [if_neg c2] at H
  have c2b0 := beq_eq_false_iff_ne.mpr c2
  have c2b1 := bne_iff_ne.mpr c2
  simp only [Option.some.injEq, Prod.mk.injEq] at H
  obtain ⟨rfl, rfl, rfl⟩ := H
  go_enter Tryd.func32, Tryd.ntmps32
  go_wp2_with (first | ((with_reducible refine gate_dst (N := 2) rfl ?_); refine be_ 2 (cs := #[.int .i64 0, .string (⟨#[]⟩ : ByteArray)]) 47 ?_; intro gb137 hg w56 hbox hb; have z_ := bx0_ th_ hb hbox hg; clear HB; obtain ⟨HB, BK137, GW137, GE137⟩ := z_; clear hb hbox hg; obtain ⟨hcz57_0, hcz57_1⟩ := bk2_ BK137.out; obtain ⟨hfz57_0, hfz57_1⟩ := bf2_ BK137.out))
  refine bodyPost_ret (results_ct rfl _ _ gb137 47 #[.int .i64 0, .string (⟨#[]⟩ : ByteArray)] (0, 0) _ rfl tb_ Tryd.underlying47 rfl (by kernel_rfl)) rfl ?_
  exact ⟨tq_2, th_⟩
 rw [if_pos c2] at H
 have c2b0 := beq_iff_eq.mpr c2
 have c2b1 := bne_eq_false_iff_eq.mpr c2
 clear c2
 have H' := Aside0.mk H
 clear H
 go_enter Tryd.func32, Tryd.ntmps32
 go_wp2_with (first | ((with_reducible refine gate_dst (N := 2) rfl ?_); refine be_ 2 (cs := #[.int .i64 0, .string (⟨#[]⟩ : ByteArray)]) 47 ?_; intro gb137 hg w3 hbox hb; have z_ := bx0_ th_ hb hbox hg; clear HB; obtain ⟨HB, BK137, GW137, GE137⟩ := z_; clear hb hbox hg))
 go_loopg [4] k (fun kq v4 w' => ∃ (x4_1 : Int), v4 = .int .i64 x4_1 ∧ Aside0 (spec_ReadEntry.l0 kq a0 x4_1 = some (r1, r2, r3)) ∧ Aside0 (kq ≤ k) ∧ Aside0 (w'.heap[gb137]? = some (.cells #[.int .i64 0, .string (⟨#[]⟩ : ByteArray)] 47 (0, 0))) ∧ Aside0 (Below w.heap.size w w'))
 case atStart => exact ⟨(8), tq_4, H', ⟨Nat.le_refl _⟩, ⟨(kb_ BK137)⟩, ⟨th_⟩⟩
 case round =>
 clear H'
 try clear c2; try clear c2b0; try clear c2b1; try clear p2; try clear c3
 obtain ⟨x4_1, rfl, HA, HK1, BK137, HB⟩ := hrel
 cases gk with
 | zero => exact absurd HA.out (by simp [spec_ReadEntry.l0])
 | succ k1 =>
 have H := HA.out
 clear HA
 simp only [spec_ReadEntry.l0] at H
 by_cases c4 : x4_1 > 1
 rotate_left
 ·rw [if_neg c4] at H
  have c4b0 := decide_eq_false c4
  clear c4
  obtain ⟨c33, H⟩ := fc_ H
  have c33b0 := decide_eq_true c33
  have c33b1 : decide (0 < a0.size) = true := decide_eq_true (by omega)
  clear c33
  obtain ⟨c35, H⟩ := fc_ H
  have c35b0 := eq_true c35
  have c35b1 := decide_eq_true c35
  clear c35
  obtain ⟨c36, H⟩ := fc_ H
  have c36b0 := eq_true c36
  have c36b1 := decide_eq_true c36
  clear c36
  obtain ⟨t141, A37, H⟩ := bd_ H
  by_cases c38 : t141.toList = a0.toList
  rotate_left
  ·rw [if_neg c38] at H
   have c38b0 := beq_eq_false_iff_ne.mpr c38
   have c38b1 := bne_iff_ne.mpr c38
   simp only [Option.some.injEq, Prod.mk.injEq] at H
   obtain ⟨rfl, rfl, rfl⟩ := H
   try go_wp2
   have z_ := dw1_ BK137 HB
   clear BK137 HB
   obtain ⟨BK137, HB⟩ := z_
   have p34 : 0 ≤ (0 : Int) := (by omega)
   have q34 : 0 < a0.size := (by have : (0 : Int) < (a0.size : Int) := of_decide_eq_true tq_1; omega)
   have hx34 : ∀ h : 0 < a0.size, ((a0[0]'h).toNat : Int) = bt a0 0 := bt_at a0 0
   clear p34
   have qi34 : (0 < (a0.size : Int)) = True := eq_true (of_decide_eq_true tq_1)
   replace q34 := eq_true q34
   refine start_ (n := 9) (S := fun w' => True) (ds := []) bq_1 (by kernel_rfl) rfl rfl trivial (fun hHeld => ?_); refine with_tabW spec_ReadEntry.tab6 spec_ReadEntry.bits6 (fun HT_ HW_ => ?_)
   generalize wr.drew = w48 at BK137 HB hHeld ⊢
   refine yr_ 0 21 bq_2 HT_ ?_
   refine yr_ 3 24 bq_3 HT_ ?_
   refine yr_ 4 25 bq_4 HT_ ?_
   refine yr_ 5 26 bq_8 HT_ ?_
   refine take_ (i := 1) (N := some 22) (v := ?_) (a' := ?_) bq_9 rfl rfl (take_ofW HT_.out HW_.out (by kernel_rfl)) (fun _ _ _ h => h) (Or.inl ⟨(by rfl), ?_⟩) hHeld ?_ ?_
   rotate_left
   ·intro w' _
    go_simp
    with_reducible rfl
   rotate_left
   ·simp only [Act.put, List.setIfInBounds_toArray, List.set_cons_zero, List.set_cons_succ, i64_w, i32_w]
    rfl
   refine yr_ 2 23 bq_5 HT_ ?_
   refine yr_ 6 27 bq_6 HT_ ?_
   refine one_ (i := 7) (N := some 5) bq_0 rfl rfl (one_of HT_.out (by kernel_rfl)) (by decide) (fun K hK => ?_)
   refine box_step ?hg (N := 5) ?hd (cs := #[.int .i64 0, .string (⟨#[]⟩ : ByteArray)]) (t := 47) ?hr ?_; (case hd => rfl); (case hg => rfl); (case hr => first | (go_simp; done) | (go_simp; rfl))
   intro gb140 hg w49 hbox hb
   have z_ := bx1_ (kb_ BK137) th_ hb hbox hg
   clear BK137 HB
   obtain ⟨BK137, HB, BK140, GW140, GE140, NB137_140, NB140_137⟩ := z_
   clear hb hbox hg
   refine hK.out _ _ trivial (fun hHeld => ?_)
   clear hK K
   refine nm_ (some 5) ?_
   refine one_ (i := 8) (N := none) bq_7 rfl rfl (one_of HT_.out (by kernel_rfl)) (by decide) (fun K hK => ?_)
   have hs50 : w49.cell? ⟨gb140, 0, none⟩ = some (.int .i64 0) := (blk_cell BK140.out 0).trans rfl
   have hfs50 := blk_frozen BK140.out 0
   obtain ⟨n137_140, n140_137⟩ := an2_ NB137_140 NB140_137
   have hs51 : w49.cell? ⟨gb140, 1, none⟩ = some (.string (⟨#[]⟩ : ByteArray)) := (blk_cell BK140.out 1).trans rfl
   have hfs51 := blk_frozen BK140.out 1
   refine skip_ (w1 := ?_) (by rfl) rfl ?_ ?_
   rotate_left
   ·go_simp
    rfl
   refine hK.out _ _ trivial (fun hHeld => ?_)
   clear hK K
   refine done_ (done_of HT_.out (by kernel_rfl)) ?_
   obtain ⟨hcz53_0, hcz53_1⟩ := bk2_ BK140.out
   obtain ⟨hfz53_0, hfz53_1⟩ := bf2_ BK140.out
   try go_wp2_with (first | ((with_reducible refine gate_callee (f := 53) rfl ?_); refine goesL_ (some 29) rfl rfl Tryd.func53 (by kernel_rfl) rfl #[.agg #[.int .i64 (wrap64 (bt a0 0)), .string (a0.extract 1 (x4_1 : Int).toNat)]] rfl tq_0 ?_; (with_reducible refine (spec_EntryWord.calls k1 (wrap64 (bt a0 0)) (a0.extract 1 (x4_1 : Int).toNat) t141 _ A37.out).mono ?_); rintro e w54 ⟨rfl, hb⟩; refine ⟨_, rfl, ?_⟩; have z_ := p_ (blk_below (g := gb137) (o := .cells #[.int .i64 0, .string (⟨#[]⟩ : ByteArray)] 47 (0, 0)) tq_61 hb) <| p_ (blk_below (g := gb140) (o := .cells #[.int .i64 (wrap64 (bt a0 0)), .string (a0.extract 1 (x4_1 : Int).toNat)] 47 (0, 0)) tq_54 hb) <| a_ (below_step th_ hb); clear BK137 BK140 HB; obtain ⟨BK137, BK140, HB⟩ := z_; (try clear hb); obtain ⟨hcz55_0, hcz55_1⟩ := bk2_ BK137.out; obtain ⟨hfz55_0, hfz55_1⟩ := bf2_ BK137.out))
   refine bodyPost_ret (results_ct rfl _ _ gb137 47 #[.int .i64 0, .string (⟨#[]⟩ : ByteArray)] (0, 0) _ rfl tb_ Tryd.underlying47 rfl (by kernel_rfl)) rfl ?_
   exact ⟨tq_2, th_⟩
  rw [if_pos c38] at H
  have c38b0 := beq_iff_eq.mpr c38
  have c38b1 := bne_eq_false_iff_eq.mpr c38
  clear c38
  simp only [Option.some.injEq, Prod.mk.injEq] at H
  obtain ⟨rfl, rfl, rfl⟩ := H
  try go_wp2
  have z_ := dw1_ BK137 HB
  clear BK137 HB
  obtain ⟨BK137, HB⟩ := z_
  have p34 : 0 ≤ (0 : Int) := (by omega)
  have q34 : 0 < a0.size := (by have : (0 : Int) < (a0.size : Int) := of_decide_eq_true tq_1; omega)
  have hx34 : ∀ h : 0 < a0.size, ((a0[0]'h).toNat : Int) = bt a0 0 := bt_at a0 0
  clear p34
  have qi34 : (0 < (a0.size : Int)) = True := eq_true (of_decide_eq_true tq_1)
  replace q34 := eq_true q34
  refine start_ (n := 9) (S := fun w' => True) (ds := []) bq_1 (by kernel_rfl) rfl rfl trivial (fun hHeld => ?_); refine with_tabW spec_ReadEntry.tab6 spec_ReadEntry.bits6 (fun HT_ HW_ => ?_)
  generalize wr.drew = w39 at BK137 HB hHeld ⊢
  refine yr_ 0 21 bq_2 HT_ ?_
  refine yr_ 3 24 bq_3 HT_ ?_
  refine yr_ 4 25 bq_4 HT_ ?_
  refine yr_ 5 26 bq_8 HT_ ?_
  refine take_ (i := 1) (N := some 22) (v := ?_) (a' := ?_) bq_9 rfl rfl (take_ofW HT_.out HW_.out (by kernel_rfl)) (fun _ _ _ h => h) (Or.inl ⟨(by rfl), ?_⟩) hHeld ?_ ?_
  rotate_left
  ·intro w' _
   go_simp
   with_reducible rfl
  rotate_left
  ·simp only [Act.put, List.setIfInBounds_toArray, List.set_cons_zero, List.set_cons_succ, i64_w, i32_w]
   rfl
  refine yr_ 2 23 bq_5 HT_ ?_
  refine yr_ 6 27 bq_6 HT_ ?_
  refine one_ (i := 7) (N := some 5) bq_0 rfl rfl (one_of HT_.out (by kernel_rfl)) (by decide) (fun K hK => ?_)
  refine box_step ?hg (N := 5) ?hd (cs := #[.int .i64 0, .string (⟨#[]⟩ : ByteArray)]) (t := 47) ?hr ?_; (case hd => rfl); (case hg => rfl); (case hr => first | (go_simp; done) | (go_simp; rfl))
  intro gb140 hg w40 hbox hb
  have z_ := bx1_ (kb_ BK137) th_ hb hbox hg
  clear BK137 HB
  obtain ⟨BK137, HB, BK140, GW140, GE140, NB137_140, NB140_137⟩ := z_
  clear hb hbox hg
  refine hK.out _ _ trivial (fun hHeld => ?_)
  clear hK K
  refine nm_ (some 5) ?_
  refine one_ (i := 8) (N := none) bq_7 rfl rfl (one_of HT_.out (by kernel_rfl)) (by decide) (fun K hK => ?_)
  have hs41 : w40.cell? ⟨gb140, 0, none⟩ = some (.int .i64 0) := (blk_cell BK140.out 0).trans rfl
  have hfs41 := blk_frozen BK140.out 0
  obtain ⟨n137_140, n140_137⟩ := an2_ NB137_140 NB140_137
  have hs42 : w40.cell? ⟨gb140, 1, none⟩ = some (.string (⟨#[]⟩ : ByteArray)) := (blk_cell BK140.out 1).trans rfl
  have hfs42 := blk_frozen BK140.out 1
  refine skip_ (w1 := ?_) (by rfl) rfl ?_ ?_
  rotate_left
  ·go_simp
   rfl
  refine hK.out _ _ trivial (fun hHeld => ?_)
  clear hK K
  refine done_ (done_of HT_.out (by kernel_rfl)) ?_
  obtain ⟨hcz44_0, hcz44_1⟩ := bk2_ BK140.out
  obtain ⟨hfz44_0, hfz44_1⟩ := bf2_ BK140.out
  try go_wp2_with (first | ((with_reducible refine gate_callee (f := 53) rfl ?_); refine goesL_ (some 29) rfl rfl Tryd.func53 (by kernel_rfl) rfl #[.agg #[.int .i64 (wrap64 (bt a0 0)), .string (a0.extract 1 (x4_1 : Int).toNat)]] rfl tq_0 ?_; (with_reducible refine (spec_EntryWord.calls k1 (wrap64 (bt a0 0)) (a0.extract 1 (x4_1 : Int).toNat) t141 _ A37.out).mono ?_); rintro e w45 ⟨rfl, hb⟩; refine ⟨_, rfl, ?_⟩; have z_ := p_ (blk_below (g := gb137) (o := .cells #[.int .i64 0, .string (⟨#[]⟩ : ByteArray)] 47 (0, 0)) tq_61 hb) <| p_ (blk_below (g := gb140) (o := .cells #[.int .i64 (wrap64 (bt a0 0)), .string (a0.extract 1 (x4_1 : Int).toNat)] 47 (0, 0)) tq_54 hb) <| a_ (below_step th_ hb); clear BK137 BK140 HB; obtain ⟨BK137, BK140, HB⟩ := z_; (try clear hb); obtain ⟨hcz46_0, hcz46_1⟩ := bk2_ BK140.out; obtain ⟨hfz46_0, hfz46_1⟩ := bf2_ BK140.out; obtain ⟨hcz47_0, hcz47_1⟩ := bk2_ BK137.out; obtain ⟨hfz47_0, hfz47_1⟩ := bf2_ BK137.out))
  refine bodyPost_ret (results_ct rfl _ _ gb137 47 #[.int .i64 (wrap64 (bt a0 0)), .string (a0.extract 1 (x4_1 : Int).toNat)] (0, 0) _ rfl tb_ Tryd.underlying47 rfl (by kernel_rfl)) rfl ?_
  exact ⟨tq_2, th_⟩
 rw [if_pos c4] at H
 have c4b0 := decide_eq_true c4
 clear c4
 obtain ⟨ji5, hji5⟩ : ∃ j_ : Int, (wrap64 (x4_1 - 1)) = j_ := ⟨_, rfl⟩
 replace H : (if 0 ≤ (ji5) then (if (ji5) < (a0.size : Int) then (if (bt a0 (ji5)) = 0 then (spec_ReadEntry.l0 k1 a0 ji5) else (if 0 < (a0.size : Int) then (if 1 ≤ x4_1 then (if x4_1 ≤ (a0.size : Int) then ((spec_EntryWord.f k1 (wrap64 (bt a0 0)) (a0.extract 1 (x4_1 : Int).toNat)).bind fun t139 => (if t139.toList = a0.toList then (some (wrap64 (bt a0 0), a0.extract 1 (x4_1 : Int).toNat, true)) else (some (0, (⟨#[]⟩ : ByteArray), false)))) else (none)) else (none)) else (none))) else (none)) else (none)) = some (r1, r2, r3) := by first | (rw [hji5] at H; exact H) | (simp only [hji5] at H ⊢; exact H)
 have hji5w : (IntKind.i64.wrap (x4_1 - 1)) = ji5 := (i64_w _).trans hji5
 obtain ⟨c6, H⟩ := fc_ H
 have c6b0 := decide_eq_true c6
 clear c6
 obtain ⟨c7, H⟩ := fc_ H
 have c7b0 := decide_eq_true c7
 clear c7
 by_cases c9 : (bt a0 (ji5)) = 0
 ·rw [if_pos c9] at H
  have c9b0 := beq_iff_eq.mpr c9
  have c9b1 := bne_eq_false_iff_eq.mpr c9
  clear c9
  have H' := Aside0.mk H
  clear H
  have p8 : 0 ≤ ((ji5) : Int) := of_decide_eq_true tq_1
  have q8 : (ji5) < (a0.size : Int) := of_decide_eq_true tq_1
  have hx8 := bt_at a0 (ji5)
  replace p8 := eq_true p8
  replace q8 := eq_true q8
  go_wp2
  go_roundg k1
  case measure => have := HK1.out; omega
  case rel => exact ⟨(ji5), (by first | rfl | (simp; done) | (simp only [← hji5] <;> (first | rfl | simp)) | (simp [*]; done)), H', ⟨tq_56⟩, ⟨(kb_ BK137)⟩, ⟨th_⟩⟩
 rw [if_neg c9] at H
 have c9b0 := beq_eq_false_iff_ne.mpr c9
 have c9b1 := bne_iff_ne.mpr c9
 obtain ⟨c10, H⟩ := fc_ H
 have c10b0 := decide_eq_true c10
 have c10b1 : decide (0 < a0.size) = true := decide_eq_true (by omega)
 clear c10
 obtain ⟨c12, H⟩ := fc_ H
 have c12b0 := eq_true c12
 have c12b1 := decide_eq_true c12
 clear c12
 obtain ⟨c13, H⟩ := fc_ H
 have c13b0 := eq_true c13
 have c13b1 := decide_eq_true c13
 clear c13
 obtain ⟨t139, A14, H⟩ := bd_ H
 by_cases c15 : t139.toList = a0.toList
 rotate_left
 ·rw [if_neg c15] at H
  have c15b0 := beq_eq_false_iff_ne.mpr c15
  have c15b1 := bne_iff_ne.mpr c15
  simp only [Option.some.injEq, Prod.mk.injEq] at H
  obtain ⟨rfl, rfl, rfl⟩ := H
  have p8 : 0 ≤ ((ji5) : Int) := of_decide_eq_true tq_1
  have q8 : (ji5) < (a0.size : Int) := of_decide_eq_true tq_1
  have hx8 := bt_at a0 (ji5)
  replace p8 := eq_true p8
  replace q8 := eq_true q8
  try go_wp2
  have z_ := dw1_ BK137 HB
  clear BK137 HB
  obtain ⟨BK137, HB⟩ := z_
  have p11 : 0 ≤ (0 : Int) := (by omega)
  have q11 : 0 < a0.size := (by have : (0 : Int) < (a0.size : Int) := of_decide_eq_true tq_1; omega)
  have hx11 : ∀ h : 0 < a0.size, ((a0[0]'h).toNat : Int) = bt a0 0 := bt_at a0 0
  clear p11
  have qi11 : (0 < (a0.size : Int)) = True := eq_true (of_decide_eq_true tq_1)
  replace q11 := eq_true q11
  refine start_ (n := 9) (S := fun w' => True) (ds := []) bq_1 (by kernel_rfl) rfl rfl trivial (fun hHeld => ?_); refine with_tabW spec_ReadEntry.tab6 spec_ReadEntry.bits6 (fun HT_ HW_ => ?_)
  generalize wr.drew = w25 at BK137 HB hHeld ⊢
  refine yr_ 0 21 bq_2 HT_ ?_
  refine yr_ 3 24 bq_3 HT_ ?_
  refine yr_ 4 25 bq_4 HT_ ?_
  refine yr_ 5 26 bq_8 HT_ ?_
  refine take_ (i := 1) (N := some 22) (v := ?_) (a' := ?_) bq_9 rfl rfl (take_ofW HT_.out HW_.out (by kernel_rfl)) (fun _ _ _ h => h) (Or.inl ⟨(by rfl), ?_⟩) hHeld ?_ ?_
  rotate_left
  ·intro w' _
   go_simp
   with_reducible rfl
  rotate_left
  ·simp only [Act.put, List.setIfInBounds_toArray, List.set_cons_zero, List.set_cons_succ, i64_w, i32_w]
   rfl
  refine yr_ 2 23 bq_5 HT_ ?_
  refine yr_ 6 27 bq_6 HT_ ?_
  refine one_ (i := 7) (N := some 5) bq_0 rfl rfl (one_of HT_.out (by kernel_rfl)) (by decide) (fun K hK => ?_)
  refine box_step ?hg (N := 5) ?hd (cs := #[.int .i64 0, .string (⟨#[]⟩ : ByteArray)]) (t := 47) ?hr ?_; (case hd => rfl); (case hg => rfl); (case hr => first | (go_simp; done) | (go_simp; rfl))
  intro gb138 hg w26 hbox hb
  have z_ := bx1_ (kb_ BK137) th_ hb hbox hg
  clear BK137 HB
  obtain ⟨BK137, HB, BK138, GW138, GE138, NB137_138, NB138_137⟩ := z_
  clear hb hbox hg
  refine hK.out _ _ trivial (fun hHeld => ?_)
  clear hK K
  refine nm_ (some 5) ?_
  refine one_ (i := 8) (N := none) bq_7 rfl rfl (one_of HT_.out (by kernel_rfl)) (by decide) (fun K hK => ?_)
  have hs27 : w26.cell? ⟨gb138, 0, none⟩ = some (.int .i64 0) := (blk_cell BK138.out 0).trans rfl
  have hfs27 := blk_frozen BK138.out 0
  obtain ⟨n137_138, n138_137⟩ := an2_ NB137_138 NB138_137
  have hs28 : w26.cell? ⟨gb138, 1, none⟩ = some (.string (⟨#[]⟩ : ByteArray)) := (blk_cell BK138.out 1).trans rfl
  have hfs28 := blk_frozen BK138.out 1
  refine skip_ (w1 := ?_) (by rfl) rfl ?_ ?_
  rotate_left
  ·go_simp
   rfl
  refine hK.out _ _ trivial (fun hHeld => ?_)
  clear hK K
  refine done_ (done_of HT_.out (by kernel_rfl)) ?_
  obtain ⟨hcz30_0, hcz30_1⟩ := bk2_ BK138.out
  obtain ⟨hfz30_0, hfz30_1⟩ := bf2_ BK138.out
  try go_wp2_with (first | ((with_reducible refine gate_callee (f := 53) rfl ?_); refine goesL_ (some 29) rfl rfl Tryd.func53 (by kernel_rfl) rfl #[.agg #[.int .i64 (wrap64 (bt a0 0)), .string (a0.extract 1 (x4_1 : Int).toNat)]] rfl tq_0 ?_; (with_reducible refine (spec_EntryWord.calls k1 (wrap64 (bt a0 0)) (a0.extract 1 (x4_1 : Int).toNat) t139 _ A14.out).mono ?_); rintro e w31 ⟨rfl, hb⟩; refine ⟨_, rfl, ?_⟩; have z_ := p_ (blk_below (g := gb137) (o := .cells #[.int .i64 0, .string (⟨#[]⟩ : ByteArray)] 47 (0, 0)) tq_62 hb) <| p_ (blk_below (g := gb138) (o := .cells #[.int .i64 (wrap64 (bt a0 0)), .string (a0.extract 1 (x4_1 : Int).toNat)] 47 (0, 0)) tq_55 hb) <| a_ (below_step th_ hb); clear BK137 BK138 HB; obtain ⟨BK137, BK138, HB⟩ := z_; (try clear hb); obtain ⟨hcz32_0, hcz32_1⟩ := bk2_ BK137.out; obtain ⟨hfz32_0, hfz32_1⟩ := bf2_ BK137.out))
  refine bodyPost_ret (results_ct rfl _ _ gb137 47 #[.int .i64 0, .string (⟨#[]⟩ : ByteArray)] (0, 0) _ rfl tb_ Tryd.underlying47 rfl (by kernel_rfl)) rfl ?_
  exact ⟨tq_84, th_⟩
 rw [if_pos c15] at H
 have c15b0 := beq_iff_eq.mpr c15
 have c15b1 := bne_eq_false_iff_eq.mpr c15
 clear c15
 simp only [Option.some.injEq, Prod.mk.injEq] at H
 obtain ⟨rfl, rfl, rfl⟩ := H
 have p8 : 0 ≤ ((ji5) : Int) := of_decide_eq_true tq_1
 have q8 : (ji5) < (a0.size : Int) := of_decide_eq_true tq_1
 have hx8 := bt_at a0 (ji5)
 replace p8 := eq_true p8
 replace q8 := eq_true q8
 try go_wp2
 have z_ := dw1_ BK137 HB
 clear BK137 HB
 obtain ⟨BK137, HB⟩ := z_
 have p11 : 0 ≤ (0 : Int) := (by omega)
 have q11 : 0 < a0.size := (by have : (0 : Int) < (a0.size : Int) := of_decide_eq_true tq_1; omega)
 have hx11 : ∀ h : 0 < a0.size, ((a0[0]'h).toNat : Int) = bt a0 0 := bt_at a0 0
 clear p11
 have qi11 : (0 < (a0.size : Int)) = True := eq_true (of_decide_eq_true tq_1)
 replace q11 := eq_true q11
 refine start_ (n := 9) (S := fun w' => True) (ds := []) bq_1 (by kernel_rfl) rfl rfl trivial (fun hHeld => ?_); refine with_tabW spec_ReadEntry.tab6 spec_ReadEntry.bits6 (fun HT_ HW_ => ?_)
 generalize wr.drew = w16 at BK137 HB hHeld ⊢
 refine yr_ 0 21 bq_2 HT_ ?_
 refine yr_ 3 24 bq_3 HT_ ?_
 refine yr_ 4 25 bq_4 HT_ ?_
 refine yr_ 5 26 bq_8 HT_ ?_
 refine take_ (i := 1) (N := some 22) (v := ?_) (a' := ?_) bq_9 rfl rfl (take_ofW HT_.out HW_.out (by kernel_rfl)) (fun _ _ _ h => h) (Or.inl ⟨(by rfl), ?_⟩) hHeld ?_ ?_
 rotate_left
 ·intro w' _
  go_simp
  with_reducible rfl
 rotate_left
 ·simp only [Act.put, List.setIfInBounds_toArray, List.set_cons_zero, List.set_cons_succ, i64_w, i32_w]
  rfl
 refine yr_ 2 23 bq_5 HT_ ?_
 refine yr_ 6 27 bq_6 HT_ ?_
 refine one_ (i := 7) (N := some 5) bq_0 rfl rfl (one_of HT_.out (by kernel_rfl)) (by decide) (fun K hK => ?_)
 refine box_step ?hg (N := 5) ?hd (cs := #[.int .i64 0, .string (⟨#[]⟩ : ByteArray)]) (t := 47) ?hr ?_; (case hd => rfl); (case hg => rfl); (case hr => first | (go_simp; done) | (go_simp; rfl))
 intro gb138 hg w17 hbox hb
 have z_ := bx1_ (kb_ BK137) th_ hb hbox hg
 clear BK137 HB
 obtain ⟨BK137, HB, BK138, GW138, GE138, NB137_138, NB138_137⟩ := z_
 clear hb hbox hg
 refine hK.out _ _ trivial (fun hHeld => ?_)
 clear hK K
 refine nm_ (some 5) ?_
 refine one_ (i := 8) (N := none) bq_7 rfl rfl (one_of HT_.out (by kernel_rfl)) (by decide) (fun K hK => ?_)
 have hs18 : w17.cell? ⟨gb138, 0, none⟩ = some (.int .i64 0) := (blk_cell BK138.out 0).trans rfl
 have hfs18 := blk_frozen BK138.out 0
 obtain ⟨n137_138, n138_137⟩ := an2_ NB137_138 NB138_137
 have hs19 : w17.cell? ⟨gb138, 1, none⟩ = some (.string (⟨#[]⟩ : ByteArray)) := (blk_cell BK138.out 1).trans rfl
 have hfs19 := blk_frozen BK138.out 1
 refine skip_ (w1 := ?_) (by rfl) rfl ?_ ?_
 rotate_left
 ·go_simp
  rfl
 refine hK.out _ _ trivial (fun hHeld => ?_)
 clear hK K
 refine done_ (done_of HT_.out (by kernel_rfl)) ?_
 obtain ⟨hcz21_0, hcz21_1⟩ := bk2_ BK138.out
 obtain ⟨hfz21_0, hfz21_1⟩ := bf2_ BK138.out
 try go_wp2_with (first | ((with_reducible refine gate_callee (f := 53) rfl ?_); refine goesL_ (some 29) rfl rfl Tryd.func53 (by kernel_rfl) rfl #[.agg #[.int .i64 (wrap64 (bt a0 0)), .string (a0.extract 1 (x4_1 : Int).toNat)]] rfl tq_0 ?_; (with_reducible refine (spec_EntryWord.calls k1 (wrap64 (bt a0 0)) (a0.extract 1 (x4_1 : Int).toNat) t139 _ A14.out).mono ?_); rintro e w22 ⟨rfl, hb⟩; refine ⟨_, rfl, ?_⟩; have z_ := p_ (blk_below (g := gb137) (o := .cells #[.int .i64 0, .string (⟨#[]⟩ : ByteArray)] 47 (0, 0)) tq_62 hb) <| p_ (blk_below (g := gb138) (o := .cells #[.int .i64 (wrap64 (bt a0 0)), .string (a0.extract 1 (x4_1 : Int).toNat)] 47 (0, 0)) tq_55 hb) <| a_ (below_step th_ hb); clear BK137 BK138 HB; obtain ⟨BK137, BK138, HB⟩ := z_; (try clear hb); obtain ⟨hcz23_0, hcz23_1⟩ := bk2_ BK138.out; obtain ⟨hfz23_0, hfz23_1⟩ := bf2_ BK138.out; obtain ⟨hcz24_0, hcz24_1⟩ := bk2_ BK137.out; obtain ⟨hfz24_0, hfz24_1⟩ := bf2_ BK137.out))
 refine bodyPost_ret (results_ct rfl _ _ gb137 47 #[.int .i64 (wrap64 (bt a0 0)), .string (a0.extract 1 (x4_1 : Int).toNat)] (0, 0) _ rfl tb_ Tryd.underlying47 rfl (by kernel_rfl)) rfl ?_
 exact ⟨tq_84, th_⟩

/-! ### spec_l12Words: function 33 -/
def spec_l12Words.l0 : Nat → List ByteArray → List ByteArray → Int → Option (Bool)
 | 0, _, _, _ => none
 | k + 1, x0, x1, x5 => if x5 < (x0.length : Int) then (if 0 ≤ x5 then (if x5 < (x1.length : Int) then (if (rdOf ByteArray.empty x0 x5).toList = (rdOf ByteArray.empty x1 x5).toList then (spec_l12Words.l0 k x0 x1 (wrap64 (x5 + 1))) else (some false)) else (none)) else (none)) else (some true)
def spec_l12Words.f (k : Nat) (l0 : List ByteArray) (l1 : List ByteArray) : Option (Bool) := if (l0.length : Int) = (l1.length : Int) then (spec_l12Words.l0 k l0 l1 0) else (some false)
theorem spec_l12Words.mono_l : ∀ k, (∀ y0 y1 y2, LeO (spec_l12Words.l0 k y0 y1 y2) (spec_l12Words.l0 (k + 1) y0 y1 y2))
 | 0 => fun _ _ _ r h => by simp [spec_l12Words.l0] at h
 | k + 1 => by
  have ih0 := spec_l12Words.mono_l k
  ·intro y0 y1 y2
   unfold spec_l12Words.l0
   exact mo_1
theorem spec_l12Words.mono : ∀ a0 a1 k, LeO (spec_l12Words.f k a0 a1) (spec_l12Words.f (k + 1) a0 a1) := by
 intro a0 a1 k
 have ih0 := spec_l12Words.mono_l k
 unfold spec_l12Words.f
 repeat' first
   | (with_reducible exact ih0 ..)
   | (with_reducible exact LeO.refl _)
   | (with_reducible exact LeO.none _)
   | (with_reducible refine LeO.ite ?_ ?_)
   | (with_reducible refine LeO.bind ?_ (fun _ => ?_))
   | exact ih0 ..
   | exact LeO.none _
   | refine LeO.ite ?_ ?_
   | refine LeO.bind ?_ (fun _ => ?_)
set_option maxHeartbeats 8000000 in
set_option maxRecDepth 100000 in
theorem spec_l12Words.calls (k : Nat) (A0 : Option Addr) (c0 : Nat) (l0 : List ByteArray) (A1 : Option Addr) (c1 : Nat) (l1 : List ByteArray) (r : Bool) (w : World) (hr0 : Kd.C Kd.string w A0 l0.length l0) (hc0 : l0.length ≤ c0) (hr1 : Kd.C Kd.string w A1 l1.length l1) (hc1 : l1.length ≤ c1) (h : spec_l12Words.f k l0 l1 = some r) :
  Calls Tryd.prog 33 #[.slice A0 l0.length c0, .slice A1 l1.length c1] w fun e w' => e = .returned (.bool r) ∧ Drawn0 w w' := by
 have HR0 := Aside0.mk hr0
 have HC0 := Aside0.mk hc0
 clear hr0 hc0
 have HR1 := Aside0.mk hr1
 have HC1 := Aside0.mk hc1
 clear hr1 hc1
 unfold spec_l12Words.f at h
 have H := h
 clear h
 by_cases c3 : (l0.length : Int) = (l1.length : Int)
 rotate_left
 ·rw [if_neg c3] at H
  have c3b0 := beq_eq_false_iff_ne.mpr c3
  have c3b1 := bne_iff_ne.mpr c3
  have c3b2 : (l0.length == l1.length) = false := by first | simpa using c3 | (simp at c3 ⊢; omega)
  obtain rfl := Option.some.inj H
  go_enter Tryd.func33, Tryd.ntmps33
  go_wp2
  repeat (go_quiet (fail); try go_wp2)
  go_ret
  exact ⟨tq_4, tq_11⟩
 rw [if_pos c3] at H
 have c3b0 := beq_iff_eq.mpr c3
 have c3b1 := bne_eq_false_iff_eq.mpr c3
 have c3b2 : (l0.length == l1.length) = true := by first | simpa using c3 | (simp at c3 ⊢; omega)
 clear c3
 have H' := Aside0.mk H
 clear H
 go_enter Tryd.func33, Tryd.ntmps33
 go_wp2
 repeat (go_quiet (fail); try go_wp2)
 go_loopg [5] k (fun kq v5 w' => ∃ (x5_1 : Int), v5 = .int .i64 x5_1 ∧ Aside0 (spec_l12Words.l0 kq l0 l1 x5_1 = some r) ∧ Aside0 (kq ≤ k) ∧ Drawn0 w w')
 case atStart => exact ⟨(0), tq_4, H', ⟨Nat.le_refl _⟩, tq_11⟩
 case round =>
 clear H'
 try clear c1; try clear p2; try clear c3; try clear c3b0; try clear c3b1; try clear c3b2
 obtain ⟨x5_1, rfl, HA, HK1, ⟨m1, rfl⟩⟩ := hrel
 cases gk with
 | zero => exact absurd HA.out (by simp [spec_l12Words.l0])
 | succ k1 =>
 have H := HA.out
 clear HA
 simp only [spec_l12Words.l0] at H
 by_cases c4 : x5_1 < (l0.length : Int)
 rotate_left
 ·rw [if_neg c4] at H
  have c4b0 := decide_eq_false c4
  clear c4
  obtain rfl := Option.some.inj H
  go_wp2
  repeat (go_quiet (fail); try go_wp2)
  go_ret
  exact ⟨tq_4, tq_11⟩
 rw [if_pos c4] at H
 have c4b0 := decide_eq_true c4
 clear c4
 obtain ⟨c5, H⟩ := fc_ H
 have c5b0 := decide_eq_true c5
 clear c5
 obtain ⟨c6, H⟩ := fc_ H
 have c6b0 := decide_eq_true c6
 clear c6
 by_cases c7 : (rdOf ByteArray.empty l0 x5_1).toList = (rdOf ByteArray.empty l1 x5_1).toList
 rotate_left
 ·rw [if_neg c7] at H
  have c7b0 := beq_eq_false_iff_ne.mpr c7
  have c7b1 := bne_iff_ne.mpr c7
  obtain rfl := Option.some.inj H
  have p142 : 0 ≤ (x5_1 : Int) := of_decide_eq_true tq_1
  have q142 : x5_1 < (l0.length : Int) := of_decide_eq_true tq_1
  obtain ⟨ad142, e142, hx142_0⟩ := Kd.at_string HR0.out x5_1 p142 q142
  cases e142
  replace p142 := eq_true p142
  replace q142 := eq_true q142
  have p143 : 0 ≤ (x5_1 : Int) := of_decide_eq_true tq_1
  have q143 : x5_1 < (l1.length : Int) := of_decide_eq_true tq_1
  obtain ⟨ad143, e143, hx143_0⟩ := Kd.at_string HR1.out x5_1 p143 q143
  cases e143
  replace p143 := eq_true p143
  replace q143 := eq_true q143
  go_wp2
  repeat (go_quiet (fail); try go_wp2)
  go_ret
  exact ⟨tq_4, tq_11⟩
 rw [if_pos c7] at H
 have c7b0 := beq_iff_eq.mpr c7
 have c7b1 := bne_eq_false_iff_eq.mpr c7
 clear c7
 have H' := Aside0.mk H
 clear H
 have p142 : 0 ≤ (x5_1 : Int) := of_decide_eq_true tq_1
 have q142 : x5_1 < (l0.length : Int) := of_decide_eq_true tq_1
 obtain ⟨ad142, e142, hx142_0⟩ := Kd.at_string HR0.out x5_1 p142 q142
 cases e142
 replace p142 := eq_true p142
 replace q142 := eq_true q142
 have p143 : 0 ≤ (x5_1 : Int) := of_decide_eq_true tq_1
 have q143 : x5_1 < (l1.length : Int) := of_decide_eq_true tq_1
 obtain ⟨ad143, e143, hx143_0⟩ := Kd.at_string HR1.out x5_1 p143 q143
 cases e143
 replace p143 := eq_true p143
 replace q143 := eq_true q143
 go_wp2
 repeat (go_quiet (fail); try go_wp2)
 go_roundg k1
 case measure => have := HK1.out; omega
 case rel => exact ⟨(wrap64 (x5_1 + 1)), tq_4, H', ⟨tq_56⟩, tq_11⟩

/-! ### spec_PagesFor: function 51 -/
def spec_PagesFor.f (a0 : Int) : Option (Int) := if a0 ≤ 0 then (some 0) else (some (wrap64 ((wrap64 (Int.tdiv (wrap64 (a0 - 1)) 32)) + 1)))
set_option maxHeartbeats 8000000 in
set_option maxRecDepth 100000 in
theorem spec_PagesFor.calls (a0 : Int) (r : Int) (w : World) (h : spec_PagesFor.f a0 = some r) :
  Calls Tryd.prog 51 #[.int .i64 a0] w fun e w' => e = .returned (.int .i64 r) ∧ Drawn0 w w' := by
 unfold spec_PagesFor.f at h
 have H := h
 clear h
 by_cases c2 : a0 ≤ 0
 ·rw [if_pos c2] at H
  have c2b0 := decide_eq_true c2
  clear c2
  obtain rfl := Option.some.inj H
  go_enter Tryd.func51, Tryd.ntmps51
  go_wp2
  go_ret
  exact ⟨tq_4, tq_11⟩
 rw [if_neg c2] at H
 have c2b0 := decide_eq_false c2
 clear c2
 obtain rfl := Option.some.inj H
 go_enter Tryd.func51, Tryd.ntmps51
 go_wp2
 go_ret
 exact ⟨tq_4, tq_11⟩

end Go.Proofs.YtjfhddenmnjgbaaDoor.PFnAnyInode
