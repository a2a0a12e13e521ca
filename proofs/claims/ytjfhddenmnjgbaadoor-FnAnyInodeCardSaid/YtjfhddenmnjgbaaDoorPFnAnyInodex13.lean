/- Contracts of Go functions, written by a program of ours over the print of the kit: each says that the call returns what the Lean function beside it computes. Conditions: as each theorem states them. -/
import Derived.Test.YtjfhddenmnjgbaaDoorPkFnAnyInode
import Derived.Test.YtjfhddenmnjgbaaDoorPFnAnyInodex0
import Derived.Test.YtjfhddenmnjgbaaDoorPFnAnyInodex10
import Derived.Test.YtjfhddenmnjgbaaDoorPFnAnyInodex12
namespace Go.Proofs.YtjfhddenmnjgbaaDoor.PFnAnyInode
open Go.RowKit Go.Proofs.YtjfhddenmnjgbaaDoorW.PrintWords Go.Proofs.YtjfhddenmnjgbaaDoorW.PrintLast Go.Proofs.YtjfhddenmnjgbaaDoorW.PrintMore
attribute [local go_sem] max2_int min2_int max_two min_two max_three min_three max_four min_four setCell_drewN   -- for this text's walks alone
set_option linter.unusedVariables false
set_option linter.unusedSimpArgs false

/-! ### impl_ReadEntry: function 23 -/
def impl_ReadEntry.f (k : Nat) (a0 : ByteArray) : Option (Int × ByteArray × Bool) := if (a0.size : Int) = 8 then (if 0 < (a0.size : Int) then (if 1 ≤ (a0.size : Int) then ((strings_TrimRight.f (a0.extract 1 a0.size) (⟨#[0]⟩ : ByteArray)).bind fun t264 => ((impl_EntryWord.f k (wrap64 (bt a0 0)) t264).bind fun t266 => (if t266.toList = a0.toList then (some (wrap64 (bt a0 0), t264, true)) else (some (0, (⟨#[]⟩ : ByteArray), false))))) else (none)) else (none)) else (some (0, (⟨#[]⟩ : ByteArray), false))
theorem impl_ReadEntry.mono : ∀ a0 k, LeO (impl_ReadEntry.f k a0) (impl_ReadEntry.f (k + 1) a0) := by
 intro a0 k
 unfold impl_ReadEntry.f
 repeat' first
   | (with_reducible exact impl_EntryWord.mono ..)
   | (with_reducible exact LeO.refl _)
   | (with_reducible exact LeO.none _)
   | (with_reducible refine LeO.ite ?_ ?_)
   | (with_reducible refine LeO.bind ?_ (fun _ => ?_))
   | exact impl_EntryWord.mono ..
   | exact LeO.none _
   | refine LeO.ite ?_ ?_
   | refine LeO.bind ?_ (fun _ => ?_)
def impl_ReadEntry.T3 : Bool × List (List Nat × List Nat) := (true, [([], []), ([0], [0]), ([1], [1]), ([], []), ([3], [3]), ([4], [4]), ([2, 5], [2, 5]), ([], []), ([7, 6, 5, 0, 1, 2, 3, 4, 5, 6, 7], [6, 7])])
def impl_ReadEntry.B3 : List Nat := [0, 1, 3, 0, 8, 24, 63, 0, 255]
theorem impl_ReadEntry.tab3 : rtab .any (opsOf Tryd.f23 3) = impl_ReadEntry.T3 := by kernel_rfl
theorem impl_ReadEntry.bits3 : waitsOk impl_ReadEntry.T3.2 impl_ReadEntry.B3 = true := by kernel_rfl
set_option maxHeartbeats 8000000 in
set_option maxRecDepth 100000 in
theorem impl_ReadEntry.calls (k : Nat) (a0 : ByteArray) (r1 : Int) (r2 : ByteArray) (r3 : Bool) (w : World) (h : impl_ReadEntry.f k a0 = some (r1, r2, r3)) :
  Calls Tryd.prog 23 #[.string a0] w fun e w' => e = .returned (.tuple #[.agg #[.int .i64 r1, .string r2], .bool r3]) ∧ Below w.heap.size w w' := by
 have hu47 := Tryd.underlying47
 have HB := Aside0.mk (Below.refl w.heap.size w)
 unfold impl_ReadEntry.f at h
 have H := h
 clear h
 by_cases c2 : (a0.size : Int) = 8
 rotate_left
 ·rw [if_neg c2] at H
  have c2b0 := beq_eq_false_iff_ne.mpr c2
  have c2b1 := bne_iff_ne.mpr c2
  simp only [Option.some.injEq, Prod.mk.injEq] at H
  obtain ⟨rfl, rfl, rfl⟩ := H
  go_enter Tryd.func23, Tryd.ntmps23
  go_wp2_with (first | ((with_reducible refine gate_dst (N := 2) rfl ?_); refine be_ 2 (cs := #[.int .i64 0, .string (⟨#[]⟩ : ByteArray)]) 47 ?_; intro gb263 hg w32 hbox hb; have z_ := bx0_ th_ hb hbox hg; clear HB; obtain ⟨HB, BK263, GW263, GE263⟩ := z_; clear hb hbox hg; obtain ⟨hcz33_0, hcz33_1⟩ := bk2_ BK263.out; obtain ⟨hfz33_0, hfz33_1⟩ := bf2_ BK263.out))
  refine bodyPost_ret (results_ct rfl _ _ gb263 47 #[.int .i64 0, .string (⟨#[]⟩ : ByteArray)] (0, 0) _ rfl tb_ Tryd.underlying47 rfl (by kernel_rfl)) rfl ?_
  exact ⟨tq_2, th_⟩
 rw [if_pos c2] at H
 have c2b0 := beq_iff_eq.mpr c2
 have c2b1 := bne_eq_false_iff_eq.mpr c2
 clear c2
 obtain ⟨c3, H⟩ := fc_ H
 have c3b0 := decide_eq_true c3
 have c3b1 : decide (0 < a0.size) = true := decide_eq_true (by omega)
 clear c3
 obtain ⟨c5, H⟩ := fc_ H
 have c5b0 := eq_true c5
 have c5b1 := decide_eq_true c5
 clear c5
 obtain ⟨t264, A6, H⟩ := bd_ H
 obtain ⟨t266, A7, H⟩ := bd_ H
 by_cases c8 : t266.toList = a0.toList
 rotate_left
 ·rw [if_neg c8] at H
  have c8b0 := beq_eq_false_iff_ne.mpr c8
  have c8b1 := bne_iff_ne.mpr c8
  simp only [Option.some.injEq, Prod.mk.injEq] at H
  obtain ⟨rfl, rfl, rfl⟩ := H
  go_enter Tryd.func23, Tryd.ntmps23
  try go_wp2_with (first | ((with_reducible refine gate_dst (N := 2) rfl ?_); refine be_ 2 (cs := #[.int .i64 0, .string (⟨#[]⟩ : ByteArray)]) 47 ?_; intro gb263 hg w21 hbox hb; have z_ := bx0_ th_ hb hbox hg; clear HB; obtain ⟨HB, BK263, GW263, GE263⟩ := z_; clear hb hbox hg))
  have z_ := dw1_ BK263 HB
  clear BK263 HB
  obtain ⟨BK263, HB⟩ := z_
  have p4 : 0 ≤ (0 : Int) := (by omega)
  have q4 : 0 < a0.size := (by have : (0 : Int) < (a0.size : Int) := of_decide_eq_true tq_1; omega)
  have hx4 : ∀ h : 0 < a0.size, ((a0[0]'h).toNat : Int) = bt a0 0 := bt_at a0 0
  clear p4
  have qi4 : (0 < (a0.size : Int)) = True := eq_true (of_decide_eq_true tq_1)
  replace q4 := eq_true q4
  refine start_ (n := 9) (S := fun w' => True) (ds := []) bq_1 (by kernel_rfl) rfl rfl trivial (fun hHeld => ?_); refine with_tabW impl_ReadEntry.tab3 impl_ReadEntry.bits3 (fun HT_ HW_ => ?_)
  generalize w21.drew = w22 at BK263 HB hHeld ⊢
  refine yr_ 0 9 bq_2 HT_ ?_
  refine yr_ 3 12 bq_3 HT_ ?_
  refine yr_ 4 13 bq_4 HT_ ?_
  refine take_ (i := 1) (N := some 10) (v := ?_) (a' := ?_) bq_147 rfl rfl (take_ofW HT_.out HW_.out (by kernel_rfl)) (fun _ _ _ h => h) (Or.inl ⟨(by rfl), ?_⟩) hHeld ?_ ?_
  rotate_left
  ·intro w' _
   go_simp
   with_reducible rfl
  rotate_left
  ·simp only [Act.put, List.setIfInBounds_toArray, List.set_cons_zero, List.set_cons_succ, i64_w, i32_w]
   rfl
  refine yr_ 2 11 bq_148 HT_ ?_
  refine join_ (σ := Nat) 1 bq_0 (fun s_ => [(14, .string t264), (4, .pointer (some ⟨s_, 0, none⟩)), (15, .agg #[.int .i64 (wrap64 (bt a0 0)), .string t264])]) (fun s_ w' => (w'.heap[gb263]? = some (.cells #[.int .i64 0, .string (⟨#[]⟩ : ByteArray)] 47 (0, 0))) ∧ (w'.heap[s_]? = some (.cells #[.int .i64 0, .string (⟨#[]⟩ : ByteArray)] 47 (0, 0))) ∧ (w.heap.size ≤ s_) ∧ (w.heap.size ≤ s_) ∧ (gb263 ≠ s_) ∧ (s_ ≠ gb263) ∧ (Below w.heap.size w w')) ?_ ?_
  rotate_left
  ·intro hCont
   refine two_ (i := 5) (j := 7) (Ni := some 14) (Nj := some 4) bq_5 bq_149 rfl rfl rfl rfl (two_of HT_.out (by kernel_rfl)) (by decide) (by decide) (fun K hK => ?_) (fun K hK => ?_)
   ·skip
    refine goes_ Tryd.func58 (by kernel_rfl) rfl #[.string (a0.extract 1 a0.size), .string (⟨#[0]⟩ : ByteArray)] (by rfl) rfl rfl tq_0 ?_
    with_reducible refine (strings_TrimRight.calls (a0.extract 1 a0.size) (⟨#[0]⟩ : ByteArray) t264 _ A6.out).mono ?_
    rintro e w23 ⟨rfl, hb⟩
    refine ⟨_, rfl, ?_⟩
    have z_ := bw1_ (kb_ BK263) th_ hb
    clear BK263 HB
    obtain ⟨BK263, HB⟩ := z_
    (try clear hb)
    refine hK.out _ _ trivial (fun hHeld => ?_)
    clear hK K
    refine nm_ (some 14) ?_
    refine yr_ 6 15 bq_6 HT_ ?_
    refine one_ (i := 7) (N := some 4) bq_0 rfl rfl (one_of HT_.out (by kernel_rfl)) (by decide) (fun K hK => ?_)
    refine box_step ?hg (N := 4) ?hd (cs := #[.int .i64 0, .string (⟨#[]⟩ : ByteArray)]) (t := 47) ?hr ?_; (case hd => rfl); (case hg => rfl); (case hr => first | (go_simp; done) | (go_simp; rfl))
    intro gb265 hg w24 hbox hb
    have z_ := bx1_ (kb_ BK263) th_ hb hbox hg
    clear BK263 HB
    obtain ⟨BK263, HB, BK265, GW265, GE265, NB263_265, NB265_263⟩ := z_
    clear hb hbox hg
    refine hK.out _ _ trivial (fun hHeld => ?_)
    clear hK K
    refine nm_ (some 4) ?_
    exact norm_ tq_68 (hCont (gb265) _ ⟨(kb_ BK263), (kb_ BK265), GW265.out, GE265.out, NB263_265.out, NB265_263.out, th_⟩)
   ·skip
    refine box_step ?hg (N := 4) ?hd (cs := #[.int .i64 0, .string (⟨#[]⟩ : ByteArray)]) (t := 47) ?hr ?_; (case hd => rfl); (case hg => rfl); (case hr => first | (go_simp; done) | (go_simp; rfl))
    intro gb265 hg w23 hbox hb
    have z_ := bx1_ (kb_ BK263) th_ hb hbox hg
    clear BK263 HB
    obtain ⟨BK263, HB, BK265, GW265, GE265, NB263_265, NB265_263⟩ := z_
    clear hb hbox hg
    refine hK.out _ _ trivial (fun hHeld => ?_)
    clear hK K
    refine nm_ (some 4) ?_
    refine one_ (i := 5) (N := some 14) bq_150 rfl rfl (one_of HT_.out (by kernel_rfl)) (by decide) (fun K hK => ?_)
    refine goes_ Tryd.func58 (by kernel_rfl) rfl #[.string (a0.extract 1 a0.size), .string (⟨#[0]⟩ : ByteArray)] (by rfl) rfl rfl tq_0 ?_
    with_reducible refine (strings_TrimRight.calls (a0.extract 1 a0.size) (⟨#[0]⟩ : ByteArray) t264 _ A6.out).mono ?_
    rintro e w24 ⟨rfl, hb⟩
    refine ⟨_, rfl, ?_⟩
    have z_ := bw2_ (kb_ BK263) (kb_ BK265) th_ hb
    clear BK263 BK265 HB
    obtain ⟨BK263, BK265, HB⟩ := z_
    (try clear hb)
    refine hK.out _ _ trivial (fun hHeld => ?_)
    clear hK K
    refine nm_ (some 14) ?_
    refine yr_ 6 15 bq_0 HT_ ?_
    exact norm_ tq_68 (hCont (gb265) _ ⟨(kb_ BK263), (kb_ BK265), GW265.out, GE265.out, NB263_265.out, NB265_263.out, th_⟩)
  rintro gb265 w25 ⟨h0_, h1_, h2_, h3_, h4_, h5_, h6_⟩
  have z_ := q_ (⟨h0_⟩ : Aside0 (w25.heap[gb263]? = some (.cells #[.int .i64 0, .string (⟨#[]⟩ : ByteArray)] 47 (0, 0)))) <| q_ (⟨h1_⟩ : Aside0 (w25.heap[gb265]? = some (.cells #[.int .i64 0, .string (⟨#[]⟩ : ByteArray)] 47 (0, 0)))) <| q_ (⟨h2_⟩ : Aside0 (w.heap.size ≤ gb265)) <| q_ (⟨h3_⟩ : Aside0 (w.heap.size ≤ gb265)) <| q_ (⟨h4_⟩ : Aside0 (gb263 ≠ gb265)) <| q_ (⟨h5_⟩ : Aside0 (gb265 ≠ gb263)) <| (⟨h6_⟩ : Aside0 (Below w.heap.size w w25))
  clear BK263 HB h0_ h1_ h2_ h3_ h4_ h5_ h6_
  obtain ⟨BK263, BK265, GW265, GE265, NB263_265, NB265_263, HB⟩ := z_
  have hHeld := trivial
  refine norm_ (a' := ?_) ?_ ?_
  rotate_left
  ·simp only [putAll, Act.put, List.setIfInBounds_toArray, List.set_cons_zero, List.set_cons_succ]
   rfl
  refine one_ (i := 8) (N := none) bq_7 rfl rfl (one_of HT_.out (by kernel_rfl)) (by decide) (fun K hK => ?_)
  have hs26 : w25.cell? ⟨gb265, 0, none⟩ = some (.int .i64 0) := (blk_cell BK265.out 0).trans rfl
  have hfs26 := blk_frozen BK265.out 0
  obtain ⟨n263_265, n265_263⟩ := an2_ NB263_265 NB265_263
  have hs27 : w25.cell? ⟨gb265, 1, none⟩ = some (.string (⟨#[]⟩ : ByteArray)) := (blk_cell BK265.out 1).trans rfl
  have hfs27 := blk_frozen BK265.out 1
  refine skip_ (w1 := ?_) (by rfl) rfl ?_ ?_
  rotate_left
  ·go_simp
   rfl
  refine hK.out _ _ trivial (fun hHeld => ?_)
  clear hK K
  refine done_ (done_of HT_.out (by kernel_rfl)) ?_
  obtain ⟨hcz29_0, hcz29_1⟩ := bk2_ BK265.out
  obtain ⟨hfz29_0, hfz29_1⟩ := bf2_ BK265.out
  try go_wp2_with (first | ((with_reducible refine gate_callee (f := 24) rfl ?_); refine goesL_ (some 17) rfl rfl Tryd.func24 (by kernel_rfl) rfl #[.agg #[.int .i64 (wrap64 (bt a0 0)), .string t264]] rfl tq_0 ?_; (with_reducible refine (impl_EntryWord.calls k (wrap64 (bt a0 0)) t264 t266 _ A7.out).mono ?_); rintro e w30 ⟨rfl, hb⟩; refine ⟨_, rfl, ?_⟩; have z_ := p_ (blk_below (g := gb263) (o := .cells #[.int .i64 0, .string (⟨#[]⟩ : ByteArray)] 47 (0, 0)) tq_60 hb) <| p_ (blk_below (g := gb265) (o := .cells #[.int .i64 (wrap64 (bt a0 0)), .string t264] 47 (0, 0)) tq_53 hb) <| a_ (below_step th_ hb); clear BK263 BK265 HB; obtain ⟨BK263, BK265, HB⟩ := z_; (try clear hb); obtain ⟨hcz31_0, hcz31_1⟩ := bk2_ BK263.out; obtain ⟨hfz31_0, hfz31_1⟩ := bf2_ BK263.out))
  refine bodyPost_ret (results_ct rfl _ _ gb263 47 #[.int .i64 0, .string (⟨#[]⟩ : ByteArray)] (0, 0) _ rfl tb_ Tryd.underlying47 rfl (by kernel_rfl)) rfl ?_
  exact ⟨tq_2, th_⟩
 rw [if_pos c8] at H
 have c8b0 := beq_iff_eq.mpr c8
 have c8b1 := bne_eq_false_iff_eq.mpr c8
 clear c8
 simp only [Option.some.injEq, Prod.mk.injEq] at H
 obtain ⟨rfl, rfl, rfl⟩ := H
 go_enter Tryd.func23, Tryd.ntmps23
 try go_wp2_with (first | ((with_reducible refine gate_dst (N := 2) rfl ?_); refine be_ 2 (cs := #[.int .i64 0, .string (⟨#[]⟩ : ByteArray)]) 47 ?_; intro gb263 hg w9 hbox hb; have z_ := bx0_ th_ hb hbox hg; clear HB; obtain ⟨HB, BK263, GW263, GE263⟩ := z_; clear hb hbox hg))
 have z_ := dw1_ BK263 HB
 clear BK263 HB
 obtain ⟨BK263, HB⟩ := z_
 have p4 : 0 ≤ (0 : Int) := (by omega)
 have q4 : 0 < a0.size := (by have : (0 : Int) < (a0.size : Int) := of_decide_eq_true tq_1; omega)
 have hx4 : ∀ h : 0 < a0.size, ((a0[0]'h).toNat : Int) = bt a0 0 := bt_at a0 0
 clear p4
 have qi4 : (0 < (a0.size : Int)) = True := eq_true (of_decide_eq_true tq_1)
 replace q4 := eq_true q4
 refine start_ (n := 9) (S := fun w' => True) (ds := []) bq_1 (by kernel_rfl) rfl rfl trivial (fun hHeld => ?_); refine with_tabW impl_ReadEntry.tab3 impl_ReadEntry.bits3 (fun HT_ HW_ => ?_)
 generalize w9.drew = w10 at BK263 HB hHeld ⊢
 refine yr_ 0 9 bq_2 HT_ ?_
 refine yr_ 3 12 bq_3 HT_ ?_
 refine yr_ 4 13 bq_4 HT_ ?_
 refine take_ (i := 1) (N := some 10) (v := ?_) (a' := ?_) bq_147 rfl rfl (take_ofW HT_.out HW_.out (by kernel_rfl)) (fun _ _ _ h => h) (Or.inl ⟨(by rfl), ?_⟩) hHeld ?_ ?_
 rotate_left
 ·intro w' _
  go_simp
  with_reducible rfl
 rotate_left
 ·simp only [Act.put, List.setIfInBounds_toArray, List.set_cons_zero, List.set_cons_succ, i64_w, i32_w]
  rfl
 refine yr_ 2 11 bq_148 HT_ ?_
 refine join_ (σ := Nat) 1 bq_0 (fun s_ => [(14, .string t264), (4, .pointer (some ⟨s_, 0, none⟩)), (15, .agg #[.int .i64 (wrap64 (bt a0 0)), .string t264])]) (fun s_ w' => (w'.heap[gb263]? = some (.cells #[.int .i64 0, .string (⟨#[]⟩ : ByteArray)] 47 (0, 0))) ∧ (w'.heap[s_]? = some (.cells #[.int .i64 0, .string (⟨#[]⟩ : ByteArray)] 47 (0, 0))) ∧ (w.heap.size ≤ s_) ∧ (w.heap.size ≤ s_) ∧ (gb263 ≠ s_) ∧ (s_ ≠ gb263) ∧ (Below w.heap.size w w')) ?_ ?_
 rotate_left
 ·intro hCont
  refine two_ (i := 5) (j := 7) (Ni := some 14) (Nj := some 4) bq_5 bq_149 rfl rfl rfl rfl (two_of HT_.out (by kernel_rfl)) (by decide) (by decide) (fun K hK => ?_) (fun K hK => ?_)
  ·skip
   refine goes_ Tryd.func58 (by kernel_rfl) rfl #[.string (a0.extract 1 a0.size), .string (⟨#[0]⟩ : ByteArray)] (by rfl) rfl rfl tq_0 ?_
   with_reducible refine (strings_TrimRight.calls (a0.extract 1 a0.size) (⟨#[0]⟩ : ByteArray) t264 _ A6.out).mono ?_
   rintro e w11 ⟨rfl, hb⟩
   refine ⟨_, rfl, ?_⟩
   have z_ := bw1_ (kb_ BK263) th_ hb
   clear BK263 HB
   obtain ⟨BK263, HB⟩ := z_
   (try clear hb)
   refine hK.out _ _ trivial (fun hHeld => ?_)
   clear hK K
   refine nm_ (some 14) ?_
   refine yr_ 6 15 bq_6 HT_ ?_
   refine one_ (i := 7) (N := some 4) bq_0 rfl rfl (one_of HT_.out (by kernel_rfl)) (by decide) (fun K hK => ?_)
   refine box_step ?hg (N := 4) ?hd (cs := #[.int .i64 0, .string (⟨#[]⟩ : ByteArray)]) (t := 47) ?hr ?_; (case hd => rfl); (case hg => rfl); (case hr => first | (go_simp; done) | (go_simp; rfl))
   intro gb265 hg w12 hbox hb
   have z_ := bx1_ (kb_ BK263) th_ hb hbox hg
   clear BK263 HB
   obtain ⟨BK263, HB, BK265, GW265, GE265, NB263_265, NB265_263⟩ := z_
   clear hb hbox hg
   refine hK.out _ _ trivial (fun hHeld => ?_)
   clear hK K
   refine nm_ (some 4) ?_
   exact norm_ tq_68 (hCont (gb265) _ ⟨(kb_ BK263), (kb_ BK265), GW265.out, GE265.out, NB263_265.out, NB265_263.out, th_⟩)
  ·skip
   refine box_step ?hg (N := 4) ?hd (cs := #[.int .i64 0, .string (⟨#[]⟩ : ByteArray)]) (t := 47) ?hr ?_; (case hd => rfl); (case hg => rfl); (case hr => first | (go_simp; done) | (go_simp; rfl))
   intro gb265 hg w11 hbox hb
   have z_ := bx1_ (kb_ BK263) th_ hb hbox hg
   clear BK263 HB
   obtain ⟨BK263, HB, BK265, GW265, GE265, NB263_265, NB265_263⟩ := z_
   clear hb hbox hg
   refine hK.out _ _ trivial (fun hHeld => ?_)
   clear hK K
   refine nm_ (some 4) ?_
   refine one_ (i := 5) (N := some 14) bq_150 rfl rfl (one_of HT_.out (by kernel_rfl)) (by decide) (fun K hK => ?_)
   refine goes_ Tryd.func58 (by kernel_rfl) rfl #[.string (a0.extract 1 a0.size), .string (⟨#[0]⟩ : ByteArray)] (by rfl) rfl rfl tq_0 ?_
   with_reducible refine (strings_TrimRight.calls (a0.extract 1 a0.size) (⟨#[0]⟩ : ByteArray) t264 _ A6.out).mono ?_
   rintro e w12 ⟨rfl, hb⟩
   refine ⟨_, rfl, ?_⟩
   have z_ := bw2_ (kb_ BK263) (kb_ BK265) th_ hb
   clear BK263 BK265 HB
   obtain ⟨BK263, BK265, HB⟩ := z_
   (try clear hb)
   refine hK.out _ _ trivial (fun hHeld => ?_)
   clear hK K
   refine nm_ (some 14) ?_
   refine yr_ 6 15 bq_0 HT_ ?_
   exact norm_ tq_68 (hCont (gb265) _ ⟨(kb_ BK263), (kb_ BK265), GW265.out, GE265.out, NB263_265.out, NB265_263.out, th_⟩)
 rintro gb265 w13 ⟨h0_, h1_, h2_, h3_, h4_, h5_, h6_⟩
 have z_ := q_ (⟨h0_⟩ : Aside0 (w13.heap[gb263]? = some (.cells #[.int .i64 0, .string (⟨#[]⟩ : ByteArray)] 47 (0, 0)))) <| q_ (⟨h1_⟩ : Aside0 (w13.heap[gb265]? = some (.cells #[.int .i64 0, .string (⟨#[]⟩ : ByteArray)] 47 (0, 0)))) <| q_ (⟨h2_⟩ : Aside0 (w.heap.size ≤ gb265)) <| q_ (⟨h3_⟩ : Aside0 (w.heap.size ≤ gb265)) <| q_ (⟨h4_⟩ : Aside0 (gb263 ≠ gb265)) <| q_ (⟨h5_⟩ : Aside0 (gb265 ≠ gb263)) <| (⟨h6_⟩ : Aside0 (Below w.heap.size w w13))
 clear BK263 HB h0_ h1_ h2_ h3_ h4_ h5_ h6_
 obtain ⟨BK263, BK265, GW265, GE265, NB263_265, NB265_263, HB⟩ := z_
 have hHeld := trivial
 refine norm_ (a' := ?_) ?_ ?_
 rotate_left
 ·simp only [putAll, Act.put, List.setIfInBounds_toArray, List.set_cons_zero, List.set_cons_succ]
  rfl
 refine one_ (i := 8) (N := none) bq_7 rfl rfl (one_of HT_.out (by kernel_rfl)) (by decide) (fun K hK => ?_)
 have hs14 : w13.cell? ⟨gb265, 0, none⟩ = some (.int .i64 0) := (blk_cell BK265.out 0).trans rfl
 have hfs14 := blk_frozen BK265.out 0
 obtain ⟨n263_265, n265_263⟩ := an2_ NB263_265 NB265_263
 have hs15 : w13.cell? ⟨gb265, 1, none⟩ = some (.string (⟨#[]⟩ : ByteArray)) := (blk_cell BK265.out 1).trans rfl
 have hfs15 := blk_frozen BK265.out 1
 refine skip_ (w1 := ?_) (by rfl) rfl ?_ ?_
 rotate_left
 ·go_simp
  rfl
 refine hK.out _ _ trivial (fun hHeld => ?_)
 clear hK K
 refine done_ (done_of HT_.out (by kernel_rfl)) ?_
 obtain ⟨hcz17_0, hcz17_1⟩ := bk2_ BK265.out
 obtain ⟨hfz17_0, hfz17_1⟩ := bf2_ BK265.out
 try go_wp2_with (first | ((with_reducible refine gate_callee (f := 24) rfl ?_); refine goesL_ (some 17) rfl rfl Tryd.func24 (by kernel_rfl) rfl #[.agg #[.int .i64 (wrap64 (bt a0 0)), .string t264]] rfl tq_0 ?_; (with_reducible refine (impl_EntryWord.calls k (wrap64 (bt a0 0)) t264 t266 _ A7.out).mono ?_); rintro e w18 ⟨rfl, hb⟩; refine ⟨_, rfl, ?_⟩; have z_ := p_ (blk_below (g := gb263) (o := .cells #[.int .i64 0, .string (⟨#[]⟩ : ByteArray)] 47 (0, 0)) tq_60 hb) <| p_ (blk_below (g := gb265) (o := .cells #[.int .i64 (wrap64 (bt a0 0)), .string t264] 47 (0, 0)) tq_53 hb) <| a_ (below_step th_ hb); clear BK263 BK265 HB; obtain ⟨BK263, BK265, HB⟩ := z_; (try clear hb); obtain ⟨hcz19_0, hcz19_1⟩ := bk2_ BK265.out; obtain ⟨hfz19_0, hfz19_1⟩ := bf2_ BK265.out; obtain ⟨hcz20_0, hcz20_1⟩ := bk2_ BK263.out; obtain ⟨hfz20_0, hfz20_1⟩ := bf2_ BK263.out))
 refine bodyPost_ret (results_ct rfl _ _ gb263 47 #[.int .i64 (wrap64 (bt a0 0)), .string t264] (0, 0) _ rfl tb_ Tryd.underlying47 rfl (by kernel_rfl)) rfl ?_
 exact ⟨tq_2, th_⟩

/-! ### impl_ReadInode_1: function 36 -/
def impl_ReadInode_1.f (a0 : ByteArray) : Option (Bool) := some ((a0.size : Int) != 8)
set_option maxHeartbeats 8000000 in
set_option maxRecDepth 100000 in
theorem impl_ReadInode_1.calls (a0 : ByteArray) (r : Bool) (w : World) (h : impl_ReadInode_1.f a0 = some r) :
  Calls Tryd.prog 36 #[.string a0] w fun e w' => e = .returned (.bool r) ∧ Drawn0 w w' := by
 unfold impl_ReadInode_1.f at h
 have H := h
 clear h
 obtain rfl := Option.some.inj H
 go_enter Tryd.func36, Tryd.ntmps36
 go_wp2
 go_ret
 exact ⟨tq_4, tq_11⟩

/-! ### slices_IndexFunc_string: function 68 -/
def slices_IndexFunc_string.l0 : Nat → List ByteArray → Int → Int → Option (Int)
 | 0, _, _, _ => none
 | k + 1, x0, x7, x8 => if x8 < x7 then (if 0 ≤ x8 then (if x8 < (x0.length : Int) then ((impl_ReadInode_1.f (rdOf ByteArray.empty x0 x8)).bind fun t268 => (if t268 = true then (some x8) else (slices_IndexFunc_string.l0 k x0 x7 (wrap64 (x8 + 1))))) else (none)) else (none)) else (some (-1))
def slices_IndexFunc_string.f (k : Nat) (l0 : List ByteArray) (a1 : Unit) : Option (Int) := slices_IndexFunc_string.l0 k l0 (l0.length : Int) 0
theorem slices_IndexFunc_string.mono_l : ∀ k, (∀ y0 y1 y2, LeO (slices_IndexFunc_string.l0 k y0 y1 y2) (slices_IndexFunc_string.l0 (k + 1) y0 y1 y2))
 | 0 => fun _ _ _ r h => by simp [slices_IndexFunc_string.l0] at h
 | k + 1 => by
  have ih0 := slices_IndexFunc_string.mono_l k
  ·intro y0 y1 y2
   unfold slices_IndexFunc_string.l0
   exact mo_1
theorem slices_IndexFunc_string.mono : ∀ a0 a1 k, LeO (slices_IndexFunc_string.f k a0 a1) (slices_IndexFunc_string.f (k + 1) a0 a1) := by
 intro a0 a1 k
 have ih0 := slices_IndexFunc_string.mono_l k
 unfold slices_IndexFunc_string.f
 repeat' first
   | (with_reducible exact ih0 ..)
   | (with_reducible exact LeO.refl _)
   | (with_reducible exact LeO.none _)
   | (with_reducible refine LeO.ite ?_ ?_)
   | (with_reducible refine LeO.bind ?_ (fun _ => ?_))
   | exact ih0 ..
   | exact LeO.none _
   | refine LeO.ite ?_ ?_
   | refine LeO.bind ?_ (fun _ => ?_)
set_option maxHeartbeats 8000000 in
set_option maxRecDepth 100000 in
theorem slices_IndexFunc_string.calls (k : Nat) (A0 : Option Addr) (c0 : Nat) (l0 : List ByteArray) (a1 : Unit) (r : Int) (w : World) (hr0 : Kd.C Kd.string w A0 l0.length l0) (hc0 : l0.length ≤ c0) (h : slices_IndexFunc_string.f k l0 a1 = some r) :
  Calls Tryd.prog 68 #[.slice A0 l0.length c0, .func (.func 36) #[] #[]] w fun e w' => e = .returned (.int .i64 r) ∧ Drawn0 w w' := by
 have HR0 := Aside0.mk hr0
 have HC0 := Aside0.mk hc0
 clear hr0 hc0
 unfold slices_IndexFunc_string.f at h
 have H := h
 clear h
 have H' := Aside0.mk H
 clear H
 go_enter Tryd.func68, Tryd.ntmps68
 go_wp2
 go_loopg [8] k (fun kq v8 w' => ∃ (x8_1 : Int), v8 = .int .i64 x8_1 ∧ Aside0 (slices_IndexFunc_string.l0 kq l0 (l0.length : Int) x8_1 = some r) ∧ Aside0 (kq ≤ k) ∧ Drawn0 w w')
 case atStart => exact ⟨(0), tq_4, H', ⟨Nat.le_refl _⟩, tq_11⟩
 case round =>
 clear H'
 try clear p2
 obtain ⟨x8_1, rfl, HA, HK1, ⟨m1, rfl⟩⟩ := hrel
 cases gk with
 | zero => exact absurd HA.out (by simp [slices_IndexFunc_string.l0])
 | succ k1 =>
 have H := HA.out
 clear HA
 simp only [slices_IndexFunc_string.l0] at H
 by_cases c3 : x8_1 < (l0.length : Int)
 rotate_left
 ·rw [if_neg c3] at H
  have c3b0 := decide_eq_false c3
  clear c3
  obtain rfl := Option.some.inj H
  go_wp2
  go_ret
  exact ⟨tq_4, tq_11⟩
 rw [if_pos c3] at H
 have c3b0 := decide_eq_true c3
 clear c3
 obtain ⟨c4, H⟩ := fc_ H
 have c4b0 := decide_eq_true c4
 clear c4
 obtain ⟨c5, H⟩ := fc_ H
 have c5b0 := decide_eq_true c5
 clear c5
 obtain ⟨t268, A6, H⟩ := bd_ H
 by_cases c7 : t268 = true
 ·subst c7
  rw [if_pos rfl] at H
  obtain rfl := Option.some.inj H
  have p267 : 0 ≤ (x8_1 : Int) := of_decide_eq_true tq_1
  have q267 : x8_1 < (l0.length : Int) := of_decide_eq_true tq_1
  obtain ⟨ad267, e267, hx267_0⟩ := Kd.at_string HR0.out x8_1 p267 q267
  cases e267
  replace p267 := eq_true p267
  replace q267 := eq_true q267
  go_wp2_with (first | (go_at_call 36; (with_reducible refine (impl_ReadInode_1.calls (rdOf ByteArray.empty l0 x8_1) true _ A6.out).mono ?_); rintro e w' ⟨rfl, ⟨nd, rfl⟩⟩))
  go_ret
  exact ⟨tq_4, tq_11⟩
 replace c7 := Bool.eq_false_iff.mpr c7
 subst c7
 rw [if_neg nf_] at H
 have H' := Aside0.mk H
 clear H
 have p267 : 0 ≤ (x8_1 : Int) := of_decide_eq_true tq_1
 have q267 : x8_1 < (l0.length : Int) := of_decide_eq_true tq_1
 obtain ⟨ad267, e267, hx267_0⟩ := Kd.at_string HR0.out x8_1 p267 q267
 cases e267
 replace p267 := eq_true p267
 replace q267 := eq_true q267
 go_wp2_with (first | (go_at_call 36; (with_reducible refine (impl_ReadInode_1.calls (rdOf ByteArray.empty l0 x8_1) false _ A6.out).mono ?_); rintro e w' ⟨rfl, ⟨nd, rfl⟩⟩))
 go_roundg k1
 case measure => have := HK1.out; omega
 case rel => exact ⟨(wrap64 (x8_1 + 1)), tq_4, H', ⟨tq_56⟩, tq_11⟩

/-! ### slices_ContainsFunc_string: function 35 -/
def slices_ContainsFunc_string.f (k : Nat) (l0 : List ByteArray) (a1 : Unit) : Option (Bool) := (slices_IndexFunc_string.f k l0 a1).bind fun t269 => (some (decide (t269 ≥ 0)))
theorem slices_ContainsFunc_string.mono : ∀ a0 a1 k, LeO (slices_ContainsFunc_string.f k a0 a1) (slices_ContainsFunc_string.f (k + 1) a0 a1) := by
 intro a0 a1 k
 unfold slices_ContainsFunc_string.f
 repeat' first
   | (with_reducible exact slices_IndexFunc_string.mono ..)
   | (with_reducible exact LeO.refl _)
   | (with_reducible exact LeO.none _)
   | (with_reducible refine LeO.ite ?_ ?_)
   | (with_reducible refine LeO.bind ?_ (fun _ => ?_))
   | exact slices_IndexFunc_string.mono ..
   | exact LeO.none _
   | refine LeO.ite ?_ ?_
   | refine LeO.bind ?_ (fun _ => ?_)
set_option maxHeartbeats 8000000 in
set_option maxRecDepth 100000 in
theorem slices_ContainsFunc_string.calls (k : Nat) (A0 : Option Addr) (c0 : Nat) (l0 : List ByteArray) (a1 : Unit) (r : Bool) (w : World) (hr0 : Kd.C Kd.string w A0 l0.length l0) (hc0 : l0.length ≤ c0) (h : slices_ContainsFunc_string.f k l0 a1 = some r) :
  Calls Tryd.prog 35 #[.slice A0 l0.length c0, .func (.func 36) #[] #[]] w fun e w' => e = .returned (.bool r) ∧ Drawn0 w w' := by
 have HR0 := Aside0.mk hr0
 have HC0 := Aside0.mk hc0
 clear hr0 hc0
 unfold slices_ContainsFunc_string.f at h
 have H := h
 clear h
 obtain ⟨t269, A3, H⟩ := bd_ H
 obtain rfl := Option.some.inj H
 go_enter Tryd.func35, Tryd.ntmps35
 go_wp2_with (first | ((with_reducible refine gate_callee (f := 68) rfl ?_); refine goesL_ (some 7) rfl rfl Tryd.func68 (by kernel_rfl) rfl #[.slice A0 l0.length c0, .func (.func 36) #[] #[]] rfl tq_0 ?_; (with_reducible refine (slices_IndexFunc_string.calls k _ _ l0 a1 t269 _ ?side1 ?side2 A3.out).mono ?_); (case side1 => exact tq_93); (case side2 => exact HC0.out); rintro e w' ⟨rfl, ⟨nd, rfl⟩⟩; refine ⟨_, rfl, ?_⟩))
 go_ret
 exact ⟨tq_4, tq_11⟩

/-! ### impl_zeroWord: function 38 -/
def impl_zeroWord.f  : Option (ByteArray) := (impl_padded.f (⟨#[]⟩ : ByteArray) 8).bind fun t270 => (some t270)
set_option maxHeartbeats 8000000 in
set_option maxRecDepth 100000 in
theorem impl_zeroWord.calls  (r : ByteArray) (w : World) (h : impl_zeroWord.f  = some r) :
  Calls Tryd.prog 38 #[] w fun e w' => e = .returned (.string r) ∧ Below w.heap.size w w' := by
 have HB := Aside0.mk (Below.refl w.heap.size w)
 unfold impl_zeroWord.f at h
 have H := h
 clear h
 obtain ⟨t270, A1, H⟩ := bd_ H
 obtain rfl := Option.some.inj H
 go_enter Tryd.func38, Tryd.ntmps38
 go_wp2_with (first | ((with_reducible refine gate_callee (f := 69) rfl ?_); refine goesL_ (some 1) rfl rfl Tryd.func69 (by kernel_rfl) rfl #[.string (⟨#[]⟩ : ByteArray), .int .i64 8] rfl tq_0 ?_; (with_reducible refine (impl_padded.calls (⟨#[]⟩ : ByteArray) 8 t270 _ A1.out).mono ?_); rintro e w2 ⟨rfl, hb⟩; refine ⟨_, rfl, ?_⟩; have n0_ := Aside0.mk (below_step th_ hb); clear HB; have HB := n0_; clear n0_; (try clear hb)))
 go_ret
 exact ⟨tq_2, th_⟩

/-! ### slices_Equal_string: function 39 -/
def slices_Equal_string.l0 : Nat → List ByteArray → List ByteArray → Int → Int → Option (Bool)
 | 0, _, _, _, _ => none
 | k + 1, x0, x1, x12, x13 => if x13 < x12 then (if 0 ≤ x13 then (if x13 < (x0.length : Int) then (if x13 < (x1.length : Int) then (if (rdOf ByteArray.empty x0 x13).toList = (rdOf ByteArray.empty x1 x13).toList then (slices_Equal_string.l0 k x0 x1 x12 (wrap64 (x13 + 1))) else (some false)) else (none)) else (none)) else (none)) else (some true)
def slices_Equal_string.f (k : Nat) (l0 : List ByteArray) (l1 : List ByteArray) : Option (Bool) := if (l0.length : Int) = (l1.length : Int) then (slices_Equal_string.l0 k l0 l1 (l0.length : Int) 0) else (some false)
theorem slices_Equal_string.mono_l : ∀ k, (∀ y0 y1 y2 y3, LeO (slices_Equal_string.l0 k y0 y1 y2 y3) (slices_Equal_string.l0 (k + 1) y0 y1 y2 y3))
 | 0 => fun _ _ _ _ r h => by simp [slices_Equal_string.l0] at h
 | k + 1 => by
  have ih0 := slices_Equal_string.mono_l k
  ·intro y0 y1 y2 y3
   unfold slices_Equal_string.l0
   exact mo_1
theorem slices_Equal_string.mono : ∀ a0 a1 k, LeO (slices_Equal_string.f k a0 a1) (slices_Equal_string.f (k + 1) a0 a1) := by
 intro a0 a1 k
 have ih0 := slices_Equal_string.mono_l k
 unfold slices_Equal_string.f
 repeat' first
   | (with_reducible exact ih0 ..)
   | (with_reducible exact LeO.refl _)
   | (with_reducible exact LeO.none _)
   | (with_reducible refine LeO.ite ?_ ?_)
   | (with_reducible refine LeO.bind ?_ (fun _ => ?_))
   | exact ih0 ..
   | exact LeO.none _
   | refine LeO.ite ?_ ?_
   | refine LeO.bind ?_ (fun _ => ?_)
set_option maxHeartbeats 8000000 in
set_option maxRecDepth 100000 in
theorem slices_Equal_string.calls (k : Nat) (A0 : Option Addr) (c0 : Nat) (l0 : List ByteArray) (A1 : Option Addr) (c1 : Nat) (l1 : List ByteArray) (r : Bool) (w : World) (hr0 : Kd.C Kd.string w A0 l0.length l0) (hc0 : l0.length ≤ c0) (hr1 : Kd.C Kd.string w A1 l1.length l1) (hc1 : l1.length ≤ c1) (h : slices_Equal_string.f k l0 l1 = some r) :
  Calls Tryd.prog 39 #[.slice A0 l0.length c0, .slice A1 l1.length c1] w fun e w' => e = .returned (.bool r) ∧ Drawn0 w w' := by
 have HR0 := Aside0.mk hr0
 have HC0 := Aside0.mk hc0
 clear hr0 hc0
 have HR1 := Aside0.mk hr1
 have HC1 := Aside0.mk hc1
 clear hr1 hc1
 unfold slices_Equal_string.f at h
 have H := h
 clear h
 by_cases c3 : (l0.length : Int) = (l1.length : Int)
 rotate_left
 ·rw [if_neg c3] at H
  have c3b0 := beq_eq_false_iff_ne.mpr c3
  have c3b1 := bne_iff_ne.mpr c3
  have c3b2 : (l0.length == l1.length) = false := by first | simpa using c3 | (simp at c3 ⊢; omega)
  obtain rfl := Option.some.inj H
  go_enter Tryd.func39, Tryd.ntmps39
  go_wp2
  repeat (go_quiet (fail); try go_wp2)
  go_ret
  exact ⟨tq_4, tq_11⟩
 rw [if_pos c3] at H
 have c3b0 := beq_iff_eq.mpr c3
 have c3b1 := bne_eq_false_iff_eq.mpr c3
 have c3b2 : (l0.length == l1.length) = true := by first | simpa using c3 | (simp at c3 ⊢; omega)
 clear c3
 have H' := Aside0.mk H
 clear H
 go_enter Tryd.func39, Tryd.ntmps39
 go_wp2
 repeat (go_quiet (fail); try go_wp2)
 go_loopg [13] k (fun kq v13 w' => ∃ (x13_1 : Int), v13 = .int .i64 x13_1 ∧ Aside0 (slices_Equal_string.l0 kq l0 l1 (l0.length : Int) x13_1 = some r) ∧ Aside0 (kq ≤ k) ∧ Drawn0 w w')
 case atStart => exact ⟨(0), tq_4, H', ⟨Nat.le_refl _⟩, tq_11⟩
 case round =>
 clear H'
 try clear c1; try clear p2; try clear c3; try clear c3b0; try clear c3b1; try clear c3b2
 obtain ⟨x13_1, rfl, HA, HK1, ⟨m1, rfl⟩⟩ := hrel
 cases gk with
 | zero => exact absurd HA.out (by simp [slices_Equal_string.l0])
 | succ k1 =>
 have H := HA.out
 clear HA
 simp only [slices_Equal_string.l0] at H
 by_cases c4 : x13_1 < (l0.length : Int)
 rotate_left
 ·rw [if_neg c4] at H
  have c4b0 := decide_eq_false c4
  clear c4
  obtain rfl := Option.some.inj H
  go_wp2
  repeat (go_quiet (fail); try go_wp2)
  go_ret
  exact ⟨tq_4, tq_11⟩
 rw [if_pos c4] at H
 have c4b0 := decide_eq_true c4
 clear c4
 obtain ⟨c5, H⟩ := fc_ H
 have c5b0 := decide_eq_true c5
 clear c5
 obtain ⟨c6, H⟩ := fc_ H
 have c6b0 := decide_eq_true c6
 clear c6
 obtain ⟨c7, H⟩ := fc_ H
 have c7b0 := decide_eq_true c7
 clear c7
 by_cases c8 : (rdOf ByteArray.empty l0 x13_1).toList = (rdOf ByteArray.empty l1 x13_1).toList
 rotate_left
 ·rw [if_neg c8] at H
  have c8b0 := beq_eq_false_iff_ne.mpr c8
  have c8b1 := bne_iff_ne.mpr c8
  obtain rfl := Option.some.inj H
  have p271 : 0 ≤ (x13_1 : Int) := of_decide_eq_true tq_1
  have q271 : x13_1 < (l0.length : Int) := of_decide_eq_true tq_1
  obtain ⟨ad271, e271, hx271_0⟩ := Kd.at_string HR0.out x13_1 p271 q271
  cases e271
  replace p271 := eq_true p271
  replace q271 := eq_true q271
  have p272 : 0 ≤ (x13_1 : Int) := of_decide_eq_true tq_1
  have q272 : x13_1 < (l1.length : Int) := of_decide_eq_true tq_1
  obtain ⟨ad272, e272, hx272_0⟩ := Kd.at_string HR1.out x13_1 p272 q272
  cases e272
  replace p272 := eq_true p272
  replace q272 := eq_true q272
  go_wp2
  repeat (go_quiet (fail); try go_wp2)
  go_ret
  exact ⟨tq_4, tq_11⟩
 rw [if_pos c8] at H
 have c8b0 := beq_iff_eq.mpr c8
 have c8b1 := bne_eq_false_iff_eq.mpr c8
 clear c8
 have H' := Aside0.mk H
 clear H
 have p271 : 0 ≤ (x13_1 : Int) := of_decide_eq_true tq_1
 have q271 : x13_1 < (l0.length : Int) := of_decide_eq_true tq_1
 obtain ⟨ad271, e271, hx271_0⟩ := Kd.at_string HR0.out x13_1 p271 q271
 cases e271
 replace p271 := eq_true p271
 replace q271 := eq_true q271
 have p272 : 0 ≤ (x13_1 : Int) := of_decide_eq_true tq_1
 have q272 : x13_1 < (l1.length : Int) := of_decide_eq_true tq_1
 obtain ⟨ad272, e272, hx272_0⟩ := Kd.at_string HR1.out x13_1 p272 q272
 cases e272
 replace p272 := eq_true p272
 replace q272 := eq_true q272
 go_wp2
 repeat (go_quiet (fail); try go_wp2)
 go_roundg k1
 case measure => have := HK1.out; omega
 case rel => exact ⟨(wrap64 (x13_1 + 1)), tq_4, H', ⟨tq_56⟩, tq_11⟩

end Go.Proofs.YtjfhddenmnjgbaaDoor.PFnAnyInode
