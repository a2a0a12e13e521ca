/- Contracts of Go functions, written by a program of ours over the print of the kit: each says that the call returns what the Lean function beside it computes. Conditions: as each theorem states them. -/
import Derived.Test.YtjfhddenmnjgbaaDoorPkFnAnyInode
import Derived.Test.YtjfhddenmnjgbaaDoorPFnAnyInodex0
import Derived.Test.YtjfhddenmnjgbaaDoorPFnAnyInodex9
import Derived.Test.YtjfhddenmnjgbaaDoorPFnAnyInodex10
import Derived.Test.YtjfhddenmnjgbaaDoorPFnAnyInodex13
namespace Go.Proofs.YtjfhddenmnjgbaaDoor.PFnAnyInode
open Go.RowKit Go.Proofs.YtjfhddenmnjgbaaDoorW.PrintWords Go.Proofs.YtjfhddenmnjgbaaDoorW.PrintLast Go.Proofs.YtjfhddenmnjgbaaDoorW.PrintMore
attribute [local go_sem] max2_int min2_int max_two min_two max_three min_three max_four min_four setCell_drewN   -- for this text's walks alone
set_option linter.unusedVariables false
set_option linter.unusedSimpArgs false

/-! ### impl_inodeText: function 40 -/
mutual
def impl_inodeText.l0 : Nat → List ByteArray → List (S42) → Int → Int → Int → Int → Int → ByteArray → List (S42) → List (S47) → Option (List ByteArray)
 | 0, _, _, _, _, _, _, _, _, _, _ => none
 | k + 1, x3, x25, x26, x27, x274000, x274001, x274002, x274003, x274004, x274005 => if x27 < x26 then (if 0 ≤ x27 then (if x27 < (x25.length : Int) then ((impl_RecWord.f k ((rd_T42 x25 x27).f0) ((rd_T42 x25 x27).f1) ((rd_T42 x25 x27).f2)).bind fun t284 => (if x3.length < 8796093022208 then (impl_inodeText.l0 k (x3 ++ [t284]) x25 x26 (wrap64 (x27 + 1)) x274000 x274001 x274002 x274003 x274004 x274005) else (none))) else (none)) else (none)) else (impl_inodeText.l1 k x3 x274005 (x274005.length : Int) 0)
def impl_inodeText.l1 : Nat → List ByteArray → List (S47) → Int → Int → Option (List ByteArray)
 | 0, _, _, _, _ => none
 | k + 1, x3, x38, x39, x40 => if x40 < x39 then (if 0 ≤ x40 then (if x40 < (x38.length : Int) then ((impl_EntryWord.f k ((rd_T47 x38 x40).f0) ((rd_T47 x38 x40).f1)).bind fun t290 => (if x3.length < 8796093022208 then (impl_inodeText.l1 k (x3 ++ [t290]) x38 x39 (wrap64 (x40 + 1))) else (none))) else (none)) else (none)) else (impl_inodeText.l2 k x3)
def impl_inodeText.l2 : Nat → List ByteArray → Option (List ByteArray)
 | 0, _ => none
 | k + 1, x3 => if (x3.length : Int) < 8 then ((impl_zeroWord.f).bind fun t294 => (if x3.length < 8796093022208 then (impl_inodeText.l2 k (x3 ++ [t294])) else (none))) else (some x3)
end
def impl_inodeText.f (k : Nat) (a0_0 : Int) (a0_1 : Int) (a0_2 : Int) (a0_3 : ByteArray) (l0_4 : List (S42)) (l0_5 : List (S47)) : Option (List ByteArray) := (impl_NumText.f k a0_0 1).bind fun t274 => ((impl_NumText.f k a0_1 2).bind fun t275 => (if t274.size + t275.size ≤ 9223372036854775807 then ((impl_NumText.f k a0_2 2).bind fun t276 => (if (t274 ++ t275).size + t276.size ≤ 9223372036854775807 then ((impl_WordText.f ((t274 ++ t275) ++ t276)).bind fun t277 => ((impl_WordText.f a0_3).bind fun t278 => (impl_inodeText.l0 k (([t277, t278] : List ByteArray)) l0_4 (l0_4.length : Int) 0 a0_0 a0_1 a0_2 a0_3 l0_4 l0_5))) else (none))) else (none)))
theorem impl_inodeText.mono_l : ∀ k, (∀ y0 y1 y2 y3 y4 y5 y6 y7 y8 y9, LeO (impl_inodeText.l0 k y0 y1 y2 y3 y4 y5 y6 y7 y8 y9) (impl_inodeText.l0 (k + 1) y0 y1 y2 y3 y4 y5 y6 y7 y8 y9)) ∧ (∀ y0 y1 y2 y3, LeO (impl_inodeText.l1 k y0 y1 y2 y3) (impl_inodeText.l1 (k + 1) y0 y1 y2 y3)) ∧ (∀ y0, LeO (impl_inodeText.l2 k y0) (impl_inodeText.l2 (k + 1) y0))
 | 0 => ⟨fun _ _ _ _ _ _ _ _ _ _ r h => by simp [impl_inodeText.l0] at h, fun _ _ _ _ r h => by simp [impl_inodeText.l1] at h, fun _ r h => by simp [impl_inodeText.l2] at h⟩
 | k + 1 => by
  obtain ⟨ih0, ih1, ih2⟩ := impl_inodeText.mono_l k
  refine ⟨?_, ?_, ?_⟩
  ·intro y0 y1 y2 y3 y4 y5 y6 y7 y8 y9
   unfold impl_inodeText.l0
   exact mo_5
  ·intro y0 y1 y2 y3
   unfold impl_inodeText.l1
   exact mo_5
  ·intro y0
   unfold impl_inodeText.l2
   exact mo_5
theorem impl_inodeText.mono : ∀ a0 a1 a2 a3 a4 a5 k, LeO (impl_inodeText.f k a0 a1 a2 a3 a4 a5) (impl_inodeText.f (k + 1) a0 a1 a2 a3 a4 a5) := by
 intro a0 a1 a2 a3 a4 a5 k
 obtain ⟨ih0, ih1, ih2⟩ := impl_inodeText.mono_l k
 unfold impl_inodeText.f
 repeat' first
   | (with_reducible exact ih0 ..)
   | (with_reducible exact ih1 ..)
   | (with_reducible exact ih2 _)
   | (with_reducible exact impl_EntryWord.mono ..)
   | (with_reducible exact impl_NumText.mono ..)
   | (with_reducible exact impl_RecWord.mono ..)
   | (with_reducible exact LeO.refl _)
   | (with_reducible exact LeO.none _)
   | (with_reducible refine LeO.ite ?_ ?_)
   | (with_reducible refine LeO.bind ?_ (fun _ => ?_))
   | exact ih0 ..
   | exact ih1 ..
   | exact ih2 _
   | exact impl_EntryWord.mono ..
   | exact impl_NumText.mono ..
   | exact impl_RecWord.mono ..
   | exact LeO.none _
   | refine LeO.ite ?_ ?_
   | refine LeO.bind ?_ (fun _ => ?_)
def impl_inodeText.T1 : Bool × List (List Nat × List Nat) := (true, [([], []), ([0], [0]), ([1], [1]), ([], []), ([3], [3]), ([4, 2], [4]), ([2, 5], [2, 5]), ([], []), ([7], [7]), ([8, 5], [8]), ([6, 9], [6, 9]), ([10, 9], [10]), ([], []), ([12], [12]), ([13, 11], [13]), ([11, 14], [11, 14]), ([15, 14, 0, 1, 2, 3, 4, 5, 6, 7, 8, 9, 10, 11, 12, 13, 14, 15], [15])])
def impl_inodeText.B1 : List Nat := [0, 1, 3, 0, 8, 31, 63, 0, 128, 447, 1023, 2047, 0, 4096, 16383, 32767, 65535]
theorem impl_inodeText.tab1 : rtab .any (opsOf Tryd.f40 1) = impl_inodeText.T1 := by kernel_rfl
theorem impl_inodeText.bits1 : waitsOk impl_inodeText.T1.2 impl_inodeText.B1 = true := by kernel_rfl
set_option maxHeartbeats 8000000 in
set_option maxRecDepth 100000 in
theorem impl_inodeText.calls (k : Nat) (a0_0 : Int) (a0_1 : Int) (a0_2 : Int) (a0_3 : ByteArray) (A0_4 : Option Addr) (c0_4 : Nat) (l0_4 : List (S42)) (A0_5 : Option Addr) (c0_5 : Nat) (l0_5 : List (S47)) (r : List ByteArray) (w : World) (hr0_4 : Kd.C k42 w A0_4 l0_4.length l0_4) (hc0_4 : l0_4.length ≤ c0_4) (hr0_5 : Kd.C k47 w A0_5 l0_5.length l0_5) (hc0_5 : l0_5.length ≤ c0_5) (h : impl_inodeText.f k a0_0 a0_1 a0_2 a0_3 l0_4 l0_5 = some r) :
  Calls Tryd.prog 40 #[.agg #[.int .i64 a0_0, .int .i64 a0_1, .int .i64 a0_2, .string a0_3, .slice A0_4 l0_4.length c0_4, .slice A0_5 l0_5.length c0_5]] w fun e w' => ∃ v0_ : Value, e = .returned (v0_) ∧ Kd.R Kd.string 9 w' w.heap.size (fun _ => True) v0_ r ∧ Below w.heap.size w w' := by
 have hu27 := Tryd.underlying27
 have hu42 := Tryd.underlying42
 have hu47 := Tryd.underlying47
 have HR0_4 := Aside0.mk hr0_4
 have HC0_4 := Aside0.mk hc0_4
 clear hr0_4 hc0_4
 have HR0_5 := Aside0.mk hr0_5
 have HC0_5 := Aside0.mk hc0_5
 clear hr0_5 hc0_5
 have HB := Aside0.mk (Below.refl w.heap.size w)
 unfold impl_inodeText.f at h
 have H := h
 clear h
 obtain ⟨t274, A2, H⟩ := bd_ H
 obtain ⟨t275, A3, H⟩ := bd_ H
 obtain ⟨c4, H⟩ := fc_ H
 have c4b0 := eq_true c4
 have c4b1 := decide_eq_true c4
 try have c4b2 : (9223372036854775807 < t274.size + t275.size) = False := eq_false (Nat.not_lt.2 c4)
 obtain ⟨t276, A5, H⟩ := bd_ H
 obtain ⟨c6, H⟩ := fc_ H
 have c6b0 := eq_true c6
 have c6b1 := decide_eq_true c6
 try have c6b2 : (9223372036854775807 < (t274 ++ t275).size + t276.size) = False := eq_false (Nat.not_lt.2 c6)
 try have c6b2s : (9223372036854775807 < t274.size + t275.size + t276.size) = False := by rw [← ByteArray.size_append]; exact c6b2
 obtain ⟨t277, A7, H⟩ := bd_ H
 obtain ⟨t278, A8, H⟩ := bd_ H
 obtain ⟨y279, hy279⟩ : ∃ y_ : List ByteArray, y_ = (([t277, t278] : List ByteArray)) := ⟨_, rfl⟩
 replace H : (impl_inodeText.l0 k y279 l0_4 (l0_4.length : Int) 0 a0_0 a0_1 a0_2 a0_3 l0_4 l0_5) = some r := by first | (rw [hy279]; with_reducible exact H) | (have H2_ := (Option.bind_some _ _).symm.trans H; rw [hy279]; with_reducible exact H2_) | (have H2_ := (Option.bind_some _ _).symm.trans H; with_reducible exact H2_) | with_reducible exact H | (rw [hy279]; exact H) | exact H
 have Ny279 := Aside0.mk hy279
 clear hy279
 have H' := Aside0.mk H
 clear H
 go_enter Tryd.func40, Tryd.ntmps40
 try go_wp2_with (first | ((with_reducible refine gate_dst (N := 1) rfl ?_); refine be_ 1 (cs := #[.int .i64 a0_0, .int .i64 a0_1, .int .i64 a0_2, .string a0_3, .slice A0_4 l0_4.length c0_4, .slice A0_5 l0_5.length c0_5]) 27 ?_; intro gb273 hg w9 hbox hb; have z_ := bx0_ th_ hb hbox hg; clear HB; obtain ⟨HB, BK273, GW273, GE273⟩ := z_; clear hb hbox hg))
 have z_ := dw1_ BK273 HB
 clear BK273 HB
 obtain ⟨BK273, HB⟩ := z_
 refine start_ (n := 17) (S := fun w' => w'.cell? ⟨gb273, 0, none⟩ = some (.int .i64 a0_0) ∧ w'.cell? ⟨gb273, 1, none⟩ = some (.int .i64 a0_1) ∧ w'.cell? ⟨gb273, 2, none⟩ = some (.int .i64 a0_2) ∧ w'.cell? ⟨gb273, 3, none⟩ = some (.string a0_3) ∧ w'.cell? ⟨gb273, 4, none⟩ = some (.slice A0_4 l0_4.length c0_4) ∧ w'.cell? ⟨gb273, 5, none⟩ = some (.slice A0_5 l0_5.length c0_5)) (ds := []) bq_121 (by kernel_rfl) rfl rfl (bk6_ BK273.out) (fun hHeld => ?_); refine with_tabW impl_inodeText.tab1 impl_inodeText.bits1 (fun HT_ HW_ => ?_)
 generalize w9.drew = w10 at BK273 HB hHeld ⊢
 refine yr_ 0 8 bq_122 HT_ ?_
 refine yr_ 3 11 bq_123 HT_ ?_
 refine yr_ 7 15 bq_124 HT_ ?_
 refine yr_ 12 20 bq_125 HT_ ?_
 refine tr_ 1 9 bq_126 HT_ HW_ hHeld ?_
 refine tr_ 4 12 bq_127 HT_ HW_ hHeld ?_
 refine tr_ 8 16 bq_128 HT_ HW_ hHeld ?_
 refine tr_ 13 21 bq_129 HT_ HW_ hHeld ?_
 refine one_ (i := 2) (N := some 10) bq_130 rfl rfl (one_of HT_.out (by kernel_rfl)) (by decide) (fun K hK => ?_)
 refine goes_ Tryd.func57 (by kernel_rfl) rfl #[.int .i64 a0_0, .int .i64 1] (by rfl) rfl rfl tq_0 ?_
 with_reducible refine (impl_NumText.calls k a0_0 1 t274 _ A2.out).mono ?_
 rintro e w11 ⟨rfl, hb⟩
 refine ⟨_, rfl, ?_⟩
 have z_ := bw1_ (kb_ BK273) th_ hb
 clear BK273 HB
 obtain ⟨BK273, HB⟩ := z_
 (try clear hb)
 refine hK.out _ _ (bk6_ BK273.out) (fun hHeld => ?_)
 clear hK K
 refine nm_ (some 10) ?_
 refine one_ (i := 5) (N := some 13) bq_131 rfl rfl (one_of HT_.out (by kernel_rfl)) (by decide) (fun K hK => ?_)
 refine goes_ Tryd.func57 (by kernel_rfl) rfl #[.int .i64 a0_1, .int .i64 2] (by rfl) rfl rfl tq_0 ?_
 with_reducible refine (impl_NumText.calls k a0_1 2 t275 _ A3.out).mono ?_
 rintro e w12 ⟨rfl, hb⟩
 refine ⟨_, rfl, ?_⟩
 have z_ := bw1_ (kb_ BK273) th_ hb
 clear BK273 HB
 obtain ⟨BK273, HB⟩ := z_
 (try clear hb)
 refine hK.out _ _ (bk6_ BK273.out) (fun hHeld => ?_)
 clear hK K
 refine nm_ (some 13) ?_
 refine yr_ 6 14 bq_132 HT_ ?_
 refine one_ (i := 9) (N := some 17) bq_133 rfl rfl (one_of HT_.out (by kernel_rfl)) (by decide) (fun K hK => ?_)
 refine goes_ Tryd.func57 (by kernel_rfl) rfl #[.int .i64 a0_2, .int .i64 2] (by rfl) rfl rfl tq_0 ?_
 with_reducible refine (impl_NumText.calls k a0_2 2 t276 _ A5.out).mono ?_
 rintro e w13 ⟨rfl, hb⟩
 refine ⟨_, rfl, ?_⟩
 have z_ := bw1_ (kb_ BK273) th_ hb
 clear BK273 HB
 obtain ⟨BK273, HB⟩ := z_
 (try clear hb)
 refine hK.out _ _ (bk6_ BK273.out) (fun hHeld => ?_)
 clear hK K
 refine nm_ (some 17) ?_
 refine yr_ 10 18 bq_134 HT_ ?_
 refine one_ (i := 11) (N := some 19) bq_135 rfl rfl (one_of HT_.out (by kernel_rfl)) (by decide) (fun K hK => ?_)
 refine goes_ Tryd.func59 (by kernel_rfl) rfl #[.string ((t274 ++ t275) ++ t276)] (by rfl) rfl rfl tq_0 ?_
 with_reducible refine (impl_WordText.calls ((t274 ++ t275) ++ t276) t277 _ A7.out).mono ?_
 rintro e w14 ⟨rfl, hb⟩
 refine ⟨_, rfl, ?_⟩
 have z_ := bw1_ (kb_ BK273) th_ hb
 clear BK273 HB
 obtain ⟨BK273, HB⟩ := z_
 (try clear hb)
 refine hK.out _ _ (bk6_ BK273.out) (fun hHeld => ?_)
 clear hK K
 refine nm_ (some 19) ?_
 refine one_ (i := 14) (N := some 22) bq_136 rfl rfl (one_of HT_.out (by kernel_rfl)) (by decide) (fun K hK => ?_)
 refine goes_ Tryd.func59 (by kernel_rfl) rfl #[.string a0_3] (by rfl) rfl rfl tq_0 ?_
 with_reducible refine (impl_WordText.calls a0_3 t278 _ A8.out).mono ?_
 rintro e w15 ⟨rfl, hb⟩
 refine ⟨_, rfl, ?_⟩
 have z_ := bw1_ (kb_ BK273) th_ hb
 clear BK273 HB
 obtain ⟨BK273, HB⟩ := z_
 (try clear hb)
 refine hK.out _ _ (bk6_ BK273.out) (fun hHeld => ?_)
 clear hK K
 refine nm_ (some 22) ?_
 refine one_ (i := 15) (N := some 23) bq_137 rfl rfl (one_of HT_.out (by kernel_rfl)) (by decide) (fun K hK => ?_)
 refine Kd.R_lit_step Kd.string _ 9 ?hg (N := 23) ?hd (xs := ([t277, t278] : List ByteArray)) (inner := [.string t277, .string t278]) (ok := fun _ => True) (okp := fun _ => True) ?hr ?hp (fun _ hk => hk) trivial (Below.refl _ _) (Nat.le_refl _) (by simp) ?_; (case hd => rfl); (case hg => rfl); (case hr => first | (go_simp; done) | (go_simp; rfl)); (case hp => exact (Reps.one (show Kd.M Kd.string _ _ _ t277 [.string t277] from rfl) (Reps.one (show Kd.M Kd.string _ _ _ t278 [.string t278] from rfl) (Reps.none _ _))))
 intro v280 w16 ho17 hb hg_ hnew_
 clear hg_ hnew_
 (first | rw [← Ny279.out] at ho17 | (simp only [Int.reduceToNat] at ho17; rw [← Ny279.out] at ho17))
 have z_ := p_ (Kd.R_lower ho17 (below_size th_)) <| bw1_ (kb_ BK273) th_ hb
 clear BK273 HB
 obtain ⟨HO281, BK273, HB⟩ := z_
 clear hb ho17
 refine hK.out _ _ (bk6_ BK273.out) (fun hHeld => ?_)
 clear hK K
 refine nm_ (some 23) ?_
 refine yr_ 16 3 bq_138 HT_ ?_
 refine done_ (done_of HT_.out (by kernel_rfl)) ?_
 obtain ⟨hcz18_0, hcz18_1, hcz18_2, hcz18_3, hcz18_4, hcz18_5⟩ := bk6_ BK273.out
 obtain ⟨hfz18_0, hfz18_1, hfz18_2, hfz18_3, hfz18_4, hfz18_5⟩ := bf6_ BK273.out
 try go_wp2
 go_loopg [3, 27] k (fun kq v3 v27 w' => ∃ (x3_1 : List ByteArray) (x27_1 : Int), v27 = .int .i64 x27_1 ∧ Aside0 (impl_inodeText.l0 kq x3_1 l0_4 (l0_4.length : Int) x27_1 a0_0 a0_1 a0_2 a0_3 l0_4 l0_5 = some r) ∧ Aside0 (kq ≤ k) ∧ Aside0 (Kd.R Kd.string 9 w' w.heap.size (fun _ => True) v3 x3_1) ∧ Aside0 (w'.heap[gb273]? = some (.cells #[.int .i64 a0_0, .int .i64 a0_1, .int .i64 a0_2, .string a0_3, (.slice A0_4 l0_4.length c0_4), (.slice A0_5 l0_5.length c0_5)] 27 (0, 0))) ∧ Aside0 (Below w.heap.size w w'))
 case atStart => exact ⟨(y279), (0), tq_4, H', ⟨Nat.le_refl _⟩, ⟨(raR_ HO281)⟩, ⟨(kb_ BK273)⟩, ⟨th_⟩⟩
 case round =>
 clear H'
 try clear p2; try clear c4; try clear c4b0; try clear c4b1; try clear c4b2; try clear c5; try clear c6; try clear c6b0; try clear c6b1; try clear c6b2; try clear hcz18_0 hcz18_1 hcz18_2 hcz18_3 hcz18_4 hcz18_5 hfz18_0 hfz18_1 hfz18_2 hfz18_3 hfz18_4 hfz18_5
 obtain ⟨x3_1, x27_1, rfl, HA, HK1, HO_3, BK273, HB⟩ := hrel
 cases gk with
 | zero => exact absurd HA.out (by simp [impl_inodeText.l0])
 | succ k1 =>
 have H := HA.out
 clear HA
 simp only [impl_inodeText.l0] at H
 by_cases c19 : x27_1 < (l0_4.length : Int)
 ·rw [if_pos c19] at H
  have c19b0 := decide_eq_true c19
  clear c19
  obtain ⟨c20, H⟩ := fc_ H
  have c20b0 := decide_eq_true c20
  clear c20
  obtain ⟨c21, H⟩ := fc_ H
  have c21b0 := decide_eq_true c21
  clear c21
  obtain ⟨t284, A22, H⟩ := bd_ H
  obtain ⟨c23, H⟩ := fc_ H
  have LMc23 := Aside0.mk c23
  clear c23
  obtain ⟨y285, hy285⟩ : ∃ y_ : List ByteArray, y_ = (x3_1 ++ [t284]) := ⟨_, rfl⟩
  replace H : (impl_inodeText.l0 k1 y285 l0_4 (l0_4.length : Int) (wrap64 (x27_1 + 1)) a0_0 a0_1 a0_2 a0_3 l0_4 l0_5) = some r := by first | (rw [hy285]; with_reducible exact H) | (have H2_ := (Option.bind_some _ _).symm.trans H; rw [hy285]; with_reducible exact H2_) | (have H2_ := (Option.bind_some _ _).symm.trans H; with_reducible exact H2_) | with_reducible exact H | (rw [hy285]; exact H) | exact H
  have Ny285 := Aside0.mk hy285
  clear hy285
  have H' := Aside0.mk H
  clear H
  have p282 : 0 ≤ (x27_1 : Int) := of_decide_eq_true tq_1
  have q282 : x27_1 < (l0_4.length : Int) := of_decide_eq_true tq_1
  obtain ⟨ad282, e282, hx282_0, hx282_1, hx282_2⟩ := at_T42 HR0_4.out x27_1 p282 q282
  cases e282
  replace hx282_0 := hx_ HB.out hx282_0
  replace hx282_1 := hx_ HB.out hx282_1
  replace hx282_2 := hx_ HB.out hx282_2
  replace p282 := eq_true p282
  replace q282 := eq_true q282
  go_wp2_with (first | ((with_reducible refine gate_dst (N := 5) rfl ?_); refine be_ 5 (cs := #[.int .i64 0, .int .i64 0, .string (⟨#[]⟩ : ByteArray)]) 42 ?_; intro gb283 hg w24 hbox hb; have z_ := p_ (Kd.R_below (raR_ HO_3) hb) <| bx1_ (kb_ BK273) th_ hb hbox hg; clear HO_3 BK273 HB; obtain ⟨HO_3, BK273, HB, BK283, GW283, GE283, NB273_283, NB283_273⟩ := z_; clear hb hbox hg; obtain ⟨n283_273, n273_283⟩ := an2_ NB283_273 NB273_283; obtain ⟨hcz26_0, hcz26_1, hcz26_2⟩ := bk3_ BK283.out; obtain ⟨hfz26_0, hfz26_1, hfz26_2⟩ := bf3_ BK283.out) | ((with_reducible refine gate_callee (f := 22) rfl ?_); refine goesL_ (some 33) rfl rfl Tryd.func22 (by kernel_rfl) rfl #[.agg #[.int .i64 ((rd_T42 l0_4 x27_1).f0), .int .i64 ((rd_T42 l0_4 x27_1).f1), .string ((rd_T42 l0_4 x27_1).f2)]] rfl tq_0 ?_; (with_reducible refine (impl_RecWord.calls k1 ((rd_T42 l0_4 x27_1).f0) ((rd_T42 l0_4 x27_1).f1) ((rd_T42 l0_4 x27_1).f2) t284 _ A22.out).mono ?_); rintro e w27 ⟨rfl, hb⟩; refine ⟨_, rfl, ?_⟩; have z_ := p_ (Kd.R_below (by (with_reducible repeat (first | apply Kd.R_alloc | apply Kd.R_drewN | apply Kd.R_drew)); exact (Kd.R_mono (rR_ (rR_ (rR_ (Kd.R_types HO_3.out BK283.out (by decide))))) (fun _ h_ => h_.1))) hb) <| p_ (blk_below (g := gb273) (o := .cells #[.int .i64 a0_0, .int .i64 a0_1, .int .i64 a0_2, .string a0_3, .slice (some ad282) l0_4.length c0_4, .slice A0_5 l0_5.length c0_5] 27 (0, 0)) (by (with_reducible repeat (first | refine blk_drewN ?_ _ | refine blk_drew ?_ | refine blk_alloc ?_ _)); refine blk_far ?_ NB273_283.out _; (with_reducible repeat (first | refine blk_drewN ?_ _ | refine blk_drew ?_ | refine blk_alloc ?_ _)); refine blk_far ?_ NB273_283.out _; (with_reducible repeat (first | refine blk_drewN ?_ _ | refine blk_drew ?_ | refine blk_alloc ?_ _)); refine blk_far ?_ NB273_283.out _; (with_reducible repeat (first | refine blk_drewN ?_ _ | refine blk_drew ?_ | refine blk_alloc ?_ _)); exact BK273.out) hb) <| p_ (blk_below (g := gb283) (o := .cells #[.int .i64 ((rd_T42 l0_4 x27_1).f0), .int .i64 ((rd_T42 l0_4 x27_1).f1), .string ((rd_T42 l0_4 x27_1).f2)] 42 (0, 0)) (by (with_reducible repeat (first | refine blk_drewN ?_ _ | refine blk_drew ?_ | refine blk_alloc ?_ _)); refine blk_put (cs := #[.int .i64 ((rd_T42 l0_4 x27_1).f0), .int .i64 ((rd_T42 l0_4 x27_1).f1), .string (⟨#[]⟩ : ByteArray)]) ?_ 2 _ rfl; (with_reducible repeat (first | refine blk_drewN ?_ _ | refine blk_drew ?_ | refine blk_alloc ?_ _)); refine blk_put (cs := #[.int .i64 ((rd_T42 l0_4 x27_1).f0), .int .i64 0, .string (⟨#[]⟩ : ByteArray)]) ?_ 1 _ rfl; (with_reducible repeat (first | refine blk_drewN ?_ _ | refine blk_drew ?_ | refine blk_alloc ?_ _)); refine blk_put (cs := #[.int .i64 0, .int .i64 0, .string (⟨#[]⟩ : ByteArray)]) ?_ 0 _ rfl; (with_reducible repeat (first | refine blk_drewN ?_ _ | refine blk_drew ?_ | refine blk_alloc ?_ _)); exact BK283.out) hb) <| a_ (below_step th_ hb); clear HO_3 BK273 BK283 HB; obtain ⟨HO_3, BK273, BK283, HB⟩ := z_; (try clear hb); (try clear hk)) | ((with_reducible refine gate_builtin (b := .append) (xs := #[.tmp 31, .tmp 34]) rfl ?_); at_builtin; refine Kd.R_append Kd.string (w0 := w) w.heap.size rfl (.tmp 31) (.tmp 34) 22 9 (.string ⟨#[]⟩) 16 rfl Tryd.underlying22 info9 rfl (by decide) (by omega) u3 x3_1 t284 [.string t284] (fun _ => True) (fun _ => False) rfl rfl ?aP (fun _ hk => hk.elim) ?aF ?aO ?aB ?aS ?aL ?_; (case aP => exact rfl); (case aB => exact th_); (case aF => exact (fun _ _ => trivial)); (case aO => exact (raR_ HO_3)); (case aS => exact (below_size th_)); (case aL => have := LMc23.out; omega); intro v286 w28 ho hb hg hat; rw [← Ny285.out] at ho; have z_ := p_ (blk_grown (g := gb273) (o := .cells #[.int .i64 a0_0, .int .i64 a0_1, .int .i64 a0_2, .string a0_3, .slice (some ad282) l0_4.length c0_4, .slice A0_5 l0_5.length c0_5] 27 (0, 0)) (kb_ BK273) hg (Kd.R_ne HO_3.out BK273.out (by decide))) <| p_ (blk_grown (g := gb283) (o := .cells #[.int .i64 ((rd_T42 l0_4 x27_1).f0), .int .i64 ((rd_T42 l0_4 x27_1).f1), .string ((rd_T42 l0_4 x27_1).f2)] 42 (0, 0)) (kb_ BK283) hg (Kd.R_ne HO_3.out BK283.out (by decide))) <| p_ (hb) <| a_ (ho); clear BK273 BK283 HB HO_3; obtain ⟨BK273, BK283, HB, HO287⟩ := z_; clear ho hb hg hat))
  go_roundg k1
  case measure => have := HK1.out; omega
  case rel => exact ⟨(y285), (wrap64 (x27_1 + 1)), tq_4, H', ⟨tq_56⟩, ⟨(raR_ HO287)⟩, ⟨(kb_ BK273)⟩, ⟨th_⟩⟩
 rw [if_neg c19] at H
 have c19b0 := decide_eq_false c19
 clear c19
 have H' := Aside0.mk H
 clear H
 obtain ⟨hcz29_0, hcz29_1, hcz29_2, hcz29_3, hcz29_4, hcz29_5⟩ := bk6_ BK273.out
 obtain ⟨hfz29_0, hfz29_1, hfz29_2, hfz29_3, hfz29_4, hfz29_5⟩ := bf6_ BK273.out
 go_wp2
 go_loopg [3, 40] k1 (fun kq v3 v40 w' => ∃ (x3_2 : List ByteArray) (x40_2 : Int), v40 = .int .i64 x40_2 ∧ Aside0 (impl_inodeText.l1 kq x3_2 l0_5 (l0_5.length : Int) x40_2 = some r) ∧ Aside0 (kq ≤ k1) ∧ Aside0 (Kd.R Kd.string 9 w' w.heap.size (fun _ => True) v3 x3_2) ∧ Aside0 (w'.heap[gb273]? = some (.cells #[.int .i64 a0_0, .int .i64 a0_1, .int .i64 a0_2, .string a0_3, (.slice A0_4 l0_4.length c0_4), (.slice A0_5 l0_5.length c0_5)] 27 (0, 0))) ∧ Aside0 (Below w.heap.size w w'))
 case atStart => exact ⟨(x3_1), (0), tq_4, H', ⟨Nat.le_refl _⟩, ⟨(raR_ HO_3)⟩, ⟨(kb_ BK273)⟩, ⟨th_⟩⟩
 case round =>
 clear H'
 try clear c1; try clear c2; try clear p2; try clear q2; try clear hx2; try clear c4; try clear c4b0; try clear c4b1; try clear c4b2; try clear c5; try clear c6; try clear c6b0; try clear c6b1; try clear c6b2; try clear p6; try clear c19; try clear c19b0; try clear c20; try clear c20b0; try clear c21; try clear c21b0; try clear c22; try clear c23; try clear c25; try clear p28; try clear q28; try clear hx28; try clear hcz18_0 hcz18_1 hcz18_2 hcz18_3 hcz18_4 hcz18_5; try clear hcz26_0 hcz26_1 hcz26_2; try clear hcz29_0 hcz29_1 hcz29_2 hcz29_3 hcz29_4 hcz29_5; try clear hfz18_0 hfz18_1 hfz18_2 hfz18_3 hfz18_4 hfz18_5; try clear hfz26_0 hfz26_1 hfz26_2; try clear hfz29_0 hfz29_1 hfz29_2 hfz29_3 hfz29_4 hfz29_5; try clear hx282_0; try clear hx282_1; try clear hx282_2; try clear p2; try clear p282; try clear q282
 obtain ⟨x3_2, x40_2, rfl, HA, HK2, HO_3, BK273, HB⟩ := hrel
 cases gk with
 | zero => exact absurd HA.out (by simp [impl_inodeText.l1])
 | succ k2 =>
 have H := HA.out
 clear HA
 simp only [impl_inodeText.l1] at H
 by_cases c30 : x40_2 < (l0_5.length : Int)
 ·rw [if_pos c30] at H
  have c30b0 := decide_eq_true c30
  clear c30
  obtain ⟨c31, H⟩ := fc_ H
  have c31b0 := decide_eq_true c31
  clear c31
  obtain ⟨c32, H⟩ := fc_ H
  have c32b0 := decide_eq_true c32
  clear c32
  obtain ⟨t290, A33, H⟩ := bd_ H
  obtain ⟨c34, H⟩ := fc_ H
  have LMc34 := Aside0.mk c34
  clear c34
  obtain ⟨y291, hy291⟩ : ∃ y_ : List ByteArray, y_ = (x3_2 ++ [t290]) := ⟨_, rfl⟩
  replace H : (impl_inodeText.l1 k2 y291 l0_5 (l0_5.length : Int) (wrap64 (x40_2 + 1))) = some r := by first | (rw [hy291]; with_reducible exact H) | (have H2_ := (Option.bind_some _ _).symm.trans H; rw [hy291]; with_reducible exact H2_) | (have H2_ := (Option.bind_some _ _).symm.trans H; with_reducible exact H2_) | with_reducible exact H | (rw [hy291]; exact H) | exact H
  have Ny291 := Aside0.mk hy291
  clear hy291
  have H' := Aside0.mk H
  clear H
  have p288 : 0 ≤ (x40_2 : Int) := of_decide_eq_true tq_1
  have q288 : x40_2 < (l0_5.length : Int) := of_decide_eq_true tq_1
  obtain ⟨ad288, e288, hx288_0, hx288_1⟩ := at_T47 HR0_5.out x40_2 p288 q288
  cases e288
  replace hx288_0 := hx_ HB.out hx288_0
  replace hx288_1 := hx_ HB.out hx288_1
  replace p288 := eq_true p288
  replace q288 := eq_true q288
  go_wp2_with (first | ((with_reducible refine gate_dst (N := 7) rfl ?_); refine be_ 7 (cs := #[.int .i64 0, .string (⟨#[]⟩ : ByteArray)]) 47 ?_; intro gb289 hg w35 hbox hb; have z_ := p_ (Kd.R_below (raR_ HO_3) hb) <| bx1_ (kb_ BK273) th_ hb hbox hg; clear HO_3 BK273 HB; obtain ⟨HO_3, BK273, HB, BK289, GW289, GE289, NB273_289, NB289_273⟩ := z_; clear hb hbox hg; obtain ⟨n289_273, n273_289⟩ := an2_ NB289_273 NB273_289; obtain ⟨hcz37_0, hcz37_1⟩ := bk2_ BK289.out; obtain ⟨hfz37_0, hfz37_1⟩ := bf2_ BK289.out) | ((with_reducible refine gate_callee (f := 24) rfl ?_); refine goesL_ (some 46) rfl rfl Tryd.func24 (by kernel_rfl) rfl #[.agg #[.int .i64 ((rd_T47 l0_5 x40_2).f0), .string ((rd_T47 l0_5 x40_2).f1)]] rfl tq_0 ?_; (with_reducible refine (impl_EntryWord.calls k2 ((rd_T47 l0_5 x40_2).f0) ((rd_T47 l0_5 x40_2).f1) t290 _ A33.out).mono ?_); rintro e w38 ⟨rfl, hb⟩; refine ⟨_, rfl, ?_⟩; have z_ := p_ (Kd.R_below (by (with_reducible repeat (first | apply Kd.R_alloc | apply Kd.R_drewN | apply Kd.R_drew)); exact (Kd.R_mono (rR_ (rR_ (Kd.R_types HO_3.out BK289.out (by decide)))) (fun _ h_ => h_.1))) hb) <| p_ (blk_below (g := gb273) (o := .cells #[.int .i64 a0_0, .int .i64 a0_1, .int .i64 a0_2, .string a0_3, .slice A0_4 l0_4.length c0_4, .slice (some ad288) l0_5.length c0_5] 27 (0, 0)) (by (with_reducible repeat (first | refine blk_drewN ?_ _ | refine blk_drew ?_ | refine blk_alloc ?_ _)); refine blk_far ?_ NB273_289.out _; (with_reducible repeat (first | refine blk_drewN ?_ _ | refine blk_drew ?_ | refine blk_alloc ?_ _)); refine blk_far ?_ NB273_289.out _; (with_reducible repeat (first | refine blk_drewN ?_ _ | refine blk_drew ?_ | refine blk_alloc ?_ _)); exact BK273.out) hb) <| p_ (blk_below (g := gb289) (o := .cells #[.int .i64 ((rd_T47 l0_5 x40_2).f0), .string ((rd_T47 l0_5 x40_2).f1)] 47 (0, 0)) (by (with_reducible repeat (first | refine blk_drewN ?_ _ | refine blk_drew ?_ | refine blk_alloc ?_ _)); refine blk_put (cs := #[.int .i64 ((rd_T47 l0_5 x40_2).f0), .string (⟨#[]⟩ : ByteArray)]) ?_ 1 _ rfl; (with_reducible repeat (first | refine blk_drewN ?_ _ | refine blk_drew ?_ | refine blk_alloc ?_ _)); refine blk_put (cs := #[.int .i64 0, .string (⟨#[]⟩ : ByteArray)]) ?_ 0 _ rfl; (with_reducible repeat (first | refine blk_drewN ?_ _ | refine blk_drew ?_ | refine blk_alloc ?_ _)); exact BK289.out) hb) <| a_ (below_step th_ hb); clear HO_3 BK273 BK289 HB; obtain ⟨HO_3, BK273, BK289, HB⟩ := z_; (try clear hb); (try clear hk)) | ((with_reducible refine gate_builtin (b := .append) (xs := #[.tmp 44, .tmp 47]) rfl ?_); at_builtin; refine Kd.R_append Kd.string (w0 := w) w.heap.size rfl (.tmp 44) (.tmp 47) 22 9 (.string ⟨#[]⟩) 16 rfl Tryd.underlying22 info9 rfl (by decide) (by omega) u3 x3_2 t290 [.string t290] (fun _ => True) (fun _ => False) rfl rfl ?aP (fun _ hk => hk.elim) ?aF ?aO ?aB ?aS ?aL ?_; (case aP => exact rfl); (case aB => exact th_); (case aF => exact (fun _ _ => trivial)); (case aO => exact (raR_ HO_3)); (case aS => exact (below_size th_)); (case aL => have := LMc34.out; omega); intro v292 w39 ho hb hg hat; rw [← Ny291.out] at ho; have z_ := p_ (blk_grown (g := gb273) (o := .cells #[.int .i64 a0_0, .int .i64 a0_1, .int .i64 a0_2, .string a0_3, .slice A0_4 l0_4.length c0_4, .slice (some ad288) l0_5.length c0_5] 27 (0, 0)) (kb_ BK273) hg (Kd.R_ne HO_3.out BK273.out (by decide))) <| p_ (blk_grown (g := gb289) (o := .cells #[.int .i64 ((rd_T47 l0_5 x40_2).f0), .string ((rd_T47 l0_5 x40_2).f1)] 47 (0, 0)) (kb_ BK289) hg (Kd.R_ne HO_3.out BK289.out (by decide))) <| p_ (hb) <| a_ (ho); clear BK273 BK289 HB HO_3; obtain ⟨BK273, BK289, HB, HO293⟩ := z_; clear ho hb hg hat))
  go_roundg k2
  case measure => have := HK1.out; have := HK2.out; omega
  case rel => exact ⟨(y291), (wrap64 (x40_2 + 1)), tq_4, H', ⟨(by have := HK1.out; have := HK2.out; omega)⟩, ⟨(raR_ HO293)⟩, ⟨(kb_ BK273)⟩, ⟨th_⟩⟩
 rw [if_neg c30] at H
 have c30b0 := decide_eq_false c30
 clear c30
 have H' := Aside0.mk H
 clear H
 go_wp2
 go_loopg [3] k2 (fun kq v3 w' => ∃ (x3_3 : List ByteArray), Aside0 (impl_inodeText.l2 kq x3_3 = some r) ∧ Aside0 (kq ≤ k2) ∧ Aside0 (Kd.R Kd.string 9 w' w.heap.size (fun _ => True) v3 x3_3) ∧ Aside0 (w'.heap[gb273]? = some (.cells #[.int .i64 a0_0, .int .i64 a0_1, .int .i64 a0_2, .string a0_3, (.slice A0_4 l0_4.length c0_4), (.slice A0_5 l0_5.length c0_5)] 27 (0, 0))) ∧ Aside0 (Below w.heap.size w w'))
 case atStart => exact ⟨(x3_2), H', ⟨Nat.le_refl _⟩, ⟨(raR_ HO_3)⟩, ⟨(kb_ BK273)⟩, ⟨th_⟩⟩
 case round =>
 clear H'
 try clear c1; try clear c2; try clear p2; try clear q2; try clear hx2; try clear c3; try clear c4; try clear c4b0; try clear c4b1; try clear c4b2; try clear c5; try clear c6; try clear c6b0; try clear c6b1; try clear c6b2; try clear p6; try clear c19; try clear c19b0; try clear c20; try clear c20b0; try clear c21; try clear c21b0; try clear c22; try clear c23; try clear c24; try clear c25; try clear p28; try clear q28; try clear hx28; try clear c30; try clear c30b0; try clear c31; try clear c31b0; try clear c32; try clear c32b0; try clear c34; try clear c36; try clear hcz18_0 hcz18_1 hcz18_2 hcz18_3 hcz18_4 hcz18_5; try clear hcz26_0 hcz26_1 hcz26_2; try clear hcz29_0 hcz29_1 hcz29_2 hcz29_3 hcz29_4 hcz29_5; try clear hcz37_0 hcz37_1; try clear hfz18_0 hfz18_1 hfz18_2 hfz18_3 hfz18_4 hfz18_5; try clear hfz26_0 hfz26_1 hfz26_2; try clear hfz29_0 hfz29_1 hfz29_2 hfz29_3 hfz29_4 hfz29_5; try clear hfz37_0 hfz37_1; try clear hx282_0; try clear hx282_1; try clear hx282_2; try clear hx288_0; try clear hx288_1; try clear p2; try clear p28; try clear p282; try clear p288; try clear p6; try clear q2; try clear q28; try clear q282; try clear q288
 obtain ⟨x3_3, HA, HK3, HO_3, BK273, HB⟩ := hrel
 cases gk with
 | zero => exact absurd HA.out (by simp [impl_inodeText.l2])
 | succ k3 =>
 have H := HA.out
 clear HA
 simp only [impl_inodeText.l2] at H
 by_cases c40 : (x3_3.length : Int) < 8
 rotate_left
 ·rw [if_neg c40] at H
  have c40b0 := decide_eq_false c40
  have c40b1 : decide (x3_3.length < 8) = false := decide_eq_false (by omega)
  clear c40
  obtain rfl := Option.some.inj H
  obtain ⟨Ao46, co46, eo46⟩ := Kd.R_slice HO_3.out
  subst eo46
  go_wp2
  go_ret
  exact ⟨_, tq_2, (raR_ HO_3), th_⟩
 rw [if_pos c40] at H
 have c40b0 := decide_eq_true c40
 have c40b1 : decide (x3_3.length < 8) = true := decide_eq_true (by omega)
 clear c40
 obtain ⟨t294, A41, H⟩ := bd_ H
 obtain ⟨c42, H⟩ := fc_ H
 have LMc42 := Aside0.mk c42
 clear c42
 obtain ⟨y295, hy295⟩ : ∃ y_ : List ByteArray, y_ = (x3_3 ++ [t294]) := ⟨_, rfl⟩
 replace H : (impl_inodeText.l2 k3 y295) = some r := by first | (rw [hy295]; with_reducible exact H) | (have H2_ := (Option.bind_some _ _).symm.trans H; rw [hy295]; with_reducible exact H2_) | (have H2_ := (Option.bind_some _ _).symm.trans H; with_reducible exact H2_) | with_reducible exact H | (rw [hy295]; exact H) | exact H
 have Ny295 := Aside0.mk hy295
 clear hy295
 have H' := Aside0.mk H
 clear H
 obtain ⟨Ao43, co43, eo43⟩ := Kd.R_slice HO_3.out
 subst eo43
 go_wp2_with (first | ((with_reducible refine gate_callee (f := 38) rfl ?_); refine goesL_ (some 54) rfl rfl Tryd.func38 (by kernel_rfl) rfl #[] rfl tq_0 ?_; (with_reducible refine (impl_zeroWord.calls  t294 _ A41.out).mono ?_); rintro e w44 ⟨rfl, hb⟩; refine ⟨_, rfl, ?_⟩; have z_ := p_ (Kd.R_below (raR_ HO_3) hb) <| bw1_ (kb_ BK273) th_ hb; clear HO_3 BK273 HB; obtain ⟨HO_3, BK273, HB⟩ := z_; (try clear hb)) | ((with_reducible refine gate_builtin (b := .append) (xs := #[.tmp 53, .tmp 55]) rfl ?_); at_builtin; refine Kd.R_append Kd.string (w0 := w) w.heap.size rfl (.tmp 53) (.tmp 55) 22 9 (.string ⟨#[]⟩) 16 rfl Tryd.underlying22 info9 rfl (by decide) (by omega) (.slice Ao43 x3_3.length co43) x3_3 t294 [.string t294] (fun _ => True) (fun _ => False) rfl rfl ?aP (fun _ hk => hk.elim) ?aF ?aO ?aB ?aS ?aL ?_; (case aP => exact rfl); (case aB => exact th_); (case aF => exact (fun _ _ => trivial)); (case aO => exact (raR_ HO_3)); (case aS => exact (below_size th_)); (case aL => have := LMc42.out; omega); intro v296 w45 ho hb hg hat; rw [← Ny295.out] at ho; have z_ := p_ (blk_grown (g := gb273) (o := .cells #[.int .i64 a0_0, .int .i64 a0_1, .int .i64 a0_2, .string a0_3, .slice A0_4 l0_4.length c0_4, .slice A0_5 l0_5.length c0_5] 27 (0, 0)) (kb_ BK273) hg (Kd.R_ne HO_3.out BK273.out (by decide))) <| p_ (hb) <| a_ (ho); clear BK273 HB HO_3; obtain ⟨BK273, HB, HO297⟩ := z_; clear ho hb hg hat))
 go_roundg k3
 case measure => have := HK1.out; have := HK2.out; have := HK3.out; omega
 case rel => exact ⟨(y295), H', ⟨(by have := HK1.out; have := HK2.out; have := HK3.out; omega)⟩, ⟨(raR_ HO297)⟩, ⟨(kb_ BK273)⟩, ⟨th_⟩⟩

end Go.Proofs.YtjfhddenmnjgbaaDoor.PFnAnyInode
