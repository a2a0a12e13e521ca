/- Contracts of Go functions, written by a program of ours over the print of the kit: each says that the call returns what the Lean function beside it computes. Conditions: as each theorem states them. -/
import Derived.Test.YtjfhddenmnjgbaaDoorPkFnAnyInode
import Derived.Test.YtjfhddenmnjgbaaDoorPFnAnyInodex0
import Derived.Test.YtjfhddenmnjgbaaDoorPFnAnyInodex3
namespace Go.Proofs.YtjfhddenmnjgbaaDoor.PFnAnyInode
open Go.RowKit Go.Proofs.YtjfhddenmnjgbaaDoorW.PrintWords Go.Proofs.YtjfhddenmnjgbaaDoorW.PrintLast Go.Proofs.YtjfhddenmnjgbaaDoorW.PrintMore
attribute [local go_sem] max2_int min2_int max_two min_two max_three min_three max_four min_four setCell_drewN   -- for this text's walks alone
set_option linter.unusedVariables false
set_option linter.unusedSimpArgs false

/-! ### spec_ReadRec: function 31 -/
def spec_ReadRec.f (k : Nat) (a0 : ByteArray) : Option (Int × Int × ByteArray × Bool) := if (a0.size : Int) = 8 then ((spec_NumAt.f k a0 0 1).bind fun bt122 => ((spec_NumAt.f k a0 1 3).bind fun bt124 => (if 4 ≤ (a0.size : Int) then ((spec_RecWord.f k bt122.1 bt124.1 (a0.extract 4 a0.size)).bind fun t127 => (if t127.toList = a0.toList then (some (bt122.1, bt124.1, a0.extract 4 a0.size, true)) else (some (0, 0, (⟨#[]⟩ : ByteArray), false)))) else (none)))) else (some (0, 0, (⟨#[]⟩ : ByteArray), false))
theorem spec_ReadRec.mono : ∀ a0 k, LeO (spec_ReadRec.f k a0) (spec_ReadRec.f (k + 1) a0) := by
 intro a0 k
 unfold spec_ReadRec.f
 repeat' first
   | (with_reducible exact spec_NumAt.mono ..)
   | (with_reducible exact spec_RecWord.mono ..)
   | (with_reducible exact LeO.refl _)
   | (with_reducible exact LeO.none _)
   | (with_reducible refine LeO.ite ?_ ?_)
   | (with_reducible refine LeO.bind ?_ (fun _ => ?_))
   | exact spec_NumAt.mono ..
   | exact spec_RecWord.mono ..
   | exact LeO.none _
   | refine LeO.ite ?_ ?_
   | refine LeO.bind ?_ (fun _ => ?_)
set_option maxHeartbeats 8000000 in
set_option maxRecDepth 100000 in
theorem spec_ReadRec.calls (k : Nat) (a0 : ByteArray) (r1 : Int) (r2 : Int) (r3 : ByteArray) (r4 : Bool) (w : World) (h : spec_ReadRec.f k a0 = some (r1, r2, r3, r4)) :
  Calls Tryd.prog 31 #[.string a0] w fun e w' => e = .returned (.tuple #[.agg #[.int .i64 r1, .int .i64 r2, .string r3], .bool r4]) ∧ Below w.heap.size w w' := by
 have hu42 := Tryd.underlying42
 have HB := Aside0.mk (Below.refl w.heap.size w)
 unfold spec_ReadRec.f at h
 have H := h
 clear h
 by_cases c2 : (a0.size : Int) = 8
 rotate_left
 ·rw [if_neg c2] at H
  have c2b0 := beq_eq_false_iff_ne.mpr c2
  have c2b1 := bne_iff_ne.mpr c2
  simp only [Option.some.injEq, Prod.mk.injEq] at H
  obtain ⟨rfl, rfl, rfl, rfl⟩ := H
  go_enter Tryd.func31, Tryd.ntmps31
  go_wp2_with (first | ((with_reducible refine gate_dst (N := 2) rfl ?_); refine be_ 2 (cs := #[.int .i64 0, .int .i64 0, .string (⟨#[]⟩ : ByteArray)]) 42 ?_; intro gb121 hg w21 hbox hb; have z_ := bx0_ th_ hb hbox hg; clear HB; obtain ⟨HB, BK121, GW121, GE121⟩ := z_; clear hb hbox hg; obtain ⟨hcz22_0, hcz22_1, hcz22_2⟩ := bk3_ BK121.out; obtain ⟨hfz22_0, hfz22_1, hfz22_2⟩ := bf3_ BK121.out))
  refine bodyPost_ret (results_ct rfl _ _ gb121 42 #[.int .i64 0, .int .i64 0, .string (⟨#[]⟩ : ByteArray)] (0, 0) _ rfl tb_ Tryd.underlying42 rfl (by kernel_rfl)) rfl ?_
  exact ⟨tq_2, th_⟩
 rw [if_pos c2] at H
 have c2b0 := beq_iff_eq.mpr c2
 have c2b1 := bne_eq_false_iff_eq.mpr c2
 clear c2
 obtain ⟨⟨t122, t123⟩, A3, H⟩ := bd_ H
 try dsimp -simprocs only at H
 obtain ⟨⟨t124, t125⟩, A4, H⟩ := bd_ H
 try dsimp -simprocs only at H
 obtain ⟨c5, H⟩ := fc_ H
 have c5b0 := eq_true c5
 have c5b1 := decide_eq_true c5
 clear c5
 obtain ⟨t127, A6, H⟩ := bd_ H
 by_cases c7 : t127.toList = a0.toList
 rotate_left
 ·rw [if_neg c7] at H
  have c7b0 := beq_eq_false_iff_ne.mpr c7
  have c7b1 := bne_iff_ne.mpr c7
  simp only [Option.some.injEq, Prod.mk.injEq] at H
  obtain ⟨rfl, rfl, rfl, rfl⟩ := H
  go_enter Tryd.func31, Tryd.ntmps31
  go_wp2_with (first | ((with_reducible refine gate_dst (N := 2) rfl ?_); refine be_ 2 (cs := #[.int .i64 0, .int .i64 0, .string (⟨#[]⟩ : ByteArray)]) 42 ?_; intro gb121 hg w15 hbox hb; have z_ := bx0_ th_ hb hbox hg; clear HB; obtain ⟨HB, BK121, GW121, GE121⟩ := z_; clear hb hbox hg) | ((with_reducible refine gate_callee (f := 29) rfl ?_); refine goesL_ (some 15) rfl rfl Tryd.func29 (by kernel_rfl) rfl #[.string a0, .int .i64 0, .int .i64 1] rfl tq_0 ?_; (with_reducible refine (spec_NumAt.calls k a0 0 1 t122 t123 _ A3.out).mono ?_); rintro e w' ⟨rfl, ⟨nd, rfl⟩⟩; refine ⟨_, rfl, ?_⟩; (try (rw [drewN_self w15]; generalize hq_ : World.drewN w15 _ = w15; have z_ := q_ (⟨(by rw [← hq_]; exact (kb_ BK121))⟩ : Aside0 (w15.heap[gb121]? = some (.cells #[.int .i64 0, .int .i64 0, .string (⟨#[]⟩ : ByteArray)] 42 (0, 0)))) <| (⟨tq_73⟩ : Aside0 (Below w.heap.size w w15)); clear BK121 HB hq_; obtain ⟨BK121, HB⟩ := z_))) | ((with_reducible refine gate_callee (f := 29) rfl ?_); refine goesL_ (some 20) rfl rfl Tryd.func29 (by kernel_rfl) rfl #[.string a0, .int .i64 1, .int .i64 3] rfl tq_0 ?_; (with_reducible refine (spec_NumAt.calls k a0 1 3 t124 t125 _ A4.out).mono ?_); rintro e w' ⟨rfl, ⟨nd, rfl⟩⟩; refine ⟨_, rfl, ?_⟩; (try (rw [drewN_self w15]; generalize hq_ : World.drewN w15 _ = w15; have z_ := q_ (⟨(by rw [← hq_]; exact (kb_ BK121))⟩ : Aside0 (w15.heap[gb121]? = some (.cells #[.int .i64 0, .int .i64 0, .string (⟨#[]⟩ : ByteArray)] 42 (0, 0)))) <| (⟨tq_73⟩ : Aside0 (Below w.heap.size w w15)); clear BK121 HB hq_; obtain ⟨BK121, HB⟩ := z_))) | ((with_reducible refine gate_dst (N := 8) rfl ?_); refine be_ 8 (cs := #[.int .i64 0, .int .i64 0, .string (⟨#[]⟩ : ByteArray)]) 42 ?_; intro gb126 hg w16 hbox hb; have z_ := bx1_ (kb_ BK121) th_ hb hbox hg; clear BK121 HB; obtain ⟨BK121, HB, BK126, GW126, GE126, NB121_126, NB126_121⟩ := z_; clear hb hbox hg; obtain ⟨n126_121, n121_126⟩ := an2_ NB126_121 NB121_126; obtain ⟨hcz18_0, hcz18_1, hcz18_2⟩ := bk3_ BK126.out; obtain ⟨hfz18_0, hfz18_1, hfz18_2⟩ := bf3_ BK126.out) | ((with_reducible refine gate_callee (f := 52) rfl ?_); refine goesL_ (some 29) rfl rfl Tryd.func52 (by kernel_rfl) rfl #[.agg #[.int .i64 t122, .int .i64 t124, .string (a0.extract 4 a0.size)]] rfl tq_0 ?_; (with_reducible refine (spec_RecWord.calls k t122 t124 (a0.extract 4 a0.size) t127 _ A6.out).mono ?_); rintro e w19 ⟨rfl, hb⟩; refine ⟨_, rfl, ?_⟩; have z_ := p_ (blk_below (g := gb121) (o := .cells #[.int .i64 0, .int .i64 0, .string (⟨#[]⟩ : ByteArray)] 42 (0, 0)) tq_50 hb) <| p_ (blk_below (g := gb126) (o := .cells #[.int .i64 t122, .int .i64 t124, .string (a0.extract 4 a0.size)] 42 (0, 0)) tq_37 hb) <| a_ (below_step th_ hb); clear BK121 BK126 HB; obtain ⟨BK121, BK126, HB⟩ := z_; (try clear hb); obtain ⟨hcz20_0, hcz20_1, hcz20_2⟩ := bk3_ BK121.out; obtain ⟨hfz20_0, hfz20_1, hfz20_2⟩ := bf3_ BK121.out))
  refine bodyPost_ret (results_ct rfl _ _ gb121 42 #[.int .i64 0, .int .i64 0, .string (⟨#[]⟩ : ByteArray)] (0, 0) _ rfl tb_ Tryd.underlying42 rfl (by kernel_rfl)) rfl ?_
  exact ⟨tq_2, th_⟩
 rw [if_pos c7] at H
 have c7b0 := beq_iff_eq.mpr c7
 have c7b1 := bne_eq_false_iff_eq.mpr c7
 clear c7
 simp only [Option.some.injEq, Prod.mk.injEq] at H
 obtain ⟨rfl, rfl, rfl, rfl⟩ := H
 go_enter Tryd.func31, Tryd.ntmps31
 go_wp2_with (first | ((with_reducible refine gate_dst (N := 2) rfl ?_); refine be_ 2 (cs := #[.int .i64 0, .int .i64 0, .string (⟨#[]⟩ : ByteArray)]) 42 ?_; intro gb121 hg w8 hbox hb; have z_ := bx0_ th_ hb hbox hg; clear HB; obtain ⟨HB, BK121, GW121, GE121⟩ := z_; clear hb hbox hg) | ((with_reducible refine gate_callee (f := 29) rfl ?_); refine goesL_ (some 15) rfl rfl Tryd.func29 (by kernel_rfl) rfl #[.string a0, .int .i64 0, .int .i64 1] rfl tq_0 ?_; (with_reducible refine (spec_NumAt.calls k a0 0 1 t122 t123 _ A3.out).mono ?_); rintro e w' ⟨rfl, ⟨nd, rfl⟩⟩; refine ⟨_, rfl, ?_⟩; (try (rw [drewN_self w8]; generalize hq_ : World.drewN w8 _ = w8; have z_ := q_ (⟨(by rw [← hq_]; exact (kb_ BK121))⟩ : Aside0 (w8.heap[gb121]? = some (.cells #[.int .i64 0, .int .i64 0, .string (⟨#[]⟩ : ByteArray)] 42 (0, 0)))) <| (⟨tq_73⟩ : Aside0 (Below w.heap.size w w8)); clear BK121 HB hq_; obtain ⟨BK121, HB⟩ := z_))) | ((with_reducible refine gate_callee (f := 29) rfl ?_); refine goesL_ (some 20) rfl rfl Tryd.func29 (by kernel_rfl) rfl #[.string a0, .int .i64 1, .int .i64 3] rfl tq_0 ?_; (with_reducible refine (spec_NumAt.calls k a0 1 3 t124 t125 _ A4.out).mono ?_); rintro e w' ⟨rfl, ⟨nd, rfl⟩⟩; refine ⟨_, rfl, ?_⟩; (try (rw [drewN_self w8]; generalize hq_ : World.drewN w8 _ = w8; have z_ := q_ (⟨(by rw [← hq_]; exact (kb_ BK121))⟩ : Aside0 (w8.heap[gb121]? = some (.cells #[.int .i64 0, .int .i64 0, .string (⟨#[]⟩ : ByteArray)] 42 (0, 0)))) <| (⟨tq_73⟩ : Aside0 (Below w.heap.size w w8)); clear BK121 HB hq_; obtain ⟨BK121, HB⟩ := z_))) | ((with_reducible refine gate_dst (N := 8) rfl ?_); refine be_ 8 (cs := #[.int .i64 0, .int .i64 0, .string (⟨#[]⟩ : ByteArray)]) 42 ?_; intro gb126 hg w9 hbox hb; have z_ := bx1_ (kb_ BK121) th_ hb hbox hg; clear BK121 HB; obtain ⟨BK121, HB, BK126, GW126, GE126, NB121_126, NB126_121⟩ := z_; clear hb hbox hg; obtain ⟨n126_121, n121_126⟩ := an2_ NB126_121 NB121_126; obtain ⟨hcz11_0, hcz11_1, hcz11_2⟩ := bk3_ BK126.out; obtain ⟨hfz11_0, hfz11_1, hfz11_2⟩ := bf3_ BK126.out) | ((with_reducible refine gate_callee (f := 52) rfl ?_); refine goesL_ (some 29) rfl rfl Tryd.func52 (by kernel_rfl) rfl #[.agg #[.int .i64 t122, .int .i64 t124, .string (a0.extract 4 a0.size)]] rfl tq_0 ?_; (with_reducible refine (spec_RecWord.calls k t122 t124 (a0.extract 4 a0.size) t127 _ A6.out).mono ?_); rintro e w12 ⟨rfl, hb⟩; refine ⟨_, rfl, ?_⟩; have z_ := p_ (blk_below (g := gb121) (o := .cells #[.int .i64 0, .int .i64 0, .string (⟨#[]⟩ : ByteArray)] 42 (0, 0)) tq_50 hb) <| p_ (blk_below (g := gb126) (o := .cells #[.int .i64 t122, .int .i64 t124, .string (a0.extract 4 a0.size)] 42 (0, 0)) tq_37 hb) <| a_ (below_step th_ hb); clear BK121 BK126 HB; obtain ⟨BK121, BK126, HB⟩ := z_; (try clear hb); obtain ⟨hcz13_0, hcz13_1, hcz13_2⟩ := bk3_ BK126.out; obtain ⟨hfz13_0, hfz13_1, hfz13_2⟩ := bf3_ BK126.out; obtain ⟨hcz14_0, hcz14_1, hcz14_2⟩ := bk3_ BK121.out; obtain ⟨hfz14_0, hfz14_1, hfz14_2⟩ := bf3_ BK121.out))
 refine bodyPost_ret (results_ct rfl _ _ gb121 42 #[.int .i64 t122, .int .i64 t124, .string (a0.extract 4 a0.size)] (0, 0) _ rfl tb_ Tryd.underlying42 rfl (by kernel_rfl)) rfl ?_
 exact ⟨tq_2, th_⟩

/-! ### spec_WordText: function 66 -/
def spec_WordText.f (k : Nat) (a0 : ByteArray) : Option (ByteArray) := if (a0.size : Int) > 8 then (some (⟨#[]⟩ : ByteArray)) else ((spec_ZeroText.f k ((8 - (a0.size : Int)))).bind fun t128 => (if a0.size + t128.size ≤ 9223372036854775807 then (some (a0 ++ t128)) else (none)))
theorem spec_WordText.mono : ∀ a0 k, LeO (spec_WordText.f k a0) (spec_WordText.f (k + 1) a0) := by
 intro a0 k
 unfold spec_WordText.f
 repeat' first
   | (with_reducible exact spec_ZeroText.mono ..)
   | (with_reducible exact LeO.refl _)
   | (with_reducible exact LeO.none _)
   | (with_reducible refine LeO.ite ?_ ?_)
   | (with_reducible refine LeO.bind ?_ (fun _ => ?_))
   | exact spec_ZeroText.mono ..
   | exact LeO.none _
   | refine LeO.ite ?_ ?_
   | refine LeO.bind ?_ (fun _ => ?_)
set_option maxHeartbeats 8000000 in
set_option maxRecDepth 100000 in
theorem spec_WordText.calls (k : Nat) (a0 : ByteArray) (r : ByteArray) (w : World) (h : spec_WordText.f k a0 = some r) :
  Calls Tryd.prog 66 #[.string a0] w fun e w' => e = .returned (.string r) ∧ Below w.heap.size w w' := by
 have HB := Aside0.mk (Below.refl w.heap.size w)
 unfold spec_WordText.f at h
 have H := h
 clear h
 by_cases c2 : (a0.size : Int) > 8
 ·rw [if_pos c2] at H
  have c2b0 := decide_eq_true c2
  have c2b1 : decide (8 < a0.size) = true := decide_eq_true (by omega)
  clear c2
  obtain rfl := Option.some.inj H
  go_enter Tryd.func66, Tryd.ntmps66
  go_wp2
  go_ret
  exact ⟨tq_2, th_⟩
 rw [if_neg c2] at H
 have c2b0 := decide_eq_false c2
 have c2b1 : decide (8 < a0.size) = false := decide_eq_false (by omega)
 clear c2
 obtain ⟨t128, A3, H⟩ := bd_ H
 obtain ⟨c4, H⟩ := fc_ H
 have c4b0 := eq_true c4
 have c4b1 := decide_eq_true c4
 try have c4b2 : (9223372036854775807 < a0.size + t128.size) = False := eq_false (Nat.not_lt.2 c4)
 obtain rfl := Option.some.inj H
 go_enter Tryd.func66, Tryd.ntmps66
 go_wp2_with (first | ((with_reducible refine gate_callee (f := 30) rfl ?_); refine goesL_ (some 10) rfl rfl Tryd.func30 (by kernel_rfl) rfl #[.int .i64 ((8 - (a0.size : Int)))] rfl tq_0 ?_; (with_reducible refine (spec_ZeroText.calls k ((8 - (a0.size : Int))) t128 _ A3.out).mono ?_); rintro e w5 ⟨rfl, hb⟩; refine ⟨_, rfl, ?_⟩; have n0_ := Aside0.mk (below_step th_ hb); clear HB; have HB := n0_; clear n0_; (try clear hb)))
 go_ret
 exact ⟨tq_2, th_⟩

/-! ### spec_NameOk: function 76 -/
def spec_NameOk.l0 : Nat → ByteArray → Int → Option (Bool)
 | 0, _, _ => none
 | k + 1, x0, x3 => if x3 < (x0.size : Int) then (if 0 ≤ x3 then ((spec_l01In.f (wrap64 (bt x0 x3)) 97 122).bind fun t130 => (if t130 = true then (spec_NameOk.l0 k x0 (wrap64 (x3 + 1))) else ((spec_l01In.f (wrap64 (bt x0 x3)) 48 57).bind fun t131 => (if t131 = true then (spec_NameOk.l0 k x0 (wrap64 (x3 + 1))) else (some false))))) else (none)) else ((spec_l01In.f (x0.size : Int) 1 7).bind fun t129 => (some t129))
def spec_NameOk.f (k : Nat) (a0 : ByteArray) : Option (Bool) := spec_NameOk.l0 k a0 0
theorem spec_NameOk.mono_l : ∀ k, (∀ y0 y1, LeO (spec_NameOk.l0 k y0 y1) (spec_NameOk.l0 (k + 1) y0 y1))
 | 0 => fun _ _ r h => by simp [spec_NameOk.l0] at h
 | k + 1 => by
  have ih0 := spec_NameOk.mono_l k
  ·intro y0 y1
   unfold spec_NameOk.l0
   exact mo_1
theorem spec_NameOk.mono : ∀ a0 k, LeO (spec_NameOk.f k a0) (spec_NameOk.f (k + 1) a0) := by
 intro a0 k
 have ih0 := spec_NameOk.mono_l k
 unfold spec_NameOk.f
 repeat' first
   | (with_reducible exact ih0 ..)
   | (with_reducible exact LeO.refl _)
   | (with_reducible exact LeO.none _)
   | (with_reducible refine LeO.ite ?_ ?_)
   | (with_reducible refine LeO.bind ?_ (fun _ => ?_))
   | exact ih0 ..
   | exact LeO.none _
   | refine LeO.ite ?_ ?_
   | refine LeO.bind ?_ (fun _ => ?_)
set_option maxHeartbeats 8000000 in
set_option maxRecDepth 100000 in
theorem spec_NameOk.calls (k : Nat) (a0 : ByteArray) (r : Bool) (w : World) (h : spec_NameOk.f k a0 = some r) :
  Calls Tryd.prog 76 #[.string a0] w fun e w' => e = .returned (.bool r) ∧ Drawn0 w w' := by
 unfold spec_NameOk.f at h
 have H := h
 clear h
 have H' := Aside0.mk H
 clear H
 go_enter Tryd.func76, Tryd.ntmps76
 go_wp2
 go_loopg [3] k (fun kq v3 w' => ∃ (x3_1 : Int), v3 = .int .i64 x3_1 ∧ Aside0 (spec_NameOk.l0 kq a0 x3_1 = some r) ∧ Aside0 (kq ≤ k) ∧ Drawn0 w w')
 case atStart => exact ⟨(0), tq_4, H', ⟨Nat.le_refl _⟩, tq_11⟩
 case round =>
 clear H'
 obtain ⟨x3_1, rfl, HA, HK1, ⟨m1, rfl⟩⟩ := hrel
 cases gk with
 | zero => exact absurd HA.out (by simp [spec_NameOk.l0])
 | succ k1 =>
 have H := HA.out
 clear HA
 simp only [spec_NameOk.l0] at H
 by_cases c2 : x3_1 < (a0.size : Int)
 rotate_left
 ·rw [if_neg c2] at H
  have c2b0 := decide_eq_false c2
  clear c2
  obtain ⟨t129, A10, H⟩ := bd_ H
  obtain rfl := Option.some.inj H
  go_wp2_with (first | ((with_reducible refine gate_callee (f := 50) rfl ?_); refine goesL_ (some 26) rfl rfl Tryd.func50 (by kernel_rfl) rfl #[.int .i64 (a0.size : Int), .int .i64 1, .int .i64 7] rfl tq_0 ?_; (with_reducible refine (spec_l01In.calls (a0.size : Int) 1 7 t129 _ A10.out).mono ?_); rintro e w' ⟨rfl, ⟨nd, rfl⟩⟩; refine ⟨_, rfl, ?_⟩))
  go_ret
  exact ⟨tq_4, tq_11⟩
 rw [if_pos c2] at H
 have c2b0 := decide_eq_true c2
 clear c2
 obtain ⟨c3, H⟩ := fc_ H
 have c3b0 := decide_eq_true c3
 clear c3
 obtain ⟨t130, A5, H⟩ := bd_ H
 by_cases c6 : t130 = true
 ·subst c6
  rw [if_pos rfl] at H
  have H' := Aside0.mk H
  clear H
  have p4 : 0 ≤ (x3_1 : Int) := of_decide_eq_true tq_1
  have q4 : x3_1 < (a0.size : Int) := of_decide_eq_true tq_1
  have hx4 := bt_at a0 x3_1
  replace p4 := eq_true p4
  replace q4 := eq_true q4
  go_wp2_with (first | ((with_reducible refine gate_callee (f := 50) rfl ?_); refine goesL_ (some 14) rfl rfl Tryd.func50 (by kernel_rfl) rfl #[.int .i64 (wrap64 (bt a0 x3_1)), .int .i64 97, .int .i64 122] rfl tq_0 ?_; (with_reducible refine (spec_l01In.calls (wrap64 (bt a0 x3_1)) 97 122 true _ A5.out).mono ?_); rintro e w' ⟨rfl, ⟨nd, rfl⟩⟩; refine ⟨_, rfl, ?_⟩))
  go_roundg k1
  case measure => have := HK1.out; omega
  case rel => exact ⟨(wrap64 (x3_1 + 1)), tq_4, H', ⟨tq_56⟩, tq_11⟩
 replace c6 := Bool.eq_false_iff.mpr c6
 subst c6
 rw [if_neg nf_] at H
 obtain ⟨t131, A8, H⟩ := bd_ H
 by_cases c9 : t131 = true
 rotate_left
 ·replace c9 := Bool.eq_false_iff.mpr c9
  subst c9
  rw [if_neg nf_] at H
  obtain rfl := Option.some.inj H
  have p4 : 0 ≤ (x3_1 : Int) := of_decide_eq_true tq_1
  have q4 : x3_1 < (a0.size : Int) := of_decide_eq_true tq_1
  have hx4 := bt_at a0 x3_1
  replace p4 := eq_true p4
  replace q4 := eq_true q4
  go_wp2_with (first | ((with_reducible refine gate_callee (f := 50) rfl ?_); refine goesL_ (some 14) rfl rfl Tryd.func50 (by kernel_rfl) rfl #[.int .i64 (wrap64 (bt a0 x3_1)), .int .i64 97, .int .i64 122] rfl tq_0 ?_; (with_reducible refine (spec_l01In.calls (wrap64 (bt a0 x3_1)) 97 122 false _ A5.out).mono ?_); rintro e w' ⟨rfl, ⟨nd, rfl⟩⟩; refine ⟨_, rfl, ?_⟩; have p7 : 0 ≤ (x3_1 : Int) := of_decide_eq_true tq_1; have q7 : x3_1 < (a0.size : Int) := of_decide_eq_true tq_1; have hx7 := bt_at a0 x3_1; replace p7 := eq_true p7; replace q7 := eq_true q7) | (go_at_call 50; (with_reducible refine (spec_l01In.calls (wrap64 (bt a0 x3_1)) 48 57 false _ A8.out).mono ?_); rintro e w' ⟨rfl, ⟨nd, rfl⟩⟩))
  go_ret
  exact ⟨tq_4, tq_11⟩
 subst c9
 rw [if_pos rfl] at H
 have H' := Aside0.mk H
 clear H
 have p4 : 0 ≤ (x3_1 : Int) := of_decide_eq_true tq_1
 have q4 : x3_1 < (a0.size : Int) := of_decide_eq_true tq_1
 have hx4 := bt_at a0 x3_1
 replace p4 := eq_true p4
 replace q4 := eq_true q4
 go_wp2_with (first | ((with_reducible refine gate_callee (f := 50) rfl ?_); refine goesL_ (some 14) rfl rfl Tryd.func50 (by kernel_rfl) rfl #[.int .i64 (wrap64 (bt a0 x3_1)), .int .i64 97, .int .i64 122] rfl tq_0 ?_; (with_reducible refine (spec_l01In.calls (wrap64 (bt a0 x3_1)) 97 122 false _ A5.out).mono ?_); rintro e w' ⟨rfl, ⟨nd, rfl⟩⟩; refine ⟨_, rfl, ?_⟩; have p7 : 0 ≤ (x3_1 : Int) := of_decide_eq_true tq_1; have q7 : x3_1 < (a0.size : Int) := of_decide_eq_true tq_1; have hx7 := bt_at a0 x3_1; replace p7 := eq_true p7; replace q7 := eq_true q7) | (go_at_call 50; (with_reducible refine (spec_l01In.calls (wrap64 (bt a0 x3_1)) 48 57 true _ A8.out).mono ?_); rintro e w' ⟨rfl, ⟨nd, rfl⟩⟩))
 go_roundg k1
 case measure => have := HK1.out; omega
 case rel => exact ⟨(wrap64 (x3_1 + 1)), tq_4, H', ⟨tq_56⟩, tq_11⟩

/-! ### spec_EntryWord: function 53 -/
def spec_EntryWord.j0 : Nat → Bool → Int → ByteArray → Option (ByteArray)
 | 0, _, _, _ => none
 | k + 1, x12, x133000, x133001 => if x12 = true then (some (⟨#[]⟩ : ByteArray)) else ((spec_NumText.f k x133000 1).bind fun t135 => (if t135.size + x133001.size ≤ 9223372036854775807 then ((spec_WordText.f k (t135 ++ x133001)).bind fun t136 => (some t136)) else (none)))
def spec_EntryWord.f (k : Nat) (a0_0 : Int) (a0_1 : ByteArray) : Option (ByteArray) := (spec_l01In.f a0_0 1 5).bind fun t133 => (if t133 = true then ((spec_NameOk.f k a0_1).bind fun t134 => (spec_EntryWord.j0 k (!t134) a0_0 a0_1)) else (spec_EntryWord.j0 k true a0_0 a0_1))
theorem spec_EntryWord.mono_l : ∀ k, (∀ y0 y1 y2, LeO (spec_EntryWord.j0 k y0 y1 y2) (spec_EntryWord.j0 (k + 1) y0 y1 y2))
 | 0 => fun _ _ _ r h => by simp [spec_EntryWord.j0] at h
 | k + 1 => by
  have ih0 := spec_EntryWord.mono_l k
  ·intro y0 y1 y2
   unfold spec_EntryWord.j0
   repeat' first
   | (with_reducible exact ih0 ..)
   | (with_reducible exact spec_NameOk.mono ..)
   | (with_reducible exact spec_NumText.mono ..)
   | (with_reducible exact spec_WordText.mono ..)
   | (with_reducible exact LeO.refl _)
   | (with_reducible exact LeO.none _)
   | (with_reducible refine LeO.ite ?_ ?_)
   | (with_reducible refine LeO.bind ?_ (fun _ => ?_))
   | exact ih0 ..
   | exact spec_NameOk.mono ..
   | exact spec_NumText.mono ..
   | exact spec_WordText.mono ..
   | exact LeO.none _
   | refine LeO.ite ?_ ?_
   | refine LeO.bind ?_ (fun _ => ?_)
theorem spec_EntryWord.mono : ∀ a0 a1 k, LeO (spec_EntryWord.f k a0 a1) (spec_EntryWord.f (k + 1) a0 a1) := by
 intro a0 a1 k
 have ih0 := spec_EntryWord.mono_l k
 unfold spec_EntryWord.f
 repeat' first
   | (with_reducible exact ih0 ..)
   | (with_reducible exact spec_NameOk.mono ..)
   | (with_reducible exact spec_NumText.mono ..)
   | (with_reducible exact spec_WordText.mono ..)
   | (with_reducible exact LeO.refl _)
   | (with_reducible exact LeO.none _)
   | (with_reducible refine LeO.ite ?_ ?_)
   | (with_reducible refine LeO.bind ?_ (fun _ => ?_))
   | exact ih0 ..
   | exact spec_NameOk.mono ..
   | exact spec_NumText.mono ..
   | exact spec_WordText.mono ..
   | exact LeO.none _
   | refine LeO.ite ?_ ?_
   | refine LeO.bind ?_ (fun _ => ?_)
def spec_EntryWord.T3 : Bool × List (List Nat × List Nat) := (true, [([], []), ([0], [0]), ([1], [1]), ([], []), ([3], [3]), ([2, 4], [2, 4]), ([5, 2], [5]), ([6, 6, 0, 1, 2, 3, 4, 5, 6], [6])])
def spec_EntryWord.B3 : List Nat := [0, 1, 3, 0, 8, 31, 63, 127]
theorem spec_EntryWord.tab3 : rtab .any (opsOf Tryd.f53 3) = spec_EntryWord.T3 := by kernel_rfl
theorem spec_EntryWord.bits3 : waitsOk spec_EntryWord.T3.2 spec_EntryWord.B3 = true := by kernel_rfl
set_option maxHeartbeats 8000000 in
set_option maxRecDepth 100000 in
theorem spec_EntryWord.calls (k : Nat) (a0_0 : Int) (a0_1 : ByteArray) (r : ByteArray) (w : World) (h : spec_EntryWord.f k a0_0 a0_1 = some r) :
  Calls Tryd.prog 53 #[.agg #[.int .i64 a0_0, .string a0_1]] w fun e w' => e = .returned (.string r) ∧ Below w.heap.size w w' := by
 have hu47 := Tryd.underlying47
 have HB := Aside0.mk (Below.refl w.heap.size w)
 unfold spec_EntryWord.f at h
 have H := h
 clear h
 have HC2 := Aside0.mk H
 clear H
 go_enter Tryd.func53, Tryd.ntmps53
 go_upto_region 1 with (first | ((with_reducible refine gate_dst (N := 1) rfl ?_); refine be_ 1 (cs := #[.int .i64 a0_0, .string a0_1]) 47 ?_; intro gb132 hg w3 hbox hb; have z_ := bx0_ th_ hb hbox hg; clear HB; obtain ⟨HB, BK132, GW132, GE132⟩ := z_; clear hb hbox hg))
 (try simp only [Act.put, List.setIfInBounds_toArray, List.set_cons_zero, List.set_cons_succ])
 go_cut [12] (fun v12 wc => ∃ (kq : Nat) (x12_1 : Bool), v12 = .bool x12_1 ∧ Aside0 (spec_EntryWord.j0 kq x12_1 a0_0 a0_1 = some r) ∧ Aside0 (kq ≤ k) ∧ Aside0 (wc.heap[gb132]? = some (.cells #[.int .i64 a0_0, .string a0_1] 47 (0, 0))) ∧ Aside0 (Below w.heap.size w wc))
 case first =>
  have H := HC2.out
  clear HC2
  obtain ⟨t133, A4, H⟩ := bd_ H
  by_cases c5 : t133 = true
  rotate_left
  ·replace c5 := Bool.eq_false_iff.mpr c5
   subst c5
   rw [if_neg nf_] at H
   have H' := Aside0.mk H
   clear H
   obtain ⟨hcz8_0, hcz8_1⟩ := bk2_ BK132.out
   obtain ⟨hfz8_0, hfz8_1⟩ := bf2_ BK132.out
   go_wp2_with (first | ((with_reducible refine gate_callee (f := 50) rfl ?_); refine goesL_ (some 5) rfl rfl Tryd.func50 (by kernel_rfl) rfl #[.int .i64 a0_0, .int .i64 1, .int .i64 5] rfl tq_0 ?_; (with_reducible refine (spec_l01In.calls a0_0 1 5 false _ A4.out).mono ?_); rintro e w' ⟨rfl, ⟨nd, rfl⟩⟩; refine ⟨_, rfl, ?_⟩))
   go_meet
   case rel => exact ⟨_, (true), tq_4, H', ⟨tq_26⟩, ⟨(kb_ BK132)⟩, ⟨th_⟩⟩
  subst c5
  rw [if_pos rfl] at H
  obtain ⟨t134, A6, H⟩ := bd_ H
  have H' := Aside0.mk H
  clear H
  obtain ⟨hcz7_0, hcz7_1⟩ := bk2_ BK132.out
  obtain ⟨hfz7_0, hfz7_1⟩ := bf2_ BK132.out
  go_wp2_with (first | ((with_reducible refine gate_callee (f := 50) rfl ?_); refine goesL_ (some 5) rfl rfl Tryd.func50 (by kernel_rfl) rfl #[.int .i64 a0_0, .int .i64 1, .int .i64 5] rfl tq_0 ?_; (with_reducible refine (spec_l01In.calls a0_0 1 5 true _ A4.out).mono ?_); rintro e w' ⟨rfl, ⟨nd, rfl⟩⟩; refine ⟨_, rfl, ?_⟩) | (go_at_call 76; (with_reducible refine (spec_NameOk.calls k a0_1 t134 _ A6.out).mono ?_); rintro e w' ⟨rfl, ⟨nd, rfl⟩⟩))
  go_meet
  case rel => exact ⟨_, (!t134), tq_4, H', ⟨tq_26⟩, ⟨(kb_ BK132)⟩, ⟨th_⟩⟩
 case rest =>
 clear HC2
 try clear p2; try clear c5; try clear hcz7_0 hcz7_1; try clear hcz8_0 hcz8_1; try clear hfz7_0 hfz7_1; try clear hfz8_0 hfz8_1
 obtain ⟨kq, x12_1, rfl, HA, HJ1, BK132, HB⟩ := hcut
 cases kq with
 | zero => exact absurd HA.out (by simp [spec_EntryWord.j0])
 | succ kj1 =>
 have H := HA.out
 clear HA
 simp only [spec_EntryWord.j0] at H
 by_cases c9 : x12_1 = true
 ·subst c9
  rw [if_pos rfl] at H
  obtain rfl := Option.some.inj H
  go_wp2
  go_ret
  exact ⟨tq_2, th_⟩
 replace c9 := Bool.eq_false_iff.mpr c9
 subst c9
 rw [if_neg nf_] at H
 obtain ⟨t135, A10, H⟩ := bd_ H
 obtain ⟨c11, H⟩ := fc_ H
 have c11b0 := eq_true c11
 have c11b1 := decide_eq_true c11
 try have c11b2 : (9223372036854775807 < t135.size + a0_1.size) = False := eq_false (Nat.not_lt.2 c11)
 obtain ⟨t136, A12, H⟩ := bd_ H
 obtain rfl := Option.some.inj H
 try go_wp2
 have z_ := dw1_ BK132 HB
 clear BK132 HB
 obtain ⟨BK132, HB⟩ := z_
 refine start_ (n := 8) (S := fun w' => w'.cell? ⟨gb132, 0, none⟩ = some (.int .i64 a0_0) ∧ w'.cell? ⟨gb132, 1, none⟩ = some (.string a0_1)) (ds := []) bq_82 (by kernel_rfl) rfl rfl (bk2_ BK132.out) (fun hHeld => ?_); refine with_tabW spec_EntryWord.tab3 spec_EntryWord.bits3 (fun HT_ HW_ => ?_)
 generalize wc.drew = w13 at BK132 HB hHeld ⊢
 refine yr_ 0 13 bq_83 HT_ ?_
 refine yr_ 3 16 bq_84 HT_ ?_
 refine tr_ 1 14 bq_85 HT_ HW_ hHeld ?_
 refine tr_ 4 17 bq_86 HT_ HW_ hHeld ?_
 refine one_ (i := 2) (N := some 15) #[true, true, true, true, true, false, false, false] rfl rfl (one_of HT_.out (by kernel_rfl)) (by decide) (fun K hK => ?_)
 refine goes_ Tryd.func67 (by kernel_rfl) rfl #[.int .i64 a0_0, .int .i64 1] (by rfl) rfl rfl tq_0 ?_
 with_reducible refine (spec_NumText.calls kj1 a0_0 1 t135 _ A10.out).mono ?_
 rintro e w14 ⟨rfl, hb⟩
 refine ⟨_, rfl, ?_⟩
 have z_ := bw1_ (kb_ BK132) th_ hb
 clear BK132 HB
 obtain ⟨BK132, HB⟩ := z_
 (try clear hb)
 refine hK.out _ _ (bk2_ BK132.out) (fun hHeld => ?_)
 clear hK K
 refine nm_ (some 15) ?_
 refine yr_ 5 18 #[true, true, true, true, true, true, false, false] HT_ ?_
 refine one_ (i := 6) (N := some 19) #[true, true, true, true, true, true, true, false] rfl rfl (one_of HT_.out (by kernel_rfl)) (by decide) (fun K hK => ?_)
 refine goes_ Tryd.func66 (by kernel_rfl) rfl #[.string (t135 ++ a0_1)] (by rfl) rfl rfl tq_0 ?_
 with_reducible refine (spec_WordText.calls kj1 (t135 ++ a0_1) t136 _ A12.out).mono ?_
 rintro e w15 ⟨rfl, hb⟩
 refine ⟨_, rfl, ?_⟩
 have z_ := bw1_ (kb_ BK132) th_ hb
 clear BK132 HB
 obtain ⟨BK132, HB⟩ := z_
 (try clear hb)
 refine hK.out _ _ (bk2_ BK132.out) (fun hHeld => ?_)
 clear hK K
 refine nm_ (some 19) ?_
 refine yr_ 7 2 #[true, true, true, true, true, true, true, true] HT_ ?_
 refine done_ (done_of HT_.out (by kernel_rfl)) ?_
 try go_wp2
 go_ret
 exact ⟨tq_2, th_⟩

end Go.Proofs.YtjfhddenmnjgbaaDoor.PFnAnyInode
