/- Contracts of Go functions: each call returns what the Lean function beside it computes. Conditions: as each theorem states them. -/
import Derived.Test.YtleoknilacjakaaGreatPkFnExactChanged
import Derived.Test.YtleoknilacjakaaGreatPFnExactChangedx1
import Derived.Test.YtleoknilacjakaaGreatPFnExactChangedx8
import Derived.Test.YtleoknilacjakaaGreatPFnExactChangedx9
namespace Go.Proofs.YtleoknilacjakaaGreat.PFnExactChanged
open Go.RowKit Go.Proofs.YtleoknilacjakaaGreatW.PrintWords Go.Proofs.YtleoknilacjakaaGreatW.PrintLast Go.Proofs.YtleoknilacjakaaGreatW.PrintMore
attribute [local go_sem] max2_int min2_int max_two min_two max_three min_three max_four min_four   -- for this text's walks alone
set_option linter.unusedVariables false
set_option linter.unusedSimpArgs false

/-! ### spec_InodeOk: function 39 -/
mutual
def spec_InodeOk.j0 : Nat → Bool → Int → Int → Int → ByteArray → List (S89) → List (S72) → Option (Bool)
 | 0, _, _, _, _, _, _, _ => none
 | k + 1, ab, a5, a6, a7, a8, a9, aa => if ab = true then (some false) else (spec_InodeOk.l0 k 0 a5 a6 a7 a8 a9 aa)
def spec_InodeOk.l0 : Nat → Int → Int → Int → Int → ByteArray → List (S89) → List (S72) → Option (Bool)
 | 0, _, _, _, _, _, _, _ => none
 | k + 1, x3, a6, a7, a8, a9, a5, aa => if x3 < (a5.length : Int) then (if 0 ≤ x3 then ((spec_RecWord.f k ((rd_T89 a5 x3).f0) ((rd_T89 a5 x3).f1) ((rd_T89 a5 x3).f2)).bind fun ab => (if ab.toList = ([] : List UInt8) then (some false) else (spec_InodeOk.l1 k x3 0 a6 a7 a8 a9 a5 aa))) else (none)) else (some true)
def spec_InodeOk.l1 : Nat → Int → Int → Int → Int → Int → ByteArray → List (S89) → List (S72) → Option (Bool)
 | 0, _, _, _, _, _, _, _, _ => none
 | k + 1, x3, x4, a6, a7, a8, a9, a5, aa => if x4 < x3 then (if 0 ≤ x4 then (if x4 < (a5.length : Int) then (if 0 ≤ x3 then (if x3 < (a5.length : Int) then (if ((rd_T89 a5 x4).f0) = ((rd_T89 a5 x3).f0) then (some false) else (spec_InodeOk.l1 k x3 (wrap64 (x4 + 1)) a6 a7 a8 a9 a5 aa)) else (none)) else (none)) else (none)) else (none)) else (spec_InodeOk.l0 k (wrap64 (x3 + 1)) a6 a7 a8 a9 a5 aa)
def spec_InodeOk.j3 : Nat → Bool → Int → Int → Int → ByteArray → List (S89) → List (S72) → Option (Bool)
 | 0, _, _, _, _, _, _, _ => none
 | k + 1, ab, a5, a6, a7, a8, a9, aa => if ab = true then (some false) else (spec_InodeOk.l2 k 0 a5 a6 a7 a8 a9 aa)
def spec_InodeOk.l2 : Nat → Int → Int → Int → Int → ByteArray → List (S89) → List (S72) → Option (Bool)
 | 0, _, _, _, _, _, _, _ => none
 | k + 1, x5, a6, a7, a8, a9, aa, a5 => if x5 < (a5.length : Int) then (if 0 ≤ x5 then ((spec_EntryWord.f k ((rd_T72 a5 x5).f0) ((rd_T72 a5 x5).f1)).bind fun ab => (if ab.toList = ([] : List UInt8) then (some false) else (if x5 > 0 then (if 0 ≤ (wrap64 (x5 - 1)) then (if (wrap64 (x5 - 1)) < (a5.length : Int) then (if ((Op.bytesLess (((rd_T72 a5 (wrap64 (x5 - 1))).f1).toList) (((rd_T72 a5 x5).f1).toList)) = true) then (spec_InodeOk.l2 k (wrap64 (x5 + 1)) a6 a7 a8 a9 aa a5) else (some false)) else (none)) else (none)) else (spec_InodeOk.l2 k (wrap64 (x5 + 1)) a6 a7 a8 a9 aa a5)))) else (none)) else (some true)
end
def spec_InodeOk.f (k : Nat) (a6 : Int) (a5 : Int) (aa : Int) (a7 : ByteArray) (a8 : List (S89)) (a9 : List (S72)) : Option (Bool) := (spec_l01In.f aa 0 65535).bind fun ab => (if ab = true then (if a6 = 0 then (if a5 = 0 then (if a7.toList = ([] : List UInt8) then (if (a8.length : Int) = 0 then (some ((a9.length : Int) == 0)) else (some false)) else (some false)) else (some false)) else (if a6 = 1 then ((spec_l01In.f a5 0 128).bind fun ac => (if ac = true then (if (a7.size : Int) = 8 then ((spec_PagesFor.f a5).bind fun ae => (if (a8.length : Int) = ae then (spec_InodeOk.j0 k (decide ((a9.length : Int) > 0)) a6 a5 aa a7 a8 a9) else (spec_InodeOk.j0 k true a6 a5 aa a7 a8 a9))) else (spec_InodeOk.j0 k true a6 a5 aa a7 a8 a9)) else (spec_InodeOk.j0 k true a6 a5 aa a7 a8 a9))) else (if a6 = 2 then (if a5 = 0 then (if a7.toList = ([] : List UInt8) then (if (a8.length : Int) > 0 then (spec_InodeOk.j3 k true a6 a5 aa a7 a8 a9) else (spec_InodeOk.j3 k (decide ((a9.length : Int) > 6)) a6 a5 aa a7 a8 a9)) else (spec_InodeOk.j3 k true a6 a5 aa a7 a8 a9)) else (spec_InodeOk.j3 k true a6 a5 aa a7 a8 a9)) else (some false)))) else (some false))
def spec_InodeOk.T7 : Bool × List (List Nat × List Nat) := (true, [([], []), ([0], [0]), ([1], [1]), ([2], [2]), ([3, 2], [3]), ([4], [4]), ([5, 4], [4, 5]), ([6, 4], [4, 6]), ([7, 4], [4, 7]), ([4, 8], [4, 8]), ([9, 4], [9]), ([10], [10]), ([11, 10], [10, 11]), ([12, 10], [10, 12]), ([10], [10]), ([14, 10], [10, 14]), ([15, 10, 10], [10, 15]), ([13, 16, 10], [10, 13, 16]), ([10, 17], [10, 17]), ([18, 16], [18]), ([19], [19]), ([20, 19], [19, 20]), ([21, 19], [19, 21]), ([22, 19], [19, 22]), ([19, 23], [19, 23])])
def spec_InodeOk.B7 : List Nat := [0, 1, 3, 7, 15, 31, 63, 127, 255, 511, 1023, 2047, 4095, 8191, 2047, 18431, 51199, 131071, 262143, 524287, 1048575, 2097151, 4194303, 8388607, 16777215]
theorem spec_InodeOk.tab7 : rtab .any (opsOf Tryz.f39 7) = spec_InodeOk.T7 := by kernel_rfl
theorem spec_InodeOk.bits7 : waitsOk spec_InodeOk.T7.2 spec_InodeOk.B7 = true := by kernel_rfl
def spec_InodeOk.T17 : Bool × List (List Nat × List Nat) := (true, [([], []), ([0], [0]), ([], []), ([1, 2], [1, 2]), ([3], [3]), ([4], [4]), ([], []), ([6], [6]), ([], []), ([7, 8], [7, 8]), ([9], [9]), ([10], [10]), ([5, 11], [5, 11])])
def spec_InodeOk.B17 : List Nat := [0, 1, 0, 7, 15, 31, 0, 64, 0, 448, 960, 1984, 4095]
theorem spec_InodeOk.tab17 : rtab .any (opsOf Tryz.f39 17) = spec_InodeOk.T17 := by kernel_rfl
theorem spec_InodeOk.bits17 : waitsOk spec_InodeOk.T17.2 spec_InodeOk.B17 = true := by kernel_rfl
def spec_InodeOk.T26 : Bool × List (List Nat × List Nat) := (true, [([], []), ([0], [0]), ([], []), ([1, 2], [1, 2]), ([3], [3]), ([4], [4]), ([5], [5]), ([6, 5], [6]), ([7], [7]), ([8, 7], [7, 8]), ([9, 7, 7], [7, 9]), ([10], [10]), ([11, 10], [10, 11]), ([10], [10]), ([13, 10], [10, 13]), ([12, 14, 10], [10, 12, 14]), ([15, 10], [10, 15]), ([16, 10], [10, 16]), ([10], [10]), ([18, 10], [10, 18]), ([10], [10]), ([19, 20, 10], [10, 19, 20]), ([21, 10], [10, 21]), ([22, 10], [10, 22]), ([17, 23, 10], [10, 17, 23]), ([10, 24, 7], [7, 10, 24]), ([7, 25], [7, 25])])
def spec_InodeOk.B26 : List Nat := [0, 1, 0, 7, 15, 31, 63, 127, 255, 511, 1023, 2047, 4095, 2047, 10239, 32767, 65535, 131071, 2047, 264191, 2047, 1837055, 3934207, 8128511, 16777215, 33554431, 67108863]
theorem spec_InodeOk.tab26 : rtab .any (opsOf Tryz.f39 26) = spec_InodeOk.T26 := by kernel_rfl
theorem spec_InodeOk.bits26 : waitsOk spec_InodeOk.T26.2 spec_InodeOk.B26 = true := by kernel_rfl
set_option maxHeartbeats 8000000 in
set_option maxRecDepth 100000 in
theorem spec_InodeOk.calls (k : Nat) (ae : Int) (a9 : Int) (ag : Int) (af : ByteArray) (ar : Option Addr) (aj : Nat) (l0_4 : List (S89)) (au : Option Addr) (ak : Nat) (a7 : List (S72)) (r : Bool) (w : World) (cp : Kd.C k89 w ar l0_4.length l0_4) (cq : l0_4.length ≤ aj) (cr : Kd.C k72 w au a7.length a7) (ct : a7.length ≤ ak) (h : spec_InodeOk.f k ae a9 ag af l0_4 a7 = some r) :
  Calls Tryz.prog 39 #[.agg #[.int .i64 ae, .int .i64 a9, .int .i64 ag, .string af, .slice ar l0_4.length aj, .slice au a7.length ak]] w fun e w' => e = .returned (.bool r) ∧ Below w.heap.size w w' := by
 have hu69 := Tryz.underlying69
 have hu89 := Tryz.underlying89
 have hu72 := Tryz.underlying72
 have HR0_4 := Aside0.mk cp
 have ec := Aside0.mk cq
 clear cp cq
 have HR0_5 := Aside0.mk cr
 have ed := Aside0.mk ct
 clear cr ct
 have HB := Aside0.mk (Below.refl w.heap.size w)
 unfold spec_InodeOk.f at h
 have H := h
 clear h
 obtain ⟨db, A2, H⟩ := bd_ H
 have ee := Aside0.mk H
 clear H
 go_enter Tryz.func39, Tryz.ntmps39
 go_upto_if 9 with (first | ((with_reducible refine gate_dst (N := 1) rfl ?_); (try (refine gate_guard (by rfl) ?_; dsimp only)); refine be_ 1 (cs := #[.int .i64 ae, .int .i64 a9, .int .i64 ag, .string af, .slice ar l0_4.length aj, .slice au a7.length ak]) 69 ?_; intro a6 hg w4 hbox hb; have z_ := bx0_ th_ hb hbox hg; clear HB; obtain ⟨HB, a5, ef, eh⟩ := z_; clear hb hbox hg; have es := bb6_ a5.out) | ((with_reducible refine gate_callee (f := 36) rfl ?_); refine goesL_ (some 8) rfl rfl Tryz.func36 (by kernel_rfl) rfl #[.int .i64 ag, .int .i64 0, .int .i64 65535] rfl tq_0 ?_; (with_reducible refine (spec_l01In.calls ag 0 65535 db _ A2.out).mono ?_); rintro e w' ⟨rfl, ⟨nd_1, rfl⟩⟩; refine ⟨_, rfl, ?_⟩))
 (try simp only [Act.put, List.setIfInBounds_toArray, List.set_cons_zero, List.set_cons_succ])
 (try clear es)
 have H := ee.out
 clear ee
 by_cases c6 : db = true
 rotate_left
 ·replace c6 := Bool.eq_false_iff.mpr c6
  subst c6
  rw [if_neg nf_] at H
  obtain rfl := Option.some.inj H
  go_wp2
  go_ret
  exact ⟨tq_1, th_⟩
 subst c6
 rw [if_pos rfl] at H
 have ei := Aside0.mk H
 clear H
 have et := bb6_ a5.out
 go_upto_if 12 with (fail)
 (try clear et)
 have H := ei.out
 clear ei
 by_cases c9 : ae = 0
 ·rw [if_pos c9] at H
  have bl := beq_iff_eq.mpr c9
  have e4 := bne_eq_false_iff_eq.mpr c9
  clear c9
  (first | rw [bl] | (simp only [i64_w, i32_w]; rw [bl]) | skip)
  by_cases d2 : a9 = 0
  rotate_left
  ·rw [if_neg d2] at H
   have dc := beq_eq_false_iff_ne.mpr d2
   have dd := bne_iff_ne.mpr d2
   obtain rfl := Option.some.inj H
   have eu := bb6_ a5.out
   go_wp2
   go_ret
   exact ⟨tq_1, th_⟩
  rw [if_pos d2] at H
  have dc := beq_iff_eq.mpr d2
  have dd := bne_eq_false_iff_eq.mpr d2
  clear d2
  by_cases d3 : af.toList = ([] : List UInt8)
  rotate_left
  ·rw [if_neg d3] at H
   have de := beq_eq_false_iff_ne.mpr d3
   have df := bne_iff_ne.mpr d3
   obtain rfl := Option.some.inj H
   have ev := bb6_ a5.out
   go_wp2
   go_ret
   exact ⟨tq_1, th_⟩
  rw [if_pos d3] at H
  have de := beq_iff_eq.mpr d3
  have df := bne_eq_false_iff_eq.mpr d3
  clear d3
  by_cases cu : (l0_4.length : Int) = 0
  ·rw [if_pos cu] at H
   have dg := beq_iff_eq.mpr cu
   have dh := bne_eq_false_iff_eq.mpr cu
   clear cu
   obtain rfl := Option.some.inj H
   have ew := bb6_ a5.out
   go_wp2
   go_ret
   exact ⟨tq_1, th_⟩
  rw [if_neg cu] at H
  have dg := beq_eq_false_iff_ne.mpr cu
  have dh := bne_iff_ne.mpr cu
  have ej : ¬ (l0_4 = []) := fun h_ => cu (by rw [h_]; rfl)
  obtain rfl := Option.some.inj H
  have ex := bb6_ a5.out
  go_wp2
  go_ret
  exact ⟨tq_1, th_⟩
 rw [if_neg c9] at H
 have bl := beq_eq_false_iff_ne.mpr c9
 have e4 := bne_iff_ne.mpr c9
 (first | rw [bl] | (simp only [i64_w, i32_w]; rw [bl]) | skip)
 by_cases cc : ae = 1
 rotate_left
 ·rw [if_neg cc] at H
  have bm := beq_eq_false_iff_ne.mpr cc
  have bn := bne_iff_ne.mpr cc
  by_cases cd : ae = 2
  rotate_left
  ·rw [if_neg cd] at H
   have bo := beq_eq_false_iff_ne.mpr cd
   have bp := bne_iff_ne.mpr cd
   obtain rfl := Option.some.inj H
   go_wp2
   go_ret
   exact ⟨tq_1, th_⟩
  rw [if_pos cd] at H
  have bo := beq_iff_eq.mpr cd
  have bp := bne_eq_false_iff_eq.mpr cd
  clear cd
  have d4 := Aside0.mk H
  clear H
  go_upto_region 21 with (fail)
  go_cut [114] (fun v114 wc => ∃ (kq : Nat) (b7 : Bool), v114 = .bool b7 ∧ Aside0 (spec_InodeOk.j3 kq b7 ae a9 ag af l0_4 a7 = some r) ∧ Aside0 (kq ≤ k) ∧ Aside0 (wc.heap[a6]? = some (.cells #[.int .i64 ae, .int .i64 a9, .int .i64 ag, .string af, (.slice ar l0_4.length aj), (.slice au a7.length ak)] 69 (0, 0))) ∧ Aside0 (Below w.heap.size w wc))
  case first =>
   have H := d4.out
   clear d4
   by_cases ce : a9 = 0
   rotate_left
   ·rw [if_neg ce] at H
    have b8 := beq_eq_false_iff_ne.mpr ce
    have bq := bne_iff_ne.mpr ce
    (first | rw [b8] | (simp only [i64_w, i32_w]; rw [b8]) | skip)
    have H' := Aside0.mk H
    clear H
    have cf := bb6_ a5.out
    go_wp2
    go_meet
    case rel => exact ⟨_, (true), tq_3, H', ⟨tq_18⟩, ⟨(kb_ a5)⟩, ⟨th_⟩⟩
   rw [if_pos ce] at H
   have b8 := beq_iff_eq.mpr ce
   have bq := bne_eq_false_iff_eq.mpr ce
   clear ce
   (first | rw [b8] | (simp only [i64_w, i32_w]; rw [b8]) | skip)
   by_cases cg : af.toList = ([] : List UInt8)
   rotate_left
   ·rw [if_neg cg] at H
    have br := beq_eq_false_iff_ne.mpr cg
    have bs := bne_iff_ne.mpr cg
    have H' := Aside0.mk H
    clear H
    have ch := bb6_ a5.out
    go_wp2
    go_meet
    case rel => exact ⟨_, (true), tq_3, H', ⟨tq_18⟩, ⟨(kb_ a5)⟩, ⟨th_⟩⟩
   rw [if_pos cg] at H
   have br := beq_iff_eq.mpr cg
   have bs := bne_eq_false_iff_eq.mpr cg
   clear cg
   by_cases cv : (l0_4.length : Int) > 0
   ·rw [if_pos cv] at H
    have bu := decide_eq_true cv
    have bv : decide (0 < l0_4.length) = true := decide_eq_true (by omega)
    clear cv
    have H' := Aside0.mk H
    clear H
    have ci := bb6_ a5.out
    go_wp2
    go_meet
    case rel => exact ⟨_, (true), tq_3, H', ⟨tq_18⟩, ⟨(kb_ a5)⟩, ⟨th_⟩⟩
   rw [if_neg cv] at H
   have bu := decide_eq_false cv
   have bv : decide (0 < l0_4.length) = false := decide_eq_false (by omega)
   clear cv
   have H' := Aside0.mk H
   clear H
   have cj := bb6_ a5.out
   go_wp2
   go_meet
   case rel => exact ⟨_, (decide ((a7.length : Int) > 6)), tq_3, H', ⟨tq_18⟩, ⟨(kb_ a5)⟩, ⟨th_⟩⟩
  case rest =>
  clear d4
  try clear c1; try clear c2; try clear p2; try clear q2; try clear hx2; try clear c3; try clear c4; try clear c5; try clear c6; try clear p6; try clear cc; try clear bm; try clear bn; try clear ck; try clear bi; try clear b0; try clear ba; try clear bj; try clear bb; try clear bc; try clear p27; try clear q27; try clear hx27; try clear cw; try clear cl; try clear b6; try clear di; try clear bw; try clear ek; try clear cb; try clear b1; try clear bh; try clear cx; try clear bx; try clear dy; try clear cy; try clear dz; try clear cz; try clear e0; try clear d0; try clear e1; try clear d1; try clear cm; try clear b9; try clear bz; try clear cd; try clear bo; try clear bp; try clear ce; try clear b8; try clear bq; try clear cg; try clear br; try clear bs; try clear cv; try clear bu; try clear bv; try clear bf; try clear bg; try clear ci; try clear cj; try clear ch; try clear cf; try clear bf; try clear bg; try clear ci; try clear cj; try clear ch; try clear cf; try clear ax; try clear ay; try clear az; try clear al; try clear am; try clear an; try clear ao; try clear ap; try clear aq; try clear p2; try clear p27; try clear p276; try clear p278; try clear p279; try clear q2; try clear q27; try clear q276; try clear q278; try clear q279
  obtain ⟨kq, b7, rfl, HA, HJ46, a5, HB⟩ := hcut
  cases kq with
  | zero => exact absurd HA.out (by simp [spec_InodeOk.j3])
  | succ kj46 =>
  have H := HA.out
  clear HA
  simp only [spec_InodeOk.j3] at H
  by_cases dj : b7 = true
  ·subst dj
   rw [if_pos rfl] at H
   obtain rfl := Option.some.inj H
   go_wp2
   go_ret
   exact ⟨tq_1, th_⟩
  replace dj := Bool.eq_false_iff.mpr dj
  subst dj
  rw [if_neg nf_] at H
  have H' := Aside0.mk H
  clear H
  go_wp2
  go_loopg [5] kj46 (fun kq v5 w' => ∃ (a8 : Int), v5 = .int .i64 a8 ∧ Aside0 (spec_InodeOk.l2 kq a8 ae a9 ag af l0_4 a7 = some r) ∧ Aside0 (kq ≤ kj46) ∧ Aside0 (w'.heap[a6]? = some (.cells #[.int .i64 ae, .int .i64 a9, .int .i64 ag, .string af, (.slice ar l0_4.length aj), (.slice au a7.length ak)] 69 (0, 0))) ∧ Aside0 (Below w.heap.size w w'))
  case atStart => exact ⟨(0), tq_3, H', ⟨Nat.le_refl _⟩, ⟨(kb_ a5)⟩, ⟨th_⟩⟩
  case round =>
  clear H'
  try clear c1; try clear c2; try clear p2; try clear q2; try clear hx2; try clear c3; try clear c4; try clear c5; try clear c6; try clear p6; try clear cc; try clear bm; try clear bn; try clear ck; try clear bi; try clear b0; try clear ba; try clear bj; try clear bb; try clear bc; try clear p27; try clear q27; try clear hx27; try clear cw; try clear cl; try clear b6; try clear di; try clear bw; try clear ek; try clear cb; try clear b1; try clear bh; try clear cx; try clear bx; try clear dy; try clear cy; try clear dz; try clear cz; try clear e0; try clear d0; try clear e1; try clear d1; try clear cm; try clear b9; try clear bz; try clear cd; try clear bo; try clear bp; try clear ce; try clear b8; try clear bq; try clear cg; try clear br; try clear bs; try clear cv; try clear bu; try clear bv; try clear dj; try clear bf; try clear bg; try clear ci; try clear cj; try clear ch; try clear cf; try clear bf; try clear bg; try clear ci; try clear cj; try clear ch; try clear cf; try clear ax; try clear ay; try clear az; try clear al; try clear am; try clear an; try clear ao; try clear ap; try clear aq; try clear p2; try clear p27; try clear p276; try clear p278; try clear p279; try clear p6; try clear q2; try clear q27; try clear q276; try clear q278; try clear q279
  obtain ⟨a8, rfl, HA, HK2, a5, HB⟩ := hrel
  cases gk with
  | zero => exact absurd HA.out (by simp [spec_InodeOk.l2])
  | succ k2 =>
  have H := HA.out
  clear HA
  simp only [spec_InodeOk.l2] at H
  have dk := Aside0.mk H
  clear H
  have e5 := bb6_ a5.out
  go_upto_if 119 with (fail)
  (try clear e5)
  have H := dk.out
  clear dk
  by_cases d8 : a8 < (a7.length : Int)
  rotate_left
  ·rw [if_neg d8] at H
   have be := decide_eq_false d8
   clear d8
   (first | rw [be] | (simp only [i64_w, i32_w]; rw [be]) | skip)
   obtain rfl := Option.some.inj H
   go_wp2
   go_ret
   exact ⟨tq_1, th_⟩
  rw [if_pos d8] at H
  have be := decide_eq_true d8
  clear d8
  (first | rw [be] | (simp only [i64_w, i32_w]; rw [be]) | skip)
  obtain ⟨el, H⟩ := fc_ H
  have em := decide_eq_true el
  clear el
  obtain ⟨cn, e2, H⟩ := bd_ H
  by_cases d5 : cn.toList = ([] : List UInt8)
  ·rw [if_pos d5] at H
   have dl := beq_iff_eq.mpr d5
   have dm := bne_eq_false_iff_eq.mpr d5
   clear d5
   obtain rfl := Option.some.inj H
   try go_wp2
   have z_ := dw1_ a5 HB
   clear a5 HB
   obtain ⟨a5, HB⟩ := z_
   have p280 : 0 ≤ (a8 : Int) := of_decide_eq_true tq_2
   have q280 : a8 < (a7.length : Int) := of_decide_eq_true tq_2
   obtain ⟨ac, ca, aa, ab⟩ := at_T72 HR0_5.out a8 p280 q280
   have hw280_1 := ab
   have hw280_0 := aa
   cases ca
   replace aa := hx_ HB.out aa
   replace ab := hx_ HB.out ab
   replace p280 := eq_true p280
   replace q280 := eq_true q280
   refine start_ (n := 27) (S := fun w' => w'.cell? ⟨a6, 0, none⟩ = some (.int .i64 ae) ∧ w'.cell? ⟨a6, 1, none⟩ = some (.int .i64 a9) ∧ w'.cell? ⟨a6, 2, none⟩ = some (.int .i64 ag) ∧ w'.cell? ⟨a6, 3, none⟩ = some (.string af) ∧ w'.cell? ⟨a6, 4, none⟩ = some (.slice ar l0_4.length aj) ∧ w'.cell? ⟨a6, 5, none⟩ = some (.slice (some ac) a7.length ak) ∧ w'.cell? (ac.add ((a8).toNat * 2)) = some (.int .i64 ((rd_T72 a7 a8).f0)) ∧ w'.cell? ⟨(ac.add ((a8).toNat * 2)).block, (ac.add ((a8).toNat * 2)).off + 1, none⟩ = some (.string ((rd_T72 a7 a8).f1))) (ds := []) bq_41 (by kernel_rfl) rfl rfl (bc6_ a5.out ⟨((HB.out.cell (World.block_lt_of_cell? w _ hw280_0)).trans hw280_0), ((HB.out.cell (World.block_lt_of_cell? w _ hw280_1)).trans hw280_1)⟩) (fun hHeld => ?_); refine with_tabW spec_InodeOk.tab26 spec_InodeOk.bits26 (fun HT_ HW_ => ?_)
   generalize wr.drew = ez at a5 HB aa ab hHeld ⊢
   refine yr_ 0 122 bq_42 HT_ ?_
   refine yr_ 2 124 bq_43 HT_ ?_
   refine tr_ 1 123 bq_44 HT_ HW_ hHeld ?_
   refine yr_ 3 125 bq_45 HT_ ?_
   refine tr_ 4 126 bq_46 HT_ HW_ hHeld ?_
   refine one_ (i := 5) (N := some 127) bq_47 rfl rfl (one_of HT_.out (by kernel_rfl)) (by decide) (fun K hK => ?_)
   refine goes_ Tryz.func65 (by kernel_rfl) rfl #[.agg #[.int .i64 ((rd_T72 a7 a8).f0), .string ((rd_T72 a7 a8).f1)]] (by rfl) rfl rfl tq_0 ?_
   with_reducible refine (spec_EntryWord.calls k2 ((rd_T72 a7 a8).f0) ((rd_T72 a7 a8).f1) cn _ e2.out).mono ?_
   rintro e f7 ⟨rfl, hb⟩
   refine ⟨_, rfl, ?_⟩
   have z_ := bw1_ (kb_ a5) th_ hb
   clear a5 HB
   obtain ⟨a5, HB⟩ := z_
   (try clear hb)
   refine hK.out _ _ (bc6_ a5.out ⟨((HB.out.cell (World.block_lt_of_cell? w _ hw280_0)).trans hw280_0), ((HB.out.cell (World.block_lt_of_cell? w _ hw280_1)).trans hw280_1)⟩) (fun hHeld => ?_)
   clear hK K
   refine nm_ (some 127) ?_
   refine yr_ 6 128 bq_48 HT_ ?_
   refine yr_ 7 129 bq_49 HT_ ?_
   refine ur_ 8 130 bq_50 HT_ ?_
   refine ur_ 9 131 bq_51 HT_ ?_
   refine ur_ 10 132 bq_52 HT_ ?_
   refine ur_ 11 133 bq_53 HT_ ?_
   refine ur_ 12 134 bq_100 HT_ ?_
   refine ur_ 13 135 bq_101 HT_ ?_
   refine ur_ 14 136 bq_102 HT_ ?_
   refine ur_ 15 137 bq_103 HT_ ?_
   refine ur_ 16 138 bq_104 HT_ ?_
   refine ur_ 17 139 bq_105 HT_ ?_
   refine ur_ 18 140 bq_106 HT_ ?_
   refine ur_ 19 141 bq_107 HT_ ?_
   refine ur_ 20 142 bq_54 HT_ ?_
   refine ur_ 21 143 bq_55 HT_ ?_
   refine ur_ 22 144 bq_56 HT_ ?_
   refine ur_ 23 145 bq_57 HT_ ?_
   refine ur_ 24 146 bq_58 HT_ ?_
   refine ur_ 25 147 bq_59 HT_ ?_
   refine yr_ 26 148 bq_60 HT_ ?_
   refine done_ (done_of HT_.out (by kernel_rfl)) ?_
   try go_wp2
   go_ret
   exact ⟨tq_1, th_⟩
  rw [if_neg d5] at H
  have dl := beq_eq_false_iff_ne.mpr d5
  have dm := bne_iff_ne.mpr d5
  by_cases d9 : a8 > 0
  rotate_left
  ·rw [if_neg d9] at H
   have dn := decide_eq_false d9
   clear d9
   have H' := Aside0.mk H
   clear H
   try go_wp2
   have z_ := dw1_ a5 HB
   clear a5 HB
   obtain ⟨a5, HB⟩ := z_
   have p280 : 0 ≤ (a8 : Int) := of_decide_eq_true tq_2
   have q280 : a8 < (a7.length : Int) := of_decide_eq_true tq_2
   obtain ⟨ac, ca, aa, ab⟩ := at_T72 HR0_5.out a8 p280 q280
   have hw280_1 := ab
   have hw280_0 := aa
   cases ca
   replace aa := hx_ HB.out aa
   replace ab := hx_ HB.out ab
   replace p280 := eq_true p280
   replace q280 := eq_true q280
   refine start_ (n := 27) (S := fun w' => w'.cell? ⟨a6, 0, none⟩ = some (.int .i64 ae) ∧ w'.cell? ⟨a6, 1, none⟩ = some (.int .i64 a9) ∧ w'.cell? ⟨a6, 2, none⟩ = some (.int .i64 ag) ∧ w'.cell? ⟨a6, 3, none⟩ = some (.string af) ∧ w'.cell? ⟨a6, 4, none⟩ = some (.slice ar l0_4.length aj) ∧ w'.cell? ⟨a6, 5, none⟩ = some (.slice (some ac) a7.length ak) ∧ w'.cell? (ac.add ((a8).toNat * 2)) = some (.int .i64 ((rd_T72 a7 a8).f0)) ∧ w'.cell? ⟨(ac.add ((a8).toNat * 2)).block, (ac.add ((a8).toNat * 2)).off + 1, none⟩ = some (.string ((rd_T72 a7 a8).f1))) (ds := []) bq_41 (by kernel_rfl) rfl rfl (bc6_ a5.out ⟨((HB.out.cell (World.block_lt_of_cell? w _ hw280_0)).trans hw280_0), ((HB.out.cell (World.block_lt_of_cell? w _ hw280_1)).trans hw280_1)⟩) (fun hHeld => ?_); refine with_tabW spec_InodeOk.tab26 spec_InodeOk.bits26 (fun HT_ HW_ => ?_)
   generalize wr.drew = f8 at a5 HB aa ab hHeld ⊢
   refine yr_ 0 122 bq_42 HT_ ?_
   refine yr_ 2 124 bq_43 HT_ ?_
   refine tr_ 1 123 bq_44 HT_ HW_ hHeld ?_
   refine yr_ 3 125 bq_45 HT_ ?_
   refine tr_ 4 126 bq_46 HT_ HW_ hHeld ?_
   refine one_ (i := 5) (N := some 127) bq_47 rfl rfl (one_of HT_.out (by kernel_rfl)) (by decide) (fun K hK => ?_)
   refine goes_ Tryz.func65 (by kernel_rfl) rfl #[.agg #[.int .i64 ((rd_T72 a7 a8).f0), .string ((rd_T72 a7 a8).f1)]] (by rfl) rfl rfl tq_0 ?_
   with_reducible refine (spec_EntryWord.calls k2 ((rd_T72 a7 a8).f0) ((rd_T72 a7 a8).f1) cn _ e2.out).mono ?_
   rintro e f9 ⟨rfl, hb⟩
   refine ⟨_, rfl, ?_⟩
   have z_ := bw1_ (kb_ a5) th_ hb
   clear a5 HB
   obtain ⟨a5, HB⟩ := z_
   (try clear hb)
   refine hK.out _ _ (bc6_ a5.out ⟨((HB.out.cell (World.block_lt_of_cell? w _ hw280_0)).trans hw280_0), ((HB.out.cell (World.block_lt_of_cell? w _ hw280_1)).trans hw280_1)⟩) (fun hHeld => ?_)
   clear hK K
   refine nm_ (some 127) ?_
   refine yr_ 6 128 bq_48 HT_ ?_
   refine yr_ 7 129 bq_49 HT_ ?_
   refine yr_ 8 130 bq_50 HT_ ?_
   refine yr_ 9 131 bq_51 HT_ ?_
   refine yr_ 10 132 bq_52 HT_ ?_
   refine ur_ 11 133 bq_53 HT_ ?_
   refine ur_ 12 134 bq_100 HT_ ?_
   refine ur_ 13 135 bq_101 HT_ ?_
   refine ur_ 14 136 bq_102 HT_ ?_
   refine ur_ 15 137 bq_103 HT_ ?_
   refine ur_ 16 138 bq_104 HT_ ?_
   refine ur_ 17 139 bq_105 HT_ ?_
   refine ur_ 18 140 bq_106 HT_ ?_
   refine ur_ 19 141 bq_107 HT_ ?_
   refine ur_ 20 142 bq_54 HT_ ?_
   refine ur_ 21 143 bq_55 HT_ ?_
   refine ur_ 22 144 bq_56 HT_ ?_
   refine ur_ 23 145 bq_57 HT_ ?_
   refine ur_ 24 146 bq_58 HT_ ?_
   refine yr_ 25 147 bq_59 HT_ ?_
   refine yr_ 26 148 bq_60 HT_ ?_
   refine done_ (done_of HT_.out (by kernel_rfl)) ?_
   try go_wp2
   go_roundg k2
   case measure => have := HJ46.out; have := HK2.out; omega
   case rel => exact ⟨(wrap64 (a8 + 1)), tq_3, H', ⟨(by have := HJ46.out; have := HK2.out; omega)⟩, ⟨(kb_ a5)⟩, ⟨th_⟩⟩
  rw [if_pos d9] at H
  have dn := decide_eq_true d9
  clear d9
  obtain ⟨ji65, hji65⟩ : ∃ j_ : Int, (wrap64 (a8 - 1)) = j_ := ⟨_, rfl⟩
  replace H : (if 0 ≤ (ji65) then (if (ji65) < (a7.length : Int) then (if ((Op.bytesLess (((rd_T72 a7 (ji65)).f1).toList) (((rd_T72 a7 a8).f1).toList)) = true) then (spec_InodeOk.l2 k2 (wrap64 (a8 + 1)) ae a9 ag af l0_4 a7) else (some false)) else (none)) else (none)) = some r := by first | (rw [hji65] at H; exact H) | (simp only [hji65] at H ⊢; exact H)
  (try rw [hji65] at e2)
  have hji65w : (IntKind.i64.wrap (a8 - 1)) = ji65 := (i64_w _).trans hji65
  obtain ⟨en, H⟩ := fc_ H
  have eo := decide_eq_true en
  clear en
  obtain ⟨ep, H⟩ := fc_ H
  have eq := decide_eq_true ep
  clear ep
  have dp := Aside0.mk H
  clear H
  try go_wp2
  have z_ := dw1_ a5 HB
  clear a5 HB
  obtain ⟨a5, HB⟩ := z_
  have p280 : 0 ≤ (a8 : Int) := of_decide_eq_true tq_2
  have q280 : a8 < (a7.length : Int) := of_decide_eq_true tq_2
  obtain ⟨ac, ca, aa, ab⟩ := at_T72 HR0_5.out a8 p280 q280
  have hw280_1 := ab
  have hw280_0 := aa
  cases ca
  replace aa := hx_ HB.out aa
  replace ab := hx_ HB.out ab
  replace p280 := eq_true p280
  replace q280 := eq_true q280
  have p282 : 0 ≤ ((ji65) : Int) := of_decide_eq_true tq_2
  have q282 : (ji65) < (a7.length : Int) := of_decide_eq_true tq_2
  obtain ⟨dq, e6, b2, b3⟩ := at_T72 HR0_5.out (ji65) p282 q282
  have hw282_1 := b3
  have hw282_0 := b2
  obtain rfl : ac = dq := (by injection e6)
  replace b2 := hx_ HB.out b2
  replace b3 := hx_ HB.out b3
  replace p282 := eq_true p282
  replace q282 := eq_true q282
  have p283 : 0 ≤ (a8 : Int) := of_decide_eq_true tq_2
  have q283 : a8 < (a7.length : Int) := of_decide_eq_true tq_2
  obtain ⟨dr, e7, b4, b5⟩ := at_T72 HR0_5.out a8 p283 q283
  have hw283_1 := b5
  have hw283_0 := b4
  obtain rfl : ac = dr := (by injection e7)
  replace b4 := hx_ HB.out b4
  replace b5 := hx_ HB.out b5
  replace p283 := eq_true p283
  replace q283 := eq_true q283
  refine start_ (n := 27) (S := fun w' => w'.cell? ⟨a6, 0, none⟩ = some (.int .i64 ae) ∧ w'.cell? ⟨a6, 1, none⟩ = some (.int .i64 a9) ∧ w'.cell? ⟨a6, 2, none⟩ = some (.int .i64 ag) ∧ w'.cell? ⟨a6, 3, none⟩ = some (.string af) ∧ w'.cell? ⟨a6, 4, none⟩ = some (.slice ar l0_4.length aj) ∧ w'.cell? ⟨a6, 5, none⟩ = some (.slice (some ac) a7.length ak) ∧ w'.cell? (ac.add ((a8).toNat * 2)) = some (.int .i64 ((rd_T72 a7 a8).f0)) ∧ w'.cell? ⟨(ac.add ((a8).toNat * 2)).block, (ac.add ((a8).toNat * 2)).off + 1, none⟩ = some (.string ((rd_T72 a7 a8).f1)) ∧ w'.cell? (ac.add (((ji65)).toNat * 2)) = some (.int .i64 ((rd_T72 a7 (ji65)).f0)) ∧ w'.cell? ⟨(ac.add (((ji65)).toNat * 2)).block, (ac.add (((ji65)).toNat * 2)).off + 1, none⟩ = some (.string ((rd_T72 a7 (ji65)).f1)) ∧ w'.cell? (ac.add ((a8).toNat * 2)) = some (.int .i64 ((rd_T72 a7 a8).f0)) ∧ w'.cell? ⟨(ac.add ((a8).toNat * 2)).block, (ac.add ((a8).toNat * 2)).off + 1, none⟩ = some (.string ((rd_T72 a7 a8).f1))) (ds := []) bq_41 (by kernel_rfl) rfl rfl (bc6_ a5.out ⟨((HB.out.cell (World.block_lt_of_cell? w _ hw280_0)).trans hw280_0), ((HB.out.cell (World.block_lt_of_cell? w _ hw280_1)).trans hw280_1), ((HB.out.cell (World.block_lt_of_cell? w _ hw282_0)).trans hw282_0), ((HB.out.cell (World.block_lt_of_cell? w _ hw282_1)).trans hw282_1), ((HB.out.cell (World.block_lt_of_cell? w _ hw283_0)).trans hw283_0), ((HB.out.cell (World.block_lt_of_cell? w _ hw283_1)).trans hw283_1)⟩) (fun hHeld => ?_); refine with_tabW spec_InodeOk.tab26 spec_InodeOk.bits26 (fun HT_ HW_ => ?_)
  generalize wr.drew = fa at a5 HB aa ab b2 b3 b4 b5 hHeld ⊢
  refine yr_ 0 122 bq_42 HT_ ?_
  refine yr_ 2 124 bq_43 HT_ ?_
  refine tr_ 1 123 bq_44 HT_ HW_ hHeld ?_
  refine yr_ 3 125 bq_45 HT_ ?_
  refine tr_ 4 126 bq_46 HT_ HW_ hHeld ?_
  refine one_ (i := 5) (N := some 127) bq_47 rfl rfl (one_of HT_.out (by kernel_rfl)) (by decide) (fun K hK => ?_)
  refine goes_ Tryz.func65 (by kernel_rfl) rfl #[.agg #[.int .i64 ((rd_T72 a7 a8).f0), .string ((rd_T72 a7 a8).f1)]] (by rfl) rfl rfl tq_0 ?_
  with_reducible refine (spec_EntryWord.calls k2 ((rd_T72 a7 a8).f0) ((rd_T72 a7 a8).f1) cn _ e2.out).mono ?_
  rintro e fb ⟨rfl, hb⟩
  refine ⟨_, rfl, ?_⟩
  have z_ := bw1_ (kb_ a5) th_ hb
  clear a5 HB
  obtain ⟨a5, HB⟩ := z_
  (try clear hb)
  refine hK.out _ _ (bc6_ a5.out ⟨((HB.out.cell (World.block_lt_of_cell? w _ hw280_0)).trans hw280_0), ((HB.out.cell (World.block_lt_of_cell? w _ hw280_1)).trans hw280_1), ((HB.out.cell (World.block_lt_of_cell? w _ hw282_0)).trans hw282_0), ((HB.out.cell (World.block_lt_of_cell? w _ hw282_1)).trans hw282_1), ((HB.out.cell (World.block_lt_of_cell? w _ hw283_0)).trans hw283_0), ((HB.out.cell (World.block_lt_of_cell? w _ hw283_1)).trans hw283_1)⟩) (fun hHeld => ?_)
  clear hK K
  refine nm_ (some 127) ?_
  refine yr_ 6 128 bq_48 HT_ ?_
  refine yr_ 7 129 bq_49 HT_ ?_
  refine yr_ 8 130 bq_50 HT_ ?_
  refine yr_ 9 131 bq_51 HT_ ?_
  refine yr_ 10 132 bq_52 HT_ ?_
  refine yr_ 11 133 bq_53 HT_ ?_
  refine yr_ 13 135 #[true, true, true, true, true, true, true, true, true, true, true, true, false, true, false, false, false, false, false, false, false, false, false, false, false, false, false] HT_ ?_
  refine yr_ 14 136 #[true, true, true, true, true, true, true, true, true, true, true, true, false, true, true, false, false, false, false, false, false, false, false, false, false, false, false] HT_ ?_
  refine yr_ 18 140 #[true, true, true, true, true, true, true, true, true, true, true, true, false, true, true, false, false, false, true, false, false, false, false, false, false, false, false] HT_ ?_
  refine yr_ 20 142 #[true, true, true, true, true, true, true, true, true, true, true, true, false, true, true, false, false, false, true, false, true, false, false, false, false, false, false] HT_ ?_
  refine tr_ 12 134 #[true, true, true, true, true, true, true, true, true, true, true, true, true, true, true, false, false, false, true, false, true, false, false, false, false, false, false] HT_ HW_ hHeld ?_
  refine yr_ 15 137 #[true, true, true, true, true, true, true, true, true, true, true, true, true, true, true, true, false, false, true, false, true, false, false, false, false, false, false] HT_ ?_
  refine yr_ 16 138 #[true, true, true, true, true, true, true, true, true, true, true, true, true, true, true, true, true, false, true, false, true, false, false, false, false, false, false] HT_ ?_
  refine tr_ 17 139 #[true, true, true, true, true, true, true, true, true, true, true, true, true, true, true, true, true, true, true, false, true, false, false, false, false, false, false] HT_ HW_ hHeld ?_
  refine tr_ 19 141 bq_54 HT_ HW_ hHeld ?_
  refine yr_ 21 143 bq_55 HT_ ?_
  refine yr_ 22 144 bq_56 HT_ ?_
  refine tr_ 23 145 bq_57 HT_ HW_ hHeld ?_
  refine yr_ 24 146 bq_58 HT_ ?_
  refine yr_ 25 147 bq_59 HT_ ?_
  refine yr_ 26 148 bq_60 HT_ ?_
  refine done_ (done_of HT_.out (by kernel_rfl)) ?_
  go_upto_if 148 with (fail)
  (try clear aa ab)
  (try clear b2 b3)
  (try clear b4 b5)
  have H := dp.out
  clear dp
  by_cases da : ((Op.bytesLess (((rd_T72 a7 (ji65)).f1).toList) (((rd_T72 a7 a8).f1).toList)) = true)
  rotate_left
  ·rw [if_neg da] at H
   have av : (Op.bytesLess (((rd_T72 a7 (ji65)).f1).toList) (((rd_T72 a7 a8).f1).toList)) = false := by simpa using da
   have c71b0q : (Op.bytesLess (((rd_T72 a7 a8).f1).toList) (((rd_T72 a7 (ji65)).f1).toList) || ((((rd_T72 a7 a8).f1).toList) == (((rd_T72 a7 (ji65)).f1).toList))) = true := by rw [bl_leq, av]; rfl
   clear da
   (first | rw [av] | (simp only [i64_w, i32_w]; rw [av]) | rw [bl_leq, av] | rw [bl_gtr, av] | skip)
   obtain rfl := Option.some.inj H
   go_wp2
   go_ret
   exact ⟨(by first | rfl | (simp [errW_none, errW_some] <;> rfl) | (simp only [← hji65]; first | rfl | (simp [errW_none, errW_some] <;> rfl)) | (simp [*, errW_none, errW_some] <;> rfl)), th_⟩
  rw [if_pos da] at H
  have av : (Op.bytesLess (((rd_T72 a7 (ji65)).f1).toList) (((rd_T72 a7 a8).f1).toList)) = true := da
  have c71b0q : (Op.bytesLess (((rd_T72 a7 a8).f1).toList) (((rd_T72 a7 (ji65)).f1).toList) || ((((rd_T72 a7 a8).f1).toList) == (((rd_T72 a7 (ji65)).f1).toList))) = false := by rw [bl_leq, av]; rfl
  clear da
  (first | rw [av] | (simp only [i64_w, i32_w]; rw [av]) | rw [bl_leq, av] | rw [bl_gtr, av] | skip)
  have H' := Aside0.mk H
  clear H
  go_wp2
  go_roundg k2
  case measure => have := HJ46.out; have := HK2.out; omega
  case rel => exact ⟨(wrap64 (a8 + 1)), tq_3, H', ⟨(by have := HJ46.out; have := HK2.out; omega)⟩, ⟨(kb_ a5)⟩, ⟨th_⟩⟩
 rw [if_pos cc] at H
 have bm := beq_iff_eq.mpr cc
 have bn := bne_eq_false_iff_eq.mpr cc
 clear cc
 have d6 := Aside0.mk H
 clear H
 go_upto_region 7 with (fail)
 go_cut [60] (fun v60 wc => ∃ (kq : Nat) (bd : Bool), v60 = .bool bd ∧ Aside0 (spec_InodeOk.j0 kq bd ae a9 ag af l0_4 a7 = some r) ∧ Aside0 (kq ≤ k) ∧ Aside0 (wc.heap[a6]? = some (.cells #[.int .i64 ae, .int .i64 a9, .int .i64 ag, .string af, (.slice ar l0_4.length aj), (.slice au a7.length ak)] 69 (0, 0))) ∧ Aside0 (Below w.heap.size w wc))
 case first =>
  have H := d6.out
  clear d6
  obtain ⟨e8, e3, H⟩ := bd_ H
  by_cases ck : e8 = true
  rotate_left
  ·replace ck := Bool.eq_false_iff.mpr ck
   subst ck
   rw [if_neg nf_] at H
   have H' := Aside0.mk H
   clear H
   try go_wp2
   (try (rw [drewN_self w4]; generalize hq_ : World.drewN w4 _ = w4; have z_ := q_ (⟨(by rw [← hq_]; exact (kb_ a5))⟩ : Aside0 (w4.heap[a6]? = some (.cells #[.int .i64 ae, .int .i64 a9, .int .i64 ag, .string af, .slice ar l0_4.length aj, .slice au a7.length ak] 69 (0, 0)))) <| (⟨(by rw [← hq_]; exact th_)⟩ : Aside0 (Below w.heap.size w w4)); clear a5 HB hq_; obtain ⟨a5, HB⟩ := z_))
   have z_ := dw1_ a5 HB
   clear a5 HB
   obtain ⟨a5, HB⟩ := z_
   refine start_ (n := 25) (S := fun w' => w'.cell? ⟨a6, 0, none⟩ = some (.int .i64 ae) ∧ w'.cell? ⟨a6, 1, none⟩ = some (.int .i64 a9) ∧ w'.cell? ⟨a6, 2, none⟩ = some (.int .i64 ag) ∧ w'.cell? ⟨a6, 3, none⟩ = some (.string af) ∧ w'.cell? ⟨a6, 4, none⟩ = some (.slice ar l0_4.length aj) ∧ w'.cell? ⟨a6, 5, none⟩ = some (.slice au a7.length ak)) (ds := []) bq_16 (by kernel_rfl) rfl rfl (bk6_ a5.out) (fun hHeld => ?_); refine with_tabW spec_InodeOk.tab7 spec_InodeOk.bits7 (fun HT_ HW_ => ?_)
   generalize w4.drew = fc at a5 HB hHeld ⊢
   refine yr_ 0 36 bq_17 HT_ ?_
   refine tr_ 1 37 bq_18 HT_ HW_ hHeld ?_
   refine one_ (i := 2) (N := some 38) bq_19 rfl rfl (one_of HT_.out (by kernel_rfl)) (by decide) (fun K hK => ?_)
   refine goes_ Tryz.func36 (by kernel_rfl) rfl #[.int .i64 a9, .int .i64 0, .int .i64 128] (by rfl) rfl rfl tq_0 ?_
   with_reducible refine (spec_l01In.calls a9 0 128 false _ e3.out).mono ?_
   rintro e w' ⟨rfl, ⟨nd, rfl⟩⟩
   refine ⟨_, rfl, ?_⟩
   refine hK.out _ _ (bk6_ a5.out) (fun hHeld => ?_)
   clear hK K
   refine nm_ (some 38) ?_
   refine yr_ 3 39 bq_20 HT_ ?_
   refine yr_ 4 40 bq_21 HT_ ?_
   refine ur_ 5 41 bq_22 HT_ ?_
   refine ur_ 6 42 bq_23 HT_ ?_
   refine ur_ 7 43 bq_24 HT_ ?_
   refine ur_ 8 44 bq_25 HT_ ?_
   refine yr_ 9 45 bq_26 HT_ ?_
   refine yr_ 10 46 bq_27 HT_ ?_
   refine ur_ 11 47 bq_28 HT_ ?_
   refine ur_ 12 48 bq_108 HT_ ?_
   refine ur_ 13 49 bq_109 HT_ ?_
   refine ur_ 14 50 bq_29 HT_ ?_
   refine ur_ 15 51 bq_30 HT_ ?_
   refine ur_ 16 52 bq_31 HT_ ?_
   refine ur_ 17 53 bq_32 HT_ ?_
   refine yr_ 18 54 bq_33 HT_ ?_
   refine yr_ 19 55 bq_34 HT_ ?_
   refine ur_ 20 56 bq_35 HT_ ?_
   refine ur_ 21 57 bq_36 HT_ ?_
   refine ur_ 22 58 bq_37 HT_ ?_
   refine ur_ 23 59 bq_38 HT_ ?_
   refine yr_ 24 60 bq_39 HT_ ?_
   refine done_ (done_of HT_.out (by kernel_rfl)) ?_
   try go_wp2
   go_meet
   case rel => exact ⟨_, (true), tq_3, H', ⟨tq_18⟩, ⟨(kb_ a5)⟩, ⟨th_⟩⟩
  subst ck
  rw [if_pos rfl] at H
  by_cases bi : (af.size : Int) = 8
  rotate_left
  ·rw [if_neg bi] at H
   have b0 := beq_eq_false_iff_ne.mpr bi
   have ba := bne_iff_ne.mpr bi
   (first | rw [b0] | (simp only [i64_w, i32_w]; rw [b0]) | skip)
   have H' := Aside0.mk H
   clear H
   try go_wp2
   (try (rw [drewN_self w4]; generalize hq_ : World.drewN w4 _ = w4; have z_ := q_ (⟨(by rw [← hq_]; exact (kb_ a5))⟩ : Aside0 (w4.heap[a6]? = some (.cells #[.int .i64 ae, .int .i64 a9, .int .i64 ag, .string af, .slice ar l0_4.length aj, .slice au a7.length ak] 69 (0, 0)))) <| (⟨(by rw [← hq_]; exact th_)⟩ : Aside0 (Below w.heap.size w w4)); clear a5 HB hq_; obtain ⟨a5, HB⟩ := z_))
   have z_ := dw1_ a5 HB
   clear a5 HB
   obtain ⟨a5, HB⟩ := z_
   refine start_ (n := 25) (S := fun w' => w'.cell? ⟨a6, 0, none⟩ = some (.int .i64 ae) ∧ w'.cell? ⟨a6, 1, none⟩ = some (.int .i64 a9) ∧ w'.cell? ⟨a6, 2, none⟩ = some (.int .i64 ag) ∧ w'.cell? ⟨a6, 3, none⟩ = some (.string af) ∧ w'.cell? ⟨a6, 4, none⟩ = some (.slice ar l0_4.length aj) ∧ w'.cell? ⟨a6, 5, none⟩ = some (.slice au a7.length ak)) (ds := []) bq_16 (by kernel_rfl) rfl rfl (bk6_ a5.out) (fun hHeld => ?_); refine with_tabW spec_InodeOk.tab7 spec_InodeOk.bits7 (fun HT_ HW_ => ?_)
   generalize w4.drew = fd at a5 HB hHeld ⊢
   refine yr_ 0 36 bq_17 HT_ ?_
   refine tr_ 1 37 bq_18 HT_ HW_ hHeld ?_
   refine one_ (i := 2) (N := some 38) bq_19 rfl rfl (one_of HT_.out (by kernel_rfl)) (by decide) (fun K hK => ?_)
   refine goes_ Tryz.func36 (by kernel_rfl) rfl #[.int .i64 a9, .int .i64 0, .int .i64 128] (by rfl) rfl rfl tq_0 ?_
   with_reducible refine (spec_l01In.calls a9 0 128 true _ e3.out).mono ?_
   rintro e w' ⟨rfl, ⟨nd, rfl⟩⟩
   refine ⟨_, rfl, ?_⟩
   refine hK.out _ _ (bk6_ a5.out) (fun hHeld => ?_)
   clear hK K
   refine nm_ (some 38) ?_
   refine yr_ 3 39 bq_20 HT_ ?_
   refine yr_ 4 40 bq_21 HT_ ?_
   refine yr_ 5 41 bq_22 HT_ ?_
   refine tr_ 6 42 bq_23 HT_ HW_ hHeld ?_
   refine yr_ 7 43 bq_24 HT_ ?_
   refine yr_ 8 44 bq_25 HT_ ?_
   refine yr_ 9 45 bq_26 HT_ ?_
   refine yr_ 10 46 bq_27 HT_ ?_
   refine ur_ 11 47 bq_28 HT_ ?_
   refine ur_ 12 48 bq_108 HT_ ?_
   refine ur_ 13 49 bq_109 HT_ ?_
   refine ur_ 14 50 bq_29 HT_ ?_
   refine ur_ 15 51 bq_30 HT_ ?_
   refine ur_ 16 52 bq_31 HT_ ?_
   refine ur_ 17 53 bq_32 HT_ ?_
   refine yr_ 18 54 bq_33 HT_ ?_
   refine yr_ 19 55 bq_34 HT_ ?_
   refine ur_ 20 56 bq_35 HT_ ?_
   refine ur_ 21 57 bq_36 HT_ ?_
   refine ur_ 22 58 bq_37 HT_ ?_
   refine ur_ 23 59 bq_38 HT_ ?_
   refine yr_ 24 60 bq_39 HT_ ?_
   refine done_ (done_of HT_.out (by kernel_rfl)) ?_
   try go_wp2
   go_meet
   case rel => exact ⟨_, (true), tq_3, H', ⟨tq_18⟩, ⟨(kb_ a5)⟩, ⟨th_⟩⟩
  rw [if_pos bi] at H
  have b0 := beq_iff_eq.mpr bi
  have ba := bne_eq_false_iff_eq.mpr bi
  clear bi
  (first | rw [b0] | (simp only [i64_w, i32_w]; rw [b0]) | skip)
  obtain ⟨d7, er, H⟩ := bd_ H
  by_cases bj : (l0_4.length : Int) = d7
  rotate_left
  ·rw [if_neg bj] at H
   have bb := beq_eq_false_iff_ne.mpr bj
   have bc := bne_iff_ne.mpr bj
   have H' := Aside0.mk H
   clear H
   try go_wp2
   (try (rw [drewN_self w4]; generalize hq_ : World.drewN w4 _ = w4; have z_ := q_ (⟨(by rw [← hq_]; exact (kb_ a5))⟩ : Aside0 (w4.heap[a6]? = some (.cells #[.int .i64 ae, .int .i64 a9, .int .i64 ag, .string af, .slice ar l0_4.length aj, .slice au a7.length ak] 69 (0, 0)))) <| (⟨(by rw [← hq_]; exact th_)⟩ : Aside0 (Below w.heap.size w w4)); clear a5 HB hq_; obtain ⟨a5, HB⟩ := z_))
   have z_ := dw1_ a5 HB
   clear a5 HB
   obtain ⟨a5, HB⟩ := z_
   refine start_ (n := 25) (S := fun w' => w'.cell? ⟨a6, 0, none⟩ = some (.int .i64 ae) ∧ w'.cell? ⟨a6, 1, none⟩ = some (.int .i64 a9) ∧ w'.cell? ⟨a6, 2, none⟩ = some (.int .i64 ag) ∧ w'.cell? ⟨a6, 3, none⟩ = some (.string af) ∧ w'.cell? ⟨a6, 4, none⟩ = some (.slice ar l0_4.length aj) ∧ w'.cell? ⟨a6, 5, none⟩ = some (.slice au a7.length ak)) (ds := []) bq_16 (by kernel_rfl) rfl rfl (bk6_ a5.out) (fun hHeld => ?_); refine with_tabW spec_InodeOk.tab7 spec_InodeOk.bits7 (fun HT_ HW_ => ?_)
   generalize w4.drew = fe at a5 HB hHeld ⊢
   refine yr_ 0 36 bq_17 HT_ ?_
   refine tr_ 1 37 bq_18 HT_ HW_ hHeld ?_
   refine one_ (i := 2) (N := some 38) bq_19 rfl rfl (one_of HT_.out (by kernel_rfl)) (by decide) (fun K hK => ?_)
   refine goes_ Tryz.func36 (by kernel_rfl) rfl #[.int .i64 a9, .int .i64 0, .int .i64 128] (by rfl) rfl rfl tq_0 ?_
   with_reducible refine (spec_l01In.calls a9 0 128 true _ e3.out).mono ?_
   rintro e w' ⟨rfl, ⟨nd, rfl⟩⟩
   refine ⟨_, rfl, ?_⟩
   refine hK.out _ _ (bk6_ a5.out) (fun hHeld => ?_)
   clear hK K
   refine nm_ (some 38) ?_
   refine yr_ 3 39 bq_20 HT_ ?_
   refine yr_ 4 40 bq_21 HT_ ?_
   refine yr_ 5 41 bq_22 HT_ ?_
   refine tr_ 6 42 bq_23 HT_ HW_ hHeld ?_
   refine yr_ 7 43 bq_24 HT_ ?_
   refine yr_ 8 44 bq_25 HT_ ?_
   refine yr_ 9 45 bq_26 HT_ ?_
   refine yr_ 10 46 bq_27 HT_ ?_
   refine yr_ 11 47 bq_28 HT_ ?_
   refine yr_ 14 50 bq_110 HT_ ?_
   refine tr_ 12 48 bq_111 HT_ HW_ hHeld ?_
   refine yr_ 13 49 bq_29 HT_ ?_
   refine tr_ 15 51 bq_30 HT_ HW_ hHeld ?_
   refine one_ (i := 16) (N := some 52) bq_31 rfl rfl (one_of HT_.out (by kernel_rfl)) (by decide) (fun K hK => ?_)
   refine goes_ Tryz.func63 (by kernel_rfl) rfl #[.int .i64 a9] (by rfl) rfl rfl tq_0 ?_
   with_reducible refine (spec_PagesFor.calls a9 d7 _ er.out).mono ?_
   rintro e w' ⟨rfl, ⟨nd, rfl⟩⟩
   refine ⟨_, rfl, ?_⟩
   refine hK.out _ _ (bk6_ a5.out) (fun hHeld => ?_)
   clear hK K
   refine nm_ (some 52) ?_
   refine yr_ 17 53 bq_32 HT_ ?_
   refine yr_ 18 54 bq_33 HT_ ?_
   refine yr_ 19 55 bq_34 HT_ ?_
   refine ur_ 20 56 bq_35 HT_ ?_
   refine ur_ 21 57 bq_36 HT_ ?_
   refine ur_ 22 58 bq_37 HT_ ?_
   refine ur_ 23 59 bq_38 HT_ ?_
   refine yr_ 24 60 bq_39 HT_ ?_
   refine done_ (done_of HT_.out (by kernel_rfl)) ?_
   try go_wp2
   go_meet
   case rel => exact ⟨_, (true), tq_3, H', ⟨tq_18⟩, ⟨(kb_ a5)⟩, ⟨th_⟩⟩
  rw [if_pos bj] at H
  have bb := beq_iff_eq.mpr bj
  have bc := bne_eq_false_iff_eq.mpr bj
  clear bj
  have H' := Aside0.mk H
  clear H
  try go_wp2
  (try (rw [drewN_self w4]; generalize hq_ : World.drewN w4 _ = w4; have z_ := q_ (⟨(by rw [← hq_]; exact (kb_ a5))⟩ : Aside0 (w4.heap[a6]? = some (.cells #[.int .i64 ae, .int .i64 a9, .int .i64 ag, .string af, .slice ar l0_4.length aj, .slice au a7.length ak] 69 (0, 0)))) <| (⟨(by rw [← hq_]; exact th_)⟩ : Aside0 (Below w.heap.size w w4)); clear a5 HB hq_; obtain ⟨a5, HB⟩ := z_))
  have z_ := dw1_ a5 HB
  clear a5 HB
  obtain ⟨a5, HB⟩ := z_
  refine start_ (n := 25) (S := fun w' => w'.cell? ⟨a6, 0, none⟩ = some (.int .i64 ae) ∧ w'.cell? ⟨a6, 1, none⟩ = some (.int .i64 a9) ∧ w'.cell? ⟨a6, 2, none⟩ = some (.int .i64 ag) ∧ w'.cell? ⟨a6, 3, none⟩ = some (.string af) ∧ w'.cell? ⟨a6, 4, none⟩ = some (.slice ar l0_4.length aj) ∧ w'.cell? ⟨a6, 5, none⟩ = some (.slice au a7.length ak)) (ds := []) bq_16 (by kernel_rfl) rfl rfl (bk6_ a5.out) (fun hHeld => ?_); refine with_tabW spec_InodeOk.tab7 spec_InodeOk.bits7 (fun HT_ HW_ => ?_)
  generalize w4.drew = ff at a5 HB hHeld ⊢
  refine yr_ 0 36 bq_17 HT_ ?_
  refine tr_ 1 37 bq_18 HT_ HW_ hHeld ?_
  refine one_ (i := 2) (N := some 38) bq_19 rfl rfl (one_of HT_.out (by kernel_rfl)) (by decide) (fun K hK => ?_)
  refine goes_ Tryz.func36 (by kernel_rfl) rfl #[.int .i64 a9, .int .i64 0, .int .i64 128] (by rfl) rfl rfl tq_0 ?_
  with_reducible refine (spec_l01In.calls a9 0 128 true _ e3.out).mono ?_
  rintro e w' ⟨rfl, ⟨nd, rfl⟩⟩
  refine ⟨_, rfl, ?_⟩
  refine hK.out _ _ (bk6_ a5.out) (fun hHeld => ?_)
  clear hK K
  refine nm_ (some 38) ?_
  refine yr_ 3 39 bq_20 HT_ ?_
  refine yr_ 4 40 bq_21 HT_ ?_
  refine yr_ 5 41 bq_22 HT_ ?_
  refine tr_ 6 42 bq_23 HT_ HW_ hHeld ?_
  refine yr_ 7 43 bq_24 HT_ ?_
  refine yr_ 8 44 bq_25 HT_ ?_
  refine yr_ 9 45 bq_26 HT_ ?_
  refine yr_ 10 46 bq_27 HT_ ?_
  refine yr_ 11 47 bq_28 HT_ ?_
  refine yr_ 14 50 bq_110 HT_ ?_
  refine tr_ 12 48 bq_111 HT_ HW_ hHeld ?_
  refine yr_ 13 49 bq_29 HT_ ?_
  refine tr_ 15 51 bq_30 HT_ HW_ hHeld ?_
  refine one_ (i := 16) (N := some 52) bq_31 rfl rfl (one_of HT_.out (by kernel_rfl)) (by decide) (fun K hK => ?_)
  refine goes_ Tryz.func63 (by kernel_rfl) rfl #[.int .i64 a9] (by rfl) rfl rfl tq_0 ?_
  with_reducible refine (spec_PagesFor.calls a9 d7 _ er.out).mono ?_
  rintro e w' ⟨rfl, ⟨nd, rfl⟩⟩
  refine ⟨_, rfl, ?_⟩
  refine hK.out _ _ (bk6_ a5.out) (fun hHeld => ?_)
  clear hK K
  refine nm_ (some 52) ?_
  refine yr_ 17 53 bq_32 HT_ ?_
  refine yr_ 18 54 bq_33 HT_ ?_
  refine yr_ 19 55 bq_34 HT_ ?_
  refine yr_ 20 56 bq_35 HT_ ?_
  refine tr_ 21 57 bq_36 HT_ HW_ hHeld ?_
  refine yr_ 22 58 bq_37 HT_ ?_
  refine yr_ 23 59 bq_38 HT_ ?_
  refine yr_ 24 60 bq_39 HT_ ?_
  refine done_ (done_of HT_.out (by kernel_rfl)) ?_
  try go_wp2
  go_meet
  case rel => exact ⟨_, (decide ((a7.length : Int) > 0)), tq_3, H', ⟨tq_18⟩, ⟨(kb_ a5)⟩, ⟨th_⟩⟩
 case rest =>
 clear d6
 try clear c2; try clear p2; try clear c3; try clear c6; try clear ck; try clear bi; try clear b0; try clear ba; try clear bj; try clear bb; try clear bc
 obtain ⟨kq, bd, rfl, HA, HJ17, a5, HB⟩ := hcut
 cases kq with
 | zero => exact absurd HA.out (by simp [spec_InodeOk.j0])
 | succ kj17 =>
 have H := HA.out
 clear HA
 simp only [spec_InodeOk.j0] at H
 by_cases cw : bd = true
 ·subst cw
  rw [if_pos rfl] at H
  obtain rfl := Option.some.inj H
  go_wp2
  go_ret
  exact ⟨tq_1, th_⟩
 replace cw := Bool.eq_false_iff.mpr cw
 subst cw
 rw [if_neg nf_] at H
 have H' := Aside0.mk H
 clear H
 go_wp2
 go_loopg [3] kj17 (fun kq v3 w' => ∃ (ah : Int), v3 = .int .i64 ah ∧ Aside0 (spec_InodeOk.l0 kq ah ae a9 ag af l0_4 a7 = some r) ∧ Aside0 (kq ≤ kj17) ∧ Aside0 (w'.heap[a6]? = some (.cells #[.int .i64 ae, .int .i64 a9, .int .i64 ag, .string af, (.slice ar l0_4.length aj), (.slice au a7.length ak)] 69 (0, 0))) ∧ Aside0 (Below w.heap.size w w'))
 case atStart => exact ⟨(0), tq_3, H', ⟨Nat.le_refl _⟩, ⟨(kb_ a5)⟩, ⟨th_⟩⟩
 case round =>
 clear H'
 try clear c2; try clear p2; try clear c3; try clear c6; try clear ck; try clear bi; try clear b0; try clear ba; try clear bj; try clear bb; try clear bc; try clear cw; try clear p2
 obtain ⟨ah, rfl, HA, HK2, a5, HB⟩ := hrel
 cases gk with
 | zero => exact absurd HA.out (by simp [spec_InodeOk.l0])
 | succ k2 =>
 have H := HA.out
 clear HA
 simp only [spec_InodeOk.l0] at H
 have dt := Aside0.mk H
 clear H
 have bf := bb6_ a5.out
 go_upto_if 65 with (fail)
 (try clear bf)
 have H := dt.out
 clear dt
 by_cases cl : ah < (l0_4.length : Int)
 rotate_left
 ·rw [if_neg cl] at H
  have b6 := decide_eq_false cl
  clear cl
  (first | rw [b6] | (simp only [i64_w, i32_w]; rw [b6]) | skip)
  obtain rfl := Option.some.inj H
  go_wp2
  go_ret
  exact ⟨tq_1, th_⟩
 rw [if_pos cl] at H
 have b6 := decide_eq_true cl
 clear cl
 (first | rw [b6] | (simp only [i64_w, i32_w]; rw [b6]) | skip)
 obtain ⟨di, H⟩ := fc_ H
 have bw := decide_eq_true di
 clear di
 obtain ⟨co, ey, H⟩ := bd_ H
 have du := Aside0.mk H
 clear H
 have bg := bb6_ a5.out
 have p276 : 0 ≤ (ah : Int) := of_decide_eq_true tq_2
 have q276 : ah < (l0_4.length : Int) := of_decide_eq_true tq_2
 obtain ⟨ai, e9, ax, ay, az⟩ := at_T89 HR0_4.out ah p276 q276
 cases e9
 replace ax := hx_ HB.out ax
 replace ay := hx_ HB.out ay
 replace az := hx_ HB.out az
 replace p276 := eq_true p276
 replace q276 := eq_true q276
 go_upto_if 74 with (first | ((with_reducible refine gate_callee (f := 64) rfl ?_); refine goesL_ (some 73) rfl rfl Tryz.func64 (by kernel_rfl) rfl #[.agg #[.int .i64 ((rd_T89 l0_4 ah).f0), .int .i64 ((rd_T89 l0_4 ah).f1), .string ((rd_T89 l0_4 ah).f2)]] rfl tq_0 ?_; (with_reducible refine (spec_RecWord.calls k2 ((rd_T89 l0_4 ah).f0) ((rd_T89 l0_4 ah).f1) ((rd_T89 l0_4 ah).f2) co _ ey.out).mono ?_); rintro e fg ⟨rfl, hb⟩; refine ⟨_, rfl, ?_⟩; have z_ := bw1_ (kb_ a5) th_ hb; clear a5 HB; obtain ⟨a5, HB⟩ := z_; (try clear hb)))
 (try simp only [Act.put, List.setIfInBounds_toArray, List.set_cons_zero, List.set_cons_succ])
 (try clear bg)
 (try clear ax ay az)
 have H := du.out
 clear du
 by_cases cb : co.toList = ([] : List UInt8)
 ·rw [if_pos cb] at H
  have b1 := beq_iff_eq.mpr cb
  have bh := bne_eq_false_iff_eq.mpr cb
  clear cb
  (first | rw [b1] | (simp only [i64_w, i32_w]; rw [b1]) | rw [show (co.toList).isEmpty = true from by simpa using b1] | skip)
  obtain rfl := Option.some.inj H
  go_wp2
  go_ret
  exact ⟨tq_1, th_⟩
 rw [if_neg cb] at H
 have b1 := beq_eq_false_iff_ne.mpr cb
 have bh := bne_iff_ne.mpr cb
 (first | rw [b1] | (simp only [i64_w, i32_w]; rw [b1]) | rw [show (co.toList).isEmpty = false from by simpa using b1] | skip)
 have H' := Aside0.mk H
 clear H
 go_wp2
 go_loopg [4] k2 (fun kq v4 w' => ∃ (aw : Int), v4 = .int .i64 aw ∧ Aside0 (spec_InodeOk.l1 kq ah aw ae a9 ag af l0_4 a7 = some r) ∧ Aside0 (kq ≤ k2) ∧ Aside0 (w'.heap[a6]? = some (.cells #[.int .i64 ae, .int .i64 a9, .int .i64 ag, .string af, (.slice (some ai) l0_4.length aj), (.slice au a7.length ak)] 69 (0, 0))) ∧ Aside0 (Below w.heap.size w w'))
 case atStart => exact ⟨(0), tq_3, H', ⟨Nat.le_refl _⟩, ⟨(kb_ a5)⟩, ⟨th_⟩⟩
 case round =>
 clear H'
 try clear c2; try clear p2; try clear q2; try clear hx2; try clear c3; try clear c6; try clear ck; try clear bi; try clear b0; try clear ba; try clear bj; try clear bb; try clear bc; try clear p27; try clear q27; try clear hx27; try clear cw; try clear cl; try clear b6; try clear di; try clear bw; try clear ek; try clear cb; try clear b1; try clear bh; try clear bf; try clear bg; try clear bf; try clear bg; try clear ax; try clear ay; try clear az; try clear p2; try clear p276; try clear q276
 obtain ⟨aw, rfl, HA, HK3, a5, HB⟩ := hrel
 cases gk with
 | zero => exact absurd HA.out (by simp [spec_InodeOk.l1])
 | succ k3 =>
 have H := HA.out
 clear HA
 simp only [spec_InodeOk.l1] at H
 by_cases cx : aw < ah
 rotate_left
 ·rw [if_neg cx] at H
  have bx := decide_eq_false cx
  clear cx
  have H' := Aside0.mk H
  clear H
  go_wp2
  go_roundg k3
  case measure => have := HJ17.out; have := HK2.out; have := HK3.out; omega
  case rel => exact ⟨(wrap64 (ah + 1)), tq_3, H', ⟨(by have := HJ17.out; have := HK2.out; have := HK3.out; omega)⟩, ⟨(kb_ a5)⟩, ⟨th_⟩⟩
 rw [if_pos cx] at H
 have bx := decide_eq_true cx
 clear cx
 obtain ⟨dy, H⟩ := fc_ H
 have cy := decide_eq_true dy
 clear dy
 obtain ⟨dz, H⟩ := fc_ H
 have cz := decide_eq_true dz
 clear dz
 obtain ⟨e0, H⟩ := fc_ H
 have d0 := decide_eq_true e0
 clear e0
 obtain ⟨e1, H⟩ := fc_ H
 have d1 := decide_eq_true e1
 clear e1
 have dv := Aside0.mk H
 clear H
 try go_wp2
 have z_ := dw1_ a5 HB
 clear a5 HB
 obtain ⟨a5, HB⟩ := z_
 have p278 : 0 ≤ (aw : Int) := of_decide_eq_true tq_2
 have q278 : aw < (l0_4.length : Int) := of_decide_eq_true tq_2
 obtain ⟨dw, ea, al, am, an⟩ := at_T89 HR0_4.out aw p278 q278
 have hw278_2 := an
 have hw278_1 := am
 have hw278_0 := al
 obtain rfl : ai = dw := (by injection ea)
 replace al := hx_ HB.out al
 replace am := hx_ HB.out am
 replace an := hx_ HB.out an
 replace p278 := eq_true p278
 replace q278 := eq_true q278
 have p279 : 0 ≤ (ah : Int) := of_decide_eq_true tq_2
 have q279 : ah < (l0_4.length : Int) := of_decide_eq_true tq_2
 obtain ⟨dx, eb, ao, ap, aq⟩ := at_T89 HR0_4.out ah p279 q279
 have hw279_2 := aq
 have hw279_1 := ap
 have hw279_0 := ao
 obtain rfl : ai = dx := (by injection eb)
 replace ao := hx_ HB.out ao
 replace ap := hx_ HB.out ap
 replace aq := hx_ HB.out aq
 replace p279 := eq_true p279
 replace q279 := eq_true q279
 refine start_ (n := 13) (S := fun w' => w'.cell? ⟨a6, 0, none⟩ = some (.int .i64 ae) ∧ w'.cell? ⟨a6, 1, none⟩ = some (.int .i64 a9) ∧ w'.cell? ⟨a6, 2, none⟩ = some (.int .i64 ag) ∧ w'.cell? ⟨a6, 3, none⟩ = some (.string af) ∧ w'.cell? ⟨a6, 4, none⟩ = some (.slice (some ai) l0_4.length aj) ∧ w'.cell? ⟨a6, 5, none⟩ = some (.slice au a7.length ak) ∧ w'.cell? (ai.add ((aw).toNat * 3)) = some (.int .i64 ((rd_T89 l0_4 aw).f0)) ∧ w'.cell? ⟨(ai.add ((aw).toNat * 3)).block, (ai.add ((aw).toNat * 3)).off + 1, none⟩ = some (.int .i64 ((rd_T89 l0_4 aw).f1)) ∧ w'.cell? ⟨(ai.add ((aw).toNat * 3)).block, (ai.add ((aw).toNat * 3)).off + 2, none⟩ = some (.string ((rd_T89 l0_4 aw).f2)) ∧ w'.cell? (ai.add ((ah).toNat * 3)) = some (.int .i64 ((rd_T89 l0_4 ah).f0)) ∧ w'.cell? ⟨(ai.add ((ah).toNat * 3)).block, (ai.add ((ah).toNat * 3)).off + 1, none⟩ = some (.int .i64 ((rd_T89 l0_4 ah).f1)) ∧ w'.cell? ⟨(ai.add ((ah).toNat * 3)).block, (ai.add ((ah).toNat * 3)).off + 2, none⟩ = some (.string ((rd_T89 l0_4 ah).f2))) (ds := []) #[false, false, false, false, false, false, false, false, false, false, false, false, false] (by kernel_rfl) rfl rfl (bc6_ a5.out ⟨((HB.out.cell (World.block_lt_of_cell? w _ hw278_0)).trans hw278_0), ((HB.out.cell (World.block_lt_of_cell? w _ hw278_1)).trans hw278_1), ((HB.out.cell (World.block_lt_of_cell? w _ hw278_2)).trans hw278_2), ((HB.out.cell (World.block_lt_of_cell? w _ hw279_0)).trans hw279_0), ((HB.out.cell (World.block_lt_of_cell? w _ hw279_1)).trans hw279_1), ((HB.out.cell (World.block_lt_of_cell? w _ hw279_2)).trans hw279_2)⟩) (fun hHeld => ?_); refine with_tabW spec_InodeOk.tab17 spec_InodeOk.bits17 (fun HT_ HW_ => ?_)
 generalize wr.drew = fh at a5 HB al am an ao ap aq hHeld ⊢
 refine yr_ 0 80 #[true, false, false, false, false, false, false, false, false, false, false, false, false] HT_ ?_
 refine yr_ 2 82 #[true, false, true, false, false, false, false, false, false, false, false, false, false] HT_ ?_
 refine yr_ 6 86 #[true, false, true, false, false, false, true, false, false, false, false, false, false] HT_ ?_
 refine yr_ 8 88 #[true, false, true, false, false, false, true, false, true, false, false, false, false] HT_ ?_
 refine tr_ 1 81 #[true, true, true, false, false, false, true, false, true, false, false, false, false] HT_ HW_ hHeld ?_
 refine yr_ 3 83 #[true, true, true, true, false, false, true, false, true, false, false, false, false] HT_ ?_
 refine yr_ 4 84 #[true, true, true, true, true, false, true, false, true, false, false, false, false] HT_ ?_
 refine tr_ 5 85 #[true, true, true, true, true, true, true, false, true, false, false, false, false] HT_ HW_ hHeld ?_
 refine tr_ 7 87 #[true, true, true, true, true, true, true, true, true, false, false, false, false] HT_ HW_ hHeld ?_
 refine yr_ 9 89 #[true, true, true, true, true, true, true, true, true, true, false, false, false] HT_ ?_
 refine yr_ 10 90 #[true, true, true, true, true, true, true, true, true, true, true, false, false] HT_ ?_
 refine tr_ 11 91 #[true, true, true, true, true, true, true, true, true, true, true, true, false] HT_ HW_ hHeld ?_
 refine yr_ 12 92 #[true, true, true, true, true, true, true, true, true, true, true, true, true] HT_ ?_
 refine done_ (done_of HT_.out (by kernel_rfl)) ?_
 go_upto_if 92 with (fail)
 (try clear al am an)
 (try clear ao ap aq)
 have H := dv.out
 clear dv
 by_cases cm : ((rd_T89 l0_4 aw).f0) = ((rd_T89 l0_4 ah).f0)
 ·rw [if_pos cm] at H
  have b9 := beq_iff_eq.mpr cm
  have bz := bne_eq_false_iff_eq.mpr cm
  clear cm
  (first | rw [b9] | (simp only [i64_w, i32_w]; rw [b9]) | skip)
  obtain rfl := Option.some.inj H
  go_wp2
  go_ret
  exact ⟨tq_1, th_⟩
 rw [if_neg cm] at H
 have b9 := beq_eq_false_iff_ne.mpr cm
 have bz := bne_iff_ne.mpr cm
 (first | rw [b9] | (simp only [i64_w, i32_w]; rw [b9]) | skip)
 have H' := Aside0.mk H
 clear H
 go_wp2
 go_roundg k3
 case measure => have := HJ17.out; have := HK2.out; have := HK3.out; omega
 case rel => exact ⟨(wrap64 (aw + 1)), tq_3, H', ⟨(by have := HJ17.out; have := HK2.out; have := HK3.out; omega)⟩, ⟨(kb_ a5)⟩, ⟨th_⟩⟩

end Go.Proofs.YtleoknilacjakaaGreat.PFnExactChanged
