/- Contracts of Go functions, written by a program of ours over the print of the kit: each says that the call returns what the Lean function beside it computes. Conditions: as each theorem states them. -/
import Derived.Test.YtleoknilacjakaaGreatPkFnExactPartWrites
import Derived.Test.YtleoknilacjakaaGreatPFnExactPartWritesx0
import Derived.Test.YtleoknilacjakaaGreatPFnExactPartWritesx11
import Derived.Test.YtleoknilacjakaaGreatPFnExactPartWritesx17
namespace Go.Proofs.YtleoknilacjakaaGreat.PFnExactPartWrites
open Go.RowKit Go.Proofs.YtleoknilacjakaaGreatW.PrintWords Go.Proofs.YtleoknilacjakaaGreatW.PrintLast Go.Proofs.YtleoknilacjakaaGreatW.PrintMore
attribute [local go_sem] max2_int min2_int max_two min_two max_three min_three max_four min_four   -- for this text's walks alone
set_option linter.unusedVariables false
set_option linter.unusedSimpArgs false

/-! ### impl_PartOk: function 24 -/
mutual
def impl_PartOk.j0 : Nat → Bool → Int → Int → Int → Int → Int → List Int → List (S69) → Option (Bool)
 | 0, _, _, _, _, _, _, _, _ => none
 | k + 1, x36, x459000, x459001, x459002, x459003, x460000, x460001, x460002 => if x36 = true then (some false) else (impl_PartOk.l0 k 0 x459000 x459001 x459002 x459003 x460000 x460001 x460002)
def impl_PartOk.l0 : Nat → Int → Int → Int → Int → Int → Int → List Int → List (S69) → Option (Bool)
 | 0, _, _, _, _, _, _, _, _ => none
 | k + 1, x37, x459000, x459001, x459002, x459003, x460000, x460001, x460002 => if x37 < 12 then (if x37 < x459001 then (if 0 ≤ x37 then (if x37 < (x460001.length : Int) then (impl_PartOk.j2 k x37 0 x37 ((rd x460001 x37) == 2) x459000 x459001 x459002 x459003 x460000 x460001 x460002) else (none)) else (none)) else (impl_PartOk.j2 k x37 0 x37 false x459000 x459001 x459002 x459003 x460000 x460001 x460002)) else ((impl_PagesWith.f k x460001 2).bind fun t464 => (some (decide ((t464.length : Int) ≤ x459003))))
def impl_PartOk.j2 : Nat → Int → Int → Int → Bool → Int → Int → Int → Int → Int → List Int → List (S69) → Option (Bool)
 | 0, _, _, _, _, _, _, _, _, _, _, _ => none
 | k + 1, x5, x6, x37, x51, x459000, x459001, x459002, x459003, x460000, x460001, x460002 => if x51 = true then ((impl_UsersOf.f k x460000 x460001 x460002 x5).bind fun t468 => (if t468 = 1 then (impl_PartOk.l0 k (wrap64 (x37 + 1)) x459000 x459001 x459002 x459003 x460000 x460001 x460002) else (some false))) else ((impl_UsersOf.f k x460000 x460001 x460002 x5).bind fun t469 => (if t469 = x6 then (impl_PartOk.l0 k (wrap64 (x37 + 1)) x459000 x459001 x459002 x459003 x460000 x460001 x460002) else (some false)))
end
def impl_PartOk.f (k : Nat) (a0_0 : Int) (a0_1 : Int) (a0_2 : Int) (a0_3 : Int) (a1_0 : Int) (l1_1 : List Int) (l1_2 : List (S69)) : Option (Bool) := (impl_GeoOk.f a0_0 a0_1 a0_2 a0_3).bind fun t460 => (if t460 = true then ((impl_within.f a1_0 0 16777215).bind fun t461 => (if t461 = true then ((impl_StatesOk.f k l1_1 a0_1).bind fun t462 => (if t462 = true then (if (l1_2.length : Int) = a0_2 then ((impl_areInodes.f k a1_0 l1_1 l1_2).bind fun t463 => (impl_PartOk.j0 k (!t463) a0_0 a0_1 a0_2 a0_3 a1_0 l1_1 l1_2)) else (impl_PartOk.j0 k true a0_0 a0_1 a0_2 a0_3 a1_0 l1_1 l1_2)) else (impl_PartOk.j0 k true a0_0 a0_1 a0_2 a0_3 a1_0 l1_1 l1_2))) else (impl_PartOk.j0 k true a0_0 a0_1 a0_2 a0_3 a1_0 l1_1 l1_2))) else (impl_PartOk.j0 k true a0_0 a0_1 a0_2 a0_3 a1_0 l1_1 l1_2))
def impl_PartOk.T12 : Bool × List (List Nat × List Nat) := (true, [([], []), ([0], [0]), ([1], [1]), ([2], [2]), ([], []), ([4], [4]), ([3, 5], [3, 5]), ([6, 2, 0, 1, 2, 3, 4, 5, 6], [6])])
def impl_PartOk.B12 : List Nat := [0, 1, 3, 7, 0, 16, 63, 127]
theorem impl_PartOk.tab12 : rtab .any (opsOf Tryz.f24 12) = impl_PartOk.T12 := by kernel_rfl
theorem impl_PartOk.bits12 : waitsOk impl_PartOk.T12.2 impl_PartOk.B12 = true := by kernel_rfl
set_option maxHeartbeats 8000000 in
set_option maxRecDepth 100000 in
theorem impl_PartOk.calls (k : Nat) (ag : Int) (ae : Int) (af : Int) (ah : Int) (ai : Int) (an : Option Addr) (ao : Nat) (ac : List Int) (ar : Option Addr) (au : Nat) (aj : List (S69)) (r : Bool) (w : World) (bf : Kd.C (Kd.int .i64) w an ac.length ac) (bg : ac.length ≤ ao) (bh : Kd.C k69 w ar aj.length aj) (bi : aj.length ≤ au) (h : impl_PartOk.f k ag ae af ah ai ac aj = some r) :
  Calls Tryz.prog 24 #[.agg #[.int .i64 ag, .int .i64 ae, .int .i64 af, .int .i64 ah], .agg #[.int .i64 ai, .slice an ac.length ao, .slice ar aj.length au]] w fun e w' => e = .returned (.bool r) ∧ Below w.heap.size w w' := by
 have hu31 := Tryz.underlying31
 have hu35 := Tryz.underlying35
 have HR1_1 := Aside0.mk bf
 have al := Aside0.mk bg
 clear bf bg
 have HR1_2 := Aside0.mk bh
 have bd := Aside0.mk bi
 clear bh bi
 have HB := Aside0.mk (Below.refl w.heap.size w)
 unfold impl_PartOk.f at h
 have H := h
 clear h
 have ci := Aside0.mk H
 clear H
 go_enter Tryz.func24, Tryz.ntmps24
 go_upto_region 1 with (first | ((with_reducible refine gate_dst (N := 2) rfl ?_); (try (refine gate_guard (by rfl) ?_; dsimp only)); refine be_ 2 (cs := #[.int .i64 ag, .int .i64 ae, .int .i64 af, .int .i64 ah]) 31 ?_; intro am hg w4 hbox hb; have z_ := bx0_ th_ hb hbox hg; clear HB; obtain ⟨HB, a5, cu, cv⟩ := z_; clear hb hbox hg) | ((with_reducible refine gate_dst (N := 3) rfl ?_); (try (refine gate_guard (by rfl) ?_; dsimp only)); refine be_ 3 (cs := #[.int .i64 ai, .slice an ac.length ao, .slice ar aj.length au]) 35 ?_; intro ap hg w5 hbox hb; have z_ := bx1_ (kb_ a5) th_ hb hbox hg; clear a5 HB; obtain ⟨a5, HB, a6, cw, cx, a7, a8⟩ := z_; clear hb hbox hg))
 (try simp only [Act.put, List.setIfInBounds_toArray, List.set_cons_zero, List.set_cons_succ])
 go_cut [36] (fun v36 wc => ∃ (kq : Nat) (az : Bool), v36 = .bool az ∧ Aside0 (impl_PartOk.j0 kq az ag ae af ah ai ac aj = some r) ∧ Aside0 (kq ≤ k) ∧ Aside0 (wc.heap[am]? = some (.cells #[.int .i64 ag, .int .i64 ae, .int .i64 af, .int .i64 ah] 31 (0, 0))) ∧ Aside0 (wc.heap[ap]? = some (.cells #[.int .i64 ai, (.slice an ac.length ao), (.slice ar aj.length au)] 35 (0, 0))) ∧ Aside0 (Below w.heap.size w wc))
 case first =>
  have H := ci.out
  clear ci
  obtain ⟨cj, A6, H⟩ := bd_ H
  by_cases c7 : cj = true
  rotate_left
  ·replace c7 := Bool.eq_false_iff.mpr c7
   subst c7
   rw [if_neg nf_] at H
   have H' := Aside0.mk H
   clear H
   obtain ⟨a9, aa⟩ := an2_ a7 a8
   have b1 := bb4_ a5.out
   go_wp2_with (first | ((with_reducible refine gate_callee (f := 48) rfl ?_); refine goesL_ (some 8) rfl rfl Tryz.func48 (by kernel_rfl) rfl #[.agg #[.int .i64 ag, .int .i64 ae, .int .i64 af, .int .i64 ah]] rfl tq_0 ?_; (with_reducible refine (impl_GeoOk.calls ag ae af ah false _ A6.out).mono ?_); rintro e da ⟨rfl, hb⟩; refine ⟨_, rfl, ?_⟩; have z_ := bw2_ (kb_ a5) (kb_ a6) th_ hb; clear a5 a6 HB; obtain ⟨a5, a6, HB⟩ := z_; (try clear hb)))
   go_meet
   case rel => exact ⟨_, (true), tq_3, H', ⟨tq_12⟩, ⟨(kb_ a5)⟩, ⟨(kb_ a6)⟩, ⟨th_⟩⟩
  subst c7
  rw [if_pos rfl] at H
  obtain ⟨ck, A8, H⟩ := bd_ H
  by_cases c9 : ck = true
  rotate_left
  ·replace c9 := Bool.eq_false_iff.mpr c9
   subst c9
   rw [if_neg nf_] at H
   have H' := Aside0.mk H
   clear H
   obtain ⟨a9, aa⟩ := an2_ a7 a8
   have b2 := bb4_ a5.out
   go_wp2_with (first | ((with_reducible refine gate_callee (f := 48) rfl ?_); refine goesL_ (some 8) rfl rfl Tryz.func48 (by kernel_rfl) rfl #[.agg #[.int .i64 ag, .int .i64 ae, .int .i64 af, .int .i64 ah]] rfl tq_0 ?_; (with_reducible refine (impl_GeoOk.calls ag ae af ah true _ A6.out).mono ?_); rintro e db ⟨rfl, hb⟩; refine ⟨_, rfl, ?_⟩; have z_ := bw2_ (kb_ a5) (kb_ a6) th_ hb; clear a5 a6 HB; obtain ⟨a5, a6, HB⟩ := z_; (try clear hb); have b3 := bb3_ a6.out) | (go_at_call 49; (with_reducible refine (impl_within.calls ai 0 16777215 false _ A8.out).mono ?_); rintro e w' ⟨rfl, ⟨nd, rfl⟩⟩))
   go_meet
   case rel => exact ⟨_, (true), tq_3, H', ⟨tq_12⟩, ⟨(kb_ a5)⟩, ⟨(kb_ a6)⟩, ⟨th_⟩⟩
  subst c9
  rw [if_pos rfl] at H
  obtain ⟨cl, cm, H⟩ := bd_ H
  by_cases bl : cl = true
  rotate_left
  ·replace bl := Bool.eq_false_iff.mpr bl
   subst bl
   rw [if_neg nf_] at H
   have H' := Aside0.mk H
   clear H
   obtain ⟨a9, aa⟩ := an2_ a7 a8
   have b4 := bb4_ a5.out
   go_wp2_with (first | ((with_reducible refine gate_callee (f := 48) rfl ?_); refine goesL_ (some 8) rfl rfl Tryz.func48 (by kernel_rfl) rfl #[.agg #[.int .i64 ag, .int .i64 ae, .int .i64 af, .int .i64 ah]] rfl tq_0 ?_; (with_reducible refine (impl_GeoOk.calls ag ae af ah true _ A6.out).mono ?_); rintro e dc ⟨rfl, hb⟩; refine ⟨_, rfl, ?_⟩; have z_ := bw2_ (kb_ a5) (kb_ a6) th_ hb; clear a5 a6 HB; obtain ⟨a5, a6, HB⟩ := z_; (try clear hb); have b5 := bb3_ a6.out) | (go_at_call 49; (with_reducible refine (impl_within.calls ai 0 16777215 true _ A8.out).mono ?_); rintro e w' ⟨rfl, ⟨nd, rfl⟩⟩; have b6 := bb4_ a5.out) | (go_at_call 50; (with_reducible refine (impl_StatesOk.calls k _ _ ac ae false _ ?side1 ?side2 cm.out).mono ?_); (case side1 => exact tq_11); (case side2 => exact al.out); rintro e w' ⟨rfl, ⟨nd, rfl⟩⟩))
   go_meet
   case rel => exact ⟨_, (true), tq_3, H', ⟨tq_12⟩, ⟨(kb_ a5)⟩, ⟨(kb_ a6)⟩, ⟨th_⟩⟩
  subst bl
  rw [if_pos rfl] at H
  by_cases be : (aj.length : Int) = af
  rotate_left
  ·rw [if_neg be] at H
   have ak := beq_eq_false_iff_ne.mpr be
   have b0 := bne_iff_ne.mpr be
   (first | rw [ak] | (simp only [i64_w, i32_w]; rw [ak]) | skip)
   have H' := Aside0.mk H
   clear H
   obtain ⟨a9, aa⟩ := an2_ a7 a8
   have b7 := bb4_ a5.out
   go_wp2_with (first | ((with_reducible refine gate_callee (f := 48) rfl ?_); refine goesL_ (some 8) rfl rfl Tryz.func48 (by kernel_rfl) rfl #[.agg #[.int .i64 ag, .int .i64 ae, .int .i64 af, .int .i64 ah]] rfl tq_0 ?_; (with_reducible refine (impl_GeoOk.calls ag ae af ah true _ A6.out).mono ?_); rintro e dd ⟨rfl, hb⟩; refine ⟨_, rfl, ?_⟩; have z_ := bw2_ (kb_ a5) (kb_ a6) th_ hb; clear a5 a6 HB; obtain ⟨a5, a6, HB⟩ := z_; (try clear hb); have b8 := bb3_ a6.out) | (go_at_call 49; (with_reducible refine (impl_within.calls ai 0 16777215 true _ A8.out).mono ?_); rintro e w' ⟨rfl, ⟨nd, rfl⟩⟩; have b9 := bb4_ a5.out) | (go_at_call 50; (with_reducible refine (impl_StatesOk.calls k _ _ ac ae true _ ?side1 ?side2 cm.out).mono ?_); (case side1 => exact tq_11); (case side2 => exact al.out); rintro e w' ⟨rfl, ⟨nd, rfl⟩⟩))
   go_meet
   case rel => exact ⟨_, (true), tq_3, H', ⟨tq_12⟩, ⟨(kb_ a5)⟩, ⟨(kb_ a6)⟩, ⟨th_⟩⟩
  rw [if_pos be] at H
  have ak := beq_iff_eq.mpr be
  have b0 := bne_eq_false_iff_eq.mpr be
  clear be
  (first | rw [ak] | (simp only [i64_w, i32_w]; rw [ak]) | skip)
  obtain ⟨bs, d5, H⟩ := bd_ H
  have H' := Aside0.mk H
  clear H
  obtain ⟨a9, aa⟩ := an2_ a7 a8
  have ba := bb4_ a5.out
  go_wp2_with (first | ((with_reducible refine gate_callee (f := 48) rfl ?_); refine goesL_ (some 8) rfl rfl Tryz.func48 (by kernel_rfl) rfl #[.agg #[.int .i64 ag, .int .i64 ae, .int .i64 af, .int .i64 ah]] rfl tq_0 ?_; (with_reducible refine (impl_GeoOk.calls ag ae af ah true _ A6.out).mono ?_); rintro e de ⟨rfl, hb⟩; refine ⟨_, rfl, ?_⟩; have z_ := bw2_ (kb_ a5) (kb_ a6) th_ hb; clear a5 a6 HB; obtain ⟨a5, a6, HB⟩ := z_; (try clear hb); have bb := bb3_ a6.out) | (go_at_call 49; (with_reducible refine (impl_within.calls ai 0 16777215 true _ A8.out).mono ?_); rintro e w' ⟨rfl, ⟨nd, rfl⟩⟩; have bc := bb4_ a5.out) | (go_at_call 50; (with_reducible refine (impl_StatesOk.calls k _ _ ac ae true _ ?side1 ?side2 cm.out).mono ?_); (case side1 => exact tq_11); (case side2 => exact al.out); rintro e w' ⟨rfl, ⟨nd, rfl⟩⟩) | (go_at_call 51; (with_reducible refine (impl_areInodes.calls k ai _ _ ac _ _ aj bs _ ?side1 ?side2 ?side3 ?side4 d5.out).mono ?_); (case side1 => exact tq_11); (case side2 => exact al.out); (case side3 => exact tq_27); (case side4 => exact bd.out); rintro e df ⟨rfl, hb⟩; have z_ := bw2_ (kb_ a5) (kb_ a6) th_ hb; clear a5 a6 HB; obtain ⟨a5, a6, HB⟩ := z_; (try clear hb)))
  go_meet
  case rel => exact ⟨_, (!bs), tq_3, H', ⟨tq_12⟩, ⟨(kb_ a5)⟩, ⟨(kb_ a6)⟩, ⟨th_⟩⟩
 case rest =>
 clear ci
 try clear c1; try clear c2; try clear p2; try clear c3; try clear c4; try clear c7; try clear c9; try clear bl; try clear be; try clear ak; try clear b0; try clear cy; try clear cz; try clear d0; try clear d1; try clear d2; try clear d3; try clear ba; try clear bb; try clear bc; try clear b7; try clear b8; try clear b9; try clear b4; try clear b5; try clear b6; try clear b2; try clear b3; try clear b1; try clear ba; try clear bb; try clear bc; try clear b7; try clear b8; try clear b9; try clear b4; try clear b5; try clear b6; try clear b2; try clear b3; try clear b1
 obtain ⟨kq, az, rfl, HA, HJ2, a5, a6, HB⟩ := hcut
 cases kq with
 | zero => exact absurd HA.out (by simp [impl_PartOk.j0])
 | succ kj2 =>
 have H := HA.out
 clear HA
 simp only [impl_PartOk.j0] at H
 by_cases br : az = true
 ·subst br
  rw [if_pos rfl] at H
  obtain rfl := Option.some.inj H
  go_wp2
  go_ret
  exact ⟨tq_1, th_⟩
 replace br := Bool.eq_false_iff.mpr br
 subst br
 rw [if_neg nf_] at H
 have H' := Aside0.mk H
 clear H
 go_wp2
 go_loopg [37] kj2 (fun kq v37 w' => ∃ (ab : Int), v37 = .int .i64 ab ∧ Aside0 (impl_PartOk.l0 kq ab ag ae af ah ai ac aj = some r) ∧ Aside0 (kq ≤ kj2) ∧ Aside0 (w'.heap[am]? = some (.cells #[.int .i64 ag, .int .i64 ae, .int .i64 af, .int .i64 ah] 31 (0, 0))) ∧ Aside0 (w'.heap[ap]? = some (.cells #[.int .i64 ai, (.slice an ac.length ao), (.slice ar aj.length au)] 35 (0, 0))) ∧ Aside0 (Below w.heap.size w w'))
 case atStart => exact ⟨(0), tq_3, H', ⟨Nat.le_refl _⟩, ⟨(kb_ a5)⟩, ⟨(kb_ a6)⟩, ⟨th_⟩⟩
 case round =>
 clear H'
 try clear c1; try clear c2; try clear p2; try clear c3; try clear c4; try clear c7; try clear c9; try clear bl; try clear be; try clear ak; try clear b0; try clear cy; try clear cz; try clear d0; try clear d1; try clear d2; try clear d3; try clear br; try clear ba; try clear bb; try clear bc; try clear b7; try clear b8; try clear b9; try clear b4; try clear b5; try clear b6; try clear b2; try clear b3; try clear b1; try clear ba; try clear bb; try clear bc; try clear b7; try clear b8; try clear b9; try clear b4; try clear b5; try clear b6; try clear b2; try clear b3; try clear b1; try clear p2
 obtain ⟨ab, rfl, HA, HK2, a5, a6, HB⟩ := hrel
 cases gk with
 | zero => exact absurd HA.out (by simp [impl_PartOk.l0])
 | succ k2 =>
 have H := HA.out
 clear HA
 simp only [impl_PartOk.l0] at H
 by_cases bm : ab < 12
 rotate_left
 ·rw [if_neg bm] at H
  have bj := decide_eq_false bm
  clear bm
  obtain ⟨cn, d6, H⟩ := bd_ H
  obtain rfl := Option.some.inj H
  try go_wp2
  have z_ := dw2_ a5 a6 HB
  clear a5 a6 HB
  obtain ⟨a5, a6, HB⟩ := z_
  refine start_ (n := 8) (S := fun w' => w'.cell? ⟨ap, 0, none⟩ = some (.int .i64 ai) ∧ w'.cell? ⟨ap, 1, none⟩ = some (.slice an ac.length ao) ∧ w'.cell? ⟨ap, 2, none⟩ = some (.slice ar aj.length au) ∧ w'.cell? ⟨am, 0, none⟩ = some (.int .i64 ag) ∧ w'.cell? ⟨am, 1, none⟩ = some (.int .i64 ae) ∧ w'.cell? ⟨am, 2, none⟩ = some (.int .i64 af) ∧ w'.cell? ⟨am, 3, none⟩ = some (.int .i64 ah)) (ds := []) bq_0 (by kernel_rfl) rfl rfl (bc3_ a6.out (bk4_ a5.out)) (fun hHeld => ?_); refine with_tabW impl_PartOk.tab12 impl_PartOk.bits12 (fun HT_ HW_ => ?_)
  generalize wr.drew = dg at a5 a6 HB hHeld ⊢
  refine yr_ 0 58 bq_1 HT_ ?_
  refine yr_ 4 62 #[true, false, false, false, true, false, false, false] HT_ ?_
  refine tr_ 1 59 #[true, true, false, false, true, false, false, false] HT_ HW_ hHeld ?_
  refine tr_ 5 63 #[true, true, false, false, true, true, false, false] HT_ HW_ hHeld ?_
  refine one_ (i := 2) (N := some 60) #[true, true, true, false, true, true, false, false] rfl rfl (one_of HT_.out (by kernel_rfl)) (by decide) (fun K hK => ?_)
  refine goes_ Tryz.func53 (by kernel_rfl) rfl #[.slice an ac.length ao, .int .i64 2] (by rfl) rfl rfl tq_0 ?_
  with_reducible refine (impl_PagesWith.calls k2 _ _ ac 2 cn _ ?side1 ?side2 d6.out).mono ?_
  (case side1 => exact tq_10)
  (case side2 => exact al.out)
  rintro e dh ⟨v465, rfl, ho0, hb⟩
  refine ⟨_, rfl, ?_⟩
  have z_ := p_ (Kd.R_lower ho0 (below_size th_)) <| bw2_ (kb_ a5) (kb_ a6) th_ hb
  clear a5 a6 HB
  obtain ⟨HO466, a5, a6, HB⟩ := z_
  (try clear hb)
  (try clear ho0)
  obtain ⟨Ao64, d7, bu⟩ := Kd.R_slice HO466.out
  (first | subst bu | (injection bu with f1_ f2_ f3_; have f4_ := f1_.symm; have f5_ := f3_.symm; clear f1_ f2_ f3_; subst f4_; subst f5_))
  refine hK.out _ _ (bc3_ a6.out (bk4_ a5.out)) (fun hHeld => ?_)
  clear hK K
  refine nm_ (some 60) ?_
  refine yr_ 3 61 bq_2 HT_ ?_
  refine yr_ 6 64 bq_3 HT_ ?_
  refine yr_ 7 4 bq_4 HT_ ?_
  refine done_ (done_of HT_.out (by kernel_rfl)) ?_
  try go_wp2
  go_ret
  exact ⟨tq_1, th_⟩
 rw [if_pos bm] at H
 have bj := decide_eq_true bm
 clear bm
 have bn := Aside0.mk H
 clear H
 go_upto_region 7 with (fail)
 go_cut [51] (fun v51 wc => ∃ (kq : Nat) (av : Bool), v51 = .bool av ∧ Aside0 (impl_PartOk.j2 kq ab 0 ab av ag ae af ah ai ac aj = some r) ∧ Aside0 (kq ≤ k2) ∧ Aside0 (wc.heap[am]? = some (.cells #[.int .i64 ag, .int .i64 ae, .int .i64 af, .int .i64 ah] 31 (0, 0))) ∧ Aside0 (wc.heap[ap]? = some (.cells #[.int .i64 ai, (.slice an ac.length ao), (.slice ar aj.length au)] 35 (0, 0))) ∧ Aside0 (Below w.heap.size w wc))
 case first =>
  have H := bn.out
  clear bn
  by_cases bo : ab < ae
  rotate_left
  ·rw [if_neg bo] at H
   have aq := decide_eq_false bo
   clear bo
   (first | rw [aq] | (simp only [i64_w, i32_w]; rw [aq]) | skip)
   have H' := Aside0.mk H
   clear H
   obtain ⟨a9, aa⟩ := an2_ a7 a8
   have bv := bb4_ a5.out
   go_wp2
   go_meet
   case rel => exact ⟨_, (false), tq_3, H', ⟨tq_35⟩, ⟨(kb_ a5)⟩, ⟨(kb_ a6)⟩, ⟨th_⟩⟩
  rw [if_pos bo] at H
  have aq := decide_eq_true bo
  clear bo
  (first | rw [aq] | (simp only [i64_w, i32_w]; rw [aq]) | skip)
  obtain ⟨co, H⟩ := fc_ H
  have bw := decide_eq_true co
  clear co
  obtain ⟨cp, H⟩ := fc_ H
  have bx := decide_eq_true cp
  clear cp
  have H' := Aside0.mk H
  clear H
  obtain ⟨a9, aa⟩ := an2_ a7 a8
  have bz := bb4_ a5.out
  have ca := bb3_ a6.out
  have p467 : 0 ≤ (ab : Int) := of_decide_eq_true tq_2
  have q467 : ab < (ac.length : Int) := of_decide_eq_true tq_2
  obtain ⟨d4, cq, aw⟩ := Kd.at_int HR1_1.out ab p467 q467
  cases cq
  replace aw := hx_ HB.out aw
  replace p467 := eq_true p467
  replace q467 := eq_true q467
  go_wp2
  go_meet
  case rel => exact ⟨_, (((rd ac ab) == 2)), tq_3, H', ⟨tq_35⟩, ⟨(kb_ a5)⟩, ⟨(kb_ a6)⟩, ⟨th_⟩⟩
 case rest =>
 clear bn
 try clear c1; try clear c2; try clear p2; try clear c3; try clear c4; try clear p4; try clear q4; try clear hx4; try clear c7; try clear c9; try clear bl; try clear be; try clear ak; try clear b0; try clear cy; try clear cz; try clear d0; try clear d1; try clear d2; try clear d3; try clear br; try clear bm; try clear bj; try clear bo; try clear aq; try clear co; try clear bw; try clear cp; try clear bx; try clear di; try clear dj; try clear p46; try clear q46; try clear hx46; try clear ba; try clear bb; try clear bc; try clear b7; try clear b8; try clear b9; try clear b4; try clear b5; try clear b6; try clear b2; try clear b3; try clear b1; try clear bz; try clear ca; try clear bv; try clear ba; try clear bb; try clear bc; try clear b7; try clear b8; try clear b9; try clear b4; try clear b5; try clear b6; try clear b2; try clear b3; try clear b1; try clear bz; try clear ca; try clear bv; try clear aw; try clear p2; try clear p467; try clear q467
 obtain ⟨kq, av, rfl, HA, HJ38, a5, a6, HB⟩ := hcut
 cases kq with
 | zero => exact absurd HA.out (by simp [impl_PartOk.j2])
 | succ kj38 =>
 have H := HA.out
 clear HA
 simp only [impl_PartOk.j2] at H
 by_cases ch : av = true
 ·subst ch
  rw [if_pos rfl] at H
  obtain ⟨cb, d8, H⟩ := bd_ H
  have cc := Aside0.mk H
  clear H
  obtain ⟨aa, a9⟩ := an2_ a8 a7
  have cr := bb3_ a6.out
  go_upto_if 56 with (first | ((with_reducible refine gate_callee (f := 52) rfl ?_); refine goesL_ (some 54) rfl rfl Tryz.func52 (by kernel_rfl) rfl #[.agg #[.int .i64 ai, .slice an ac.length ao, .slice ar aj.length au], .int .i64 ab] rfl tq_0 ?_; (with_reducible refine (impl_UsersOf.calls kj38 ai _ _ ac _ _ aj ab cb _ ?side1 ?side2 ?side3 ?side4 d8.out).mono ?_); (case side1 => exact tq_10); (case side2 => exact al.out); (case side3 => exact tq_13); (case side4 => exact bd.out); rintro e dk ⟨rfl, hb⟩; refine ⟨_, rfl, ?_⟩; have z_ := bw2_ (kb_ a5) (kb_ a6) th_ hb; clear a5 a6 HB; obtain ⟨a5, a6, HB⟩ := z_; (try clear hb)))
  (try simp only [Act.put, List.setIfInBounds_toArray, List.set_cons_zero, List.set_cons_succ])
  (try clear a9 aa)
  (try clear cr)
  have H := cc.out
  clear cc
  by_cases bp : cb = 1
  rotate_left
  ·rw [if_neg bp] at H
   have ax := beq_eq_false_iff_ne.mpr bp
   have cd := bne_iff_ne.mpr bp
   (first | rw [ax] | (simp only [i64_w, i32_w]; rw [ax]) | skip)
   obtain rfl := Option.some.inj H
   go_wp2
   go_ret
   exact ⟨tq_1, th_⟩
  rw [if_pos bp] at H
  have ax := beq_iff_eq.mpr bp
  have cd := bne_eq_false_iff_eq.mpr bp
  clear bp
  (first | rw [ax] | (simp only [i64_w, i32_w]; rw [ax]) | skip)
  have H' := Aside0.mk H
  clear H
  go_wp2
  go_roundg kj38
  case measure => have := HJ2.out; have := HK2.out; have := HJ38.out; omega
  case rel => exact ⟨(wrap64 (ab + 1)), tq_3, H', ⟨(by have := HJ2.out; have := HK2.out; have := HJ38.out; omega)⟩, ⟨(kb_ a5)⟩, ⟨(kb_ a6)⟩, ⟨th_⟩⟩
 replace ch := Bool.eq_false_iff.mpr ch
 subst ch
 rw [if_neg nf_] at H
 obtain ⟨ce, d9, H⟩ := bd_ H
 have cf := Aside0.mk H
 clear H
 obtain ⟨aa, a9⟩ := an2_ a8 a7
 have ct := bb3_ a6.out
 go_upto_if 56 with (first | ((with_reducible refine gate_callee (f := 52) rfl ?_); refine goesL_ (some 54) rfl rfl Tryz.func52 (by kernel_rfl) rfl #[.agg #[.int .i64 ai, .slice an ac.length ao, .slice ar aj.length au], .int .i64 ab] rfl tq_0 ?_; (with_reducible refine (impl_UsersOf.calls kj38 ai _ _ ac _ _ aj ab ce _ ?side1 ?side2 ?side3 ?side4 d9.out).mono ?_); (case side1 => exact tq_10); (case side2 => exact al.out); (case side3 => exact tq_13); (case side4 => exact bd.out); rintro e dl ⟨rfl, hb⟩; refine ⟨_, rfl, ?_⟩; have z_ := bw2_ (kb_ a5) (kb_ a6) th_ hb; clear a5 a6 HB; obtain ⟨a5, a6, HB⟩ := z_; (try clear hb)))
 (try simp only [Act.put, List.setIfInBounds_toArray, List.set_cons_zero, List.set_cons_succ])
 (try clear a9 aa)
 (try clear ct)
 have H := cf.out
 clear cf
 by_cases bq : ce = 0
 rotate_left
 ·rw [if_neg bq] at H
  have ay := beq_eq_false_iff_ne.mpr bq
  have cg := bne_iff_ne.mpr bq
  (first | rw [ay] | (simp only [i64_w, i32_w]; rw [ay]) | skip)
  obtain rfl := Option.some.inj H
  go_wp2
  go_ret
  exact ⟨tq_1, th_⟩
 rw [if_pos bq] at H
 have ay := beq_iff_eq.mpr bq
 have cg := bne_eq_false_iff_eq.mpr bq
 clear bq
 (first | rw [ay] | (simp only [i64_w, i32_w]; rw [ay]) | skip)
 have H' := Aside0.mk H
 clear H
 go_wp2
 go_roundg kj38
 case measure => have := HJ2.out; have := HK2.out; have := HJ38.out; omega
 case rel => exact ⟨(wrap64 (ab + 1)), tq_3, H', ⟨(by have := HJ2.out; have := HK2.out; have := HJ38.out; omega)⟩, ⟨(kb_ a5)⟩, ⟨(kb_ a6)⟩, ⟨th_⟩⟩

end Go.Proofs.YtleoknilacjakaaGreat.PFnExactPartWrites
