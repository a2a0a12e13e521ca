/- Contracts of Go functions: each call returns what the Lean function beside it computes. Conditions: as each theorem states them. -/
import Derived.Test.YtleoknilacjakaaGreatPkFnExactChanged
import Derived.Test.YtleoknilacjakaaGreatPFnExactChangedx1
import Derived.Test.YtleoknilacjakaaGreatPFnExactChangedx17
import Derived.Test.YtleoknilacjakaaGreatPFnExactChangedx23
import Derived.Test.YtleoknilacjakaaGreatPFnExactChangedx19
namespace Go.Proofs.YtleoknilacjakaaGreat.PFnExactChanged
open Go.RowKit Go.Proofs.YtleoknilacjakaaGreatW.PrintWords Go.Proofs.YtleoknilacjakaaGreatW.PrintLast Go.Proofs.YtleoknilacjakaaGreatW.PrintMore
attribute [local go_sem] max2_int min2_int max_two min_two max_three min_three max_four min_four   -- for this text's walks alone
set_option linter.unusedVariables false
set_option linter.unusedSimpArgs false

/-! ### impl_PartOk: function 24 -/
mutual
def impl_PartOk.j0 : Nat → Bool → Int → Int → Int → Int → Int → List Int → List (S69) → Option (Bool)
 | 0, _, _, _, _, _, _, _, _ => none
 | k + 1, ac, a5, a6, a7, a8, a9, aa, ab => if ac = true then (some false) else (impl_PartOk.l0 k 0 a5 a6 a7 a8 a9 aa ab)
def impl_PartOk.l0 : Nat → Int → Int → Int → Int → Int → Int → List Int → List (S69) → Option (Bool)
 | 0, _, _, _, _, _, _, _, _ => none
 | k + 1, ac, a8, a6, a9, a7, aa, a5, ab => if ac < 12 then (if ac < a6 then (if 0 ≤ ac then (if ac < (a5.length : Int) then (impl_PartOk.j2 k ac 0 ac ((rd a5 ac) == 2) a8 a6 a9 a7 aa a5 ab) else (none)) else (none)) else (impl_PartOk.j2 k ac 0 ac false a8 a6 a9 a7 aa a5 ab)) else ((impl_PagesWith.f k a5 2).bind fun ae => (some (decide ((ae.length : Int) ≤ a7))))
def impl_PartOk.j2 : Nat → Int → Int → Int → Bool → Int → Int → Int → Int → Int → List Int → List (S69) → Option (Bool)
 | 0, _, _, _, _, _, _, _, _, _, _, _ => none
 | k + 1, x5, x6, af, ag, a8, a9, aa, ab, a5, a6, a7 => if ag = true then ((impl_UsersOf.f k a5 a6 a7 x5).bind fun ac => (if ac = 1 then (impl_PartOk.l0 k (wrap64 (af + 1)) a8 a9 aa ab a5 a6 a7) else (some false))) else ((impl_UsersOf.f k a5 a6 a7 x5).bind fun ae => (if ae = x6 then (impl_PartOk.l0 k (wrap64 (af + 1)) a8 a9 aa ab a5 a6 a7) else (some false)))
end
def impl_PartOk.f (k : Nat) (aa : Int) (a5 : Int) (a6 : Int) (ab : Int) (a7 : Int) (a8 : List Int) (a9 : List (S69)) : Option (Bool) := (impl_GeoOk.f aa a5 a6 ab).bind fun ac => (if ac = true then ((impl_within.f a7 0 16777215).bind fun ae => (if ae = true then ((impl_StatesOk.f k a8 a5).bind fun af => (if af = true then (if (a9.length : Int) = a6 then ((impl_areInodes.f k a7 a8 a9).bind fun ag => (impl_PartOk.j0 k (!ag) aa a5 a6 ab a7 a8 a9)) else (impl_PartOk.j0 k true aa a5 a6 ab a7 a8 a9)) else (impl_PartOk.j0 k true aa a5 a6 ab a7 a8 a9))) else (impl_PartOk.j0 k true aa a5 a6 ab a7 a8 a9))) else (impl_PartOk.j0 k true aa a5 a6 ab a7 a8 a9))
def impl_PartOk.T12 : Bool × List (List Nat × List Nat) := (true, [([], []), ([0], [0]), ([1], [1]), ([2], [2]), ([], []), ([4], [4]), ([3, 5], [3, 5]), ([6, 2, 0, 1, 2, 3, 4, 5, 6], [6])])
def impl_PartOk.B12 : List Nat := [0, 1, 3, 7, 0, 16, 63, 127]
theorem impl_PartOk.tab12 : rtab .any (opsOf Tryz.f24 12) = impl_PartOk.T12 := by kernel_rfl
theorem impl_PartOk.bits12 : waitsOk impl_PartOk.T12.2 impl_PartOk.B12 = true := by kernel_rfl
set_option maxHeartbeats 8000000 in
set_option maxRecDepth 100000 in
theorem impl_PartOk.calls (k : Nat) (ag : Int) (ae : Int) (af : Int) (ah : Int) (ai : Int) (an : Option Addr) (ao : Nat) (ac : List Int) (ar : Option Addr) (au : Nat) (aj : List (S69)) (r : Bool) (w : World) (bf : Kd.C (Kd.int .i64) w an ac.length ac) (bg : ac.length ≤ ao) (bh : Kd.C k69 w ar aj.length aj) (bi : aj.length ≤ au) (h : impl_PartOk.f k ag ae af ah ai ac aj = some r) :
  Calls Tryz.prog 24 #[.agg #[.int .i64 ag, .int .i64 ae, .int .i64 af, .int .i64 ah], .agg #[.int .i64 ai, .slice an ac.length ao, .slice ar aj.length au]] w fun e w' => e = .returned (.bool r) ∧ Below w.heap.size w w' := by
 have hu31 := Tryz.underlying31
 have hu35 := Tryz.underlying35
 have HR1_1 := Aside0.mk bf
 have al := Aside0.mk bg
 clear bf bg
 have HR1_2 := Aside0.mk bh
 have bd := Aside0.mk bi
 clear bh bi
 have HB := Aside0.mk (Below.refl w.heap.size w)
 unfold impl_PartOk.f at h
 have H := h
 clear h
 have ci := Aside0.mk H
 clear H
 go_enter Tryz.func24, Tryz.ntmps24
 go_upto_region 1 with (first | ((with_reducible refine gate_dst (N := 2) rfl ?_); (try (refine gate_guard (by rfl) ?_; dsimp only)); refine be_ 2 (cs := #[.int .i64 ag, .int .i64 ae, .int .i64 af, .int .i64 ah]) 31 ?_; intro am hg w4 hbox hb; have z_ := bx0_ th_ hb hbox hg; clear HB; obtain ⟨HB, a5, cu, cv⟩ := z_; clear hb hbox hg) | ((with_reducible refine gate_dst (N := 3) rfl ?_); (try (refine gate_guard (by rfl) ?_; dsimp only)); refine be_ 3 (cs := #[.int .i64 ai, .slice an ac.length ao, .slice ar aj.length au]) 35 ?_; intro ap hg w5 hbox hb; have z_ := bx1_ (kb_ a5) th_ hb hbox hg; clear a5 HB; obtain ⟨a5, HB, a6, cw, cx, a7, a8⟩ := z_; clear hb hbox hg))
 (try simp only [Act.put, List.setIfInBounds_toArray, List.set_cons_zero, List.set_cons_succ])
 go_cut [36] (fun v36 wc => ∃ (kq : Nat) (az : Bool), v36 = .bool az ∧ Aside0 (impl_PartOk.j0 kq az ag ae af ah ai ac aj = some r) ∧ Aside0 (kq ≤ k) ∧ Aside0 (wc.heap[am]? = some (.cells #[.int .i64 ag, .int .i64 ae, .int .i64 af, .int .i64 ah] 31 (0, 0))) ∧ Aside0 (wc.heap[ap]? = some (.cells #[.int .i64 ai, (.slice an ac.length ao), (.slice ar aj.length au)] 35 (0, 0))) ∧ Aside0 (Below w.heap.size w wc))
 case first =>
  have H := ci.out
  clear ci
  obtain ⟨cj, A6, H⟩ := bd_ H
  by_cases c7 : cj = true
  rotate_left
  ·replace c7 := Bool.eq_false_iff.mpr c7
   subst c7
   rw [if_neg nf_] at H
   have H' := Aside0.mk H
   clear H
   obtain ⟨a9, aa⟩ := an2_ a7 a8
   have b1 := bb4_ a5.out
   go_wp2_with (first | ((with_reducible refine gate_callee (f := 48) rfl ?_); refine goesL_ (some 8) rfl rfl Tryz.func48 (by kernel_rfl) rfl #[.agg #[.int .i64 ag, .int .i64 ae, .int .i64 af, .int .i64 ah]] rfl tq_0 ?_; (with_reducible refine (impl_GeoOk.calls ag ae af ah false _ A6.out).mono ?_); rintro e da ⟨rfl, hb⟩; refine ⟨_, rfl, ?_⟩; have z_ := bw2_ (kb_ a5) (kb_ a6) th_ hb; clear a5 a6 HB; obtain ⟨a5, a6, HB⟩ := z_; (try clear hb)))
   go_meet
   case rel => exact ⟨_, (true), tq_3, H', ⟨tq_18⟩, ⟨(kb_ a5)⟩, ⟨(kb_ a6)⟩, ⟨th_⟩⟩
  subst c7
  rw [if_pos rfl] at H
  obtain ⟨ck, A8, H⟩ := bd_ H
  by_cases c9 : ck = true
  rotate_left
  ·replace c9 := Bool.eq_false_iff.mpr c9
   subst c9
   rw [if_neg nf_] at H
   have H' := Aside0.mk H
   clear H
   obtain ⟨a9, aa⟩ := an2_ a7 a8
   have b2 := bb4_ a5.out
   go_wp2_with (first | ((with_reducible refine gate_callee (f := 48) rfl ?_); refine goesL_ (some 8) rfl rfl Tryz.func48 (by kernel_rfl) rfl #[.agg #[.int .i64 ag, .int .i64 ae, .int .i64 af, .int .i64 ah]] rfl tq_0 ?_; (with_reducible refine (impl_GeoOk.calls ag ae af ah true _ A6.out).mono ?_); rintro e db ⟨rfl, hb⟩; refine ⟨_, rfl, ?_⟩; have z_ := bw2_ (kb_ a5) (kb_ a6) th_ hb; clear a5 a6 HB; obtain ⟨a5, a6, HB⟩ := z_; (try clear hb); have b3 := bb3_ a6.out) | (go_at_call 49; (with_reducible refine (impl_within.calls ai 0 16777215 false _ A8.out).mono ?_); rintro e w' ⟨rfl, ⟨nd, rfl⟩⟩))
   go_meet
   case rel => exact ⟨_, (true), tq_3, H', ⟨tq_18⟩, ⟨(kb_ a5)⟩, ⟨(kb_ a6)⟩, ⟨th_⟩⟩
  subst c9
  rw [if_pos rfl] at H
  obtain ⟨cl, cm, H⟩ := bd_ H
  by_cases bl : cl = true
  rotate_left
  ·replace bl := Bool.eq_false_iff.mpr bl
   subst bl
   rw [if_neg nf_] at H
   have H' := Aside0.mk H
   clear H
   obtain ⟨a9, aa⟩ := an2_ a7 a8
   have b4 := bb4_ a5.out
   go_wp2_with (first | ((with_reducible refine gate_callee (f := 48) rfl ?_); refine goesL_ (some 8) rfl rfl Tryz.func48 (by kernel_rfl) rfl #[.agg #[.int .i64 ag, .int .i64 ae, .int .i64 af, .int .i64 ah]] rfl tq_0 ?_; (with_reducible refine (impl_GeoOk.calls ag ae af ah true _ A6.out).mono ?_); rintro e dc ⟨rfl, hb⟩; refine ⟨_, rfl, ?_⟩; have z_ := bw2_ (kb_ a5) (kb_ a6) th_ hb; clear a5 a6 HB; obtain ⟨a5, a6, HB⟩ := z_; (try clear hb); have b5 := bb3_ a6.out) | (go_at_call 49; (with_reducible refine (impl_within.calls ai 0 16777215 true _ A8.out).mono ?_); rintro e w' ⟨rfl, ⟨nd, rfl⟩⟩; have b6 := bb4_ a5.out) | (go_at_call 50; (with_reducible refine (impl_StatesOk.calls k _ _ ac ae false _ ?side1 ?side2 cm.out).mono ?_); (case side1 => exact tq_16); (case side2 => exact al.out); rintro e w' ⟨rfl, ⟨nd, rfl⟩⟩))
   go_meet
   case rel => exact ⟨_, (true), tq_3, H', ⟨tq_18⟩, ⟨(kb_ a5)⟩, ⟨(kb_ a6)⟩, ⟨th_⟩⟩
  subst bl
  rw [if_pos rfl] at H
  by_cases be : (aj.length : Int) = af
  rotate_left
  ·rw [if_neg be] at H
   have ak := beq_eq_false_iff_ne.mpr be
   have b0 := bne_iff_ne.mpr be
   (first | rw [ak] | (simp only [i64_w, i32_w]; rw [ak]) | skip)
   have H' := Aside0.mk H
   clear H
   obtain ⟨a9, aa⟩ := an2_ a7 a8
   have b7 := bb4_ a5.out
   go_wp2_with (first | ((with_reducible refine gate_callee (f := 48) rfl ?_); refine goesL_ (some 8) rfl rfl Tryz.func48 (by kernel_rfl) rfl #[.agg #[.int .i64 ag, .int .i64 ae, .int .i64 af, .int .i64 ah]] rfl tq_0 ?_; (with_reducible refine (impl_GeoOk.calls ag ae af ah true _ A6.out).mono ?_); rintro e dd ⟨rfl, hb⟩; refine ⟨_, rfl, ?_⟩; have z_ := bw2_ (kb_ a5) (kb_ a6) th_ hb; clear a5 a6 HB; obtain ⟨a5, a6, HB⟩ := z_; (try clear hb); have b8 := bb3_ a6.out) | (go_at_call 49; (with_reducible refine (impl_within.calls ai 0 16777215 true _ A8.out).mono ?_); rintro e w' ⟨rfl, ⟨nd, rfl⟩⟩; have b9 := bb4_ a5.out) | (go_at_call 50; (with_reducible refine (impl_StatesOk.calls k _ _ ac ae true _ ?side1 ?side2 cm.out).mono ?_); (case side1 => exact tq_16); (case side2 => exact al.out); rintro e w' ⟨rfl, ⟨nd, rfl⟩⟩))
   go_meet
   case rel => exact ⟨_, (true), tq_3, H', ⟨tq_18⟩, ⟨(kb_ a5)⟩, ⟨(kb_ a6)⟩, ⟨th_⟩⟩
  rw [if_pos be] at H
  have ak := beq_iff_eq.mpr be
  have b0 := bne_eq_false_iff_eq.mpr be
  clear be
  (first | rw [ak] | (simp only [i64_w, i32_w]; rw [ak]) | skip)
  obtain ⟨bs, d5, H⟩ := bd_ H
  have H' := Aside0.mk H
  clear H
  obtain ⟨a9, aa⟩ := an2_ a7 a8
  have ba := bb4_ a5.out
  go_wp2_with (first | ((with_reducible refine gate_callee (f := 48) rfl ?_); refine goesL_ (some 8) rfl rfl Tryz.func48 (by kernel_rfl) rfl #[.agg #[.int .i64 ag, .int .i64 ae, .int .i64 af, .int .i64 ah]] rfl tq_0 ?_; (with_reducible refine (impl_GeoOk.calls ag ae af ah true _ A6.out).mono ?_); rintro e de ⟨rfl, hb⟩; refine ⟨_, rfl, ?_⟩; have z_ := bw2_ (kb_ a5) (kb_ a6) th_ hb; clear a5 a6 HB; obtain ⟨a5, a6, HB⟩ := z_; (try clear hb); have bb := bb3_ a6.out) | (go_at_call 49; (with_reducible refine (impl_within.calls ai 0 16777215 true _ A8.out).mono ?_); rintro e w' ⟨rfl, ⟨nd, rfl⟩⟩; have bc := bb4_ a5.out) | (go_at_call 50; (with_reducible refine (impl_StatesOk.calls k _ _ ac ae true _ ?side1 ?side2 cm.out).mono ?_); (case side1 => exact tq_16); (case side2 => exact al.out); rintro e w' ⟨rfl, ⟨nd, rfl⟩⟩) | (go_at_call 51; (with_reducible refine (impl_areInodes.calls k ai _ _ ac _ _ aj bs _ ?side1 ?side2 ?side3 ?side4 d5.out).mono ?_); (case side1 => exact tq_16); (case side2 => exact al.out); (case side3 => exact tq_42); (case side4 => exact bd.out); rintro e df ⟨rfl, hb⟩; have z_ := bw2_ (kb_ a5) (kb_ a6) th_ hb; clear a5 a6 HB; obtain ⟨a5, a6, HB⟩ := z_; (try clear hb)))
  go_meet
  case rel => exact ⟨_, (!bs), tq_3, H', ⟨tq_18⟩, ⟨(kb_ a5)⟩, ⟨(kb_ a6)⟩, ⟨th_⟩⟩
 case rest =>
 clear ci
 try clear c1; try clear c2; try clear p2; try clear c3; try clear c4; try clear c7; try clear c9; try clear bl; try clear be; try clear ak; try clear b0; try clear cy; try clear cz; try clear d0; try clear d1; try clear d2; try clear d3; try clear ba; try clear bb; try clear bc; try clear b7; try clear b8; try clear b9; try clear b4; try clear b5; try clear b6; try clear b2; try clear b3; try clear b1; try clear ba; try clear bb; try clear bc; try clear b7; try clear b8; try clear b9; try clear b4; try clear b5; try clear b6; try clear b2; try clear b3; try clear b1
 obtain ⟨kq, az, rfl, HA, HJ2, a5, a6, HB⟩ := hcut
 cases kq with
 | zero => exact absurd HA.out (by simp [impl_PartOk.j0])
 | succ kj2 =>
 have H := HA.out
 clear HA
 simp only [impl_PartOk.j0] at H
 by_cases br : az = true
 ·subst br
  rw [if_pos rfl] at H
  obtain rfl := Option.some.inj H
  go_wp2
  go_ret
  exact ⟨tq_1, th_⟩
 replace br := Bool.eq_false_iff.mpr br
 subst br
 rw [if_neg nf_] at H
 have H' := Aside0.mk H
 clear H
 go_wp2
 go_loopg [37] kj2 (fun kq v37 w' => ∃ (ab : Int), v37 = .int .i64 ab ∧ Aside0 (impl_PartOk.l0 kq ab ag ae af ah ai ac aj = some r) ∧ Aside0 (kq ≤ kj2) ∧ Aside0 (w'.heap[am]? = some (.cells #[.int .i64 ag, .int .i64 ae, .int .i64 af, .int .i64 ah] 31 (0, 0))) ∧ Aside0 (w'.heap[ap]? = some (.cells #[.int .i64 ai, (.slice an ac.length ao), (.slice ar aj.length au)] 35 (0, 0))) ∧ Aside0 (Below w.heap.size w w'))
 case atStart => exact ⟨(0), tq_3, H', ⟨Nat.le_refl _⟩, ⟨(kb_ a5)⟩, ⟨(kb_ a6)⟩, ⟨th_⟩⟩
 case round =>
 clear H'
 try clear c1; try clear c2; try clear p2; try clear c3; try clear c4; try clear c7; try clear c9; try clear bl; try clear be; try clear ak; try clear b0; try clear cy; try clear cz; try clear d0; try clear d1; try clear d2; try clear d3; try clear br; try clear ba; try clear bb; try clear bc; try clear b7; try clear b8; try clear b9; try clear b4; try clear b5; try clear b6; try clear b2; try clear b3; try clear b1; try clear ba; try clear bb; try clear bc; try clear b7; try clear b8; try clear b9; try clear b4; try clear b5; try clear b6; try clear b2; try clear b3; try clear b1; try clear p2
 obtain ⟨ab, rfl, HA, HK2, a5, a6, HB⟩ := hrel
 cases gk with
 | zero => exact absurd HA.out (by simp [impl_PartOk.l0])
 | succ k2 =>
 have H := HA.out
 clear HA
 simp only [impl_PartOk.l0] at H
 by_cases bm : ab < 12
 rotate_left
 ·rw [if_neg bm] at H
  have bj := decide_eq_false bm
  clear bm
  obtain ⟨cn, d6, H⟩ := bd_ H
  obtain rfl := Option.some.inj H
  try go_wp2
  have z_ := dw2_ a5 a6 HB
  clear a5 a6 HB
  obtain ⟨a5, a6, HB⟩ := z_
  refine start_ (n := 8) (S := fun w' => w'.cell? ⟨ap, 0, none⟩ = some (.int .i64 ai) ∧ w'.cell? ⟨ap, 1, none⟩ = some (.slice an ac.length ao) ∧ w'.cell? ⟨ap, 2, none⟩ = some (.slice ar aj.length au) ∧ w'.cell? ⟨am, 0, none⟩ = some (.int .i64 ag) ∧ w'.cell? ⟨am, 1, none⟩ = some (.int .i64 ae) ∧ w'.cell? ⟨am, 2, none⟩ = some (.int .i64 af) ∧ w'.cell? ⟨am, 3, none⟩ = some (.int .i64 ah)) (ds := []) bq_0 (by kernel_rfl) rfl rfl (bc3_ a6.out (bk4_ a5.out)) (fun hHeld => ?_); refine with_tabW impl_PartOk.tab12 impl_PartOk.bits12 (fun HT_ HW_ => ?_)
  generalize wr.drew = dg at a5 a6 HB hHeld ⊢
  refine yr_ 0 58 bq_1 HT_ ?_
  refine yr_ 4 62 #[true, false, false, false, true, false, false, false] HT_ ?_
  refine tr_ 1 59 #[true, true, false, false, true, false, false, false] HT_ HW_ hHeld ?_
  refine tr_ 5 63 #[true, true, false, false, true, true, false, false] HT_ HW_ hHeld ?_
  refine one_ (i := 2) (N := some 60) #[true, true, true, false, true, true, false, false] rfl rfl (one_of HT_.out (by kernel_rfl)) (by decide) (fun K hK => ?_)
  refine goes_ Tryz.func53 (by kernel_rfl) rfl #[.slice an ac.length ao, .int .i64 2] (by rfl) rfl rfl tq_0 ?_
  with_reducible refine (impl_PagesWith.calls k2 _ _ ac 2 cn _ ?side1 ?side2 d6.out).mono ?_
  (case side1 => exact tq_13)
  (case side2 => exact al.out)
  rintro e dh ⟨v538, rfl, ho0, hb⟩
  refine ⟨_, rfl, ?_⟩
  have z_ := p_ (Kd.R_lower ho0 (below_size th_)) <| bw2_ (kb_ a5) (kb_ a6) th_ hb
  clear a5 a6 HB
  obtain ⟨HO539, a5, a6, HB⟩ := z_
  (try clear hb)
  (try clear ho0)
  obtain ⟨Ao64, d7, bu⟩ := Kd.R_slice HO539.out
  (first | subst bu | (injection bu with f1_ f2_ f3_; have f4_ := f1_.symm; have f5_ := f3_.symm; clear f1_ f2_ f3_; subst f4_; subst f5_))
  refine hK.out _ _ (bc3_ a6.out (bk4_ a5.out)) (fun hHeld => ?_)
  clear hK K
  refine nm_ (some 60) ?_
  refine yr_ 3 61 bq_2 HT_ ?_
  refine yr_ 6 64 bq_3 HT_ ?_
  refine yr_ 7 4 bq_4 HT_ ?_
  refine done_ (done_of HT_.out (by kernel_rfl)) ?_
  try go_wp2
  go_ret
  exact ⟨tq_1, th_⟩
 rw [if_pos bm] at H
 have bj := decide_eq_true bm
 clear bm
 have bn := Aside0.mk H
 clear H
 go_upto_region 7 with (fail)
 go_cut [51] (fun v51 wc => ∃ (kq : Nat) (av : Bool), v51 = .bool av ∧ Aside0 (impl_PartOk.j2 kq ab 0 ab av ag ae af ah ai ac aj = some r) ∧ Aside0 (kq ≤ k2) ∧ Aside0 (wc.heap[am]? = some (.cells #[.int .i64 ag, .int .i64 ae, .int .i64 af, .int .i64 ah] 31 (0, 0))) ∧ Aside0 (wc.heap[ap]? = some (.cells #[.int .i64 ai, (.slice an ac.length ao), (.slice ar aj.length au)] 35 (0, 0))) ∧ Aside0 (Below w.heap.size w wc))
 case first =>
  have H := bn.out
  clear bn
  by_cases bo : ab < ae
  rotate_left
  ·rw [if_neg bo] at H
   have aq := decide_eq_false bo
   clear bo
   (first | rw [aq] | (simp only [i64_w, i32_w]; rw [aq]) | skip)
   have H' := Aside0.mk H
   clear H
   obtain ⟨a9, aa⟩ := an2_ a7 a8
   have bv := bb4_ a5.out
   go_wp2
   go_meet
   case rel => exact ⟨_, (false), tq_3, H', ⟨tq_49⟩, ⟨(kb_ a5)⟩, ⟨(kb_ a6)⟩, ⟨th_⟩⟩
  rw [if_pos bo] at H
  have aq := decide_eq_true bo
  clear bo
  (first | rw [aq] | (simp only [i64_w, i32_w]; rw [aq]) | skip)
  obtain ⟨co, H⟩ := fc_ H
  have bw := decide_eq_true co
  clear co
  obtain ⟨cp, H⟩ := fc_ H
  have bx := decide_eq_true cp
  clear cp
  have H' := Aside0.mk H
  clear H
  obtain ⟨a9, aa⟩ := an2_ a7 a8
  have bz := bb4_ a5.out
  have ca := bb3_ a6.out
  have p540 : 0 ≤ (ab : Int) := of_decide_eq_true tq_2
  have q540 : ab < (ac.length : Int) := of_decide_eq_true tq_2
  obtain ⟨d4, cq, aw⟩ := Kd.at_int HR1_1.out ab p540 q540
  cases cq
  replace aw := hx_ HB.out aw
  replace p540 := eq_true p540
  replace q540 := eq_true q540
  go_wp2
  go_meet
  case rel => exact ⟨_, (((rd ac ab) == 2)), tq_3, H', ⟨tq_49⟩, ⟨(kb_ a5)⟩, ⟨(kb_ a6)⟩, ⟨th_⟩⟩
 case rest =>
 clear bn
 try clear c1; try clear c2; try clear p2; try clear c3; try clear c4; try clear p5; try clear q5; try clear hx5; try clear c7; try clear c9; try clear bl; try clear be; try clear ak; try clear b0; try clear cy; try clear cz; try clear d0; try clear d1; try clear d2; try clear d3; try clear br; try clear bm; try clear bj; try clear bo; try clear aq; try clear co; try clear bw; try clear cp; try clear bx; try clear di; try clear dj; try clear ba; try clear bb; try clear bc; try clear b7; try clear b8; try clear b9; try clear b4; try clear b5; try clear b6; try clear b2; try clear b3; try clear b1; try clear bz; try clear ca; try clear bv; try clear ba; try clear bb; try clear bc; try clear b7; try clear b8; try clear b9; try clear b4; try clear b5; try clear b6; try clear b2; try clear b3; try clear b1; try clear bz; try clear ca; try clear bv; try clear aw; try clear p2; try clear p540; try clear q540
 obtain ⟨kq, av, rfl, HA, HJ38, a5, a6, HB⟩ := hcut
 cases kq with
 | zero => exact absurd HA.out (by simp [impl_PartOk.j2])
 | succ kj38 =>
 have H := HA.out
 clear HA
 simp only [impl_PartOk.j2] at H
 by_cases ch : av = true
 ·subst ch
  rw [if_pos rfl] at H
  obtain ⟨cb, d8, H⟩ := bd_ H
  have cc := Aside0.mk H
  clear H
  obtain ⟨aa, a9⟩ := an2_ a8 a7
  have cr := bb3_ a6.out
  go_upto_if 56 with (first | ((with_reducible refine gate_callee (f := 52) rfl ?_); refine goesL_ (some 54) rfl rfl Tryz.func52 (by kernel_rfl) rfl #[.agg #[.int .i64 ai, .slice an ac.length ao, .slice ar aj.length au], .int .i64 ab] rfl tq_0 ?_; (with_reducible refine (impl_UsersOf.calls kj38 ai _ _ ac _ _ aj ab cb _ ?side1 ?side2 ?side3 ?side4 d8.out).mono ?_); (case side1 => exact tq_13); (case side2 => exact al.out); (case side3 => exact tq_20); (case side4 => exact bd.out); rintro e dk ⟨rfl, hb⟩; refine ⟨_, rfl, ?_⟩; have z_ := bw2_ (kb_ a5) (kb_ a6) th_ hb; clear a5 a6 HB; obtain ⟨a5, a6, HB⟩ := z_; (try clear hb)))
  (try simp only [Act.put, List.setIfInBounds_toArray, List.set_cons_zero, List.set_cons_succ])
  (try clear a9 aa)
  (try clear cr)
  have H := cc.out
  clear cc
  by_cases bp : cb = 1
  rotate_left
  ·rw [if_neg bp] at H
   have ax := beq_eq_false_iff_ne.mpr bp
   have cd := bne_iff_ne.mpr bp
   (first | rw [ax] | (simp only [i64_w, i32_w]; rw [ax]) | skip)
   obtain rfl := Option.some.inj H
   go_wp2
   go_ret
   exact ⟨tq_1, th_⟩
  rw [if_pos bp] at H
  have ax := beq_iff_eq.mpr bp
  have cd := bne_eq_false_iff_eq.mpr bp
  clear bp
  (first | rw [ax] | (simp only [i64_w, i32_w]; rw [ax]) | skip)
  have H' := Aside0.mk H
  clear H
  go_wp2
  go_roundg kj38
  case measure => have := HJ2.out; have := HK2.out; have := HJ38.out; omega
  case rel => exact ⟨(wrap64 (ab + 1)), tq_3, H', ⟨(by have := HJ2.out; have := HK2.out; have := HJ38.out; omega)⟩, ⟨(kb_ a5)⟩, ⟨(kb_ a6)⟩, ⟨th_⟩⟩
 replace ch := Bool.eq_false_iff.mpr ch
 subst ch
 rw [if_neg nf_] at H
 obtain ⟨ce, d9, H⟩ := bd_ H
 have cf := Aside0.mk H
 clear H
 obtain ⟨aa, a9⟩ := an2_ a8 a7
 have ct := bb3_ a6.out
 go_upto_if 56 with (first | ((with_reducible refine gate_callee (f := 52) rfl ?_); refine goesL_ (some 54) rfl rfl Tryz.func52 (by kernel_rfl) rfl #[.agg #[.int .i64 ai, .slice an ac.length ao, .slice ar aj.length au], .int .i64 ab] rfl tq_0 ?_; (with_reducible refine (impl_UsersOf.calls kj38 ai _ _ ac _ _ aj ab ce _ ?side1 ?side2 ?side3 ?side4 d9.out).mono ?_); (case side1 => exact tq_13); (case side2 => exact al.out); (case side3 => exact tq_20); (case side4 => exact bd.out); rintro e dl ⟨rfl, hb⟩; refine ⟨_, rfl, ?_⟩; have z_ := bw2_ (kb_ a5) (kb_ a6) th_ hb; clear a5 a6 HB; obtain ⟨a5, a6, HB⟩ := z_; (try clear hb)))
 (try simp only [Act.put, List.setIfInBounds_toArray, List.set_cons_zero, List.set_cons_succ])
 (try clear a9 aa)
 (try clear ct)
 have H := cf.out
 clear cf
 by_cases bq : ce = 0
 rotate_left
 ·rw [if_neg bq] at H
  have ay := beq_eq_false_iff_ne.mpr bq
  have cg := bne_iff_ne.mpr bq
  (first | rw [ay] | (simp only [i64_w, i32_w]; rw [ay]) | skip)
  obtain rfl := Option.some.inj H
  go_wp2
  go_ret
  exact ⟨tq_1, th_⟩
 rw [if_pos bq] at H
 have ay := beq_iff_eq.mpr bq
 have cg := bne_eq_false_iff_eq.mpr bq
 clear bq
 (first | rw [ay] | (simp only [i64_w, i32_w]; rw [ay]) | skip)
 have H' := Aside0.mk H
 clear H
 go_wp2
 go_roundg kj38
 case measure => have := HJ2.out; have := HK2.out; have := HJ38.out; omega
 case rel => exact ⟨(wrap64 (ab + 1)), tq_3, H', ⟨(by have := HJ2.out; have := HK2.out; have := HJ38.out; omega)⟩, ⟨(kb_ a5)⟩, ⟨(kb_ a6)⟩, ⟨th_⟩⟩

/-! ### impl_isTenant: function 25 -/
def impl_isTenant.f (a5 : Int) (a6 : Int) (a7 : Int) (a8 : Int) (a1 : Int) : Option (Bool) := (impl_GeoOk.f a5 a6 a7 a8).bind fun a9 => (if a9 = true then ((impl_within.f a1 0 (wrap64 (a5 - 1))).bind fun aa => (some aa)) else (some false))
set_option maxHeartbeats 8000000 in
set_option maxRecDepth 100000 in
theorem impl_isTenant.calls (a6 : Int) (a7 : Int) (a8 : Int) (a9 : Int) (a1 : Int) (r : Bool) (w : World) (h : impl_isTenant.f a6 a7 a8 a9 a1 = some r) :
  Calls Tryz.prog 25 #[.agg #[.int .i64 a6, .int .i64 a7, .int .i64 a8, .int .i64 a9], .int .i64 a1] w fun e w' => e = .returned (.bool r) ∧ Below w.heap.size w w' := by
 have hu31 := Tryz.underlying31
 have HB := Aside0.mk (Below.refl w.heap.size w)
 unfold impl_isTenant.f at h
 have H := h
 clear h
 obtain ⟨ae, A3, H⟩ := bd_ H
 by_cases c4 : ae = true
 rotate_left
 ·replace c4 := Bool.eq_false_iff.mpr c4
  subst c4
  rw [if_neg nf_] at H
  obtain rfl := Option.some.inj H
  go_enter Tryz.func25, Tryz.ntmps25
  go_wp2_with (first | ((with_reducible refine gate_dst (N := 2) rfl ?_); refine be_ 2 (cs := #[.int .i64 a6, .int .i64 a7, .int .i64 a8, .int .i64 a9]) 31 ?_; intro aa hg ah hbox hb; have z_ := bx0_ th_ hb hbox hg; clear HB; obtain ⟨HB, a5, ab, ac⟩ := z_; clear hb hbox hg; have ag := bb4_ a5.out) | ((with_reducible refine gate_callee (f := 48) rfl ?_); refine goesL_ (some 6) rfl rfl Tryz.func48 (by kernel_rfl) rfl #[.agg #[.int .i64 a6, .int .i64 a7, .int .i64 a8, .int .i64 a9]] rfl tq_0 ?_; (with_reducible refine (impl_GeoOk.calls a6 a7 a8 a9 false _ A3.out).mono ?_); rintro e ai ⟨rfl, hb⟩; refine ⟨_, rfl, ?_⟩; have z_ := bw1_ (kb_ a5) th_ hb; clear a5 HB; obtain ⟨a5, HB⟩ := z_; (try clear hb)))
  go_ret
  exact ⟨tq_1, th_⟩
 subst c4
 rw [if_pos rfl] at H
 obtain ⟨af, A5, H⟩ := bd_ H
 obtain rfl := Option.some.inj H
 go_enter Tryz.func25, Tryz.ntmps25
 go_wp2_with (first | ((with_reducible refine gate_dst (N := 2) rfl ?_); refine be_ 2 (cs := #[.int .i64 a6, .int .i64 a7, .int .i64 a8, .int .i64 a9]) 31 ?_; intro aa hg w6 hbox hb; have z_ := bx0_ th_ hb hbox hg; clear HB; obtain ⟨HB, a5, ab, ac⟩ := z_; clear hb hbox hg; have aj := bb4_ a5.out) | ((with_reducible refine gate_callee (f := 48) rfl ?_); refine goesL_ (some 6) rfl rfl Tryz.func48 (by kernel_rfl) rfl #[.agg #[.int .i64 a6, .int .i64 a7, .int .i64 a8, .int .i64 a9]] rfl tq_0 ?_; (with_reducible refine (impl_GeoOk.calls a6 a7 a8 a9 true _ A3.out).mono ?_); rintro e w8 ⟨rfl, hb⟩; refine ⟨_, rfl, ?_⟩; have z_ := bw1_ (kb_ a5) th_ hb; clear a5 HB; obtain ⟨a5, HB⟩ := z_; (try clear hb); have ak := bb4_ a5.out) | (go_at_call 49; (with_reducible refine (impl_within.calls a1 0 (wrap64 (a6 - 1)) af _ A5.out).mono ?_); rintro e w' ⟨rfl, ⟨nd, rfl⟩⟩))
 go_ret
 exact ⟨tq_1, th_⟩

/-! ### impl_wordsOf: function 80 -/
def impl_wordsOf.l0 : Nat → ByteArray → List ByteArray → Int → Option (List ByteArray)
 | 0, _, _, _ => none
 | k + 1, x0, x3, x4 => if x4 < (x0.size : Int) then (if 0 ≤ x4 then (if x4 ≤ (mn (wrap64 (x4 + 8)) (x0.size : Int)) then (if (mn (wrap64 (x4 + 8)) (x0.size : Int)) ≤ (x0.size : Int) then ((impl_padded.f (x0.extract (x4 : Int).toNat ((mn (wrap64 (x4 + 8)) (x0.size : Int)) : Int).toNat) 8).bind fun a5 => (if x3.length < 8796093022208 then (impl_wordsOf.l0 k x0 (x3 ++ [a5]) (wrap64 (x4 + 8))) else (none))) else (none)) else (none)) else (none)) else (some x3)
def impl_wordsOf.f (k : Nat) (a0 : ByteArray) : Option (List ByteArray) := impl_wordsOf.l0 k a0 (([] : List ByteArray)) 0
set_option maxHeartbeats 8000000 in
set_option maxRecDepth 100000 in
theorem impl_wordsOf.calls (k : Nat) (a0 : ByteArray) (r : List ByteArray) (w : World) (h : impl_wordsOf.f k a0 = some r) :
  Calls Tryz.prog 80 #[.string a0] w fun e w' => ∃ v0_ : Value, e = .returned (v0_) ∧ Kd.R Kd.string 9 w' w.heap.size (fun _ => True) v0_ r ∧ Below w.heap.size w w' := by
 have HB := Aside0.mk (Below.refl w.heap.size w)
 unfold impl_wordsOf.f at h
 have H := h
 clear h
 obtain ⟨a9, hy546⟩ : ∃ y_ : List ByteArray, y_ = (([] : List ByteArray)) := ⟨_, rfl⟩
 replace H : (impl_wordsOf.l0 k a0 a9 0) = some r := by first | (rw [hy546]; with_reducible exact H) | (have H2_ := (Option.bind_some _ _).symm.trans H; rw [hy546]; with_reducible exact H2_) | (have H2_ := (Option.bind_some _ _).symm.trans H; with_reducible exact H2_) | with_reducible exact H | (rw [hy546]; exact H) | exact H
 have Ny546 := Aside0.mk hy546
 clear hy546
 have H' := Aside0.mk H
 clear H
 go_enter Tryz.func80, Tryz.ntmps80
 go_wp2_with (first | ((with_reducible refine gate_dst (N := 5) rfl ?_); refine Kd.R_lit Kd.string _ 9 ?hg (N := 5) ?hd (xs := ([] : List ByteArray)) (inner := []) (ok := fun _ => True) (okp := fun _ => True) ?hr ?hp (fun _ hk => hk) trivial (Below.refl _ _) (Nat.le_refl _) (by simp) ?_; (case hd => rfl); (case hg => rfl); (case hr => first | (go_simp; done) | (go_simp; rfl)); (case hp => exact (Reps.none _ _)); intro v547 w2 ho3 hb hg_ hnew_; clear hg_ hnew_; (first | rw [← Ny546.out] at ho3 | (simp only [Int.reduceToNat] at ho3; rw [← Ny546.out] at ho3)); have z_ := p_ (Kd.R_lower ho3 (below_size th_)) <| a_ (below_step th_ hb); clear HB; obtain ⟨HO548, HB⟩ := z_; clear hb ho3))
 go_loopg [3, 4] k (fun kq v3 v4 w' => ∃ (a6 : List ByteArray) (a5 : Int), v4 = .int .i64 a5 ∧ Aside0 (impl_wordsOf.l0 kq a0 a6 a5 = some r) ∧ Aside0 (kq ≤ k) ∧ Aside0 (Kd.R Kd.string 9 w' w.heap.size (fun _ => True) v3 a6) ∧ Aside0 (Below w.heap.size w w'))
 case atStart => exact ⟨(a9), (0), tq_3, H', ⟨Nat.le_refl _⟩, ⟨(raR_ HO548)⟩, ⟨th_⟩⟩
 case round =>
 clear H'
 try clear p2
 obtain ⟨a6, a5, rfl, HA, HK1, a7, HB⟩ := hrel
 cases gk with
 | zero => exact absurd HA.out (by simp [impl_wordsOf.l0])
 | succ k1 =>
 have H := HA.out
 clear HA
 simp only [impl_wordsOf.l0] at H
 by_cases c4 : a5 < (a0.size : Int)
 rotate_left
 ·rw [if_neg c4] at H
  have ab := decide_eq_false c4
  clear c4
  obtain rfl := Option.some.inj H
  go_wp2
  go_ret
  exact ⟨_, tq_1, (raR_ a7), th_⟩
 rw [if_pos c4] at H
 have ab := decide_eq_true c4
 clear c4
 obtain ⟨ji5, hji5⟩ : ∃ j_ : Int, (mn (wrap64 (a5 + 8)) (a0.size : Int)) = j_ := ⟨_, rfl⟩
 replace H : (if 0 ≤ a5 then (if a5 ≤ (ji5) then (if (ji5) ≤ (a0.size : Int) then ((impl_padded.f (a0.extract (a5 : Int).toNat ((ji5) : Int).toNat) 8).bind fun a8 => (if a6.length < 8796093022208 then (impl_wordsOf.l0 k1 a0 (a6 ++ [a8]) (wrap64 (a5 + 8))) else (none))) else (none)) else (none)) else (none)) = some r := by first | (rw [hji5] at H; exact H) | (simp only [hji5] at H ⊢; exact H)
 have hji5_ : (if (a0.size : Int) < (wrap64 (a5 + 8)) then (a0.size : Int) else (wrap64 (a5 + 8))) = ji5 := hji5
 obtain ⟨c6, H⟩ := fc_ H
 have ae := eq_true c6
 have af := decide_eq_true c6
 clear c6
 obtain ⟨c7, H⟩ := fc_ H
 have ag := eq_true c7
 have ah := decide_eq_true c7
 clear c7
 obtain ⟨c8, H⟩ := fc_ H
 have ai := eq_true c8
 have aj := decide_eq_true c8
 clear c8
 obtain ⟨a8, A9, H⟩ := bd_ H
 obtain ⟨ac, H⟩ := fc_ H
 have LMc10 := Aside0.mk ac
 clear ac
 obtain ⟨aa, hy550⟩ : ∃ y_ : List ByteArray, y_ = (a6 ++ [a8]) := ⟨_, rfl⟩
 replace H : (impl_wordsOf.l0 k1 a0 aa (wrap64 (a5 + 8))) = some r := by first | (rw [hy550]; with_reducible exact H) | (have H2_ := (Option.bind_some _ _).symm.trans H; rw [hy550]; with_reducible exact H2_) | (have H2_ := (Option.bind_some _ _).symm.trans H; with_reducible exact H2_) | with_reducible exact H | (rw [hy550]; exact H) | exact H
 have Ny550 := Aside0.mk hy550
 clear hy550
 have H' := Aside0.mk H
 clear H
 go_wp2_with (first | ((with_reducible refine gate_callee (f := 81) rfl ?_); refine goesL_ (some 21) rfl rfl Tryz.func81 (by kernel_rfl) rfl #[.string (a0.extract (a5 : Int).toNat ((ji5) : Int).toNat), .int .i64 8] rfl (by (try simp only [List.map_toArray, List.map_cons, List.map_nil]); first | done | (simp only [hji5]; rfl) | rfl | (simp only [List.length_drop, List.length_take]; rfl)) ?_; (with_reducible refine (impl_padded.calls (a0.extract (a5 : Int).toNat ((ji5) : Int).toNat) 8 a8 _ A9.out).mono ?_); rintro e ak ⟨rfl, hb⟩; refine ⟨_, rfl, ?_⟩; have z_ := p_ (Kd.R_below (raR_ a7) hb) <| a_ (below_step th_ hb); clear a7 HB; obtain ⟨a7, HB⟩ := z_; (try clear hb)) | ((with_reducible refine gate_builtin (b := .append) (xs := #[.tmp 12, .tmp 22]) rfl ?_); at_builtin; refine Kd.R_append Kd.string (w0 := w) w.heap.size rfl (.tmp 12) (.tmp 22) 75 9 (.string ⟨#[]⟩) 16 rfl Tryz.underlying75 info9 rfl (by decide) (by omega) u3 a6 a8 [.string a8] (fun _ => True) (fun _ => False) rfl rfl ?aP (fun _ hk => hk.elim) ?aF ?aO ?aB ?aS ?aL ?_; (case aP => exact rfl); (case aB => exact th_); (case aF => exact (fun _ _ => trivial)); (case aO => exact (raR_ a7)); (case aS => exact (below_size th_)); (case aL => have := LMc10.out; omega); intro v551 al ho hb hg hat; rw [← Ny550.out] at ho; have z_ := p_ (hb) <| a_ (ho); clear HB a7; obtain ⟨HB, HO552⟩ := z_; clear ho hb hg hat))
 go_roundg k1
 case measure => have := HK1.out; omega
 case rel => exact ⟨(aa), (wrap64 (a5 + 8)), tq_3, H', ⟨tq_22⟩, ⟨(raR_ HO552)⟩, ⟨th_⟩⟩

/-! ### impl_StatesWords: function 54 -/
def impl_StatesWords.l0 : Nat → List Int → List Int → Int → Int → Option (List ByteArray)
 | 0, _, _, _, _ => none
 | k + 1, x3, a6, a9, a5 => if a5 < a9 then (if 0 ≤ a5 then (if a5 < (a6.length : Int) then (if x3.length < 140737488355328 then (impl_StatesWords.l0 k (x3 ++ [(rd a6 a5) % 256]) a6 a9 (wrap64 (a5 + 1))) else (none)) else (none)) else (none)) else ((impl_padded.f (strOfNums x3) 16).bind fun a7 => ((impl_wordsOf.f k a7).bind fun a8 => (some a8)))
def impl_StatesWords.f (k : Nat) (l0 : List Int) : Option (List ByteArray) := (impl_StatesOk.f k l0 (l0.length : Int)).bind fun a5 => (if a5 = true then (impl_StatesWords.l0 k (([] : List Int)) l0 (l0.length : Int) 0) else (some ([] : List ByteArray)))
set_option maxHeartbeats 8000000 in
set_option maxRecDepth 100000 in
theorem impl_StatesWords.calls (k : Nat) (A0 : Option Addr) (c0 : Nat) (l0 : List Int) (r : List ByteArray) (w : World) (hr0 : Kd.C (Kd.int .i64) w A0 l0.length l0) (hc0 : l0.length ≤ c0) (h : impl_StatesWords.f k l0 = some r) :
  Calls Tryz.prog 54 #[.slice A0 l0.length c0] w fun e w' => ∃ v0_ : Value, e = .returned (v0_) ∧ Kd.R Kd.string 9 w' w.heap.size (fun _ => True) v0_ r ∧ Below w.heap.size w w' := by
 have HR0 := Aside0.mk hr0
 have ak := Aside0.mk hc0
 clear hr0 hc0
 have HB := Aside0.mk (Below.refl w.heap.size w)
 unfold impl_StatesWords.f at h
 have H := h
 clear h
 obtain ⟨ab, A2, H⟩ := bd_ H
 have ah := Aside0.mk H
 clear H
 go_enter Tryz.func54, Tryz.ntmps54
 go_upto_if 10 with (first | ((with_reducible refine gate_callee (f := 50) rfl ?_); refine goesL_ (some 9) rfl rfl Tryz.func50 (by kernel_rfl) rfl #[.slice A0 l0.length c0, .int .i64 (l0.length : Int)] rfl tq_0 ?_; (with_reducible refine (impl_StatesOk.calls k _ _ l0 (l0.length : Int) ab _ ?side1 ?side2 A2.out).mono ?_); (case side1 => exact tq_33); (case side2 => exact ak.out); rintro e w' ⟨rfl, ⟨nd, rfl⟩⟩; refine ⟨_, rfl, ?_⟩))
 (try simp only [Act.put, List.setIfInBounds_toArray, List.set_cons_zero, List.set_cons_succ])
 have H := ah.out
 clear ah
 by_cases c4 : ab = true
 rotate_left
 ·replace c4 := Bool.eq_false_iff.mpr c4
  subst c4
  rw [if_neg nf_] at H
  obtain rfl := Option.some.inj H
  go_wp2
  go_ret
  exact ⟨_, tq_1, tq_26, th_⟩
 subst c4
 rw [if_pos rfl] at H
 obtain ⟨ac, hy554⟩ : ∃ y_ : List Int, y_ = (([] : List Int)) := ⟨_, rfl⟩
 replace H : (impl_StatesWords.l0 k ac l0 (l0.length : Int) 0) = some r := by first | (rw [hy554]; with_reducible exact H) | (have H2_ := (Option.bind_some _ _).symm.trans H; rw [hy554]; with_reducible exact H2_) | (have H2_ := (Option.bind_some _ _).symm.trans H; with_reducible exact H2_) | with_reducible exact H | (rw [hy554]; exact H) | exact H
 have Ny554 := Aside0.mk hy554
 clear hy554
 have H' := Aside0.mk H
 clear H
 go_wp2_with (first | ((with_reducible refine gate_dst (N := 11) rfl ?_); refine Kd.R_lit (Kd.int .u8) _ 5 ?hg (N := 11) ?hd (xs := ([] : List Int)) (inner := []) (ok := fun _ => True) (okp := fun _ => True) ?hr ?hp (fun _ hk => hk) trivial (Below.refl _ _) (Nat.le_refl _) (by simp) ?_; (case hd => rfl); (case hg => rfl); (case hr => first | (go_simp; done) | (go_simp; rfl)); (case hp => exact (Reps.none _ _)); intro v555 w5 ho6 hb hg_ hnew_; clear hg_ hnew_; (first | rw [← Ny554.out] at ho6 | (simp only [Int.reduceToNat] at ho6; rw [← Ny554.out] at ho6)); have z_ := p_ (Kd.R_lower ho6 (below_size th_)) <| a_ (below_step th_ hb); clear HB; obtain ⟨HO556, HB⟩ := z_; clear hb ho6))
 go_loopg [3, 14] k (fun kq v3 v14 w' => ∃ (a7 : List Int) (a5 : Int), v14 = .int .i64 a5 ∧ Aside0 (impl_StatesWords.l0 kq a7 l0 (l0.length : Int) a5 = some r) ∧ Aside0 (kq ≤ k) ∧ Aside0 (Kd.R (Kd.int .u8) 5 w' w.heap.size (fun _ => True) v3 a7) ∧ Aside0 (Below w.heap.size w w'))
 case atStart => exact ⟨(ac), (0), tq_3, H', ⟨Nat.le_refl _⟩, ⟨(raR_ HO556)⟩, ⟨th_⟩⟩
 case round =>
 clear H'
 try clear p2; try clear c4; try clear c5
 obtain ⟨a7, a5, rfl, HA, HK1, a6, HB⟩ := hrel
 cases gk with
 | zero => exact absurd HA.out (by simp [impl_StatesWords.l0])
 | succ k1 =>
 have H := HA.out
 clear HA
 simp only [impl_StatesWords.l0] at H
 by_cases c7 : a5 < (l0.length : Int)
 rotate_left
 ·rw [if_neg c7] at H
  have a9 := decide_eq_false c7
  clear c7
  (first | rw [a9] | (simp only [i64_w, i32_w]; rw [a9]) | skip)
  obtain ⟨aa, al, H⟩ := bd_ H
  obtain ⟨af, am, H⟩ := bd_ H
  obtain rfl := Option.some.inj H
  have hcv14 := own_string (P := Tryz.prog) Tryz.underlying83 Tryz.underlying5 Tryz.underlying9 (Kd.own_of_R a6.out)
  go_wp2_with (first | ((with_reducible refine gate_callee (f := 81) rfl ?_); refine goesL_ (some 26) rfl rfl Tryz.func81 (by kernel_rfl) rfl #[.string (strOfNums a7), .int .i64 16] rfl tq_0 ?_; (with_reducible refine (impl_padded.calls (strOfNums a7) 16 aa _ al.out).mono ?_); rintro e ap ⟨rfl, hb⟩; refine ⟨_, rfl, ?_⟩; have z_ := p_ (Kd.R_below (raR_ a6) hb) <| a_ (below_step th_ hb); clear a6 HB; obtain ⟨a6, HB⟩ := z_; (try clear hb); (try clear hk)) | ((with_reducible refine gate_callee (f := 80) rfl ?_); refine goesL_ (some 27) rfl rfl Tryz.func80 (by kernel_rfl) rfl #[.string aa] rfl tq_0 ?_; (with_reducible refine (impl_wordsOf.calls k1 aa af _ am.out).mono ?_); rintro e aq ⟨v563, rfl, ho0, hb⟩; refine ⟨_, rfl, ?_⟩; have z_ := p_ (Kd.R_below (raR_ a6) hb) <| p_ (Kd.R_lower ho0 (below_size th_)) <| a_ (below_step th_ hb); clear a6 HB; obtain ⟨a6, HO564, HB⟩ := z_; (try clear hb); (try clear hk); (try clear ho0)))
  go_ret
  exact ⟨_, tq_1, (raR_ HO564), th_⟩
 rw [if_pos c7] at H
 have a9 := decide_eq_true c7
 clear c7
 (first | rw [a9] | (simp only [i64_w, i32_w]; rw [a9]) | skip)
 obtain ⟨c8, H⟩ := fc_ H
 have an := decide_eq_true c8
 clear c8
 obtain ⟨c9, H⟩ := fc_ H
 have ao := decide_eq_true c9
 clear c9
 obtain ⟨ai, H⟩ := fc_ H
 have LMc10 := Aside0.mk ai
 clear ai
 obtain ⟨ae, hy558⟩ : ∃ y_ : List Int, y_ = (a7 ++ [(rd l0 a5) % 256]) := ⟨_, rfl⟩
 replace H : (impl_StatesWords.l0 k1 ae l0 (l0.length : Int) (wrap64 (a5 + 1))) = some r := by first | (rw [hy558]; with_reducible exact H) | (have H2_ := (Option.bind_some _ _).symm.trans H; rw [hy558]; with_reducible exact H2_) | (have H2_ := (Option.bind_some _ _).symm.trans H; with_reducible exact H2_) | with_reducible exact H | (rw [hy558]; exact H) | exact H
 have Ny558 := Aside0.mk hy558
 clear hy558
 have H' := Aside0.mk H
 clear H
 have p557 : 0 ≤ (a5 : Int) := of_decide_eq_true tq_2
 have q557 : a5 < (l0.length : Int) := of_decide_eq_true tq_2
 obtain ⟨aj, ag, a8⟩ := Kd.at_int HR0.out a5 p557 q557
 cases ag
 replace a8 := hx_ HB.out a8
 replace p557 := eq_true p557
 replace q557 := eq_true q557
 go_wp2_with (first | ((with_reducible refine gate_builtin (b := .append) (xs := #[.tmp 18, .tmp 21]) rfl ?_); at_builtin; refine Kd.R_append (Kd.int .u8) (w0 := w) w.heap.size rfl (.tmp 18) (.tmp 21) 83 5 (.int .u8 0) 1 rfl Tryz.underlying83 info5 rfl (by decide) (by omega) u3 a7 ((rd l0 a5) % 256) [.int .u8 ((rd l0 a5) % 256)] (fun _ => True) (fun _ => False) rfl rfl ?aP (fun _ hk => hk.elim) ?aF ?aO ?aB ?aS ?aL ?_; (case aP => exact rfl); (case aB => exact th_); (case aF => exact (fun _ _ => trivial)); (case aO => exact (raR_ a6)); (case aS => exact (below_size th_)); (case aL => have := LMc10.out; omega); intro v559 ar ho hb hg hat; rw [← Ny558.out] at ho; have z_ := p_ (hb) <| a_ (ho); clear HB a6; obtain ⟨HB, HO560⟩ := z_; clear ho hb hg hat))
 go_roundg k1
 case measure => have := HK1.out; omega
 case rel => exact ⟨(ae), (wrap64 (a5 + 1)), tq_3, H', ⟨tq_22⟩, ⟨(raR_ HO560)⟩, ⟨th_⟩⟩

/-! ### impl_Geo_partWords: function 102 -/
def impl_Geo_partWords.f (a7 : Int) (a5 : Int) (a6 : Int) (a8 : Int) : Option (Int) := some (wrap64 ((wrap64 (38 + (wrap64 (8 * a6)))) + (wrap64 (4 * a5))))
set_option maxHeartbeats 8000000 in
set_option maxRecDepth 100000 in
theorem impl_Geo_partWords.calls (a5 : Int) (a6 : Int) (a7 : Int) (a8 : Int) (r : Int) (w : World) (h : impl_Geo_partWords.f a5 a6 a7 a8 = some r) :
  Calls Tryz.prog 102 #[.agg #[.int .i64 a5, .int .i64 a6, .int .i64 a7, .int .i64 a8]] w fun e w' => e = .returned (.int .i64 r) ∧ Below w.heap.size w w' := by
 have hu31 := Tryz.underlying31
 have HB := Aside0.mk (Below.refl w.heap.size w)
 unfold impl_Geo_partWords.f at h
 have H := h
 clear h
 obtain rfl := Option.some.inj H
 go_enter Tryz.func102, Tryz.ntmps102
 go_wp2_with (first | ((with_reducible refine gate_dst (N := 1) rfl ?_); refine be_ 1 (cs := #[.int .i64 a5, .int .i64 a6, .int .i64 a7, .int .i64 a8]) 31 ?_; intro aa hg w2 hbox hb; have z_ := bx0_ th_ hb hbox hg; clear HB; obtain ⟨HB, a9, ab, ac⟩ := z_; clear hb hbox hg; have ae := bb4_ a9.out))
 go_ret
 exact ⟨tq_1, th_⟩

/-! ### impl_inPart: function 82 -/
def impl_inPart.f (a5 : Int) (a6 : Int) (a7 : Int) (a8 : Int) (a1 : Int) (a2 : Bool) (a3 : Int) : Option (Int) := (impl_isTenant.f a5 a6 a7 a8 a1).bind fun a9 => (if a9 = true then (if a2 = true then ((impl_Geo_partWords.f a5 a6 a7 a8).bind fun aa => (some (wrap64 ((wrap64 (a1 * aa)) + a3)))) else (some (-1))) else (some (-1)))
set_option maxHeartbeats 8000000 in
set_option maxRecDepth 100000 in
theorem impl_inPart.calls (a6 : Int) (a7 : Int) (a8 : Int) (a9 : Int) (a1 : Int) (a2 : Bool) (a3 : Int) (r : Int) (w : World) (h : impl_inPart.f a6 a7 a8 a9 a1 a2 a3 = some r) :
  Calls Tryz.prog 82 #[.agg #[.int .i64 a6, .int .i64 a7, .int .i64 a8, .int .i64 a9], .int .i64 a1, .bool a2, .int .i64 a3] w fun e w' => e = .returned (.int .i64 r) ∧ Below w.heap.size w w' := by
 have hu31 := Tryz.underlying31
 have HB := Aside0.mk (Below.refl w.heap.size w)
 unfold impl_inPart.f at h
 have H := h
 clear h
 obtain ⟨af, A5, H⟩ := bd_ H
 by_cases c6 : af = true
 rotate_left
 ·replace c6 := Bool.eq_false_iff.mpr c6
  subst c6
  rw [if_neg nf_] at H
  obtain rfl := Option.some.inj H
  go_enter Tryz.func82, Tryz.ntmps82
  go_wp2_with (first | ((with_reducible refine gate_dst (N := 4) rfl ?_); refine be_ 4 (cs := #[.int .i64 a6, .int .i64 a7, .int .i64 a8, .int .i64 a9]) 31 ?_; intro aa hg am hbox hb; have z_ := bx0_ th_ hb hbox hg; clear HB; obtain ⟨HB, a5, ab, ac⟩ := z_; clear hb hbox hg; have ai := bb4_ a5.out) | ((with_reducible refine gate_callee (f := 25) rfl ?_); refine goesL_ (some 11) rfl rfl Tryz.func25 (by kernel_rfl) rfl #[.agg #[.int .i64 a6, .int .i64 a7, .int .i64 a8, .int .i64 a9], .int .i64 a1] rfl tq_0 ?_; (with_reducible refine (impl_isTenant.calls a6 a7 a8 a9 a1 false _ A5.out).mono ?_); rintro e an ⟨rfl, hb⟩; refine ⟨_, rfl, ?_⟩; have z_ := bw1_ (kb_ a5) th_ hb; clear a5 HB; obtain ⟨a5, HB⟩ := z_; (try clear hb)))
  go_ret
  exact ⟨tq_1, th_⟩
 subst c6
 rw [if_pos rfl] at H
 have ah := Aside0.mk H
 clear H
 go_enter Tryz.func82, Tryz.ntmps82
 go_upto_if 16 with (first | ((with_reducible refine gate_dst (N := 4) rfl ?_); refine be_ 4 (cs := #[.int .i64 a6, .int .i64 a7, .int .i64 a8, .int .i64 a9]) 31 ?_; intro aa hg w8 hbox hb; have z_ := bx0_ th_ hb hbox hg; clear HB; obtain ⟨HB, a5, ab, ac⟩ := z_; clear hb hbox hg; have aj := bb4_ a5.out) | ((with_reducible refine gate_callee (f := 25) rfl ?_); refine goesL_ (some 11) rfl rfl Tryz.func25 (by kernel_rfl) rfl #[.agg #[.int .i64 a6, .int .i64 a7, .int .i64 a8, .int .i64 a9], .int .i64 a1] rfl tq_0 ?_; (with_reducible refine (impl_isTenant.calls a6 a7 a8 a9 a1 true _ A5.out).mono ?_); rintro e ao ⟨rfl, hb⟩; refine ⟨_, rfl, ?_⟩; have z_ := bw1_ (kb_ a5) th_ hb; clear a5 HB; obtain ⟨a5, HB⟩ := z_; (try clear hb)))
 (try simp only [Act.put, List.setIfInBounds_toArray, List.set_cons_zero, List.set_cons_succ])
 (try clear aj)
 have H := ah.out
 clear ah
 by_cases ae : a2 = true
 rotate_left
 ·replace ae := Bool.eq_false_iff.mpr ae
  subst ae
  rw [if_neg nf_] at H
  obtain rfl := Option.some.inj H
  go_wp2
  go_ret
  exact ⟨tq_1, th_⟩
 subst ae
 rw [if_pos rfl] at H
 obtain ⟨ag, ak, H⟩ := bd_ H
 obtain rfl := Option.some.inj H
 have al := bb4_ a5.out
 go_wp2_with (first | ((with_reducible refine gate_callee (f := 102) rfl ?_); refine goesL_ (some 19) rfl rfl Tryz.func102 (by kernel_rfl) rfl #[.agg #[.int .i64 a6, .int .i64 a7, .int .i64 a8, .int .i64 a9]] rfl tq_0 ?_; (with_reducible refine (impl_Geo_partWords.calls a6 a7 a8 a9 ag _ ak.out).mono ?_); rintro e ap ⟨rfl, hb⟩; refine ⟨_, rfl, ?_⟩; have z_ := bw1_ (kb_ a5) th_ hb; clear a5 HB; obtain ⟨a5, HB⟩ := z_; (try clear hb)))
 go_ret
 exact ⟨tq_1, th_⟩

/-! ### impl_statesAt: function 55 -/
def impl_statesAt.f (a5 : Int) (a6 : Int) (a7 : Int) (a8 : Int) (a1 : Int) : Option (Int) := (impl_inPart.f a5 a6 a7 a8 a1 true 36).bind fun a9 => (some a9)
set_option maxHeartbeats 8000000 in
set_option maxRecDepth 100000 in
theorem impl_statesAt.calls (a6 : Int) (a7 : Int) (a8 : Int) (a9 : Int) (a1 : Int) (r : Int) (w : World) (h : impl_statesAt.f a6 a7 a8 a9 a1 = some r) :
  Calls Tryz.prog 55 #[.agg #[.int .i64 a6, .int .i64 a7, .int .i64 a8, .int .i64 a9], .int .i64 a1] w fun e w' => e = .returned (.int .i64 r) ∧ Below w.heap.size w w' := by
 have hu31 := Tryz.underlying31
 have HB := Aside0.mk (Below.refl w.heap.size w)
 unfold impl_statesAt.f at h
 have H := h
 clear h
 obtain ⟨aa, A3, H⟩ := bd_ H
 obtain rfl := Option.some.inj H
 go_enter Tryz.func55, Tryz.ntmps55
 go_wp2_with (first | ((with_reducible refine gate_dst (N := 2) rfl ?_); refine be_ 2 (cs := #[.int .i64 a6, .int .i64 a7, .int .i64 a8, .int .i64 a9]) 31 ?_; intro ab hg w4 hbox hb; have z_ := bx0_ th_ hb hbox hg; clear HB; obtain ⟨HB, a5, ac, ae⟩ := z_; clear hb hbox hg; have af := bb4_ a5.out) | ((with_reducible refine gate_callee (f := 82) rfl ?_); refine goesL_ (some 7) rfl rfl Tryz.func82 (by kernel_rfl) rfl #[.agg #[.int .i64 a6, .int .i64 a7, .int .i64 a8, .int .i64 a9], .int .i64 a1, .bool true, .int .i64 36] rfl tq_0 ?_; (with_reducible refine (impl_inPart.calls a6 a7 a8 a9 a1 true 36 aa _ A3.out).mono ?_); rintro e w6 ⟨rfl, hb⟩; refine ⟨_, rfl, ?_⟩; have z_ := bw1_ (kb_ a5) th_ hb; clear a5 HB; obtain ⟨a5, HB⟩ := z_; (try clear hb)))
 go_ret
 exact ⟨tq_1, th_⟩

/-! ### impl_zeroWord: function 87 -/
def impl_zeroWord.f  : Option (ByteArray) := (impl_padded.f (⟨#[]⟩ : ByteArray) 8).bind fun a5 => (some a5)
set_option maxHeartbeats 8000000 in
set_option maxRecDepth 100000 in
theorem impl_zeroWord.calls  (r : ByteArray) (w : World) (h : impl_zeroWord.f  = some r) :
  Calls Tryz.prog 87 #[] w fun e w' => e = .returned (.string r) ∧ Below w.heap.size w w' := by
 have HB := Aside0.mk (Below.refl w.heap.size w)
 unfold impl_zeroWord.f at h
 have H := h
 clear h
 obtain ⟨a5, A1, H⟩ := bd_ H
 obtain rfl := Option.some.inj H
 go_enter Tryz.func87, Tryz.ntmps87
 go_wp2_with (first | ((with_reducible refine gate_callee (f := 81) rfl ?_); refine goesL_ (some 1) rfl rfl Tryz.func81 (by kernel_rfl) rfl #[.string (⟨#[]⟩ : ByteArray), .int .i64 8] rfl tq_0 ?_; (with_reducible refine (impl_padded.calls (⟨#[]⟩ : ByteArray) 8 a5 _ A1.out).mono ?_); rintro e w2 ⟨rfl, hb⟩; refine ⟨_, rfl, ?_⟩; have n0_ := Aside0.mk (below_step th_ hb); clear HB; have HB := n0_; clear n0_; (try clear hb)))
 go_ret
 exact ⟨tq_1, th_⟩

end Go.Proofs.YtleoknilacjakaaGreat.PFnExactChanged
