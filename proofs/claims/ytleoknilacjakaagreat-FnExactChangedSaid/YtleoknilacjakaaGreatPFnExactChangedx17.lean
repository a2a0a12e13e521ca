/- Contracts of Go functions: each call returns what the Lean function beside it computes. Conditions: as each theorem states them. -/
import Derived.Test.YtleoknilacjakaaGreatPkFnExactChanged
import Derived.Test.YtleoknilacjakaaGreatPFnExactChangedx1
import Derived.Test.YtleoknilacjakaaGreatPFnExactChangedx16
namespace Go.Proofs.YtleoknilacjakaaGreat.PFnExactChanged
open Go.RowKit Go.Proofs.YtleoknilacjakaaGreatW.PrintWords Go.Proofs.YtleoknilacjakaaGreatW.PrintLast Go.Proofs.YtleoknilacjakaaGreatW.PrintMore
attribute [local go_sem] max2_int min2_int max_two min_two max_three min_three max_four min_four   -- for this text's walks alone
set_option linter.unusedVariables false
set_option linter.unusedSimpArgs false

attribute [local go_sem high] eqA53
/-! ### spec_Changed: function 15 -/
mutual
def spec_Changed.l0 : Nat → List (S53) → List (S53) → List (S53) → Int → Option ((List (S53)))
 | 0, _, _, _, _ => none
 | k + 1, x9, a6, a7, a5 => if a5 < (x9.length : Int) then (spec_Changed.j1 k x9 a6 a7 a5 (decide (a5 < (a6.length : Int)))) else (spec_Changed.j1 k x9 a6 a7 a5 false)
def spec_Changed.j1 : Nat → List (S53) → List (S53) → List (S53) → Int → Bool → Option ((List (S53)))
 | 0, _, _, _, _, _ => none
 | k + 1, x9, a6, a7, a5, a8 => if a8 = true then (if 0 ≤ a5 then (if a5 < (x9.length : Int) then (if a5 < (a6.length : Int) then (if (!(((rd_T53 x9 a5).f0) == ((rd_T53 a6 a5).f0)) || (!((((rd_T53 x9 a5).f1).toList) == (((rd_T53 a6 a5).f1).toList)))) = true then (if a7.length < 5864062014805 then (spec_Changed.l0 k x9 a6 (a7 ++ [(⟨(rd_T53 a6 a5).f0, (rd_T53 a6 a5).f1⟩ : S53)]) (wrap64 (a5 + 1))) else (none)) else (spec_Changed.l0 k x9 a6 a7 (wrap64 (a5 + 1)))) else (none)) else (none)) else (none)) else (some a7)
end
def spec_Changed.f (k : Nat) (a5 : Int) (a6 : Int) (a7 : Int) (a8 : Int) (a1 : Int) (a9 : Int) (aa : List Int) (ab : List (S69)) (ac : Int) (ae : List Int) (af : List (S69)) : Option ((List (S53))) := (spec_PartWrites.f k a5 a6 a7 a8 a1 a9 aa ab).bind fun ag => ((spec_PartWrites.f k a5 a6 a7 a8 a1 ac ae af).bind fun ah => (spec_Changed.l0 k ag ah (([] : List (S53))) 0))
set_option maxHeartbeats 8000000 in
set_option maxRecDepth 100000 in
theorem spec_Changed.calls (k : Nat) (ah : Int) (ai : Int) (aj : Int) (ak : Int) (a1 : Int) (aq : Int) (ay : Option Addr) (az : Nat) (al : List Int) (b0 : Option Addr) (b1 : Nat) (am : List (S69)) (ar : Int) (b2 : Option Addr) (b3 : Nat) (an : List Int) (b4 : Option Addr) (b5 : Nat) (ao : List (S69)) (r : List (S53)) (w : World) (bp : Kd.C (Kd.int .i64) w ay al.length al) (bq : al.length ≤ az) (br : Kd.C k69 w b0 am.length am) (bs : am.length ≤ b1) (bu : Kd.C (Kd.int .i64) w b2 an.length an) (bv : an.length ≤ b3) (bw : Kd.C k69 w b4 ao.length ao) (bx : ao.length ≤ b5) (h : spec_Changed.f k ah ai aj ak a1 aq al am ar an ao = some r) :
  Calls Tryz.prog 15 #[.agg #[.int .i64 ah, .int .i64 ai, .int .i64 aj, .int .i64 ak], .int .i64 a1, .agg #[.int .i64 aq, .slice ay al.length az, .slice b0 am.length b1], .agg #[.int .i64 ar, .slice b2 an.length b3, .slice b4 ao.length b5]] w fun e w' => ∃ v0_ : Value, e = .returned (v0_) ∧ Kd.R k53 53 w' w.heap.size (fun _ => True) v0_ r ∧ Below w.heap.size w w' := by
 have hu31 := Tryz.underlying31
 have hu35 := Tryz.underlying35
 have hu53 := Tryz.underlying53
 have HR2_1 := Aside0.mk bp
 have bg := Aside0.mk bq
 clear bp bq
 have HR2_2 := Aside0.mk br
 have bh := Aside0.mk bs
 clear br bs
 have HR3_1 := Aside0.mk bu
 have bi := Aside0.mk bv
 clear bu bv
 have HR3_2 := Aside0.mk bw
 have bj := Aside0.mk bx
 clear bw bx
 have HB := Aside0.mk (Below.refl w.heap.size w)
 unfold spec_Changed.f at h
 have H := h
 clear h
 obtain ⟨a9, A5, H⟩ := bd_ H
 obtain ⟨t421, A6, H⟩ := bd_ H
 obtain ⟨ci, hy424⟩ : ∃ y_ : List (S53), y_ = (([] : List (S53))) := ⟨_, rfl⟩
 replace H : (spec_Changed.l0 k a9 t421 ci 0) = some r := by first | (rw [hy424]; with_reducible exact H) | (have H2_ := (Option.bind_some _ _).symm.trans H; rw [hy424]; with_reducible exact H2_) | (have H2_ := (Option.bind_some _ _).symm.trans H; with_reducible exact H2_) | with_reducible exact H | (rw [hy424]; exact H) | exact H
 have Ny424 := Aside0.mk hy424
 clear hy424
 have H' := Aside0.mk H
 clear H
 go_enter Tryz.func15, Tryz.ntmps15
 go_wp2_with (first | ((with_reducible refine gate_dst (N := 4) rfl ?_); (try (refine gate_guard (by rfl) ?_; dsimp only)); refine be_ 4 (cs := #[.int .i64 ah, .int .i64 ai, .int .i64 aj, .int .i64 ak]) 31 ?_; intro au hg w7 hbox hb; have z_ := bx0_ th_ hb hbox hg; clear HB; obtain ⟨HB, a5, bz, ca⟩ := z_; clear hb hbox hg) | ((with_reducible refine gate_dst (N := 6) rfl ?_); (try (refine gate_guard (by rfl) ?_; dsimp only)); refine be_ 6 (cs := #[.int .i64 aq, .slice ay al.length az, .slice b0 am.length b1]) 35 ?_; intro av hg w8 hbox hb; have z_ := bx1_ (kb_ a5) th_ hb hbox hg; clear a5 HB; obtain ⟨a5, HB, a6, cb, cc, aa, ab⟩ := z_; clear hb hbox hg) | ((with_reducible refine gate_dst (N := 7) rfl ?_); (try (refine gate_guard (by rfl) ?_; dsimp only)); refine be_ 7 (cs := #[.int .i64 ar, .slice b2 an.length b3, .slice b4 ao.length b5]) 35 ?_; intro aw hg w9 hbox hb; have z_ := bx2_ (kb_ a5) (kb_ a6) th_ hb hbox hg; clear a5 a6 HB; obtain ⟨a5, a6, HB, a7, cd, ce, ac, ae, af, ag⟩ := z_; clear hb hbox hg; obtain ⟨hnb10, hnc10, hnb11, hnc11⟩ := an4_ aa ab ac ae; have b9 := bb4_ a5.out; obtain ⟨hnb13, hnc13⟩ := an2_ af ag; have ba := bb3_ a6.out) | (go_at_call 6; (with_reducible refine (spec_PartWrites.calls k ah ai aj ak a1 aq _ _ al _ _ am a9 _ ?side1 ?side2 ?side3 ?side4 A5.out).mono ?_); (case side1 => exact tq_6); (case side2 => exact bg.out); (case side3 => exact tq_7); (case side4 => exact bh.out); rintro e cy ⟨v419, rfl, ho0, hb⟩; have z_ := p_ (Kd.R_lower ho0 (below_size th_)) <| bw3_ (kb_ a5) (kb_ a6) (kb_ a7) th_ hb; clear a5 a6 a7 HB; obtain ⟨HO420, a5, a6, a7, HB⟩ := z_; (try clear hb); (try clear ho0); have bb := bb4_ a5.out; have bc := bb3_ a7.out) | (go_at_call 6; (with_reducible refine (spec_PartWrites.calls k ah ai aj ak a1 ar _ _ an _ _ ao t421 _ ?side1 ?side2 ?side3 ?side4 A6.out).mono ?_); (case side1 => exact tq_11); (case side2 => exact bi.out); (case side3 => exact tq_10); (case side4 => exact bj.out); rintro e cz ⟨v422, rfl, ho0, hb⟩; have z_ := p_ (Kd.R_elder' (raR_ HO420) (Kd.R_base ho0) hb) <| p_ (Kd.R_lower (Kd.R_new' ho0 (Kd.R_lt (raR_ HO420))) (below_size th_)) <| bw3_ (kb_ a5) (kb_ a6) (kb_ a7) th_ hb; clear HO420 a5 a6 a7 HB; obtain ⟨HO420, HO423, a5, a6, a7, HB⟩ := z_; (try clear hb); (try clear ho0)) | ((with_reducible refine gate_dst (N := 21) rfl ?_); (try (refine gate_guard (by rfl) ?_; dsimp only)); refine Kd.R_lit k53 _ 53 ?hg (N := 21) ?hd (xs := ([] : List (S53))) (inner := []) (ok := fun _ => True) (okp := fun _ => True) ?hr ?hp (fun _ hk => hk) trivial (Below.refl _ _) (Nat.le_refl _) (by simp) ?_; (case hd => rfl); (case hg => rfl); (case hr => first | (go_simp; done) | (go_simp; rfl)); (case hp => exact (Reps.none _ _)); intro v425 d0 ho20 hb hg_ hnew_; clear hg_ hnew_; (first | rw [← Ny424.out] at ho20 | (simp only [Int.reduceToNat] at ho20; rw [← Ny424.out] at ho20)); have z_ := p_ (Kd.R_elder' (raR_ HO420) (Kd.R_base ho20) hb) <| p_ (Kd.R_elder' (raR_ HO423) (Kd.R_base ho20) hb) <| p_ (Kd.R_lower (Kd.R_new' (Kd.R_new' ho20 (Kd.R_lt (raR_ HO420))) (Kd.R_lt (raR_ HO423))) (below_size th_)) <| bw3_ (kb_ a5) (kb_ a6) (kb_ a7) th_ hb; clear HO420 HO423 a5 a6 a7 HB; obtain ⟨HO420, HO423, HO426, a5, a6, a7, HB⟩ := z_; clear hb ho20))
 repeat (go_quiet (first | ((with_reducible refine gate_dst (N := 4) rfl ?_); (try (refine gate_guard (by rfl) ?_; dsimp only)); refine be_ 4 (cs := #[.int .i64 ah, .int .i64 ai, .int .i64 aj, .int .i64 ak]) 31 ?_; intro au hg w7 hbox hb; have z_ := bx0_ th_ hb hbox hg; clear HB; obtain ⟨HB, a5, bz, ca⟩ := z_; clear hb hbox hg) | ((with_reducible refine gate_dst (N := 6) rfl ?_); (try (refine gate_guard (by rfl) ?_; dsimp only)); refine be_ 6 (cs := #[.int .i64 aq, .slice ay al.length az, .slice b0 am.length b1]) 35 ?_; intro av hg w8 hbox hb; have z_ := bx1_ (kb_ a5) th_ hb hbox hg; clear a5 HB; obtain ⟨a5, HB, a6, cb, cc, aa, ab⟩ := z_; clear hb hbox hg) | ((with_reducible refine gate_dst (N := 7) rfl ?_); (try (refine gate_guard (by rfl) ?_; dsimp only)); refine be_ 7 (cs := #[.int .i64 ar, .slice b2 an.length b3, .slice b4 ao.length b5]) 35 ?_; intro aw hg w9 hbox hb; have z_ := bx2_ (kb_ a5) (kb_ a6) th_ hb hbox hg; clear a5 a6 HB; obtain ⟨a5, a6, HB, a7, cd, ce, ac, ae, af, ag⟩ := z_; clear hb hbox hg; obtain ⟨hnb10, hnc10, hnb11, hnc11⟩ := an4_ aa ab ac ae; have b9 := bb4_ a5.out; obtain ⟨hnb13, hnc13⟩ := an2_ af ag; have ba := bb3_ a6.out) | (go_at_call 6; (with_reducible refine (spec_PartWrites.calls k ah ai aj ak a1 aq _ _ al _ _ am a9 _ ?side1 ?side2 ?side3 ?side4 A5.out).mono ?_); (case side1 => exact tq_6); (case side2 => exact bg.out); (case side3 => exact tq_7); (case side4 => exact bh.out); rintro e cy ⟨v419, rfl, ho0, hb⟩; have z_ := p_ (Kd.R_lower ho0 (below_size th_)) <| bw3_ (kb_ a5) (kb_ a6) (kb_ a7) th_ hb; clear a5 a6 a7 HB; obtain ⟨HO420, a5, a6, a7, HB⟩ := z_; (try clear hb); (try clear ho0); have bb := bb4_ a5.out; have bc := bb3_ a7.out) | (go_at_call 6; (with_reducible refine (spec_PartWrites.calls k ah ai aj ak a1 ar _ _ an _ _ ao t421 _ ?side1 ?side2 ?side3 ?side4 A6.out).mono ?_); (case side1 => exact tq_11); (case side2 => exact bi.out); (case side3 => exact tq_10); (case side4 => exact bj.out); rintro e cz ⟨v422, rfl, ho0, hb⟩; have z_ := p_ (Kd.R_elder' (raR_ HO420) (Kd.R_base ho0) hb) <| p_ (Kd.R_lower (Kd.R_new' ho0 (Kd.R_lt (raR_ HO420))) (below_size th_)) <| bw3_ (kb_ a5) (kb_ a6) (kb_ a7) th_ hb; clear HO420 a5 a6 a7 HB; obtain ⟨HO420, HO423, a5, a6, a7, HB⟩ := z_; (try clear hb); (try clear ho0)) | ((with_reducible refine gate_dst (N := 21) rfl ?_); (try (refine gate_guard (by rfl) ?_; dsimp only)); refine Kd.R_lit k53 _ 53 ?hg (N := 21) ?hd (xs := ([] : List (S53))) (inner := []) (ok := fun _ => True) (okp := fun _ => True) ?hr ?hp (fun _ hk => hk) trivial (Below.refl _ _) (Nat.le_refl _) (by simp) ?_; (case hd => rfl); (case hg => rfl); (case hr => first | (go_simp; done) | (go_simp; rfl)); (case hp => exact (Reps.none _ _)); intro v425 d0 ho20 hb hg_ hnew_; clear hg_ hnew_; (first | rw [← Ny424.out] at ho20 | (simp only [Int.reduceToNat] at ho20; rw [← Ny424.out] at ho20)); have z_ := p_ (Kd.R_elder' (raR_ HO420) (Kd.R_base ho20) hb) <| p_ (Kd.R_elder' (raR_ HO423) (Kd.R_base ho20) hb) <| p_ (Kd.R_lower (Kd.R_new' (Kd.R_new' ho20 (Kd.R_lt (raR_ HO420))) (Kd.R_lt (raR_ HO423))) (below_size th_)) <| bw3_ (kb_ a5) (kb_ a6) (kb_ a7) th_ hb; clear HO420 HO423 a5 a6 a7 HB; obtain ⟨HO420, HO423, HO426, a5, a6, a7, HB⟩ := z_; clear hb ho20)); try go_wp2_with (first | ((with_reducible refine gate_dst (N := 4) rfl ?_); (try (refine gate_guard (by rfl) ?_; dsimp only)); refine be_ 4 (cs := #[.int .i64 ah, .int .i64 ai, .int .i64 aj, .int .i64 ak]) 31 ?_; intro au hg w7 hbox hb; have z_ := bx0_ th_ hb hbox hg; clear HB; obtain ⟨HB, a5, bz, ca⟩ := z_; clear hb hbox hg) | ((with_reducible refine gate_dst (N := 6) rfl ?_); (try (refine gate_guard (by rfl) ?_; dsimp only)); refine be_ 6 (cs := #[.int .i64 aq, .slice ay al.length az, .slice b0 am.length b1]) 35 ?_; intro av hg w8 hbox hb; have z_ := bx1_ (kb_ a5) th_ hb hbox hg; clear a5 HB; obtain ⟨a5, HB, a6, cb, cc, aa, ab⟩ := z_; clear hb hbox hg) | ((with_reducible refine gate_dst (N := 7) rfl ?_); (try (refine gate_guard (by rfl) ?_; dsimp only)); refine be_ 7 (cs := #[.int .i64 ar, .slice b2 an.length b3, .slice b4 ao.length b5]) 35 ?_; intro aw hg w9 hbox hb; have z_ := bx2_ (kb_ a5) (kb_ a6) th_ hb hbox hg; clear a5 a6 HB; obtain ⟨a5, a6, HB, a7, cd, ce, ac, ae, af, ag⟩ := z_; clear hb hbox hg; obtain ⟨hnb10, hnc10, hnb11, hnc11⟩ := an4_ aa ab ac ae; have b9 := bb4_ a5.out; obtain ⟨hnb13, hnc13⟩ := an2_ af ag; have ba := bb3_ a6.out) | (go_at_call 6; (with_reducible refine (spec_PartWrites.calls k ah ai aj ak a1 aq _ _ al _ _ am a9 _ ?side1 ?side2 ?side3 ?side4 A5.out).mono ?_); (case side1 => exact tq_6); (case side2 => exact bg.out); (case side3 => exact tq_7); (case side4 => exact bh.out); rintro e cy ⟨v419, rfl, ho0, hb⟩; have z_ := p_ (Kd.R_lower ho0 (below_size th_)) <| bw3_ (kb_ a5) (kb_ a6) (kb_ a7) th_ hb; clear a5 a6 a7 HB; obtain ⟨HO420, a5, a6, a7, HB⟩ := z_; (try clear hb); (try clear ho0); have bb := bb4_ a5.out; have bc := bb3_ a7.out) | (go_at_call 6; (with_reducible refine (spec_PartWrites.calls k ah ai aj ak a1 ar _ _ an _ _ ao t421 _ ?side1 ?side2 ?side3 ?side4 A6.out).mono ?_); (case side1 => exact tq_11); (case side2 => exact bi.out); (case side3 => exact tq_10); (case side4 => exact bj.out); rintro e cz ⟨v422, rfl, ho0, hb⟩; have z_ := p_ (Kd.R_elder' (raR_ HO420) (Kd.R_base ho0) hb) <| p_ (Kd.R_lower (Kd.R_new' ho0 (Kd.R_lt (raR_ HO420))) (below_size th_)) <| bw3_ (kb_ a5) (kb_ a6) (kb_ a7) th_ hb; clear HO420 a5 a6 a7 HB; obtain ⟨HO420, HO423, a5, a6, a7, HB⟩ := z_; (try clear hb); (try clear ho0)) | ((with_reducible refine gate_dst (N := 21) rfl ?_); (try (refine gate_guard (by rfl) ?_; dsimp only)); refine Kd.R_lit k53 _ 53 ?hg (N := 21) ?hd (xs := ([] : List (S53))) (inner := []) (ok := fun _ => True) (okp := fun _ => True) ?hr ?hp (fun _ hk => hk) trivial (Below.refl _ _) (Nat.le_refl _) (by simp) ?_; (case hd => rfl); (case hg => rfl); (case hr => first | (go_simp; done) | (go_simp; rfl)); (case hp => exact (Reps.none _ _)); intro v425 d0 ho20 hb hg_ hnew_; clear hg_ hnew_; (first | rw [← Ny424.out] at ho20 | (simp only [Int.reduceToNat] at ho20; rw [← Ny424.out] at ho20)); have z_ := p_ (Kd.R_elder' (raR_ HO420) (Kd.R_base ho20) hb) <| p_ (Kd.R_elder' (raR_ HO423) (Kd.R_base ho20) hb) <| p_ (Kd.R_lower (Kd.R_new' (Kd.R_new' ho20 (Kd.R_lt (raR_ HO420))) (Kd.R_lt (raR_ HO423))) (below_size th_)) <| bw3_ (kb_ a5) (kb_ a6) (kb_ a7) th_ hb; clear HO420 HO423 a5 a6 a7 HB; obtain ⟨HO420, HO423, HO426, a5, a6, a7, HB⟩ := z_; clear hb ho20)))
 go_loopg [11, 12] k (fun kq v11 v12 w' => ∃ (ap : List (S53)) (x12_1 : Int), v12 = .int .i64 x12_1 ∧ Aside0 (spec_Changed.l0 kq a9 t421 ap x12_1 = some r) ∧ Aside0 (kq ≤ k) ∧ Aside0 (Kd.R k53 53 w' w.heap.size (fun k_ => some k_ ≠ (v422 : Value).ownBlock ∧ some k_ ≠ (v11 : Value).ownBlock) v419 a9) ∧ Aside0 (Kd.R k53 53 w' w.heap.size (fun k_ => some k_ ≠ (v419 : Value).ownBlock ∧ some k_ ≠ (v11 : Value).ownBlock) v422 t421) ∧ Aside0 (Kd.R k53 53 w' w.heap.size (fun k_ => some k_ ≠ (v419 : Value).ownBlock ∧ some k_ ≠ (v422 : Value).ownBlock) v11 ap) ∧ Aside0 (w'.heap[au]? = some (.cells #[.int .i64 ah, .int .i64 ai, .int .i64 aj, .int .i64 ak] 31 (0, 0))) ∧ Aside0 (w'.heap[av]? = some (.cells #[.int .i64 aq, (.slice ay al.length az), (.slice b0 am.length b1)] 35 (0, 0))) ∧ Aside0 (w'.heap[aw]? = some (.cells #[.int .i64 ar, (.slice b2 an.length b3), (.slice b4 ao.length b5)] 35 (0, 0))) ∧ Aside0 (Below w.heap.size w w'))
 case atStart => exact ⟨(ci), (0), tq_3, H', ⟨Nat.le_refl _⟩, ⟨(by (with_reducible repeat (first | apply Kd.R_alloc | apply Kd.R_drewN | apply Kd.R_drew)); exact Kd.R_mono HO420.out (fun _ hk => ⟨hk.1.2, hk.2⟩))⟩, ⟨(by (with_reducible repeat (first | apply Kd.R_alloc | apply Kd.R_drewN | apply Kd.R_drew)); exact Kd.R_mono HO423.out (fun _ hk => ⟨hk.1.2, hk.2⟩))⟩, ⟨(by (with_reducible repeat (first | apply Kd.R_alloc | apply Kd.R_drewN | apply Kd.R_drew)); exact Kd.R_mono HO426.out (fun _ hk => ⟨hk.1.2, hk.2⟩))⟩, ⟨(kb_ a5)⟩, ⟨(kb_ a6)⟩, ⟨(kb_ a7)⟩, ⟨th_⟩⟩
 case round =>
 clear H'
 try clear c1; try clear c2; try clear p2; try clear c3; try clear d9; try clear da; try clear db; try clear dc; try clear b9; try clear ba; try clear bb; try clear bc; try clear b9; try clear ba; try clear bb; try clear bc
 obtain ⟨ap, x12_1, rfl, HA, HK1, HO_9, HO_10, a8, a5, a6, a7, HB⟩ := hrel
 cases gk with
 | zero => exact absurd HA.out (by simp [spec_Changed.l0])
 | succ k1 =>
 have H := HA.out
 clear HA
 simp only [spec_Changed.l0] at H
 have cf := Aside0.mk H
 clear H
 go_upto_region 5 with (fail)
 repeat (go_quiet (fail); go_upto_region 5 with (fail))
 go_cut [31] (fun v31 wc => ∃ (kq : Nat) (b8 : Bool), v31 = .bool b8 ∧ Aside0 (spec_Changed.j1 kq a9 t421 ap x12_1 b8 = some r) ∧ Aside0 (kq ≤ k1) ∧ Aside0 (Kd.R k53 53 wc w.heap.size (fun k_ => some k_ ≠ (v422 : Value).ownBlock ∧ some k_ ≠ (u11 : Value).ownBlock) v419 a9) ∧ Aside0 (Kd.R k53 53 wc w.heap.size (fun k_ => some k_ ≠ (v419 : Value).ownBlock ∧ some k_ ≠ (u11 : Value).ownBlock) v422 t421) ∧ Aside0 (Kd.R k53 53 wc w.heap.size (fun k_ => some k_ ≠ (v419 : Value).ownBlock ∧ some k_ ≠ (v422 : Value).ownBlock) u11 ap) ∧ Aside0 (wc.heap[au]? = some (.cells #[.int .i64 ah, .int .i64 ai, .int .i64 aj, .int .i64 ak] 31 (0, 0))) ∧ Aside0 (wc.heap[av]? = some (.cells #[.int .i64 aq, (.slice ay al.length az), (.slice b0 am.length b1)] 35 (0, 0))) ∧ Aside0 (wc.heap[aw]? = some (.cells #[.int .i64 ar, (.slice b2 an.length b3), (.slice b4 ao.length b5)] 35 (0, 0))) ∧ Aside0 (Below w.heap.size w wc))
 case first =>
  have H := cf.out
  clear cf
  by_cases cg : x12_1 < (a9.length : Int)
  rotate_left
  ·rw [if_neg cg] at H
   have b6 := decide_eq_false cg
   clear cg
   (first | rw [b6] | (simp only [i64_w, i32_w]; rw [b6]) | skip)
   have H' := Aside0.mk H
   clear H
   obtain ⟨Ao25, dd, cp⟩ := Kd.R_slice HO_9.out
   subst cp
   go_wp2
   repeat (go_quiet (fail); try go_wp2)
   go_meet
   case rel => exact ⟨_, (false), tq_3, H', ⟨tq_69⟩, ⟨(raR_ HO_9)⟩, ⟨(raR_ HO_10)⟩, ⟨(raR_ a8)⟩, ⟨(kb_ a5)⟩, ⟨(kb_ a6)⟩, ⟨(kb_ a7)⟩, ⟨th_⟩⟩
  rw [if_pos cg] at H
  have b6 := decide_eq_true cg
  clear cg
  (first | rw [b6] | (simp only [i64_w, i32_w]; rw [b6]) | skip)
  have H' := Aside0.mk H
  clear H
  obtain ⟨Ao23, de, cq⟩ := Kd.R_slice HO_9.out
  subst cq
  obtain ⟨Ao24, df, cr⟩ := Kd.R_slice HO_10.out
  subst cr
  go_wp2
  repeat (go_quiet (fail); try go_wp2)
  go_meet
  case rel => exact ⟨_, (decide (x12_1 < (t421.length : Int))), tq_3, H', ⟨tq_69⟩, ⟨(raR_ HO_9)⟩, ⟨(raR_ HO_10)⟩, ⟨(raR_ a8)⟩, ⟨(kb_ a5)⟩, ⟨(kb_ a6)⟩, ⟨(kb_ a7)⟩, ⟨th_⟩⟩
 case rest =>
 clear cf
 try clear c1; try clear c2; try clear p2; try clear c3; try clear d9; try clear da; try clear db; try clear dc; try clear cg; try clear b6; try clear b9; try clear ba; try clear bb; try clear bc; try clear b9; try clear ba; try clear bb; try clear bc; try clear p2
 obtain ⟨kq, b8, rfl, HA, HJ20, HO_9, HO_10, a8, a5, a6, a7, HB⟩ := hcut
 cases kq with
 | zero => exact absurd HA.out (by simp [spec_Changed.j1])
 | succ kj20 =>
 have H := HA.out
 clear HA
 simp only [spec_Changed.j1] at H
 by_cases cm : b8 = true
 rotate_left
 ·replace cm := Bool.eq_false_iff.mpr cm
  subst cm
  rw [if_neg nf_] at H
  obtain rfl := Option.some.inj H
  go_wp2
  repeat (go_quiet (fail); try go_wp2)
  go_ret
  exact ⟨_, tq_1, (by (with_reducible repeat (first | apply Kd.R_alloc | apply Kd.R_drewN | apply Kd.R_drew)); exact Kd.R_mono a8.out (fun _ hk => trivial)), th_⟩
 subst cm
 rw [if_pos rfl] at H
 obtain ⟨d1, H⟩ := fc_ H
 have d2 := decide_eq_true d1
 clear d1
 obtain ⟨d3, H⟩ := fc_ H
 have d4 := decide_eq_true d3
 clear d3
 obtain ⟨d5, H⟩ := fc_ H
 have d6 := decide_eq_true d5
 clear d5
 have cj := Aside0.mk H
 clear H
 obtain ⟨Ao31, be, ct⟩ := Kd.R_slice HO_9.out
 subst ct
 have p427 : 0 ≤ (x12_1 : Int) := of_decide_eq_true tq_2
 have q427 : x12_1 < (a9.length : Int) := of_decide_eq_true tq_2
 obtain ⟨b7, cu, bl, bm⟩ := at_T53 (Kd.R_reads' HO_9.out).2.2 x12_1 p427 q427
 cases cu
 replace p427 := eq_true p427
 replace q427 := eq_true q427
 obtain ⟨Ao32, bf, cv⟩ := Kd.R_slice HO_10.out
 subst cv
 have p428 : 0 ≤ (x12_1 : Int) := of_decide_eq_true tq_2
 have q428 : x12_1 < (t421.length : Int) := of_decide_eq_true tq_2
 obtain ⟨ax, cw, bn, bo⟩ := at_T53 (Kd.R_reads' HO_10.out).2.2 x12_1 p428 q428
 cases cw
 replace p428 := eq_true p428
 replace q428 := eq_true q428
 go_upto_if 42 with (fail)
 repeat (go_quiet (fail); go_upto_if 42 with (fail))
 (try clear b9)
 (try clear ba)
 (try clear bb)
 (try clear bc)
 (try clear b9)
 (try clear ba)
 (try clear bb)
 (try clear bc)
 (try clear bl bm)
 (try clear bn bo)
 have H := cj.out
 clear cj
 by_cases ch : (!(((rd_T53 a9 x12_1).f0) == ((rd_T53 t421 x12_1).f0)) || (!((((rd_T53 a9 x12_1).f1).toList) == (((rd_T53 t421 x12_1).f1).toList)))) = true
 rotate_left
 ·rw [if_neg ch] at H
  have bd : (!(((rd_T53 a9 x12_1).f0) == ((rd_T53 t421 x12_1).f0)) || (!((((rd_T53 a9 x12_1).f1).toList) == (((rd_T53 t421 x12_1).f1).toList)))) = false := by simpa using ch
  clear ch
  (first | rw [bd] | (simp only [i64_w, i32_w]; rw [bd]) | skip)
  have H' := Aside0.mk H
  clear H
  go_wp2
  repeat (go_quiet (fail); try go_wp2)
  go_roundg kj20
  case measure => have := HK1.out; have := HJ20.out; omega
  case rel => exact ⟨(ap), (wrap64 (x12_1 + 1)), tq_3, H', ⟨(by have := HK1.out; have := HJ20.out; omega)⟩, ⟨(raR_ HO_9)⟩, ⟨(raR_ HO_10)⟩, ⟨(raR_ a8)⟩, ⟨(kb_ a5)⟩, ⟨(kb_ a6)⟩, ⟨(kb_ a7)⟩, ⟨th_⟩⟩
 rw [if_pos ch] at H
 have bd : (!(((rd_T53 a9 x12_1).f0) == ((rd_T53 t421 x12_1).f0)) || (!((((rd_T53 a9 x12_1).f1).toList) == (((rd_T53 t421 x12_1).f1).toList)))) = true := ch
 clear ch
 (first | rw [bd] | (simp only [i64_w, i32_w]; rw [bd]) | skip)
 obtain ⟨d7, H⟩ := fc_ H
 have LMc34 := Aside0.mk d7
 clear d7
 obtain ⟨ck, hy430⟩ : ∃ y_ : List (S53), y_ = (ap ++ [(⟨(rd_T53 t421 x12_1).f0, (rd_T53 t421 x12_1).f1⟩ : S53)]) := ⟨_, rfl⟩
 replace H : (spec_Changed.l0 kj20 a9 t421 ck (wrap64 (x12_1 + 1))) = some r := by first | (rw [hy430]; with_reducible exact H) | (have H2_ := (Option.bind_some _ _).symm.trans H; rw [hy430]; with_reducible exact H2_) | (have H2_ := (Option.bind_some _ _).symm.trans H; with_reducible exact H2_) | with_reducible exact H | (rw [hy430]; exact H) | exact H
 have Ny430 := Aside0.mk hy430
 clear hy430
 have H' := Aside0.mk H
 clear H
 have p429 : 0 ≤ (x12_1 : Int) := of_decide_eq_true tq_2
 have q429 : x12_1 < (t421.length : Int) := of_decide_eq_true tq_2
 obtain ⟨cl, cx, cn, co⟩ := at_T53 (Kd.R_reads' HO_10.out).2.2 x12_1 p429 q429
 obtain rfl : ax = cl := (by injection cx)
 replace p429 := eq_true p429
 replace q429 := eq_true q429
 go_wp2_with (first | ((with_reducible refine gate_builtin (b := .append) (xs := #[.tmp 43, .tmp 48]) rfl ?_); (try (refine gate_guard (by rfl) ?_; dsimp only)); at_builtin; refine Kd.R_append k53 (w0 := w) w.heap.size rfl (.tmp 43) (.tmp 48) 29 53 (.agg #[(.int .i64 0), (.string ⟨#[]⟩)]) 24 rfl Tryz.underlying29 info53 rfl (by decide) (by omega) u11 ap (⟨(rd_T53 t421 x12_1).f0, (rd_T53 t421 x12_1).f1⟩ : S53) [.int .i64 ((rd_T53 t421 x12_1).f0), .string ((rd_T53 t421 x12_1).f1)] (fun k_ => some k_ ≠ (.slice (some b7) a9.length be : Value).ownBlock ∧ some k_ ≠ (.slice (some ax) t421.length bf : Value).ownBlock) (fun _ => False) rfl rfl ?aP (fun _ hk => hk.elim) ?aF ?aO ?aB ?aS ?aL ?_; (case aP => exact tq_73); (case aB => exact th_); (case aF => exact tq_57); (case aO => exact (raR_ a8)); (case aS => exact (below_size th_)); (case aL => have := LMc34.out; omega); intro v431 d8 ho hb hg hat; rw [← Ny430.out] at ho; have z_ := p_ (Kd.R_after (ok := (fun k_ => some k_ ≠ (.slice (some ax) t421.length bf : Value).ownBlock)) (raR_ HO_9) hg hat) <| p_ (Kd.R_after (ok := (fun k_ => some k_ ≠ (.slice (some b7) a9.length be : Value).ownBlock)) (raR_ HO_10) hg hat) <| p_ (blk_grown (g := au) (o := .cells #[.int .i64 ah, .int .i64 ai, .int .i64 aj, .int .i64 ak] 31 (0, 0)) (kb_ a5) hg (Kd.R_ne a8.out a5.out (by decide))) <| p_ (blk_grown (g := av) (o := .cells #[.int .i64 aq, .slice ay al.length az, .slice b0 am.length b1] 35 (0, 0)) (kb_ a6) hg (Kd.R_ne a8.out a6.out (by decide))) <| p_ (blk_grown (g := aw) (o := .cells #[.int .i64 ar, .slice b2 an.length b3, .slice b4 ao.length b5] 35 (0, 0)) (kb_ a7) hg (Kd.R_ne a8.out a7.out (by decide))) <| p_ (hb) <| a_ (ho); clear HO_9 HO_10 a5 a6 a7 HB a8; obtain ⟨HO_9, HO_10, a5, a6, a7, HB, HO432⟩ := z_; clear ho hb hg hat))
 repeat (go_quiet (first | ((with_reducible refine gate_builtin (b := .append) (xs := #[.tmp 43, .tmp 48]) rfl ?_); (try (refine gate_guard (by rfl) ?_; dsimp only)); at_builtin; refine Kd.R_append k53 (w0 := w) w.heap.size rfl (.tmp 43) (.tmp 48) 29 53 (.agg #[(.int .i64 0), (.string ⟨#[]⟩)]) 24 rfl Tryz.underlying29 info53 rfl (by decide) (by omega) u11 ap (⟨(rd_T53 t421 x12_1).f0, (rd_T53 t421 x12_1).f1⟩ : S53) [.int .i64 ((rd_T53 t421 x12_1).f0), .string ((rd_T53 t421 x12_1).f1)] (fun k_ => some k_ ≠ (.slice (some b7) a9.length be : Value).ownBlock ∧ some k_ ≠ (.slice (some ax) t421.length bf : Value).ownBlock) (fun _ => False) rfl rfl ?aP (fun _ hk => hk.elim) ?aF ?aO ?aB ?aS ?aL ?_; (case aP => exact tq_73); (case aB => exact th_); (case aF => exact tq_57); (case aO => exact (raR_ a8)); (case aS => exact (below_size th_)); (case aL => have := LMc34.out; omega); intro v431 d8 ho hb hg hat; rw [← Ny430.out] at ho; have z_ := p_ (Kd.R_after (ok := (fun k_ => some k_ ≠ (.slice (some ax) t421.length bf : Value).ownBlock)) (raR_ HO_9) hg hat) <| p_ (Kd.R_after (ok := (fun k_ => some k_ ≠ (.slice (some b7) a9.length be : Value).ownBlock)) (raR_ HO_10) hg hat) <| p_ (blk_grown (g := au) (o := .cells #[.int .i64 ah, .int .i64 ai, .int .i64 aj, .int .i64 ak] 31 (0, 0)) (kb_ a5) hg (Kd.R_ne a8.out a5.out (by decide))) <| p_ (blk_grown (g := av) (o := .cells #[.int .i64 aq, .slice ay al.length az, .slice b0 am.length b1] 35 (0, 0)) (kb_ a6) hg (Kd.R_ne a8.out a6.out (by decide))) <| p_ (blk_grown (g := aw) (o := .cells #[.int .i64 ar, .slice b2 an.length b3, .slice b4 ao.length b5] 35 (0, 0)) (kb_ a7) hg (Kd.R_ne a8.out a7.out (by decide))) <| p_ (hb) <| a_ (ho); clear HO_9 HO_10 a5 a6 a7 HB a8; obtain ⟨HO_9, HO_10, a5, a6, a7, HB, HO432⟩ := z_; clear ho hb hg hat)); try go_wp2_with (first | ((with_reducible refine gate_builtin (b := .append) (xs := #[.tmp 43, .tmp 48]) rfl ?_); (try (refine gate_guard (by rfl) ?_; dsimp only)); at_builtin; refine Kd.R_append k53 (w0 := w) w.heap.size rfl (.tmp 43) (.tmp 48) 29 53 (.agg #[(.int .i64 0), (.string ⟨#[]⟩)]) 24 rfl Tryz.underlying29 info53 rfl (by decide) (by omega) u11 ap (⟨(rd_T53 t421 x12_1).f0, (rd_T53 t421 x12_1).f1⟩ : S53) [.int .i64 ((rd_T53 t421 x12_1).f0), .string ((rd_T53 t421 x12_1).f1)] (fun k_ => some k_ ≠ (.slice (some b7) a9.length be : Value).ownBlock ∧ some k_ ≠ (.slice (some ax) t421.length bf : Value).ownBlock) (fun _ => False) rfl rfl ?aP (fun _ hk => hk.elim) ?aF ?aO ?aB ?aS ?aL ?_; (case aP => exact tq_73); (case aB => exact th_); (case aF => exact tq_57); (case aO => exact (raR_ a8)); (case aS => exact (below_size th_)); (case aL => have := LMc34.out; omega); intro v431 d8 ho hb hg hat; rw [← Ny430.out] at ho; have z_ := p_ (Kd.R_after (ok := (fun k_ => some k_ ≠ (.slice (some ax) t421.length bf : Value).ownBlock)) (raR_ HO_9) hg hat) <| p_ (Kd.R_after (ok := (fun k_ => some k_ ≠ (.slice (some b7) a9.length be : Value).ownBlock)) (raR_ HO_10) hg hat) <| p_ (blk_grown (g := au) (o := .cells #[.int .i64 ah, .int .i64 ai, .int .i64 aj, .int .i64 ak] 31 (0, 0)) (kb_ a5) hg (Kd.R_ne a8.out a5.out (by decide))) <| p_ (blk_grown (g := av) (o := .cells #[.int .i64 aq, .slice ay al.length az, .slice b0 am.length b1] 35 (0, 0)) (kb_ a6) hg (Kd.R_ne a8.out a6.out (by decide))) <| p_ (blk_grown (g := aw) (o := .cells #[.int .i64 ar, .slice b2 an.length b3, .slice b4 ao.length b5] 35 (0, 0)) (kb_ a7) hg (Kd.R_ne a8.out a7.out (by decide))) <| p_ (hb) <| a_ (ho); clear HO_9 HO_10 a5 a6 a7 HB a8; obtain ⟨HO_9, HO_10, a5, a6, a7, HB, HO432⟩ := z_; clear ho hb hg hat)))
 go_roundg kj20
 case measure => have := HK1.out; have := HJ20.out; omega
 case rel => exact ⟨(ck), (wrap64 (x12_1 + 1)), tq_3, H', ⟨(by have := HK1.out; have := HJ20.out; omega)⟩, ⟨(raR_ HO_9)⟩, ⟨(raR_ HO_10)⟩, ⟨(raR_ HO432)⟩, ⟨(kb_ a5)⟩, ⟨(kb_ a6)⟩, ⟨(kb_ a7)⟩, ⟨th_⟩⟩

/-! ### impl_within: function 49 -/
def impl_within.f (a0 : Int) (a1 : Int) (a2 : Int) : Option (Bool) := if a0 ≥ a1 then (some (decide (a0 ≤ a2))) else (some false)
set_option maxHeartbeats 8000000 in
set_option maxRecDepth 100000 in
theorem impl_within.calls (a0 : Int) (a1 : Int) (a2 : Int) (r : Bool) (w : World) (h : impl_within.f a0 a1 a2 = some r) :
  Calls Tryz.prog 49 #[.int .i64 a0, .int .i64 a1, .int .i64 a2] w fun e w' => e = .returned (.bool r) ∧ Drawn0 w w' := by
 unfold impl_within.f at h
 have H := h
 clear h
 by_cases c4 : a0 ≥ a1
 ·rw [if_pos c4] at H
  have a5 := decide_eq_true c4
  clear c4
  obtain rfl := Option.some.inj H
  go_enter Tryz.func49, Tryz.ntmps49
  go_wp2
  go_ret
  exact ⟨tq_3, tq_9⟩
 rw [if_neg c4] at H
 have a5 := decide_eq_false c4
 clear c4
 obtain rfl := Option.some.inj H
 go_enter Tryz.func49, Tryz.ntmps49
 go_wp2
 go_ret
 exact ⟨tq_3, tq_9⟩

/-! ### impl_GeoOk: function 48 -/
def impl_GeoOk.f (a6 : Int) (a5 : Int) (a7 : Int) (a8 : Int) : Option (Bool) := (impl_within.f a6 1 3).bind fun a9 => (if a9 = true then ((impl_within.f a5 5 12).bind fun aa => (if aa = true then ((impl_within.f a7 2 6).bind fun ab => (if ab = true then ((impl_within.f a8 1 (wrap64 (a5 - 4))).bind fun ac => (some ac)) else (some false))) else (some false))) else (some false))
set_option maxHeartbeats 8000000 in
set_option maxRecDepth 100000 in
theorem impl_GeoOk.calls (a5 : Int) (a7 : Int) (a8 : Int) (a9 : Int) (r : Bool) (w : World) (h : impl_GeoOk.f a5 a7 a8 a9 = some r) :
  Calls Tryz.prog 48 #[.agg #[.int .i64 a5, .int .i64 a7, .int .i64 a8, .int .i64 a9]] w fun e w' => e = .returned (.bool r) ∧ Below w.heap.size w w' := by
 have hu31 := Tryz.underlying31
 have HB := Aside0.mk (Below.refl w.heap.size w)
 unfold impl_GeoOk.f at h
 have H := h
 clear h
 obtain ⟨ae, A2, H⟩ := bd_ H
 by_cases c3 : ae = true
 rotate_left
 ·replace c3 := Bool.eq_false_iff.mpr c3
  subst c3
  rw [if_neg nf_] at H
  obtain rfl := Option.some.inj H
  go_enter Tryz.func48, Tryz.ntmps48
  go_wp2_with (first | ((with_reducible refine gate_dst (N := 1) rfl ?_); refine be_ 1 (cs := #[.int .i64 a5, .int .i64 a7, .int .i64 a8, .int .i64 a9]) 31 ?_; intro aa hg am hbox hb; have z_ := bx0_ th_ hb hbox hg; clear HB; obtain ⟨HB, a6, ab, ac⟩ := z_; clear hb hbox hg; have ai := bb4_ a6.out) | ((with_reducible refine gate_callee (f := 49) rfl ?_); refine goesL_ (some 5) rfl rfl Tryz.func49 (by kernel_rfl) rfl #[.int .i64 a5, .int .i64 1, .int .i64 3] rfl tq_0 ?_; (with_reducible refine (impl_within.calls a5 1 3 false _ A2.out).mono ?_); rintro e w' ⟨rfl, ⟨nd, rfl⟩⟩; refine ⟨_, rfl, ?_⟩))
  go_ret
  exact ⟨tq_1, th_⟩
 subst c3
 rw [if_pos rfl] at H
 obtain ⟨af, A4, H⟩ := bd_ H
 by_cases c5 : af = true
 rotate_left
 ·replace c5 := Bool.eq_false_iff.mpr c5
  subst c5
  rw [if_neg nf_] at H
  obtain rfl := Option.some.inj H
  go_enter Tryz.func48, Tryz.ntmps48
  go_wp2_with (first | ((with_reducible refine gate_dst (N := 1) rfl ?_); refine be_ 1 (cs := #[.int .i64 a5, .int .i64 a7, .int .i64 a8, .int .i64 a9]) 31 ?_; intro aa hg an hbox hb; have z_ := bx0_ th_ hb hbox hg; clear HB; obtain ⟨HB, a6, ab, ac⟩ := z_; clear hb hbox hg; have aj := bb4_ a6.out) | ((with_reducible refine gate_callee (f := 49) rfl ?_); refine goesL_ (some 5) rfl rfl Tryz.func49 (by kernel_rfl) rfl #[.int .i64 a5, .int .i64 1, .int .i64 3] rfl tq_0 ?_; (with_reducible refine (impl_within.calls a5 1 3 true _ A2.out).mono ?_); rintro e w' ⟨rfl, ⟨nd, rfl⟩⟩; refine ⟨_, rfl, ?_⟩) | (go_at_call 49; (with_reducible refine (impl_within.calls a7 5 12 false _ A4.out).mono ?_); rintro e w' ⟨rfl, ⟨nd, rfl⟩⟩))
  go_ret
  exact ⟨tq_1, th_⟩
 subst c5
 rw [if_pos rfl] at H
 obtain ⟨ag, A6, H⟩ := bd_ H
 by_cases c7 : ag = true
 rotate_left
 ·replace c7 := Bool.eq_false_iff.mpr c7
  subst c7
  rw [if_neg nf_] at H
  obtain rfl := Option.some.inj H
  go_enter Tryz.func48, Tryz.ntmps48
  go_wp2_with (first | ((with_reducible refine gate_dst (N := 1) rfl ?_); refine be_ 1 (cs := #[.int .i64 a5, .int .i64 a7, .int .i64 a8, .int .i64 a9]) 31 ?_; intro aa hg ao hbox hb; have z_ := bx0_ th_ hb hbox hg; clear HB; obtain ⟨HB, a6, ab, ac⟩ := z_; clear hb hbox hg; have ak := bb4_ a6.out) | ((with_reducible refine gate_callee (f := 49) rfl ?_); refine goesL_ (some 5) rfl rfl Tryz.func49 (by kernel_rfl) rfl #[.int .i64 a5, .int .i64 1, .int .i64 3] rfl tq_0 ?_; (with_reducible refine (impl_within.calls a5 1 3 true _ A2.out).mono ?_); rintro e w' ⟨rfl, ⟨nd, rfl⟩⟩; refine ⟨_, rfl, ?_⟩) | (go_at_call 49; (with_reducible refine (impl_within.calls a7 5 12 true _ A4.out).mono ?_); rintro e w' ⟨rfl, ⟨nd, rfl⟩⟩) | (go_at_call 49; (with_reducible refine (impl_within.calls a8 2 6 false _ A6.out).mono ?_); rintro e w' ⟨rfl, ⟨nd, rfl⟩⟩))
  go_ret
  exact ⟨tq_1, th_⟩
 subst c7
 rw [if_pos rfl] at H
 obtain ⟨ah, A8, H⟩ := bd_ H
 obtain rfl := Option.some.inj H
 go_enter Tryz.func48, Tryz.ntmps48
 go_wp2_with (first | ((with_reducible refine gate_dst (N := 1) rfl ?_); refine be_ 1 (cs := #[.int .i64 a5, .int .i64 a7, .int .i64 a8, .int .i64 a9]) 31 ?_; intro aa hg w9 hbox hb; have z_ := bx0_ th_ hb hbox hg; clear HB; obtain ⟨HB, a6, ab, ac⟩ := z_; clear hb hbox hg; have al := bb4_ a6.out) | ((with_reducible refine gate_callee (f := 49) rfl ?_); refine goesL_ (some 5) rfl rfl Tryz.func49 (by kernel_rfl) rfl #[.int .i64 a5, .int .i64 1, .int .i64 3] rfl tq_0 ?_; (with_reducible refine (impl_within.calls a5 1 3 true _ A2.out).mono ?_); rintro e w' ⟨rfl, ⟨nd, rfl⟩⟩; refine ⟨_, rfl, ?_⟩) | (go_at_call 49; (with_reducible refine (impl_within.calls a7 5 12 true _ A4.out).mono ?_); rintro e w' ⟨rfl, ⟨nd, rfl⟩⟩) | (go_at_call 49; (with_reducible refine (impl_within.calls a8 2 6 true _ A6.out).mono ?_); rintro e w' ⟨rfl, ⟨nd, rfl⟩⟩) | (go_at_call 49; (with_reducible refine (impl_within.calls a9 1 (wrap64 (a7 - 4)) ah _ A8.out).mono ?_); rintro e w' ⟨rfl, ⟨nd, rfl⟩⟩))
 go_ret
 exact ⟨tq_1, th_⟩

/-! ### impl_StatesOk_1: function 74 -/
def impl_StatesOk_1.f (a0 : Int) : Option (Bool) := (impl_within.f a0 0 2).bind fun a5 => (some (!a5))
set_option maxHeartbeats 8000000 in
set_option maxRecDepth 100000 in
theorem impl_StatesOk_1.calls (a0 : Int) (r : Bool) (w : World) (h : impl_StatesOk_1.f a0 = some r) :
  Calls Tryz.prog 74 #[.int .i64 a0] w fun e w' => e = .returned (.bool r) ∧ Drawn0 w w' := by
 unfold impl_StatesOk_1.f at h
 have H := h
 clear h
 obtain ⟨a5, A2, H⟩ := bd_ H
 obtain rfl := Option.some.inj H
 go_enter Tryz.func74, Tryz.ntmps74
 go_wp2_with (first | ((with_reducible refine gate_callee (f := 49) rfl ?_); refine goesL_ (some 4) rfl rfl Tryz.func49 (by kernel_rfl) rfl #[.int .i64 a0, .int .i64 0, .int .i64 2] rfl tq_0 ?_; (with_reducible refine (impl_within.calls a0 0 2 a5 _ A2.out).mono ?_); rintro e w' ⟨rfl, ⟨nd, rfl⟩⟩; refine ⟨_, rfl, ?_⟩))
 go_ret
 exact ⟨tq_3, tq_9⟩

/-! ### slices_IndexFunc_int: function 96 -/
def slices_IndexFunc_int.l0 : Nat → List Int → Int → Int → Option (Int)
 | 0, _, _, _ => none
 | k + 1, x0, x7, x8 => if x8 < x7 then (if 0 ≤ x8 then (if x8 < (x0.length : Int) then ((impl_StatesOk_1.f (rd x0 x8)).bind fun a5 => (if a5 = true then (some x8) else (slices_IndexFunc_int.l0 k x0 x7 (wrap64 (x8 + 1))))) else (none)) else (none)) else (some (-1))
def slices_IndexFunc_int.f (k : Nat) (l0 : List Int) (a1 : Unit) : Option (Int) := slices_IndexFunc_int.l0 k l0 (l0.length : Int) 0
set_option maxHeartbeats 8000000 in
set_option maxRecDepth 100000 in
theorem slices_IndexFunc_int.calls (k : Nat) (A0 : Option Addr) (c0 : Nat) (l0 : List Int) (a1 : Unit) (r : Int) (w : World) (hr0 : Kd.C (Kd.int .i64) w A0 l0.length l0) (hc0 : l0.length ≤ c0) (h : slices_IndexFunc_int.f k l0 a1 = some r) :
  Calls Tryz.prog 96 #[.slice A0 l0.length c0, .func (.func 74) #[] #[]] w fun e w' => e = .returned (.int .i64 r) ∧ Drawn0 w w' := by
 have HR0 := Aside0.mk hr0
 have ae := Aside0.mk hc0
 clear hr0 hc0
 unfold slices_IndexFunc_int.f at h
 have H := h
 clear h
 have H' := Aside0.mk H
 clear H
 go_enter Tryz.func96, Tryz.ntmps96
 go_wp2
 go_loopg [8] k (fun kq v8 w' => ∃ (x8_1 : Int), v8 = .int .i64 x8_1 ∧ Aside0 (slices_IndexFunc_int.l0 kq l0 (l0.length : Int) x8_1 = some r) ∧ Aside0 (kq ≤ k) ∧ Drawn0 w w')
 case atStart => exact ⟨(0), tq_3, H', ⟨Nat.le_refl _⟩, tq_9⟩
 case round =>
 clear H'
 try clear p2
 obtain ⟨x8_1, rfl, HA, HK1, ⟨m1, rfl⟩⟩ := hrel
 cases gk with
 | zero => exact absurd HA.out (by simp [slices_IndexFunc_int.l0])
 | succ k1 =>
 have H := HA.out
 clear HA
 simp only [slices_IndexFunc_int.l0] at H
 by_cases c3 : x8_1 < (l0.length : Int)
 rotate_left
 ·rw [if_neg c3] at H
  have a7 := decide_eq_false c3
  clear c3
  obtain rfl := Option.some.inj H
  go_wp2
  go_ret
  exact ⟨tq_3, tq_9⟩
 rw [if_pos c3] at H
 have a7 := decide_eq_true c3
 clear c3
 obtain ⟨c4, H⟩ := fc_ H
 have ab := decide_eq_true c4
 clear c4
 obtain ⟨c5, H⟩ := fc_ H
 have ac := decide_eq_true c5
 clear c5
 obtain ⟨a6, A6, H⟩ := bd_ H
 have a9 := Aside0.mk H
 clear H
 have p439 : 0 ≤ (x8_1 : Int) := of_decide_eq_true tq_2
 have q439 : x8_1 < (l0.length : Int) := of_decide_eq_true tq_2
 obtain ⟨aa, a8, a5⟩ := Kd.at_int HR0.out x8_1 p439 q439
 cases a8
 replace p439 := eq_true p439
 replace q439 := eq_true q439
 go_upto_if 16 with (first | (go_at_call 74; (with_reducible refine (impl_StatesOk_1.calls (rd l0 x8_1) a6 _ A6.out).mono ?_); rintro e w' ⟨rfl, ⟨nd, rfl⟩⟩))
 (try simp only [Act.put, List.setIfInBounds_toArray, List.set_cons_zero, List.set_cons_succ])
 (try clear a5)
 have H := a9.out
 clear a9
 by_cases c8 : a6 = true
 ·subst c8
  rw [if_pos rfl] at H
  obtain rfl := Option.some.inj H
  go_wp2
  go_ret
  exact ⟨tq_3, tq_9⟩
 replace c8 := Bool.eq_false_iff.mpr c8
 subst c8
 rw [if_neg nf_] at H
 have H' := Aside0.mk H
 clear H
 go_wp2
 go_roundg k1
 case measure => have := HK1.out; omega
 case rel => exact ⟨(wrap64 (x8_1 + 1)), tq_3, H', ⟨tq_22⟩, tq_9⟩

/-! ### slices_ContainsFunc_int: function 73 -/
def slices_ContainsFunc_int.f (k : Nat) (l0 : List Int) (a1 : Unit) : Option (Bool) := (slices_IndexFunc_int.f k l0 a1).bind fun a5 => (some (decide (a5 ≥ 0)))
set_option maxHeartbeats 8000000 in
set_option maxRecDepth 100000 in
theorem slices_ContainsFunc_int.calls (k : Nat) (A0 : Option Addr) (c0 : Nat) (l0 : List Int) (a1 : Unit) (r : Bool) (w : World) (hr0 : Kd.C (Kd.int .i64) w A0 l0.length l0) (hc0 : l0.length ≤ c0) (h : slices_ContainsFunc_int.f k l0 a1 = some r) :
  Calls Tryz.prog 73 #[.slice A0 l0.length c0, .func (.func 74) #[] #[]] w fun e w' => e = .returned (.bool r) ∧ Drawn0 w w' := by
 have HR0 := Aside0.mk hr0
 have a6 := Aside0.mk hc0
 clear hr0 hc0
 unfold slices_ContainsFunc_int.f at h
 have H := h
 clear h
 obtain ⟨a5, A3, H⟩ := bd_ H
 obtain rfl := Option.some.inj H
 go_enter Tryz.func73, Tryz.ntmps73
 go_wp2_with (first | ((with_reducible refine gate_callee (f := 96) rfl ?_); refine goesL_ (some 7) rfl rfl Tryz.func96 (by kernel_rfl) rfl #[.slice A0 l0.length c0, .func (.func 74) #[] #[]] rfl tq_0 ?_; (with_reducible refine (slices_IndexFunc_int.calls k _ _ l0 a1 a5 _ ?side1 ?side2 A3.out).mono ?_); (case side1 => exact tq_33); (case side2 => exact a6.out); rintro e w' ⟨rfl, ⟨nd, rfl⟩⟩; refine ⟨_, rfl, ?_⟩))
 go_ret
 exact ⟨tq_3, tq_9⟩

/-! ### impl_StatesOk: function 50 -/
def impl_StatesOk.f (k : Nat) (l0 : List Int) (a1 : Int) : Option (Bool) := (impl_within.f a1 1 12).bind fun a5 => (if a5 = true then (if (l0.length : Int) = a1 then ((slices_ContainsFunc_int.f k l0 ()).bind fun a6 => (some (!a6))) else (some false)) else (some false))
set_option maxHeartbeats 8000000 in
set_option maxRecDepth 100000 in
theorem impl_StatesOk.calls (k : Nat) (A0 : Option Addr) (c0 : Nat) (l0 : List Int) (a1 : Int) (r : Bool) (w : World) (hr0 : Kd.C (Kd.int .i64) w A0 l0.length l0) (hc0 : l0.length ≤ c0) (h : impl_StatesOk.f k l0 a1 = some r) :
  Calls Tryz.prog 50 #[.slice A0 l0.length c0, .int .i64 a1] w fun e w' => e = .returned (.bool r) ∧ Drawn0 w w' := by
 have HR0 := Aside0.mk hr0
 have a9 := Aside0.mk hc0
 clear hr0 hc0
 unfold impl_StatesOk.f at h
 have H := h
 clear h
 obtain ⟨a5, A3, H⟩ := bd_ H
 by_cases c4 : a5 = true
 rotate_left
 ·replace c4 := Bool.eq_false_iff.mpr c4
  subst c4
  rw [if_neg nf_] at H
  obtain rfl := Option.some.inj H
  go_enter Tryz.func50, Tryz.ntmps50
  go_wp2_with (first | ((with_reducible refine gate_callee (f := 49) rfl ?_); refine goesL_ (some 6) rfl rfl Tryz.func49 (by kernel_rfl) rfl #[.int .i64 a1, .int .i64 1, .int .i64 12] rfl tq_0 ?_; (with_reducible refine (impl_within.calls a1 1 12 false _ A3.out).mono ?_); rintro e w' ⟨rfl, ⟨nd, rfl⟩⟩; refine ⟨_, rfl, ?_⟩))
  go_ret
  exact ⟨tq_3, tq_9⟩
 subst c4
 rw [if_pos rfl] at H
 by_cases c5 : (l0.length : Int) = a1
 rotate_left
 ·rw [if_neg c5] at H
  have a6 := beq_eq_false_iff_ne.mpr c5
  have a7 := bne_iff_ne.mpr c5
  obtain rfl := Option.some.inj H
  go_enter Tryz.func50, Tryz.ntmps50
  go_wp2_with (first | ((with_reducible refine gate_callee (f := 49) rfl ?_); refine goesL_ (some 6) rfl rfl Tryz.func49 (by kernel_rfl) rfl #[.int .i64 a1, .int .i64 1, .int .i64 12] rfl tq_0 ?_; (with_reducible refine (impl_within.calls a1 1 12 true _ A3.out).mono ?_); rintro e w' ⟨rfl, ⟨nd, rfl⟩⟩; refine ⟨_, rfl, ?_⟩))
  go_ret
  exact ⟨tq_3, tq_9⟩
 rw [if_pos c5] at H
 have a6 := beq_iff_eq.mpr c5
 have a7 := bne_eq_false_iff_eq.mpr c5
 clear c5
 obtain ⟨a8, A6, H⟩ := bd_ H
 obtain rfl := Option.some.inj H
 go_enter Tryz.func50, Tryz.ntmps50
 go_wp2_with (first | ((with_reducible refine gate_callee (f := 49) rfl ?_); refine goesL_ (some 6) rfl rfl Tryz.func49 (by kernel_rfl) rfl #[.int .i64 a1, .int .i64 1, .int .i64 12] rfl tq_0 ?_; (with_reducible refine (impl_within.calls a1 1 12 true _ A3.out).mono ?_); rintro e w' ⟨rfl, ⟨nd, rfl⟩⟩; refine ⟨_, rfl, ?_⟩) | (go_at_call 73; (with_reducible refine (slices_ContainsFunc_int.calls k _ _ l0 () a8 _ ?side1 ?side2 A6.out).mono ?_); (case side1 => exact tq_33); (case side2 => exact a9.out); rintro e w' ⟨rfl, ⟨nd, rfl⟩⟩))
 go_ret
 exact ⟨tq_3, tq_9⟩

/-! ### impl_LinksTo: function 75 -/
mutual
def impl_LinksTo.l0 : Nat → Int → Int → List (S69) → Int → Int → Option (Int)
 | 0, _, _, _, _, _ => none
 | k + 1, x1, x5, a6, a7, a5 => if a5 < a7 then (if 0 ≤ a5 then (if a5 < (a6.length : Int) then (impl_LinksTo.l1 k x1 x5 a6 a7 a5 ((rd_T69 a6 a5).f5) (((rd_T69 a6 a5).f5).length : Int) 0 ((rd_T69 a6 a5).f0) ((rd_T69 a6 a5).f1) ((rd_T69 a6 a5).f2) ((rd_T69 a6 a5).f3) ((rd_T69 a6 a5).f4) ((rd_T69 a6 a5).f5)) else (none)) else (none)) else (some x5)
def impl_LinksTo.l1 : Nat → Int → Int → List (S69) → Int → Int → List (S72) → Int → Int → Int → Int → Int → ByteArray → List (S89) → List (S72) → Option (Int)
 | 0, _, _, _, _, _, _, _, _, _, _, _, _, _, _ => none
 | k + 1, x1, x5, ae, af, ag, ac, ah, ab, a5, a6, a7, a8, a9, aa => if ab < ah then (if 0 ≤ ab then (if ab < (ac.length : Int) then (if a5 = 2 then (if ((rd_T72 ac ab).f0) = x1 then (impl_LinksTo.l1 k x1 (wrap64 (x5 + 1)) ae af ag ac ah (wrap64 (ab + 1)) a5 a6 a7 a8 a9 aa) else (impl_LinksTo.l1 k x1 x5 ae af ag ac ah (wrap64 (ab + 1)) a5 a6 a7 a8 a9 aa)) else (impl_LinksTo.l1 k x1 x5 ae af ag ac ah (wrap64 (ab + 1)) a5 a6 a7 a8 a9 aa)) else (none)) else (none)) else (impl_LinksTo.l0 k x1 x5 ae af (wrap64 (ag + 1)))
end
def impl_LinksTo.f (k : Nat) (a6 : Int) (a7 : List Int) (a5 : List (S69)) (a1 : Int) : Option (Int) := impl_LinksTo.l0 k a1 0 a5 (a5.length : Int) 0
set_option maxHeartbeats 8000000 in
set_option maxRecDepth 100000 in
theorem impl_LinksTo.calls (k : Nat) (b5 : Int) (b6 : Option Addr) (b7 : Nat) (ar : List Int) (ba : Option Addr) (b8 : Nat) (a6 : List (S69)) (a1 : Int) (r : Int) (w : World) (bd : Kd.C (Kd.int .i64) w b6 ar.length ar) (be : ar.length ≤ b7) (bf : Kd.C k69 w ba a6.length a6) (bg : a6.length ≤ b8) (h : impl_LinksTo.f k b5 ar a6 a1 = some r) :
  Calls Tryz.prog 75 #[.agg #[.int .i64 b5, .slice b6 ar.length b7, .slice ba a6.length b8], .int .i64 a1] w fun e w' => e = .returned (.int .i64 r) ∧ Below w.heap.size w w' := by
 have hu35 := Tryz.underlying35
 have hu69 := Tryz.underlying69
 have hu72 := Tryz.underlying72
 have HR0_1 := Aside0.mk bd
 have co := Aside0.mk be
 clear bd be
 have HR0_2 := Aside0.mk bf
 have cp := Aside0.mk bg
 clear bf bg
 have HB := Aside0.mk (Below.refl w.heap.size w)
 unfold impl_LinksTo.f at h
 have H := h
 clear h
 have H' := Aside0.mk H
 clear H
 go_enter Tryz.func75, Tryz.ntmps75
 go_wp2_with (first | ((with_reducible refine gate_dst (N := 2) rfl ?_); refine be_ 2 (cs := #[.int .i64 b5, .slice b6 ar.length b7, .slice ba a6.length b8]) 35 ?_; intro bh hg w3 hbox hb; have z_ := bx0_ th_ hb hbox hg; clear HB; obtain ⟨HB, a7, cq, cr⟩ := z_; clear hb hbox hg; have br := bb3_ a7.out))
 go_loopg [5, 13] k (fun kq v5 v13 w' => ∃ (bb : Int) (a5 : Int), v5 = .int .i64 bb ∧ v13 = .int .i64 a5 ∧ Aside0 (impl_LinksTo.l0 kq a1 bb a6 (a6.length : Int) a5 = some r) ∧ Aside0 (kq ≤ k) ∧ Aside0 (w'.heap[bh]? = some (.cells #[.int .i64 b5, (.slice b6 ar.length b7), (.slice ba a6.length b8)] 35 (0, 0))) ∧ Aside0 (Below w.heap.size w w'))
 case atStart => exact ⟨(0), (0), tq_3, tq_3, H', ⟨Nat.le_refl _⟩, ⟨(kb_ a7)⟩, ⟨th_⟩⟩
 case round =>
 clear H'
 try clear p2; try clear br
 obtain ⟨bb, a5, rfl, rfl, HA, HK1, a7, HB⟩ := hrel
 cases gk with
 | zero => exact absurd HA.out (by simp [impl_LinksTo.l0])
 | succ k1 =>
 have H := HA.out
 clear HA
 simp only [impl_LinksTo.l0] at H
 by_cases c5 : a5 < (a6.length : Int)
 rotate_left
 ·rw [if_neg c5] at H
  have bs := decide_eq_false c5
  clear c5
  obtain rfl := Option.some.inj H
  go_wp2
  go_ret
  exact ⟨tq_1, th_⟩
 rw [if_pos c5] at H
 have bs := decide_eq_true c5
 clear c5
 obtain ⟨c6, H⟩ := fc_ H
 have cl := decide_eq_true c6
 clear c6
 obtain ⟨c7, H⟩ := fc_ H
 have cm := decide_eq_true c7
 clear c7
 have H' := Aside0.mk H
 clear H
 have p445 : 0 ≤ (a5 : Int) := of_decide_eq_true tq_2
 have q445 : a5 < (a6.length : Int) := of_decide_eq_true tq_2
 obtain ⟨bu, bi, bj, bl, bm, cn, aj, ak, al, am, an, ao, b0, b1, b2, b3⟩ := at_T69 HR0_2.out a5 p445 q445
 cases cn
 replace aj := hx_ HB.out aj
 replace ak := hx_ HB.out ak
 replace al := hx_ HB.out al
 replace am := hx_ HB.out am
 replace an := hx_ HB.out an
 replace ao := hx_ HB.out ao
 have ci := Aside0.mk b1
 have cj := Aside0.mk b0
 clear b1 b0
 have b4 := Aside0.mk b3
 have ck := Aside0.mk b2
 clear b3 b2
 replace p445 := eq_true p445
 replace q445 := eq_true q445
 go_wp2_with (first | ((with_reducible refine gate_dst (N := 7) rfl ?_); refine be_ 7 (cs := #[.int .i64 0, .int .i64 0, .int .i64 0, .string (⟨#[]⟩ : ByteArray), .slice none 0 0, .slice none 0 0]) 69 ?_; intro bv hg w8 hbox hb; have z_ := bx1_ (kb_ a7) th_ hb hbox hg; clear a7 HB; obtain ⟨a7, HB, ab, ct, cu, ac, ae⟩ := z_; clear hb hbox hg; obtain ⟨ap, aq⟩ := an2_ ae ac; have bc := bb6_ ab.out))
 go_loopg [5, 20] k1 (fun kq v5 v20 w' => ∃ (az : Int) (a8 : Int), v5 = .int .i64 az ∧ v20 = .int .i64 a8 ∧ Aside0 (impl_LinksTo.l1 kq a1 az a6 (a6.length : Int) a5 ((rd_T69 a6 a5).f5) (((rd_T69 a6 a5).f5).length : Int) a8 ((rd_T69 a6 a5).f0) ((rd_T69 a6 a5).f1) ((rd_T69 a6 a5).f2) ((rd_T69 a6 a5).f3) ((rd_T69 a6 a5).f4) ((rd_T69 a6 a5).f5) = some r) ∧ Aside0 (kq ≤ k1) ∧ Aside0 (w'.heap[bh]? = some (.cells #[.int .i64 b5, (.slice b6 ar.length b7), (.slice (some bu) a6.length b8)] 35 (0, 0))) ∧ Aside0 (w'.heap[bv]? = some (.cells #[.int .i64 ((rd_T69 a6 a5).f0), .int .i64 ((rd_T69 a6 a5).f1), .int .i64 ((rd_T69 a6 a5).f2), .string ((rd_T69 a6 a5).f3), (.slice bi ((rd_T69 a6 a5).f4).length bj), (.slice bl ((rd_T69 a6 a5).f5).length bm)] 69 (0, 0))) ∧ Aside0 (Below w.heap.size w w'))
 case atStart => exact ⟨(bb), (0), tq_3, tq_3, H', ⟨Nat.le_refl _⟩, ⟨tb_⟩, ⟨tb_⟩, ⟨th_⟩⟩
 case round =>
 clear H'
 try clear p2; try clear c4; try clear p4; try clear q4; try clear hx4; try clear c5; try clear bs; try clear c6; try clear cl; try clear c7; try clear cm; try clear c9; try clear bc; try clear br; try clear bc; try clear br; try clear aj; try clear ak; try clear al; try clear am; try clear an; try clear ao; try clear p2; try clear p445; try clear q445
 obtain ⟨az, a8, rfl, rfl, HA, HK2, a7, ab, HB⟩ := hrel
 cases gk with
 | zero => exact absurd HA.out (by simp [impl_LinksTo.l1])
 | succ k2 =>
 have H := HA.out
 clear HA
 simp only [impl_LinksTo.l1] at H
 by_cases bq : a8 < (((rd_T69 a6 a5).f5).length : Int)
 rotate_left
 ·rw [if_neg bq] at H
  have bw := decide_eq_false bq
  clear bq
  have H' := Aside0.mk H
  clear H
  go_wp2
  go_roundg k2
  case measure => have := HK1.out; have := HK2.out; omega
  case rel => exact ⟨(az), (wrap64 (a5 + 1)), tq_3, tq_3, H', ⟨tq_34⟩, ⟨(kb_ a7)⟩, ⟨th_⟩⟩
 rw [if_pos bq] at H
 have bw := decide_eq_true bq
 clear bq
 obtain ⟨cv, H⟩ := fc_ H
 have cw := decide_eq_true cv
 clear cv
 obtain ⟨cx, H⟩ := fc_ H
 have cy := decide_eq_true cx
 clear cx
 by_cases bn : ((rd_T69 a6 a5).f0) = 2
 rotate_left
 ·rw [if_neg bn] at H
  have bx := beq_eq_false_iff_ne.mpr bn
  have bz := bne_iff_ne.mpr bn
  have H' := Aside0.mk H
  clear H
  have p447 : 0 ≤ (a8 : Int) := of_decide_eq_true tq_2
  have q447 : a8 < (((rd_T69 a6 a5).f5).length : Int) := of_decide_eq_true tq_2
  obtain ⟨ca, bo, a9, aa⟩ := at_T72 b4.out a8 p447 q447
  cases bo
  replace a9 := hx_ HB.out a9
  replace aa := hx_ HB.out aa
  replace p447 := eq_true p447
  replace q447 := eq_true q447
  go_wp2_with (first | ((with_reducible refine gate_dst (N := 9) rfl ?_); refine be_ 9 (cs := #[.int .i64 0, .string (⟨#[]⟩ : ByteArray)]) 72 ?_; intro cb hg d1 hbox hb; have z_ := bx2_ (kb_ a7) (kb_ ab) th_ hb hbox hg; clear a7 ab HB; obtain ⟨a7, ab, HB, b9, cc, cd, af, ag, ah, ai⟩ := z_; clear hb hbox hg; obtain ⟨au, av, aw, ax⟩ := an4_ ag af ai ah; have cz := bb2_ b9.out; obtain ⟨ap, aq⟩ := an2_ ae ac; have d0 := bb6_ ab.out))
  go_roundg k2
  case measure => have := HK1.out; have := HK2.out; omega
  case rel => exact ⟨(az), (wrap64 (a8 + 1)), tq_3, tq_3, H', ⟨tq_34⟩, ⟨tb_⟩, ⟨tb_⟩, ⟨th_⟩⟩
 rw [if_pos bn] at H
 have bx := beq_iff_eq.mpr bn
 have bz := bne_eq_false_iff_eq.mpr bn
 clear bn
 have ce := Aside0.mk H
 clear H
 have p447 : 0 ≤ (a8 : Int) := of_decide_eq_true tq_2
 have q447 : a8 < (((rd_T69 a6 a5).f5).length : Int) := of_decide_eq_true tq_2
 obtain ⟨ca, bo, a9, aa⟩ := at_T72 b4.out a8 p447 q447
 cases bo
 replace a9 := hx_ HB.out a9
 replace aa := hx_ HB.out aa
 replace p447 := eq_true p447
 replace q447 := eq_true q447
 go_upto_if 32 with (first | ((with_reducible refine gate_dst (N := 9) rfl ?_); refine be_ 9 (cs := #[.int .i64 0, .string (⟨#[]⟩ : ByteArray)]) 72 ?_; intro cb hg d2 hbox hb; have z_ := bx2_ (kb_ a7) (kb_ ab) th_ hb hbox hg; clear a7 ab HB; obtain ⟨a7, ab, HB, b9, cc, cd, af, ag, ah, ai⟩ := z_; clear hb hbox hg; obtain ⟨au, av, aw, ax⟩ := an4_ ag af ai ah; have cf := bb2_ b9.out; obtain ⟨ap, aq⟩ := an2_ ae ac; have cg := bb6_ ab.out))
 (try simp only [Act.put, List.setIfInBounds_toArray, List.set_cons_zero, List.set_cons_succ])
 (try clear aq av ap ax au aw)
 (try clear bc)
 (try clear cf)
 (try clear cg)
 (try clear br)
 (try clear bc)
 (try clear cf)
 (try clear cg)
 (try clear br)
 (try clear aj ak al am an ao)
 (try clear a9 aa)
 have H := ce.out
 clear ce
 by_cases bp : ((rd_T72 ((rd_T69 a6 a5).f5) a8).f0) = a1
 rotate_left
 ·rw [if_neg bp] at H
  have ay := beq_eq_false_iff_ne.mpr bp
  have ch := bne_iff_ne.mpr bp
  (first | rw [ay] | (simp only [i64_w, i32_w]; rw [ay]) | skip)
  have H' := Aside0.mk H
  clear H
  go_wp2
  go_roundg k2
  case measure => have := HK1.out; have := HK2.out; omega
  case rel => exact ⟨(az), (wrap64 (a8 + 1)), tq_3, tq_3, H', ⟨tq_34⟩, ⟨tb_⟩, ⟨tb_⟩, ⟨th_⟩⟩
 rw [if_pos bp] at H
 have ay := beq_iff_eq.mpr bp
 have ch := bne_eq_false_iff_eq.mpr bp
 clear bp
 (first | rw [ay] | (simp only [i64_w, i32_w]; rw [ay]) | skip)
 have H' := Aside0.mk H
 clear H
 go_wp2
 go_roundg k2
 case measure => have := HK1.out; have := HK2.out; omega
 case rel => exact ⟨(wrap64 (az + 1)), (wrap64 (a8 + 1)), tq_3, tq_3, H', ⟨tq_34⟩, ⟨tb_⟩, ⟨tb_⟩, ⟨th_⟩⟩

end Go.Proofs.YtleoknilacjakaaGreat.PFnExactChanged
