/- Contracts of Go functions: each call returns what the Lean function beside it computes. Conditions: as each theorem states them. -/
import Derived.Test.YtleoknilacjakaaGreatPkFnExactChanged
import Derived.Test.YtleoknilacjakaaGreatPFnExactChangedx1
import Derived.Test.YtleoknilacjakaaGreatPFnExactChangedx21
import Derived.Test.YtleoknilacjakaaGreatPFnExactChangedx17
namespace Go.Proofs.YtleoknilacjakaaGreat.PFnExactChanged
open Go.RowKit Go.Proofs.YtleoknilacjakaaGreatW.PrintWords Go.Proofs.YtleoknilacjakaaGreatW.PrintLast Go.Proofs.YtleoknilacjakaaGreatW.PrintMore
attribute [local go_sem] max2_int min2_int max_two min_two max_three min_three max_four min_four   -- for this text's walks alone
set_option linter.unusedVariables false
set_option linter.unusedSimpArgs false

/-! ### slices_Reverse_string: function 110 -/
def slices_Reverse_string.l0 : Nat → List ByteArray → Int → Int → Option (List ByteArray)
 | 0, _, _, _ => none
 | k + 1, x0, x2, x3 => if x2 < x3 then (if 0 ≤ x3 then (if x3 < (x0.length : Int) then (if 0 ≤ x2 then (if x2 < (x0.length : Int) then (slices_Reverse_string.l0 k ((x0.set (x2 : Int).toNat (rdOf ByteArray.empty x0 x3)).set (x3 : Int).toNat (rdOf ByteArray.empty x0 x2)) (wrap64 (x2 + 1)) (wrap64 (x3 - 1))) else (none)) else (none)) else (none)) else (none)) else (some x0)
def slices_Reverse_string.f (k : Nat) (l0 : List ByteArray) : Option (List ByteArray) := slices_Reverse_string.l0 k l0 0 (wrap64 ((l0.length : Int) - 1))
def slices_Reverse_string.T3 : Bool × List (List Nat × List Nat) := (true, [([], []), ([], []), ([], []), ([], []), ([], []), ([], []), ([4, 5], [4, 5]), ([6], [6]), ([], []), ([], []), ([8, 9], [8, 9]), ([10], [10]), ([0, 1, 0, 1, 4, 5, 6, 7, 11], [0, 1]), ([12, 7, 0, 1, 4, 5, 6, 7, 11], [7, 12]), ([2, 3, 0, 1, 2, 3, 4, 5, 6, 7, 8, 9, 10, 11, 12, 13], [2, 3]), ([14, 11, 13, 0, 1, 2, 3, 4, 5, 6, 7, 8, 9, 10, 11, 12, 13], [11, 14])])
def slices_Reverse_string.B3 : List Nat := [0, 0, 0, 0, 0, 0, 48, 112, 0, 0, 768, 1792, 4083, 8179, 16383, 32767]
theorem slices_Reverse_string.tab3 : rtab .any (opsOf Tryz.f110 3) = slices_Reverse_string.T3 := by kernel_rfl
theorem slices_Reverse_string.bits3 : waitsOk slices_Reverse_string.T3.2 slices_Reverse_string.B3 = true := by kernel_rfl
set_option maxHeartbeats 8000000 in
set_option maxRecDepth 100000 in
theorem slices_Reverse_string.calls (k : Nat) (P0_ : Nat → Prop) (u9000_ : Value) (l0 : List ByteArray) (r : List ByteArray) (w0 w : World) (hB : Below w0.heap.size w0 w) (ho0 : Kd.R Kd.string 9 w w0.heap.size P0_ u9000_ l0) (h : slices_Reverse_string.f k l0 = some r) :
  Calls Tryz.prog 110 #[u9000_] w fun e w' => e = .returned (.tuple #[]) ∧ Kd.R Kd.string 9 w' w0.heap.size (fun k_ => (P0_ k_ ∨ w.heap.size ≤ k_)) u9000_ r ∧ Below w0.heap.size w0 w' ∧ Kept w w' (fun k_ => P0_ k_) := by
 have HO0 := Aside0.mk (show Kd.R Kd.string 9 w w0.heap.size (fun k_ => (P0_ k_ ∨ w.heap.size ≤ k_)) u9000_ l0 from Kd.R_mono ho0 (fun k_ hk => (.inl hk)))
 have HK := Aside0.mk (Kept.refl w (fun k_ => P0_ k_))
 have HW0 := Aside0.mk hB.size
 have HB := Aside0.mk hB
 clear hB
 unfold slices_Reverse_string.f at h
 have H := h
 clear h
 have H' := Aside0.mk H
 clear H
 obtain ⟨Ao2, au, av⟩ := Kd.R_slice HO0.out
 subst av
 go_enter Tryz.func110, Tryz.ntmps110
 go_wp2
 go_loopg [2, 3] k (fun kq v2 v3 w' => ∃ (a7 : List ByteArray) (a5 : Int) (a6 : Int), v2 = .int .i64 a5 ∧ v3 = .int .i64 a6 ∧ Aside0 (slices_Reverse_string.l0 kq a7 a5 a6 = some r) ∧ Aside0 (kq ≤ k) ∧ Aside0 (Kd.R Kd.string 9 w' w0.heap.size (fun k_ => (P0_ k_ ∨ w.heap.size ≤ k_)) (.slice Ao2 l0.length au) a7) ∧ Aside0 (Kept w w' (fun k_ => P0_ k_)) ∧ Aside0 (Below w0.heap.size w0 w'))
 case atStart => exact ⟨(l0), (0), (wrap64 ((l0.length : Int) - 1)), tq_3, tq_3, H', ⟨Nat.le_refl _⟩, ⟨(raR_ HO0)⟩, ⟨tq_4⟩, ⟨th_⟩⟩
 case round =>
 clear H'
 try clear c1; try clear p2
 obtain ⟨a7, a5, a6, rfl, rfl, HA, HK1, HO_0, HK, HB⟩ := hrel
 have aa := (Kd.R_reads' HO_0.out).1
 rw [aa] at HO_0
 (try simp only [aa])
 cases gk with
 | zero => exact absurd HA.out (by simp [slices_Reverse_string.l0])
 | succ k1 =>
 have H := HA.out
 clear HA
 simp only [slices_Reverse_string.l0] at H
 by_cases c3 : a5 < a6
 rotate_left
 ·rw [if_neg c3] at H
  have al := decide_eq_false c3
  clear c3
  obtain rfl := Option.some.inj H
  go_wp2
  first | go_end0 | ((try simp only [Exit.inBlock, Exit.then]); refine bodyPost_ret (results_none rfl _ _ _) rfl ?_)
  exact ⟨tq_1, (by first | exact (raR_ HO_0) | (simp only [aa]; exact (raR_ HO_0))), th_, tq_4⟩
 rw [if_pos c3] at H
 have al := decide_eq_true c3
 clear c3
 obtain ⟨c4, H⟩ := fc_ H
 have aw := decide_eq_true c4
 clear c4
 obtain ⟨c5, H⟩ := fc_ H
 have ax := decide_eq_true c5
 clear c5
 obtain ⟨c6, H⟩ := fc_ H
 have ay := decide_eq_true c6
 clear c6
 obtain ⟨c7, H⟩ := fc_ H
 have az := decide_eq_true c7
 clear c7
 obtain ⟨ab, hy494⟩ : ∃ y_ : List ByteArray, y_ = (a7.set (a5 : Int).toNat (rdOf ByteArray.empty a7 a6)) := ⟨_, rfl⟩
 replace H : (slices_Reverse_string.l0 k1 (ab.set (a6 : Int).toNat (rdOf ByteArray.empty a7 a5)) (wrap64 (a5 + 1)) (wrap64 (a6 - 1))) = some r := by first | (rw [hy494]; with_reducible exact H) | (have H2_ := (Option.bind_some _ _).symm.trans H; rw [hy494]; with_reducible exact H2_) | (have H2_ := (Option.bind_some _ _).symm.trans H; with_reducible exact H2_) | with_reducible exact H | (rw [hy494]; exact H) | exact H
 have Ny494 := Aside0.mk hy494
 clear hy494
 obtain ⟨ac, hy495⟩ : ∃ y_ : List ByteArray, y_ = (ab.set (a6 : Int).toNat (rdOf ByteArray.empty a7 a5)) := ⟨_, rfl⟩
 replace H : (slices_Reverse_string.l0 k1 ac (wrap64 (a5 + 1)) (wrap64 (a6 - 1))) = some r := by first | (rw [hy495]; with_reducible exact H) | (have H2_ := (Option.bind_some _ _).symm.trans H; rw [hy495]; with_reducible exact H2_) | (have H2_ := (Option.bind_some _ _).symm.trans H; with_reducible exact H2_) | with_reducible exact H | (rw [hy495]; exact H) | exact H
 have Ny495 := Aside0.mk hy495
 clear hy495
 have H' := Aside0.mk H
 clear H
 try go_wp2
 have z_ := p_ (Kd.R_drew HO_0.out) <| p_ (Kept.drew HK.out) <| a_ (below_drew1 HB.out)
 clear HO_0 HK HB
 obtain ⟨HO_0, HK, HB⟩ := z_
 have p492 : 0 ≤ (a6 : Int) := of_decide_eq_true tq_2
 have q492 : a6 < (a7.length : Int) := of_decide_eq_true tq_2
 obtain ⟨ae, am, a8⟩ := Kd.at_string (Kd.R_reads' HO_0.out).2.2 a6 p492 q492
 cases am
 replace p492 := eq_true p492
 replace q492 := eq_true q492
 have p493 : 0 ≤ (a5 : Int) := of_decide_eq_true tq_2
 have q493 : a5 < (a7.length : Int) := of_decide_eq_true tq_2
 obtain ⟨af, an, a9⟩ := Kd.at_string (Kd.R_reads' HO_0.out).2.2 a5 p493 q493
 obtain rfl : ae = af := (by injection an)
 replace p493 := eq_true p493
 replace q493 := eq_true q493
 have p8 : 0 ≤ (a5 : Int) := of_decide_eq_true tq_2
 have q8 : (a5 : Int) < ((a7.length : Int) : Int) := of_decide_eq_true tq_2
 obtain ⟨ak, b2, ao, ap, b0, b3, aq⟩ := Kd.R_form HO_0.out (by omega)
 (first | cases ao | (injection ao with ea_ en_ ec_; (first | subst ea_ | (injection ea_ with ea_; subst ea_)); subst ec_; clear en_))
 have ar := Aside0.mk ap
 have b1 := Aside0.mk aq
 clear ap b0 aq
 have HMgo8 := Aside0.mk (show (P0_ ak ∨ w.heap.size ≤ ak) from (HO_0.out.1 _ rfl))
 (first | simp only [add_plain] at a8 | skip)
 (first | simp only [add_plain] at a9 | skip)
 obtain ⟨ag, ah⟩ := Kd.R_celln (⟨#[]⟩ : ByteArray) HO_0.out (a5 : Int) p8 q8
 replace p8 := eq_true p8
 replace q8 := eq_true q8
 have HP11 := Kd.R_putn HO_0.out (a5 : Int) (rdOf ByteArray.empty a7 a6)
 rw [← Ny494.out] at HP11
 have HQ11 := Aside0.mk HP11
 clear HP11
 have p9 : 0 ≤ (a6 : Int) := of_decide_eq_true tq_2
 have q9 : (a6 : Int) < ((a7.length : Int) : Int) := of_decide_eq_true tq_2
 obtain ⟨ai, aj⟩ := Kd.R_celln (⟨#[]⟩ : ByteArray) HQ11.out (a6 : Int) p9 q9
 replace p9 := eq_true p9
 replace q9 := eq_true q9
 have HP12 := Kd.R_putn HQ11.out (a6 : Int) (rdOf ByteArray.empty a7 a5)
 rw [← Ny495.out] at HP12
 have HQ12 := Aside0.mk HP12
 clear HP12
 refine start_ (n := 16) (S := fun w' => w'.cell? ⟨ak, (a6).toNat, none⟩ = some (.string (rdOf ByteArray.empty a7 a6)) ∧ w'.cell? ⟨ak, (a5).toNat, none⟩ = some (.string (rdOf ByteArray.empty a7 a5))) (ds := [13, 15]) #[false, false, false, false, false, false, false, false, false, false, false, false, false, false, false, false] (by kernel_rfl) rfl rfl ⟨a8, a9⟩ (fun hHeld => ?_); refine with_tabW slices_Reverse_string.tab3 slices_Reverse_string.bits3 (fun HT_ HW_ => ?_)
 generalize wr.drew = b4 at HO_0 HK HB b1 HQ11 HQ12 ah aj a8 a9 ag ai hHeld ⊢
 refine yr_ 0 14 #[true, false, false, false, false, false, false, false, false, false, false, false, false, false, false, false] HT_ ?_
 refine yr_ 1 15 #[true, true, false, false, false, false, false, false, false, false, false, false, false, false, false, false] HT_ ?_
 refine yr_ 2 16 #[true, true, true, false, false, false, false, false, false, false, false, false, false, false, false, false] HT_ ?_
 refine yr_ 3 17 #[true, true, true, true, false, false, false, false, false, false, false, false, false, false, false, false] HT_ ?_
 refine yr_ 4 18 #[true, true, true, true, true, false, false, false, false, false, false, false, false, false, false, false] HT_ ?_
 refine yr_ 5 19 #[true, true, true, true, true, true, false, false, false, false, false, false, false, false, false, false] HT_ ?_
 refine yr_ 6 20 #[true, true, true, true, true, true, true, false, false, false, false, false, false, false, false, false] HT_ ?_
 refine yr_ 8 22 #[true, true, true, true, true, true, true, false, true, false, false, false, false, false, false, false] HT_ ?_
 refine yr_ 9 23 #[true, true, true, true, true, true, true, false, true, true, false, false, false, false, false, false] HT_ ?_
 refine yr_ 10 24 #[true, true, true, true, true, true, true, false, true, true, true, false, false, false, false, false] HT_ ?_
 refine tr_ 7 21 #[true, true, true, true, true, true, true, true, true, true, true, false, false, false, false, false] HT_ HW_ hHeld ?_
 refine tr_ 11 25 #[true, true, true, true, true, true, true, true, true, true, true, true, false, false, false, false] HT_ HW_ hHeld ?_
 refine yr_ 12 26 #[true, true, true, true, true, true, true, true, true, true, true, true, true, false, false, false] HT_ ?_
 refine last_ (i := 13) (N := none) #[true, true, true, true, true, true, true, true, true, true, true, true, true, true, false, false] rfl rfl (one_of HT_.out (by kernel_rfl)) (by decide) (fun K hK => ?_)
 refine skip_ (w1 := ?_) (by rfl) rfl ?_ ?_
 rotate_left
 ·go_simp
  rfl
 refine hK.out _ _ ?_
 clear hK K
 refine yr_ 14 27 #[true, true, true, true, true, true, true, true, true, true, true, true, true, true, true, false] HT_ ?_
 refine last_ (i := 15) (N := none) #[true, true, true, true, true, true, true, true, true, true, true, true, true, true, true, true] rfl rfl (one_of HT_.out (by kernel_rfl)) (by decide) (fun K hK => ?_)
 refine skip_ (w1 := ?_) (by rfl) rfl ?_ ?_
 rotate_left
 ·go_simp
  rfl
 refine hK.out _ _ ?_
 clear hK K
 refine done_ (done_of HT_.out (by kernel_rfl)) ?_
 try go_wp2
 (try simp only [← aa])
 go_roundg k1
 case measure => have := HK1.out; omega
 case rel => exact ⟨(ac), (wrap64 (a5 + 1)), (wrap64 (a6 - 1)), tq_3, tq_3, H', ⟨tq_22⟩, ⟨(by (try simp only [aa]); (with_reducible repeat (first | apply Kd.R_alloc | apply Kd.R_drewN | apply Kd.R_drew)); exact HQ12.out)⟩, ⟨(by repeat (first | (with_reducible first | exact HK.out | apply Kept.alloc | apply Kept.drewN | apply Kept.drew | refine Kept.setCell ?_ HMgo8.out _ | refine Kept.setCell ?_ HMgo8.out _) | exact HK.out))⟩, ⟨(by repeat (first | (with_reducible first | exact HB.out | apply below_alloc | apply pw_below_drewN | apply below_drew1 | refine below_set ?_ ar.out | refine below_set ?_ ar.out) | exact HB.out))⟩⟩

/-! ### impl_upwards: function 100 -/
def impl_upwards.l0 : Nat → Int → List ByteArray → Int → List Int → List (S69) → Option (List ByteArray × Bool)
 | 0, _, _, _, _, _ => none
 | k + 1, x1, x6, a6, a7, a5 => if x1 = 0 then ((slices_Reverse_string.f k x6).bind fun a9 => (some (a9, true))) else ((impl_above.f k a6 a7 a5 x1).bind fun a8 => (if a8.2.2 = true then (if (x6.length : Int) = (a5.length : Int) then (some (([] : List ByteArray), false)) else (if x6.length < 8796093022208 then (impl_upwards.l0 k a8.1 (x6 ++ [a8.2.1]) a6 a7 a5) else (none))) else (some (([] : List ByteArray), false))))
def impl_upwards.f (k : Nat) (a5 : Int) (a6 : List Int) (a7 : List (S69)) (a1 : Int) : Option (List ByteArray × Bool) := impl_upwards.l0 k a1 (([] : List ByteArray)) a5 a6 a7
set_option maxHeartbeats 8000000 in
set_option maxRecDepth 100000 in
theorem impl_upwards.calls (k : Nat) (aa : Int) (ae : Option Addr) (af : Nat) (a8 : List Int) (ag : Option Addr) (ah : Nat) (a6 : List (S69)) (a1 : Int) (r1 : List ByteArray) (r2 : Bool) (w : World) (al : Kd.C (Kd.int .i64) w ae a8.length a8) (am : a8.length ≤ af) (an : Kd.C k69 w ag a6.length a6) (ao : a6.length ≤ ah) (h : impl_upwards.f k aa a8 a6 a1 = some (r1, r2)) :
  Calls Tryz.prog 100 #[.agg #[.int .i64 aa, .slice ae a8.length af, .slice ag a6.length ah], .int .i64 a1] w fun e w' => ∃ v0_ : Value, e = .returned (.tuple #[v0_, .bool r2]) ∧ Kd.R Kd.string 9 w' w.heap.size (fun _ => True) v0_ r1 ∧ Below w.heap.size w w' := by
 have hu35 := Tryz.underlying35
 have HR0_1 := Aside0.mk al
 have ap := Aside0.mk am
 clear al am
 have HR0_2 := Aside0.mk an
 have aq := Aside0.mk ao
 clear an ao
 have HB := Aside0.mk (Below.refl w.heap.size w)
 unfold impl_upwards.f at h
 have H := h
 clear h
 obtain ⟨au, hy497⟩ : ∃ y_ : List ByteArray, y_ = (([] : List ByteArray)) := ⟨_, rfl⟩
 replace H : (impl_upwards.l0 k a1 au aa a8 a6) = some (r1, r2) := by first | (rw [hy497]; with_reducible exact H) | (have H2_ := (Option.bind_some _ _).symm.trans H; rw [hy497]; with_reducible exact H2_) | (have H2_ := (Option.bind_some _ _).symm.trans H; with_reducible exact H2_) | with_reducible exact H | (rw [hy497]; exact H) | exact H
 have Ny497 := Aside0.mk hy497
 clear hy497
 have H' := Aside0.mk H
 clear H
 go_enter Tryz.func100, Tryz.ntmps100
 go_wp2_with (first | ((with_reducible refine gate_dst (N := 2) rfl ?_); (try (refine gate_guard (by rfl) ?_; dsimp only)); refine be_ 2 (cs := #[.int .i64 aa, .slice ae a8.length af, .slice ag a6.length ah]) 35 ?_; intro ar hg w3 hbox hb; have z_ := bx0_ th_ hb hbox hg; clear HB; obtain ⟨HB, a5, ba, av⟩ := z_; clear hb hbox hg) | ((with_reducible refine gate_dst (N := 10) rfl ?_); (try (refine gate_guard (by rfl) ?_; dsimp only)); refine Kd.R_lit Kd.string _ 9 ?hg (N := 10) ?hd (xs := ([] : List ByteArray)) (inner := []) (ok := fun _ => True) (okp := fun _ => True) ?hr ?hp (fun _ hk => hk) trivial (Below.refl _ _) (Nat.le_refl _) (by simp) ?_; (case hd => rfl); (case hg => rfl); (case hr => first | (go_simp; done) | (go_simp; rfl)); (case hp => exact (Reps.none _ _)); intro v498 w4 ho5 hb hg_ hnew_; clear hg_ hnew_; (first | rw [← Ny497.out] at ho5 | (simp only [Int.reduceToNat] at ho5; rw [← Ny497.out] at ho5)); have z_ := p_ (Kd.R_lower ho5 (below_size th_)) <| bw1_ (kb_ a5) th_ hb; clear a5 HB; obtain ⟨HO499, a5, HB⟩ := z_; clear hb ho5))
 go_loopg [1, 6] k (fun kq v1 v6 w' => ∃ (ab : Int) (a9 : List ByteArray), v1 = .int .i64 ab ∧ Aside0 (impl_upwards.l0 kq ab a9 aa a8 a6 = some (r1, r2)) ∧ Aside0 (kq ≤ k) ∧ Aside0 (Kd.R Kd.string 9 w' w.heap.size (fun _ => True) v6 a9) ∧ Aside0 (w'.heap[ar]? = some (.cells #[.int .i64 aa, (.slice ae a8.length af), (.slice ag a6.length ah)] 35 (0, 0))) ∧ Aside0 (Below w.heap.size w w'))
 case atStart => exact ⟨(a1), (au), tq_3, H', ⟨Nat.le_refl _⟩, ⟨(raR_ HO499)⟩, ⟨(kb_ a5)⟩, ⟨th_⟩⟩
 case round =>
 clear H'
 try clear c1; try clear p2
 obtain ⟨ab, a9, rfl, HA, HK1, a7, a5, HB⟩ := hrel
 cases gk with
 | zero => exact absurd HA.out (by simp [impl_upwards.l0])
 | succ k1 =>
 have H := HA.out
 clear HA
 simp only [impl_upwards.l0] at H
 by_cases c6 : ab = 0
 ·rw [if_pos c6] at H
  have b3 := beq_iff_eq.mpr c6
  have b4 := bne_eq_false_iff_eq.mpr c6
  clear c6
  obtain ⟨b5, A7, H⟩ := bd_ H
  simp only [Option.some.injEq, Prod.mk.injEq] at H
  obtain ⟨rfl, rfl⟩ := H
  obtain ⟨Ao8, b6, bd⟩ := Kd.R_slice a7.out
  subst bd
  go_wp2_with (first | ((with_reducible refine gate_callee (f := 110) rfl ?_); refine goesL_ (some 36) rfl rfl Tryz.func110 (by kernel_rfl) rfl #[.slice Ao8 a9.length b6] rfl tq_0 ?_; (with_reducible refine (slices_Reverse_string.calls k1 (fun k_ => some k_ = (.slice Ao8 a9.length b6 : Value).ownBlock) (.slice Ao8 a9.length b6) a9 b5 w _ ?side1 ?side2 A7.out).mono ?_); (case side1 => repeat (first | (with_reducible first | exact HB.out | apply below_alloc | apply pw_below_drewN | apply below_drew1 | refine below_set ?_ av.out) | exact HB.out)); (case side2 => exact Kd.R_tight rfl a7.out); rintro e w9 ⟨rfl, hy0, hb, hkp⟩; refine ⟨_, rfl, ?_⟩; have z_ := p_ (Kd.R_reok rfl hy0 (fun k_ e_ => a7.out.1 k_ e_)) <| p_ (blk_kept (kb_ a5) hkp (fun hs_ => (fun e_ => (Kd.R_ne a7.out a5.out (by decide)) e_) hs_)) <| a_ (hb); clear a7 a5 HB; obtain ⟨a7, a5, HB⟩ := z_; (try clear hb); (try clear hkp); (try clear hy0)))
  go_ret2
  exact ⟨_, tq_1, (raR_ a7), th_⟩
 rw [if_neg c6] at H
 have b3 := beq_eq_false_iff_ne.mpr c6
 have b4 := bne_iff_ne.mpr c6
 obtain ⟨⟨ak, ai, b7⟩, bb, H⟩ := bd_ H
 try dsimp -simprocs only at H
 by_cases b2 : b7 = true
 rotate_left
 ·replace b2 := Bool.eq_false_iff.mpr b2
  subst b2
  rw [if_neg nf_] at H
  simp only [Option.some.injEq, Prod.mk.injEq] at H
  obtain ⟨rfl, rfl⟩ := H
  have be := bb3_ a5.out
  go_wp2_with (first | ((with_reducible refine gate_callee (f := 109) rfl ?_); refine goesL_ (some 16) rfl rfl Tryz.func109 (by kernel_rfl) rfl #[.agg #[.int .i64 aa, .slice ae a8.length af, .slice ag a6.length ah], .int .i64 ab] rfl tq_0 ?_; (with_reducible refine (impl_above.calls k1 aa _ _ a8 _ _ a6 ab ak ai false _ ?side1 ?side2 ?side3 ?side4 bb.out).mono ?_); (case side1 => exact tq_21); (case side2 => exact ap.out); (case side3 => exact tq_27); (case side4 => exact aq.out); rintro e bf ⟨rfl, hb⟩; refine ⟨_, rfl, ?_⟩; have z_ := p_ (Kd.R_below (raR_ a7) hb) <| bw1_ (kb_ a5) th_ hb; clear a7 a5 HB; obtain ⟨a7, a5, HB⟩ := z_; (try clear hb)))
  go_ret2
  exact ⟨_, tq_1, tq_26, th_⟩
 subst b2
 rw [if_pos rfl] at H
 have aw := Aside0.mk H
 clear H
 have ax := bb3_ a5.out
 go_upto_if 29 with (first | ((with_reducible refine gate_callee (f := 109) rfl ?_); refine goesL_ (some 16) rfl rfl Tryz.func109 (by kernel_rfl) rfl #[.agg #[.int .i64 aa, .slice ae a8.length af, .slice ag a6.length ah], .int .i64 ab] rfl tq_0 ?_; (with_reducible refine (impl_above.calls k1 aa _ _ a8 _ _ a6 ab ak ai true _ ?side1 ?side2 ?side3 ?side4 bb.out).mono ?_); (case side1 => exact tq_21); (case side2 => exact ap.out); (case side3 => exact tq_27); (case side4 => exact aq.out); rintro e bg ⟨rfl, hb⟩; refine ⟨_, rfl, ?_⟩; have z_ := p_ (Kd.R_below (raR_ a7) hb) <| bw1_ (kb_ a5) th_ hb; clear a7 a5 HB; obtain ⟨a7, a5, HB⟩ := z_; (try clear hb); obtain ⟨Ao15, b8, b9⟩ := Kd.R_slice a7.out; subst b9; have ay := bb3_ a5.out))
 (try simp only [Act.put, List.setIfInBounds_toArray, List.set_cons_zero, List.set_cons_succ])
 (try clear ax)
 (try clear ay)
 (try clear ax)
 (try clear ay)
 have H := aw.out
 clear aw
 by_cases aj : (a9.length : Int) = (a6.length : Int)
 ·rw [if_pos aj] at H
  have ac := beq_iff_eq.mpr aj
  have az := bne_eq_false_iff_eq.mpr aj
  have b0 : (a9.length == a6.length) = true := by first | simpa using aj | (simp at aj ⊢; omega)
  clear aj
  (first | rw [ac] | (simp only [i64_w, i32_w]; rw [ac]) | skip)
  simp only [Option.some.injEq, Prod.mk.injEq] at H
  obtain ⟨rfl, rfl⟩ := H
  go_wp2
  go_ret2
  exact ⟨_, tq_1, tq_26, th_⟩
 rw [if_neg aj] at H
 have ac := beq_eq_false_iff_ne.mpr aj
 have az := bne_iff_ne.mpr aj
 have b0 : (a9.length == a6.length) = false := by first | simpa using aj | (simp at aj ⊢; omega)
 (first | rw [ac] | (simp only [i64_w, i32_w]; rw [ac]) | skip)
 obtain ⟨bc, H⟩ := fc_ H
 have LMc18 := Aside0.mk bc
 clear bc
 obtain ⟨b1, hy504⟩ : ∃ y_ : List ByteArray, y_ = (a9 ++ [ai]) := ⟨_, rfl⟩
 replace H : (impl_upwards.l0 k1 ak b1 aa a8 a6) = some (r1, r2) := by first | (rw [hy504]; with_reducible exact H) | (have H2_ := (Option.bind_some _ _).symm.trans H; rw [hy504]; with_reducible exact H2_) | (have H2_ := (Option.bind_some _ _).symm.trans H; with_reducible exact H2_) | with_reducible exact H | (rw [hy504]; exact H) | exact H
 have Ny504 := Aside0.mk hy504
 clear hy504
 have H' := Aside0.mk H
 clear H
 go_wp2_with (first | ((with_reducible refine gate_builtin (b := .append) (xs := #[.tmp 30, .tmp 32]) rfl ?_); (try (refine gate_guard (by rfl) ?_; dsimp only)); at_builtin; refine Kd.R_append Kd.string (w0 := w) w.heap.size rfl (.tmp 30) (.tmp 32) 75 9 (.string ⟨#[]⟩) 16 rfl Tryz.underlying75 info9 rfl (by decide) (by omega) (.slice Ao15 a9.length b8) a9 ai [.string ai] (fun _ => True) (fun _ => False) rfl rfl ?aP (fun _ hk => hk.elim) ?aF ?aO ?aB ?aS ?aL ?_; (case aP => exact rfl); (case aB => exact th_); (case aF => exact (fun _ _ => trivial)); (case aO => exact (raR_ a7)); (case aS => exact (below_size th_)); (case aL => have := LMc18.out; omega); intro v505 bh ho hb hg hat; rw [← Ny504.out] at ho; have z_ := p_ (blk_grown (g := ar) (o := .cells #[.int .i64 aa, .slice ae a8.length af, .slice ag a6.length ah] 35 (0, 0)) (kb_ a5) hg (Kd.R_ne a7.out a5.out (by decide))) <| p_ (hb) <| a_ (ho); clear a5 HB a7; obtain ⟨a5, HB, HO506⟩ := z_; clear ho hb hg hat))
 go_roundg k1
 case measure => have := HK1.out; omega
 case rel => exact ⟨(ak), (b1), tq_3, H', ⟨tq_22⟩, ⟨(raR_ HO506)⟩, ⟨(kb_ a5)⟩, ⟨th_⟩⟩

/-! ### impl_DepthOf: function 79 -/
def impl_DepthOf.f (k : Nat) (a6 : Int) (a7 : List Int) (a8 : List (S69)) (a1 : Int) : Option (Int) := (impl_upwards.f k a6 a7 a8 a1).bind fun a5 => (if a5.2 = true then (some (a5.1.length : Int)) else (some (-1)))
set_option maxHeartbeats 8000000 in
set_option maxRecDepth 100000 in
theorem impl_DepthOf.calls (k : Nat) (a8 : Int) (a9 : Option Addr) (aa : Nat) (a5 : List Int) (ab : Option Addr) (ac : Nat) (a6 : List (S69)) (a1 : Int) (r : Int) (w : World) (ae : Kd.C (Kd.int .i64) w a9 a5.length a5) (af : a5.length ≤ aa) (ag : Kd.C k69 w ab a6.length a6) (ah : a6.length ≤ ac) (h : impl_DepthOf.f k a8 a5 a6 a1 = some r) :
  Calls Tryz.prog 79 #[.agg #[.int .i64 a8, .slice a9 a5.length aa, .slice ab a6.length ac], .int .i64 a1] w fun e w' => e = .returned (.int .i64 r) ∧ Below w.heap.size w w' := by
 have hu35 := Tryz.underlying35
 have HR0_1 := Aside0.mk ae
 have ai := Aside0.mk af
 clear ae af
 have HR0_2 := Aside0.mk ag
 have aj := Aside0.mk ah
 clear ag ah
 have HB := Aside0.mk (Below.refl w.heap.size w)
 unfold impl_DepthOf.f at h
 have H := h
 clear h
 obtain ⟨⟨al, ak⟩, A3, H⟩ := bd_ H
 try dsimp -simprocs only at H
 have am := Aside0.mk H
 clear H
 go_enter Tryz.func79, Tryz.ntmps79
 go_upto_if 14 with (first | ((with_reducible refine gate_dst (N := 2) rfl ?_); refine be_ 2 (cs := #[.int .i64 a8, .slice a9 a5.length aa, .slice ab a6.length ac]) 35 ?_; intro an hg w5 hbox hb; have z_ := bx0_ th_ hb hbox hg; clear HB; obtain ⟨HB, a7, ao, ap⟩ := z_; clear hb hbox hg; have aq := bb3_ a7.out) | ((with_reducible refine gate_callee (f := 100) rfl ?_); refine goesL_ (some 10) rfl rfl Tryz.func100 (by kernel_rfl) rfl #[.agg #[.int .i64 a8, .slice a9 a5.length aa, .slice ab a6.length ac], .int .i64 a1] rfl tq_0 ?_; (with_reducible refine (impl_upwards.calls k a8 _ _ a5 _ _ a6 a1 al ak _ ?side1 ?side2 ?side3 ?side4 A3.out).mono ?_); (case side1 => exact tq_21); (case side2 => exact ai.out); (case side3 => exact tq_27); (case side4 => exact aj.out); rintro e w7 ⟨v509, rfl, ho0, hb⟩; refine ⟨_, rfl, ?_⟩; have z_ := p_ (Kd.R_lower ho0 (below_size th_)) <| bw1_ (kb_ a7) th_ hb; clear a7 HB; obtain ⟨HO510, a7, HB⟩ := z_; (try clear hb); (try clear ho0)))
 (try simp only [Act.put, List.setIfInBounds_toArray, List.set_cons_zero, List.set_cons_succ])
 (try clear aq)
 have H := am.out
 clear am
 by_cases c8 : ak = true
 rotate_left
 ·replace c8 := Bool.eq_false_iff.mpr c8
  subst c8
  rw [if_neg nf_] at H
  obtain rfl := Option.some.inj H
  go_wp2
  go_ret
  exact ⟨tq_1, th_⟩
 subst c8
 rw [if_pos rfl] at H
 obtain rfl := Option.some.inj H
 obtain ⟨Ao9, au, ar⟩ := Kd.R_slice HO510.out
 subst ar
 go_wp2
 go_ret
 exact ⟨tq_1, th_⟩

/-! ### impl_areInodes: function 51 -/
mutual
def impl_areInodes.l0 : Nat → List (S69) → Int → Int → Int → List Int → List (S69) → Option (Bool)
 | 0, _, _, _, _, _, _ => none
 | k + 1, x7, x8, x9, a5, a6, a7 => if x9 < x8 then (if 0 ≤ x9 then (if x9 < (x7.length : Int) then ((impl_LinksTo.f k a5 a6 a7 x9).bind fun a8 => ((impl_InodeOk.f k ((rd_T69 x7 x9).f0) ((rd_T69 x7 x9).f1) ((rd_T69 x7 x9).f2) ((rd_T69 x7 x9).f3) ((rd_T69 x7 x9).f4) ((rd_T69 x7 x9).f5)).bind fun a9 => (if a9 = true then ((slices_ContainsFunc_Entry_g78.f ((rd_T69 x7 x9).f5) a5 a6 a7).bind fun aa => (impl_areInodes.j1 k x9 a8 x7 x8 x9 aa a5 a6 a7 ((rd_T69 x7 x9).f0) ((rd_T69 x7 x9).f1) ((rd_T69 x7 x9).f2) ((rd_T69 x7 x9).f3) ((rd_T69 x7 x9).f4) ((rd_T69 x7 x9).f5))) else (impl_areInodes.j1 k x9 a8 x7 x8 x9 (!a9) a5 a6 a7 ((rd_T69 x7 x9).f0) ((rd_T69 x7 x9).f1) ((rd_T69 x7 x9).f2) ((rd_T69 x7 x9).f3) ((rd_T69 x7 x9).f4) ((rd_T69 x7 x9).f5))))) else (none)) else (none)) else (some true)
def impl_areInodes.j1 : Nat → Int → Int → List (S69) → Int → Int → Bool → Int → List Int → List (S69) → Int → Int → Int → ByteArray → List (S89) → List (S72) → Option (Bool)
 | 0, _, _, _, _, _, _, _, _, _, _, _, _, _, _, _ => none
 | k + 1, x3, x5, x7, x8, x9, ag, a5, a6, a7, a8, a9, aa, ab, ac, ae => if ag = true then (some false) else (if x3 = 0 then (if a8 = 2 then (if x5 = 0 then (impl_areInodes.l0 k x7 x8 (wrap64 (x9 + 1)) a5 a6 a7) else (some false)) else (some false)) else (if a8 = 0 then (if x5 = 0 then (impl_areInodes.l0 k x7 x8 (wrap64 (x9 + 1)) a5 a6 a7) else (some false)) else (if x5 = 1 then ((impl_DepthOf.f k a5 a6 a7 x3).bind fun af => (if af < 0 then (some false) else (impl_areInodes.l0 k x7 x8 (wrap64 (x9 + 1)) a5 a6 a7))) else (some false))))
end
def impl_areInodes.f (k : Nat) (a6 : Int) (a7 : List Int) (a5 : List (S69)) : Option (Bool) := impl_areInodes.l0 k a5 (a5.length : Int) 0 a6 a7 a5
set_option maxHeartbeats 8000000 in
set_option maxRecDepth 100000 in
theorem impl_areInodes.calls (k : Nat) (ak : Int) (aw : Option Addr) (ax : Nat) (aa : List Int) (ba : Option Addr) (ay : Nat) (a5 : List (S69)) (r : Bool) (w : World) (bd : Kd.C (Kd.int .i64) w aw aa.length aa) (be : aa.length ≤ ax) (bf : Kd.C k69 w ba a5.length a5) (bg : a5.length ≤ ay) (h : impl_areInodes.f k ak aa a5 = some r) :
  Calls Tryz.prog 51 #[.agg #[.int .i64 ak, .slice aw aa.length ax, .slice ba a5.length ay]] w fun e w' => e = .returned (.bool r) ∧ Below w.heap.size w w' := by
 have hu35 := Tryz.underlying35
 have hu69 := Tryz.underlying69
 have HR0_1 := Aside0.mk bd
 have bh := Aside0.mk be
 clear bd be
 have HR0_2 := Aside0.mk bf
 have bi := Aside0.mk bg
 clear bf bg
 have HB := Aside0.mk (Below.refl w.heap.size w)
 unfold impl_areInodes.f at h
 have H := h
 clear h
 have H' := Aside0.mk H
 clear H
 go_enter Tryz.func51, Tryz.ntmps51
 go_wp2_with (first | ((with_reducible refine gate_dst (N := 1) rfl ?_); refine be_ 1 (cs := #[.int .i64 ak, .slice aw aa.length ax, .slice ba a5.length ay]) 35 ?_; intro aq hg w2 hbox hb; have z_ := bx0_ th_ hb hbox hg; clear HB; obtain ⟨HB, a7, cx, cy⟩ := z_; clear hb hbox hg; have bl := bb3_ a7.out))
 go_loopg [9] k (fun kq v9 w' => ∃ (a6 : Int), v9 = .int .i64 a6 ∧ Aside0 (impl_areInodes.l0 kq a5 (a5.length : Int) a6 ak aa a5 = some r) ∧ Aside0 (kq ≤ k) ∧ Aside0 (w'.heap[aq]? = some (.cells #[.int .i64 ak, (.slice aw aa.length ax), (.slice ba a5.length ay)] 35 (0, 0))) ∧ Aside0 (Below w.heap.size w w'))
 case atStart => exact ⟨(0), tq_3, H', ⟨Nat.le_refl _⟩, ⟨(kb_ a7)⟩, ⟨th_⟩⟩
 case round =>
 clear H'
 try clear p2; try clear bl
 obtain ⟨a6, rfl, HA, HK1, a7, HB⟩ := hrel
 cases gk with
 | zero => exact absurd HA.out (by simp [impl_areInodes.l0])
 | succ k1 =>
 have H := HA.out
 clear HA
 simp only [impl_areInodes.l0] at H
 by_cases c4 : a6 < (a5.length : Int)
 rotate_left
 ·rw [if_neg c4] at H
  have bu := decide_eq_false c4
  clear c4
  obtain rfl := Option.some.inj H
  go_wp2
  go_ret
  exact ⟨tq_1, th_⟩
 rw [if_pos c4] at H
 have bu := decide_eq_true c4
 clear c4
 obtain ⟨c5, H⟩ := fc_ H
 have cr := decide_eq_true c5
 clear c5
 obtain ⟨c6, H⟩ := fc_ H
 have ct := decide_eq_true c6
 clear c6
 obtain ⟨b8, A7, H⟩ := bd_ H
 obtain ⟨bv, A8, H⟩ := bd_ H
 have cu := Aside0.mk H
 clear H
 have p513 : 0 ≤ (a6 : Int) := of_decide_eq_true tq_2
 have q513 : a6 < (a5.length : Int) := of_decide_eq_true tq_2
 obtain ⟨b9, am, an, ao, ap, cv, ab, ac, ae, af, ag, ah, az, b0, b1, b2⟩ := at_T69 HR0_2.out a6 p513 q513
 cases cv
 replace ab := hx_ HB.out ab
 replace ac := hx_ HB.out ac
 replace ae := hx_ HB.out ae
 replace af := hx_ HB.out af
 replace ag := hx_ HB.out ag
 replace ah := hx_ HB.out ah
 have bb := Aside0.mk b0
 have bc := Aside0.mk az
 clear b0 az
 have HR513_5 := Aside0.mk b2
 have b3 := Aside0.mk b1
 clear b2 b1
 replace p513 := eq_true p513
 replace q513 := eq_true q513
 go_upto_if 17 with (first | ((with_reducible refine gate_dst (N := 4) rfl ?_); refine be_ 4 (cs := #[.int .i64 0, .int .i64 0, .int .i64 0, .string (⟨#[]⟩ : ByteArray), .slice none 0 0, .slice none 0 0]) 69 ?_; intro bj hg d4 hbox hb; have z_ := bx1_ (kb_ a7) th_ hb hbox hg; clear a7 HB; obtain ⟨a7, HB, a8, cz, d0, a9, al⟩ := z_; clear hb hbox hg; obtain ⟨ai, aj⟩ := an2_ al a9; have b5 := bb6_ a8.out; have b6 := bb3_ a7.out) | ((with_reducible refine gate_callee (f := 75) rfl ?_); refine goesL_ (some 16) rfl rfl Tryz.func75 (by kernel_rfl) rfl #[.agg #[.int .i64 ak, .slice aw aa.length ax, .slice (some b9) a5.length ay], .int .i64 a6] rfl tq_0 ?_; (with_reducible refine (impl_LinksTo.calls k1 ak _ _ aa _ _ a5 a6 b8 _ ?side1 ?side2 ?side3 ?side4 A7.out).mono ?_); (case side1 => exact Kd.C_below HR0_1.out th_); (case side2 => exact bh.out); (case side3 => exact Kd.C_below HR0_2.out th_); (case side4 => exact bi.out); rintro e d5 ⟨rfl, hb⟩; refine ⟨_, rfl, ?_⟩; have z_ := p_ (blk_below (g := aq) (o := .cells #[.int .i64 ak, .slice aw aa.length ax, .slice (some b9) a5.length ay] 35 (0, 0)) (by (with_reducible repeat (first | refine blk_drewN ?_ _ | refine blk_drew ?_ | refine blk_alloc ?_ _)); refine blk_far ?_ a9.out _; (with_reducible repeat (first | refine blk_drewN ?_ _ | refine blk_drew ?_ | refine blk_alloc ?_ _)); refine blk_far ?_ a9.out _; (with_reducible repeat (first | refine blk_drewN ?_ _ | refine blk_drew ?_ | refine blk_alloc ?_ _)); refine blk_far ?_ a9.out _; (with_reducible repeat (first | refine blk_drewN ?_ _ | refine blk_drew ?_ | refine blk_alloc ?_ _)); refine blk_far ?_ a9.out _; (with_reducible repeat (first | refine blk_drewN ?_ _ | refine blk_drew ?_ | refine blk_alloc ?_ _)); refine blk_far ?_ a9.out _; (with_reducible repeat (first | refine blk_drewN ?_ _ | refine blk_drew ?_ | refine blk_alloc ?_ _)); refine blk_far ?_ a9.out _; (with_reducible repeat (first | refine blk_drewN ?_ _ | refine blk_drew ?_ | refine blk_alloc ?_ _)); exact a7.out) hb) <| p_ (blk_below (g := bj) (o := .cells #[.int .i64 ((rd_T69 a5 a6).f0), .int .i64 ((rd_T69 a5 a6).f1), .int .i64 ((rd_T69 a5 a6).f2), .string ((rd_T69 a5 a6).f3), .slice am ((rd_T69 a5 a6).f4).length an, .slice ao ((rd_T69 a5 a6).f5).length ap] 69 (0, 0)) (by (with_reducible repeat (first | refine blk_drewN ?_ _ | refine blk_drew ?_ | refine blk_alloc ?_ _)); refine blk_put (cs := #[.int .i64 ((rd_T69 a5 a6).f0), .int .i64 ((rd_T69 a5 a6).f1), .int .i64 ((rd_T69 a5 a6).f2), .string ((rd_T69 a5 a6).f3), .slice am ((rd_T69 a5 a6).f4).length an, .slice none 0 0]) ?_ 5 _ rfl; (with_reducible repeat (first | refine blk_drewN ?_ _ | refine blk_drew ?_ | refine blk_alloc ?_ _)); refine blk_put (cs := #[.int .i64 ((rd_T69 a5 a6).f0), .int .i64 ((rd_T69 a5 a6).f1), .int .i64 ((rd_T69 a5 a6).f2), .string ((rd_T69 a5 a6).f3), .slice none 0 0, .slice none 0 0]) ?_ 4 _ rfl; (with_reducible repeat (first | refine blk_drewN ?_ _ | refine blk_drew ?_ | refine blk_alloc ?_ _)); refine blk_put (cs := #[.int .i64 ((rd_T69 a5 a6).f0), .int .i64 ((rd_T69 a5 a6).f1), .int .i64 ((rd_T69 a5 a6).f2), .string (⟨#[]⟩ : ByteArray), .slice none 0 0, .slice none 0 0]) ?_ 3 _ rfl; (with_reducible repeat (first | refine blk_drewN ?_ _ | refine blk_drew ?_ | refine blk_alloc ?_ _)); refine blk_put (cs := #[.int .i64 ((rd_T69 a5 a6).f0), .int .i64 ((rd_T69 a5 a6).f1), .int .i64 0, .string (⟨#[]⟩ : ByteArray), .slice none 0 0, .slice none 0 0]) ?_ 2 _ rfl; (with_reducible repeat (first | refine blk_drewN ?_ _ | refine blk_drew ?_ | refine blk_alloc ?_ _)); refine blk_put (cs := #[.int .i64 ((rd_T69 a5 a6).f0), .int .i64 0, .int .i64 0, .string (⟨#[]⟩ : ByteArray), .slice none 0 0, .slice none 0 0]) ?_ 1 _ rfl; (with_reducible repeat (first | refine blk_drewN ?_ _ | refine blk_drew ?_ | refine blk_alloc ?_ _)); refine blk_put (cs := #[.int .i64 0, .int .i64 0, .int .i64 0, .string (⟨#[]⟩ : ByteArray), .slice none 0 0, .slice none 0 0]) ?_ 0 _ rfl; (with_reducible repeat (first | refine blk_drewN ?_ _ | refine blk_drew ?_ | refine blk_alloc ?_ _)); exact a8.out) hb) <| a_ (below_step th_ hb); clear a7 a8 HB; obtain ⟨a7, a8, HB⟩ := z_; (try clear hb); have b7 := bb6_ a8.out) | ((with_reducible refine gate_callee (f := 76) rfl ?_); refine goesL_ (some 19) rfl rfl Tryz.func76 (by kernel_rfl) rfl #[.agg #[.int .i64 ((rd_T69 a5 a6).f0), .int .i64 ((rd_T69 a5 a6).f1), .int .i64 ((rd_T69 a5 a6).f2), .string ((rd_T69 a5 a6).f3), .slice am ((rd_T69 a5 a6).f4).length an, .slice ao ((rd_T69 a5 a6).f5).length ap]] rfl tq_0 ?_; (with_reducible refine (impl_InodeOk.calls k1 ((rd_T69 a5 a6).f0) ((rd_T69 a5 a6).f1) ((rd_T69 a5 a6).f2) ((rd_T69 a5 a6).f3) _ _ ((rd_T69 a5 a6).f4) _ _ ((rd_T69 a5 a6).f5) bv _ ?side1 ?side2 ?side3 ?side4 A8.out).mono ?_); (case side1 => repeat (first | exact (Kd.C_below bb.out HB.out) | (with_reducible refine Kd.C_alloc ?_ _) | (with_reducible refine Kd.C_drewN ?_ _) | (with_reducible refine Kd.C_drew ?_))); (case side2 => exact bc.out); (case side3 => exact tq_58); (case side4 => exact b3.out); rintro e d6 ⟨rfl, hb⟩; refine ⟨_, rfl, ?_⟩; have z_ := bw2_ (kb_ a7) (kb_ a8) th_ hb; clear a7 a8 HB; obtain ⟨a7, a8, HB⟩ := z_; (try clear hb)))
 (try simp only [Act.put, List.setIfInBounds_toArray, List.set_cons_zero, List.set_cons_succ])
 go_cut [17] (fun v17 wc => ∃ (kq : Nat) (b4 : Bool), v17 = .bool b4 ∧ Aside0 (impl_areInodes.j1 kq a6 b8 a5 (a5.length : Int) a6 b4 ak aa a5 ((rd_T69 a5 a6).f0) ((rd_T69 a5 a6).f1) ((rd_T69 a5 a6).f2) ((rd_T69 a5 a6).f3) ((rd_T69 a5 a6).f4) ((rd_T69 a5 a6).f5) = some r) ∧ Aside0 (kq ≤ k1) ∧ Aside0 (wc.heap[aq]? = some (.cells #[.int .i64 ak, (.slice aw aa.length ax), (.slice (some b9) a5.length ay)] 35 (0, 0))) ∧ Aside0 (wc.heap[bj]? = some (.cells #[.int .i64 ((rd_T69 a5 a6).f0), .int .i64 ((rd_T69 a5 a6).f1), .int .i64 ((rd_T69 a5 a6).f2), .string ((rd_T69 a5 a6).f3), (.slice am ((rd_T69 a5 a6).f4).length an), (.slice ao ((rd_T69 a5 a6).f5).length ap)] 69 (0, 0))) ∧ Aside0 (Below w.heap.size w wc))
 case first =>
  have H := cu.out
  clear cu
  by_cases bw : bv = true
  rotate_left
  ·replace bw := Bool.eq_false_iff.mpr bw
   subst bw
   rw [if_neg nf_] at H
   have H' := Aside0.mk H
   clear H
   go_wp2
   go_meet
   case rel => exact ⟨_, (!false), tq_3, H', ⟨tq_69⟩, ⟨(kb_ a7)⟩, ⟨(kb_ a8)⟩, ⟨th_⟩⟩
  subst bw
  rw [if_pos rfl] at H
  obtain ⟨bx, d1, H⟩ := bd_ H
  have H' := Aside0.mk H
  clear H
  have bz := bb6_ a8.out
  go_wp2_with (first | ((with_reducible refine gate_callee (f := 77) rfl ?_); refine goesL_ (some 24) rfl rfl Tryz.func77 (by kernel_rfl) rfl #[.slice ao ((rd_T69 a5 a6).f5).length ap, .func (.func 78) #[] #[.pointer (some ⟨aq, 0, none⟩)]] rfl tq_0 ?_; (with_reducible refine (slices_ContainsFunc_Entry_g78.calls _ _ ((rd_T69 a5 a6).f5) aq ak ?cal0_1 ?cnl0_1 aa ?cal0_2 ?cnl0_2 a5 bx _ ?side1 ?side2 ?side3 d1.out).mono ?_); (case side1 => exact tq_58); (case side2 => exact b3.out); (case side3 => (with_reducible repeat (first | refine blk_drewN ?_ _ | refine blk_drew ?_ | refine blk_alloc ?_ _)); exact a7.out); rintro e d7 ⟨rfl, hb⟩; refine ⟨_, rfl, ?_⟩; have z_ := bw2_ (kb_ a7) (kb_ a8) th_ hb; clear a7 a8 HB; obtain ⟨a7, a8, HB⟩ := z_; (try clear hb)))
  go_meet
  case rel => exact ⟨_, (bx), tq_3, H', ⟨tq_69⟩, ⟨(kb_ a7)⟩, ⟨(kb_ a8)⟩, ⟨th_⟩⟩
 case rest =>
 clear cu
 try clear c1; try clear p2; try clear c4; try clear bu; try clear c5; try clear cr; try clear p5; try clear q5; try clear hx5; try clear c6; try clear ct; try clear c7; try clear d8; try clear bw; try clear d9; try clear b5; try clear b6; try clear b7; try clear bz; try clear bl; try clear b5; try clear b6; try clear b7; try clear bz; try clear bl; try clear ab; try clear ac; try clear ae; try clear af; try clear ag; try clear ah; try clear p2; try clear p513; try clear q513
 obtain ⟨kq, b4, rfl, HA, HJ8, a7, a8, HB⟩ := hcut
 cases kq with
 | zero => exact absurd HA.out (by simp [impl_areInodes.j1])
 | succ kj8 =>
 have H := HA.out
 clear HA
 simp only [impl_areInodes.j1] at H
 by_cases cq : b4 = true
 ·subst cq
  rw [if_pos rfl] at H
  obtain rfl := Option.some.inj H
  go_wp2
  go_ret
  exact ⟨tq_1, th_⟩
 replace cq := Bool.eq_false_iff.mpr cq
 subst cq
 rw [if_neg nf_] at H
 by_cases bm : a6 = 0
 ·rw [if_pos bm] at H
  have ca := beq_iff_eq.mpr bm
  have cb := bne_eq_false_iff_eq.mpr bm
  clear bm
  by_cases bn : ((rd_T69 a5 a6).f0) = 2
  rotate_left
  ·rw [if_neg bn] at H
   have cc := beq_eq_false_iff_ne.mpr bn
   have cd := bne_iff_ne.mpr bn
   obtain rfl := Option.some.inj H
   have d2 := bb6_ a8.out
   go_wp2
   go_ret
   exact ⟨tq_1, th_⟩
  rw [if_pos bn] at H
  have cc := beq_iff_eq.mpr bn
  have cd := bne_eq_false_iff_eq.mpr bn
  clear bn
  have ce := Aside0.mk H
  clear H
  have cf := bb6_ a8.out
  go_upto_if 34 with (fail)
  (try clear aj ai)
  (try clear b5)
  (try clear b6)
  (try clear b7)
  (try clear cf)
  (try clear bl)
  (try clear b5)
  (try clear b6)
  (try clear b7)
  (try clear cf)
  (try clear bl)
  (try clear ab ac ae af ag ah)
  have H := ce.out
  clear ce
  by_cases bo : b8 = 0
  rotate_left
  ·rw [if_neg bo] at H
   have ar := beq_eq_false_iff_ne.mpr bo
   have cg := bne_iff_ne.mpr bo
   (first | rw [ar] | (simp only [i64_w, i32_w]; rw [ar]) | skip)
   obtain rfl := Option.some.inj H
   go_wp2
   go_ret
   exact ⟨tq_1, th_⟩
  rw [if_pos bo] at H
  have ar := beq_iff_eq.mpr bo
  have cg := bne_eq_false_iff_eq.mpr bo
  clear bo
  (first | rw [ar] | (simp only [i64_w, i32_w]; rw [ar]) | skip)
  have H' := Aside0.mk H
  clear H
  go_wp2
  go_roundg kj8
  case measure => have := HK1.out; have := HJ8.out; omega
  case rel => exact ⟨(wrap64 (a6 + 1)), tq_3, H', ⟨(by have := HK1.out; have := HJ8.out; omega)⟩, ⟨(kb_ a7)⟩, ⟨th_⟩⟩
 rw [if_neg bm] at H
 have ca := beq_eq_false_iff_ne.mpr bm
 have cb := bne_iff_ne.mpr bm
 have ch := Aside0.mk H
 clear H
 have ci := bb6_ a8.out
 go_upto_if 35 with (fail)
 (try clear aj ai)
 (try clear b5)
 (try clear b6)
 (try clear b7)
 (try clear bl)
 (try clear ci)
 (try clear b5)
 (try clear b6)
 (try clear b7)
 (try clear bl)
 (try clear ci)
 (try clear ab ac ae af ag ah)
 have H := ch.out
 clear ch
 by_cases bp : ((rd_T69 a5 a6).f0) = 0
 ·rw [if_pos bp] at H
  have au := beq_iff_eq.mpr bp
  have cj := bne_eq_false_iff_eq.mpr bp
  clear bp
  (first | rw [au] | (simp only [i64_w, i32_w]; rw [au]) | skip)
  by_cases bq : b8 = 0
  rotate_left
  ·rw [if_neg bq] at H
   have ck := beq_eq_false_iff_ne.mpr bq
   have cl := bne_iff_ne.mpr bq
   obtain rfl := Option.some.inj H
   go_wp2
   go_ret
   exact ⟨tq_1, th_⟩
  rw [if_pos bq] at H
  have ck := beq_iff_eq.mpr bq
  have cl := bne_eq_false_iff_eq.mpr bq
  clear bq
  have H' := Aside0.mk H
  clear H
  go_wp2
  go_roundg kj8
  case measure => have := HK1.out; have := HJ8.out; omega
  case rel => exact ⟨(wrap64 (a6 + 1)), tq_3, H', ⟨(by have := HK1.out; have := HJ8.out; omega)⟩, ⟨(kb_ a7)⟩, ⟨th_⟩⟩
 rw [if_neg bp] at H
 have au := beq_eq_false_iff_ne.mpr bp
 have cj := bne_iff_ne.mpr bp
 (first | rw [au] | (simp only [i64_w, i32_w]; rw [au]) | skip)
 by_cases br : b8 = 1
 rotate_left
 ·rw [if_neg br] at H
  have cm := beq_eq_false_iff_ne.mpr br
  have cn := bne_iff_ne.mpr br
  obtain rfl := Option.some.inj H
  go_wp2
  go_ret
  exact ⟨tq_1, th_⟩
 rw [if_pos br] at H
 have cm := beq_iff_eq.mpr br
 have cn := bne_eq_false_iff_eq.mpr br
 clear br
 obtain ⟨co, d3, H⟩ := bd_ H
 have cp := Aside0.mk H
 clear H
 obtain ⟨aj, ai⟩ := an2_ a9 al
 have cw := bb3_ a7.out
 go_upto_if 41 with (first | (go_at_call 79; (with_reducible refine (impl_DepthOf.calls kj8 ak _ _ aa _ _ a5 a6 co _ ?side1 ?side2 ?side3 ?side4 d3.out).mono ?_); (case side1 => exact tq_21); (case side2 => exact bh.out); (case side3 => exact tq_27); (case side4 => exact bi.out); rintro e da ⟨rfl, hb⟩; have z_ := bw2_ (kb_ a7) (kb_ a8) th_ hb; clear a7 a8 HB; obtain ⟨a7, a8, HB⟩ := z_; (try clear hb)))
 (try simp only [Act.put, List.setIfInBounds_toArray, List.set_cons_zero, List.set_cons_succ])
 (try clear aj ai)
 (try clear cw)
 have H := cp.out
 clear cp
 by_cases bs : co < 0
 ·rw [if_pos bs] at H
  have av := decide_eq_true bs
  clear bs
  (first | rw [av] | (simp only [i64_w, i32_w]; rw [av]) | skip)
  obtain rfl := Option.some.inj H
  go_wp2
  go_ret
  exact ⟨tq_1, th_⟩
 rw [if_neg bs] at H
 have av := decide_eq_false bs
 clear bs
 (first | rw [av] | (simp only [i64_w, i32_w]; rw [av]) | skip)
 have H' := Aside0.mk H
 clear H
 go_wp2
 go_roundg kj8
 case measure => have := HK1.out; have := HJ8.out; omega
 case rel => exact ⟨(wrap64 (a6 + 1)), tq_3, H', ⟨(by have := HK1.out; have := HJ8.out; omega)⟩, ⟨(kb_ a7)⟩, ⟨th_⟩⟩

/-! ### impl_UsersOf: function 52 -/
mutual
def impl_UsersOf.l0 : Nat → Int → Int → List (S69) → Int → Int → Option (Int)
 | 0, _, _, _, _, _ => none
 | k + 1, x1, x5, a6, a7, a5 => if a5 < a7 then (if 0 ≤ a5 then (if a5 < (a6.length : Int) then (impl_UsersOf.l1 k x1 x5 a6 a7 a5 ((rd_T69 a6 a5).f4) (((rd_T69 a6 a5).f4).length : Int) 0 ((rd_T69 a6 a5).f0) ((rd_T69 a6 a5).f1) ((rd_T69 a6 a5).f2) ((rd_T69 a6 a5).f3) ((rd_T69 a6 a5).f4) ((rd_T69 a6 a5).f5)) else (none)) else (none)) else (some x5)
def impl_UsersOf.l1 : Nat → Int → Int → List (S69) → Int → Int → List (S89) → Int → Int → Int → Int → Int → ByteArray → List (S89) → List (S72) → Option (Int)
 | 0, _, _, _, _, _, _, _, _, _, _, _, _, _, _ => none
 | k + 1, x1, x5, ae, af, ag, ac, ah, ab, a5, a6, a7, a8, a9, aa => if ab < ah then (if 0 ≤ ab then (if ab < (ac.length : Int) then (if a5 = 1 then (if (wrap64 (((rd_T89 ac ab).f0) - 1)) = x1 then (impl_UsersOf.l1 k x1 (wrap64 (x5 + 1)) ae af ag ac ah (wrap64 (ab + 1)) a5 a6 a7 a8 a9 aa) else (impl_UsersOf.l1 k x1 x5 ae af ag ac ah (wrap64 (ab + 1)) a5 a6 a7 a8 a9 aa)) else (impl_UsersOf.l1 k x1 x5 ae af ag ac ah (wrap64 (ab + 1)) a5 a6 a7 a8 a9 aa)) else (none)) else (none)) else (impl_UsersOf.l0 k x1 x5 ae af (wrap64 (ag + 1)))
end
def impl_UsersOf.f (k : Nat) (a6 : Int) (a7 : List Int) (a5 : List (S69)) (a1 : Int) : Option (Int) := impl_UsersOf.l0 k a1 0 a5 (a5.length : Int) 0
set_option maxHeartbeats 8000000 in
set_option maxRecDepth 100000 in
theorem impl_UsersOf.calls (k : Nat) (b6 : Int) (b7 : Option Addr) (b8 : Nat) (au : List Int) (bb : Option Addr) (b9 : Nat) (a6 : List (S69)) (a1 : Int) (r : Int) (w : World) (be : Kd.C (Kd.int .i64) w b7 au.length au) (bf : au.length ≤ b8) (bg : Kd.C k69 w bb a6.length a6) (bh : a6.length ≤ b9) (h : impl_UsersOf.f k b6 au a6 a1 = some r) :
  Calls Tryz.prog 52 #[.agg #[.int .i64 b6, .slice b7 au.length b8, .slice bb a6.length b9], .int .i64 a1] w fun e w' => e = .returned (.int .i64 r) ∧ Below w.heap.size w w' := by
 have hu35 := Tryz.underlying35
 have hu69 := Tryz.underlying69
 have hu89 := Tryz.underlying89
 have HR0_1 := Aside0.mk be
 have cp := Aside0.mk bf
 clear be bf
 have HR0_2 := Aside0.mk bg
 have cq := Aside0.mk bh
 clear bg bh
 have HB := Aside0.mk (Below.refl w.heap.size w)
 unfold impl_UsersOf.f at h
 have H := h
 clear h
 have H' := Aside0.mk H
 clear H
 go_enter Tryz.func52, Tryz.ntmps52
 go_wp2_with (first | ((with_reducible refine gate_dst (N := 2) rfl ?_); refine be_ 2 (cs := #[.int .i64 b6, .slice b7 au.length b8, .slice bb a6.length b9]) 35 ?_; intro bi hg w3 hbox hb; have z_ := bx0_ th_ hb hbox hg; clear HB; obtain ⟨HB, a7, cr, ct⟩ := z_; clear hb hbox hg; have bs := bb3_ a7.out))
 go_loopg [5, 13] k (fun kq v5 v13 w' => ∃ (bc : Int) (a5 : Int), v5 = .int .i64 bc ∧ v13 = .int .i64 a5 ∧ Aside0 (impl_UsersOf.l0 kq a1 bc a6 (a6.length : Int) a5 = some r) ∧ Aside0 (kq ≤ k) ∧ Aside0 (w'.heap[bi]? = some (.cells #[.int .i64 b6, (.slice b7 au.length b8), (.slice bb a6.length b9)] 35 (0, 0))) ∧ Aside0 (Below w.heap.size w w'))
 case atStart => exact ⟨(0), (0), tq_3, tq_3, H', ⟨Nat.le_refl _⟩, ⟨(kb_ a7)⟩, ⟨th_⟩⟩
 case round =>
 clear H'
 try clear p2; try clear bs
 obtain ⟨bc, a5, rfl, rfl, HA, HK1, a7, HB⟩ := hrel
 cases gk with
 | zero => exact absurd HA.out (by simp [impl_UsersOf.l0])
 | succ k1 =>
 have H := HA.out
 clear HA
 simp only [impl_UsersOf.l0] at H
 by_cases c5 : a5 < (a6.length : Int)
 rotate_left
 ·rw [if_neg c5] at H
  have bu := decide_eq_false c5
  clear c5
  obtain rfl := Option.some.inj H
  go_wp2
  go_ret
  exact ⟨tq_1, th_⟩
 rw [if_pos c5] at H
 have bu := decide_eq_true c5
 clear c5
 obtain ⟨c6, H⟩ := fc_ H
 have cm := decide_eq_true c6
 clear c6
 obtain ⟨c7, H⟩ := fc_ H
 have cn := decide_eq_true c7
 clear c7
 have H' := Aside0.mk H
 clear H
 have p520 : 0 ≤ (a5 : Int) := of_decide_eq_true tq_2
 have q520 : a5 < (a6.length : Int) := of_decide_eq_true tq_2
 obtain ⟨bv, bj, bl, bm, bn, co, ak, al, am, an, ao, ap, b1, b2, b3, b4⟩ := at_T69 HR0_2.out a5 p520 q520
 cases co
 replace ak := hx_ HB.out ak
 replace al := hx_ HB.out al
 replace am := hx_ HB.out am
 replace an := hx_ HB.out an
 replace ao := hx_ HB.out ao
 replace ap := hx_ HB.out ap
 have b5 := Aside0.mk b2
 have cj := Aside0.mk b1
 clear b2 b1
 have ck := Aside0.mk b4
 have cl := Aside0.mk b3
 clear b4 b3
 replace p520 := eq_true p520
 replace q520 := eq_true q520
 go_wp2_with (first | ((with_reducible refine gate_dst (N := 7) rfl ?_); refine be_ 7 (cs := #[.int .i64 0, .int .i64 0, .int .i64 0, .string (⟨#[]⟩ : ByteArray), .slice none 0 0, .slice none 0 0]) 69 ?_; intro bw hg w8 hbox hb; have z_ := bx1_ (kb_ a7) th_ hb hbox hg; clear a7 HB; obtain ⟨a7, HB, ac, cu, cv, ae, af⟩ := z_; clear hb hbox hg; obtain ⟨aq, ar⟩ := an2_ af ae; have bd := bb6_ ac.out))
 go_loopg [5, 20] k1 (fun kq v5 v20 w' => ∃ (b0 : Int) (a8 : Int), v5 = .int .i64 b0 ∧ v20 = .int .i64 a8 ∧ Aside0 (impl_UsersOf.l1 kq a1 b0 a6 (a6.length : Int) a5 ((rd_T69 a6 a5).f4) (((rd_T69 a6 a5).f4).length : Int) a8 ((rd_T69 a6 a5).f0) ((rd_T69 a6 a5).f1) ((rd_T69 a6 a5).f2) ((rd_T69 a6 a5).f3) ((rd_T69 a6 a5).f4) ((rd_T69 a6 a5).f5) = some r) ∧ Aside0 (kq ≤ k1) ∧ Aside0 (w'.heap[bi]? = some (.cells #[.int .i64 b6, (.slice b7 au.length b8), (.slice (some bv) a6.length b9)] 35 (0, 0))) ∧ Aside0 (w'.heap[bw]? = some (.cells #[.int .i64 ((rd_T69 a6 a5).f0), .int .i64 ((rd_T69 a6 a5).f1), .int .i64 ((rd_T69 a6 a5).f2), .string ((rd_T69 a6 a5).f3), (.slice bj ((rd_T69 a6 a5).f4).length bl), (.slice bm ((rd_T69 a6 a5).f5).length bn)] 69 (0, 0))) ∧ Aside0 (Below w.heap.size w w'))
 case atStart => exact ⟨(bc), (0), tq_3, tq_3, H', ⟨Nat.le_refl _⟩, ⟨tb_⟩, ⟨tb_⟩, ⟨th_⟩⟩
 case round =>
 clear H'
 try clear p2; try clear c5; try clear bu; try clear p5; try clear q5; try clear hx5; try clear c6; try clear cm; try clear c7; try clear cn; try clear c9; try clear bd; try clear bs; try clear bd; try clear bs; try clear ak; try clear al; try clear am; try clear an; try clear ao; try clear ap; try clear p2; try clear p520; try clear q520
 obtain ⟨b0, a8, rfl, rfl, HA, HK2, a7, ac, HB⟩ := hrel
 cases gk with
 | zero => exact absurd HA.out (by simp [impl_UsersOf.l1])
 | succ k2 =>
 have H := HA.out
 clear HA
 simp only [impl_UsersOf.l1] at H
 by_cases br : a8 < (((rd_T69 a6 a5).f4).length : Int)
 rotate_left
 ·rw [if_neg br] at H
  have bx := decide_eq_false br
  clear br
  have H' := Aside0.mk H
  clear H
  go_wp2
  go_roundg k2
  case measure => have := HK1.out; have := HK2.out; omega
  case rel => exact ⟨(b0), (wrap64 (a5 + 1)), tq_3, tq_3, H', ⟨tq_34⟩, ⟨(kb_ a7)⟩, ⟨th_⟩⟩
 rw [if_pos br] at H
 have bx := decide_eq_true br
 clear br
 obtain ⟨cw, H⟩ := fc_ H
 have cx := decide_eq_true cw
 clear cw
 obtain ⟨cy, H⟩ := fc_ H
 have cz := decide_eq_true cy
 clear cy
 by_cases bo : ((rd_T69 a6 a5).f0) = 1
 rotate_left
 ·rw [if_neg bo] at H
  have bz := beq_eq_false_iff_ne.mpr bo
  have ca := bne_iff_ne.mpr bo
  have H' := Aside0.mk H
  clear H
  have p522 : 0 ≤ (a8 : Int) := of_decide_eq_true tq_2
  have q522 : a8 < (((rd_T69 a6 a5).f4).length : Int) := of_decide_eq_true tq_2
  obtain ⟨cb, bp, a9, aa, ab⟩ := at_T89 b5.out a8 p522 q522
  cases bp
  replace a9 := hx_ HB.out a9
  replace aa := hx_ HB.out aa
  replace ab := hx_ HB.out ab
  replace p522 := eq_true p522
  replace q522 := eq_true q522
  go_wp2_with (first | ((with_reducible refine gate_dst (N := 9) rfl ?_); refine be_ 9 (cs := #[.int .i64 0, .int .i64 0, .string (⟨#[]⟩ : ByteArray)]) 89 ?_; intro cc hg d2 hbox hb; have z_ := bx2_ (kb_ a7) (kb_ ac) th_ hb hbox hg; clear a7 ac HB; obtain ⟨a7, ac, HB, ba, cd, ce, ag, ah, ai, aj⟩ := z_; clear hb hbox hg; obtain ⟨av, aw, ax, ay⟩ := an4_ ah ag aj ai; have d0 := bb3_ ba.out; obtain ⟨aq, ar⟩ := an2_ af ae; have d1 := bb6_ ac.out))
  go_roundg k2
  case measure => have := HK1.out; have := HK2.out; omega
  case rel => exact ⟨(b0), (wrap64 (a8 + 1)), tq_3, tq_3, H', ⟨tq_34⟩, ⟨tb_⟩, ⟨tb_⟩, ⟨th_⟩⟩
 rw [if_pos bo] at H
 have bz := beq_iff_eq.mpr bo
 have ca := bne_eq_false_iff_eq.mpr bo
 clear bo
 have cf := Aside0.mk H
 clear H
 have p522 : 0 ≤ (a8 : Int) := of_decide_eq_true tq_2
 have q522 : a8 < (((rd_T69 a6 a5).f4).length : Int) := of_decide_eq_true tq_2
 obtain ⟨cb, bp, a9, aa, ab⟩ := at_T89 b5.out a8 p522 q522
 cases bp
 replace a9 := hx_ HB.out a9
 replace aa := hx_ HB.out aa
 replace ab := hx_ HB.out ab
 replace p522 := eq_true p522
 replace q522 := eq_true q522
 go_upto_if 33 with (first | ((with_reducible refine gate_dst (N := 9) rfl ?_); refine be_ 9 (cs := #[.int .i64 0, .int .i64 0, .string (⟨#[]⟩ : ByteArray)]) 89 ?_; intro cc hg d3 hbox hb; have z_ := bx2_ (kb_ a7) (kb_ ac) th_ hb hbox hg; clear a7 ac HB; obtain ⟨a7, ac, HB, ba, cd, ce, ag, ah, ai, aj⟩ := z_; clear hb hbox hg; obtain ⟨av, aw, ax, ay⟩ := an4_ ah ag aj ai; have cg := bb3_ ba.out; obtain ⟨aq, ar⟩ := an2_ af ae; have ch := bb6_ ac.out))
 (try simp only [Act.put, List.setIfInBounds_toArray, List.set_cons_zero, List.set_cons_succ])
 (try clear ar aw aq ay av ax)
 (try clear bd)
 (try clear cg)
 (try clear ch)
 (try clear bs)
 (try clear bd)
 (try clear cg)
 (try clear ch)
 (try clear bs)
 (try clear ak al am an ao ap)
 (try clear a9 aa ab)
 have H := cf.out
 clear cf
 by_cases bq : (wrap64 (((rd_T89 ((rd_T69 a6 a5).f4) a8).f0) - 1)) = a1
 rotate_left
 ·rw [if_neg bq] at H
  have az := beq_eq_false_iff_ne.mpr bq
  have ci := bne_iff_ne.mpr bq
  (first | rw [az] | (simp only [i64_w, i32_w]; rw [az]) | skip)
  have H' := Aside0.mk H
  clear H
  go_wp2
  go_roundg k2
  case measure => have := HK1.out; have := HK2.out; omega
  case rel => exact ⟨(b0), (wrap64 (a8 + 1)), tq_3, tq_3, H', ⟨tq_34⟩, ⟨tb_⟩, ⟨tb_⟩, ⟨th_⟩⟩
 rw [if_pos bq] at H
 have az := beq_iff_eq.mpr bq
 have ci := bne_eq_false_iff_eq.mpr bq
 clear bq
 (first | rw [az] | (simp only [i64_w, i32_w]; rw [az]) | skip)
 have H' := Aside0.mk H
 clear H
 go_wp2
 go_roundg k2
 case measure => have := HK1.out; have := HK2.out; omega
 case rel => exact ⟨(wrap64 (b0 + 1)), (wrap64 (a8 + 1)), tq_3, tq_3, H', ⟨tq_34⟩, ⟨tb_⟩, ⟨tb_⟩, ⟨th_⟩⟩

/-! ### impl_PagesWith: function 53 -/
def impl_PagesWith.l0 : Nat → Int → List Int → List Int → Int → Int → Option (List Int)
 | 0, _, _, _, _, _ => none
 | k + 1, x1, x5, x9, a6, a5 => if a5 < a6 then (if 0 ≤ a5 then (if a5 < (x9.length : Int) then (if (rd x9 a5) = x1 then (if x5.length < 17592186044416 then (impl_PagesWith.l0 k x1 (x5 ++ [a5]) x9 a6 (wrap64 (a5 + 1))) else (none)) else (impl_PagesWith.l0 k x1 x5 x9 a6 (wrap64 (a5 + 1)))) else (none)) else (none)) else (some x5)
def impl_PagesWith.f (k : Nat) (l0 : List Int) (a1 : Int) : Option (List Int) := impl_PagesWith.l0 k a1 (([] : List Int)) l0 (l0.length : Int) 0
set_option maxHeartbeats 8000000 in
set_option maxRecDepth 100000 in
theorem impl_PagesWith.calls (k : Nat) (A0 : Option Addr) (c0 : Nat) (l0 : List Int) (a1 : Int) (r : List Int) (w : World) (hr0 : Kd.C (Kd.int .i64) w A0 l0.length l0) (hc0 : l0.length ≤ c0) (h : impl_PagesWith.f k l0 a1 = some r) :
  Calls Tryz.prog 53 #[.slice A0 l0.length c0, .int .i64 a1] w fun e w' => ∃ v0_ : Value, e = .returned (v0_) ∧ Kd.R (Kd.int .i64) 3 w' w.heap.size (fun _ => True) v0_ r ∧ Below w.heap.size w w' := by
 have HR0 := Aside0.mk hr0
 have al := Aside0.mk hc0
 clear hr0 hc0
 have HB := Aside0.mk (Below.refl w.heap.size w)
 unfold impl_PagesWith.f at h
 have H := h
 clear h
 obtain ⟨aa, hy524⟩ : ∃ y_ : List Int, y_ = (([] : List Int)) := ⟨_, rfl⟩
 replace H : (impl_PagesWith.l0 k a1 aa l0 (l0.length : Int) 0) = some r := by first | (rw [hy524]; with_reducible exact H) | (have H2_ := (Option.bind_some _ _).symm.trans H; rw [hy524]; with_reducible exact H2_) | (have H2_ := (Option.bind_some _ _).symm.trans H; with_reducible exact H2_) | with_reducible exact H | (rw [hy524]; exact H) | exact H
 have Ny524 := Aside0.mk hy524
 clear hy524
 have H' := Aside0.mk H
 clear H
 go_enter Tryz.func53, Tryz.ntmps53
 go_wp2_with (first | ((with_reducible refine gate_dst (N := 8) rfl ?_); refine Kd.R_lit (Kd.int .i64) _ 3 ?hg (N := 8) ?hd (xs := ([] : List Int)) (inner := []) (ok := fun _ => True) (okp := fun _ => True) ?hr ?hp (fun _ hk => hk) trivial (Below.refl _ _) (Nat.le_refl _) (by simp) ?_; (case hd => rfl); (case hg => rfl); (case hr => first | (go_simp; done) | (go_simp; rfl)); (case hp => exact (Reps.none _ _)); intro v525 w3 ho4 hb hg_ hnew_; clear hg_ hnew_; (first | rw [← Ny524.out] at ho4 | (simp only [Int.reduceToNat] at ho4; rw [← Ny524.out] at ho4)); have z_ := p_ (Kd.R_lower ho4 (below_size th_)) <| a_ (below_step th_ hb); clear HB; obtain ⟨HO526, HB⟩ := z_; clear hb ho4))
 go_loopg [5, 11] k (fun kq v5 v11 w' => ∃ (a7 : List Int) (a5 : Int), v11 = .int .i64 a5 ∧ Aside0 (impl_PagesWith.l0 kq a1 a7 l0 (l0.length : Int) a5 = some r) ∧ Aside0 (kq ≤ k) ∧ Aside0 (Kd.R (Kd.int .i64) 3 w' w.heap.size (fun _ => True) v5 a7) ∧ Aside0 (Below w.heap.size w w'))
 case atStart => exact ⟨(aa), (0), tq_3, H', ⟨Nat.le_refl _⟩, ⟨(raR_ HO526)⟩, ⟨th_⟩⟩
 case round =>
 clear H'
 try clear p2
 obtain ⟨a7, a5, rfl, HA, HK1, a9, HB⟩ := hrel
 cases gk with
 | zero => exact absurd HA.out (by simp [impl_PagesWith.l0])
 | succ k1 =>
 have H := HA.out
 clear HA
 simp only [impl_PagesWith.l0] at H
 by_cases c5 : a5 < (l0.length : Int)
 rotate_left
 ·rw [if_neg c5] at H
  have ac := decide_eq_false c5
  clear c5
  obtain rfl := Option.some.inj H
  go_wp2
  go_ret
  exact ⟨_, tq_1, (raR_ a9), th_⟩
 rw [if_pos c5] at H
 have ac := decide_eq_true c5
 clear c5
 obtain ⟨c6, H⟩ := fc_ H
 have aj := decide_eq_true c6
 clear c6
 obtain ⟨c7, H⟩ := fc_ H
 have ak := decide_eq_true c7
 clear c7
 have ag := Aside0.mk H
 clear H
 have p527 : 0 ≤ (a5 : Int) := of_decide_eq_true tq_2
 have q527 : a5 < (l0.length : Int) := of_decide_eq_true tq_2
 obtain ⟨ah, ae, a6⟩ := Kd.at_int HR0.out a5 p527 q527
 cases ae
 replace a6 := hx_ HB.out a6
 replace p527 := eq_true p527
 replace q527 := eq_true q527
 go_upto_if 18 with (fail)
 (try clear a6)
 have H := ag.out
 clear ag
 by_cases c9 : (rd l0 a5) = a1
 rotate_left
 ·rw [if_neg c9] at H
  have a8 := beq_eq_false_iff_ne.mpr c9
  have af := bne_iff_ne.mpr c9
  (first | rw [a8] | (simp only [i64_w, i32_w]; rw [a8]) | skip)
  have H' := Aside0.mk H
  clear H
  go_wp2
  go_roundg k1
  case measure => have := HK1.out; omega
  case rel => exact ⟨(a7), (wrap64 (a5 + 1)), tq_3, H', ⟨tq_22⟩, ⟨(raR_ a9)⟩, ⟨th_⟩⟩
 rw [if_pos c9] at H
 have a8 := beq_iff_eq.mpr c9
 have af := bne_eq_false_iff_eq.mpr c9
 clear c9
 (first | rw [a8] | (simp only [i64_w, i32_w]; rw [a8]) | skip)
 obtain ⟨ai, H⟩ := fc_ H
 have LMc10 := Aside0.mk ai
 clear ai
 obtain ⟨ab, hy528⟩ : ∃ y_ : List Int, y_ = (a7 ++ [a5]) := ⟨_, rfl⟩
 replace H : (impl_PagesWith.l0 k1 a1 ab l0 (l0.length : Int) (wrap64 (a5 + 1))) = some r := by first | (rw [hy528]; with_reducible exact H) | (have H2_ := (Option.bind_some _ _).symm.trans H; rw [hy528]; with_reducible exact H2_) | (have H2_ := (Option.bind_some _ _).symm.trans H; with_reducible exact H2_) | with_reducible exact H | (rw [hy528]; exact H) | exact H
 have Ny528 := Aside0.mk hy528
 clear hy528
 have H' := Aside0.mk H
 clear H
 go_wp2_with (first | ((with_reducible refine gate_builtin (b := .append) (xs := #[.tmp 19, .tmp 21]) rfl ?_); at_builtin; refine Kd.R_append (Kd.int .i64) (w0 := w) w.heap.size rfl (.tmp 19) (.tmp 21) 24 3 (.int .i64 0) 8 rfl Tryz.underlying24 info3 rfl (by decide) (by omega) u5 a7 a5 [.int .i64 a5] (fun _ => True) (fun _ => False) rfl rfl ?aP (fun _ hk => hk.elim) ?aF ?aO ?aB ?aS ?aL ?_; (case aP => exact rfl); (case aB => exact th_); (case aF => exact (fun _ _ => trivial)); (case aO => exact (raR_ a9)); (case aS => exact (below_size th_)); (case aL => have := LMc10.out; omega); intro v529 am ho hb hg hat; rw [← Ny528.out] at ho; have z_ := p_ (hb) <| a_ (ho); clear HB a9; obtain ⟨HB, HO530⟩ := z_; clear ho hb hg hat))
 go_roundg k1
 case measure => have := HK1.out; omega
 case rel => exact ⟨(ab), (wrap64 (a5 + 1)), tq_3, H', ⟨tq_22⟩, ⟨(raR_ HO530)⟩, ⟨th_⟩⟩

end Go.Proofs.YtleoknilacjakaaGreat.PFnExactChanged
