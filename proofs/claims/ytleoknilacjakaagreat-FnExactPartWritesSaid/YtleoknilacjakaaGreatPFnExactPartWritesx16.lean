/- Contracts of Go functions, written by a program of ours over the print of the kit: each says that the call returns what the Lean function beside it computes. Conditions: as each theorem states them. -/
import Derived.Test.YtleoknilacjakaaGreatPkFnExactPartWrites
import Derived.Test.YtleoknilacjakaaGreatPFnExactPartWritesx0
import Derived.Test.YtleoknilacjakaaGreatPFnExactPartWritesx15
namespace Go.Proofs.YtleoknilacjakaaGreat.PFnExactPartWrites
open Go.RowKit Go.Proofs.YtleoknilacjakaaGreatW.PrintWords Go.Proofs.YtleoknilacjakaaGreatW.PrintLast Go.Proofs.YtleoknilacjakaaGreatW.PrintMore
attribute [local go_sem] max2_int min2_int max_two min_two max_three min_three max_four min_four   -- for this text's walks alone
set_option linter.unusedVariables false
set_option linter.unusedSimpArgs false

/-! ### slices_Reverse_string: function 110 -/
def slices_Reverse_string.l0 : Nat → List ByteArray → Int → Int → Option (List ByteArray)
 | 0, _, _, _ => none
 | k + 1, x0, x2, x3 => if x2 < x3 then (if 0 ≤ x3 then (if x3 < (x0.length : Int) then (if 0 ≤ x2 then (if x2 < (x0.length : Int) then (slices_Reverse_string.l0 k ((x0.set (x2 : Int).toNat (rdOf ByteArray.empty x0 x3)).set (x3 : Int).toNat (rdOf ByteArray.empty x0 x2)) (wrap64 (x2 + 1)) (wrap64 (x3 - 1))) else (none)) else (none)) else (none)) else (none)) else (some x0)
def slices_Reverse_string.f (k : Nat) (l0 : List ByteArray) : Option (List ByteArray) := slices_Reverse_string.l0 k l0 0 (wrap64 ((l0.length : Int) - 1))
def slices_Reverse_string.T3 : Bool × List (List Nat × List Nat) := (true, [([], []), ([], []), ([], []), ([], []), ([], []), ([], []), ([4, 5], [4, 5]), ([6], [6]), ([], []), ([], []), ([8, 9], [8, 9]), ([10], [10]), ([0, 1, 0, 1, 4, 5, 6, 7, 11], [0, 1]), ([12, 7, 0, 1, 4, 5, 6, 7, 11], [7, 12]), ([2, 3, 0, 1, 2, 3, 4, 5, 6, 7, 8, 9, 10, 11, 12, 13], [2, 3]), ([14, 11, 13, 0, 1, 2, 3, 4, 5, 6, 7, 8, 9, 10, 11, 12, 13], [11, 14])])
def slices_Reverse_string.B3 : List Nat := [0, 0, 0, 0, 0, 0, 48, 112, 0, 0, 768, 1792, 4083, 8179, 16383, 32767]
theorem slices_Reverse_string.tab3 : rtab .any (opsOf Tryz.f110 3) = slices_Reverse_string.T3 := by kernel_rfl
theorem slices_Reverse_string.bits3 : waitsOk slices_Reverse_string.T3.2 slices_Reverse_string.B3 = true := by kernel_rfl
set_option maxHeartbeats 8000000 in
set_option maxRecDepth 100000 in
theorem slices_Reverse_string.calls (k : Nat) (P0_ : Nat → Prop) (u9000_ : Value) (l0 : List ByteArray) (r : List ByteArray) (w0 w : World) (hB : Below w0.heap.size w0 w) (ho0 : Kd.R Kd.string 9 w w0.heap.size P0_ u9000_ l0) (h : slices_Reverse_string.f k l0 = some r) :
  Calls Tryz.prog 110 #[u9000_] w fun e w' => e = .returned (.tuple #[]) ∧ Kd.R Kd.string 9 w' w0.heap.size (fun k_ => (P0_ k_ ∨ w.heap.size ≤ k_)) u9000_ r ∧ Below w0.heap.size w0 w' ∧ Kept w w' (fun k_ => P0_ k_) := by
 have HO0 := Aside0.mk (show Kd.R Kd.string 9 w w0.heap.size (fun k_ => (P0_ k_ ∨ w.heap.size ≤ k_)) u9000_ l0 from Kd.R_mono ho0 (fun k_ hk => (.inl hk)))
 have HK := Aside0.mk (Kept.refl w (fun k_ => P0_ k_))
 have HW0 := Aside0.mk hB.size
 have HB := Aside0.mk hB
 clear hB
 unfold slices_Reverse_string.f at h
 have H := h
 clear h
 have H' := Aside0.mk H
 clear H
 obtain ⟨Ao2, au, av⟩ := Kd.R_slice HO0.out
 subst av
 go_enter Tryz.func110, Tryz.ntmps110
 go_wp2
 go_loopg [2, 3] k (fun kq v2 v3 w' => ∃ (a7 : List ByteArray) (a5 : Int) (a6 : Int), v2 = .int .i64 a5 ∧ v3 = .int .i64 a6 ∧ Aside0 (slices_Reverse_string.l0 kq a7 a5 a6 = some r) ∧ Aside0 (kq ≤ k) ∧ Aside0 (Kd.R Kd.string 9 w' w0.heap.size (fun k_ => (P0_ k_ ∨ w.heap.size ≤ k_)) (.slice Ao2 l0.length au) a7) ∧ Aside0 (Kept w w' (fun k_ => P0_ k_)) ∧ Aside0 (Below w0.heap.size w0 w'))
 case atStart => exact ⟨(l0), (0), (wrap64 ((l0.length : Int) - 1)), tq_3, tq_3, H', ⟨Nat.le_refl _⟩, ⟨(raR_ HO0)⟩, ⟨tq_4⟩, ⟨th_⟩⟩
 case round =>
 clear H'
 try clear c1; try clear p2
 obtain ⟨a7, a5, a6, rfl, rfl, HA, HK1, HO_0, HK, HB⟩ := hrel
 have aa := (Kd.R_reads' HO_0.out).1
 rw [aa] at HO_0
 (try simp only [aa])
 cases gk with
 | zero => exact absurd HA.out (by simp [slices_Reverse_string.l0])
 | succ k1 =>
 have H := HA.out
 clear HA
 simp only [slices_Reverse_string.l0] at H
 by_cases c3 : a5 < a6
 rotate_left
 ·rw [if_neg c3] at H
  have al := decide_eq_false c3
  clear c3
  obtain rfl := Option.some.inj H
  go_wp2
  first | go_end0 | ((try simp only [Exit.inBlock, Exit.then]); refine bodyPost_ret (results_none rfl _ _ _) rfl ?_)
  exact ⟨tq_1, (by first | exact (raR_ HO_0) | (simp only [aa]; exact (raR_ HO_0))), th_, tq_4⟩
 rw [if_pos c3] at H
 have al := decide_eq_true c3
 clear c3
 obtain ⟨c4, H⟩ := fc_ H
 have aw := decide_eq_true c4
 clear c4
 obtain ⟨c5, H⟩ := fc_ H
 have ax := decide_eq_true c5
 clear c5
 obtain ⟨c6, H⟩ := fc_ H
 have ay := decide_eq_true c6
 clear c6
 obtain ⟨c7, H⟩ := fc_ H
 have az := decide_eq_true c7
 clear c7
 obtain ⟨ab, hy421⟩ : ∃ y_ : List ByteArray, y_ = (a7.set (a5 : Int).toNat (rdOf ByteArray.empty a7 a6)) := ⟨_, rfl⟩
 replace H : (slices_Reverse_string.l0 k1 (ab.set (a6 : Int).toNat (rdOf ByteArray.empty a7 a5)) (wrap64 (a5 + 1)) (wrap64 (a6 - 1))) = some r := by first | (rw [hy421]; with_reducible exact H) | (have H2_ := (Option.bind_some _ _).symm.trans H; rw [hy421]; with_reducible exact H2_) | (have H2_ := (Option.bind_some _ _).symm.trans H; with_reducible exact H2_) | with_reducible exact H | (rw [hy421]; exact H) | exact H
 have Ny421 := Aside0.mk hy421
 clear hy421
 obtain ⟨ac, hy422⟩ : ∃ y_ : List ByteArray, y_ = (ab.set (a6 : Int).toNat (rdOf ByteArray.empty a7 a5)) := ⟨_, rfl⟩
 replace H : (slices_Reverse_string.l0 k1 ac (wrap64 (a5 + 1)) (wrap64 (a6 - 1))) = some r := by first | (rw [hy422]; with_reducible exact H) | (have H2_ := (Option.bind_some _ _).symm.trans H; rw [hy422]; with_reducible exact H2_) | (have H2_ := (Option.bind_some _ _).symm.trans H; with_reducible exact H2_) | with_reducible exact H | (rw [hy422]; exact H) | exact H
 have Ny422 := Aside0.mk hy422
 clear hy422
 have H' := Aside0.mk H
 clear H
 try go_wp2
 have z_ := p_ (Kd.R_drew HO_0.out) <| p_ (Kept.drew HK.out) <| a_ (below_drew1 HB.out)
 clear HO_0 HK HB
 obtain ⟨HO_0, HK, HB⟩ := z_
 have p419 : 0 ≤ (a6 : Int) := of_decide_eq_true tq_2
 have q419 : a6 < (a7.length : Int) := of_decide_eq_true tq_2
 obtain ⟨ae, am, a8⟩ := Kd.at_string (Kd.R_reads' HO_0.out).2.2 a6 p419 q419
 cases am
 replace p419 := eq_true p419
 replace q419 := eq_true q419
 have p420 : 0 ≤ (a5 : Int) := of_decide_eq_true tq_2
 have q420 : a5 < (a7.length : Int) := of_decide_eq_true tq_2
 obtain ⟨af, an, a9⟩ := Kd.at_string (Kd.R_reads' HO_0.out).2.2 a5 p420 q420
 obtain rfl : ae = af := (by injection an)
 replace p420 := eq_true p420
 replace q420 := eq_true q420
 have p8 : 0 ≤ (a5 : Int) := of_decide_eq_true tq_2
 have q8 : (a5 : Int) < ((a7.length : Int) : Int) := of_decide_eq_true tq_2
 obtain ⟨ak, b2, ao, ap, b0, b3, aq⟩ := Kd.R_form HO_0.out (by omega)
 (first | cases ao | (injection ao with ea_ en_ ec_; (first | subst ea_ | (injection ea_ with ea_; subst ea_)); subst ec_; clear en_))
 have ar := Aside0.mk ap
 have b1 := Aside0.mk aq
 clear ap b0 aq
 have HMgo8 := Aside0.mk (show (P0_ ak ∨ w.heap.size ≤ ak) from (HO_0.out.1 _ rfl))
 (first | simp only [add_plain] at a8 | skip)
 (first | simp only [add_plain] at a9 | skip)
 obtain ⟨ag, ah⟩ := Kd.R_celln (⟨#[]⟩ : ByteArray) HO_0.out (a5 : Int) p8 q8
 replace p8 := eq_true p8
 replace q8 := eq_true q8
 have HP11 := Kd.R_putn HO_0.out (a5 : Int) (rdOf ByteArray.empty a7 a6)
 rw [← Ny421.out] at HP11
 have HQ11 := Aside0.mk HP11
 clear HP11
 have p9 : 0 ≤ (a6 : Int) := of_decide_eq_true tq_2
 have q9 : (a6 : Int) < ((a7.length : Int) : Int) := of_decide_eq_true tq_2
 obtain ⟨ai, aj⟩ := Kd.R_celln (⟨#[]⟩ : ByteArray) HQ11.out (a6 : Int) p9 q9
 replace p9 := eq_true p9
 replace q9 := eq_true q9
 have HP12 := Kd.R_putn HQ11.out (a6 : Int) (rdOf ByteArray.empty a7 a5)
 rw [← Ny422.out] at HP12
 have HQ12 := Aside0.mk HP12
 clear HP12
 refine start_ (n := 16) (S := fun w' => w'.cell? ⟨ak, (a6).toNat, none⟩ = some (.string (rdOf ByteArray.empty a7 a6)) ∧ w'.cell? ⟨ak, (a5).toNat, none⟩ = some (.string (rdOf ByteArray.empty a7 a5))) (ds := [13, 15]) #[false, false, false, false, false, false, false, false, false, false, false, false, false, false, false, false] (by kernel_rfl) rfl rfl ⟨a8, a9⟩ (fun hHeld => ?_); refine with_tabW slices_Reverse_string.tab3 slices_Reverse_string.bits3 (fun HT_ HW_ => ?_)
 generalize wr.drew = b4 at HO_0 HK HB b1 HQ11 HQ12 ah aj a8 a9 ag ai hHeld ⊢
 refine yr_ 0 14 #[true, false, false, false, false, false, false, false, false, false, false, false, false, false, false, false] HT_ ?_
 refine yr_ 1 15 #[true, true, false, false, false, false, false, false, false, false, false, false, false, false, false, false] HT_ ?_
 refine yr_ 2 16 #[true, true, true, false, false, false, false, false, false, false, false, false, false, false, false, false] HT_ ?_
 refine yr_ 3 17 #[true, true, true, true, false, false, false, false, false, false, false, false, false, false, false, false] HT_ ?_
 refine yr_ 4 18 #[true, true, true, true, true, false, false, false, false, false, false, false, false, false, false, false] HT_ ?_
 refine yr_ 5 19 #[true, true, true, true, true, true, false, false, false, false, false, false, false, false, false, false] HT_ ?_
 refine yr_ 6 20 #[true, true, true, true, true, true, true, false, false, false, false, false, false, false, false, false] HT_ ?_
 refine yr_ 8 22 #[true, true, true, true, true, true, true, false, true, false, false, false, false, false, false, false] HT_ ?_
 refine yr_ 9 23 #[true, true, true, true, true, true, true, false, true, true, false, false, false, false, false, false] HT_ ?_
 refine yr_ 10 24 #[true, true, true, true, true, true, true, false, true, true, true, false, false, false, false, false] HT_ ?_
 refine tr_ 7 21 #[true, true, true, true, true, true, true, true, true, true, true, false, false, false, false, false] HT_ HW_ hHeld ?_
 refine tr_ 11 25 #[true, true, true, true, true, true, true, true, true, true, true, true, false, false, false, false] HT_ HW_ hHeld ?_
 refine yr_ 12 26 #[true, true, true, true, true, true, true, true, true, true, true, true, true, false, false, false] HT_ ?_
 refine last_ (i := 13) (N := none) #[true, true, true, true, true, true, true, true, true, true, true, true, true, true, false, false] rfl rfl (one_of HT_.out (by kernel_rfl)) (by decide) (fun K hK => ?_)
 refine skip_ (w1 := ?_) (by rfl) rfl ?_ ?_
 rotate_left
 ·go_simp
  rfl
 refine hK.out _ _ ?_
 clear hK K
 refine yr_ 14 27 #[true, true, true, true, true, true, true, true, true, true, true, true, true, true, true, false] HT_ ?_
 refine last_ (i := 15) (N := none) #[true, true, true, true, true, true, true, true, true, true, true, true, true, true, true, true] rfl rfl (one_of HT_.out (by kernel_rfl)) (by decide) (fun K hK => ?_)
 refine skip_ (w1 := ?_) (by rfl) rfl ?_ ?_
 rotate_left
 ·go_simp
  rfl
 refine hK.out _ _ ?_
 clear hK K
 refine done_ (done_of HT_.out (by kernel_rfl)) ?_
 try go_wp2
 (try simp only [← aa])
 go_roundg k1
 case measure => have := HK1.out; omega
 case rel => exact ⟨(ac), (wrap64 (a5 + 1)), (wrap64 (a6 - 1)), tq_3, tq_3, H', ⟨tq_15⟩, ⟨(by (try simp only [aa]); (with_reducible repeat (first | apply Kd.R_alloc | apply Kd.R_drewN | apply Kd.R_drew)); exact HQ12.out)⟩, ⟨(by repeat (first | (with_reducible first | exact HK.out | apply Kept.alloc | apply Kept.drewN | apply Kept.drew | refine Kept.setCell ?_ HMgo8.out _ | refine Kept.setCell ?_ HMgo8.out _) | exact HK.out))⟩, ⟨(by repeat (first | (with_reducible first | exact HB.out | apply below_alloc | apply pw_below_drewN | apply below_drew1 | refine below_set ?_ ar.out | refine below_set ?_ ar.out) | exact HB.out))⟩⟩

/-! ### impl_upwards: function 100 -/
def impl_upwards.l0 : Nat → Int → List ByteArray → Int → List Int → List (S69) → Option (List ByteArray × Bool)
 | 0, _, _, _, _, _ => none
 | k + 1, x1, x6, x424000, x424001, x424002 => if x1 = 0 then ((slices_Reverse_string.f k x6).bind fun t427 => (some (t427, true))) else ((impl_above.f k x424000 x424001 x424002 x1).bind fun bt428 => (if bt428.2.2 = true then (if (x6.length : Int) = (x424002.length : Int) then (some (([] : List ByteArray), false)) else (if x6.length < 8796093022208 then (impl_upwards.l0 k bt428.1 (x6 ++ [bt428.2.1]) x424000 x424001 x424002) else (none))) else (some (([] : List ByteArray), false))))
def impl_upwards.f (k : Nat) (a0_0 : Int) (l0_1 : List Int) (l0_2 : List (S69)) (a1 : Int) : Option (List ByteArray × Bool) := impl_upwards.l0 k a1 (([] : List ByteArray)) a0_0 l0_1 l0_2
set_option maxHeartbeats 8000000 in
set_option maxRecDepth 100000 in
theorem impl_upwards.calls (k : Nat) (aa : Int) (ae : Option Addr) (af : Nat) (a8 : List Int) (ag : Option Addr) (ah : Nat) (a6 : List (S69)) (a1 : Int) (r1 : List ByteArray) (r2 : Bool) (w : World) (al : Kd.C (Kd.int .i64) w ae a8.length a8) (am : a8.length ≤ af) (an : Kd.C k69 w ag a6.length a6) (ao : a6.length ≤ ah) (h : impl_upwards.f k aa a8 a6 a1 = some (r1, r2)) :
  Calls Tryz.prog 100 #[.agg #[.int .i64 aa, .slice ae a8.length af, .slice ag a6.length ah], .int .i64 a1] w fun e w' => ∃ v0_ : Value, e = .returned (.tuple #[v0_, .bool r2]) ∧ Kd.R Kd.string 9 w' w.heap.size (fun _ => True) v0_ r1 ∧ Below w.heap.size w w' := by
 have hu35 := Tryz.underlying35
 have HR0_1 := Aside0.mk al
 have ap := Aside0.mk am
 clear al am
 have HR0_2 := Aside0.mk an
 have aq := Aside0.mk ao
 clear an ao
 have HB := Aside0.mk (Below.refl w.heap.size w)
 unfold impl_upwards.f at h
 have H := h
 clear h
 obtain ⟨au, hy424⟩ : ∃ y_ : List ByteArray, y_ = (([] : List ByteArray)) := ⟨_, rfl⟩
 replace H : (impl_upwards.l0 k a1 au aa a8 a6) = some (r1, r2) := by first | (rw [hy424]; with_reducible exact H) | (have H2_ := (Option.bind_some _ _).symm.trans H; rw [hy424]; with_reducible exact H2_) | (have H2_ := (Option.bind_some _ _).symm.trans H; with_reducible exact H2_) | with_reducible exact H | (rw [hy424]; exact H) | exact H
 have Ny424 := Aside0.mk hy424
 clear hy424
 have H' := Aside0.mk H
 clear H
 go_enter Tryz.func100, Tryz.ntmps100
 go_wp2_with (first | ((with_reducible refine gate_dst (N := 2) rfl ?_); (try (refine gate_guard (by rfl) ?_; dsimp only)); refine be_ 2 (cs := #[.int .i64 aa, .slice ae a8.length af, .slice ag a6.length ah]) 35 ?_; intro ar hg w3 hbox hb; have z_ := bx0_ th_ hb hbox hg; clear HB; obtain ⟨HB, a5, ba, av⟩ := z_; clear hb hbox hg) | ((with_reducible refine gate_dst (N := 10) rfl ?_); (try (refine gate_guard (by rfl) ?_; dsimp only)); refine Kd.R_lit Kd.string _ 9 ?hg (N := 10) ?hd (xs := ([] : List ByteArray)) (inner := []) (ok := fun _ => True) (okp := fun _ => True) ?hr ?hp (fun _ hk => hk) trivial (Below.refl _ _) (Nat.le_refl _) (by simp) ?_; (case hd => rfl); (case hg => rfl); (case hr => first | (go_simp; done) | (go_simp; rfl)); (case hp => exact (Reps.none _ _)); intro v425 w4 ho5 hb hg_ hnew_; clear hg_ hnew_; (first | rw [← Ny424.out] at ho5 | (simp only [Int.reduceToNat] at ho5; rw [← Ny424.out] at ho5)); have z_ := p_ (Kd.R_lower ho5 (below_size th_)) <| bw1_ (kb_ a5) th_ hb; clear a5 HB; obtain ⟨HO426, a5, HB⟩ := z_; clear hb ho5))
 go_loopg [1, 6] k (fun kq v1 v6 w' => ∃ (ab : Int) (a9 : List ByteArray), v1 = .int .i64 ab ∧ Aside0 (impl_upwards.l0 kq ab a9 aa a8 a6 = some (r1, r2)) ∧ Aside0 (kq ≤ k) ∧ Aside0 (Kd.R Kd.string 9 w' w.heap.size (fun _ => True) v6 a9) ∧ Aside0 (w'.heap[ar]? = some (.cells #[.int .i64 aa, (.slice ae a8.length af), (.slice ag a6.length ah)] 35 (0, 0))) ∧ Aside0 (Below w.heap.size w w'))
 case atStart => exact ⟨(a1), (au), tq_3, H', ⟨Nat.le_refl _⟩, ⟨(raR_ HO426)⟩, ⟨(kb_ a5)⟩, ⟨th_⟩⟩
 case round =>
 clear H'
 try clear c1; try clear p2
 obtain ⟨ab, a9, rfl, HA, HK1, a7, a5, HB⟩ := hrel
 cases gk with
 | zero => exact absurd HA.out (by simp [impl_upwards.l0])
 | succ k1 =>
 have H := HA.out
 clear HA
 simp only [impl_upwards.l0] at H
 by_cases c6 : ab = 0
 ·rw [if_pos c6] at H
  have b3 := beq_iff_eq.mpr c6
  have b4 := bne_eq_false_iff_eq.mpr c6
  clear c6
  obtain ⟨b5, A7, H⟩ := bd_ H
  simp only [Option.some.injEq, Prod.mk.injEq] at H
  obtain ⟨rfl, rfl⟩ := H
  obtain ⟨Ao8, b6, bd⟩ := Kd.R_slice a7.out
  subst bd
  go_wp2_with (first | ((with_reducible refine gate_callee (f := 110) rfl ?_); refine goesL_ (some 36) rfl rfl Tryz.func110 (by kernel_rfl) rfl #[.slice Ao8 a9.length b6] rfl tq_0 ?_; (with_reducible refine (slices_Reverse_string.calls k1 (fun k_ => some k_ = (.slice Ao8 a9.length b6 : Value).ownBlock) (.slice Ao8 a9.length b6) a9 b5 w _ ?side1 ?side2 A7.out).mono ?_); (case side1 => repeat (first | (with_reducible first | exact HB.out | apply below_alloc | apply pw_below_drewN | apply below_drew1 | refine below_set ?_ av.out) | exact HB.out)); (case side2 => exact Kd.R_tight rfl a7.out); rintro e w9 ⟨rfl, hy0, hb, hkp⟩; refine ⟨_, rfl, ?_⟩; have z_ := p_ (Kd.R_reok rfl hy0 (fun k_ e_ => a7.out.1 k_ e_)) <| p_ (blk_kept (kb_ a5) hkp (fun hs_ => (fun e_ => (Kd.R_ne a7.out a5.out (by decide)) e_) hs_)) <| a_ (hb); clear a7 a5 HB; obtain ⟨a7, a5, HB⟩ := z_; (try clear hb); (try clear hkp); (try clear hy0)))
  go_ret2
  exact ⟨_, tq_1, (raR_ a7), th_⟩
 rw [if_neg c6] at H
 have b3 := beq_eq_false_iff_ne.mpr c6
 have b4 := bne_iff_ne.mpr c6
 obtain ⟨⟨ak, ai, b7⟩, bb, H⟩ := bd_ H
 try dsimp -simprocs only at H
 by_cases b2 : b7 = true
 rotate_left
 ·replace b2 := Bool.eq_false_iff.mpr b2
  subst b2
  rw [if_neg nf_] at H
  simp only [Option.some.injEq, Prod.mk.injEq] at H
  obtain ⟨rfl, rfl⟩ := H
  have be := bb3_ a5.out
  go_wp2_with (first | ((with_reducible refine gate_callee (f := 109) rfl ?_); refine goesL_ (some 16) rfl rfl Tryz.func109 (by kernel_rfl) rfl #[.agg #[.int .i64 aa, .slice ae a8.length af, .slice ag a6.length ah], .int .i64 ab] rfl tq_0 ?_; (with_reducible refine (impl_above.calls k1 aa _ _ a8 _ _ a6 ab ak ai false _ ?side1 ?side2 ?side3 ?side4 bb.out).mono ?_); (case side1 => exact tq_14); (case side2 => exact ap.out); (case side3 => exact tq_16); (case side4 => exact aq.out); rintro e bf ⟨rfl, hb⟩; refine ⟨_, rfl, ?_⟩; have z_ := p_ (Kd.R_below (raR_ a7) hb) <| bw1_ (kb_ a5) th_ hb; clear a7 a5 HB; obtain ⟨a7, a5, HB⟩ := z_; (try clear hb)))
  go_ret2
  exact ⟨_, tq_1, tq_17, th_⟩
 subst b2
 rw [if_pos rfl] at H
 have aw := Aside0.mk H
 clear H
 have ax := bb3_ a5.out
 go_upto_if 29 with (first | ((with_reducible refine gate_callee (f := 109) rfl ?_); refine goesL_ (some 16) rfl rfl Tryz.func109 (by kernel_rfl) rfl #[.agg #[.int .i64 aa, .slice ae a8.length af, .slice ag a6.length ah], .int .i64 ab] rfl tq_0 ?_; (with_reducible refine (impl_above.calls k1 aa _ _ a8 _ _ a6 ab ak ai true _ ?side1 ?side2 ?side3 ?side4 bb.out).mono ?_); (case side1 => exact tq_14); (case side2 => exact ap.out); (case side3 => exact tq_16); (case side4 => exact aq.out); rintro e bg ⟨rfl, hb⟩; refine ⟨_, rfl, ?_⟩; have z_ := p_ (Kd.R_below (raR_ a7) hb) <| bw1_ (kb_ a5) th_ hb; clear a7 a5 HB; obtain ⟨a7, a5, HB⟩ := z_; (try clear hb); obtain ⟨Ao15, b8, b9⟩ := Kd.R_slice a7.out; subst b9; have ay := bb3_ a5.out))
 (try simp only [Act.put, List.setIfInBounds_toArray, List.set_cons_zero, List.set_cons_succ])
 (try clear ax)
 (try clear ay)
 (try clear ax)
 (try clear ay)
 have H := aw.out
 clear aw
 by_cases aj : (a9.length : Int) = (a6.length : Int)
 ·rw [if_pos aj] at H
  have ac := beq_iff_eq.mpr aj
  have az := bne_eq_false_iff_eq.mpr aj
  have b0 : (a9.length == a6.length) = true := by first | simpa using aj | (simp at aj ⊢; omega)
  clear aj
  (first | rw [ac] | (simp only [i64_w, i32_w]; rw [ac]) | skip)
  simp only [Option.some.injEq, Prod.mk.injEq] at H
  obtain ⟨rfl, rfl⟩ := H
  go_wp2
  go_ret2
  exact ⟨_, tq_1, tq_17, th_⟩
 rw [if_neg aj] at H
 have ac := beq_eq_false_iff_ne.mpr aj
 have az := bne_iff_ne.mpr aj
 have b0 : (a9.length == a6.length) = false := by first | simpa using aj | (simp at aj ⊢; omega)
 (first | rw [ac] | (simp only [i64_w, i32_w]; rw [ac]) | skip)
 obtain ⟨bc, H⟩ := fc_ H
 have LMc18 := Aside0.mk bc
 clear bc
 obtain ⟨b1, hy431⟩ : ∃ y_ : List ByteArray, y_ = (a9 ++ [ai]) := ⟨_, rfl⟩
 replace H : (impl_upwards.l0 k1 ak b1 aa a8 a6) = some (r1, r2) := by first | (rw [hy431]; with_reducible exact H) | (have H2_ := (Option.bind_some _ _).symm.trans H; rw [hy431]; with_reducible exact H2_) | (have H2_ := (Option.bind_some _ _).symm.trans H; with_reducible exact H2_) | with_reducible exact H | (rw [hy431]; exact H) | exact H
 have Ny431 := Aside0.mk hy431
 clear hy431
 have H' := Aside0.mk H
 clear H
 go_wp2_with (first | ((with_reducible refine gate_builtin (b := .append) (xs := #[.tmp 30, .tmp 32]) rfl ?_); (try (refine gate_guard (by rfl) ?_; dsimp only)); at_builtin; refine Kd.R_append Kd.string (w0 := w) w.heap.size rfl (.tmp 30) (.tmp 32) 75 9 (.string ⟨#[]⟩) 16 rfl Tryz.underlying75 info9 rfl (by decide) (by omega) (.slice Ao15 a9.length b8) a9 ai [.string ai] (fun _ => True) (fun _ => False) rfl rfl ?aP (fun _ hk => hk.elim) ?aF ?aO ?aB ?aS ?aL ?_; (case aP => exact rfl); (case aB => exact th_); (case aF => exact (fun _ _ => trivial)); (case aO => exact (raR_ a7)); (case aS => exact (below_size th_)); (case aL => have := LMc18.out; omega); intro v432 bh ho hb hg hat; rw [← Ny431.out] at ho; have z_ := p_ (blk_grown (g := ar) (o := .cells #[.int .i64 aa, .slice ae a8.length af, .slice ag a6.length ah] 35 (0, 0)) (kb_ a5) hg (Kd.R_ne a7.out a5.out (by decide))) <| p_ (hb) <| a_ (ho); clear a5 HB a7; obtain ⟨a5, HB, HO433⟩ := z_; clear ho hb hg hat))
 go_roundg k1
 case measure => have := HK1.out; omega
 case rel => exact ⟨(ak), (b1), tq_3, H', ⟨tq_15⟩, ⟨(raR_ HO433)⟩, ⟨(kb_ a5)⟩, ⟨th_⟩⟩

/-! ### impl_DepthOf: function 79 -/
def impl_DepthOf.f (k : Nat) (a0_0 : Int) (l0_1 : List Int) (l0_2 : List (S69)) (a1 : Int) : Option (Int) := (impl_upwards.f k a0_0 l0_1 l0_2 a1).bind fun bt435 => (if bt435.2 = true then (some (bt435.1.length : Int)) else (some (-1)))
set_option maxHeartbeats 8000000 in
set_option maxRecDepth 100000 in
theorem impl_DepthOf.calls (k : Nat) (a8 : Int) (a9 : Option Addr) (aa : Nat) (a5 : List Int) (ab : Option Addr) (ac : Nat) (a6 : List (S69)) (a1 : Int) (r : Int) (w : World) (ae : Kd.C (Kd.int .i64) w a9 a5.length a5) (af : a5.length ≤ aa) (ag : Kd.C k69 w ab a6.length a6) (ah : a6.length ≤ ac) (h : impl_DepthOf.f k a8 a5 a6 a1 = some r) :
  Calls Tryz.prog 79 #[.agg #[.int .i64 a8, .slice a9 a5.length aa, .slice ab a6.length ac], .int .i64 a1] w fun e w' => e = .returned (.int .i64 r) ∧ Below w.heap.size w w' := by
 have hu35 := Tryz.underlying35
 have HR0_1 := Aside0.mk ae
 have ai := Aside0.mk af
 clear ae af
 have HR0_2 := Aside0.mk ag
 have aj := Aside0.mk ah
 clear ag ah
 have HB := Aside0.mk (Below.refl w.heap.size w)
 unfold impl_DepthOf.f at h
 have H := h
 clear h
 obtain ⟨⟨al, ak⟩, A3, H⟩ := bd_ H
 try dsimp -simprocs only at H
 have am := Aside0.mk H
 clear H
 go_enter Tryz.func79, Tryz.ntmps79
 go_upto_if 14 with (first | ((with_reducible refine gate_dst (N := 2) rfl ?_); refine be_ 2 (cs := #[.int .i64 a8, .slice a9 a5.length aa, .slice ab a6.length ac]) 35 ?_; intro an hg w5 hbox hb; have z_ := bx0_ th_ hb hbox hg; clear HB; obtain ⟨HB, a7, ao, ap⟩ := z_; clear hb hbox hg; have aq := bb3_ a7.out) | ((with_reducible refine gate_callee (f := 100) rfl ?_); refine goesL_ (some 10) rfl rfl Tryz.func100 (by kernel_rfl) rfl #[.agg #[.int .i64 a8, .slice a9 a5.length aa, .slice ab a6.length ac], .int .i64 a1] rfl tq_0 ?_; (with_reducible refine (impl_upwards.calls k a8 _ _ a5 _ _ a6 a1 al ak _ ?side1 ?side2 ?side3 ?side4 A3.out).mono ?_); (case side1 => exact tq_14); (case side2 => exact ai.out); (case side3 => exact tq_16); (case side4 => exact aj.out); rintro e w7 ⟨v436, rfl, ho0, hb⟩; refine ⟨_, rfl, ?_⟩; have z_ := p_ (Kd.R_lower ho0 (below_size th_)) <| bw1_ (kb_ a7) th_ hb; clear a7 HB; obtain ⟨HO437, a7, HB⟩ := z_; (try clear hb); (try clear ho0)))
 (try simp only [Act.put, List.setIfInBounds_toArray, List.set_cons_zero, List.set_cons_succ])
 (try clear aq)
 have H := am.out
 clear am
 by_cases c8 : ak = true
 rotate_left
 ·replace c8 := Bool.eq_false_iff.mpr c8
  subst c8
  rw [if_neg nf_] at H
  obtain rfl := Option.some.inj H
  go_wp2
  go_ret
  exact ⟨tq_1, th_⟩
 subst c8
 rw [if_pos rfl] at H
 obtain rfl := Option.some.inj H
 obtain ⟨Ao9, au, ar⟩ := Kd.R_slice HO437.out
 subst ar
 go_wp2
 go_ret
 exact ⟨tq_1, th_⟩

end Go.Proofs.YtleoknilacjakaaGreat.PFnExactPartWrites
