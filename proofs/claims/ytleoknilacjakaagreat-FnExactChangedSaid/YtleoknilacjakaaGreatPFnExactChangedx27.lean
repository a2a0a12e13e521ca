/- Contracts of Go functions: each call returns what the Lean function beside it computes. Conditions: as each theorem states them. -/
import Derived.Test.YtleoknilacjakaaGreatPkFnExactChanged
import Derived.Test.YtleoknilacjakaaGreatPFnExactChangedx1
import Derived.Test.YtleoknilacjakaaGreatPFnExactChangedx25
import Derived.Test.YtleoknilacjakaaGreatPFnExactChangedx26
namespace Go.Proofs.YtleoknilacjakaaGreat.PFnExactChanged
open Go.RowKit Go.Proofs.YtleoknilacjakaaGreatW.PrintWords Go.Proofs.YtleoknilacjakaaGreatW.PrintLast Go.Proofs.YtleoknilacjakaaGreatW.PrintMore
attribute [local go_sem] max2_int min2_int max_two min_two max_three min_three max_four min_four   -- for this text's walks alone
set_option linter.unusedVariables false
set_option linter.unusedSimpArgs false

/-! ### impl_partWrites: function 26 -/
mutual
def impl_partWrites.l0 : Nat → Int → List (S53) → List ByteArray → Int → Int → Int → Int → Int → Int → Int → List Int → List (S69) → Option ((List (S53)))
 | 0, _, _, _, _, _, _, _, _, _, _, _, _ => none
 | k + 1, x1, x7, ae, ag, ac, a5, a6, a7, a8, aa, ab, a9 => if ac < ag then (if 0 ≤ ac then (if ac < (ae.length : Int) then ((impl_statesAt.f a5 a6 a7 a8 x1).bind fun af => (if x7.length < 5864062014805 then (impl_partWrites.l0 k x1 (x7 ++ [(⟨wrap64 (af + ac), rdOf ByteArray.empty ae ac⟩ : S53)]) ae ag (wrap64 (ac + 1)) a5 a6 a7 a8 aa ab a9) else (none))) else (none)) else (none)) else (impl_partWrites.l1 k x1 x7 a9 (a9.length : Int) 0 a5 a6 a7 a8)
def impl_partWrites.l1 : Nat → Int → List (S53) → List (S69) → Int → Int → Int → Int → Int → Int → Option ((List (S53)))
 | 0, _, _, _, _, _, _, _, _, _ => none
 | k + 1, x1, x7, aa, ac, a5, a6, a7, a8, a9 => if a5 < ac then (if 0 ≤ a5 then (if a5 < (aa.length : Int) then ((impl_inodeText.f k ((rd_T69 aa a5).f0) ((rd_T69 aa a5).f1) ((rd_T69 aa a5).f2) ((rd_T69 aa a5).f3) ((rd_T69 aa a5).f4) ((rd_T69 aa a5).f5)).bind fun ab => (impl_partWrites.l2 k x1 x7 a5 aa ac a5 ab (ab.length : Int) 0 a6 a7 a8 a9)) else (none)) else (none)) else (some x7)
def impl_partWrites.l2 : Nat → Int → List (S53) → Int → List (S69) → Int → Int → List ByteArray → Int → Int → Int → Int → Int → Int → Option ((List (S53)))
 | 0, _, _, _, _, _, _, _, _, _, _, _, _, _ => none
 | k + 1, x1, x7, ac, ae, af, ag, aa, ah, a9, a5, a6, a7, a8 => if a9 < ah then (if 0 ≤ a9 then (if a9 < (aa.length : Int) then ((impl_InodeAt.f a5 a6 a7 a8 x1 ac).bind fun ab => (if x7.length < 5864062014805 then (impl_partWrites.l2 k x1 (x7 ++ [(⟨wrap64 (ab + a9), rdOf ByteArray.empty aa a9⟩ : S53)]) ac ae af ag aa ah (wrap64 (a9 + 1)) a5 a6 a7 a8) else (none))) else (none)) else (none)) else (impl_partWrites.l1 k x1 x7 ae af (wrap64 (ag + 1)) a5 a6 a7 a8)
end
def impl_partWrites.f (k : Nat) (a7 : Int) (a8 : Int) (a9 : Int) (aa : Int) (a1 : Int) (ab : Int) (a5 : List Int) (ac : List (S69)) : Option ((List (S53))) := (impl_StatesWords.f k a5).bind fun a6 => (impl_partWrites.l0 k a1 (([] : List (S53))) a6 (a6.length : Int) 0 a7 a8 a9 aa ab a5 ac)
set_option maxHeartbeats 8000000 in
set_option maxRecDepth 100000 in
theorem impl_partWrites.calls (k : Nat) (ag : Int) (ah : Int) (ai : Int) (aj : Int) (a1 : Int) (ap : Int) (au : Option Addr) (av : Nat) (ak : List Int) (bd : Option Addr) (az : Nat) (a6 : List (S69)) (r : List (S53)) (w : World) (bz : Kd.C (Kd.int .i64) w au ak.length ak) (ca : ak.length ≤ av) (cb : Kd.C k69 w bd a6.length a6) (cc : a6.length ≤ az) (h : impl_partWrites.f k ag ah ai aj a1 ap ak a6 = some r) :
  Calls Tryz.prog 26 #[.agg #[.int .i64 ag, .int .i64 ah, .int .i64 ai, .int .i64 aj], .int .i64 a1, .agg #[.int .i64 ap, .slice au ak.length av, .slice bd a6.length az]] w fun e w' => ∃ v0_ : Value, e = .returned (v0_) ∧ Kd.R k53 53 w' w.heap.size (fun _ => True) v0_ r ∧ Below w.heap.size w w' := by
 have hu31 := Tryz.underlying31
 have hu35 := Tryz.underlying35
 have hu53 := Tryz.underlying53
 have hu69 := Tryz.underlying69
 have HR2_1 := Aside0.mk bz
 have cj := Aside0.mk ca
 clear bz ca
 have HR2_2 := Aside0.mk cb
 have d7 := Aside0.mk cc
 clear cb cc
 have HB := Aside0.mk (Below.refl w.heap.size w)
 unfold impl_partWrites.f at h
 have H := h
 clear h
 obtain ⟨ck, hy602⟩ : ∃ y_ : List (S53), y_ = (([] : List (S53))) := ⟨_, rfl⟩
 replace H : ((impl_StatesWords.f k ak).bind fun al => (impl_partWrites.l0 k a1 ck al (al.length : Int) 0 ag ah ai aj ap ak a6)) = some r := by first | (rw [hy602]; with_reducible exact H) | (have H2_ := (Option.bind_some _ _).symm.trans H; rw [hy602]; with_reducible exact H2_) | (have H2_ := (Option.bind_some _ _).symm.trans H; with_reducible exact H2_) | with_reducible exact H | (rw [hy602]; exact H) | exact H
 have Ny602 := Aside0.mk hy602
 clear hy602
 obtain ⟨al, A4, H⟩ := bd_ H
 have H' := Aside0.mk H
 clear H
 go_enter Tryz.func26, Tryz.ntmps26
 go_wp2_with (first | ((with_reducible refine gate_dst (N := 3) rfl ?_); refine be_ 3 (cs := #[.int .i64 ag, .int .i64 ah, .int .i64 ai, .int .i64 aj]) 31 ?_; intro aw hg w5 hbox hb; have z_ := bx0_ th_ hb hbox hg; clear HB; obtain ⟨HB, a7, d8, d9⟩ := z_; clear hb hbox hg) | ((with_reducible refine gate_dst (N := 5) rfl ?_); refine be_ 5 (cs := #[.int .i64 ap, .slice au ak.length av, .slice bd a6.length az]) 35 ?_; intro ax hg w6 hbox hb; have z_ := bx1_ (kb_ a7) th_ hb hbox hg; clear a7 HB; obtain ⟨a7, HB, a8, da, db, be, bf⟩ := z_; clear hb hbox hg) | ((with_reducible refine gate_dst (N := 14) rfl ?_); refine Kd.R_lit k53 _ 53 ?hg (N := 14) ?hd (xs := ([] : List (S53))) (inner := []) (ok := fun _ => True) (okp := fun _ => True) ?hr ?hp (fun _ hk => hk) trivial (Below.refl _ _) (Nat.le_refl _) (by simp) ?_; (case hd => rfl); (case hg => rfl); (case hr => first | (go_simp; done) | (go_simp; rfl)); (case hp => exact (Reps.none _ _)); intro v603 w7 ho8 hb hg_ hnew_; clear hg_ hnew_; (first | rw [← Ny602.out] at ho8 | (simp only [Int.reduceToNat] at ho8; rw [← Ny602.out] at ho8)); have z_ := p_ (Kd.R_lower ho8 (below_size th_)) <| bw2_ (kb_ a7) (kb_ a8) th_ hb; clear a7 a8 HB; obtain ⟨HO604, a7, a8, HB⟩ := z_; clear hb ho8; obtain ⟨cl, cm⟩ := an2_ bf be; have bj := bb3_ a8.out) | ((with_reducible refine gate_callee (f := 54) rfl ?_); refine goesL_ (some 17) rfl rfl Tryz.func54 (by kernel_rfl) rfl #[.slice au ak.length av] rfl tq_0 ?_; (with_reducible refine (impl_StatesWords.calls k _ _ ak al _ ?side1 ?side2 A4.out).mono ?_); (case side1 => exact tq_6); (case side2 => exact cj.out); rintro e dt ⟨v606, rfl, ho0, hb⟩; refine ⟨_, rfl, ?_⟩; have z_ := p_ (Kd.R_below (raR_ HO604) hb) <| p_ (Kd.R_lower ho0 (below_size th_)) <| bw2_ (kb_ a7) (kb_ a8) th_ hb; clear HO604 a7 a8 HB; obtain ⟨HO604, HO607, a7, a8, HB⟩ := z_; (try clear hb); (try clear hk); (try clear ho0); obtain ⟨Ao12, cy, cz⟩ := Kd.R_slice HO607.out; subst cz))
 go_loopg [7, 19] k (fun kq v7 v19 w' => ∃ (bg : List (S53)) (ac : Int), v19 = .int .i64 ac ∧ Aside0 (impl_partWrites.l0 kq a1 bg al (al.length : Int) ac ag ah ai aj ap ak a6 = some r) ∧ Aside0 (kq ≤ k) ∧ Aside0 (Kd.R k53 53 w' w.heap.size (fun _ => True) v7 bg) ∧ Aside0 (Kd.R Kd.string 9 w' w.heap.size (fun _ => True) (.slice Ao12 al.length cy) al) ∧ Aside0 (w'.heap[aw]? = some (.cells #[.int .i64 ag, .int .i64 ah, .int .i64 ai, .int .i64 aj] 31 (0, 0))) ∧ Aside0 (w'.heap[ax]? = some (.cells #[.int .i64 ap, (.slice au ak.length av), (.slice bd a6.length az)] 35 (0, 0))) ∧ Aside0 (Below w.heap.size w w'))
 case atStart => exact ⟨(ck), (0), tq_3, H', ⟨Nat.le_refl _⟩, ⟨(raR_ HO604)⟩, ⟨(raR_ HO607)⟩, ⟨(kb_ a7)⟩, ⟨(kb_ a8)⟩, ⟨th_⟩⟩
 case round =>
 clear H'
 try clear c2; try clear p2; try clear c5; try clear c9; try clear bj
 obtain ⟨bg, ac, rfl, HA, HK1, aa, an, a7, a8, HB⟩ := hrel
 cases gk with
 | zero => exact absurd HA.out (by simp [impl_partWrites.l0])
 | succ k1 =>
 have H := HA.out
 clear HA
 simp only [impl_partWrites.l0] at H
 by_cases cd : ac < (al.length : Int)
 ·rw [if_pos cd] at H
  have bl := decide_eq_true cd
  clear cd
  obtain ⟨cu, H⟩ := fc_ H
  have ce := decide_eq_true cu
  clear cu
  obtain ⟨cv, H⟩ := fc_ H
  have cf := decide_eq_true cv
  clear cv
  obtain ⟨bm, dl, H⟩ := bd_ H
  obtain ⟨cw, H⟩ := fc_ H
  have LMc17 := Aside0.mk cw
  clear cw
  obtain ⟨cn, hy610⟩ : ∃ y_ : List (S53), y_ = (bg ++ [(⟨wrap64 (bm + ac), rdOf ByteArray.empty al ac⟩ : S53)]) := ⟨_, rfl⟩
  replace H : (impl_partWrites.l0 k1 a1 cn al (al.length : Int) (wrap64 (ac + 1)) ag ah ai aj ap ak a6) = some r := by first | (rw [hy610]; with_reducible exact H) | (have H2_ := (Option.bind_some _ _).symm.trans H; rw [hy610]; with_reducible exact H2_) | (have H2_ := (Option.bind_some _ _).symm.trans H; with_reducible exact H2_) | with_reducible exact H | (rw [hy610]; exact H) | exact H
  have Ny610 := Aside0.mk hy610
  clear hy610
  have H' := Aside0.mk H
  clear H
  have p608 : 0 ≤ (ac : Int) := of_decide_eq_true tq_2
  have q608 : ac < (al.length : Int) := of_decide_eq_true tq_2
  obtain ⟨dc, d0, b8⟩ := Kd.at_string (Kd.R_reads' an.out).2.2 ac p608 q608
  cases d0
  replace p608 := eq_true p608
  replace q608 := eq_true q608
  have bq := bb4_ a7.out
  go_wp2_with (first | ((with_reducible refine gate_callee (f := 55) rfl ?_); refine goesL_ (some 27) rfl rfl Tryz.func55 (by kernel_rfl) rfl #[.agg #[.int .i64 ag, .int .i64 ah, .int .i64 ai, .int .i64 aj], .int .i64 a1] rfl tq_0 ?_; (with_reducible refine (impl_statesAt.calls ag ah ai aj a1 bm _ dl.out).mono ?_); rintro e du ⟨rfl, hb⟩; refine ⟨_, rfl, ?_⟩; have z_ := p_ (Kd.R_below (raR_ aa) hb) <| p_ (Kd.R_below (raR_ an) hb) <| bw2_ (kb_ a7) (kb_ a8) th_ hb; clear aa an a7 a8 HB; obtain ⟨aa, an, a7, a8, HB⟩ := z_; (try clear hb)) | ((with_reducible refine gate_builtin (b := .append) (xs := #[.tmp 24, .tmp 32]) rfl ?_); at_builtin; refine Kd.R_append k53 (w0 := w) w.heap.size rfl (.tmp 24) (.tmp 32) 29 53 (.agg #[(.int .i64 0), (.string ⟨#[]⟩)]) 24 rfl Tryz.underlying29 info53 rfl (by decide) (by omega) u7 bg (⟨wrap64 (bm + ac), rdOf ByteArray.empty al ac⟩ : S53) [.int .i64 (wrap64 (bm + ac)), .string (rdOf ByteArray.empty al ac)] (fun _ => True) (fun _ => False) rfl rfl ?aP (fun _ hk => hk.elim) ?aF ?aO ?aB ?aS ?aL ?_; (case aP => exact k53_mkM _ _ _ (⟨wrap64 (bm + ac), rdOf ByteArray.empty al ac⟩ : S53)); (case aB => exact th_); (case aF => exact (fun _ _ => trivial)); (case aO => exact (raR_ aa)); (case aS => exact (below_size th_)); (case aL => have := LMc17.out; omega); intro v611 dv ho hb hg hat; rw [← Ny610.out] at ho; have z_ := p_ (Kd.R_over' (raR_ an) (Kd.R_typed (raR_ aa)) (by decide) hg) <| p_ (blk_grown (g := aw) (o := .cells #[.int .i64 ag, .int .i64 ah, .int .i64 ai, .int .i64 aj] 31 (0, 0)) (kb_ a7) hg (Kd.R_ne aa.out a7.out (by decide))) <| p_ (blk_grown (g := ax) (o := .cells #[.int .i64 ap, .slice au ak.length av, .slice bd a6.length az] 35 (0, 0)) (kb_ a8) hg (Kd.R_ne aa.out a8.out (by decide))) <| p_ (hb) <| a_ (ho); clear an a7 a8 HB aa; obtain ⟨an, a7, a8, HB, HO612⟩ := z_; clear ho hb hg hat))
  go_roundg k1
  case measure => have := HK1.out; omega
  case rel => exact ⟨(cn), (wrap64 (ac + 1)), tq_3, H', ⟨tq_22⟩, ⟨(raR_ HO612)⟩, ⟨(raR_ an)⟩, ⟨(kb_ a7)⟩, ⟨(kb_ a8)⟩, ⟨th_⟩⟩
 rw [if_neg cd] at H
 have bl := decide_eq_false cd
 clear cd
 have H' := Aside0.mk H
 clear H
 have br := bb3_ a8.out
 go_wp2
 go_loopg [7, 38] k1 (fun kq v7 v38 w' => ∃ (bs : List (S53)) (a5 : Int), v38 = .int .i64 a5 ∧ Aside0 (impl_partWrites.l1 kq a1 bs a6 (a6.length : Int) a5 ag ah ai aj = some r) ∧ Aside0 (kq ≤ k1) ∧ Aside0 (Kd.R k53 53 w' w.heap.size (fun _ => True) v7 bs) ∧ Aside0 (w'.heap[aw]? = some (.cells #[.int .i64 ag, .int .i64 ah, .int .i64 ai, .int .i64 aj] 31 (0, 0))) ∧ Aside0 (w'.heap[ax]? = some (.cells #[.int .i64 ap, (.slice au ak.length av), (.slice bd a6.length az)] 35 (0, 0))) ∧ Aside0 (Below w.heap.size w w'))
 case atStart => exact ⟨(bg), (0), tq_3, H', ⟨Nat.le_refl _⟩, ⟨(raR_ aa)⟩, ⟨(kb_ a7)⟩, ⟨(kb_ a8)⟩, ⟨th_⟩⟩
 case round =>
 clear H'
 try clear c1; try clear c2; try clear p2; try clear c5; try clear p6; try clear q6; try clear hx6; try clear c9; try clear cd; try clear bl; try clear cu; try clear ce; try clear cv; try clear cf; try clear cw; try clear dm; try clear dn; try clear bj; try clear bq; try clear br; try clear bj; try clear bq; try clear br; try clear b8; try clear p2; try clear p608; try clear q608
 obtain ⟨bs, a5, rfl, HA, HK2, aa, a7, a8, HB⟩ := hrel
 cases gk with
 | zero => exact absurd HA.out (by simp [impl_partWrites.l1])
 | succ k2 =>
 have H := HA.out
 clear HA
 simp only [impl_partWrites.l1] at H
 by_cases ch : a5 < (a6.length : Int)
 rotate_left
 ·rw [if_neg ch] at H
  have cg := decide_eq_false ch
  clear ch
  obtain rfl := Option.some.inj H
  go_wp2
  go_ret
  exact ⟨_, tq_1, (raR_ aa), th_⟩
 rw [if_pos ch] at H
 have cg := decide_eq_true ch
 clear ch
 obtain ⟨d1, H⟩ := fc_ H
 have co := decide_eq_true d1
 clear d1
 obtain ⟨d2, H⟩ := fc_ H
 have cp := decide_eq_true d2
 clear d2
 obtain ⟨am, dp, H⟩ := bd_ H
 have H' := Aside0.mk H
 clear H
 have p613 : 0 ≤ (a5 : Int) := of_decide_eq_true tq_2
 have q613 : a5 < (a6.length : Int) := of_decide_eq_true tq_2
 obtain ⟨bn, aq, ar, b0, b1, d3, b2, b3, b4, b5, b6, b7, b9, ba, bb, bc⟩ := at_T69 HR2_2.out a5 p613 q613
 cases d3
 replace b2 := hx_ HB.out b2
 replace b3 := hx_ HB.out b3
 replace b4 := hx_ HB.out b4
 replace b5 := hx_ HB.out b5
 replace b6 := hx_ HB.out b6
 replace b7 := hx_ HB.out b7
 have bu := Aside0.mk ba
 have bv := Aside0.mk b9
 clear ba b9
 have bw := Aside0.mk bc
 have bx := Aside0.mk bb
 clear bc bb
 replace p613 := eq_true p613
 replace q613 := eq_true q613
 go_wp2_with (first | ((with_reducible refine gate_dst (N := 11) rfl ?_); refine be_ 11 (cs := #[.int .i64 0, .int .i64 0, .int .i64 0, .string (⟨#[]⟩ : ByteArray), .slice none 0 0, .slice none 0 0]) 69 ?_; intro bo hg dw hbox hb; have z_ := p_ (Kd.R_below (raR_ aa) hb) <| bx2_ (kb_ a7) (kb_ a8) th_ hb hbox hg; clear aa a7 a8 HB; obtain ⟨aa, a7, a8, HB, af, dd, de, a9, ay, ab, bh⟩ := z_; clear hb hbox hg; obtain ⟨hnb29, hnc29, hnb30, hnc30⟩ := an4_ ay a9 bh ab; have cq := bb6_ af.out) | ((with_reducible refine gate_callee (f := 56) rfl ?_); refine goesL_ (some 44) rfl rfl Tryz.func56 (by kernel_rfl) rfl #[.agg #[.int .i64 ((rd_T69 a6 a5).f0), .int .i64 ((rd_T69 a6 a5).f1), .int .i64 ((rd_T69 a6 a5).f2), .string ((rd_T69 a6 a5).f3), .slice aq ((rd_T69 a6 a5).f4).length ar, .slice b0 ((rd_T69 a6 a5).f5).length b1]] rfl tq_0 ?_; (with_reducible refine (impl_inodeText.calls k2 ((rd_T69 a6 a5).f0) ((rd_T69 a6 a5).f1) ((rd_T69 a6 a5).f2) ((rd_T69 a6 a5).f3) _ _ ((rd_T69 a6 a5).f4) _ _ ((rd_T69 a6 a5).f5) am _ ?side1 ?side2 ?side3 ?side4 dp.out).mono ?_); (case side1 => exact Kd.C_below bu.out th_); (case side2 => exact bv.out); (case side3 => exact Kd.C_below bw.out th_); (case side4 => exact bx.out); rintro e dx ⟨v616, rfl, ho0, hb⟩; refine ⟨_, rfl, ?_⟩; have z_ := p_ (Kd.R_below (by (with_reducible repeat (first | apply Kd.R_alloc | apply Kd.R_drewN | apply Kd.R_drew)); exact (Kd.R_mono (rR_ (rR_ (rR_ (rR_ (rR_ (rR_ (Kd.R_types aa.out af.out (by decide)))))))) (fun _ h_ => h_.1))) hb) <| p_ (Kd.R_lower ho0 (below_size th_)) <| p_ (blk_below (g := aw) (o := .cells #[.int .i64 ag, .int .i64 ah, .int .i64 ai, .int .i64 aj] 31 (0, 0)) (by (with_reducible repeat (first | refine blk_drewN ?_ _ | refine blk_drew ?_ | refine blk_alloc ?_ _)); refine blk_far ?_ a9.out _; (with_reducible repeat (first | refine blk_drewN ?_ _ | refine blk_drew ?_ | refine blk_alloc ?_ _)); refine blk_far ?_ a9.out _; (with_reducible repeat (first | refine blk_drewN ?_ _ | refine blk_drew ?_ | refine blk_alloc ?_ _)); refine blk_far ?_ a9.out _; (with_reducible repeat (first | refine blk_drewN ?_ _ | refine blk_drew ?_ | refine blk_alloc ?_ _)); refine blk_far ?_ a9.out _; (with_reducible repeat (first | refine blk_drewN ?_ _ | refine blk_drew ?_ | refine blk_alloc ?_ _)); refine blk_far ?_ a9.out _; (with_reducible repeat (first | refine blk_drewN ?_ _ | refine blk_drew ?_ | refine blk_alloc ?_ _)); refine blk_far ?_ a9.out _; (with_reducible repeat (first | refine blk_drewN ?_ _ | refine blk_drew ?_ | refine blk_alloc ?_ _)); exact a7.out) hb) <| p_ (blk_below (g := ax) (o := .cells #[.int .i64 ap, .slice au ak.length av, .slice (some bn) a6.length az] 35 (0, 0)) (by (with_reducible repeat (first | refine blk_drewN ?_ _ | refine blk_drew ?_ | refine blk_alloc ?_ _)); refine blk_far ?_ ab.out _; (with_reducible repeat (first | refine blk_drewN ?_ _ | refine blk_drew ?_ | refine blk_alloc ?_ _)); refine blk_far ?_ ab.out _; (with_reducible repeat (first | refine blk_drewN ?_ _ | refine blk_drew ?_ | refine blk_alloc ?_ _)); refine blk_far ?_ ab.out _; (with_reducible repeat (first | refine blk_drewN ?_ _ | refine blk_drew ?_ | refine blk_alloc ?_ _)); refine blk_far ?_ ab.out _; (with_reducible repeat (first | refine blk_drewN ?_ _ | refine blk_drew ?_ | refine blk_alloc ?_ _)); refine blk_far ?_ ab.out _; (with_reducible repeat (first | refine blk_drewN ?_ _ | refine blk_drew ?_ | refine blk_alloc ?_ _)); refine blk_far ?_ ab.out _; (with_reducible repeat (first | refine blk_drewN ?_ _ | refine blk_drew ?_ | refine blk_alloc ?_ _)); exact a8.out) hb) <| p_ (blk_below (g := bo) (o := .cells #[.int .i64 ((rd_T69 a6 a5).f0), .int .i64 ((rd_T69 a6 a5).f1), .int .i64 ((rd_T69 a6 a5).f2), .string ((rd_T69 a6 a5).f3), .slice aq ((rd_T69 a6 a5).f4).length ar, .slice b0 ((rd_T69 a6 a5).f5).length b1] 69 (0, 0)) (by (with_reducible repeat (first | refine blk_drewN ?_ _ | refine blk_drew ?_ | refine blk_alloc ?_ _)); refine blk_put (cs := #[.int .i64 ((rd_T69 a6 a5).f0), .int .i64 ((rd_T69 a6 a5).f1), .int .i64 ((rd_T69 a6 a5).f2), .string ((rd_T69 a6 a5).f3), .slice aq ((rd_T69 a6 a5).f4).length ar, .slice none 0 0]) ?_ 5 _ rfl; (with_reducible repeat (first | refine blk_drewN ?_ _ | refine blk_drew ?_ | refine blk_alloc ?_ _)); refine blk_put (cs := #[.int .i64 ((rd_T69 a6 a5).f0), .int .i64 ((rd_T69 a6 a5).f1), .int .i64 ((rd_T69 a6 a5).f2), .string ((rd_T69 a6 a5).f3), .slice none 0 0, .slice none 0 0]) ?_ 4 _ rfl; (with_reducible repeat (first | refine blk_drewN ?_ _ | refine blk_drew ?_ | refine blk_alloc ?_ _)); refine blk_put (cs := #[.int .i64 ((rd_T69 a6 a5).f0), .int .i64 ((rd_T69 a6 a5).f1), .int .i64 ((rd_T69 a6 a5).f2), .string (⟨#[]⟩ : ByteArray), .slice none 0 0, .slice none 0 0]) ?_ 3 _ rfl; (with_reducible repeat (first | refine blk_drewN ?_ _ | refine blk_drew ?_ | refine blk_alloc ?_ _)); refine blk_put (cs := #[.int .i64 ((rd_T69 a6 a5).f0), .int .i64 ((rd_T69 a6 a5).f1), .int .i64 0, .string (⟨#[]⟩ : ByteArray), .slice none 0 0, .slice none 0 0]) ?_ 2 _ rfl; (with_reducible repeat (first | refine blk_drewN ?_ _ | refine blk_drew ?_ | refine blk_alloc ?_ _)); refine blk_put (cs := #[.int .i64 ((rd_T69 a6 a5).f0), .int .i64 0, .int .i64 0, .string (⟨#[]⟩ : ByteArray), .slice none 0 0, .slice none 0 0]) ?_ 1 _ rfl; (with_reducible repeat (first | refine blk_drewN ?_ _ | refine blk_drew ?_ | refine blk_alloc ?_ _)); refine blk_put (cs := #[.int .i64 0, .int .i64 0, .int .i64 0, .string (⟨#[]⟩ : ByteArray), .slice none 0 0, .slice none 0 0]) ?_ 0 _ rfl; (with_reducible repeat (first | refine blk_drewN ?_ _ | refine blk_drew ?_ | refine blk_alloc ?_ _)); exact af.out) hb) <| a_ (below_step th_ hb); clear aa a7 a8 af HB; obtain ⟨aa, HO617, a7, a8, af, HB⟩ := z_; (try clear hb); obtain ⟨Ao33, d4, d5⟩ := Kd.R_slice HO617.out; subst d5))
 go_loopg [7, 46] k2 (fun kq v7 v46 w' => ∃ (bi : List (S53)) (ae : Int), v46 = .int .i64 ae ∧ Aside0 (impl_partWrites.l2 kq a1 bi a5 a6 (a6.length : Int) a5 am (am.length : Int) ae ag ah ai aj = some r) ∧ Aside0 (kq ≤ k2) ∧ Aside0 (Kd.R k53 53 w' w.heap.size (fun _ => True) v7 bi) ∧ Aside0 (Kd.R Kd.string 9 w' w.heap.size (fun _ => True) (.slice Ao33 am.length d4) am) ∧ Aside0 (w'.heap[aw]? = some (.cells #[.int .i64 ag, .int .i64 ah, .int .i64 ai, .int .i64 aj] 31 (0, 0))) ∧ Aside0 (w'.heap[ax]? = some (.cells #[.int .i64 ap, (.slice au ak.length av), (.slice (some bn) a6.length az)] 35 (0, 0))) ∧ Aside0 (w'.heap[bo]? = some (.cells #[.int .i64 ((rd_T69 a6 a5).f0), .int .i64 ((rd_T69 a6 a5).f1), .int .i64 ((rd_T69 a6 a5).f2), .string ((rd_T69 a6 a5).f3), (.slice aq ((rd_T69 a6 a5).f4).length ar), (.slice b0 ((rd_T69 a6 a5).f5).length b1)] 69 (0, 0))) ∧ Aside0 (Below w.heap.size w w'))
 case atStart => exact ⟨(bs), (0), tq_3, H', ⟨Nat.le_refl _⟩, ⟨(raR_ aa)⟩, ⟨(raR_ HO617)⟩, ⟨(kb_ a7)⟩, ⟨(kb_ a8)⟩, ⟨(kb_ af)⟩, ⟨th_⟩⟩
 case round =>
 clear H'
 try clear c1; try clear c2; try clear p2; try clear c3; try clear c5; try clear c6; try clear p6; try clear q6; try clear hx6; try clear c9; try clear cd; try clear bl; try clear cu; try clear ce; try clear cv; try clear cf; try clear cw; try clear dm; try clear dn; try clear ch; try clear cg; try clear d1; try clear co; try clear d2; try clear cp; try clear dy; try clear dz; try clear bj; try clear bq; try clear br; try clear cq; try clear bj; try clear bq; try clear br; try clear cq; try clear b8; try clear b2; try clear b3; try clear b4; try clear b5; try clear b6; try clear b7; try clear p2; try clear p6; try clear p608; try clear p613; try clear q6; try clear q608; try clear q613
 obtain ⟨bi, ae, rfl, HA, HK3, aa, ao, a7, a8, af, HB⟩ := hrel
 cases gk with
 | zero => exact absurd HA.out (by simp [impl_partWrites.l2])
 | succ k3 =>
 have H := HA.out
 clear HA
 simp only [impl_partWrites.l2] at H
 by_cases ci : ae < (am.length : Int)
 rotate_left
 ·rw [if_neg ci] at H
  have cr := decide_eq_false ci
  clear ci
  have H' := Aside0.mk H
  clear H
  go_wp2
  go_roundg k3
  case measure => have := HK1.out; have := HK2.out; have := HK3.out; omega
  case rel => exact ⟨(bi), (wrap64 (a5 + 1)), tq_3, H', ⟨tq_44⟩, ⟨(raR_ aa)⟩, ⟨(kb_ a7)⟩, ⟨(kb_ a8)⟩, ⟨th_⟩⟩
 rw [if_pos ci] at H
 have cr := decide_eq_true ci
 clear ci
 obtain ⟨df, H⟩ := fc_ H
 have dg := decide_eq_true df
 clear df
 obtain ⟨dh, H⟩ := fc_ H
 have di := decide_eq_true dh
 clear dh
 obtain ⟨bp, dq, H⟩ := bd_ H
 obtain ⟨dj, H⟩ := fc_ H
 have LMc38 := Aside0.mk dj
 clear dj
 obtain ⟨ct, hy620⟩ : ∃ y_ : List (S53), y_ = (bi ++ [(⟨wrap64 (bp + ae), rdOf ByteArray.empty am ae⟩ : S53)]) := ⟨_, rfl⟩
 replace H : (impl_partWrites.l2 k3 a1 ct a5 a6 (a6.length : Int) a5 am (am.length : Int) (wrap64 (ae + 1)) ag ah ai aj) = some r := by first | (rw [hy620]; with_reducible exact H) | (have H2_ := (Option.bind_some _ _).symm.trans H; rw [hy620]; with_reducible exact H2_) | (have H2_ := (Option.bind_some _ _).symm.trans H; with_reducible exact H2_) | with_reducible exact H | (rw [hy620]; exact H) | exact H
 have Ny620 := Aside0.mk hy620
 clear hy620
 have H' := Aside0.mk H
 clear H
 have p618 : 0 ≤ (ae : Int) := of_decide_eq_true tq_2
 have q618 : ae < (am.length : Int) := of_decide_eq_true tq_2
 obtain ⟨dk, d6, cx⟩ := Kd.at_string (Kd.R_reads' ao.out).2.2 ae p618 q618
 cases d6
 replace p618 := eq_true p618
 replace q618 := eq_true q618
 obtain ⟨hnb40, hnc40⟩ := an2_ a9 ay
 have dr := bb4_ a7.out
 go_wp2_with (first | ((with_reducible refine gate_callee (f := 57) rfl ?_); refine goesL_ (some 55) rfl rfl Tryz.func57 (by kernel_rfl) rfl #[.agg #[.int .i64 ag, .int .i64 ah, .int .i64 ai, .int .i64 aj], .int .i64 a1, .int .i64 a5] rfl tq_0 ?_; (with_reducible refine (impl_InodeAt.calls ag ah ai aj a1 a5 bp _ dq.out).mono ?_); rintro e e0 ⟨rfl, hb⟩; refine ⟨_, rfl, ?_⟩; have z_ := p_ (Kd.R_below (raR_ aa) hb) <| p_ (Kd.R_below (raR_ ao) hb) <| bw3_ (kb_ a7) (kb_ a8) (kb_ af) th_ hb; clear aa ao a7 a8 af HB; obtain ⟨aa, ao, a7, a8, af, HB⟩ := z_; (try clear hb)) | ((with_reducible refine gate_builtin (b := .append) (xs := #[.tmp 51, .tmp 60]) rfl ?_); at_builtin; refine Kd.R_append k53 (w0 := w) w.heap.size rfl (.tmp 51) (.tmp 60) 29 53 (.agg #[(.int .i64 0), (.string ⟨#[]⟩)]) 24 rfl Tryz.underlying29 info53 rfl (by decide) (by omega) u7 bi (⟨wrap64 (bp + ae), rdOf ByteArray.empty am ae⟩ : S53) [.int .i64 (wrap64 (bp + ae)), .string (rdOf ByteArray.empty am ae)] (fun _ => True) (fun _ => False) rfl rfl ?aP (fun _ hk => hk.elim) ?aF ?aO ?aB ?aS ?aL ?_; (case aP => exact k53_mkM _ _ _ (⟨wrap64 (bp + ae), rdOf ByteArray.empty am ae⟩ : S53)); (case aB => exact th_); (case aF => exact (fun _ _ => trivial)); (case aO => exact (raR_ aa)); (case aS => exact (below_size th_)); (case aL => have := LMc38.out; omega); intro v621 e1 ho hb hg hat; rw [← Ny620.out] at ho; have z_ := p_ (Kd.R_over' (raR_ ao) (Kd.R_typed (raR_ aa)) (by decide) hg) <| p_ (blk_grown (g := aw) (o := .cells #[.int .i64 ag, .int .i64 ah, .int .i64 ai, .int .i64 aj] 31 (0, 0)) (kb_ a7) hg (Kd.R_ne aa.out a7.out (by decide))) <| p_ (blk_grown (g := ax) (o := .cells #[.int .i64 ap, .slice au ak.length av, .slice (some bn) a6.length az] 35 (0, 0)) (kb_ a8) hg (Kd.R_ne aa.out a8.out (by decide))) <| p_ (blk_grown (g := bo) (o := .cells #[.int .i64 ((rd_T69 a6 a5).f0), .int .i64 ((rd_T69 a6 a5).f1), .int .i64 ((rd_T69 a6 a5).f2), .string ((rd_T69 a6 a5).f3), .slice aq ((rd_T69 a6 a5).f4).length ar, .slice b0 ((rd_T69 a6 a5).f5).length b1] 69 (0, 0)) (kb_ af) hg (Kd.R_ne aa.out af.out (by decide))) <| p_ (hb) <| a_ (ho); clear ao a7 a8 af HB aa; obtain ⟨ao, a7, a8, af, HB, HO622⟩ := z_; clear ho hb hg hat))
 go_roundg k3
 case measure => have := HK1.out; have := HK2.out; have := HK3.out; omega
 case rel => exact ⟨(ct), (wrap64 (ae + 1)), tq_3, H', ⟨tq_44⟩, ⟨(raR_ HO622)⟩, ⟨(raR_ ao)⟩, ⟨(kb_ a7)⟩, ⟨(kb_ a8)⟩, ⟨(kb_ af)⟩, ⟨th_⟩⟩

/-! ### impl_changed: function 33 -/
def impl_changed.l0 : Nat → List (S53) → List (S53) → List (S53) → Int → Int → Option ((List (S53)))
 | 0, _, _, _, _, _ => none
 | k + 1, x9, a7, a6, a8, a5 => if a5 < a8 then (if 0 ≤ a5 then (if a5 < (a6.length : Int) then (if a5 < (x9.length : Int) then (if ((rd_T53 a6 a5).f1).toList = ((rd_T53 x9 a5).f1).toList then (impl_changed.l0 k x9 a7 a6 a8 (wrap64 (a5 + 1))) else (if a7.length < 5864062014805 then (impl_changed.l0 k x9 (a7 ++ [(⟨(rd_T53 a6 a5).f0, (rd_T53 a6 a5).f1⟩ : S53)]) a6 a8 (wrap64 (a5 + 1))) else (none))) else (none)) else (none)) else (none)) else (some a7)
def impl_changed.f (k : Nat) (a5 : Int) (a6 : Int) (a7 : Int) (a8 : Int) (a1 : Int) (aa : Int) (ab : List Int) (ac : List (S69)) (ae : Int) (af : List Int) (ag : List (S69)) : Option ((List (S53))) := (impl_partWrites.f k a5 a6 a7 a8 a1 aa ab ac).bind fun ah => ((impl_partWrites.f k a5 a6 a7 a8 a1 ae af ag).bind fun a9 => (impl_changed.l0 k ah (([] : List (S53))) a9 (a9.length : Int) 0))
set_option maxHeartbeats 8000000 in
set_option maxRecDepth 100000 in
theorem impl_changed.calls (k : Nat) (aj : Int) (ak : Int) (al : Int) (am : Int) (a1 : Int) (av : Int) (b2 : Option Addr) (b3 : Nat) (ap : List Int) (b4 : Option Addr) (b5 : Nat) (aq : List (S69)) (ar : Int) (b6 : Option Addr) (b7 : Nat) (an : List Int) (b8 : Option Addr) (b9 : Nat) (ao : List (S69)) (r : List (S53)) (w : World) (br : Kd.C (Kd.int .i64) w b2 ap.length ap) (bs : ap.length ≤ b3) (bu : Kd.C k69 w b4 aq.length aq) (bv : aq.length ≤ b5) (bw : Kd.C (Kd.int .i64) w b6 an.length an) (bx : an.length ≤ b7) (bz : Kd.C k69 w b8 ao.length ao) (ca : ao.length ≤ b9) (h : impl_changed.f k aj ak al am a1 av ap aq ar an ao = some r) :
  Calls Tryz.prog 33 #[.agg #[.int .i64 aj, .int .i64 ak, .int .i64 al, .int .i64 am], .int .i64 a1, .agg #[.int .i64 av, .slice b2 ap.length b3, .slice b4 aq.length b5], .agg #[.int .i64 ar, .slice b6 an.length b7, .slice b8 ao.length b9]] w fun e w' => ∃ v0_ : Value, e = .returned (v0_) ∧ Kd.R k53 53 w' w.heap.size (fun _ => True) v0_ r ∧ Below w.heap.size w w' := by
 have hu31 := Tryz.underlying31
 have hu35 := Tryz.underlying35
 have hu53 := Tryz.underlying53
 have HR2_1 := Aside0.mk br
 have bd := Aside0.mk bs
 clear br bs
 have HR2_2 := Aside0.mk bu
 have be := Aside0.mk bv
 clear bu bv
 have HR3_1 := Aside0.mk bw
 have bf := Aside0.mk bx
 clear bw bx
 have HR3_2 := Aside0.mk bz
 have bg := Aside0.mk ca
 clear bz ca
 have HB := Aside0.mk (Below.refl w.heap.size w)
 unfold impl_changed.f at h
 have H := h
 clear h
 obtain ⟨ab, A5, H⟩ := bd_ H
 obtain ⟨cm, hy629⟩ : ∃ y_ : List (S53), y_ = (([] : List (S53))) := ⟨_, rfl⟩
 replace H : ((impl_partWrites.f k aj ak al am a1 ar an ao).bind fun t632 => (impl_changed.l0 k ab cm t632 (t632.length : Int) 0)) = some r := by first | (rw [hy629]; with_reducible exact H) | (have H2_ := (Option.bind_some _ _).symm.trans H; rw [hy629]; with_reducible exact H2_) | (have H2_ := (Option.bind_some _ _).symm.trans H; with_reducible exact H2_) | with_reducible exact H | (rw [hy629]; exact H) | exact H
 have Ny629 := Aside0.mk hy629
 clear hy629
 obtain ⟨t632, A6, H⟩ := bd_ H
 have H' := Aside0.mk H
 clear H
 go_enter Tryz.func33, Tryz.ntmps33
 go_wp2_with (first | ((with_reducible refine gate_dst (N := 4) rfl ?_); refine be_ 4 (cs := #[.int .i64 aj, .int .i64 ak, .int .i64 al, .int .i64 am]) 31 ?_; intro az hg w7 hbox hb; have z_ := bx0_ th_ hb hbox hg; clear HB; obtain ⟨HB, BK623, cb, cc⟩ := z_; clear hb hbox hg) | ((with_reducible refine gate_dst (N := 6) rfl ?_); refine be_ 6 (cs := #[.int .i64 av, .slice b2 ap.length b3, .slice b4 aq.length b5]) 35 ?_; intro b0 hg w8 hbox hb; have z_ := bx1_ (kb_ BK623) th_ hb hbox hg; clear BK623 HB; obtain ⟨BK623, HB, BK624, cd, ce, ac, ae⟩ := z_; clear hb hbox hg) | ((with_reducible refine gate_dst (N := 7) rfl ?_); refine be_ 7 (cs := #[.int .i64 ar, .slice b6 an.length b7, .slice b8 ao.length b9]) 35 ?_; intro b1 hg w9 hbox hb; have z_ := bx2_ (kb_ BK623) (kb_ BK624) th_ hb hbox hg; clear BK623 BK624 HB; obtain ⟨BK623, BK624, HB, BK625, cf, cg, af, ag, ah, ai⟩ := z_; clear hb hbox hg; obtain ⟨hnb10, hnc10, hnb11, hnc11⟩ := an4_ ac ae af ag; have bl := bb4_ BK623.out; obtain ⟨hnb13, hnc13⟩ := an2_ ah ai; have bm := bb3_ BK624.out) | (go_at_call 26; (with_reducible refine (impl_partWrites.calls k aj ak al am a1 av _ _ ap _ _ aq ab _ ?side1 ?side2 ?side3 ?side4 A5.out).mono ?_); (case side1 => exact tq_6); (case side2 => exact bd.out); (case side3 => exact tq_7); (case side4 => exact be.out); rintro e cv ⟨v627, rfl, ho0, hb⟩; have z_ := p_ (Kd.R_lower ho0 (below_size th_)) <| bw3_ (kb_ BK623) (kb_ BK624) (kb_ BK625) th_ hb; clear BK623 BK624 BK625 HB; obtain ⟨HO628, BK623, BK624, BK625, HB⟩ := z_; (try clear hb); (try clear ho0)) | ((with_reducible refine gate_dst (N := 17) rfl ?_); refine Kd.R_lit k53 _ 53 ?hg (N := 17) ?hd (xs := ([] : List (S53))) (inner := []) (ok := fun _ => True) (okp := fun _ => True) ?hr ?hp (fun _ hk => hk) trivial (Below.refl _ _) (Nat.le_refl _) (by simp) ?_; (case hd => rfl); (case hg => rfl); (case hr => first | (go_simp; done) | (go_simp; rfl)); (case hp => exact (Reps.none _ _)); intro v630 cw ho17 hb hg_ hnew_; clear hg_ hnew_; (first | rw [← Ny629.out] at ho17 | (simp only [Int.reduceToNat] at ho17; rw [← Ny629.out] at ho17)); have z_ := p_ (Kd.R_elder' (raR_ HO628) (Kd.R_base ho17) hb) <| p_ (Kd.R_lower (Kd.R_new' ho17 (Kd.R_lt (raR_ HO628))) (below_size th_)) <| bw3_ (kb_ BK623) (kb_ BK624) (kb_ BK625) th_ hb; clear HO628 BK623 BK624 BK625 HB; obtain ⟨HO628, HO631, BK623, BK624, BK625, HB⟩ := z_; clear hb ho17; have bn := bb4_ BK623.out; have bo := bb3_ BK625.out) | (go_at_call 26; (with_reducible refine (impl_partWrites.calls k aj ak al am a1 ar _ _ an _ _ ao t632 _ ?side1 ?side2 ?side3 ?side4 A6.out).mono ?_); (case side1 => exact tq_11); (case side2 => exact bf.out); (case side3 => exact tq_10); (case side4 => exact bg.out); rintro e cx ⟨v633, rfl, ho0, hb⟩; have z_ := p_ (Kd.R_elder' (raR_ HO628) (Kd.R_base ho0) hb) <| p_ (Kd.R_elder' (raR_ HO631) (Kd.R_base ho0) hb) <| p_ (Kd.R_lower (Kd.R_new' (Kd.R_new' ho0 (Kd.R_lt (raR_ HO628))) (Kd.R_lt (raR_ HO631))) (below_size th_)) <| bw3_ (kb_ BK623) (kb_ BK624) (kb_ BK625) th_ hb; clear HO628 HO631 BK623 BK624 BK625 HB; obtain ⟨HO628, HO631, HO634, BK623, BK624, BK625, HB⟩ := z_; (try clear hb); (try clear ho0); obtain ⟨Ao21, aw, bh⟩ := Kd.R_slice HO634.out; subst bh))
 repeat (go_quiet (first | ((with_reducible refine gate_dst (N := 4) rfl ?_); refine be_ 4 (cs := #[.int .i64 aj, .int .i64 ak, .int .i64 al, .int .i64 am]) 31 ?_; intro az hg w7 hbox hb; have z_ := bx0_ th_ hb hbox hg; clear HB; obtain ⟨HB, BK623, cb, cc⟩ := z_; clear hb hbox hg) | ((with_reducible refine gate_dst (N := 6) rfl ?_); refine be_ 6 (cs := #[.int .i64 av, .slice b2 ap.length b3, .slice b4 aq.length b5]) 35 ?_; intro b0 hg w8 hbox hb; have z_ := bx1_ (kb_ BK623) th_ hb hbox hg; clear BK623 HB; obtain ⟨BK623, HB, BK624, cd, ce, ac, ae⟩ := z_; clear hb hbox hg) | ((with_reducible refine gate_dst (N := 7) rfl ?_); refine be_ 7 (cs := #[.int .i64 ar, .slice b6 an.length b7, .slice b8 ao.length b9]) 35 ?_; intro b1 hg w9 hbox hb; have z_ := bx2_ (kb_ BK623) (kb_ BK624) th_ hb hbox hg; clear BK623 BK624 HB; obtain ⟨BK623, BK624, HB, BK625, cf, cg, af, ag, ah, ai⟩ := z_; clear hb hbox hg; obtain ⟨hnb10, hnc10, hnb11, hnc11⟩ := an4_ ac ae af ag; have bl := bb4_ BK623.out; obtain ⟨hnb13, hnc13⟩ := an2_ ah ai; have bm := bb3_ BK624.out) | (go_at_call 26; (with_reducible refine (impl_partWrites.calls k aj ak al am a1 av _ _ ap _ _ aq ab _ ?side1 ?side2 ?side3 ?side4 A5.out).mono ?_); (case side1 => exact tq_6); (case side2 => exact bd.out); (case side3 => exact tq_7); (case side4 => exact be.out); rintro e cv ⟨v627, rfl, ho0, hb⟩; have z_ := p_ (Kd.R_lower ho0 (below_size th_)) <| bw3_ (kb_ BK623) (kb_ BK624) (kb_ BK625) th_ hb; clear BK623 BK624 BK625 HB; obtain ⟨HO628, BK623, BK624, BK625, HB⟩ := z_; (try clear hb); (try clear ho0)) | ((with_reducible refine gate_dst (N := 17) rfl ?_); refine Kd.R_lit k53 _ 53 ?hg (N := 17) ?hd (xs := ([] : List (S53))) (inner := []) (ok := fun _ => True) (okp := fun _ => True) ?hr ?hp (fun _ hk => hk) trivial (Below.refl _ _) (Nat.le_refl _) (by simp) ?_; (case hd => rfl); (case hg => rfl); (case hr => first | (go_simp; done) | (go_simp; rfl)); (case hp => exact (Reps.none _ _)); intro v630 cw ho17 hb hg_ hnew_; clear hg_ hnew_; (first | rw [← Ny629.out] at ho17 | (simp only [Int.reduceToNat] at ho17; rw [← Ny629.out] at ho17)); have z_ := p_ (Kd.R_elder' (raR_ HO628) (Kd.R_base ho17) hb) <| p_ (Kd.R_lower (Kd.R_new' ho17 (Kd.R_lt (raR_ HO628))) (below_size th_)) <| bw3_ (kb_ BK623) (kb_ BK624) (kb_ BK625) th_ hb; clear HO628 BK623 BK624 BK625 HB; obtain ⟨HO628, HO631, BK623, BK624, BK625, HB⟩ := z_; clear hb ho17; have bn := bb4_ BK623.out; have bo := bb3_ BK625.out) | (go_at_call 26; (with_reducible refine (impl_partWrites.calls k aj ak al am a1 ar _ _ an _ _ ao t632 _ ?side1 ?side2 ?side3 ?side4 A6.out).mono ?_); (case side1 => exact tq_11); (case side2 => exact bf.out); (case side3 => exact tq_10); (case side4 => exact bg.out); rintro e cx ⟨v633, rfl, ho0, hb⟩; have z_ := p_ (Kd.R_elder' (raR_ HO628) (Kd.R_base ho0) hb) <| p_ (Kd.R_elder' (raR_ HO631) (Kd.R_base ho0) hb) <| p_ (Kd.R_lower (Kd.R_new' (Kd.R_new' ho0 (Kd.R_lt (raR_ HO628))) (Kd.R_lt (raR_ HO631))) (below_size th_)) <| bw3_ (kb_ BK623) (kb_ BK624) (kb_ BK625) th_ hb; clear HO628 HO631 BK623 BK624 BK625 HB; obtain ⟨HO628, HO631, HO634, BK623, BK624, BK625, HB⟩ := z_; (try clear hb); (try clear ho0); obtain ⟨Ao21, aw, bh⟩ := Kd.R_slice HO634.out; subst bh)); try go_wp2_with (first | ((with_reducible refine gate_dst (N := 4) rfl ?_); refine be_ 4 (cs := #[.int .i64 aj, .int .i64 ak, .int .i64 al, .int .i64 am]) 31 ?_; intro az hg w7 hbox hb; have z_ := bx0_ th_ hb hbox hg; clear HB; obtain ⟨HB, BK623, cb, cc⟩ := z_; clear hb hbox hg) | ((with_reducible refine gate_dst (N := 6) rfl ?_); refine be_ 6 (cs := #[.int .i64 av, .slice b2 ap.length b3, .slice b4 aq.length b5]) 35 ?_; intro b0 hg w8 hbox hb; have z_ := bx1_ (kb_ BK623) th_ hb hbox hg; clear BK623 HB; obtain ⟨BK623, HB, BK624, cd, ce, ac, ae⟩ := z_; clear hb hbox hg) | ((with_reducible refine gate_dst (N := 7) rfl ?_); refine be_ 7 (cs := #[.int .i64 ar, .slice b6 an.length b7, .slice b8 ao.length b9]) 35 ?_; intro b1 hg w9 hbox hb; have z_ := bx2_ (kb_ BK623) (kb_ BK624) th_ hb hbox hg; clear BK623 BK624 HB; obtain ⟨BK623, BK624, HB, BK625, cf, cg, af, ag, ah, ai⟩ := z_; clear hb hbox hg; obtain ⟨hnb10, hnc10, hnb11, hnc11⟩ := an4_ ac ae af ag; have bl := bb4_ BK623.out; obtain ⟨hnb13, hnc13⟩ := an2_ ah ai; have bm := bb3_ BK624.out) | (go_at_call 26; (with_reducible refine (impl_partWrites.calls k aj ak al am a1 av _ _ ap _ _ aq ab _ ?side1 ?side2 ?side3 ?side4 A5.out).mono ?_); (case side1 => exact tq_6); (case side2 => exact bd.out); (case side3 => exact tq_7); (case side4 => exact be.out); rintro e cv ⟨v627, rfl, ho0, hb⟩; have z_ := p_ (Kd.R_lower ho0 (below_size th_)) <| bw3_ (kb_ BK623) (kb_ BK624) (kb_ BK625) th_ hb; clear BK623 BK624 BK625 HB; obtain ⟨HO628, BK623, BK624, BK625, HB⟩ := z_; (try clear hb); (try clear ho0)) | ((with_reducible refine gate_dst (N := 17) rfl ?_); refine Kd.R_lit k53 _ 53 ?hg (N := 17) ?hd (xs := ([] : List (S53))) (inner := []) (ok := fun _ => True) (okp := fun _ => True) ?hr ?hp (fun _ hk => hk) trivial (Below.refl _ _) (Nat.le_refl _) (by simp) ?_; (case hd => rfl); (case hg => rfl); (case hr => first | (go_simp; done) | (go_simp; rfl)); (case hp => exact (Reps.none _ _)); intro v630 cw ho17 hb hg_ hnew_; clear hg_ hnew_; (first | rw [← Ny629.out] at ho17 | (simp only [Int.reduceToNat] at ho17; rw [← Ny629.out] at ho17)); have z_ := p_ (Kd.R_elder' (raR_ HO628) (Kd.R_base ho17) hb) <| p_ (Kd.R_lower (Kd.R_new' ho17 (Kd.R_lt (raR_ HO628))) (below_size th_)) <| bw3_ (kb_ BK623) (kb_ BK624) (kb_ BK625) th_ hb; clear HO628 BK623 BK624 BK625 HB; obtain ⟨HO628, HO631, BK623, BK624, BK625, HB⟩ := z_; clear hb ho17; have bn := bb4_ BK623.out; have bo := bb3_ BK625.out) | (go_at_call 26; (with_reducible refine (impl_partWrites.calls k aj ak al am a1 ar _ _ an _ _ ao t632 _ ?side1 ?side2 ?side3 ?side4 A6.out).mono ?_); (case side1 => exact tq_11); (case side2 => exact bf.out); (case side3 => exact tq_10); (case side4 => exact bg.out); rintro e cx ⟨v633, rfl, ho0, hb⟩; have z_ := p_ (Kd.R_elder' (raR_ HO628) (Kd.R_base ho0) hb) <| p_ (Kd.R_elder' (raR_ HO631) (Kd.R_base ho0) hb) <| p_ (Kd.R_lower (Kd.R_new' (Kd.R_new' ho0 (Kd.R_lt (raR_ HO628))) (Kd.R_lt (raR_ HO631))) (below_size th_)) <| bw3_ (kb_ BK623) (kb_ BK624) (kb_ BK625) th_ hb; clear HO628 HO631 BK623 BK624 BK625 HB; obtain ⟨HO628, HO631, HO634, BK623, BK624, BK625, HB⟩ := z_; (try clear hb); (try clear ho0); obtain ⟨Ao21, aw, bh⟩ := Kd.R_slice HO634.out; subst bh)))
 go_loopg [10, 23] k (fun kq v10 v23 w' => ∃ (au : List (S53)) (x23_1 : Int), v23 = .int .i64 x23_1 ∧ Aside0 (impl_changed.l0 kq ab au t632 (t632.length : Int) x23_1 = some r) ∧ Aside0 (kq ≤ k) ∧ Aside0 (Kd.R k53 53 w' w.heap.size (fun k_ => some k_ ≠ (v10 : Value).ownBlock ∧ some k_ ≠ ((.slice Ao21 t632.length aw) : Value).ownBlock) v627 ab) ∧ Aside0 (Kd.R k53 53 w' w.heap.size (fun k_ => some k_ ≠ (v627 : Value).ownBlock ∧ some k_ ≠ ((.slice Ao21 t632.length aw) : Value).ownBlock) v10 au) ∧ Aside0 (Kd.R k53 53 w' w.heap.size (fun k_ => some k_ ≠ (v627 : Value).ownBlock ∧ some k_ ≠ (v10 : Value).ownBlock) (.slice Ao21 t632.length aw) t632) ∧ Aside0 (w'.heap[az]? = some (.cells #[.int .i64 aj, .int .i64 ak, .int .i64 al, .int .i64 am] 31 (0, 0))) ∧ Aside0 (w'.heap[b0]? = some (.cells #[.int .i64 av, (.slice b2 ap.length b3), (.slice b4 aq.length b5)] 35 (0, 0))) ∧ Aside0 (w'.heap[b1]? = some (.cells #[.int .i64 ar, (.slice b6 an.length b7), (.slice b8 ao.length b9)] 35 (0, 0))) ∧ Aside0 (Below w.heap.size w w'))
 case atStart => exact ⟨(cm), (0), tq_3, H', ⟨Nat.le_refl _⟩, ⟨(by (with_reducible repeat (first | apply Kd.R_alloc | apply Kd.R_drewN | apply Kd.R_drew)); exact Kd.R_mono HO628.out (fun _ hk => ⟨hk.1.2, hk.2⟩))⟩, ⟨(by (with_reducible repeat (first | apply Kd.R_alloc | apply Kd.R_drewN | apply Kd.R_drew)); exact Kd.R_mono HO631.out (fun _ hk => ⟨hk.1.2, hk.2⟩))⟩, ⟨(by (with_reducible repeat (first | apply Kd.R_alloc | apply Kd.R_drewN | apply Kd.R_drew)); exact Kd.R_mono HO634.out (fun _ hk => ⟨hk.1.2, hk.2⟩))⟩, ⟨(kb_ BK623)⟩, ⟨(kb_ BK624)⟩, ⟨(kb_ BK625)⟩, ⟨th_⟩⟩
 case round =>
 clear H'
 try clear c1; try clear c2; try clear p2; try clear c3; try clear d6; try clear d7; try clear d8; try clear bl; try clear bm; try clear bn; try clear bo; try clear bl; try clear bm; try clear bn; try clear bo
 obtain ⟨au, x23_1, rfl, HA, HK1, HO_9, HO_10, HO_21, BK623, BK624, BK625, HB⟩ := hrel
 cases gk with
 | zero => exact absurd HA.out (by simp [impl_changed.l0])
 | succ k1 =>
 have H := HA.out
 clear HA
 simp only [impl_changed.l0] at H
 by_cases cl : x23_1 < (t632.length : Int)
 rotate_left
 ·rw [if_neg cl] at H
  have cn := decide_eq_false cl
  clear cl
  obtain rfl := Option.some.inj H
  go_wp2
  repeat (go_quiet (fail); try go_wp2)
  go_ret
  exact ⟨_, tq_1, (by (with_reducible repeat (first | apply Kd.R_alloc | apply Kd.R_drewN | apply Kd.R_drew)); exact Kd.R_mono HO_10.out (fun _ hk => trivial)), th_⟩
 rw [if_pos cl] at H
 have cn := decide_eq_true cl
 clear cl
 obtain ⟨cy, H⟩ := fc_ H
 have cz := decide_eq_true cy
 clear cy
 obtain ⟨d0, H⟩ := fc_ H
 have d1 := decide_eq_true d0
 clear d0
 obtain ⟨d2, H⟩ := fc_ H
 have d3 := decide_eq_true d2
 clear d2
 by_cases cj : ((rd_T53 t632 x23_1).f1).toList = ((rd_T53 ab x23_1).f1).toList
 ·rw [if_pos cj] at H
  have co := beq_iff_eq.mpr cj
  have cp := bne_eq_false_iff_eq.mpr cj
  clear cj
  have H' := Aside0.mk H
  clear H
  have p635 : 0 ≤ (x23_1 : Int) := of_decide_eq_true tq_2
  have q635 : x23_1 < (t632.length : Int) := of_decide_eq_true tq_2
  obtain ⟨ax, ck, bp, bq⟩ := at_T53 (Kd.R_reads' HO_21.out).2.2 x23_1 p635 q635
  cases ck
  replace p635 := eq_true p635
  replace q635 := eq_true q635
  go_wp2_with (first | ((with_reducible refine gate_dst (N := 12) rfl ?_); refine be_ 12 (cs := #[.int .i64 0, .string (⟨#[]⟩ : ByteArray)]) 53 ?_; intro gb636 hg ch hbox hb; have z_ := p_ (Kd.R_below (Kd.R_elderB (raR_ HO_9) gb636 (Nat.le_of_eq hg.symm)) hb) <| p_ (Kd.R_below (Kd.R_elderB (raR_ HO_10) gb636 (Nat.le_of_eq hg.symm)) hb) <| p_ (Kd.R_below (Kd.R_elderB (raR_ HO_21) gb636 (Nat.le_of_eq hg.symm)) hb) <| bx3_ (kb_ BK623) (kb_ BK624) (kb_ BK625) th_ hb hbox hg; clear HO_9 HO_10 HO_21 BK623 BK624 BK625 HB; obtain ⟨HO_9, HO_10, HO_21, BK623, BK624, BK625, HB, BK636, ba, bb, NB623_636, a7, NB624_636, a8, NB625_636, a9⟩ := z_; clear hb hbox hg; obtain ⟨hnb28, hnc28, hnb29, hnc29, hnb30, hnc30⟩ := an6_ a7 NB623_636 a8 NB624_636 a9 NB625_636; have cq := bb2_ BK636.out; obtain ⟨Ao32, cr, bi⟩ := Kd.R_slice HO_9.out; subst bi; have p637 : 0 ≤ (x23_1 : Int) := of_decide_eq_true tq_2; have q637 : x23_1 < (ab.length : Int) := of_decide_eq_true tq_2; obtain ⟨aa, ay, a5, a6⟩ := at_T53 (Kd.R_reads' HO_9.out).2.2 x23_1 p637 q637; cases ay; have hn637_0 : aa.block ≠ gb636 := Kd.own_blk tq_12; have hn637_1 : aa.block ≠ gb636 := Kd.own_blk tq_12; replace a5 := (cell_far (p := ⟨gb636, 0, none⟩) tq_15 (.int .i64 ((rd_T53 t632 x23_1).f0))).trans a5; replace a6 := (cell_far (p := ⟨gb636, 0, none⟩) tq_15 (.int .i64 ((rd_T53 t632 x23_1).f0))).trans a6; replace a5 := (cell_far (p := ⟨gb636, 1, none⟩) tq_14 (.string ((rd_T53 t632 x23_1).f1))).trans a5; replace a6 := (cell_far (p := ⟨gb636, 1, none⟩) tq_14 (.string ((rd_T53 t632 x23_1).f1))).trans a6; (try have hy637_0 := fun (n_ : Nat) => (show ((((ch.drewN n_).setCell ⟨gb636, 0, none⟩ (.int .i64 ((rd_T53 t632 x23_1).f0))).setCell ⟨gb636, 1, none⟩ (.string ((rd_T53 t632 x23_1).f1)))).cell? _ = some _ from a5)); (try have hy637_1 := fun (n_ : Nat) => (show ((((ch.drewN n_).setCell ⟨gb636, 0, none⟩ (.int .i64 ((rd_T53 t632 x23_1).f0))).setCell ⟨gb636, 1, none⟩ (.string ((rd_T53 t632 x23_1).f1)))).cell? _ = some _ from a6)); clear hn637_0 hn637_1; replace p637 := eq_true p637; replace q637 := eq_true q637))
  repeat (go_quiet (first | ((with_reducible refine gate_dst (N := 12) rfl ?_); refine be_ 12 (cs := #[.int .i64 0, .string (⟨#[]⟩ : ByteArray)]) 53 ?_; intro gb636 hg ch hbox hb; have z_ := p_ (Kd.R_below (Kd.R_elderB (raR_ HO_9) gb636 (Nat.le_of_eq hg.symm)) hb) <| p_ (Kd.R_below (Kd.R_elderB (raR_ HO_10) gb636 (Nat.le_of_eq hg.symm)) hb) <| p_ (Kd.R_below (Kd.R_elderB (raR_ HO_21) gb636 (Nat.le_of_eq hg.symm)) hb) <| bx3_ (kb_ BK623) (kb_ BK624) (kb_ BK625) th_ hb hbox hg; clear HO_9 HO_10 HO_21 BK623 BK624 BK625 HB; obtain ⟨HO_9, HO_10, HO_21, BK623, BK624, BK625, HB, BK636, ba, bb, NB623_636, a7, NB624_636, a8, NB625_636, a9⟩ := z_; clear hb hbox hg; obtain ⟨hnb28, hnc28, hnb29, hnc29, hnb30, hnc30⟩ := an6_ a7 NB623_636 a8 NB624_636 a9 NB625_636; have cq := bb2_ BK636.out; obtain ⟨Ao32, cr, bi⟩ := Kd.R_slice HO_9.out; subst bi; have p637 : 0 ≤ (x23_1 : Int) := of_decide_eq_true tq_2; have q637 : x23_1 < (ab.length : Int) := of_decide_eq_true tq_2; obtain ⟨aa, ay, a5, a6⟩ := at_T53 (Kd.R_reads' HO_9.out).2.2 x23_1 p637 q637; cases ay; have hn637_0 : aa.block ≠ gb636 := Kd.own_blk tq_12; have hn637_1 : aa.block ≠ gb636 := Kd.own_blk tq_12; replace a5 := (cell_far (p := ⟨gb636, 0, none⟩) tq_15 (.int .i64 ((rd_T53 t632 x23_1).f0))).trans a5; replace a6 := (cell_far (p := ⟨gb636, 0, none⟩) tq_15 (.int .i64 ((rd_T53 t632 x23_1).f0))).trans a6; replace a5 := (cell_far (p := ⟨gb636, 1, none⟩) tq_14 (.string ((rd_T53 t632 x23_1).f1))).trans a5; replace a6 := (cell_far (p := ⟨gb636, 1, none⟩) tq_14 (.string ((rd_T53 t632 x23_1).f1))).trans a6; (try have hy637_0 := fun (n_ : Nat) => (show ((((ch.drewN n_).setCell ⟨gb636, 0, none⟩ (.int .i64 ((rd_T53 t632 x23_1).f0))).setCell ⟨gb636, 1, none⟩ (.string ((rd_T53 t632 x23_1).f1)))).cell? _ = some _ from a5)); (try have hy637_1 := fun (n_ : Nat) => (show ((((ch.drewN n_).setCell ⟨gb636, 0, none⟩ (.int .i64 ((rd_T53 t632 x23_1).f0))).setCell ⟨gb636, 1, none⟩ (.string ((rd_T53 t632 x23_1).f1)))).cell? _ = some _ from a6)); clear hn637_0 hn637_1; replace p637 := eq_true p637; replace q637 := eq_true q637)); try go_wp2_with (first | ((with_reducible refine gate_dst (N := 12) rfl ?_); refine be_ 12 (cs := #[.int .i64 0, .string (⟨#[]⟩ : ByteArray)]) 53 ?_; intro gb636 hg ch hbox hb; have z_ := p_ (Kd.R_below (Kd.R_elderB (raR_ HO_9) gb636 (Nat.le_of_eq hg.symm)) hb) <| p_ (Kd.R_below (Kd.R_elderB (raR_ HO_10) gb636 (Nat.le_of_eq hg.symm)) hb) <| p_ (Kd.R_below (Kd.R_elderB (raR_ HO_21) gb636 (Nat.le_of_eq hg.symm)) hb) <| bx3_ (kb_ BK623) (kb_ BK624) (kb_ BK625) th_ hb hbox hg; clear HO_9 HO_10 HO_21 BK623 BK624 BK625 HB; obtain ⟨HO_9, HO_10, HO_21, BK623, BK624, BK625, HB, BK636, ba, bb, NB623_636, a7, NB624_636, a8, NB625_636, a9⟩ := z_; clear hb hbox hg; obtain ⟨hnb28, hnc28, hnb29, hnc29, hnb30, hnc30⟩ := an6_ a7 NB623_636 a8 NB624_636 a9 NB625_636; have cq := bb2_ BK636.out; obtain ⟨Ao32, cr, bi⟩ := Kd.R_slice HO_9.out; subst bi; have p637 : 0 ≤ (x23_1 : Int) := of_decide_eq_true tq_2; have q637 : x23_1 < (ab.length : Int) := of_decide_eq_true tq_2; obtain ⟨aa, ay, a5, a6⟩ := at_T53 (Kd.R_reads' HO_9.out).2.2 x23_1 p637 q637; cases ay; have hn637_0 : aa.block ≠ gb636 := Kd.own_blk tq_12; have hn637_1 : aa.block ≠ gb636 := Kd.own_blk tq_12; replace a5 := (cell_far (p := ⟨gb636, 0, none⟩) tq_15 (.int .i64 ((rd_T53 t632 x23_1).f0))).trans a5; replace a6 := (cell_far (p := ⟨gb636, 0, none⟩) tq_15 (.int .i64 ((rd_T53 t632 x23_1).f0))).trans a6; replace a5 := (cell_far (p := ⟨gb636, 1, none⟩) tq_14 (.string ((rd_T53 t632 x23_1).f1))).trans a5; replace a6 := (cell_far (p := ⟨gb636, 1, none⟩) tq_14 (.string ((rd_T53 t632 x23_1).f1))).trans a6; (try have hy637_0 := fun (n_ : Nat) => (show ((((ch.drewN n_).setCell ⟨gb636, 0, none⟩ (.int .i64 ((rd_T53 t632 x23_1).f0))).setCell ⟨gb636, 1, none⟩ (.string ((rd_T53 t632 x23_1).f1)))).cell? _ = some _ from a5)); (try have hy637_1 := fun (n_ : Nat) => (show ((((ch.drewN n_).setCell ⟨gb636, 0, none⟩ (.int .i64 ((rd_T53 t632 x23_1).f0))).setCell ⟨gb636, 1, none⟩ (.string ((rd_T53 t632 x23_1).f1)))).cell? _ = some _ from a6)); clear hn637_0 hn637_1; replace p637 := eq_true p637; replace q637 := eq_true q637)))
  go_roundg k1
  case measure => have := HK1.out; omega
  case rel => exact ⟨(au), (wrap64 (x23_1 + 1)), tq_3, H', ⟨tq_22⟩, ⟨(by (with_reducible repeat (first | apply Kd.R_alloc | apply Kd.R_drewN | apply Kd.R_drew)); exact Kd.R_mono (rR_ (rR_ (Kd.R_mono HO_9.out (fun k_ hk => (⟨hk, hk.2⟩ : _ ∧ k_ ≠ gb636))))) (fun _ hk => ⟨hk.1.1.1, hk.1.1.2⟩))⟩, ⟨(by (with_reducible repeat (first | apply Kd.R_alloc | apply Kd.R_drewN | apply Kd.R_drew)); exact Kd.R_mono (rR_ (rR_ (Kd.R_mono HO_10.out (fun k_ hk => (⟨hk, hk.2⟩ : _ ∧ k_ ≠ gb636))))) (fun _ hk => ⟨hk.1.1.1, hk.1.1.2⟩))⟩, ⟨(by (with_reducible repeat (first | apply Kd.R_alloc | apply Kd.R_drewN | apply Kd.R_drew)); exact Kd.R_mono (rR_ (rR_ (Kd.R_mono HO_21.out (fun k_ hk => (⟨hk, hk.2⟩ : _ ∧ k_ ≠ gb636))))) (fun _ hk => ⟨hk.1.1.1, hk.1.1.2⟩))⟩, ⟨tb_⟩, ⟨tb_⟩, ⟨tb_⟩, ⟨th_⟩⟩
 rw [if_neg cj] at H
 have co := beq_eq_false_iff_ne.mpr cj
 have cp := bne_iff_ne.mpr cj
 obtain ⟨d4, H⟩ := fc_ H
 have LMc33 := Aside0.mk d4
 clear d4
 obtain ⟨ct, hy638⟩ : ∃ y_ : List (S53), y_ = (au ++ [(⟨(rd_T53 t632 x23_1).f0, (rd_T53 t632 x23_1).f1⟩ : S53)]) := ⟨_, rfl⟩
 replace H : (impl_changed.l0 k1 ab ct t632 (t632.length : Int) (wrap64 (x23_1 + 1))) = some r := by first | (rw [hy638]; with_reducible exact H) | (have H2_ := (Option.bind_some _ _).symm.trans H; rw [hy638]; with_reducible exact H2_) | (have H2_ := (Option.bind_some _ _).symm.trans H; with_reducible exact H2_) | with_reducible exact H | (rw [hy638]; exact H) | exact H
 have Ny638 := Aside0.mk hy638
 clear hy638
 have H' := Aside0.mk H
 clear H
 have p635 : 0 ≤ (x23_1 : Int) := of_decide_eq_true tq_2
 have q635 : x23_1 < (t632.length : Int) := of_decide_eq_true tq_2
 obtain ⟨ax, ck, bp, bq⟩ := at_T53 (Kd.R_reads' HO_21.out).2.2 x23_1 p635 q635
 cases ck
 replace p635 := eq_true p635
 replace q635 := eq_true q635
 go_wp2_with (first | ((with_reducible refine gate_dst (N := 12) rfl ?_); refine be_ 12 (cs := #[.int .i64 0, .string (⟨#[]⟩ : ByteArray)]) 53 ?_; intro gb636 hg ci hbox hb; have z_ := p_ (Kd.R_below (Kd.R_elderB (raR_ HO_9) gb636 (Nat.le_of_eq hg.symm)) hb) <| p_ (Kd.R_below (Kd.R_elderB (raR_ HO_10) gb636 (Nat.le_of_eq hg.symm)) hb) <| p_ (Kd.R_below (Kd.R_elderB (raR_ HO_21) gb636 (Nat.le_of_eq hg.symm)) hb) <| bx3_ (kb_ BK623) (kb_ BK624) (kb_ BK625) th_ hb hbox hg; clear HO_9 HO_10 HO_21 BK623 BK624 BK625 HB; obtain ⟨HO_9, HO_10, HO_21, BK623, BK624, BK625, HB, BK636, ba, bb, NB623_636, a7, NB624_636, a8, NB625_636, a9⟩ := z_; clear hb hbox hg; obtain ⟨hnb35, hnc35, hnb36, hnc36, hnb37, hnc37⟩ := an6_ a7 NB623_636 a8 NB624_636 a9 NB625_636; have cu := bb2_ BK636.out; obtain ⟨Ao39, bc, bj⟩ := Kd.R_slice HO_9.out; subst bj; have p637 : 0 ≤ (x23_1 : Int) := of_decide_eq_true tq_2; have q637 : x23_1 < (ab.length : Int) := of_decide_eq_true tq_2; obtain ⟨aa, ay, a5, a6⟩ := at_T53 (Kd.R_reads' HO_9.out).2.2 x23_1 p637 q637; cases ay; have hn637_0 : aa.block ≠ gb636 := Kd.own_blk tq_12; have hn637_1 : aa.block ≠ gb636 := Kd.own_blk tq_12; replace a5 := (cell_far (p := ⟨gb636, 0, none⟩) tq_15 (.int .i64 ((rd_T53 t632 x23_1).f0))).trans a5; replace a6 := (cell_far (p := ⟨gb636, 0, none⟩) tq_15 (.int .i64 ((rd_T53 t632 x23_1).f0))).trans a6; replace a5 := (cell_far (p := ⟨gb636, 1, none⟩) tq_14 (.string ((rd_T53 t632 x23_1).f1))).trans a5; replace a6 := (cell_far (p := ⟨gb636, 1, none⟩) tq_14 (.string ((rd_T53 t632 x23_1).f1))).trans a6; (try have hy637_0 := fun (n_ : Nat) => (show ((((ci.drewN n_).setCell ⟨gb636, 0, none⟩ (.int .i64 ((rd_T53 t632 x23_1).f0))).setCell ⟨gb636, 1, none⟩ (.string ((rd_T53 t632 x23_1).f1)))).cell? _ = some _ from a5)); (try have hy637_1 := fun (n_ : Nat) => (show ((((ci.drewN n_).setCell ⟨gb636, 0, none⟩ (.int .i64 ((rd_T53 t632 x23_1).f0))).setCell ⟨gb636, 1, none⟩ (.string ((rd_T53 t632 x23_1).f1)))).cell? _ = some _ from a6)); clear hn637_0 hn637_1; replace p637 := eq_true p637; replace q637 := eq_true q637) | ((with_reducible refine gate_builtin (b := .append) (xs := #[.tmp 36, .tmp 38]) rfl ?_); at_builtin; refine Kd.R_append k53 (w0 := w) w.heap.size rfl (.tmp 36) (.tmp 38) 29 53 (.agg #[(.int .i64 0), (.string ⟨#[]⟩)]) 24 rfl Tryz.underlying29 info53 rfl (by decide) (by omega) u10 au (⟨(rd_T53 t632 x23_1).f0, (rd_T53 t632 x23_1).f1⟩ : S53) [.int .i64 ((rd_T53 t632 x23_1).f0), .string ((rd_T53 t632 x23_1).f1)] (fun k_ => some k_ ≠ (.slice (some aa) ab.length bc : Value).ownBlock ∧ some k_ ≠ (.slice (some ax) t632.length aw : Value).ownBlock ∧ k_ ≠ gb636) (fun _ => False) rfl (by first | (go_simp; done) | (go_simp; rfl)) ?aP (fun _ hk => hk.elim) ?aF ?aO ?aB ?aS ?aL ?_; (case aP => exact tq_72); (case aB => exact th_); (case aF => exact tq_17); (case aO => exact tq_30); (case aS => exact (below_size th_)); (case aL => have := LMc33.out; omega); intro v639 d5 ho hb hg hat; rw [← Ny638.out] at ho; have z_ := p_ (Kd.R_after (ok := (fun k_ => some k_ ≠ (.slice (some ax) t632.length aw : Value).ownBlock ∧ k_ ≠ gb636)) tq_31 hg hat) <| p_ (Kd.R_after (ok := (fun k_ => some k_ ≠ (.slice (some aa) ab.length bc : Value).ownBlock ∧ k_ ≠ gb636)) tq_29 hg hat) <| p_ (blk_grown (g := az) (o := .cells #[.int .i64 aj, .int .i64 ak, .int .i64 al, .int .i64 am] 31 (0, 0)) tq_25 hg (Kd.R_ne HO_10.out BK623.out (by decide))) <| p_ (blk_grown (g := b0) (o := .cells #[.int .i64 av, .slice b2 ap.length b3, .slice b4 aq.length b5] 35 (0, 0)) tq_24 hg (Kd.R_ne HO_10.out BK624.out (by decide))) <| p_ (blk_grown (g := b1) (o := .cells #[.int .i64 ar, .slice b6 an.length b7, .slice b8 ao.length b9] 35 (0, 0)) tq_23 hg (Kd.R_ne HO_10.out BK625.out (by decide))) <| p_ (blk_grown (g := gb636) (o := .cells #[.int .i64 ((rd_T53 t632 x23_1).f0), .string ((rd_T53 t632 x23_1).f1)] 53 (0, 0)) tq_19 hg (Kd.R_away HO_10.out (fun _ hk => hk.2))) <| p_ (hb) <| a_ (ho); clear HO_9 HO_21 BK623 BK624 BK625 BK636 HB HO_10; obtain ⟨HO_9, HO_21, BK623, BK624, BK625, BK636, HB, HO640⟩ := z_; clear ho hb hg hat))
 repeat (go_quiet (first | ((with_reducible refine gate_dst (N := 12) rfl ?_); refine be_ 12 (cs := #[.int .i64 0, .string (⟨#[]⟩ : ByteArray)]) 53 ?_; intro gb636 hg ci hbox hb; have z_ := p_ (Kd.R_below (Kd.R_elderB (raR_ HO_9) gb636 (Nat.le_of_eq hg.symm)) hb) <| p_ (Kd.R_below (Kd.R_elderB (raR_ HO_10) gb636 (Nat.le_of_eq hg.symm)) hb) <| p_ (Kd.R_below (Kd.R_elderB (raR_ HO_21) gb636 (Nat.le_of_eq hg.symm)) hb) <| bx3_ (kb_ BK623) (kb_ BK624) (kb_ BK625) th_ hb hbox hg; clear HO_9 HO_10 HO_21 BK623 BK624 BK625 HB; obtain ⟨HO_9, HO_10, HO_21, BK623, BK624, BK625, HB, BK636, ba, bb, NB623_636, a7, NB624_636, a8, NB625_636, a9⟩ := z_; clear hb hbox hg; obtain ⟨hnb35, hnc35, hnb36, hnc36, hnb37, hnc37⟩ := an6_ a7 NB623_636 a8 NB624_636 a9 NB625_636; have cu := bb2_ BK636.out; obtain ⟨Ao39, bc, bj⟩ := Kd.R_slice HO_9.out; subst bj; have p637 : 0 ≤ (x23_1 : Int) := of_decide_eq_true tq_2; have q637 : x23_1 < (ab.length : Int) := of_decide_eq_true tq_2; obtain ⟨aa, ay, a5, a6⟩ := at_T53 (Kd.R_reads' HO_9.out).2.2 x23_1 p637 q637; cases ay; have hn637_0 : aa.block ≠ gb636 := Kd.own_blk tq_12; have hn637_1 : aa.block ≠ gb636 := Kd.own_blk tq_12; replace a5 := (cell_far (p := ⟨gb636, 0, none⟩) tq_15 (.int .i64 ((rd_T53 t632 x23_1).f0))).trans a5; replace a6 := (cell_far (p := ⟨gb636, 0, none⟩) tq_15 (.int .i64 ((rd_T53 t632 x23_1).f0))).trans a6; replace a5 := (cell_far (p := ⟨gb636, 1, none⟩) tq_14 (.string ((rd_T53 t632 x23_1).f1))).trans a5; replace a6 := (cell_far (p := ⟨gb636, 1, none⟩) tq_14 (.string ((rd_T53 t632 x23_1).f1))).trans a6; (try have hy637_0 := fun (n_ : Nat) => (show ((((ci.drewN n_).setCell ⟨gb636, 0, none⟩ (.int .i64 ((rd_T53 t632 x23_1).f0))).setCell ⟨gb636, 1, none⟩ (.string ((rd_T53 t632 x23_1).f1)))).cell? _ = some _ from a5)); (try have hy637_1 := fun (n_ : Nat) => (show ((((ci.drewN n_).setCell ⟨gb636, 0, none⟩ (.int .i64 ((rd_T53 t632 x23_1).f0))).setCell ⟨gb636, 1, none⟩ (.string ((rd_T53 t632 x23_1).f1)))).cell? _ = some _ from a6)); clear hn637_0 hn637_1; replace p637 := eq_true p637; replace q637 := eq_true q637) | ((with_reducible refine gate_builtin (b := .append) (xs := #[.tmp 36, .tmp 38]) rfl ?_); at_builtin; refine Kd.R_append k53 (w0 := w) w.heap.size rfl (.tmp 36) (.tmp 38) 29 53 (.agg #[(.int .i64 0), (.string ⟨#[]⟩)]) 24 rfl Tryz.underlying29 info53 rfl (by decide) (by omega) u10 au (⟨(rd_T53 t632 x23_1).f0, (rd_T53 t632 x23_1).f1⟩ : S53) [.int .i64 ((rd_T53 t632 x23_1).f0), .string ((rd_T53 t632 x23_1).f1)] (fun k_ => some k_ ≠ (.slice (some aa) ab.length bc : Value).ownBlock ∧ some k_ ≠ (.slice (some ax) t632.length aw : Value).ownBlock ∧ k_ ≠ gb636) (fun _ => False) rfl (by first | (go_simp; done) | (go_simp; rfl)) ?aP (fun _ hk => hk.elim) ?aF ?aO ?aB ?aS ?aL ?_; (case aP => exact tq_72); (case aB => exact th_); (case aF => exact tq_17); (case aO => exact tq_30); (case aS => exact (below_size th_)); (case aL => have := LMc33.out; omega); intro v639 d5 ho hb hg hat; rw [← Ny638.out] at ho; have z_ := p_ (Kd.R_after (ok := (fun k_ => some k_ ≠ (.slice (some ax) t632.length aw : Value).ownBlock ∧ k_ ≠ gb636)) tq_31 hg hat) <| p_ (Kd.R_after (ok := (fun k_ => some k_ ≠ (.slice (some aa) ab.length bc : Value).ownBlock ∧ k_ ≠ gb636)) tq_29 hg hat) <| p_ (blk_grown (g := az) (o := .cells #[.int .i64 aj, .int .i64 ak, .int .i64 al, .int .i64 am] 31 (0, 0)) tq_25 hg (Kd.R_ne HO_10.out BK623.out (by decide))) <| p_ (blk_grown (g := b0) (o := .cells #[.int .i64 av, .slice b2 ap.length b3, .slice b4 aq.length b5] 35 (0, 0)) tq_24 hg (Kd.R_ne HO_10.out BK624.out (by decide))) <| p_ (blk_grown (g := b1) (o := .cells #[.int .i64 ar, .slice b6 an.length b7, .slice b8 ao.length b9] 35 (0, 0)) tq_23 hg (Kd.R_ne HO_10.out BK625.out (by decide))) <| p_ (blk_grown (g := gb636) (o := .cells #[.int .i64 ((rd_T53 t632 x23_1).f0), .string ((rd_T53 t632 x23_1).f1)] 53 (0, 0)) tq_19 hg (Kd.R_away HO_10.out (fun _ hk => hk.2))) <| p_ (hb) <| a_ (ho); clear HO_9 HO_21 BK623 BK624 BK625 BK636 HB HO_10; obtain ⟨HO_9, HO_21, BK623, BK624, BK625, BK636, HB, HO640⟩ := z_; clear ho hb hg hat)); try go_wp2_with (first | ((with_reducible refine gate_dst (N := 12) rfl ?_); refine be_ 12 (cs := #[.int .i64 0, .string (⟨#[]⟩ : ByteArray)]) 53 ?_; intro gb636 hg ci hbox hb; have z_ := p_ (Kd.R_below (Kd.R_elderB (raR_ HO_9) gb636 (Nat.le_of_eq hg.symm)) hb) <| p_ (Kd.R_below (Kd.R_elderB (raR_ HO_10) gb636 (Nat.le_of_eq hg.symm)) hb) <| p_ (Kd.R_below (Kd.R_elderB (raR_ HO_21) gb636 (Nat.le_of_eq hg.symm)) hb) <| bx3_ (kb_ BK623) (kb_ BK624) (kb_ BK625) th_ hb hbox hg; clear HO_9 HO_10 HO_21 BK623 BK624 BK625 HB; obtain ⟨HO_9, HO_10, HO_21, BK623, BK624, BK625, HB, BK636, ba, bb, NB623_636, a7, NB624_636, a8, NB625_636, a9⟩ := z_; clear hb hbox hg; obtain ⟨hnb35, hnc35, hnb36, hnc36, hnb37, hnc37⟩ := an6_ a7 NB623_636 a8 NB624_636 a9 NB625_636; have cu := bb2_ BK636.out; obtain ⟨Ao39, bc, bj⟩ := Kd.R_slice HO_9.out; subst bj; have p637 : 0 ≤ (x23_1 : Int) := of_decide_eq_true tq_2; have q637 : x23_1 < (ab.length : Int) := of_decide_eq_true tq_2; obtain ⟨aa, ay, a5, a6⟩ := at_T53 (Kd.R_reads' HO_9.out).2.2 x23_1 p637 q637; cases ay; have hn637_0 : aa.block ≠ gb636 := Kd.own_blk tq_12; have hn637_1 : aa.block ≠ gb636 := Kd.own_blk tq_12; replace a5 := (cell_far (p := ⟨gb636, 0, none⟩) tq_15 (.int .i64 ((rd_T53 t632 x23_1).f0))).trans a5; replace a6 := (cell_far (p := ⟨gb636, 0, none⟩) tq_15 (.int .i64 ((rd_T53 t632 x23_1).f0))).trans a6; replace a5 := (cell_far (p := ⟨gb636, 1, none⟩) tq_14 (.string ((rd_T53 t632 x23_1).f1))).trans a5; replace a6 := (cell_far (p := ⟨gb636, 1, none⟩) tq_14 (.string ((rd_T53 t632 x23_1).f1))).trans a6; (try have hy637_0 := fun (n_ : Nat) => (show ((((ci.drewN n_).setCell ⟨gb636, 0, none⟩ (.int .i64 ((rd_T53 t632 x23_1).f0))).setCell ⟨gb636, 1, none⟩ (.string ((rd_T53 t632 x23_1).f1)))).cell? _ = some _ from a5)); (try have hy637_1 := fun (n_ : Nat) => (show ((((ci.drewN n_).setCell ⟨gb636, 0, none⟩ (.int .i64 ((rd_T53 t632 x23_1).f0))).setCell ⟨gb636, 1, none⟩ (.string ((rd_T53 t632 x23_1).f1)))).cell? _ = some _ from a6)); clear hn637_0 hn637_1; replace p637 := eq_true p637; replace q637 := eq_true q637) | ((with_reducible refine gate_builtin (b := .append) (xs := #[.tmp 36, .tmp 38]) rfl ?_); at_builtin; refine Kd.R_append k53 (w0 := w) w.heap.size rfl (.tmp 36) (.tmp 38) 29 53 (.agg #[(.int .i64 0), (.string ⟨#[]⟩)]) 24 rfl Tryz.underlying29 info53 rfl (by decide) (by omega) u10 au (⟨(rd_T53 t632 x23_1).f0, (rd_T53 t632 x23_1).f1⟩ : S53) [.int .i64 ((rd_T53 t632 x23_1).f0), .string ((rd_T53 t632 x23_1).f1)] (fun k_ => some k_ ≠ (.slice (some aa) ab.length bc : Value).ownBlock ∧ some k_ ≠ (.slice (some ax) t632.length aw : Value).ownBlock ∧ k_ ≠ gb636) (fun _ => False) rfl (by first | (go_simp; done) | (go_simp; rfl)) ?aP (fun _ hk => hk.elim) ?aF ?aO ?aB ?aS ?aL ?_; (case aP => exact tq_72); (case aB => exact th_); (case aF => exact tq_17); (case aO => exact tq_30); (case aS => exact (below_size th_)); (case aL => have := LMc33.out; omega); intro v639 d5 ho hb hg hat; rw [← Ny638.out] at ho; have z_ := p_ (Kd.R_after (ok := (fun k_ => some k_ ≠ (.slice (some ax) t632.length aw : Value).ownBlock ∧ k_ ≠ gb636)) tq_31 hg hat) <| p_ (Kd.R_after (ok := (fun k_ => some k_ ≠ (.slice (some aa) ab.length bc : Value).ownBlock ∧ k_ ≠ gb636)) tq_29 hg hat) <| p_ (blk_grown (g := az) (o := .cells #[.int .i64 aj, .int .i64 ak, .int .i64 al, .int .i64 am] 31 (0, 0)) tq_25 hg (Kd.R_ne HO_10.out BK623.out (by decide))) <| p_ (blk_grown (g := b0) (o := .cells #[.int .i64 av, .slice b2 ap.length b3, .slice b4 aq.length b5] 35 (0, 0)) tq_24 hg (Kd.R_ne HO_10.out BK624.out (by decide))) <| p_ (blk_grown (g := b1) (o := .cells #[.int .i64 ar, .slice b6 an.length b7, .slice b8 ao.length b9] 35 (0, 0)) tq_23 hg (Kd.R_ne HO_10.out BK625.out (by decide))) <| p_ (blk_grown (g := gb636) (o := .cells #[.int .i64 ((rd_T53 t632 x23_1).f0), .string ((rd_T53 t632 x23_1).f1)] 53 (0, 0)) tq_19 hg (Kd.R_away HO_10.out (fun _ hk => hk.2))) <| p_ (hb) <| a_ (ho); clear HO_9 HO_21 BK623 BK624 BK625 BK636 HB HO_10; obtain ⟨HO_9, HO_21, BK623, BK624, BK625, BK636, HB, HO640⟩ := z_; clear ho hb hg hat)))
 go_roundg k1
 case measure => have := HK1.out; omega
 case rel => exact ⟨(ct), (wrap64 (x23_1 + 1)), tq_3, H', ⟨tq_22⟩, ⟨(by (with_reducible repeat (first | apply Kd.R_alloc | apply Kd.R_drewN | apply Kd.R_drew)); exact Kd.R_mono HO_9.out (fun _ hk => ⟨hk.2, hk.1.1⟩))⟩, ⟨(by (with_reducible repeat (first | apply Kd.R_alloc | apply Kd.R_drewN | apply Kd.R_drew)); exact Kd.R_mono HO640.out (fun _ hk => ⟨hk.1, hk.2.1⟩))⟩, ⟨(by (with_reducible repeat (first | apply Kd.R_alloc | apply Kd.R_drewN | apply Kd.R_drew)); exact Kd.R_mono HO_21.out (fun _ hk => ⟨hk.1.1, hk.2⟩))⟩, ⟨(kb_ BK623)⟩, ⟨(kb_ BK624)⟩, ⟨(kb_ BK625)⟩, ⟨th_⟩⟩

/-! ### impl_Changed: function 16 -/
def impl_Changed.f (k : Nat) (a5 : Int) (a6 : Int) (a7 : Int) (a8 : Int) (a1 : Int) (a9 : Int) (aa : List Int) (ab : List (S69)) (ac : Int) (ae : List Int) (af : List (S69)) : Option ((List (S53))) := (impl_PartOk.f k a5 a6 a7 a8 a9 aa ab).bind fun ag => (if ag = true then ((impl_PartOk.f k a5 a6 a7 a8 ac ae af).bind fun ah => (if ah = true then ((impl_isTenant.f a5 a6 a7 a8 a1).bind fun ai => (if ai = true then ((impl_changed.f k a5 a6 a7 a8 a1 a9 aa ab ac ae af).bind fun aj => (some aj)) else (some ([] : List (S53))))) else (some ([] : List (S53))))) else (some ([] : List (S53))))
set_option maxHeartbeats 8000000 in
set_option maxRecDepth 100000 in
theorem impl_Changed.calls (k : Nat) (af : Int) (ag : Int) (ah : Int) (ai : Int) (a1 : Int) (al : Int) (au : Option Addr) (av : Nat) (aj : List Int) (aw : Option Addr) (ax : Nat) (ak : List (S69)) (ay : Int) (b3 : Option Addr) (b4 : Nat) (am : List Int) (b5 : Option Addr) (b6 : Nat) (an : List (S69)) (r : List (S53)) (w : World) (b9 : Kd.C (Kd.int .i64) w au aj.length aj) (ba : aj.length ≤ av) (bb : Kd.C k69 w aw ak.length ak) (bc : ak.length ≤ ax) (bd : Kd.C (Kd.int .i64) w b3 am.length am) (be : am.length ≤ b4) (bf : Kd.C k69 w b5 an.length an) (bg : an.length ≤ b6) (h : impl_Changed.f k af ag ah ai a1 al aj ak ay am an = some r) :
  Calls Tryz.prog 16 #[.agg #[.int .i64 af, .int .i64 ag, .int .i64 ah, .int .i64 ai], .int .i64 a1, .agg #[.int .i64 al, .slice au aj.length av, .slice aw ak.length ax], .agg #[.int .i64 ay, .slice b3 am.length b4, .slice b5 an.length b6]] w fun e w' => ∃ v0_ : Value, e = .returned (v0_) ∧ Kd.R k53 53 w' w.heap.size (fun _ => True) v0_ r ∧ Below w.heap.size w w' := by
 have hu31 := Tryz.underlying31
 have hu35 := Tryz.underlying35
 have HR2_1 := Aside0.mk b9
 have b1 := Aside0.mk ba
 clear b9 ba
 have HR2_2 := Aside0.mk bb
 have b2 := Aside0.mk bc
 clear bb bc
 have HR3_1 := Aside0.mk bd
 have b7 := Aside0.mk be
 clear bd be
 have HR3_2 := Aside0.mk bf
 have b8 := Aside0.mk bg
 clear bf bg
 have HB := Aside0.mk (Below.refl w.heap.size w)
 unfold impl_Changed.f at h
 have H := h
 clear h
 obtain ⟨cb, A5, H⟩ := bd_ H
 by_cases c6 : cb = true
 rotate_left
 ·replace c6 := Bool.eq_false_iff.mpr c6
  subst c6
  rw [if_neg nf_] at H
  obtain rfl := Option.some.inj H
  go_enter Tryz.func16, Tryz.ntmps16
  go_wp2_with (first | ((with_reducible refine gate_dst (N := 4) rfl ?_); refine be_ 4 (cs := #[.int .i64 af, .int .i64 ag, .int .i64 ah, .int .i64 ai]) 31 ?_; intro bh hg co hbox hb; have z_ := bx0_ th_ hb hbox hg; clear HB; obtain ⟨HB, a5, bi, bj⟩ := z_; clear hb hbox hg) | ((with_reducible refine gate_dst (N := 6) rfl ?_); refine be_ 6 (cs := #[.int .i64 al, .slice au aj.length av, .slice aw ak.length ax]) 35 ?_; intro bl hg cp hbox hb; have z_ := bx1_ (kb_ a5) th_ hb hbox hg; clear a5 HB; obtain ⟨a5, HB, a6, bm, bn, a8, a9⟩ := z_; clear hb hbox hg) | ((with_reducible refine gate_dst (N := 7) rfl ?_); refine be_ 7 (cs := #[.int .i64 ay, .slice b3 am.length b4, .slice b5 an.length b6]) 35 ?_; intro bo hg cq hbox hb; have z_ := bx2_ (kb_ a5) (kb_ a6) th_ hb hbox hg; clear a5 a6 HB; obtain ⟨a5, a6, HB, a7, bp, bq, aa, ab, ac, ae⟩ := z_; clear hb hbox hg; obtain ⟨ao, ap, aq, ar⟩ := an4_ a8 a9 aa ab; have ce := bb4_ a5.out; obtain ⟨az, b0⟩ := an2_ ac ae; have cf := bb3_ a6.out) | ((with_reducible refine gate_callee (f := 24) rfl ?_); refine goesL_ (some 11) rfl rfl Tryz.func24 (by kernel_rfl) rfl #[.agg #[.int .i64 af, .int .i64 ag, .int .i64 ah, .int .i64 ai], .agg #[.int .i64 al, .slice au aj.length av, .slice aw ak.length ax]] rfl tq_0 ?_; (with_reducible refine (impl_PartOk.calls k af ag ah ai al _ _ aj _ _ ak false _ ?side1 ?side2 ?side3 ?side4 A5.out).mono ?_); (case side1 => exact tq_6); (case side2 => exact b1.out); (case side3 => exact tq_7); (case side4 => exact b2.out); rintro e cr ⟨rfl, hb⟩; refine ⟨_, rfl, ?_⟩; have z_ := bw3_ (kb_ a5) (kb_ a6) (kb_ a7) th_ hb; clear a5 a6 a7 HB; obtain ⟨a5, a6, a7, HB⟩ := z_; (try clear hb)))
  go_ret
  exact ⟨_, tq_1, tq_26, th_⟩
 subst c6
 rw [if_pos rfl] at H
 obtain ⟨cc, A7, H⟩ := bd_ H
 by_cases c8 : cc = true
 rotate_left
 ·replace c8 := Bool.eq_false_iff.mpr c8
  subst c8
  rw [if_neg nf_] at H
  obtain rfl := Option.some.inj H
  go_enter Tryz.func16, Tryz.ntmps16
  go_wp2_with (first | ((with_reducible refine gate_dst (N := 4) rfl ?_); refine be_ 4 (cs := #[.int .i64 af, .int .i64 ag, .int .i64 ah, .int .i64 ai]) 31 ?_; intro bh hg ct hbox hb; have z_ := bx0_ th_ hb hbox hg; clear HB; obtain ⟨HB, a5, bi, bj⟩ := z_; clear hb hbox hg) | ((with_reducible refine gate_dst (N := 6) rfl ?_); refine be_ 6 (cs := #[.int .i64 al, .slice au aj.length av, .slice aw ak.length ax]) 35 ?_; intro bl hg cu hbox hb; have z_ := bx1_ (kb_ a5) th_ hb hbox hg; clear a5 HB; obtain ⟨a5, HB, a6, bm, bn, a8, a9⟩ := z_; clear hb hbox hg) | ((with_reducible refine gate_dst (N := 7) rfl ?_); refine be_ 7 (cs := #[.int .i64 ay, .slice b3 am.length b4, .slice b5 an.length b6]) 35 ?_; intro bo hg cv hbox hb; have z_ := bx2_ (kb_ a5) (kb_ a6) th_ hb hbox hg; clear a5 a6 HB; obtain ⟨a5, a6, HB, a7, bp, bq, aa, ab, ac, ae⟩ := z_; clear hb hbox hg; obtain ⟨hnb37, hnc37, aq, ar⟩ := an4_ a8 a9 aa ab; have cg := bb4_ a5.out; obtain ⟨hnb40, hnc40⟩ := an2_ ac ae; have ch := bb3_ a6.out) | ((with_reducible refine gate_callee (f := 24) rfl ?_); refine goesL_ (some 11) rfl rfl Tryz.func24 (by kernel_rfl) rfl #[.agg #[.int .i64 af, .int .i64 ag, .int .i64 ah, .int .i64 ai], .agg #[.int .i64 al, .slice au aj.length av, .slice aw ak.length ax]] rfl tq_0 ?_; (with_reducible refine (impl_PartOk.calls k af ag ah ai al _ _ aj _ _ ak true _ ?side1 ?side2 ?side3 ?side4 A5.out).mono ?_); (case side1 => exact tq_6); (case side2 => exact b1.out); (case side3 => exact tq_7); (case side4 => exact b2.out); rintro e cw ⟨rfl, hb⟩; refine ⟨_, rfl, ?_⟩; have z_ := bw3_ (kb_ a5) (kb_ a6) (kb_ a7) th_ hb; clear a5 a6 a7 HB; obtain ⟨a5, a6, a7, HB⟩ := z_; (try clear hb); have ci := bb4_ a5.out; have cj := bb3_ a7.out) | (go_at_call 24; (with_reducible refine (impl_PartOk.calls k af ag ah ai ay _ _ am _ _ an false _ ?side1 ?side2 ?side3 ?side4 A7.out).mono ?_); (case side1 => exact tq_11); (case side2 => exact b7.out); (case side3 => exact tq_10); (case side4 => exact b8.out); rintro e cx ⟨rfl, hb⟩; have z_ := bw3_ (kb_ a5) (kb_ a6) (kb_ a7) th_ hb; clear a5 a6 a7 HB; obtain ⟨a5, a6, a7, HB⟩ := z_; (try clear hb)))
  go_ret
  exact ⟨_, tq_1, tq_26, th_⟩
 subst c8
 rw [if_pos rfl] at H
 obtain ⟨br, A9, H⟩ := bd_ H
 have bs := Aside0.mk H
 clear H
 go_enter Tryz.func16, Tryz.ntmps16
 go_upto_if 24 with (first | ((with_reducible refine gate_dst (N := 4) rfl ?_); refine be_ 4 (cs := #[.int .i64 af, .int .i64 ag, .int .i64 ah, .int .i64 ai]) 31 ?_; intro bh hg cy hbox hb; have z_ := bx0_ th_ hb hbox hg; clear HB; obtain ⟨HB, a5, bi, bj⟩ := z_; clear hb hbox hg) | ((with_reducible refine gate_dst (N := 6) rfl ?_); refine be_ 6 (cs := #[.int .i64 al, .slice au aj.length av, .slice aw ak.length ax]) 35 ?_; intro bl hg cz hbox hb; have z_ := bx1_ (kb_ a5) th_ hb hbox hg; clear a5 HB; obtain ⟨a5, HB, a6, bm, bn, a8, a9⟩ := z_; clear hb hbox hg) | ((with_reducible refine gate_dst (N := 7) rfl ?_); refine be_ 7 (cs := #[.int .i64 ay, .slice b3 am.length b4, .slice b5 an.length b6]) 35 ?_; intro bo hg d0 hbox hb; have z_ := bx2_ (kb_ a5) (kb_ a6) th_ hb hbox hg; clear a5 a6 HB; obtain ⟨a5, a6, HB, a7, bp, bq, aa, ab, ac, ae⟩ := z_; clear hb hbox hg; obtain ⟨ao, ap, aq, ar⟩ := an4_ a8 a9 aa ab; have bu := bb4_ a5.out; obtain ⟨az, b0⟩ := an2_ ac ae; have bv := bb3_ a6.out) | ((with_reducible refine gate_callee (f := 24) rfl ?_); refine goesL_ (some 11) rfl rfl Tryz.func24 (by kernel_rfl) rfl #[.agg #[.int .i64 af, .int .i64 ag, .int .i64 ah, .int .i64 ai], .agg #[.int .i64 al, .slice au aj.length av, .slice aw ak.length ax]] rfl tq_0 ?_; (with_reducible refine (impl_PartOk.calls k af ag ah ai al _ _ aj _ _ ak true _ ?side1 ?side2 ?side3 ?side4 A5.out).mono ?_); (case side1 => exact tq_6); (case side2 => exact b1.out); (case side3 => exact tq_7); (case side4 => exact b2.out); rintro e d1 ⟨rfl, hb⟩; refine ⟨_, rfl, ?_⟩; have z_ := bw3_ (kb_ a5) (kb_ a6) (kb_ a7) th_ hb; clear a5 a6 a7 HB; obtain ⟨a5, a6, a7, HB⟩ := z_; (try clear hb); have bw := bb4_ a5.out; have bx := bb3_ a7.out) | (go_at_call 24; (with_reducible refine (impl_PartOk.calls k af ag ah ai ay _ _ am _ _ an true _ ?side1 ?side2 ?side3 ?side4 A7.out).mono ?_); (case side1 => exact tq_11); (case side2 => exact b7.out); (case side3 => exact tq_10); (case side4 => exact b8.out); rintro e d2 ⟨rfl, hb⟩; have z_ := bw3_ (kb_ a5) (kb_ a6) (kb_ a7) th_ hb; clear a5 a6 a7 HB; obtain ⟨a5, a6, a7, HB⟩ := z_; (try clear hb); have bz := bb4_ a5.out) | (go_at_call 25; (with_reducible refine (impl_isTenant.calls af ag ah ai a1 br _ A9.out).mono ?_); rintro e d3 ⟨rfl, hb⟩; have z_ := bw3_ (kb_ a5) (kb_ a6) (kb_ a7) th_ hb; clear a5 a6 a7 HB; obtain ⟨a5, a6, a7, HB⟩ := z_; (try clear hb)))
 (try simp only [Act.put, List.setIfInBounds_toArray, List.set_cons_zero, List.set_cons_succ])
 (try clear ao aq ap az ar b0)
 (try clear bu)
 (try clear bv)
 (try clear bw)
 (try clear bx)
 (try clear bz)
 (try clear bu)
 (try clear bv)
 (try clear bw)
 (try clear bx)
 (try clear bz)
 have H := bs.out
 clear bs
 by_cases ca : br = true
 rotate_left
 ·replace ca := Bool.eq_false_iff.mpr ca
  subst ca
  rw [if_neg nf_] at H
  obtain rfl := Option.some.inj H
  go_wp2
  go_ret
  exact ⟨_, tq_1, tq_26, th_⟩
 subst ca
 rw [if_pos rfl] at H
 obtain ⟨cd, ck, H⟩ := bd_ H
 obtain rfl := Option.some.inj H
 obtain ⟨ao, ap, hnb28, hnc28⟩ := an4_ a8 a9 aa ab
 have cl := bb4_ a5.out
 obtain ⟨hnb30, hnc30⟩ := an2_ ac ae
 have cm := bb3_ a6.out
 have cn := bb3_ a7.out
 go_wp2_with (first | ((with_reducible refine gate_callee (f := 33) rfl ?_); refine goesL_ (some 29) rfl rfl Tryz.func33 (by kernel_rfl) rfl #[.agg #[.int .i64 af, .int .i64 ag, .int .i64 ah, .int .i64 ai], .int .i64 a1, .agg #[.int .i64 al, .slice au aj.length av, .slice aw ak.length ax], .agg #[.int .i64 ay, .slice b3 am.length b4, .slice b5 an.length b6]] rfl tq_0 ?_; (with_reducible refine (impl_changed.calls k af ag ah ai a1 al _ _ aj _ _ ak ay _ _ am _ _ an cd _ ?side1 ?side2 ?side3 ?side4 ?side5 ?side6 ?side7 ?side8 ck.out).mono ?_); (case side1 => exact tq_6); (case side2 => exact b1.out); (case side3 => exact tq_7); (case side4 => exact b2.out); (case side5 => exact tq_11); (case side6 => exact b7.out); (case side7 => exact tq_10); (case side8 => exact b8.out); rintro e d4 ⟨v648, rfl, ho0, hb⟩; refine ⟨_, rfl, ?_⟩; have z_ := p_ (Kd.R_lower ho0 (below_size th_)) <| bw3_ (kb_ a5) (kb_ a6) (kb_ a7) th_ hb; clear a5 a6 a7 HB; obtain ⟨HO649, a5, a6, a7, HB⟩ := z_; (try clear hb); (try clear ho0)))
 go_ret
 exact ⟨_, tq_1, (raR_ HO649), th_⟩

end Go.Proofs.YtleoknilacjakaaGreat.PFnExactChanged
