/- Contracts of Go functions, written by a program of ours over the print of the kit: each says that the call returns what the Lean function beside it computes. Conditions: as each theorem states them. -/
import Derived.Test.YtleoknilacjakaaGreatPkFnExactPartWrites
import Derived.Test.YtleoknilacjakaaGreatPFnExactPartWritesx0
import Derived.Test.YtleoknilacjakaaGreatPFnExactPartWritesx18
import Derived.Test.YtleoknilacjakaaGreatPFnExactPartWritesx19
import Derived.Test.YtleoknilacjakaaGreatPFnExactPartWritesx20
namespace Go.Proofs.YtleoknilacjakaaGreat.PFnExactPartWrites
open Go.RowKit Go.Proofs.YtleoknilacjakaaGreatW.PrintWords Go.Proofs.YtleoknilacjakaaGreatW.PrintLast Go.Proofs.YtleoknilacjakaaGreatW.PrintMore
attribute [local go_sem] max2_int min2_int max_two min_two max_three min_three max_four min_four   -- for this text's walks alone
set_option linter.unusedVariables false
set_option linter.unusedSimpArgs false

/-! ### impl_partWrites: function 26 -/
mutual
def impl_partWrites.l0 : Nat → Int → List (S53) → List ByteArray → Int → Int → Int → Int → Int → Int → Int → List Int → List (S69) → Option ((List (S53)))
 | 0, _, _, _, _, _, _, _, _, _, _, _, _ => none
 | k + 1, x1, x7, x17, x18, x19, x528000, x528001, x528002, x528003, x529000, x529001, x529002 => if x19 < x18 then (if 0 ≤ x19 then (if x19 < (x17.length : Int) then ((impl_statesAt.f x528000 x528001 x528002 x528003 x1).bind fun t536 => (if x7.length < 5864062014805 then (impl_partWrites.l0 k x1 (x7 ++ [(⟨wrap64 (t536 + x19), rdOf ByteArray.empty x17 x19⟩ : S53)]) x17 x18 (wrap64 (x19 + 1)) x528000 x528001 x528002 x528003 x529000 x529001 x529002) else (none))) else (none)) else (none)) else (impl_partWrites.l1 k x1 x7 x529002 (x529002.length : Int) 0 x528000 x528001 x528002 x528003)
def impl_partWrites.l1 : Nat → Int → List (S53) → List (S69) → Int → Int → Int → Int → Int → Int → Option ((List (S53)))
 | 0, _, _, _, _, _, _, _, _, _ => none
 | k + 1, x1, x7, x36, x37, x38, x528000, x528001, x528002, x528003 => if x38 < x37 then (if 0 ≤ x38 then (if x38 < (x36.length : Int) then ((impl_inodeText.f k ((rd_T69 x36 x38).f0) ((rd_T69 x36 x38).f1) ((rd_T69 x36 x38).f2) ((rd_T69 x36 x38).f3) ((rd_T69 x36 x38).f4) ((rd_T69 x36 x38).f5)).bind fun t542 => (impl_partWrites.l2 k x1 x7 x38 x36 x37 x38 t542 (t542.length : Int) 0 x528000 x528001 x528002 x528003)) else (none)) else (none)) else (some x7)
def impl_partWrites.l2 : Nat → Int → List (S53) → Int → List (S69) → Int → Int → List ByteArray → Int → Int → Int → Int → Int → Int → Option ((List (S53)))
 | 0, _, _, _, _, _, _, _, _, _, _, _, _, _ => none
 | k + 1, x1, x7, x10, x36, x37, x38, x44, x45, x46, x528000, x528001, x528002, x528003 => if x46 < x45 then (if 0 ≤ x46 then (if x46 < (x44.length : Int) then ((impl_InodeAt.f x528000 x528001 x528002 x528003 x1 x10).bind fun t546 => (if x7.length < 5864062014805 then (impl_partWrites.l2 k x1 (x7 ++ [(⟨wrap64 (t546 + x46), rdOf ByteArray.empty x44 x46⟩ : S53)]) x10 x36 x37 x38 x44 x45 (wrap64 (x46 + 1)) x528000 x528001 x528002 x528003) else (none))) else (none)) else (none)) else (impl_partWrites.l1 k x1 x7 x36 x37 (wrap64 (x38 + 1)) x528000 x528001 x528002 x528003)
end
def impl_partWrites.f (k : Nat) (a0_0 : Int) (a0_1 : Int) (a0_2 : Int) (a0_3 : Int) (a1 : Int) (a2_0 : Int) (l2_1 : List Int) (l2_2 : List (S69)) : Option ((List (S53))) := (impl_StatesWords.f k l2_1).bind fun t532 => (impl_partWrites.l0 k a1 (([] : List (S53))) t532 (t532.length : Int) 0 a0_0 a0_1 a0_2 a0_3 a2_0 l2_1 l2_2)
set_option maxHeartbeats 8000000 in
set_option maxRecDepth 100000 in
theorem impl_partWrites.calls (k : Nat) (ag : Int) (ah : Int) (ai : Int) (aj : Int) (a1 : Int) (ap : Int) (au : Option Addr) (av : Nat) (ak : List Int) (be : Option Addr) (b0 : Nat) (a6 : List (S69)) (r : List (S53)) (w : World) (bz : Kd.C (Kd.int .i64) w au ak.length ak) (ca : ak.length ≤ av) (cb : Kd.C k69 w be a6.length a6) (cc : a6.length ≤ b0) (h : impl_partWrites.f k ag ah ai aj a1 ap ak a6 = some r) :
  Calls Tryz.prog 26 #[.agg #[.int .i64 ag, .int .i64 ah, .int .i64 ai, .int .i64 aj], .int .i64 a1, .agg #[.int .i64 ap, .slice au ak.length av, .slice be a6.length b0]] w fun e w' => ∃ v0_ : Value, e = .returned (v0_) ∧ Kd.R k53 53 w' w.heap.size (fun _ => True) v0_ r ∧ Below w.heap.size w w' := by
 have hu31 := Tryz.underlying31
 have hu35 := Tryz.underlying35
 have hu53 := Tryz.underlying53
 have hu69 := Tryz.underlying69
 have HR2_1 := Aside0.mk bz
 have cj := Aside0.mk ca
 clear bz ca
 have HR2_2 := Aside0.mk cb
 have db := Aside0.mk cc
 clear cb cc
 have HB := Aside0.mk (Below.refl w.heap.size w)
 unfold impl_partWrites.f at h
 have H := h
 clear h
 obtain ⟨ck, hy529⟩ : ∃ y_ : List (S53), y_ = (([] : List (S53))) := ⟨_, rfl⟩
 replace H : ((impl_StatesWords.f k ak).bind fun al => (impl_partWrites.l0 k a1 ck al (al.length : Int) 0 ag ah ai aj ap ak a6)) = some r := by first | (rw [hy529]; with_reducible exact H) | (have H2_ := (Option.bind_some _ _).symm.trans H; rw [hy529]; with_reducible exact H2_) | (have H2_ := (Option.bind_some _ _).symm.trans H; with_reducible exact H2_) | with_reducible exact H | (rw [hy529]; exact H) | exact H
 have Ny529 := Aside0.mk hy529
 clear hy529
 obtain ⟨al, A4, H⟩ := bd_ H
 have H' := Aside0.mk H
 clear H
 go_enter Tryz.func26, Tryz.ntmps26
 go_wp2_with (first | ((with_reducible refine gate_dst (N := 3) rfl ?_); refine be_ 3 (cs := #[.int .i64 ag, .int .i64 ah, .int .i64 ai, .int .i64 aj]) 31 ?_; intro aw hg w5 hbox hb; have z_ := bx0_ th_ hb hbox hg; clear HB; obtain ⟨HB, a7, dc, dd⟩ := z_; clear hb hbox hg) | ((with_reducible refine gate_dst (N := 5) rfl ?_); refine be_ 5 (cs := #[.int .i64 ap, .slice au ak.length av, .slice be a6.length b0]) 35 ?_; intro ax hg w6 hbox hb; have z_ := bx1_ (kb_ a7) th_ hb hbox hg; clear a7 HB; obtain ⟨a7, HB, a8, de, df, ay, az⟩ := z_; clear hb hbox hg) | ((with_reducible refine gate_dst (N := 14) rfl ?_); refine Kd.R_lit k53 _ 53 ?hg (N := 14) ?hd (xs := ([] : List (S53))) (inner := []) (ok := fun _ => True) (okp := fun _ => True) ?hr ?hp (fun _ hk => hk) trivial (Below.refl _ _) (Nat.le_refl _) (by simp) ?_; (case hd => rfl); (case hg => rfl); (case hr => first | (go_simp; done) | (go_simp; rfl)); (case hp => exact (Reps.none _ _)); intro v530 w7 ho8 hb hg_ hnew_; clear hg_ hnew_; (first | rw [← Ny529.out] at ho8 | (simp only [Int.reduceToNat] at ho8; rw [← Ny529.out] at ho8)); have z_ := p_ (Kd.R_lower ho8 (below_size th_)) <| bw2_ (kb_ a7) (kb_ a8) th_ hb; clear a7 a8 HB; obtain ⟨HO531, a7, a8, HB⟩ := z_; clear hb ho8; obtain ⟨cl, cm⟩ := an2_ az ay; have bj := bb3_ a8.out) | ((with_reducible refine gate_callee (f := 54) rfl ?_); refine goesL_ (some 17) rfl rfl Tryz.func54 (by kernel_rfl) rfl #[.slice au ak.length av] rfl tq_0 ?_; (with_reducible refine (impl_StatesWords.calls k _ _ ak al _ ?side1 ?side2 A4.out).mono ?_); (case side1 => exact tq_8); (case side2 => exact cj.out); rintro e dx ⟨v533, rfl, ho0, hb⟩; refine ⟨_, rfl, ?_⟩; have z_ := p_ (Kd.R_below (raR_ HO531) hb) <| p_ (Kd.R_lower ho0 (below_size th_)) <| bw2_ (kb_ a7) (kb_ a8) th_ hb; clear HO531 a7 a8 HB; obtain ⟨HO531, HO534, a7, a8, HB⟩ := z_; (try clear hb); (try clear hk); (try clear ho0); obtain ⟨Ao12, d2, d3⟩ := Kd.R_slice HO534.out; subst d3))
 go_loopg [7, 19] k (fun kq v7 v19 w' => ∃ (bf : List (S53)) (ac : Int), v19 = .int .i64 ac ∧ Aside0 (impl_partWrites.l0 kq a1 bf al (al.length : Int) ac ag ah ai aj ap ak a6 = some r) ∧ Aside0 (kq ≤ k) ∧ Aside0 (Kd.R k53 53 w' w.heap.size (fun _ => True) v7 bf) ∧ Aside0 (Kd.R Kd.string 9 w' w.heap.size (fun _ => True) (.slice Ao12 al.length d2) al) ∧ Aside0 (w'.heap[aw]? = some (.cells #[.int .i64 ag, .int .i64 ah, .int .i64 ai, .int .i64 aj] 31 (0, 0))) ∧ Aside0 (w'.heap[ax]? = some (.cells #[.int .i64 ap, (.slice au ak.length av), (.slice be a6.length b0)] 35 (0, 0))) ∧ Aside0 (Below w.heap.size w w'))
 case atStart => exact ⟨(ck), (0), tq_3, H', ⟨Nat.le_refl _⟩, ⟨(raR_ HO531)⟩, ⟨(raR_ HO534)⟩, ⟨(kb_ a7)⟩, ⟨(kb_ a8)⟩, ⟨th_⟩⟩
 case round =>
 clear H'
 try clear c2; try clear p2; try clear c5; try clear c9; try clear bj
 obtain ⟨bf, ac, rfl, HA, HK1, a9, an, a7, a8, HB⟩ := hrel
 cases gk with
 | zero => exact absurd HA.out (by simp [impl_partWrites.l0])
 | succ k1 =>
 have H := HA.out
 clear HA
 simp only [impl_partWrites.l0] at H
 by_cases cd : ac < (al.length : Int)
 ·rw [if_pos cd] at H
  have bl := decide_eq_true cd
  clear cd
  obtain ⟨cy, H⟩ := fc_ H
  have ce := decide_eq_true cy
  clear cy
  obtain ⟨cz, H⟩ := fc_ H
  have cf := decide_eq_true cz
  clear cz
  obtain ⟨bm, dq, H⟩ := bd_ H
  obtain ⟨d0, H⟩ := fc_ H
  have LMc17 := Aside0.mk d0
  clear d0
  obtain ⟨cn, hy537⟩ : ∃ y_ : List (S53), y_ = (bf ++ [(⟨wrap64 (bm + ac), rdOf ByteArray.empty al ac⟩ : S53)]) := ⟨_, rfl⟩
  replace H : (impl_partWrites.l0 k1 a1 cn al (al.length : Int) (wrap64 (ac + 1)) ag ah ai aj ap ak a6) = some r := by first | (rw [hy537]; with_reducible exact H) | (have H2_ := (Option.bind_some _ _).symm.trans H; rw [hy537]; with_reducible exact H2_) | (have H2_ := (Option.bind_some _ _).symm.trans H; with_reducible exact H2_) | with_reducible exact H | (rw [hy537]; exact H) | exact H
  have Ny537 := Aside0.mk hy537
  clear hy537
  have H' := Aside0.mk H
  clear H
  have p535 : 0 ≤ (ac : Int) := of_decide_eq_true tq_2
  have q535 : ac < (al.length : Int) := of_decide_eq_true tq_2
  obtain ⟨dg, d4, b9⟩ := Kd.at_string (Kd.R_reads' an.out).2.2 ac p535 q535
  cases d4
  replace p535 := eq_true p535
  replace q535 := eq_true q535
  obtain ⟨hnb18, hnc18⟩ := an2_ ay az
  have bq := bb4_ a7.out
  go_wp2_with (first | ((with_reducible refine gate_callee (f := 55) rfl ?_); refine goesL_ (some 27) rfl rfl Tryz.func55 (by kernel_rfl) rfl #[.agg #[.int .i64 ag, .int .i64 ah, .int .i64 ai, .int .i64 aj], .int .i64 a1] rfl tq_0 ?_; (with_reducible refine (impl_statesAt.calls ag ah ai aj a1 bm _ dq.out).mono ?_); rintro e dy ⟨rfl, hb⟩; refine ⟨_, rfl, ?_⟩; have z_ := p_ (Kd.R_below (raR_ a9) hb) <| p_ (Kd.R_below (raR_ an) hb) <| bw2_ (kb_ a7) (kb_ a8) th_ hb; clear a9 an a7 a8 HB; obtain ⟨a9, an, a7, a8, HB⟩ := z_; (try clear hb)) | ((with_reducible refine gate_builtin (b := .append) (xs := #[.tmp 24, .tmp 32]) rfl ?_); at_builtin; refine Kd.R_append k53 (w0 := w) w.heap.size rfl (.tmp 24) (.tmp 32) 29 53 (.agg #[(.int .i64 0), (.string ⟨#[]⟩)]) 24 rfl Tryz.underlying29 info53 rfl (by decide) (by omega) u7 bf (⟨wrap64 (bm + ac), rdOf ByteArray.empty al ac⟩ : S53) [.int .i64 (wrap64 (bm + ac)), .string (rdOf ByteArray.empty al ac)] (fun _ => True) (fun _ => False) rfl rfl ?aP (fun _ hk => hk.elim) ?aF ?aO ?aB ?aS ?aL ?_; (case aP => exact k53_mkM _ _ _ (⟨wrap64 (bm + ac), rdOf ByteArray.empty al ac⟩ : S53)); (case aB => exact th_); (case aF => exact (fun _ _ => trivial)); (case aO => exact (raR_ a9)); (case aS => exact (below_size th_)); (case aL => have := LMc17.out; omega); intro v538 dz ho hb hg hat; rw [← Ny537.out] at ho; have z_ := p_ (Kd.R_over' (raR_ an) (Kd.R_typed (raR_ a9)) (by decide) hg) <| p_ (blk_grown (g := aw) (o := .cells #[.int .i64 ag, .int .i64 ah, .int .i64 ai, .int .i64 aj] 31 (0, 0)) (kb_ a7) hg (Kd.R_ne a9.out a7.out (by decide))) <| p_ (blk_grown (g := ax) (o := .cells #[.int .i64 ap, .slice au ak.length av, .slice be a6.length b0] 35 (0, 0)) (kb_ a8) hg (Kd.R_ne a9.out a8.out (by decide))) <| p_ (hb) <| a_ (ho); clear an a7 a8 HB a9; obtain ⟨an, a7, a8, HB, HO539⟩ := z_; clear ho hb hg hat))
  go_roundg k1
  case measure => have := HK1.out; omega
  case rel => exact ⟨(cn), (wrap64 (ac + 1)), tq_3, H', ⟨tq_15⟩, ⟨(raR_ HO539)⟩, ⟨(raR_ an)⟩, ⟨(kb_ a7)⟩, ⟨(kb_ a8)⟩, ⟨th_⟩⟩
 rw [if_neg cd] at H
 have bl := decide_eq_false cd
 clear cd
 have H' := Aside0.mk H
 clear H
 have br := bb3_ a8.out
 go_wp2
 go_loopg [7, 38] k1 (fun kq v7 v38 w' => ∃ (bs : List (S53)) (a5 : Int), v38 = .int .i64 a5 ∧ Aside0 (impl_partWrites.l1 kq a1 bs a6 (a6.length : Int) a5 ag ah ai aj = some r) ∧ Aside0 (kq ≤ k1) ∧ Aside0 (Kd.R k53 53 w' w.heap.size (fun _ => True) v7 bs) ∧ Aside0 (w'.heap[aw]? = some (.cells #[.int .i64 ag, .int .i64 ah, .int .i64 ai, .int .i64 aj] 31 (0, 0))) ∧ Aside0 (w'.heap[ax]? = some (.cells #[.int .i64 ap, (.slice au ak.length av), (.slice be a6.length b0)] 35 (0, 0))) ∧ Aside0 (Below w.heap.size w w'))
 case atStart => exact ⟨(bf), (0), tq_3, H', ⟨Nat.le_refl _⟩, ⟨(raR_ a9)⟩, ⟨(kb_ a7)⟩, ⟨(kb_ a8)⟩, ⟨th_⟩⟩
 case round =>
 clear H'
 try clear c1; try clear c2; try clear p2; try clear c5; try clear p5; try clear q5; try clear hx5; try clear p6; try clear c9; try clear cd; try clear bl; try clear cy; try clear ce; try clear cz; try clear cf; try clear d0; try clear dr; try clear dt; try clear bj; try clear bq; try clear br; try clear bj; try clear bq; try clear br; try clear b9; try clear p2; try clear p535; try clear q535
 obtain ⟨bs, a5, rfl, HA, HK2, a9, a7, a8, HB⟩ := hrel
 cases gk with
 | zero => exact absurd HA.out (by simp [impl_partWrites.l1])
 | succ k2 =>
 have H := HA.out
 clear HA
 simp only [impl_partWrites.l1] at H
 by_cases ch : a5 < (a6.length : Int)
 rotate_left
 ·rw [if_neg ch] at H
  have cg := decide_eq_false ch
  clear ch
  obtain rfl := Option.some.inj H
  go_wp2
  go_ret
  exact ⟨_, tq_1, (raR_ a9), th_⟩
 rw [if_pos ch] at H
 have cg := decide_eq_true ch
 clear ch
 obtain ⟨d5, H⟩ := fc_ H
 have co := decide_eq_true d5
 clear d5
 obtain ⟨d6, H⟩ := fc_ H
 have cp := decide_eq_true d6
 clear d6
 obtain ⟨am, du, H⟩ := bd_ H
 have H' := Aside0.mk H
 clear H
 have p540 : 0 ≤ (a5 : Int) := of_decide_eq_true tq_2
 have q540 : a5 < (a6.length : Int) := of_decide_eq_true tq_2
 obtain ⟨bn, aq, ar, b1, b2, d7, b3, b4, b5, b6, b7, b8, ba, bb, bc, bd⟩ := at_T69 HR2_2.out a5 p540 q540
 cases d7
 replace b3 := hx_ HB.out b3
 replace b4 := hx_ HB.out b4
 replace b5 := hx_ HB.out b5
 replace b6 := hx_ HB.out b6
 replace b7 := hx_ HB.out b7
 replace b8 := hx_ HB.out b8
 have bu := Aside0.mk bb
 have bv := Aside0.mk ba
 clear bb ba
 have bw := Aside0.mk bd
 have bx := Aside0.mk bc
 clear bd bc
 replace p540 := eq_true p540
 replace q540 := eq_true q540
 go_wp2_with (first | ((with_reducible refine gate_dst (N := 11) rfl ?_); refine be_ 11 (cs := #[.int .i64 0, .int .i64 0, .int .i64 0, .string (⟨#[]⟩ : ByteArray), .slice none 0 0, .slice none 0 0]) 69 ?_; intro bo hg e0 hbox hb; have z_ := p_ (Kd.R_below (raR_ a9) hb) <| bx2_ (kb_ a7) (kb_ a8) th_ hb hbox hg; clear a9 a7 a8 HB; obtain ⟨a9, a7, a8, HB, af, dh, di, aa, bg, ab, bh⟩ := z_; clear hb hbox hg; obtain ⟨cq, cr, ct, cu⟩ := an4_ bg aa bh ab; have cv := bb6_ af.out) | ((with_reducible refine gate_callee (f := 56) rfl ?_); refine goesL_ (some 44) rfl rfl Tryz.func56 (by kernel_rfl) rfl #[.agg #[.int .i64 ((rd_T69 a6 a5).f0), .int .i64 ((rd_T69 a6 a5).f1), .int .i64 ((rd_T69 a6 a5).f2), .string ((rd_T69 a6 a5).f3), .slice aq ((rd_T69 a6 a5).f4).length ar, .slice b1 ((rd_T69 a6 a5).f5).length b2]] rfl tq_0 ?_; (with_reducible refine (impl_inodeText.calls k2 ((rd_T69 a6 a5).f0) ((rd_T69 a6 a5).f1) ((rd_T69 a6 a5).f2) ((rd_T69 a6 a5).f3) _ _ ((rd_T69 a6 a5).f4) _ _ ((rd_T69 a6 a5).f5) am _ ?side1 ?side2 ?side3 ?side4 du.out).mono ?_); (case side1 => exact Kd.C_below bu.out th_); (case side2 => exact bv.out); (case side3 => exact Kd.C_below bw.out th_); (case side4 => exact bx.out); rintro e e1 ⟨v543, rfl, ho0, hb⟩; refine ⟨_, rfl, ?_⟩; have z_ := p_ (Kd.R_below (by (with_reducible repeat (first | apply Kd.R_alloc | apply Kd.R_drewN | apply Kd.R_drew)); exact (Kd.R_mono (rR_ (rR_ (rR_ (rR_ (rR_ (rR_ (Kd.R_types a9.out af.out (by decide)))))))) (fun _ h_ => h_.1))) hb) <| p_ (Kd.R_lower ho0 (below_size th_)) <| p_ (blk_below (g := aw) (o := .cells #[.int .i64 ag, .int .i64 ah, .int .i64 ai, .int .i64 aj] 31 (0, 0)) (by (with_reducible repeat (first | refine blk_drewN ?_ _ | refine blk_drew ?_ | refine blk_alloc ?_ _)); refine blk_far ?_ aa.out _; (with_reducible repeat (first | refine blk_drewN ?_ _ | refine blk_drew ?_ | refine blk_alloc ?_ _)); refine blk_far ?_ aa.out _; (with_reducible repeat (first | refine blk_drewN ?_ _ | refine blk_drew ?_ | refine blk_alloc ?_ _)); refine blk_far ?_ aa.out _; (with_reducible repeat (first | refine blk_drewN ?_ _ | refine blk_drew ?_ | refine blk_alloc ?_ _)); refine blk_far ?_ aa.out _; (with_reducible repeat (first | refine blk_drewN ?_ _ | refine blk_drew ?_ | refine blk_alloc ?_ _)); refine blk_far ?_ aa.out _; (with_reducible repeat (first | refine blk_drewN ?_ _ | refine blk_drew ?_ | refine blk_alloc ?_ _)); refine blk_far ?_ aa.out _; (with_reducible repeat (first | refine blk_drewN ?_ _ | refine blk_drew ?_ | refine blk_alloc ?_ _)); exact a7.out) hb) <| p_ (blk_below (g := ax) (o := .cells #[.int .i64 ap, .slice au ak.length av, .slice (some bn) a6.length b0] 35 (0, 0)) (by (with_reducible repeat (first | refine blk_drewN ?_ _ | refine blk_drew ?_ | refine blk_alloc ?_ _)); refine blk_far ?_ ab.out _; (with_reducible repeat (first | refine blk_drewN ?_ _ | refine blk_drew ?_ | refine blk_alloc ?_ _)); refine blk_far ?_ ab.out _; (with_reducible repeat (first | refine blk_drewN ?_ _ | refine blk_drew ?_ | refine blk_alloc ?_ _)); refine blk_far ?_ ab.out _; (with_reducible repeat (first | refine blk_drewN ?_ _ | refine blk_drew ?_ | refine blk_alloc ?_ _)); refine blk_far ?_ ab.out _; (with_reducible repeat (first | refine blk_drewN ?_ _ | refine blk_drew ?_ | refine blk_alloc ?_ _)); refine blk_far ?_ ab.out _; (with_reducible repeat (first | refine blk_drewN ?_ _ | refine blk_drew ?_ | refine blk_alloc ?_ _)); refine blk_far ?_ ab.out _; (with_reducible repeat (first | refine blk_drewN ?_ _ | refine blk_drew ?_ | refine blk_alloc ?_ _)); exact a8.out) hb) <| p_ (blk_below (g := bo) (o := .cells #[.int .i64 ((rd_T69 a6 a5).f0), .int .i64 ((rd_T69 a6 a5).f1), .int .i64 ((rd_T69 a6 a5).f2), .string ((rd_T69 a6 a5).f3), .slice aq ((rd_T69 a6 a5).f4).length ar, .slice b1 ((rd_T69 a6 a5).f5).length b2] 69 (0, 0)) (by (with_reducible repeat (first | refine blk_drewN ?_ _ | refine blk_drew ?_ | refine blk_alloc ?_ _)); refine blk_put (cs := #[.int .i64 ((rd_T69 a6 a5).f0), .int .i64 ((rd_T69 a6 a5).f1), .int .i64 ((rd_T69 a6 a5).f2), .string ((rd_T69 a6 a5).f3), .slice aq ((rd_T69 a6 a5).f4).length ar, .slice none 0 0]) ?_ 5 _ rfl; (with_reducible repeat (first | refine blk_drewN ?_ _ | refine blk_drew ?_ | refine blk_alloc ?_ _)); refine blk_put (cs := #[.int .i64 ((rd_T69 a6 a5).f0), .int .i64 ((rd_T69 a6 a5).f1), .int .i64 ((rd_T69 a6 a5).f2), .string ((rd_T69 a6 a5).f3), .slice none 0 0, .slice none 0 0]) ?_ 4 _ rfl; (with_reducible repeat (first | refine blk_drewN ?_ _ | refine blk_drew ?_ | refine blk_alloc ?_ _)); refine blk_put (cs := #[.int .i64 ((rd_T69 a6 a5).f0), .int .i64 ((rd_T69 a6 a5).f1), .int .i64 ((rd_T69 a6 a5).f2), .string (⟨#[]⟩ : ByteArray), .slice none 0 0, .slice none 0 0]) ?_ 3 _ rfl; (with_reducible repeat (first | refine blk_drewN ?_ _ | refine blk_drew ?_ | refine blk_alloc ?_ _)); refine blk_put (cs := #[.int .i64 ((rd_T69 a6 a5).f0), .int .i64 ((rd_T69 a6 a5).f1), .int .i64 0, .string (⟨#[]⟩ : ByteArray), .slice none 0 0, .slice none 0 0]) ?_ 2 _ rfl; (with_reducible repeat (first | refine blk_drewN ?_ _ | refine blk_drew ?_ | refine blk_alloc ?_ _)); refine blk_put (cs := #[.int .i64 ((rd_T69 a6 a5).f0), .int .i64 0, .int .i64 0, .string (⟨#[]⟩ : ByteArray), .slice none 0 0, .slice none 0 0]) ?_ 1 _ rfl; (with_reducible repeat (first | refine blk_drewN ?_ _ | refine blk_drew ?_ | refine blk_alloc ?_ _)); refine blk_put (cs := #[.int .i64 0, .int .i64 0, .int .i64 0, .string (⟨#[]⟩ : ByteArray), .slice none 0 0, .slice none 0 0]) ?_ 0 _ rfl; (with_reducible repeat (first | refine blk_drewN ?_ _ | refine blk_drew ?_ | refine blk_alloc ?_ _)); exact af.out) hb) <| a_ (below_step th_ hb); clear a9 a7 a8 af HB; obtain ⟨a9, HO544, a7, a8, af, HB⟩ := z_; (try clear hb); obtain ⟨Ao33, d8, d9⟩ := Kd.R_slice HO544.out; subst d9))
 go_loopg [7, 46] k2 (fun kq v7 v46 w' => ∃ (bi : List (S53)) (ae : Int), v46 = .int .i64 ae ∧ Aside0 (impl_partWrites.l2 kq a1 bi a5 a6 (a6.length : Int) a5 am (am.length : Int) ae ag ah ai aj = some r) ∧ Aside0 (kq ≤ k2) ∧ Aside0 (Kd.R k53 53 w' w.heap.size (fun _ => True) v7 bi) ∧ Aside0 (Kd.R Kd.string 9 w' w.heap.size (fun _ => True) (.slice Ao33 am.length d8) am) ∧ Aside0 (w'.heap[aw]? = some (.cells #[.int .i64 ag, .int .i64 ah, .int .i64 ai, .int .i64 aj] 31 (0, 0))) ∧ Aside0 (w'.heap[ax]? = some (.cells #[.int .i64 ap, (.slice au ak.length av), (.slice (some bn) a6.length b0)] 35 (0, 0))) ∧ Aside0 (w'.heap[bo]? = some (.cells #[.int .i64 ((rd_T69 a6 a5).f0), .int .i64 ((rd_T69 a6 a5).f1), .int .i64 ((rd_T69 a6 a5).f2), .string ((rd_T69 a6 a5).f3), (.slice aq ((rd_T69 a6 a5).f4).length ar), (.slice b1 ((rd_T69 a6 a5).f5).length b2)] 69 (0, 0))) ∧ Aside0 (Below w.heap.size w w'))
 case atStart => exact ⟨(bs), (0), tq_3, H', ⟨Nat.le_refl _⟩, ⟨(raR_ a9)⟩, ⟨(raR_ HO544)⟩, ⟨(kb_ a7)⟩, ⟨(kb_ a8)⟩, ⟨(kb_ af)⟩, ⟨th_⟩⟩
 case round =>
 clear H'
 try clear c1; try clear c2; try clear p2; try clear c3; try clear c5; try clear p5; try clear q5; try clear hx5; try clear p6; try clear c9; try clear cd; try clear bl; try clear cy; try clear ce; try clear cz; try clear cf; try clear d0; try clear dr; try clear dt; try clear ch; try clear cg; try clear d5; try clear co; try clear d6; try clear cp; try clear e2; try clear e3; try clear bj; try clear bq; try clear br; try clear cv; try clear bj; try clear bq; try clear br; try clear cv; try clear b9; try clear b3; try clear b4; try clear b5; try clear b6; try clear b7; try clear b8; try clear p2; try clear p5; try clear p535; try clear p540; try clear p6; try clear q5; try clear q535; try clear q540
 obtain ⟨bi, ae, rfl, HA, HK3, a9, ao, a7, a8, af, HB⟩ := hrel
 cases gk with
 | zero => exact absurd HA.out (by simp [impl_partWrites.l2])
 | succ k3 =>
 have H := HA.out
 clear HA
 simp only [impl_partWrites.l2] at H
 by_cases ci : ae < (am.length : Int)
 rotate_left
 ·rw [if_neg ci] at H
  have cw := decide_eq_false ci
  clear ci
  have H' := Aside0.mk H
  clear H
  go_wp2
  go_roundg k3
  case measure => have := HK1.out; have := HK2.out; have := HK3.out; omega
  case rel => exact ⟨(bi), (wrap64 (a5 + 1)), tq_3, H', ⟨tq_29⟩, ⟨(raR_ a9)⟩, ⟨(kb_ a7)⟩, ⟨(kb_ a8)⟩, ⟨th_⟩⟩
 rw [if_pos ci] at H
 have cw := decide_eq_true ci
 clear ci
 obtain ⟨dj, H⟩ := fc_ H
 have dk := decide_eq_true dj
 clear dj
 obtain ⟨dl, H⟩ := fc_ H
 have dm := decide_eq_true dl
 clear dl
 obtain ⟨bp, dv, H⟩ := bd_ H
 obtain ⟨dn, H⟩ := fc_ H
 have LMc38 := Aside0.mk dn
 clear dn
 obtain ⟨cx, hy547⟩ : ∃ y_ : List (S53), y_ = (bi ++ [(⟨wrap64 (bp + ae), rdOf ByteArray.empty am ae⟩ : S53)]) := ⟨_, rfl⟩
 replace H : (impl_partWrites.l2 k3 a1 cx a5 a6 (a6.length : Int) a5 am (am.length : Int) (wrap64 (ae + 1)) ag ah ai aj) = some r := by first | (rw [hy547]; with_reducible exact H) | (have H2_ := (Option.bind_some _ _).symm.trans H; rw [hy547]; with_reducible exact H2_) | (have H2_ := (Option.bind_some _ _).symm.trans H; with_reducible exact H2_) | with_reducible exact H | (rw [hy547]; exact H) | exact H
 have Ny547 := Aside0.mk hy547
 clear hy547
 have H' := Aside0.mk H
 clear H
 have p545 : 0 ≤ (ae : Int) := of_decide_eq_true tq_2
 have q545 : ae < (am.length : Int) := of_decide_eq_true tq_2
 obtain ⟨dp, da, d1⟩ := Kd.at_string (Kd.R_reads' ao.out).2.2 ae p545 q545
 cases da
 replace p545 := eq_true p545
 replace q545 := eq_true q545
 have dw := bb4_ a7.out
 go_wp2_with (first | ((with_reducible refine gate_callee (f := 57) rfl ?_); refine goesL_ (some 55) rfl rfl Tryz.func57 (by kernel_rfl) rfl #[.agg #[.int .i64 ag, .int .i64 ah, .int .i64 ai, .int .i64 aj], .int .i64 a1, .int .i64 a5] rfl tq_0 ?_; (with_reducible refine (impl_InodeAt.calls ag ah ai aj a1 a5 bp _ dv.out).mono ?_); rintro e e4 ⟨rfl, hb⟩; refine ⟨_, rfl, ?_⟩; have z_ := p_ (Kd.R_below (raR_ a9) hb) <| p_ (Kd.R_below (raR_ ao) hb) <| bw3_ (kb_ a7) (kb_ a8) (kb_ af) th_ hb; clear a9 ao a7 a8 af HB; obtain ⟨a9, ao, a7, a8, af, HB⟩ := z_; (try clear hb)) | ((with_reducible refine gate_builtin (b := .append) (xs := #[.tmp 51, .tmp 60]) rfl ?_); at_builtin; refine Kd.R_append k53 (w0 := w) w.heap.size rfl (.tmp 51) (.tmp 60) 29 53 (.agg #[(.int .i64 0), (.string ⟨#[]⟩)]) 24 rfl Tryz.underlying29 info53 rfl (by decide) (by omega) u7 bi (⟨wrap64 (bp + ae), rdOf ByteArray.empty am ae⟩ : S53) [.int .i64 (wrap64 (bp + ae)), .string (rdOf ByteArray.empty am ae)] (fun _ => True) (fun _ => False) rfl rfl ?aP (fun _ hk => hk.elim) ?aF ?aO ?aB ?aS ?aL ?_; (case aP => exact k53_mkM _ _ _ (⟨wrap64 (bp + ae), rdOf ByteArray.empty am ae⟩ : S53)); (case aB => exact th_); (case aF => exact (fun _ _ => trivial)); (case aO => exact (raR_ a9)); (case aS => exact (below_size th_)); (case aL => have := LMc38.out; omega); intro v548 e5 ho hb hg hat; rw [← Ny547.out] at ho; have z_ := p_ (Kd.R_over' (raR_ ao) (Kd.R_typed (raR_ a9)) (by decide) hg) <| p_ (blk_grown (g := aw) (o := .cells #[.int .i64 ag, .int .i64 ah, .int .i64 ai, .int .i64 aj] 31 (0, 0)) (kb_ a7) hg (Kd.R_ne a9.out a7.out (by decide))) <| p_ (blk_grown (g := ax) (o := .cells #[.int .i64 ap, .slice au ak.length av, .slice (some bn) a6.length b0] 35 (0, 0)) (kb_ a8) hg (Kd.R_ne a9.out a8.out (by decide))) <| p_ (blk_grown (g := bo) (o := .cells #[.int .i64 ((rd_T69 a6 a5).f0), .int .i64 ((rd_T69 a6 a5).f1), .int .i64 ((rd_T69 a6 a5).f2), .string ((rd_T69 a6 a5).f3), .slice aq ((rd_T69 a6 a5).f4).length ar, .slice b1 ((rd_T69 a6 a5).f5).length b2] 69 (0, 0)) (kb_ af) hg (Kd.R_ne a9.out af.out (by decide))) <| p_ (hb) <| a_ (ho); clear ao a7 a8 af HB a9; obtain ⟨ao, a7, a8, af, HB, HO549⟩ := z_; clear ho hb hg hat))
 go_roundg k3
 case measure => have := HK1.out; have := HK2.out; have := HK3.out; omega
 case rel => exact ⟨(cx), (wrap64 (ae + 1)), tq_3, H', ⟨tq_29⟩, ⟨(raR_ HO549)⟩, ⟨(raR_ ao)⟩, ⟨(kb_ a7)⟩, ⟨(kb_ a8)⟩, ⟨(kb_ af)⟩, ⟨th_⟩⟩

/-! ### impl_PartWrites: function 9 -/
def impl_PartWrites.f (k : Nat) (a0_0 : Int) (a0_1 : Int) (a0_2 : Int) (a0_3 : Int) (a1 : Int) (a2_0 : Int) (l2_1 : List Int) (l2_2 : List (S69)) : Option ((List (S53))) := (impl_PartOk.f k a0_0 a0_1 a0_2 a0_3 a2_0 l2_1 l2_2).bind fun t552 => (if t552 = true then ((impl_isTenant.f a0_0 a0_1 a0_2 a0_3 a1).bind fun t553 => (if t553 = true then ((impl_partWrites.f k a0_0 a0_1 a0_2 a0_3 a1 a2_0 l2_1 l2_2).bind fun t554 => (some t554)) else (some ([] : List (S53))))) else (some ([] : List (S53))))
set_option maxHeartbeats 8000000 in
set_option maxRecDepth 100000 in
theorem impl_PartWrites.calls (k : Nat) (ab : Int) (ac : Int) (ae : Int) (af : Int) (a1 : Int) (ag : Int) (aj : Option Addr) (ak : Nat) (a9 : List Int) (al : Option Addr) (am : Nat) (aa : List (S69)) (r : List (S53)) (w : World) (ap : Kd.C (Kd.int .i64) w aj a9.length a9) (aq : a9.length ≤ ak) (ar : Kd.C k69 w al aa.length aa) (au : aa.length ≤ am) (h : impl_PartWrites.f k ab ac ae af a1 ag a9 aa = some r) :
  Calls Tryz.prog 9 #[.agg #[.int .i64 ab, .int .i64 ac, .int .i64 ae, .int .i64 af], .int .i64 a1, .agg #[.int .i64 ag, .slice aj a9.length ak, .slice al aa.length am]] w fun e w' => ∃ v0_ : Value, e = .returned (v0_) ∧ Kd.R k53 53 w' w.heap.size (fun _ => True) v0_ r ∧ Below w.heap.size w w' := by
 have hu31 := Tryz.underlying31
 have hu35 := Tryz.underlying35
 have HR2_1 := Aside0.mk ap
 have an := Aside0.mk aq
 clear ap aq
 have HR2_2 := Aside0.mk ar
 have ao := Aside0.mk au
 clear ar au
 have HB := Aside0.mk (Below.refl w.heap.size w)
 unfold impl_PartWrites.f at h
 have H := h
 clear h
 obtain ⟨b6, A4, H⟩ := bd_ H
 by_cases c5 : b6 = true
 rotate_left
 ·replace c5 := Bool.eq_false_iff.mpr c5
  subst c5
  rw [if_neg nf_] at H
  obtain rfl := Option.some.inj H
  go_enter Tryz.func9, Tryz.ntmps9
  go_wp2_with (first | ((with_reducible refine gate_dst (N := 3) rfl ?_); refine be_ 3 (cs := #[.int .i64 ab, .int .i64 ac, .int .i64 ae, .int .i64 af]) 31 ?_; intro av hg be hbox hb; have z_ := bx0_ th_ hb hbox hg; clear HB; obtain ⟨HB, a5, aw, ax⟩ := z_; clear hb hbox hg) | ((with_reducible refine gate_dst (N := 5) rfl ?_); refine be_ 5 (cs := #[.int .i64 ag, .slice aj a9.length ak, .slice al aa.length am]) 35 ?_; intro ay hg bf hbox hb; have z_ := bx1_ (kb_ a5) th_ hb hbox hg; clear a5 HB; obtain ⟨a5, HB, a6, az, b0, a7, a8⟩ := z_; clear hb hbox hg; obtain ⟨ah, ai⟩ := an2_ a7 a8; have b9 := bb4_ a5.out; have ba := bb3_ a6.out) | ((with_reducible refine gate_callee (f := 24) rfl ?_); refine goesL_ (some 9) rfl rfl Tryz.func24 (by kernel_rfl) rfl #[.agg #[.int .i64 ab, .int .i64 ac, .int .i64 ae, .int .i64 af], .agg #[.int .i64 ag, .slice aj a9.length ak, .slice al aa.length am]] rfl tq_0 ?_; (with_reducible refine (impl_PartOk.calls k ab ac ae af ag _ _ a9 _ _ aa false _ ?side1 ?side2 ?side3 ?side4 A4.out).mono ?_); (case side1 => exact tq_8); (case side2 => exact an.out); (case side3 => exact tq_9); (case side4 => exact ao.out); rintro e bg ⟨rfl, hb⟩; refine ⟨_, rfl, ?_⟩; have z_ := bw2_ (kb_ a5) (kb_ a6) th_ hb; clear a5 a6 HB; obtain ⟨a5, a6, HB⟩ := z_; (try clear hb)))
  go_ret
  exact ⟨_, tq_1, tq_17, th_⟩
 subst c5
 rw [if_pos rfl] at H
 obtain ⟨b1, A6, H⟩ := bd_ H
 have b8 := Aside0.mk H
 clear H
 go_enter Tryz.func9, Tryz.ntmps9
 go_upto_if 16 with (first | ((with_reducible refine gate_dst (N := 3) rfl ?_); refine be_ 3 (cs := #[.int .i64 ab, .int .i64 ac, .int .i64 ae, .int .i64 af]) 31 ?_; intro av hg w8 hbox hb; have z_ := bx0_ th_ hb hbox hg; clear HB; obtain ⟨HB, a5, aw, ax⟩ := z_; clear hb hbox hg) | ((with_reducible refine gate_dst (N := 5) rfl ?_); refine be_ 5 (cs := #[.int .i64 ag, .slice aj a9.length ak, .slice al aa.length am]) 35 ?_; intro ay hg w9 hbox hb; have z_ := bx1_ (kb_ a5) th_ hb hbox hg; clear a5 HB; obtain ⟨a5, HB, a6, az, b0, a7, a8⟩ := z_; clear hb hbox hg; obtain ⟨ah, ai⟩ := an2_ a7 a8; have b2 := bb4_ a5.out; have b3 := bb3_ a6.out) | ((with_reducible refine gate_callee (f := 24) rfl ?_); refine goesL_ (some 9) rfl rfl Tryz.func24 (by kernel_rfl) rfl #[.agg #[.int .i64 ab, .int .i64 ac, .int .i64 ae, .int .i64 af], .agg #[.int .i64 ag, .slice aj a9.length ak, .slice al aa.length am]] rfl tq_0 ?_; (with_reducible refine (impl_PartOk.calls k ab ac ae af ag _ _ a9 _ _ aa true _ ?side1 ?side2 ?side3 ?side4 A4.out).mono ?_); (case side1 => exact tq_8); (case side2 => exact an.out); (case side3 => exact tq_9); (case side4 => exact ao.out); rintro e bh ⟨rfl, hb⟩; refine ⟨_, rfl, ?_⟩; have z_ := bw2_ (kb_ a5) (kb_ a6) th_ hb; clear a5 a6 HB; obtain ⟨a5, a6, HB⟩ := z_; (try clear hb); have b4 := bb4_ a5.out) | (go_at_call 25; (with_reducible refine (impl_isTenant.calls ab ac ae af a1 b1 _ A6.out).mono ?_); rintro e bi ⟨rfl, hb⟩; have z_ := bw2_ (kb_ a5) (kb_ a6) th_ hb; clear a5 a6 HB; obtain ⟨a5, a6, HB⟩ := z_; (try clear hb)))
 (try simp only [Act.put, List.setIfInBounds_toArray, List.set_cons_zero, List.set_cons_succ])
 (try clear ah ai)
 (try clear b2)
 (try clear b3)
 (try clear b4)
 (try clear b2)
 (try clear b3)
 (try clear b4)
 have H := b8.out
 clear b8
 by_cases b5 : b1 = true
 rotate_left
 ·replace b5 := Bool.eq_false_iff.mpr b5
  subst b5
  rw [if_neg nf_] at H
  obtain rfl := Option.some.inj H
  go_wp2
  go_ret
  exact ⟨_, tq_1, tq_17, th_⟩
 subst b5
 rw [if_pos rfl] at H
 obtain ⟨b7, bb, H⟩ := bd_ H
 obtain rfl := Option.some.inj H
 obtain ⟨hnb18, hnc18⟩ := an2_ a7 a8
 have bc := bb4_ a5.out
 have bd := bb3_ a6.out
 go_wp2_with (first | ((with_reducible refine gate_callee (f := 26) rfl ?_); refine goesL_ (some 20) rfl rfl Tryz.func26 (by kernel_rfl) rfl #[.agg #[.int .i64 ab, .int .i64 ac, .int .i64 ae, .int .i64 af], .int .i64 a1, .agg #[.int .i64 ag, .slice aj a9.length ak, .slice al aa.length am]] rfl tq_0 ?_; (with_reducible refine (impl_partWrites.calls k ab ac ae af a1 ag _ _ a9 _ _ aa b7 _ ?side1 ?side2 ?side3 ?side4 bb.out).mono ?_); (case side1 => exact tq_8); (case side2 => exact an.out); (case side3 => exact tq_9); (case side4 => exact ao.out); rintro e bj ⟨v555, rfl, ho0, hb⟩; refine ⟨_, rfl, ?_⟩; have z_ := p_ (Kd.R_lower ho0 (below_size th_)) <| bw2_ (kb_ a5) (kb_ a6) th_ hb; clear a5 a6 HB; obtain ⟨HO556, a5, a6, HB⟩ := z_; (try clear hb); (try clear ho0)))
 go_ret
 exact ⟨_, tq_1, (raR_ HO556), th_⟩

/-! ### laws_eqWrite: function 27 -/
def laws_eqWrite.f (a0_0 : Int) (a0_1 : ByteArray) (a1_0 : Int) (a1_1 : ByteArray) : Option (Bool) := if a0_0 = a1_0 then (if a0_1.toList = a1_1.toList then (some true) else (some false)) else (some false)
set_option maxHeartbeats 8000000 in
set_option maxRecDepth 100000 in
theorem laws_eqWrite.calls (ac : Int) (ae : ByteArray) (af : Int) (ag : ByteArray) (r : Bool) (w : World) (h : laws_eqWrite.f ac ae af ag = some r) :
  Calls Tryz.prog 27 #[.agg #[.int .i64 ac, .string ae], .agg #[.int .i64 af, .string ag]] w fun e w' => e = .returned (.bool r) ∧ Below w.heap.size w w' := by
 have hu53 := Tryz.underlying53
 have HB := Aside0.mk (Below.refl w.heap.size w)
 unfold laws_eqWrite.f at h
 have H := h
 clear h
 have ao := Aside0.mk H
 clear H
 go_enter Tryz.func27, Tryz.ntmps27
 go_upto_if 9 with (first | ((with_reducible refine gate_dst (N := 2) rfl ?_); refine be_ 2 (cs := #[.int .i64 ac, .string ae]) 53 ?_; intro ap hg w4 hbox hb; have z_ := bx0_ th_ hb hbox hg; clear HB; obtain ⟨HB, a9, aq, ar⟩ := z_; clear hb hbox hg) | ((with_reducible refine gate_dst (N := 3) rfl ?_); refine be_ 3 (cs := #[.int .i64 af, .string ag]) 53 ?_; intro au hg w5 hbox hb; have z_ := bx1_ (kb_ a9) th_ hb hbox hg; clear a9 HB; obtain ⟨a9, HB, ah, av, aw, a7, a8⟩ := z_; clear hb hbox hg; obtain ⟨a5, a6⟩ := an2_ a7 a8; have ax := bb2_ a9.out; have ay := bb2_ ah.out))
 (try simp only [Act.put, List.setIfInBounds_toArray, List.set_cons_zero, List.set_cons_succ])
 (try clear a5 a6)
 (try clear ax)
 (try clear ay)
 (try clear ax)
 (try clear ay)
 have H := ao.out
 clear ao
 by_cases c9 : ac = af
 rotate_left
 ·rw [if_neg c9] at H
  have ab := beq_eq_false_iff_ne.mpr c9
  have an := bne_iff_ne.mpr c9
  (first | rw [ab] | (simp only [i64_w, i32_w]; rw [ab]) | skip)
  obtain rfl := Option.some.inj H
  go_wp2
  go_ret
  exact ⟨tq_1, th_⟩
 rw [if_pos c9] at H
 have ab := beq_iff_eq.mpr c9
 have an := bne_eq_false_iff_eq.mpr c9
 clear c9
 (first | rw [ab] | (simp only [i64_w, i32_w]; rw [ab]) | skip)
 have aj := Aside0.mk H
 clear H
 obtain ⟨a5, a6⟩ := an2_ a7 a8
 have ak := bb2_ a9.out
 have al := bb2_ ah.out
 go_upto_if 14 with (fail)
 (try clear a5 a6)
 (try clear ak)
 (try clear al)
 (try clear ak)
 (try clear al)
 have H := aj.out
 clear aj
 by_cases ai : ae.toList = ag.toList
 rotate_left
 ·rw [if_neg ai] at H
  have aa := beq_eq_false_iff_ne.mpr ai
  have am := bne_iff_ne.mpr ai
  (first | rw [aa] | (simp only [i64_w, i32_w]; rw [aa]) | skip)
  obtain rfl := Option.some.inj H
  go_wp2
  go_ret
  exact ⟨tq_1, th_⟩
 rw [if_pos ai] at H
 have aa := beq_iff_eq.mpr ai
 have am := bne_eq_false_iff_eq.mpr ai
 clear ai
 (first | rw [aa] | (simp only [i64_w, i32_w]; rw [aa]) | skip)
 obtain rfl := Option.some.inj H
 go_wp2
 go_ret
 exact ⟨tq_1, th_⟩

/-! ### laws_eqWriteS: function 10 -/
def laws_eqWriteS.l0 : Nat → List (S53) → List (S53) → Int → Option (Bool)
 | 0, _, _, _ => none
 | k + 1, x0, x1, x5 => if x5 < (x0.length : Int) then (if 0 ≤ x5 then (if x5 < (x1.length : Int) then ((laws_eqWrite.f ((rd_T53 x0 x5).f0) ((rd_T53 x0 x5).f1) ((rd_T53 x1 x5).f0) ((rd_T53 x1 x5).f1)).bind fun t561 => (if t561 = true then (laws_eqWriteS.l0 k x0 x1 (wrap64 (x5 + 1))) else (some false))) else (none)) else (none)) else (some true)
def laws_eqWriteS.f (k : Nat) (l0 : List (S53)) (l1 : List (S53)) : Option (Bool) := if (l0.length : Int) = (l1.length : Int) then (laws_eqWriteS.l0 k l0 l1 0) else (some false)
def laws_eqWriteS.T6 : Bool × List (List Nat × List Nat) := (true, [([], []), ([], []), ([0, 1], [0, 1]), ([2], [2]), ([], []), ([], []), ([4, 5], [4, 5]), ([6], [6]), ([3, 7], [3, 7]), ([8], [8])])
def laws_eqWriteS.B6 : List Nat := [0, 0, 3, 7, 0, 0, 48, 112, 255, 511]
theorem laws_eqWriteS.tab6 : rtab .any (opsOf Tryz.f10 6) = laws_eqWriteS.T6 := by kernel_rfl
theorem laws_eqWriteS.bits6 : waitsOk laws_eqWriteS.T6.2 laws_eqWriteS.B6 = true := by kernel_rfl
set_option maxHeartbeats 8000000 in
set_option maxRecDepth 100000 in
theorem laws_eqWriteS.calls (k : Nat) (A0 : Option Addr) (c0 : Nat) (l0 : List (S53)) (A1 : Option Addr) (c1 : Nat) (l1 : List (S53)) (r : Bool) (w : World) (hr0 : Kd.C k53 w A0 l0.length l0) (hc0 : l0.length ≤ c0) (hr1 : Kd.C k53 w A1 l1.length l1) (hc1 : l1.length ≤ c1) (h : laws_eqWriteS.f k l0 l1 = some r) :
  Calls Tryz.prog 10 #[.slice A0 l0.length c0, .slice A1 l1.length c1] w fun e w' => e = .returned (.bool r) ∧ Below w.heap.size w w' := by
 have hu53 := Tryz.underlying53
 have HR0 := Aside0.mk hr0
 have ap := Aside0.mk hc0
 clear hr0 hc0
 have am := Aside0.mk hr1
 have aq := Aside0.mk hc1
 clear hr1 hc1
 have HB := Aside0.mk (Below.refl w.heap.size w)
 unfold laws_eqWriteS.f at h
 have H := h
 clear h
 by_cases c3 : (l0.length : Int) = (l1.length : Int)
 rotate_left
 ·rw [if_neg c3] at H
  have ac := beq_eq_false_iff_ne.mpr c3
  have ae := bne_iff_ne.mpr c3
  have af : (l0.length == l1.length) = false := by first | simpa using c3 | (simp at c3 ⊢; omega)
  obtain rfl := Option.some.inj H
  go_enter Tryz.func10, Tryz.ntmps10
  go_wp2
  go_ret
  exact ⟨tq_1, th_⟩
 rw [if_pos c3] at H
 have ac := beq_iff_eq.mpr c3
 have ae := bne_eq_false_iff_eq.mpr c3
 have af : (l0.length == l1.length) = true := by first | simpa using c3 | (simp at c3 ⊢; omega)
 clear c3
 have H' := Aside0.mk H
 clear H
 go_enter Tryz.func10, Tryz.ntmps10
 go_wp2
 go_loopg [5] k (fun kq v5 w' => ∃ (a5 : Int), v5 = .int .i64 a5 ∧ Aside0 (laws_eqWriteS.l0 kq l0 l1 a5 = some r) ∧ Aside0 (kq ≤ k) ∧ Aside0 (Below w.heap.size w w'))
 case atStart => exact ⟨(0), tq_3, H', ⟨Nat.le_refl _⟩, ⟨th_⟩⟩
 case round =>
 clear H'
 try clear c1; try clear p2; try clear c3; try clear ac; try clear ae; try clear af
 obtain ⟨a5, rfl, HA, HK1, HB⟩ := hrel
 cases gk with
 | zero => exact absurd HA.out (by simp [laws_eqWriteS.l0])
 | succ k1 =>
 have H := HA.out
 clear HA
 simp only [laws_eqWriteS.l0] at H
 by_cases c4 : a5 < (l0.length : Int)
 rotate_left
 ·rw [if_neg c4] at H
  have ai := decide_eq_false c4
  clear c4
  obtain rfl := Option.some.inj H
  go_wp2
  go_ret
  exact ⟨tq_1, th_⟩
 rw [if_pos c4] at H
 have ai := decide_eq_true c4
 clear c4
 obtain ⟨c5, H⟩ := fc_ H
 have an := decide_eq_true c5
 clear c5
 obtain ⟨c6, H⟩ := fc_ H
 have ao := decide_eq_true c6
 clear c6
 obtain ⟨ag, A7, H⟩ := bd_ H
 have al := Aside0.mk H
 clear H
 try go_wp2
 have n0_ := Aside0.mk (below_drew1 HB.out)
 clear HB
 have HB := n0_
 clear n0_
 have p559 : 0 ≤ (a5 : Int) := of_decide_eq_true tq_2
 have q559 : a5 < (l0.length : Int) := of_decide_eq_true tq_2
 obtain ⟨aa, aj, a6, a7⟩ := at_T53 HR0.out a5 p559 q559
 have hw559_1 := a7
 have hw559_0 := a6
 cases aj
 replace a6 := hx_ HB.out a6
 replace a7 := hx_ HB.out a7
 replace p559 := eq_true p559
 replace q559 := eq_true q559
 have p560 : 0 ≤ (a5 : Int) := of_decide_eq_true tq_2
 have q560 : a5 < (l1.length : Int) := of_decide_eq_true tq_2
 obtain ⟨ab, ak, a8, a9⟩ := at_T53 am.out a5 p560 q560
 have hw560_1 := a9
 have hw560_0 := a8
 cases ak
 replace a8 := hx_ HB.out a8
 replace a9 := hx_ HB.out a9
 replace p560 := eq_true p560
 replace q560 := eq_true q560
 refine start_ (n := 10) (S := fun w' => w'.cell? (aa.add ((a5).toNat * 2)) = some (.int .i64 ((rd_T53 l0 a5).f0)) ∧ w'.cell? ⟨(aa.add ((a5).toNat * 2)).block, (aa.add ((a5).toNat * 2)).off + 1, none⟩ = some (.string ((rd_T53 l0 a5).f1)) ∧ w'.cell? (ab.add ((a5).toNat * 2)) = some (.int .i64 ((rd_T53 l1 a5).f0)) ∧ w'.cell? ⟨(ab.add ((a5).toNat * 2)).block, (ab.add ((a5).toNat * 2)).off + 1, none⟩ = some (.string ((rd_T53 l1 a5).f1))) (ds := []) bq_29 (by kernel_rfl) rfl rfl ⟨((HB.out.cell (World.block_lt_of_cell? w _ hw559_0)).trans hw559_0), ((HB.out.cell (World.block_lt_of_cell? w _ hw559_1)).trans hw559_1), ((HB.out.cell (World.block_lt_of_cell? w _ hw560_0)).trans hw560_0), ((HB.out.cell (World.block_lt_of_cell? w _ hw560_1)).trans hw560_1)⟩ (fun hHeld => ?_); refine with_tabW laws_eqWriteS.tab6 laws_eqWriteS.bits6 (fun HT_ HW_ => ?_)
 generalize wr.drew = w9 at HB a6 a7 a8 a9 hHeld ⊢
 refine yr_ 0 17 bq_30 HT_ ?_
 refine yr_ 1 18 bq_31 HT_ ?_
 refine yr_ 2 19 bq_32 HT_ ?_
 refine yr_ 4 21 bq_33 HT_ ?_
 refine yr_ 5 22 bq_34 HT_ ?_
 refine yr_ 6 23 bq_35 HT_ ?_
 refine tr_ 3 20 bq_36 HT_ HW_ hHeld ?_
 refine tr_ 7 24 bq_37 HT_ HW_ hHeld ?_
 refine one_ (i := 8) (N := some 25) bq_38 rfl rfl (one_of HT_.out (by kernel_rfl)) (by decide) (fun K hK => ?_)
 refine goes_ Tryz.func27 (by kernel_rfl) rfl #[.agg #[.int .i64 ((rd_T53 l0 a5).f0), .string ((rd_T53 l0 a5).f1)], .agg #[.int .i64 ((rd_T53 l1 a5).f0), .string ((rd_T53 l1 a5).f1)]] (by rfl) rfl rfl tq_0 ?_
 with_reducible refine (laws_eqWrite.calls ((rd_T53 l0 a5).f0) ((rd_T53 l0 a5).f1) ((rd_T53 l1 a5).f0) ((rd_T53 l1 a5).f1) ag _ A7.out).mono ?_
 rintro e ar ⟨rfl, hb⟩
 refine ⟨_, rfl, ?_⟩
 have n0_ := Aside0.mk (below_step th_ hb)
 clear HB
 have HB := n0_
 clear n0_
 (try clear hb)
 refine hK.out _ _ ⟨((HB.out.cell (World.block_lt_of_cell? w _ hw559_0)).trans hw559_0), ((HB.out.cell (World.block_lt_of_cell? w _ hw559_1)).trans hw559_1), ((HB.out.cell (World.block_lt_of_cell? w _ hw560_0)).trans hw560_0), ((HB.out.cell (World.block_lt_of_cell? w _ hw560_1)).trans hw560_1)⟩ (fun hHeld => ?_)
 clear hK K
 refine nm_ (some 25) ?_
 refine yr_ 9 26 bq_39 HT_ ?_
 refine done_ (done_of HT_.out (by kernel_rfl)) ?_
 go_upto_if 26 with (fail)
 (try clear a6 a7)
 (try clear a8 a9)
 have H := al.out
 clear al
 by_cases ah : ag = true
 rotate_left
 ·replace ah := Bool.eq_false_iff.mpr ah
  subst ah
  rw [if_neg nf_] at H
  obtain rfl := Option.some.inj H
  go_wp2
  go_ret
  exact ⟨tq_1, th_⟩
 subst ah
 rw [if_pos rfl] at H
 have H' := Aside0.mk H
 clear H
 go_wp2
 go_roundg k1
 case measure => have := HK1.out; omega
 case rel => exact ⟨(wrap64 (a5 + 1)), tq_3, H', ⟨tq_15⟩, ⟨th_⟩⟩

end Go.Proofs.YtleoknilacjakaaGreat.PFnExactPartWrites
