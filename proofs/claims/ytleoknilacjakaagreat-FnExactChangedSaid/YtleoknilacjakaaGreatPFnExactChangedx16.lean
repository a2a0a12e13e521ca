/- Contracts of Go functions: each call returns what the Lean function beside it computes. Conditions: as each theorem states them. -/
import Derived.Test.YtleoknilacjakaaGreatPkFnExactChanged
import Derived.Test.YtleoknilacjakaaGreatPFnExactChangedx1
import Derived.Test.YtleoknilacjakaaGreatPFnExactChangedx13
import Derived.Test.YtleoknilacjakaaGreatPFnExactChangedx15
namespace Go.Proofs.YtleoknilacjakaaGreat.PFnExactChanged
open Go.RowKit Go.Proofs.YtleoknilacjakaaGreatW.PrintWords Go.Proofs.YtleoknilacjakaaGreatW.PrintLast Go.Proofs.YtleoknilacjakaaGreatW.PrintMore
attribute [local go_sem] max2_int min2_int max_two min_two max_three min_three max_four min_four   -- for this text's walks alone
set_option linter.unusedVariables false
set_option linter.unusedSimpArgs false

/-! ### spec_l14Writes: function 21 -/
mutual
def spec_l14Writes.l0 : Nat → Int → List (S53) → List ByteArray → Int → Int → Int → Int → Int → Int → Int → List Int → List (S69) → Option ((List (S53)))
 | 0, _, _, _, _, _, _, _, _, _, _, _, _ => none
 | k + 1, x1, x7, x8, x9, ac, a5, a6, a7, a8, a9, aa, ab => if ac < (x8.length : Int) then (if 0 ≤ ac then (if x7.length < 5864062014805 then (spec_l14Writes.l0 k x1 (x7 ++ [(⟨wrap64 (x9 + ac), rdOf ByteArray.empty x8 ac⟩ : S53)]) x8 x9 (wrap64 (ac + 1)) a5 a6 a7 a8 a9 aa ab) else (none)) else (none)) else (spec_l14Writes.l1 k x1 x7 0 a5 a6 a7 a8 a9 aa ab)
def spec_l14Writes.l1 : Nat → Int → List (S53) → Int → Int → Int → Int → Int → Int → List Int → List (S69) → Option ((List (S53)))
 | 0, _, _, _, _, _, _, _, _, _, _ => none
 | k + 1, x1, x7, a6, a7, a8, a9, aa, ab, ac, a5 => if a6 < (a5.length : Int) then (if 0 ≤ a6 then ((spec_InodeWords.f k ((rd_T69 a5 a6).f0) ((rd_T69 a5 a6).f1) ((rd_T69 a5 a6).f2) ((rd_T69 a5 a6).f3) ((rd_T69 a5 a6).f4) ((rd_T69 a5 a6).f5)).bind fun ae => (spec_l14Writes.l2 k x1 x7 ae a6 0 a7 a8 a9 aa ab ac a5)) else (none)) else (some x7)
def spec_l14Writes.l2 : Nat → Int → List (S53) → List ByteArray → Int → Int → Int → Int → Int → Int → Int → List Int → List (S69) → Option ((List (S53)))
 | 0, _, _, _, _, _, _, _, _, _, _, _, _ => none
 | k + 1, x1, x7, x8, ae, ac, a5, a6, a7, a8, a9, aa, ab => if ac < (x8.length : Int) then ((spec_InodeAt.f a5 a6 a7 a8 x1 ae).bind fun af => (if 0 ≤ ac then (if x7.length < 5864062014805 then (spec_l14Writes.l2 k x1 (x7 ++ [(⟨wrap64 (af + ac), rdOf ByteArray.empty x8 ac⟩ : S53)]) x8 ae (wrap64 (ac + 1)) a5 a6 a7 a8 a9 aa ab) else (none)) else (none))) else (spec_l14Writes.l1 k x1 x7 (wrap64 (ae + 1)) a5 a6 a7 a8 a9 aa ab)
end
def spec_l14Writes.f (k : Nat) (a5 : Int) (a6 : Int) (a7 : Int) (a8 : Int) (a1 : Int) (aa : Int) (a9 : List Int) (ab : List (S69)) : Option ((List (S53))) := (spec_StatesWords.f k a9).bind fun ac => ((spec_l11At.f a5 a6 a7 a8 a1 36).bind fun ae => (spec_l14Writes.l0 k a1 (([] : List (S53))) ac ae 0 a5 a6 a7 a8 aa a9 ab))
def spec_l14Writes.T15 : Bool × List (List Nat × List Nat) := (true, [([], []), ([], []), ([], []), ([], []), ([1, 2, 3], [1, 2, 3]), ([], []), ([4, 5], [4, 5]), ([], []), ([], []), ([7, 8], [7, 8]), ([9], [9]), ([6, 10], [6, 10]), ([11], [11]), ([0, 12, 4], [0, 12]), ([13, 13, 0, 1, 2, 3, 4, 5, 6, 7, 8, 9, 10, 11, 12, 13], [0, 13])])
def spec_l14Writes.B15 : List Nat := [0, 0, 0, 0, 14, 0, 62, 0, 0, 384, 896, 2046, 4094, 8191, 16383]
theorem spec_l14Writes.tab15 : rtab .any (opsOf Tryz.f21 15) = spec_l14Writes.T15 := by kernel_rfl
theorem spec_l14Writes.bits15 : waitsOk spec_l14Writes.T15.2 spec_l14Writes.B15 = true := by kernel_rfl
set_option maxHeartbeats 8000000 in
set_option maxRecDepth 100000 in
theorem spec_l14Writes.calls (k : Nat) (ac : Int) (ae : Int) (af : Int) (ag : Int) (a1 : Int) (aj : Int) (b1 : Option Addr) (b2 : Nat) (ah : List Int) (bf : Option Addr) (b4 : Nat) (a8 : List (S69)) (r : List (S53)) (w : World) (bp : Kd.C (Kd.int .i64) w b1 ah.length ah) (bq : ah.length ≤ b2) (br : Kd.C k69 w bf a8.length a8) (bs : a8.length ≤ b4) (h : spec_l14Writes.f k ac ae af ag a1 aj ah a8 = some r) :
  Calls Tryz.prog 21 #[.agg #[.int .i64 ac, .int .i64 ae, .int .i64 af, .int .i64 ag], .int .i64 a1, .agg #[.int .i64 aj, .slice b1 ah.length b2, .slice bf a8.length b4]] w fun e w' => ∃ v0_ : Value, e = .returned (v0_) ∧ Kd.R k53 53 w' w.heap.size (fun _ => True) v0_ r ∧ Below w.heap.size w w' := by
 have hu31 := Tryz.underlying31
 have hu35 := Tryz.underlying35
 have hu53 := Tryz.underlying53
 have hu69 := Tryz.underlying69
 have HR2_1 := Aside0.mk bp
 have cg := Aside0.mk bq
 clear bp bq
 have HR2_2 := Aside0.mk br
 have cy := Aside0.mk bs
 clear br bs
 have HB := Aside0.mk (Below.refl w.heap.size w)
 unfold spec_l14Writes.f at h
 have H := h
 clear h
 obtain ⟨ch, hy382⟩ : ∃ y_ : List (S53), y_ = (([] : List (S53))) := ⟨_, rfl⟩
 replace H : ((spec_StatesWords.f k ah).bind fun an => ((spec_l11At.f ac ae af ag a1 36).bind fun b3 => (spec_l14Writes.l0 k a1 ch an b3 0 ac ae af ag aj ah a8))) = some r := by first | (rw [hy382]; with_reducible exact H) | (have H2_ := (Option.bind_some _ _).symm.trans H; rw [hy382]; with_reducible exact H2_) | (have H2_ := (Option.bind_some _ _).symm.trans H; with_reducible exact H2_) | with_reducible exact H | (rw [hy382]; exact H) | exact H
 have Ny382 := Aside0.mk hy382
 clear hy382
 obtain ⟨an, A4, H⟩ := bd_ H
 obtain ⟨b3, A5, H⟩ := bd_ H
 have H' := Aside0.mk H
 clear H
 go_enter Tryz.func21, Tryz.ntmps21
 go_wp2_with (first | ((with_reducible refine gate_dst (N := 3) rfl ?_); refine be_ 3 (cs := #[.int .i64 ac, .int .i64 ae, .int .i64 af, .int .i64 ag]) 31 ?_; intro ak hg w6 hbox hb; have z_ := bx0_ th_ hb hbox hg; clear HB; obtain ⟨HB, a5, cz, d0⟩ := z_; clear hb hbox hg) | ((with_reducible refine gate_dst (N := 5) rfl ?_); refine be_ 5 (cs := #[.int .i64 aj, .slice b1 ah.length b2, .slice bf a8.length b4]) 35 ?_; intro b5 hg w7 hbox hb; have z_ := bx1_ (kb_ a5) th_ hb hbox hg; clear a5 HB; obtain ⟨a5, HB, a6, d1, d2, al, am⟩ := z_; clear hb hbox hg) | ((with_reducible refine gate_dst (N := 13) rfl ?_); refine Kd.R_lit k53 _ 53 ?hg (N := 13) ?hd (xs := ([] : List (S53))) (inner := []) (ok := fun _ => True) (okp := fun _ => True) ?hr ?hp (fun _ hk => hk) trivial (Below.refl _ _) (Nat.le_refl _) (by simp) ?_; (case hd => rfl); (case hg => rfl); (case hr => first | (go_simp; done) | (go_simp; rfl)); (case hp => exact (Reps.none _ _)); intro v383 w8 ho9 hb hg_ hnew_; clear hg_ hnew_; (first | rw [← Ny382.out] at ho9 | (simp only [Int.reduceToNat] at ho9; rw [← Ny382.out] at ho9)); have z_ := p_ (Kd.R_lower ho9 (below_size th_)) <| bw2_ (kb_ a5) (kb_ a6) th_ hb; clear a5 a6 HB; obtain ⟨HO384, a5, a6, HB⟩ := z_; clear hb ho9; obtain ⟨hnb10, hnc10⟩ := an2_ am al; have b6 := bb3_ a6.out) | ((with_reducible refine gate_callee (f := 44) rfl ?_); refine goesL_ (some 16) rfl rfl Tryz.func44 (by kernel_rfl) rfl #[.slice b1 ah.length b2] rfl tq_0 ?_; (with_reducible refine (spec_StatesWords.calls k _ _ ah an _ ?side1 ?side2 A4.out).mono ?_); (case side1 => exact tq_6); (case side2 => exact cg.out); rintro e dc ⟨v386, rfl, ho0, hb⟩; refine ⟨_, rfl, ?_⟩; have z_ := p_ (Kd.R_below (raR_ HO384) hb) <| p_ (Kd.R_lower ho0 (below_size th_)) <| bw2_ (kb_ a5) (kb_ a6) th_ hb; clear HO384 a5 a6 HB; obtain ⟨HO384, HO387, a5, a6, HB⟩ := z_; (try clear hb); (try clear hk); (try clear ho0); have b7 := bb4_ a5.out) | ((with_reducible refine gate_callee (f := 43) rfl ?_); refine goesL_ (some 19) rfl rfl Tryz.func43 (by kernel_rfl) rfl #[.agg #[.int .i64 ac, .int .i64 ae, .int .i64 af, .int .i64 ag], .int .i64 a1, .int .i64 36] rfl tq_0 ?_; (with_reducible refine (spec_l11At.calls ac ae af ag a1 36 b3 _ A5.out).mono ?_); rintro e dd ⟨rfl, hb⟩; refine ⟨_, rfl, ?_⟩; have z_ := p_ (Kd.R_below (raR_ HO384) hb) <| p_ (Kd.R_below (raR_ HO387) hb) <| bw2_ (kb_ a5) (kb_ a6) th_ hb; clear HO384 HO387 a5 a6 HB; obtain ⟨HO384, HO387, a5, a6, HB⟩ := z_; (try clear hb)))
 go_loopg [7, 10] k (fun kq v7 v10 w' => ∃ (bg : List (S53)) (aa : Int), v10 = .int .i64 aa ∧ Aside0 (spec_l14Writes.l0 kq a1 bg an b3 aa ac ae af ag aj ah a8 = some r) ∧ Aside0 (kq ≤ k) ∧ Aside0 (Kd.R k53 53 w' w.heap.size (fun _ => True) v7 bg) ∧ Aside0 (Kd.R Kd.string 9 w' w.heap.size (fun _ => True) v386 an) ∧ Aside0 (w'.heap[ak]? = some (.cells #[.int .i64 ac, .int .i64 ae, .int .i64 af, .int .i64 ag] 31 (0, 0))) ∧ Aside0 (w'.heap[b5]? = some (.cells #[.int .i64 aj, (.slice b1 ah.length b2), (.slice bf a8.length b4)] 35 (0, 0))) ∧ Aside0 (Below w.heap.size w w'))
 case atStart => exact ⟨(ch), (0), tq_3, H', ⟨Nat.le_refl _⟩, ⟨(raR_ HO384)⟩, ⟨(raR_ HO387)⟩, ⟨(kb_ a5)⟩, ⟨(kb_ a6)⟩, ⟨th_⟩⟩
 case round =>
 clear H'
 try clear c1; try clear c2; try clear p2; try clear c4; try clear d3; try clear b6; try clear b7; try clear b6; try clear b7
 obtain ⟨bg, aa, rfl, HA, HK1, ab, ai, a5, a6, HB⟩ := hrel
 cases gk with
 | zero => exact absurd HA.out (by simp [spec_l14Writes.l0])
 | succ k1 =>
 have H := HA.out
 clear HA
 simp only [spec_l14Writes.l0] at H
 have ci := Aside0.mk H
 clear H
 obtain ⟨Ao16, d8, cr⟩ := Kd.R_slice ai.out
 subst cr
 go_upto_if 23 with (fail)
 (try clear b6)
 (try clear b7)
 (try clear b6)
 (try clear b7)
 have H := ci.out
 clear ci
 by_cases bu : aa < (an.length : Int)
 ·rw [if_pos bu] at H
  have aw := decide_eq_true bu
  clear bu
  (first | rw [aw] | (simp only [i64_w, i32_w]; rw [aw]) | skip)
  obtain ⟨cp, H⟩ := fc_ H
  have bv := decide_eq_true cp
  clear cp
  obtain ⟨cq, H⟩ := fc_ H
  have LMc19 := Aside0.mk cq
  clear cq
  obtain ⟨cj, hy390⟩ : ∃ y_ : List (S53), y_ = (bg ++ [(⟨wrap64 (b3 + aa), rdOf ByteArray.empty an aa⟩ : S53)]) := ⟨_, rfl⟩
  replace H : (spec_l14Writes.l0 k1 a1 cj an b3 (wrap64 (aa + 1)) ac ae af ag aj ah a8) = some r := by first | (rw [hy390]; with_reducible exact H) | (have H2_ := (Option.bind_some _ _).symm.trans H; rw [hy390]; with_reducible exact H2_) | (have H2_ := (Option.bind_some _ _).symm.trans H; with_reducible exact H2_) | with_reducible exact H | (rw [hy390]; exact H) | exact H
  have Ny390 := Aside0.mk hy390
  clear hy390
  have H' := Aside0.mk H
  clear H
  have p389 : 0 ≤ (aa : Int) := of_decide_eq_true tq_2
  have q389 : aa < (an.length : Int) := of_decide_eq_true tq_2
  obtain ⟨d4, ct, b9⟩ := Kd.at_string (Kd.R_reads' ai.out).2.2 aa p389 q389
  cases ct
  replace p389 := eq_true p389
  replace q389 := eq_true q389
  go_wp2_with (first | ((with_reducible refine gate_builtin (b := .append) (xs := #[.tmp 26, .tmp 35]) rfl ?_); at_builtin; refine Kd.R_append k53 (w0 := w) w.heap.size rfl (.tmp 26) (.tmp 35) 29 53 (.agg #[(.int .i64 0), (.string ⟨#[]⟩)]) 24 rfl Tryz.underlying29 info53 rfl (by decide) (by omega) u7 bg (⟨wrap64 (b3 + aa), rdOf ByteArray.empty an aa⟩ : S53) [.int .i64 (wrap64 (b3 + aa)), .string (rdOf ByteArray.empty an aa)] (fun _ => True) (fun _ => False) rfl rfl ?aP (fun _ hk => hk.elim) ?aF ?aO ?aB ?aS ?aL ?_; (case aP => exact k53_mkM _ _ _ (⟨wrap64 (b3 + aa), rdOf ByteArray.empty an aa⟩ : S53)); (case aB => exact th_); (case aF => exact (fun _ _ => trivial)); (case aO => exact (raR_ ab)); (case aS => exact (below_size th_)); (case aL => have := LMc19.out; omega); intro v391 de ho hb hg hat; rw [← Ny390.out] at ho; have z_ := p_ (Kd.R_over' (raR_ ai) (Kd.R_typed (raR_ ab)) (by decide) hg) <| p_ (blk_grown (g := ak) (o := .cells #[.int .i64 ac, .int .i64 ae, .int .i64 af, .int .i64 ag] 31 (0, 0)) (kb_ a5) hg (Kd.R_ne ab.out a5.out (by decide))) <| p_ (blk_grown (g := b5) (o := .cells #[.int .i64 aj, .slice b1 ah.length b2, .slice bf a8.length b4] 35 (0, 0)) (kb_ a6) hg (Kd.R_ne ab.out a6.out (by decide))) <| p_ (hb) <| a_ (ho); clear ai a5 a6 HB ab; obtain ⟨ai, a5, a6, HB, HO392⟩ := z_; clear ho hb hg hat))
  go_roundg k1
  case measure => have := HK1.out; omega
  case rel => exact ⟨(cj), (wrap64 (aa + 1)), tq_3, H', ⟨tq_22⟩, ⟨(raR_ HO392)⟩, ⟨(raR_ ai)⟩, ⟨(kb_ a5)⟩, ⟨(kb_ a6)⟩, ⟨th_⟩⟩
 rw [if_neg bu] at H
 have aw := decide_eq_false bu
 clear bu
 (first | rw [aw] | (simp only [i64_w, i32_w]; rw [aw]) | skip)
 have H' := Aside0.mk H
 clear H
 go_wp2
 go_loopg [7, 11] k1 (fun kq v7 v11 w' => ∃ (bj : List (S53)) (a7 : Int), v11 = .int .i64 a7 ∧ Aside0 (spec_l14Writes.l1 kq a1 bj a7 ac ae af ag aj ah a8 = some r) ∧ Aside0 (kq ≤ k1) ∧ Aside0 (Kd.R k53 53 w' w.heap.size (fun _ => True) v7 bj) ∧ Aside0 (w'.heap[ak]? = some (.cells #[.int .i64 ac, .int .i64 ae, .int .i64 af, .int .i64 ag] 31 (0, 0))) ∧ Aside0 (w'.heap[b5]? = some (.cells #[.int .i64 aj, (.slice b1 ah.length b2), (.slice bf a8.length b4)] 35 (0, 0))) ∧ Aside0 (Below w.heap.size w w'))
 case atStart => exact ⟨(bg), (0), tq_3, H', ⟨Nat.le_refl _⟩, ⟨(raR_ ab)⟩, ⟨(kb_ a5)⟩, ⟨(kb_ a6)⟩, ⟨th_⟩⟩
 case round =>
 clear H'
 try clear c1; try clear c2; try clear p2; try clear p3; try clear q3; try clear hx3; try clear c4; try clear p6; try clear d3; try clear bu; try clear aw; try clear cp; try clear bv; try clear cq; try clear b6; try clear b7; try clear b6; try clear b7; try clear b9; try clear p2; try clear p389; try clear q389
 obtain ⟨bj, a7, rfl, HA, HK2, ab, a5, a6, HB⟩ := hrel
 cases gk with
 | zero => exact absurd HA.out (by simp [spec_l14Writes.l1])
 | succ k2 =>
 have H := HA.out
 clear HA
 simp only [spec_l14Writes.l1] at H
 have ck := Aside0.mk H
 clear H
 obtain ⟨ax, ay⟩ := an2_ am al
 have bx := bb3_ a6.out
 go_upto_if 41 with (fail)
 (try clear ay ax)
 (try clear bx)
 have H := ck.out
 clear ck
 by_cases bz : a7 < (a8.length : Int)
 rotate_left
 ·rw [if_neg bz] at H
  have b0 := decide_eq_false bz
  clear bz
  (first | rw [b0] | (simp only [i64_w, i32_w]; rw [b0]) | skip)
  obtain rfl := Option.some.inj H
  go_wp2
  go_ret
  exact ⟨_, tq_1, (raR_ ab), th_⟩
 rw [if_pos bz] at H
 have b0 := decide_eq_true bz
 clear bz
 (first | rw [b0] | (simp only [i64_w, i32_w]; rw [b0]) | skip)
 obtain ⟨cu, H⟩ := fc_ H
 have cl := decide_eq_true cu
 clear cu
 obtain ⟨az, d9, H⟩ := bd_ H
 have H' := Aside0.mk H
 clear H
 obtain ⟨ax, ay⟩ := an2_ am al
 have ca := bb3_ a6.out
 have p393 : 0 ≤ (a7 : Int) := of_decide_eq_true tq_2
 have q393 : a7 < (a8.length : Int) := of_decide_eq_true tq_2
 obtain ⟨bw, cb, cc, cd, ce, cv, ao, ap, aq, ar, au, av, ba, bb, bc, bd⟩ := at_T69 HR2_2.out a7 p393 q393
 cases cv
 replace ao := hx_ HB.out ao
 replace ap := hx_ HB.out ap
 replace aq := hx_ HB.out aq
 replace ar := hx_ HB.out ar
 replace au := hx_ HB.out au
 replace av := hx_ HB.out av
 have bl := Aside0.mk bb
 have bm := Aside0.mk ba
 clear bb ba
 have bn := Aside0.mk bd
 have bo := Aside0.mk bc
 clear bd bc
 replace p393 := eq_true p393
 replace q393 := eq_true q393
 go_wp2_with (first | ((with_reducible refine gate_callee (f := 45) rfl ?_); refine goesL_ (some 49) rfl rfl Tryz.func45 (by kernel_rfl) rfl #[.agg #[.int .i64 ((rd_T69 a8 a7).f0), .int .i64 ((rd_T69 a8 a7).f1), .int .i64 ((rd_T69 a8 a7).f2), .string ((rd_T69 a8 a7).f3), .slice cb ((rd_T69 a8 a7).f4).length cc, .slice cd ((rd_T69 a8 a7).f5).length ce]] rfl tq_0 ?_; (with_reducible refine (spec_InodeWords.calls k2 ((rd_T69 a8 a7).f0) ((rd_T69 a8 a7).f1) ((rd_T69 a8 a7).f2) ((rd_T69 a8 a7).f3) _ _ ((rd_T69 a8 a7).f4) _ _ ((rd_T69 a8 a7).f5) az _ ?side1 ?side2 ?side3 ?side4 d9.out).mono ?_); (case side1 => repeat (first | exact (Kd.C_below bl.out HB.out) | (with_reducible refine Kd.C_alloc ?_ _) | (with_reducible refine Kd.C_drewN ?_ _) | (with_reducible refine Kd.C_drew ?_))); (case side2 => exact bm.out); (case side3 => repeat (first | exact (Kd.C_below bn.out HB.out) | (with_reducible refine Kd.C_alloc ?_ _) | (with_reducible refine Kd.C_drewN ?_ _) | (with_reducible refine Kd.C_drew ?_))); (case side4 => exact bo.out); rintro e df ⟨v395, rfl, ho0, hb⟩; refine ⟨_, rfl, ?_⟩; have z_ := p_ (Kd.R_below (raR_ ab) hb) <| p_ (Kd.R_lower ho0 (below_size th_)) <| bw2_ (kb_ a5) (kb_ a6) th_ hb; clear ab a5 a6 HB; obtain ⟨ab, HO396, a5, a6, HB⟩ := z_; (try clear hb); (try clear ho0)))
 go_loopg [7, 12] k2 (fun kq v7 v12 w' => ∃ (bh : List (S53)) (a9 : Int), v12 = .int .i64 a9 ∧ Aside0 (spec_l14Writes.l2 kq a1 bh az a7 a9 ac ae af ag aj ah a8 = some r) ∧ Aside0 (kq ≤ k2) ∧ Aside0 (Kd.R k53 53 w' w.heap.size (fun _ => True) v7 bh) ∧ Aside0 (Kd.R Kd.string 9 w' w.heap.size (fun _ => True) v395 az) ∧ Aside0 (w'.heap[ak]? = some (.cells #[.int .i64 ac, .int .i64 ae, .int .i64 af, .int .i64 ag] 31 (0, 0))) ∧ Aside0 (w'.heap[b5]? = some (.cells #[.int .i64 aj, (.slice b1 ah.length b2), (.slice (some bw) a8.length b4)] 35 (0, 0))) ∧ Aside0 (Below w.heap.size w w'))
 case atStart => exact ⟨(bj), (0), tq_3, H', ⟨Nat.le_refl _⟩, ⟨(raR_ ab)⟩, ⟨(raR_ HO396)⟩, ⟨(kb_ a5)⟩, ⟨(kb_ a6)⟩, ⟨th_⟩⟩
 case round =>
 clear H'
 try clear c1; try clear c2; try clear p2; try clear c3; try clear p3; try clear q3; try clear hx3; try clear c4; try clear p6; try clear d3; try clear bu; try clear aw; try clear cp; try clear bv; try clear cq; try clear dg; try clear dh; try clear bz; try clear b0; try clear cu; try clear cl; try clear di; try clear b6; try clear b7; try clear bx; try clear ca; try clear b6; try clear b7; try clear bx; try clear ca; try clear b9; try clear ao; try clear ap; try clear aq; try clear ar; try clear au; try clear av; try clear p2; try clear p3; try clear p389; try clear p393; try clear p6; try clear q3; try clear q389; try clear q393
 obtain ⟨bh, a9, rfl, HA, HK3, ab, ai, a5, a6, HB⟩ := hrel
 cases gk with
 | zero => exact absurd HA.out (by simp [spec_l14Writes.l2])
 | succ k3 =>
 have H := HA.out
 clear HA
 simp only [spec_l14Writes.l2] at H
 have cm := Aside0.mk H
 clear H
 obtain ⟨Ao31, da, cw⟩ := Kd.R_slice ai.out
 subst cw
 go_upto_if 53 with (fail)
 (try clear ay ax)
 (try clear ca)
 (try clear ao ap aq ar au av)
 have H := cm.out
 clear cm
 by_cases cf : a9 < (az.length : Int)
 rotate_left
 ·rw [if_neg cf] at H
  have b8 := decide_eq_false cf
  clear cf
  (first | rw [b8] | (simp only [i64_w, i32_w]; rw [b8]) | skip)
  have H' := Aside0.mk H
  clear H
  go_wp2
  go_roundg k3
  case measure => have := HK1.out; have := HK2.out; have := HK3.out; omega
  case rel => exact ⟨(bh), (wrap64 (a7 + 1)), tq_3, H', ⟨tq_44⟩, ⟨(raR_ ab)⟩, ⟨(kb_ a5)⟩, ⟨(kb_ a6)⟩, ⟨th_⟩⟩
 rw [if_pos cf] at H
 have b8 := decide_eq_true cf
 clear cf
 (first | rw [b8] | (simp only [i64_w, i32_w]; rw [b8]) | skip)
 obtain ⟨bi, db, H⟩ := bd_ H
 obtain ⟨d5, H⟩ := fc_ H
 have d6 := decide_eq_true d5
 clear d5
 obtain ⟨d7, H⟩ := fc_ H
 have LMc35 := Aside0.mk d7
 clear d7
 obtain ⟨cn, hy399⟩ : ∃ y_ : List (S53), y_ = (bh ++ [(⟨wrap64 (bi + a9), rdOf ByteArray.empty az a9⟩ : S53)]) := ⟨_, rfl⟩
 replace H : (spec_l14Writes.l2 k3 a1 cn az a7 (wrap64 (a9 + 1)) ac ae af ag aj ah a8) = some r := by first | (rw [hy399]; with_reducible exact H) | (have H2_ := (Option.bind_some _ _).symm.trans H; rw [hy399]; with_reducible exact H2_) | (have H2_ := (Option.bind_some _ _).symm.trans H; with_reducible exact H2_) | with_reducible exact H | (rw [hy399]; exact H) | exact H
 have Ny399 := Aside0.mk hy399
 clear hy399
 have H' := Aside0.mk H
 clear H
 try go_wp2
 have z_ := p_ (Kd.R_drew ab.out) <| p_ (Kd.R_drew ai.out) <| dw2_ a5 a6 HB
 clear ab ai a5 a6 HB
 obtain ⟨ab, ai, a5, a6, HB⟩ := z_
 have p398 : 0 ≤ (a9 : Int) := of_decide_eq_true tq_2
 have q398 : a9 < (az.length : Int) := of_decide_eq_true tq_2
 obtain ⟨co, cx, be⟩ := Kd.at_string (Kd.R_reads' ai.out).2.2 a9 p398 q398
 cases cx
 replace p398 := eq_true p398
 replace q398 := eq_true q398
 refine start_ (n := 15) (S := fun w' => w'.cell? ⟨ak, 0, none⟩ = some (.int .i64 ac) ∧ w'.cell? ⟨ak, 1, none⟩ = some (.int .i64 ae) ∧ w'.cell? ⟨ak, 2, none⟩ = some (.int .i64 af) ∧ w'.cell? ⟨ak, 3, none⟩ = some (.int .i64 ag) ∧ w'.cell? (co.add (a9).toNat) = some (.string (rdOf ByteArray.empty az a9))) (ds := [12, 13]) #[false, false, false, false, false, false, false, false, false, false, false, false, false, false, false] (by kernel_rfl) rfl rfl (bc4_ a5.out (be)) (fun hHeld => ?_); refine with_tabW spec_l14Writes.tab15 spec_l14Writes.bits15 (fun HT_ HW_ => ?_)
 generalize wr.drew = dj at ab ai a5 a6 HB be hHeld ⊢
 refine yr_ 0 56 #[true, false, false, false, false, false, false, false, false, false, false, false, false, false, false] HT_ ?_
 refine yr_ 2 58 #[true, false, true, false, false, false, false, false, false, false, false, false, false, false, false] HT_ ?_
 refine yr_ 3 59 #[true, false, true, true, false, false, false, false, false, false, false, false, false, false, false] HT_ ?_
 refine yr_ 5 61 #[true, false, true, true, false, true, false, false, false, false, false, false, false, false, false] HT_ ?_
 refine yr_ 7 63 #[true, false, true, true, false, true, false, true, false, false, false, false, false, false, false] HT_ ?_
 refine yr_ 8 64 #[true, false, true, true, false, true, false, true, true, false, false, false, false, false, false] HT_ ?_
 refine yr_ 9 65 #[true, false, true, true, false, true, false, true, true, true, false, false, false, false, false] HT_ ?_
 refine tr_ 1 57 #[true, true, true, true, false, true, false, true, true, true, false, false, false, false, false] HT_ HW_ hHeld ?_
 refine tr_ 10 66 #[true, true, true, true, false, true, false, true, true, true, true, false, false, false, false] HT_ HW_ hHeld ?_
 refine one_ (i := 4) (N := some 60) #[true, true, true, true, true, true, false, true, true, true, true, false, false, false, false] rfl rfl (one_of HT_.out (by kernel_rfl)) (by decide) (fun K hK => ?_)
 refine goes_ Tryz.func46 (by kernel_rfl) rfl #[.agg #[.int .i64 ac, .int .i64 ae, .int .i64 af, .int .i64 ag], .int .i64 a1, .int .i64 a7] (by rfl) rfl rfl tq_0 ?_
 with_reducible refine (spec_InodeAt.calls ac ae af ag a1 a7 bi _ db.out).mono ?_
 rintro e dk ⟨rfl, hb⟩
 have HS4_ := (hb.cell (World.block_lt_of_cell? _ _ (hHeld.2.2.2.2))).trans (hHeld.2.2.2.2)
 refine ⟨_, rfl, ?_⟩
 have z_ := p_ (Kd.R_below (raR_ ab) hb) <| p_ (Kd.R_below (raR_ ai) hb) <| bw2_ (kb_ a5) (kb_ a6) th_ hb
 clear ab ai a5 a6 HB
 obtain ⟨ab, ai, a5, a6, HB⟩ := z_
 (try clear hb)
 refine hK.out _ _ (bc4_ a5.out (HS4_)) (fun hHeld => ?_)
 clear hK K
 refine nm_ (some 60) ?_
 refine yr_ 6 62 #[true, true, true, true, true, true, true, true, true, true, true, false, false, false, false] HT_ ?_
 refine yr_ 11 67 #[true, true, true, true, true, true, true, true, true, true, true, true, false, false, false] HT_ ?_
 refine last_ (i := 12) (N := some 68) #[true, true, true, true, true, true, true, true, true, true, true, true, true, false, false] rfl rfl (one_of HT_.out (by kernel_rfl)) (by decide) (fun K hK => ?_)
 refine value_ (w1 := ?_) (v := ?_) (by rfl) rfl ?_ ?_
 rotate_left 2
 ·go_simp
  constructor
  ·rfl
  ·rfl
 refine hK.out _ _ ?_
 clear hK K
 refine nm_ (some 68) ?_
 refine last_ (i := 13) (N := some 69) #[true, true, true, true, true, true, true, true, true, true, true, true, true, true, false] rfl rfl (one_of HT_.out (by kernel_rfl)) (by decide) (fun K hK => ?_)
 refine Kd.R_append_step k53 (w0 := w) w.heap.size (by rfl) (.tmp 56) (.tmp 68) 29 53 (.agg #[(.int .i64 0), (.string ⟨#[]⟩)]) 24 rfl Tryz.underlying29 info53 rfl (by decide) (by omega) u7 bh (⟨wrap64 (bi + a9), rdOf ByteArray.empty az a9⟩ : S53) [.int .i64 (wrap64 (bi + a9)), .string (rdOf ByteArray.empty az a9)] (fun _ => True) (fun _ => False) rfl rfl ?aP (fun _ hk => hk.elim) ?aF ?aO ?aB ?aS ?aL ?_
 (case aP => exact k53_mkM _ _ _ (⟨wrap64 (bi + a9), rdOf ByteArray.empty az a9⟩ : S53))
 (case aB => exact th_)
 (case aF => exact (fun _ _ => trivial))
 (case aO => exact (raR_ ab))
 (case aS => exact (below_size th_))
 (case aL => have := LMc35.out; omega)
 intro v400 dl ho hb hg hat
 rw [← Ny399.out] at ho
 have z_ := p_ (Kd.R_over' (raR_ ai) (Kd.R_typed (raR_ ab)) (by decide) hg) <| p_ (blk_grown (g := ak) (o := .cells #[.int .i64 ac, .int .i64 ae, .int .i64 af, .int .i64 ag] 31 (0, 0)) (kb_ a5) hg (Kd.R_ne ab.out a5.out (by decide))) <| p_ (blk_grown (g := b5) (o := .cells #[.int .i64 aj, .slice b1 ah.length b2, .slice (some bw) a8.length b4] 35 (0, 0)) (kb_ a6) hg (Kd.R_ne ab.out a6.out (by decide))) <| p_ (hb) <| a_ (ho)
 clear ai a5 a6 HB ab
 obtain ⟨ai, a5, a6, HB, HO401⟩ := z_
 clear ho hb hg hat
 refine hK.out _ _ ?_
 clear hK K
 refine nm_ (some 69) ?_
 refine yr_ 14 7 #[true, true, true, true, true, true, true, true, true, true, true, true, true, true, true] HT_ ?_
 refine done_ (done_of HT_.out (by kernel_rfl)) ?_
 try go_wp2
 go_roundg k3
 case measure => have := HK1.out; have := HK2.out; have := HK3.out; omega
 case rel => exact ⟨(cn), (wrap64 (a9 + 1)), tq_3, H', ⟨tq_44⟩, ⟨(raR_ HO401)⟩, ⟨(raR_ ai)⟩, ⟨(kb_ a5)⟩, ⟨(kb_ a6)⟩, ⟨th_⟩⟩

/-! ### spec_PartWrites: function 6 -/
def spec_PartWrites.f (k : Nat) (a5 : Int) (a6 : Int) (a7 : Int) (a8 : Int) (a1 : Int) (a9 : Int) (aa : List Int) (ab : List (S69)) : Option ((List (S53))) := (spec_PartOk.f k a5 a6 a7 a8 a9 aa ab).bind fun ac => (if ac = true then ((spec_CommitAt.f a5 a6 a7 a8 a1).bind fun ae => (if ae < 0 then (some (([] : List (S53)))) else ((spec_l14Writes.f k a5 a6 a7 a8 a1 a9 aa ab).bind fun af => (some af)))) else (some (([] : List (S53)))))
set_option maxHeartbeats 8000000 in
set_option maxRecDepth 100000 in
theorem spec_PartWrites.calls (k : Nat) (ab : Int) (ac : Int) (ae : Int) (af : Int) (a1 : Int) (ag : Int) (ai : Option Addr) (aj : Nat) (a9 : List Int) (ak : Option Addr) (al : Nat) (aa : List (S69)) (r : List (S53)) (w : World) (aq : Kd.C (Kd.int .i64) w ai a9.length a9) (ar : a9.length ≤ aj) (au : Kd.C k69 w ak aa.length aa) (av : aa.length ≤ al) (h : spec_PartWrites.f k ab ac ae af a1 ag a9 aa = some r) :
  Calls Tryz.prog 6 #[.agg #[.int .i64 ab, .int .i64 ac, .int .i64 ae, .int .i64 af], .int .i64 a1, .agg #[.int .i64 ag, .slice ai a9.length aj, .slice ak aa.length al]] w fun e w' => ∃ v0_ : Value, e = .returned (v0_) ∧ Kd.R k53 53 w' w.heap.size (fun _ => True) v0_ r ∧ Below w.heap.size w w' := by
 have hu31 := Tryz.underlying31
 have hu35 := Tryz.underlying35
 have HR2_1 := Aside0.mk aq
 have am := Aside0.mk ar
 clear aq ar
 have HR2_2 := Aside0.mk au
 have an := Aside0.mk av
 clear au av
 have HB := Aside0.mk (Below.refl w.heap.size w)
 unfold spec_PartWrites.f at h
 have H := h
 clear h
 obtain ⟨b7, A4, H⟩ := bd_ H
 by_cases c5 : b7 = true
 rotate_left
 ·replace c5 := Bool.eq_false_iff.mpr c5
  subst c5
  rw [if_neg nf_] at H
  obtain ⟨b8, hy412⟩ : ∃ y_ : List (S53), y_ = (([] : List (S53))) := ⟨_, rfl⟩
  replace H : (some b8) = some r := by first | (rw [hy412]; with_reducible exact H) | (have H2_ := (Option.bind_some _ _).symm.trans H; rw [hy412]; with_reducible exact H2_) | (have H2_ := (Option.bind_some _ _).symm.trans H; with_reducible exact H2_) | with_reducible exact H | (rw [hy412]; exact H) | exact H
  have Ny412 := Aside0.mk hy412
  clear hy412
  obtain rfl := Option.some.inj H
  go_enter Tryz.func6, Tryz.ntmps6
  go_wp2_with (first | ((with_reducible refine gate_dst (N := 3) rfl ?_); refine be_ 3 (cs := #[.int .i64 ab, .int .i64 ac, .int .i64 ae, .int .i64 af]) 31 ?_; intro ax hg bh hbox hb; have z_ := bx0_ th_ hb hbox hg; clear HB; obtain ⟨HB, a5, ay, az⟩ := z_; clear hb hbox hg) | ((with_reducible refine gate_dst (N := 5) rfl ?_); refine be_ 5 (cs := #[.int .i64 ag, .slice ai a9.length aj, .slice ak aa.length al]) 35 ?_; intro b0 hg bi hbox hb; have z_ := bx1_ (kb_ a5) th_ hb hbox hg; clear a5 HB; obtain ⟨a5, HB, a6, b1, b2, a7, a8⟩ := z_; clear hb hbox hg; obtain ⟨ao, ap⟩ := an2_ a7 a8; have bc := bb4_ a5.out; have bd := bb3_ a6.out) | ((with_reducible refine gate_callee (f := 19) rfl ?_); refine goesL_ (some 9) rfl rfl Tryz.func19 (by kernel_rfl) rfl #[.agg #[.int .i64 ab, .int .i64 ac, .int .i64 ae, .int .i64 af], .agg #[.int .i64 ag, .slice ai a9.length aj, .slice ak aa.length al]] rfl tq_0 ?_; (with_reducible refine (spec_PartOk.calls k ab ac ae af ag _ _ a9 _ _ aa false _ ?side1 ?side2 ?side3 ?side4 A4.out).mono ?_); (case side1 => exact tq_6); (case side2 => exact am.out); (case side3 => exact tq_7); (case side4 => exact an.out); rintro e bj ⟨rfl, hb⟩; refine ⟨_, rfl, ?_⟩; have z_ := bw2_ (kb_ a5) (kb_ a6) th_ hb; clear a5 a6 HB; obtain ⟨a5, a6, HB⟩ := z_; (try clear hb)) | ((with_reducible refine gate_dst (N := 17) rfl ?_); refine Kd.R_lit k53 _ 53 ?hg (N := 17) ?hd (xs := ([] : List (S53))) (inner := []) (ok := fun _ => True) (okp := fun _ => True) ?hr ?hp (fun _ hk => hk) trivial (Below.refl _ _) (Nat.le_refl _) (by simp) ?_; (case hd => rfl); (case hg => rfl); (case hr => first | (go_simp; done) | (go_simp; rfl)); (case hp => exact (Reps.none _ _)); intro v413 bl ho31 hb hg_ hnew_; clear hg_ hnew_; (first | rw [← Ny412.out] at ho31 | (simp only [Int.reduceToNat] at ho31; rw [← Ny412.out] at ho31)); have z_ := p_ (Kd.R_lower ho31 (below_size th_)) <| bw2_ (kb_ a5) (kb_ a6) th_ hb; clear a5 a6 HB; obtain ⟨HO414, a5, a6, HB⟩ := z_; clear hb ho31))
  go_ret
  exact ⟨_, tq_1, (raR_ HO414), th_⟩
 subst c5
 rw [if_pos rfl] at H
 obtain ⟨b3, A6, H⟩ := bd_ H
 have bb := Aside0.mk H
 clear H
 go_enter Tryz.func6, Tryz.ntmps6
 go_upto_if 16 with (first | ((with_reducible refine gate_dst (N := 3) rfl ?_); refine be_ 3 (cs := #[.int .i64 ab, .int .i64 ac, .int .i64 ae, .int .i64 af]) 31 ?_; intro ax hg w8 hbox hb; have z_ := bx0_ th_ hb hbox hg; clear HB; obtain ⟨HB, a5, ay, az⟩ := z_; clear hb hbox hg) | ((with_reducible refine gate_dst (N := 5) rfl ?_); refine be_ 5 (cs := #[.int .i64 ag, .slice ai a9.length aj, .slice ak aa.length al]) 35 ?_; intro b0 hg w9 hbox hb; have z_ := bx1_ (kb_ a5) th_ hb hbox hg; clear a5 HB; obtain ⟨a5, HB, a6, b1, b2, a7, a8⟩ := z_; clear hb hbox hg; obtain ⟨hnb10, hnc10⟩ := an2_ a7 a8; have b4 := bb4_ a5.out; have b5 := bb3_ a6.out) | ((with_reducible refine gate_callee (f := 19) rfl ?_); refine goesL_ (some 9) rfl rfl Tryz.func19 (by kernel_rfl) rfl #[.agg #[.int .i64 ab, .int .i64 ac, .int .i64 ae, .int .i64 af], .agg #[.int .i64 ag, .slice ai a9.length aj, .slice ak aa.length al]] rfl tq_0 ?_; (with_reducible refine (spec_PartOk.calls k ab ac ae af ag _ _ a9 _ _ aa true _ ?side1 ?side2 ?side3 ?side4 A4.out).mono ?_); (case side1 => exact tq_6); (case side2 => exact am.out); (case side3 => exact tq_7); (case side4 => exact an.out); rintro e bm ⟨rfl, hb⟩; refine ⟨_, rfl, ?_⟩; have z_ := bw2_ (kb_ a5) (kb_ a6) th_ hb; clear a5 a6 HB; obtain ⟨a5, a6, HB⟩ := z_; (try clear hb); have b6 := bb4_ a5.out) | (go_at_call 20; (with_reducible refine (spec_CommitAt.calls ab ac ae af a1 b3 _ A6.out).mono ?_); rintro e bn ⟨rfl, hb⟩; have z_ := bw2_ (kb_ a5) (kb_ a6) th_ hb; clear a5 a6 HB; obtain ⟨a5, a6, HB⟩ := z_; (try clear hb)))
 (try simp only [Act.put, List.setIfInBounds_toArray, List.set_cons_zero, List.set_cons_succ])
 (try clear b4)
 (try clear b5)
 (try clear b6)
 (try clear b4)
 (try clear b5)
 (try clear b6)
 have H := bb.out
 clear bb
 by_cases aw : b3 < 0
 ·rw [if_pos aw] at H
  have ah := decide_eq_true aw
  clear aw
  (first | rw [ah] | (simp only [i64_w, i32_w]; rw [ah]) | skip)
  obtain ⟨b9, hy406⟩ : ∃ y_ : List (S53), y_ = (([] : List (S53))) := ⟨_, rfl⟩
  replace H : (some b9) = some r := by first | (rw [hy406]; with_reducible exact H) | (have H2_ := (Option.bind_some _ _).symm.trans H; rw [hy406]; with_reducible exact H2_) | (have H2_ := (Option.bind_some _ _).symm.trans H; with_reducible exact H2_) | with_reducible exact H | (rw [hy406]; exact H) | exact H
  have Ny406 := Aside0.mk hy406
  clear hy406
  obtain rfl := Option.some.inj H
  go_wp2_with (first | ((with_reducible refine gate_dst (N := 17) rfl ?_); refine Kd.R_lit k53 _ 53 ?hg (N := 17) ?hd (xs := ([] : List (S53))) (inner := []) (ok := fun _ => True) (okp := fun _ => True) ?hr ?hp (fun _ hk => hk) trivial (Below.refl _ _) (Nat.le_refl _) (by simp) ?_; (case hd => rfl); (case hg => rfl); (case hr => first | (go_simp; done) | (go_simp; rfl)); (case hp => exact (Reps.none _ _)); intro v407 bo ho18 hb hg_ hnew_; clear hg_ hnew_; (first | rw [← Ny406.out] at ho18 | (simp only [Int.reduceToNat] at ho18; rw [← Ny406.out] at ho18)); have z_ := p_ (Kd.R_lower ho18 (below_size th_)) <| bw2_ (kb_ a5) (kb_ a6) th_ hb; clear a5 a6 HB; obtain ⟨HO408, a5, a6, HB⟩ := z_; clear hb ho18))
  go_ret
  exact ⟨_, tq_1, (raR_ HO408), th_⟩
 rw [if_neg aw] at H
 have ah := decide_eq_false aw
 clear aw
 (first | rw [ah] | (simp only [i64_w, i32_w]; rw [ah]) | skip)
 obtain ⟨ba, be, H⟩ := bd_ H
 obtain rfl := Option.some.inj H
 obtain ⟨ao, ap⟩ := an2_ a7 a8
 have bf := bb4_ a5.out
 have bg := bb3_ a6.out
 go_wp2_with (first | ((with_reducible refine gate_callee (f := 21) rfl ?_); refine goesL_ (some 21) rfl rfl Tryz.func21 (by kernel_rfl) rfl #[.agg #[.int .i64 ab, .int .i64 ac, .int .i64 ae, .int .i64 af], .int .i64 a1, .agg #[.int .i64 ag, .slice ai a9.length aj, .slice ak aa.length al]] rfl tq_0 ?_; (with_reducible refine (spec_l14Writes.calls k ab ac ae af a1 ag _ _ a9 _ _ aa ba _ ?side1 ?side2 ?side3 ?side4 be.out).mono ?_); (case side1 => exact tq_6); (case side2 => exact am.out); (case side3 => exact tq_7); (case side4 => exact an.out); rintro e bp ⟨v410, rfl, ho0, hb⟩; refine ⟨_, rfl, ?_⟩; have z_ := p_ (Kd.R_lower ho0 (below_size th_)) <| bw2_ (kb_ a5) (kb_ a6) th_ hb; clear a5 a6 HB; obtain ⟨HO411, a5, a6, HB⟩ := z_; (try clear hb); (try clear ho0)))
 go_ret
 exact ⟨_, tq_1, (raR_ HO411), th_⟩

end Go.Proofs.YtleoknilacjakaaGreat.PFnExactChanged
