/- Contracts of Go functions, written by a program of ours over the print of the kit: each says that the call returns what the Lean function beside it computes. Conditions: as each theorem states them. -/
import Derived.Test.YtleoknilacjakaaGreatPkFnExactPartWrites
import Derived.Test.YtleoknilacjakaaGreatPFnExactPartWritesx0
import Derived.Test.YtleoknilacjakaaGreatPFnExactPartWritesx7
import Derived.Test.YtleoknilacjakaaGreatPFnExactPartWritesx8
import Derived.Test.YtleoknilacjakaaGreatPFnExactPartWritesx9
namespace Go.Proofs.YtleoknilacjakaaGreat.PFnExactPartWrites
open Go.RowKit Go.Proofs.YtleoknilacjakaaGreatW.PrintWords Go.Proofs.YtleoknilacjakaaGreatW.PrintLast Go.Proofs.YtleoknilacjakaaGreatW.PrintMore
attribute [local go_sem] max2_int min2_int max_two min_two max_three min_three max_four min_four   -- for this text's walks alone
set_option linter.unusedVariables false
set_option linter.unusedSimpArgs false

/-! ### spec_l14Writes: function 21 -/
mutual
def spec_l14Writes.l0 : Nat → Int → List (S53) → List ByteArray → Int → Int → Int → Int → Int → Int → Int → List Int → List (S69) → Option ((List (S53)))
 | 0, _, _, _, _, _, _, _, _, _, _, _, _ => none
 | k + 1, x1, x7, x8, x9, x10, x264000, x264001, x264002, x264003, x265000, x265001, x265002 => if x10 < (x8.length : Int) then (if 0 ≤ x10 then (if x7.length < 5864062014805 then (spec_l14Writes.l0 k x1 (x7 ++ [(⟨wrap64 (x9 + x10), rdOf ByteArray.empty x8 x10⟩ : S53)]) x8 x9 (wrap64 (x10 + 1)) x264000 x264001 x264002 x264003 x265000 x265001 x265002) else (none)) else (none)) else (spec_l14Writes.l1 k x1 x7 0 x264000 x264001 x264002 x264003 x265000 x265001 x265002)
def spec_l14Writes.l1 : Nat → Int → List (S53) → Int → Int → Int → Int → Int → Int → List Int → List (S69) → Option ((List (S53)))
 | 0, _, _, _, _, _, _, _, _, _, _ => none
 | k + 1, x1, x7, x11, x264000, x264001, x264002, x264003, x265000, x265001, x265002 => if x11 < (x265002.length : Int) then (if 0 ≤ x11 then ((spec_InodeWords.f k ((rd_T69 x265002 x11).f0) ((rd_T69 x265002 x11).f1) ((rd_T69 x265002 x11).f2) ((rd_T69 x265002 x11).f3) ((rd_T69 x265002 x11).f4) ((rd_T69 x265002 x11).f5)).bind fun t277 => (spec_l14Writes.l2 k x1 x7 t277 x11 0 x264000 x264001 x264002 x264003 x265000 x265001 x265002)) else (none)) else (some x7)
def spec_l14Writes.l2 : Nat → Int → List (S53) → List ByteArray → Int → Int → Int → Int → Int → Int → Int → List Int → List (S69) → Option ((List (S53)))
 | 0, _, _, _, _, _, _, _, _, _, _, _, _ => none
 | k + 1, x1, x7, x8, x11, x12, x264000, x264001, x264002, x264003, x265000, x265001, x265002 => if x12 < (x8.length : Int) then ((spec_InodeAt.f x264000 x264001 x264002 x264003 x1 x11).bind fun t280 => (if 0 ≤ x12 then (if x7.length < 5864062014805 then (spec_l14Writes.l2 k x1 (x7 ++ [(⟨wrap64 (t280 + x12), rdOf ByteArray.empty x8 x12⟩ : S53)]) x8 x11 (wrap64 (x12 + 1)) x264000 x264001 x264002 x264003 x265000 x265001 x265002) else (none)) else (none))) else (spec_l14Writes.l1 k x1 x7 (wrap64 (x11 + 1)) x264000 x264001 x264002 x264003 x265000 x265001 x265002)
end
def spec_l14Writes.f (k : Nat) (a0_0 : Int) (a0_1 : Int) (a0_2 : Int) (a0_3 : Int) (a1 : Int) (a2_0 : Int) (l2_1 : List Int) (l2_2 : List (S69)) : Option ((List (S53))) := (spec_StatesWords.f k l2_1).bind fun t268 => ((spec_l11At.f a0_0 a0_1 a0_2 a0_3 a1 36).bind fun t271 => (spec_l14Writes.l0 k a1 (([] : List (S53))) t268 t271 0 a0_0 a0_1 a0_2 a0_3 a2_0 l2_1 l2_2))
def spec_l14Writes.T15 : Bool × List (List Nat × List Nat) := (true, [([], []), ([], []), ([], []), ([], []), ([1, 2, 3], [1, 2, 3]), ([], []), ([4, 5], [4, 5]), ([], []), ([], []), ([7, 8], [7, 8]), ([9], [9]), ([6, 10], [6, 10]), ([11], [11]), ([0, 12, 4], [0, 12]), ([13, 13, 0, 1, 2, 3, 4, 5, 6, 7, 8, 9, 10, 11, 12, 13], [0, 13])])
def spec_l14Writes.B15 : List Nat := [0, 0, 0, 0, 14, 0, 62, 0, 0, 384, 896, 2046, 4094, 8191, 16383]
theorem spec_l14Writes.tab15 : rtab .any (opsOf Tryz.f21 15) = spec_l14Writes.T15 := by kernel_rfl
theorem spec_l14Writes.bits15 : waitsOk spec_l14Writes.T15.2 spec_l14Writes.B15 = true := by kernel_rfl
set_option maxHeartbeats 8000000 in
set_option maxRecDepth 100000 in
theorem spec_l14Writes.calls (k : Nat) (ac : Int) (ae : Int) (af : Int) (ag : Int) (a1 : Int) (aj : Int) (b1 : Option Addr) (b2 : Nat) (ah : List Int) (bf : Option Addr) (b4 : Nat) (a8 : List (S69)) (r : List (S53)) (w : World) (bp : Kd.C (Kd.int .i64) w b1 ah.length ah) (bq : ah.length ≤ b2) (br : Kd.C k69 w bf a8.length a8) (bs : a8.length ≤ b4) (h : spec_l14Writes.f k ac ae af ag a1 aj ah a8 = some r) :
  Calls Tryz.prog 21 #[.agg #[.int .i64 ac, .int .i64 ae, .int .i64 af, .int .i64 ag], .int .i64 a1, .agg #[.int .i64 aj, .slice b1 ah.length b2, .slice bf a8.length b4]] w fun e w' => ∃ v0_ : Value, e = .returned (v0_) ∧ Kd.R k53 53 w' w.heap.size (fun _ => True) v0_ r ∧ Below w.heap.size w w' := by
 have hu31 := Tryz.underlying31
 have hu35 := Tryz.underlying35
 have hu53 := Tryz.underlying53
 have hu69 := Tryz.underlying69
 have HR2_1 := Aside0.mk bp
 have cg := Aside0.mk bq
 clear bp bq
 have HR2_2 := Aside0.mk br
 have cy := Aside0.mk bs
 clear br bs
 have HB := Aside0.mk (Below.refl w.heap.size w)
 unfold spec_l14Writes.f at h
 have H := h
 clear h
 obtain ⟨ch, hy265⟩ : ∃ y_ : List (S53), y_ = (([] : List (S53))) := ⟨_, rfl⟩
 replace H : ((spec_StatesWords.f k ah).bind fun an => ((spec_l11At.f ac ae af ag a1 36).bind fun b3 => (spec_l14Writes.l0 k a1 ch an b3 0 ac ae af ag aj ah a8))) = some r := by first | (rw [hy265]; with_reducible exact H) | (have H2_ := (Option.bind_some _ _).symm.trans H; rw [hy265]; with_reducible exact H2_) | (have H2_ := (Option.bind_some _ _).symm.trans H; with_reducible exact H2_) | with_reducible exact H | (rw [hy265]; exact H) | exact H
 have Ny265 := Aside0.mk hy265
 clear hy265
 obtain ⟨an, A4, H⟩ := bd_ H
 obtain ⟨b3, A5, H⟩ := bd_ H
 have H' := Aside0.mk H
 clear H
 go_enter Tryz.func21, Tryz.ntmps21
 go_wp2_with (first | ((with_reducible refine gate_dst (N := 3) rfl ?_); refine be_ 3 (cs := #[.int .i64 ac, .int .i64 ae, .int .i64 af, .int .i64 ag]) 31 ?_; intro ak hg w6 hbox hb; have z_ := bx0_ th_ hb hbox hg; clear HB; obtain ⟨HB, a5, cz, d0⟩ := z_; clear hb hbox hg) | ((with_reducible refine gate_dst (N := 5) rfl ?_); refine be_ 5 (cs := #[.int .i64 aj, .slice b1 ah.length b2, .slice bf a8.length b4]) 35 ?_; intro b5 hg w7 hbox hb; have z_ := bx1_ (kb_ a5) th_ hb hbox hg; clear a5 HB; obtain ⟨a5, HB, a6, d1, d2, al, am⟩ := z_; clear hb hbox hg) | ((with_reducible refine gate_dst (N := 13) rfl ?_); refine Kd.R_lit k53 _ 53 ?hg (N := 13) ?hd (xs := ([] : List (S53))) (inner := []) (ok := fun _ => True) (okp := fun _ => True) ?hr ?hp (fun _ hk => hk) trivial (Below.refl _ _) (Nat.le_refl _) (by simp) ?_; (case hd => rfl); (case hg => rfl); (case hr => first | (go_simp; done) | (go_simp; rfl)); (case hp => exact (Reps.none _ _)); intro v266 w8 ho9 hb hg_ hnew_; clear hg_ hnew_; (first | rw [← Ny265.out] at ho9 | (simp only [Int.reduceToNat] at ho9; rw [← Ny265.out] at ho9)); have z_ := p_ (Kd.R_lower ho9 (below_size th_)) <| bw2_ (kb_ a5) (kb_ a6) th_ hb; clear a5 a6 HB; obtain ⟨HO267, a5, a6, HB⟩ := z_; clear hb ho9; obtain ⟨hnb10, hnc10⟩ := an2_ am al; have b6 := bb3_ a6.out) | ((with_reducible refine gate_callee (f := 44) rfl ?_); refine goesL_ (some 16) rfl rfl Tryz.func44 (by kernel_rfl) rfl #[.slice b1 ah.length b2] rfl tq_0 ?_; (with_reducible refine (spec_StatesWords.calls k _ _ ah an _ ?side1 ?side2 A4.out).mono ?_); (case side1 => exact tq_8); (case side2 => exact cg.out); rintro e dc ⟨v269, rfl, ho0, hb⟩; refine ⟨_, rfl, ?_⟩; have z_ := p_ (Kd.R_below (raR_ HO267) hb) <| p_ (Kd.R_lower ho0 (below_size th_)) <| bw2_ (kb_ a5) (kb_ a6) th_ hb; clear HO267 a5 a6 HB; obtain ⟨HO267, HO270, a5, a6, HB⟩ := z_; (try clear hb); (try clear hk); (try clear ho0); have b7 := bb4_ a5.out) | ((with_reducible refine gate_callee (f := 43) rfl ?_); refine goesL_ (some 19) rfl rfl Tryz.func43 (by kernel_rfl) rfl #[.agg #[.int .i64 ac, .int .i64 ae, .int .i64 af, .int .i64 ag], .int .i64 a1, .int .i64 36] rfl tq_0 ?_; (with_reducible refine (spec_l11At.calls ac ae af ag a1 36 b3 _ A5.out).mono ?_); rintro e dd ⟨rfl, hb⟩; refine ⟨_, rfl, ?_⟩; have z_ := p_ (Kd.R_below (raR_ HO267) hb) <| p_ (Kd.R_below (raR_ HO270) hb) <| bw2_ (kb_ a5) (kb_ a6) th_ hb; clear HO267 HO270 a5 a6 HB; obtain ⟨HO267, HO270, a5, a6, HB⟩ := z_; (try clear hb)))
 go_loopg [7, 10] k (fun kq v7 v10 w' => ∃ (bg : List (S53)) (aa : Int), v10 = .int .i64 aa ∧ Aside0 (spec_l14Writes.l0 kq a1 bg an b3 aa ac ae af ag aj ah a8 = some r) ∧ Aside0 (kq ≤ k) ∧ Aside0 (Kd.R k53 53 w' w.heap.size (fun _ => True) v7 bg) ∧ Aside0 (Kd.R Kd.string 9 w' w.heap.size (fun _ => True) v269 an) ∧ Aside0 (w'.heap[ak]? = some (.cells #[.int .i64 ac, .int .i64 ae, .int .i64 af, .int .i64 ag] 31 (0, 0))) ∧ Aside0 (w'.heap[b5]? = some (.cells #[.int .i64 aj, (.slice b1 ah.length b2), (.slice bf a8.length b4)] 35 (0, 0))) ∧ Aside0 (Below w.heap.size w w'))
 case atStart => exact ⟨(ch), (0), tq_3, H', ⟨Nat.le_refl _⟩, ⟨(raR_ HO267)⟩, ⟨(raR_ HO270)⟩, ⟨(kb_ a5)⟩, ⟨(kb_ a6)⟩, ⟨th_⟩⟩
 case round =>
 clear H'
 try clear c1; try clear c2; try clear p2; try clear c4; try clear d3; try clear b6; try clear b7; try clear b6; try clear b7
 obtain ⟨bg, aa, rfl, HA, HK1, ab, ai, a5, a6, HB⟩ := hrel
 cases gk with
 | zero => exact absurd HA.out (by simp [spec_l14Writes.l0])
 | succ k1 =>
 have H := HA.out
 clear HA
 simp only [spec_l14Writes.l0] at H
 have ci := Aside0.mk H
 clear H
 obtain ⟨Ao16, d8, cr⟩ := Kd.R_slice ai.out
 subst cr
 go_upto_if 23 with (fail)
 (try clear b6)
 (try clear b7)
 (try clear b6)
 (try clear b7)
 have H := ci.out
 clear ci
 by_cases bu : aa < (an.length : Int)
 ·rw [if_pos bu] at H
  have aw := decide_eq_true bu
  clear bu
  (first | rw [aw] | (simp only [i64_w, i32_w]; rw [aw]) | skip)
  obtain ⟨cp, H⟩ := fc_ H
  have bv := decide_eq_true cp
  clear cp
  obtain ⟨cq, H⟩ := fc_ H
  have LMc19 := Aside0.mk cq
  clear cq
  obtain ⟨cj, hy273⟩ : ∃ y_ : List (S53), y_ = (bg ++ [(⟨wrap64 (b3 + aa), rdOf ByteArray.empty an aa⟩ : S53)]) := ⟨_, rfl⟩
  replace H : (spec_l14Writes.l0 k1 a1 cj an b3 (wrap64 (aa + 1)) ac ae af ag aj ah a8) = some r := by first | (rw [hy273]; with_reducible exact H) | (have H2_ := (Option.bind_some _ _).symm.trans H; rw [hy273]; with_reducible exact H2_) | (have H2_ := (Option.bind_some _ _).symm.trans H; with_reducible exact H2_) | with_reducible exact H | (rw [hy273]; exact H) | exact H
  have Ny273 := Aside0.mk hy273
  clear hy273
  have H' := Aside0.mk H
  clear H
  have p272 : 0 ≤ (aa : Int) := of_decide_eq_true tq_2
  have q272 : aa < (an.length : Int) := of_decide_eq_true tq_2
  obtain ⟨d4, ct, b9⟩ := Kd.at_string (Kd.R_reads' ai.out).2.2 aa p272 q272
  cases ct
  replace p272 := eq_true p272
  replace q272 := eq_true q272
  go_wp2_with (first | ((with_reducible refine gate_builtin (b := .append) (xs := #[.tmp 26, .tmp 35]) rfl ?_); at_builtin; refine Kd.R_append k53 (w0 := w) w.heap.size rfl (.tmp 26) (.tmp 35) 29 53 (.agg #[(.int .i64 0), (.string ⟨#[]⟩)]) 24 rfl Tryz.underlying29 info53 rfl (by decide) (by omega) u7 bg (⟨wrap64 (b3 + aa), rdOf ByteArray.empty an aa⟩ : S53) [.int .i64 (wrap64 (b3 + aa)), .string (rdOf ByteArray.empty an aa)] (fun _ => True) (fun _ => False) rfl rfl ?aP (fun _ hk => hk.elim) ?aF ?aO ?aB ?aS ?aL ?_; (case aP => exact k53_mkM _ _ _ (⟨wrap64 (b3 + aa), rdOf ByteArray.empty an aa⟩ : S53)); (case aB => exact th_); (case aF => exact (fun _ _ => trivial)); (case aO => exact (raR_ ab)); (case aS => exact (below_size th_)); (case aL => have := LMc19.out; omega); intro v274 de ho hb hg hat; rw [← Ny273.out] at ho; have z_ := p_ (Kd.R_over' (raR_ ai) (Kd.R_typed (raR_ ab)) (by decide) hg) <| p_ (blk_grown (g := ak) (o := .cells #[.int .i64 ac, .int .i64 ae, .int .i64 af, .int .i64 ag] 31 (0, 0)) (kb_ a5) hg (Kd.R_ne ab.out a5.out (by decide))) <| p_ (blk_grown (g := b5) (o := .cells #[.int .i64 aj, .slice b1 ah.length b2, .slice bf a8.length b4] 35 (0, 0)) (kb_ a6) hg (Kd.R_ne ab.out a6.out (by decide))) <| p_ (hb) <| a_ (ho); clear ai a5 a6 HB ab; obtain ⟨ai, a5, a6, HB, HO275⟩ := z_; clear ho hb hg hat))
  go_roundg k1
  case measure => have := HK1.out; omega
  case rel => exact ⟨(cj), (wrap64 (aa + 1)), tq_3, H', ⟨tq_15⟩, ⟨(raR_ HO275)⟩, ⟨(raR_ ai)⟩, ⟨(kb_ a5)⟩, ⟨(kb_ a6)⟩, ⟨th_⟩⟩
 rw [if_neg bu] at H
 have aw := decide_eq_false bu
 clear bu
 (first | rw [aw] | (simp only [i64_w, i32_w]; rw [aw]) | skip)
 have H' := Aside0.mk H
 clear H
 go_wp2
 go_loopg [7, 11] k1 (fun kq v7 v11 w' => ∃ (bj : List (S53)) (a7 : Int), v11 = .int .i64 a7 ∧ Aside0 (spec_l14Writes.l1 kq a1 bj a7 ac ae af ag aj ah a8 = some r) ∧ Aside0 (kq ≤ k1) ∧ Aside0 (Kd.R k53 53 w' w.heap.size (fun _ => True) v7 bj) ∧ Aside0 (w'.heap[ak]? = some (.cells #[.int .i64 ac, .int .i64 ae, .int .i64 af, .int .i64 ag] 31 (0, 0))) ∧ Aside0 (w'.heap[b5]? = some (.cells #[.int .i64 aj, (.slice b1 ah.length b2), (.slice bf a8.length b4)] 35 (0, 0))) ∧ Aside0 (Below w.heap.size w w'))
 case atStart => exact ⟨(bg), (0), tq_3, H', ⟨Nat.le_refl _⟩, ⟨(raR_ ab)⟩, ⟨(kb_ a5)⟩, ⟨(kb_ a6)⟩, ⟨th_⟩⟩
 case round =>
 clear H'
 try clear c1; try clear c2; try clear p2; try clear q2; try clear hx2; try clear c4; try clear p6; try clear d3; try clear bu; try clear aw; try clear cp; try clear bv; try clear cq; try clear b6; try clear b7; try clear b6; try clear b7; try clear b9; try clear p2; try clear p272; try clear q272
 obtain ⟨bj, a7, rfl, HA, HK2, ab, a5, a6, HB⟩ := hrel
 cases gk with
 | zero => exact absurd HA.out (by simp [spec_l14Writes.l1])
 | succ k2 =>
 have H := HA.out
 clear HA
 simp only [spec_l14Writes.l1] at H
 have ck := Aside0.mk H
 clear H
 obtain ⟨ax, ay⟩ := an2_ am al
 have bx := bb3_ a6.out
 go_upto_if 41 with (fail)
 (try clear ay ax)
 (try clear bx)
 have H := ck.out
 clear ck
 by_cases bz : a7 < (a8.length : Int)
 rotate_left
 ·rw [if_neg bz] at H
  have b0 := decide_eq_false bz
  clear bz
  (first | rw [b0] | (simp only [i64_w, i32_w]; rw [b0]) | skip)
  obtain rfl := Option.some.inj H
  go_wp2
  go_ret
  exact ⟨_, tq_1, (raR_ ab), th_⟩
 rw [if_pos bz] at H
 have b0 := decide_eq_true bz
 clear bz
 (first | rw [b0] | (simp only [i64_w, i32_w]; rw [b0]) | skip)
 obtain ⟨cu, H⟩ := fc_ H
 have cl := decide_eq_true cu
 clear cu
 obtain ⟨az, d9, H⟩ := bd_ H
 have H' := Aside0.mk H
 clear H
 obtain ⟨ax, ay⟩ := an2_ am al
 have ca := bb3_ a6.out
 have p276 : 0 ≤ (a7 : Int) := of_decide_eq_true tq_2
 have q276 : a7 < (a8.length : Int) := of_decide_eq_true tq_2
 obtain ⟨bw, cb, cc, cd, ce, cv, ao, ap, aq, ar, au, av, ba, bb, bc, bd⟩ := at_T69 HR2_2.out a7 p276 q276
 cases cv
 replace ao := hx_ HB.out ao
 replace ap := hx_ HB.out ap
 replace aq := hx_ HB.out aq
 replace ar := hx_ HB.out ar
 replace au := hx_ HB.out au
 replace av := hx_ HB.out av
 have bl := Aside0.mk bb
 have bm := Aside0.mk ba
 clear bb ba
 have bn := Aside0.mk bd
 have bo := Aside0.mk bc
 clear bd bc
 replace p276 := eq_true p276
 replace q276 := eq_true q276
 go_wp2_with (first | ((with_reducible refine gate_callee (f := 45) rfl ?_); refine goesL_ (some 49) rfl rfl Tryz.func45 (by kernel_rfl) rfl #[.agg #[.int .i64 ((rd_T69 a8 a7).f0), .int .i64 ((rd_T69 a8 a7).f1), .int .i64 ((rd_T69 a8 a7).f2), .string ((rd_T69 a8 a7).f3), .slice cb ((rd_T69 a8 a7).f4).length cc, .slice cd ((rd_T69 a8 a7).f5).length ce]] rfl tq_0 ?_; (with_reducible refine (spec_InodeWords.calls k2 ((rd_T69 a8 a7).f0) ((rd_T69 a8 a7).f1) ((rd_T69 a8 a7).f2) ((rd_T69 a8 a7).f3) _ _ ((rd_T69 a8 a7).f4) _ _ ((rd_T69 a8 a7).f5) az _ ?side1 ?side2 ?side3 ?side4 d9.out).mono ?_); (case side1 => repeat (first | exact (Kd.C_below bl.out HB.out) | (with_reducible refine Kd.C_alloc ?_ _) | (with_reducible refine Kd.C_drewN ?_ _) | (with_reducible refine Kd.C_drew ?_))); (case side2 => exact bm.out); (case side3 => repeat (first | exact (Kd.C_below bn.out HB.out) | (with_reducible refine Kd.C_alloc ?_ _) | (with_reducible refine Kd.C_drewN ?_ _) | (with_reducible refine Kd.C_drew ?_))); (case side4 => exact bo.out); rintro e df ⟨v278, rfl, ho0, hb⟩; refine ⟨_, rfl, ?_⟩; have z_ := p_ (Kd.R_below (raR_ ab) hb) <| p_ (Kd.R_lower ho0 (below_size th_)) <| bw2_ (kb_ a5) (kb_ a6) th_ hb; clear ab a5 a6 HB; obtain ⟨ab, HO279, a5, a6, HB⟩ := z_; (try clear hb); (try clear ho0)))
 go_loopg [7, 12] k2 (fun kq v7 v12 w' => ∃ (bh : List (S53)) (a9 : Int), v12 = .int .i64 a9 ∧ Aside0 (spec_l14Writes.l2 kq a1 bh az a7 a9 ac ae af ag aj ah a8 = some r) ∧ Aside0 (kq ≤ k2) ∧ Aside0 (Kd.R k53 53 w' w.heap.size (fun _ => True) v7 bh) ∧ Aside0 (Kd.R Kd.string 9 w' w.heap.size (fun _ => True) v278 az) ∧ Aside0 (w'.heap[ak]? = some (.cells #[.int .i64 ac, .int .i64 ae, .int .i64 af, .int .i64 ag] 31 (0, 0))) ∧ Aside0 (w'.heap[b5]? = some (.cells #[.int .i64 aj, (.slice b1 ah.length b2), (.slice (some bw) a8.length b4)] 35 (0, 0))) ∧ Aside0 (Below w.heap.size w w'))
 case atStart => exact ⟨(bj), (0), tq_3, H', ⟨Nat.le_refl _⟩, ⟨(raR_ ab)⟩, ⟨(raR_ HO279)⟩, ⟨(kb_ a5)⟩, ⟨(kb_ a6)⟩, ⟨th_⟩⟩
 case round =>
 clear H'
 try clear c1; try clear c2; try clear p2; try clear q2; try clear hx2; try clear c4; try clear p6; try clear d3; try clear bu; try clear aw; try clear cp; try clear bv; try clear cq; try clear dg; try clear dh; try clear bz; try clear b0; try clear cu; try clear cl; try clear di; try clear p27; try clear q27; try clear hx27; try clear b6; try clear b7; try clear bx; try clear ca; try clear b6; try clear b7; try clear bx; try clear ca; try clear b9; try clear ao; try clear ap; try clear aq; try clear ar; try clear au; try clear av; try clear p2; try clear p272; try clear p276; try clear p6; try clear q2; try clear q272; try clear q276
 obtain ⟨bh, a9, rfl, HA, HK3, ab, ai, a5, a6, HB⟩ := hrel
 cases gk with
 | zero => exact absurd HA.out (by simp [spec_l14Writes.l2])
 | succ k3 =>
 have H := HA.out
 clear HA
 simp only [spec_l14Writes.l2] at H
 have cm := Aside0.mk H
 clear H
 obtain ⟨Ao31, da, cw⟩ := Kd.R_slice ai.out
 subst cw
 go_upto_if 53 with (fail)
 (try clear ay ax)
 (try clear ca)
 (try clear ao ap aq ar au av)
 have H := cm.out
 clear cm
 by_cases cf : a9 < (az.length : Int)
 rotate_left
 ·rw [if_neg cf] at H
  have b8 := decide_eq_false cf
  clear cf
  (first | rw [b8] | (simp only [i64_w, i32_w]; rw [b8]) | skip)
  have H' := Aside0.mk H
  clear H
  go_wp2
  go_roundg k3
  case measure => have := HK1.out; have := HK2.out; have := HK3.out; omega
  case rel => exact ⟨(bh), (wrap64 (a7 + 1)), tq_3, H', ⟨tq_29⟩, ⟨(raR_ ab)⟩, ⟨(kb_ a5)⟩, ⟨(kb_ a6)⟩, ⟨th_⟩⟩
 rw [if_pos cf] at H
 have b8 := decide_eq_true cf
 clear cf
 (first | rw [b8] | (simp only [i64_w, i32_w]; rw [b8]) | skip)
 obtain ⟨bi, db, H⟩ := bd_ H
 obtain ⟨d5, H⟩ := fc_ H
 have d6 := decide_eq_true d5
 clear d5
 obtain ⟨d7, H⟩ := fc_ H
 have LMc35 := Aside0.mk d7
 clear d7
 obtain ⟨cn, hy282⟩ : ∃ y_ : List (S53), y_ = (bh ++ [(⟨wrap64 (bi + a9), rdOf ByteArray.empty az a9⟩ : S53)]) := ⟨_, rfl⟩
 replace H : (spec_l14Writes.l2 k3 a1 cn az a7 (wrap64 (a9 + 1)) ac ae af ag aj ah a8) = some r := by first | (rw [hy282]; with_reducible exact H) | (have H2_ := (Option.bind_some _ _).symm.trans H; rw [hy282]; with_reducible exact H2_) | (have H2_ := (Option.bind_some _ _).symm.trans H; with_reducible exact H2_) | with_reducible exact H | (rw [hy282]; exact H) | exact H
 have Ny282 := Aside0.mk hy282
 clear hy282
 have H' := Aside0.mk H
 clear H
 try go_wp2
 have z_ := p_ (Kd.R_drew ab.out) <| p_ (Kd.R_drew ai.out) <| dw2_ a5 a6 HB
 clear ab ai a5 a6 HB
 obtain ⟨ab, ai, a5, a6, HB⟩ := z_
 have p281 : 0 ≤ (a9 : Int) := of_decide_eq_true tq_2
 have q281 : a9 < (az.length : Int) := of_decide_eq_true tq_2
 obtain ⟨co, cx, be⟩ := Kd.at_string (Kd.R_reads' ai.out).2.2 a9 p281 q281
 cases cx
 replace p281 := eq_true p281
 replace q281 := eq_true q281
 refine start_ (n := 15) (S := fun w' => w'.cell? ⟨ak, 0, none⟩ = some (.int .i64 ac) ∧ w'.cell? ⟨ak, 1, none⟩ = some (.int .i64 ae) ∧ w'.cell? ⟨ak, 2, none⟩ = some (.int .i64 af) ∧ w'.cell? ⟨ak, 3, none⟩ = some (.int .i64 ag) ∧ w'.cell? (co.add (a9).toNat) = some (.string (rdOf ByteArray.empty az a9))) (ds := [12, 13]) #[false, false, false, false, false, false, false, false, false, false, false, false, false, false, false] (by kernel_rfl) rfl rfl (bc4_ a5.out (be)) (fun hHeld => ?_); refine with_tabW spec_l14Writes.tab15 spec_l14Writes.bits15 (fun HT_ HW_ => ?_)
 generalize wr.drew = dj at ab ai a5 a6 HB be hHeld ⊢
 refine yr_ 0 56 #[true, false, false, false, false, false, false, false, false, false, false, false, false, false, false] HT_ ?_
 refine yr_ 2 58 #[true, false, true, false, false, false, false, false, false, false, false, false, false, false, false] HT_ ?_
 refine yr_ 3 59 #[true, false, true, true, false, false, false, false, false, false, false, false, false, false, false] HT_ ?_
 refine yr_ 5 61 #[true, false, true, true, false, true, false, false, false, false, false, false, false, false, false] HT_ ?_
 refine yr_ 7 63 #[true, false, true, true, false, true, false, true, false, false, false, false, false, false, false] HT_ ?_
 refine yr_ 8 64 #[true, false, true, true, false, true, false, true, true, false, false, false, false, false, false] HT_ ?_
 refine yr_ 9 65 #[true, false, true, true, false, true, false, true, true, true, false, false, false, false, false] HT_ ?_
 refine tr_ 1 57 #[true, true, true, true, false, true, false, true, true, true, false, false, false, false, false] HT_ HW_ hHeld ?_
 refine tr_ 10 66 #[true, true, true, true, false, true, false, true, true, true, true, false, false, false, false] HT_ HW_ hHeld ?_
 refine one_ (i := 4) (N := some 60) #[true, true, true, true, true, true, false, true, true, true, true, false, false, false, false] rfl rfl (one_of HT_.out (by kernel_rfl)) (by decide) (fun K hK => ?_)
 refine goes_ Tryz.func46 (by kernel_rfl) rfl #[.agg #[.int .i64 ac, .int .i64 ae, .int .i64 af, .int .i64 ag], .int .i64 a1, .int .i64 a7] (by rfl) rfl rfl tq_0 ?_
 with_reducible refine (spec_InodeAt.calls ac ae af ag a1 a7 bi _ db.out).mono ?_
 rintro e dk ⟨rfl, hb⟩
 have HS4_ := (hb.cell (World.block_lt_of_cell? _ _ (hHeld.2.2.2.2))).trans (hHeld.2.2.2.2)
 refine ⟨_, rfl, ?_⟩
 have z_ := p_ (Kd.R_below (raR_ ab) hb) <| p_ (Kd.R_below (raR_ ai) hb) <| bw2_ (kb_ a5) (kb_ a6) th_ hb
 clear ab ai a5 a6 HB
 obtain ⟨ab, ai, a5, a6, HB⟩ := z_
 (try clear hb)
 refine hK.out _ _ (bc4_ a5.out (HS4_)) (fun hHeld => ?_)
 clear hK K
 refine nm_ (some 60) ?_
 refine yr_ 6 62 #[true, true, true, true, true, true, true, true, true, true, true, false, false, false, false] HT_ ?_
 refine yr_ 11 67 #[true, true, true, true, true, true, true, true, true, true, true, true, false, false, false] HT_ ?_
 refine last_ (i := 12) (N := some 68) #[true, true, true, true, true, true, true, true, true, true, true, true, true, false, false] rfl rfl (one_of HT_.out (by kernel_rfl)) (by decide) (fun K hK => ?_)
 refine value_ (w1 := ?_) (v := ?_) (by rfl) rfl ?_ ?_
 rotate_left 2
 ·go_simp
  constructor
  ·rfl
  ·rfl
 refine hK.out _ _ ?_
 clear hK K
 refine nm_ (some 68) ?_
 refine last_ (i := 13) (N := some 69) #[true, true, true, true, true, true, true, true, true, true, true, true, true, true, false] rfl rfl (one_of HT_.out (by kernel_rfl)) (by decide) (fun K hK => ?_)
 refine Kd.R_append_step k53 (w0 := w) w.heap.size (by rfl) (.tmp 56) (.tmp 68) 29 53 (.agg #[(.int .i64 0), (.string ⟨#[]⟩)]) 24 rfl Tryz.underlying29 info53 rfl (by decide) (by omega) u7 bh (⟨wrap64 (bi + a9), rdOf ByteArray.empty az a9⟩ : S53) [.int .i64 (wrap64 (bi + a9)), .string (rdOf ByteArray.empty az a9)] (fun _ => True) (fun _ => False) rfl rfl ?aP (fun _ hk => hk.elim) ?aF ?aO ?aB ?aS ?aL ?_
 (case aP => exact k53_mkM _ _ _ (⟨wrap64 (bi + a9), rdOf ByteArray.empty az a9⟩ : S53))
 (case aB => exact th_)
 (case aF => exact (fun _ _ => trivial))
 (case aO => exact (raR_ ab))
 (case aS => exact (below_size th_))
 (case aL => have := LMc35.out; omega)
 intro v283 dl ho hb hg hat
 rw [← Ny282.out] at ho
 have z_ := p_ (Kd.R_over' (raR_ ai) (Kd.R_typed (raR_ ab)) (by decide) hg) <| p_ (blk_grown (g := ak) (o := .cells #[.int .i64 ac, .int .i64 ae, .int .i64 af, .int .i64 ag] 31 (0, 0)) (kb_ a5) hg (Kd.R_ne ab.out a5.out (by decide))) <| p_ (blk_grown (g := b5) (o := .cells #[.int .i64 aj, .slice b1 ah.length b2, .slice (some bw) a8.length b4] 35 (0, 0)) (kb_ a6) hg (Kd.R_ne ab.out a6.out (by decide))) <| p_ (hb) <| a_ (ho)
 clear ai a5 a6 HB ab
 obtain ⟨ai, a5, a6, HB, HO284⟩ := z_
 clear ho hb hg hat
 refine hK.out _ _ ?_
 clear hK K
 refine nm_ (some 69) ?_
 refine yr_ 14 7 #[true, true, true, true, true, true, true, true, true, true, true, true, true, true, true] HT_ ?_
 refine done_ (done_of HT_.out (by kernel_rfl)) ?_
 try go_wp2
 go_roundg k3
 case measure => have := HK1.out; have := HK2.out; have := HK3.out; omega
 case rel => exact ⟨(cn), (wrap64 (a9 + 1)), tq_3, H', ⟨tq_29⟩, ⟨(raR_ HO284)⟩, ⟨(raR_ ai)⟩, ⟨(kb_ a5)⟩, ⟨(kb_ a6)⟩, ⟨th_⟩⟩

/-! ### spec_PartWrites: function 6 -/
def spec_PartWrites.f (k : Nat) (a0_0 : Int) (a0_1 : Int) (a0_2 : Int) (a0_3 : Int) (a1 : Int) (a2_0 : Int) (l2_1 : List Int) (l2_2 : List (S69)) : Option ((List (S53))) := (spec_PartOk.f k a0_0 a0_1 a0_2 a0_3 a2_0 l2_1 l2_2).bind fun t287 => (if t287 = true then ((spec_CommitAt.f a0_0 a0_1 a0_2 a0_3 a1).bind fun t288 => (if t288 < 0 then (some (([] : List (S53)))) else ((spec_l14Writes.f k a0_0 a0_1 a0_2 a0_3 a1 a2_0 l2_1 l2_2).bind fun t292 => (some t292)))) else (some (([] : List (S53)))))
set_option maxHeartbeats 8000000 in
set_option maxRecDepth 100000 in
theorem spec_PartWrites.calls (k : Nat) (ab : Int) (ac : Int) (ae : Int) (af : Int) (a1 : Int) (ag : Int) (ai : Option Addr) (aj : Nat) (a9 : List Int) (ak : Option Addr) (al : Nat) (aa : List (S69)) (r : List (S53)) (w : World) (aq : Kd.C (Kd.int .i64) w ai a9.length a9) (ar : a9.length ≤ aj) (au : Kd.C k69 w ak aa.length aa) (av : aa.length ≤ al) (h : spec_PartWrites.f k ab ac ae af a1 ag a9 aa = some r) :
  Calls Tryz.prog 6 #[.agg #[.int .i64 ab, .int .i64 ac, .int .i64 ae, .int .i64 af], .int .i64 a1, .agg #[.int .i64 ag, .slice ai a9.length aj, .slice ak aa.length al]] w fun e w' => ∃ v0_ : Value, e = .returned (v0_) ∧ Kd.R k53 53 w' w.heap.size (fun _ => True) v0_ r ∧ Below w.heap.size w w' := by
 have hu31 := Tryz.underlying31
 have hu35 := Tryz.underlying35
 have HR2_1 := Aside0.mk aq
 have am := Aside0.mk ar
 clear aq ar
 have HR2_2 := Aside0.mk au
 have an := Aside0.mk av
 clear au av
 have HB := Aside0.mk (Below.refl w.heap.size w)
 unfold spec_PartWrites.f at h
 have H := h
 clear h
 obtain ⟨b7, A4, H⟩ := bd_ H
 by_cases c5 : b7 = true
 rotate_left
 ·replace c5 := Bool.eq_false_iff.mpr c5
  subst c5
  rw [if_neg nf_] at H
  obtain ⟨b8, hy295⟩ : ∃ y_ : List (S53), y_ = (([] : List (S53))) := ⟨_, rfl⟩
  replace H : (some b8) = some r := by first | (rw [hy295]; with_reducible exact H) | (have H2_ := (Option.bind_some _ _).symm.trans H; rw [hy295]; with_reducible exact H2_) | (have H2_ := (Option.bind_some _ _).symm.trans H; with_reducible exact H2_) | with_reducible exact H | (rw [hy295]; exact H) | exact H
  have Ny295 := Aside0.mk hy295
  clear hy295
  obtain rfl := Option.some.inj H
  go_enter Tryz.func6, Tryz.ntmps6
  go_wp2_with (first | ((with_reducible refine gate_dst (N := 3) rfl ?_); refine be_ 3 (cs := #[.int .i64 ab, .int .i64 ac, .int .i64 ae, .int .i64 af]) 31 ?_; intro ax hg bh hbox hb; have z_ := bx0_ th_ hb hbox hg; clear HB; obtain ⟨HB, a5, ay, az⟩ := z_; clear hb hbox hg) | ((with_reducible refine gate_dst (N := 5) rfl ?_); refine be_ 5 (cs := #[.int .i64 ag, .slice ai a9.length aj, .slice ak aa.length al]) 35 ?_; intro b0 hg bi hbox hb; have z_ := bx1_ (kb_ a5) th_ hb hbox hg; clear a5 HB; obtain ⟨a5, HB, a6, b1, b2, a7, a8⟩ := z_; clear hb hbox hg; obtain ⟨ao, ap⟩ := an2_ a7 a8; have bc := bb4_ a5.out; have bd := bb3_ a6.out) | ((with_reducible refine gate_callee (f := 19) rfl ?_); refine goesL_ (some 9) rfl rfl Tryz.func19 (by kernel_rfl) rfl #[.agg #[.int .i64 ab, .int .i64 ac, .int .i64 ae, .int .i64 af], .agg #[.int .i64 ag, .slice ai a9.length aj, .slice ak aa.length al]] rfl tq_0 ?_; (with_reducible refine (spec_PartOk.calls k ab ac ae af ag _ _ a9 _ _ aa false _ ?side1 ?side2 ?side3 ?side4 A4.out).mono ?_); (case side1 => exact tq_8); (case side2 => exact am.out); (case side3 => exact tq_9); (case side4 => exact an.out); rintro e bj ⟨rfl, hb⟩; refine ⟨_, rfl, ?_⟩; have z_ := bw2_ (kb_ a5) (kb_ a6) th_ hb; clear a5 a6 HB; obtain ⟨a5, a6, HB⟩ := z_; (try clear hb)) | ((with_reducible refine gate_dst (N := 17) rfl ?_); refine Kd.R_lit k53 _ 53 ?hg (N := 17) ?hd (xs := ([] : List (S53))) (inner := []) (ok := fun _ => True) (okp := fun _ => True) ?hr ?hp (fun _ hk => hk) trivial (Below.refl _ _) (Nat.le_refl _) (by simp) ?_; (case hd => rfl); (case hg => rfl); (case hr => first | (go_simp; done) | (go_simp; rfl)); (case hp => exact (Reps.none _ _)); intro v296 bl ho31 hb hg_ hnew_; clear hg_ hnew_; (first | rw [← Ny295.out] at ho31 | (simp only [Int.reduceToNat] at ho31; rw [← Ny295.out] at ho31)); have z_ := p_ (Kd.R_lower ho31 (below_size th_)) <| bw2_ (kb_ a5) (kb_ a6) th_ hb; clear a5 a6 HB; obtain ⟨HO297, a5, a6, HB⟩ := z_; clear hb ho31))
  go_ret
  exact ⟨_, tq_1, (raR_ HO297), th_⟩
 subst c5
 rw [if_pos rfl] at H
 obtain ⟨b3, A6, H⟩ := bd_ H
 have bb := Aside0.mk H
 clear H
 go_enter Tryz.func6, Tryz.ntmps6
 go_upto_if 16 with (first | ((with_reducible refine gate_dst (N := 3) rfl ?_); refine be_ 3 (cs := #[.int .i64 ab, .int .i64 ac, .int .i64 ae, .int .i64 af]) 31 ?_; intro ax hg w8 hbox hb; have z_ := bx0_ th_ hb hbox hg; clear HB; obtain ⟨HB, a5, ay, az⟩ := z_; clear hb hbox hg) | ((with_reducible refine gate_dst (N := 5) rfl ?_); refine be_ 5 (cs := #[.int .i64 ag, .slice ai a9.length aj, .slice ak aa.length al]) 35 ?_; intro b0 hg w9 hbox hb; have z_ := bx1_ (kb_ a5) th_ hb hbox hg; clear a5 HB; obtain ⟨a5, HB, a6, b1, b2, a7, a8⟩ := z_; clear hb hbox hg; obtain ⟨hnb10, hnc10⟩ := an2_ a7 a8; have b4 := bb4_ a5.out; have b5 := bb3_ a6.out) | ((with_reducible refine gate_callee (f := 19) rfl ?_); refine goesL_ (some 9) rfl rfl Tryz.func19 (by kernel_rfl) rfl #[.agg #[.int .i64 ab, .int .i64 ac, .int .i64 ae, .int .i64 af], .agg #[.int .i64 ag, .slice ai a9.length aj, .slice ak aa.length al]] rfl tq_0 ?_; (with_reducible refine (spec_PartOk.calls k ab ac ae af ag _ _ a9 _ _ aa true _ ?side1 ?side2 ?side3 ?side4 A4.out).mono ?_); (case side1 => exact tq_8); (case side2 => exact am.out); (case side3 => exact tq_9); (case side4 => exact an.out); rintro e bm ⟨rfl, hb⟩; refine ⟨_, rfl, ?_⟩; have z_ := bw2_ (kb_ a5) (kb_ a6) th_ hb; clear a5 a6 HB; obtain ⟨a5, a6, HB⟩ := z_; (try clear hb); have b6 := bb4_ a5.out) | (go_at_call 20; (with_reducible refine (spec_CommitAt.calls ab ac ae af a1 b3 _ A6.out).mono ?_); rintro e bn ⟨rfl, hb⟩; have z_ := bw2_ (kb_ a5) (kb_ a6) th_ hb; clear a5 a6 HB; obtain ⟨a5, a6, HB⟩ := z_; (try clear hb)))
 (try simp only [Act.put, List.setIfInBounds_toArray, List.set_cons_zero, List.set_cons_succ])
 (try clear b4)
 (try clear b5)
 (try clear b6)
 (try clear b4)
 (try clear b5)
 (try clear b6)
 have H := bb.out
 clear bb
 by_cases aw : b3 < 0
 ·rw [if_pos aw] at H
  have ah := decide_eq_true aw
  clear aw
  (first | rw [ah] | (simp only [i64_w, i32_w]; rw [ah]) | skip)
  obtain ⟨b9, hy289⟩ : ∃ y_ : List (S53), y_ = (([] : List (S53))) := ⟨_, rfl⟩
  replace H : (some b9) = some r := by first | (rw [hy289]; with_reducible exact H) | (have H2_ := (Option.bind_some _ _).symm.trans H; rw [hy289]; with_reducible exact H2_) | (have H2_ := (Option.bind_some _ _).symm.trans H; with_reducible exact H2_) | with_reducible exact H | (rw [hy289]; exact H) | exact H
  have Ny289 := Aside0.mk hy289
  clear hy289
  obtain rfl := Option.some.inj H
  go_wp2_with (first | ((with_reducible refine gate_dst (N := 17) rfl ?_); refine Kd.R_lit k53 _ 53 ?hg (N := 17) ?hd (xs := ([] : List (S53))) (inner := []) (ok := fun _ => True) (okp := fun _ => True) ?hr ?hp (fun _ hk => hk) trivial (Below.refl _ _) (Nat.le_refl _) (by simp) ?_; (case hd => rfl); (case hg => rfl); (case hr => first | (go_simp; done) | (go_simp; rfl)); (case hp => exact (Reps.none _ _)); intro v290 bo ho18 hb hg_ hnew_; clear hg_ hnew_; (first | rw [← Ny289.out] at ho18 | (simp only [Int.reduceToNat] at ho18; rw [← Ny289.out] at ho18)); have z_ := p_ (Kd.R_lower ho18 (below_size th_)) <| bw2_ (kb_ a5) (kb_ a6) th_ hb; clear a5 a6 HB; obtain ⟨HO291, a5, a6, HB⟩ := z_; clear hb ho18))
  go_ret
  exact ⟨_, tq_1, (raR_ HO291), th_⟩
 rw [if_neg aw] at H
 have ah := decide_eq_false aw
 clear aw
 (first | rw [ah] | (simp only [i64_w, i32_w]; rw [ah]) | skip)
 obtain ⟨ba, be, H⟩ := bd_ H
 obtain rfl := Option.some.inj H
 obtain ⟨ao, ap⟩ := an2_ a7 a8
 have bf := bb4_ a5.out
 have bg := bb3_ a6.out
 go_wp2_with (first | ((with_reducible refine gate_callee (f := 21) rfl ?_); refine goesL_ (some 21) rfl rfl Tryz.func21 (by kernel_rfl) rfl #[.agg #[.int .i64 ab, .int .i64 ac, .int .i64 ae, .int .i64 af], .int .i64 a1, .agg #[.int .i64 ag, .slice ai a9.length aj, .slice ak aa.length al]] rfl tq_0 ?_; (with_reducible refine (spec_l14Writes.calls k ab ac ae af a1 ag _ _ a9 _ _ aa ba _ ?side1 ?side2 ?side3 ?side4 be.out).mono ?_); (case side1 => exact tq_8); (case side2 => exact am.out); (case side3 => exact tq_9); (case side4 => exact an.out); rintro e bp ⟨v293, rfl, ho0, hb⟩; refine ⟨_, rfl, ?_⟩; have z_ := p_ (Kd.R_lower ho0 (below_size th_)) <| bw2_ (kb_ a5) (kb_ a6) th_ hb; clear a5 a6 HB; obtain ⟨HO294, a5, a6, HB⟩ := z_; (try clear hb); (try clear ho0)))
 go_ret
 exact ⟨_, tq_1, (raR_ HO294), th_⟩

/-! ### laws_toGeo: function 7 -/
def laws_toGeo.f (a0_0 : Int) (a0_1 : Int) (a0_2 : Int) (a0_3 : Int) : Option (Int × Int × Int × Int) := some (a0_0, a0_1, a0_2, a0_3)
set_option maxHeartbeats 8000000 in
set_option maxRecDepth 100000 in
theorem laws_toGeo.calls (ae : Int) (af : Int) (ag : Int) (ah : Int) (r1 : Int) (r2 : Int) (r3 : Int) (r4 : Int) (w : World) (h : laws_toGeo.f ae af ag ah = some (r1, r2, r3, r4)) :
  Calls Tryz.prog 7 #[.agg #[.int .i64 ae, .int .i64 af, .int .i64 ag, .int .i64 ah]] w fun e w' => e = .returned (.agg #[.int .i64 r1, .int .i64 r2, .int .i64 r3, .int .i64 r4]) ∧ Below w.heap.size w w' := by
 have hu23 := Tryz.underlying23
 have hu31 := Tryz.underlying31
 have HB := Aside0.mk (Below.refl w.heap.size w)
 unfold laws_toGeo.f at h
 have H := h
 clear h
 simp only [Option.some.injEq, Prod.mk.injEq] at H
 obtain ⟨rfl, rfl, rfl, rfl⟩ := H
 go_enter Tryz.func7, Tryz.ntmps7
 go_wp2_with (first | ((with_reducible refine gate_dst (N := 1) rfl ?_); refine be_ 1 (cs := #[.int .i64 ae, .int .i64 af, .int .i64 ag, .int .i64 ah]) 23 ?_; intro ak hg w2 hbox hb; have z_ := bx0_ th_ hb hbox hg; clear HB; obtain ⟨HB, a5, al, am⟩ := z_; clear hb hbox hg) | ((with_reducible refine gate_dst (N := 2) rfl ?_); refine be_ 2 (cs := #[.int .i64 0, .int .i64 0, .int .i64 0, .int .i64 0]) 31 ?_; intro ai hg w3 hbox hb; have z_ := bx1_ (kb_ a5) th_ hb hbox hg; clear a5 HB; obtain ⟨a5, HB, a6, an, ao, a7, a8⟩ := z_; clear hb hbox hg) | ((with_reducible refine gate_dst (N := 3) rfl ?_); refine be_ 3 (cs := #[.int .i64 0, .int .i64 0, .int .i64 0, .int .i64 0]) 31 ?_; intro ap hg w4 hbox hb; have z_ := bx2_ (kb_ a5) (kb_ a6) th_ hb hbox hg; clear a5 a6 HB; obtain ⟨a5, a6, HB, aj, aq, ar, a9, aa, ab, ac⟩ := z_; clear hb hbox hg; obtain ⟨hnb5, hnc5, hnb6, hnc6⟩ := an4_ a7 a8 a9 aa; have av := bb4_ a5.out; obtain ⟨hnb8, hnc8⟩ := an2_ ac ab; have aw := bb4_ aj.out; have au := bb4_ a6.out))
 refine bodyPost_ret (results_cell_row rfl _ _ ai 31 #[.int .i64 ae, .int .i64 af, .int .i64 ag, .int .i64 ah] (0, 0) _ rfl tb_ Tryz.underlying31 rfl (by kernel_rfl)) rfl ?_
 exact ⟨tq_1, th_⟩

/-! ### laws_toIntS: function 22 -/
def laws_toIntS.l0 : Nat → List Int → List Int → Int → Option (List Int)
 | 0, _, _, _ => none
 | k + 1, x0, x3, x4 => if x4 < (x0.length : Int) then (if 0 ≤ x4 then (if x4 < (x3.length : Int) then (laws_toIntS.l0 k x0 (x3.set (x4 : Int).toNat (rd x0 x4)) (wrap64 (x4 + 1))) else (none)) else (none)) else (some x3)
def laws_toIntS.f (k : Nat) (l0 : List Int) : Option (List Int) := if 0 ≤ (l0.length : Int) then (if ((l0.length : Int) : Int).toNat ≤ 35184372088832 then (laws_toIntS.l0 k l0 (List.replicate ((l0.length : Int) : Int).toNat 0) 0) else (none)) else (none)
set_option maxHeartbeats 8000000 in
set_option maxRecDepth 100000 in
theorem laws_toIntS.calls (k : Nat) (A0 : Option Addr) (c0 : Nat) (l0 : List Int) (r : List Int) (w : World) (hr0 : Kd.C (Kd.int .i64) w A0 l0.length l0) (hc0 : l0.length ≤ c0) (h : laws_toIntS.f k l0 = some r) :
  Calls Tryz.prog 22 #[.slice A0 l0.length c0] w fun e w' => ∃ v0_ : Value, e = .returned (v0_) ∧ Kd.R (Kd.int .i64) 3 w' w.heap.size (fun _ => True) v0_ r ∧ Below w.heap.size w w' := by
 have HR0 := Aside0.mk hr0
 have ax := Aside0.mk hc0
 clear hr0 hc0
 have HB := Aside0.mk (Below.refl w.heap.size w)
 unfold laws_toIntS.f at h
 have H := h
 clear h
 obtain ⟨c2, H⟩ := fc_ H
 have ab := eq_true c2
 have ac := decide_eq_true c2
 clear c2
 obtain ⟨c3, H⟩ := fc_ H
 have ae := eq_true c3
 have af := decide_eq_true c3
 clear c3
 obtain ⟨aa, hy301⟩ : ∃ y_ : List Int, y_ = (List.replicate ((l0.length : Int) : Int).toNat 0) := ⟨_, rfl⟩
 replace H : (laws_toIntS.l0 k l0 aa 0) = some r := by first | (rw [hy301]; with_reducible exact H) | (have H2_ := (Option.bind_some _ _).symm.trans H; rw [hy301]; with_reducible exact H2_) | (have H2_ := (Option.bind_some _ _).symm.trans H; with_reducible exact H2_) | with_reducible exact H | (rw [hy301]; exact H) | exact H
 have Ny301 := Aside0.mk hy301
 clear hy301
 have H' := Aside0.mk H
 clear H
 go_enter Tryz.func22, Tryz.ntmps22
 go_wp2_with (first | ((with_reducible refine gate_dst (N := 7) rfl ?_); refine Kd.R_make (Kd.int .i64) _ 3 rfl (N := 7) rfl 24 _ _ rfl (l0.length : Int) rfl rfl Tryz.underlying24 (.int .i64 0) 8 info3 rfl (by decide) (by omega) 0 (ok := fun _ => True) (okp := fun _ => True) rfl (fun _ hk => hk) trivial (of_decide_eq_true tq_2) (Nat.le_trans (Nat.mul_le_mul_right _ (of_decide_eq_true tq_2 : (l0.length : Int).toNat ≤ 35184372088832)) (by omega)) (Below.refl _ _) (Nat.le_refl _) ?_; intro v302 w4 ho5 hb hg_ hnew_; clear hg_ hnew_; (first | rw [← Ny301.out] at ho5 | (simp only [Int.reduceToNat] at ho5; rw [← Ny301.out] at ho5)); have z_ := p_ (Kd.R_lower ho5 (below_size th_)) <| a_ (below_step th_ hb); clear HB; obtain ⟨HO303, HB⟩ := z_; clear hb ho5))
 go_loopg [4] k (fun kq v4 w' => ∃ (a8 : List Int) (a5 : Int), v4 = .int .i64 a5 ∧ Aside0 (laws_toIntS.l0 kq l0 a8 a5 = some r) ∧ Aside0 (kq ≤ k) ∧ Aside0 (Kd.R (Kd.int .i64) 3 w' w.heap.size (fun _ => True) v302 a8) ∧ Aside0 (Below w.heap.size w w'))
 case atStart => exact ⟨(aa), (0), tq_3, H', ⟨Nat.le_refl _⟩, ⟨(raR_ HO303)⟩, ⟨th_⟩⟩
 case round =>
 clear H'
 try clear c2; try clear ab; try clear ac; try clear p2; try clear c3; try clear ae; try clear af
 obtain ⟨a8, a5, rfl, HA, HK1, a6, HB⟩ := hrel
 cases gk with
 | zero => exact absurd HA.out (by simp [laws_toIntS.l0])
 | succ k1 =>
 have H := HA.out
 clear HA
 simp only [laws_toIntS.l0] at H
 by_cases c6 : a5 < (l0.length : Int)
 rotate_left
 ·rw [if_neg c6] at H
  have ag := decide_eq_false c6
  clear c6
  obtain rfl := Option.some.inj H
  go_wp2
  go_ret
  exact ⟨_, tq_1, (raR_ a6), th_⟩
 rw [if_pos c6] at H
 have ag := decide_eq_true c6
 clear c6
 obtain ⟨c7, H⟩ := fc_ H
 have aq := decide_eq_true c7
 clear c7
 obtain ⟨c8, H⟩ := fc_ H
 have ar := decide_eq_true c8
 clear c8
 obtain ⟨a9, hy305⟩ : ∃ y_ : List Int, y_ = (a8.set (a5 : Int).toNat (rd l0 a5)) := ⟨_, rfl⟩
 replace H : (laws_toIntS.l0 k1 l0 a9 (wrap64 (a5 + 1))) = some r := by first | (rw [hy305]; with_reducible exact H) | (have H2_ := (Option.bind_some _ _).symm.trans H; rw [hy305]; with_reducible exact H2_) | (have H2_ := (Option.bind_some _ _).symm.trans H; with_reducible exact H2_) | with_reducible exact H | (rw [hy305]; exact H) | exact H
 have Ny305 := Aside0.mk hy305
 clear hy305
 have H' := Aside0.mk H
 clear H
 have p304 : 0 ≤ (a5 : Int) := of_decide_eq_true tq_2
 have q304 : a5 < (l0.length : Int) := of_decide_eq_true tq_2
 obtain ⟨ak, ah, a7⟩ := Kd.at_int HR0.out a5 p304 q304
 cases ah
 replace a7 := hx_ HB.out a7
 replace p304 := eq_true p304
 replace q304 := eq_true q304
 have p9 : 0 ≤ (a5 : Int) := of_decide_eq_true tq_2
 have q9 : (a5 : Int) < ((a8.length : Int) : Int) := of_decide_eq_true tq_2
 obtain ⟨ai, au, al, am, av, ay, an⟩ := Kd.R_form a6.out (by omega)
 (first | cases al | (injection al with ea_ en_ ec_; (first | subst ea_ | (injection ea_ with ea_; subst ea_)); subst ec_; clear en_))
 have aw := Aside0.mk am
 have az := Aside0.mk an
 clear am av an
 obtain ⟨ao, ap⟩ := Kd.R_celln 0 a6.out (a5 : Int) p9 q9
 replace p9 := eq_true p9
 replace q9 := eq_true q9
 have HP10 := Kd.R_putg a6.out (a5 : Int) (rd l0 a5)
 go_wp2_with (first | ((with_reducible refine gate_store (t := 3) (p := 20) rfl ?_); refine store_event (t := 3) (p := 20) (v := ?vo_w11) (w1 := (wr.setCell ⟨ai, (a5 : Int).toNat, none⟩ (.int .i64 (rd l0 a5)))) ?hg ?ho ?hn ?hr ?_; (case ho => rfl); (case hg => rfl); (case hn => rfl); (case hr => first | (go_simp; done) | (go_simp; rfl)); intro aj hw; have hg : wr.grownBy aj (some ai) := (by rw [hw]; exact HP10.2); have hp_ : Kd.R (Kd.int .i64) 3 aj w.heap.size (fun _ => True) (.slice (some ⟨ai, 0, none⟩) a8.length au) a9 := (by rw [hw, Ny305.out]; exact HP10.1); clear HP10; have z_ := p_ (hp_) <| a_ ((by rw [hw]; exact below_set (HB.out) aw.out : Below w.heap.size w aj)); clear a6 HB; obtain ⟨a6, HB⟩ := z_; clear hg hw hp_))
 go_roundg k1
 case measure => have := HK1.out; omega
 case rel => exact ⟨(a9), (wrap64 (a5 + 1)), tq_3, H', ⟨tq_15⟩, ⟨(raR_ a6)⟩, ⟨th_⟩⟩

/-! ### laws_toRec: function 94 -/
def laws_toRec.f (a0_0 : Int) (a0_1 : Int) (a0_2 : ByteArray) : Option (Int × Int × ByteArray) := some (a0_0, a0_1, a0_2)
set_option maxHeartbeats 8000000 in
set_option maxRecDepth 100000 in
theorem laws_toRec.calls (ae : Int) (af : Int) (ag : ByteArray) (r1 : Int) (r2 : Int) (r3 : ByteArray) (w : World) (h : laws_toRec.f ae af ag = some (r1, r2, r3)) :
  Calls Tryz.prog 94 #[.agg #[.int .i64 ae, .int .i64 af, .string ag]] w fun e w' => e = .returned (.agg #[.int .i64 r1, .int .i64 r2, .string r3]) ∧ Below w.heap.size w w' := by
 have hu107 := Tryz.underlying107
 have hu89 := Tryz.underlying89
 have HB := Aside0.mk (Below.refl w.heap.size w)
 unfold laws_toRec.f at h
 have H := h
 clear h
 simp only [Option.some.injEq, Prod.mk.injEq] at H
 obtain ⟨rfl, rfl, rfl⟩ := H
 go_enter Tryz.func94, Tryz.ntmps94
 go_wp2_with (first | ((with_reducible refine gate_dst (N := 1) rfl ?_); refine be_ 1 (cs := #[.int .i64 ae, .int .i64 af, .string ag]) 107 ?_; intro aj hg w2 hbox hb; have z_ := bx0_ th_ hb hbox hg; clear HB; obtain ⟨HB, a5, ak, al⟩ := z_; clear hb hbox hg) | ((with_reducible refine gate_dst (N := 2) rfl ?_); refine be_ 2 (cs := #[.int .i64 0, .int .i64 0, .string (⟨#[]⟩ : ByteArray)]) 89 ?_; intro ah hg w3 hbox hb; have z_ := bx1_ (kb_ a5) th_ hb hbox hg; clear a5 HB; obtain ⟨a5, HB, a6, am, an, a7, a8⟩ := z_; clear hb hbox hg) | ((with_reducible refine gate_dst (N := 3) rfl ?_); refine be_ 3 (cs := #[.int .i64 0, .int .i64 0, .string (⟨#[]⟩ : ByteArray)]) 89 ?_; intro ao hg w4 hbox hb; have z_ := bx2_ (kb_ a5) (kb_ a6) th_ hb hbox hg; clear a5 a6 HB; obtain ⟨a5, a6, HB, ai, ap, aq, a9, aa, ab, ac⟩ := z_; clear hb hbox hg; obtain ⟨hnb5, hnc5, hnb6, hnc6⟩ := an4_ a7 a8 a9 aa; have au := bb3_ a5.out; obtain ⟨hnb8, hnc8⟩ := an2_ ac ab; have av := bb3_ ai.out; have ar := bb3_ a6.out))
 refine bodyPost_ret (results_cell_row rfl _ _ ah 89 #[.int .i64 ae, .int .i64 af, .string ag] (0, 0) _ rfl tb_ Tryz.underlying89 rfl (by kernel_rfl)) rfl ?_
 exact ⟨tq_1, th_⟩

end Go.Proofs.YtleoknilacjakaaGreat.PFnExactPartWrites
