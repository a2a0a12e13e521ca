/- Contracts of Go functions: each call returns what the Lean function beside it computes. Conditions: as each theorem states them. -/
import Derived.Test.YtleoknilacjakaaGreatPkFnExactChanged
import Derived.Test.YtleoknilacjakaaGreatPFnExactChangedx1
import Derived.Test.YtleoknilacjakaaGreatPFnExactChangedx17
import Derived.Test.YtleoknilacjakaaGreatPFnExactChangedx18
import Derived.Test.YtleoknilacjakaaGreatPFnExactChangedx19
import Derived.Test.YtleoknilacjakaaGreatPFnExactChangedx25
namespace Go.Proofs.YtleoknilacjakaaGreat.PFnExactChanged
open Go.RowKit Go.Proofs.YtleoknilacjakaaGreatW.PrintWords Go.Proofs.YtleoknilacjakaaGreatW.PrintLast Go.Proofs.YtleoknilacjakaaGreatW.PrintMore
attribute [local go_sem] max2_int min2_int max_two min_two max_three min_three max_four min_four   -- for this text's walks alone
set_option linter.unusedVariables false
set_option linter.unusedSimpArgs false

/-! ### impl_inodeText: function 56 -/
mutual
def impl_inodeText.l0 : Nat → List ByteArray → List (S89) → Int → Int → Int → Int → Int → ByteArray → List (S89) → List (S72) → Option (List ByteArray)
 | 0, _, _, _, _, _, _, _, _, _, _ => none
 | k + 1, x3, ac, af, ab, a6, a7, a8, a9, aa, a5 => if ab < af then (if 0 ≤ ab then (if ab < (ac.length : Int) then ((impl_RecWord.f k ((rd_T89 ac ab).f0) ((rd_T89 ac ab).f1) ((rd_T89 ac ab).f2)).bind fun ae => (if x3.length < 8796093022208 then (impl_inodeText.l0 k (x3 ++ [ae]) ac af (wrap64 (ab + 1)) a6 a7 a8 a9 aa a5) else (none))) else (none)) else (none)) else (impl_inodeText.l1 k x3 a5 (a5.length : Int) 0)
def impl_inodeText.l1 : Nat → List ByteArray → List (S72) → Int → Int → Option (List ByteArray)
 | 0, _, _, _, _ => none
 | k + 1, x3, a6, a8, a5 => if a5 < a8 then (if 0 ≤ a5 then (if a5 < (a6.length : Int) then ((impl_EntryWord.f k ((rd_T72 a6 a5).f0) ((rd_T72 a6 a5).f1)).bind fun a7 => (if x3.length < 8796093022208 then (impl_inodeText.l1 k (x3 ++ [a7]) a6 a8 (wrap64 (a5 + 1))) else (none))) else (none)) else (none)) else (impl_inodeText.l2 k x3)
def impl_inodeText.l2 : Nat → List ByteArray → Option (List ByteArray)
 | 0, _ => none
 | k + 1, x3 => if (x3.length : Int) < 8 then ((impl_zeroWord.f).bind fun a5 => (if x3.length < 8796093022208 then (impl_inodeText.l2 k (x3 ++ [a5])) else (none))) else (some x3)
end
def impl_inodeText.f (k : Nat) (a8 : Int) (a9 : Int) (aa : Int) (ab : ByteArray) (a5 : List (S89)) (ae : List (S72)) : Option (List ByteArray) := (impl_NumText.f k a8 1).bind fun a6 => ((impl_NumText.f k a9 2).bind fun a7 => (if a6.size + a7.size ≤ 9223372036854775807 then ((impl_NumText.f k aa 2).bind fun ac => (if (a6 ++ a7).size + ac.size ≤ 9223372036854775807 then ((impl_WordText.f ((a6 ++ a7) ++ ac)).bind fun af => ((impl_WordText.f ab).bind fun ag => (impl_inodeText.l0 k (([af, ag] : List ByteArray)) a5 (a5.length : Int) 0 a8 a9 aa ab a5 ae))) else (none))) else (none)))
def impl_inodeText.T1 : Bool × List (List Nat × List Nat) := (true, [([], []), ([0], [0]), ([1], [1]), ([], []), ([3], [3]), ([4, 2], [4]), ([2, 5], [2, 5]), ([], []), ([7], [7]), ([8, 5], [8]), ([6, 9], [6, 9]), ([10, 9], [10]), ([], []), ([12], [12]), ([13, 11], [13]), ([11, 14], [11, 14]), ([15, 14, 0, 1, 2, 3, 4, 5, 6, 7, 8, 9, 10, 11, 12, 13, 14, 15], [15])])
def impl_inodeText.B1 : List Nat := [0, 1, 3, 0, 8, 31, 63, 0, 128, 447, 1023, 2047, 0, 4096, 16383, 32767, 65535]
theorem impl_inodeText.tab1 : rtab .any (opsOf Tryz.f56 1) = impl_inodeText.T1 := by kernel_rfl
theorem impl_inodeText.bits1 : waitsOk impl_inodeText.T1.2 impl_inodeText.B1 = true := by kernel_rfl
set_option maxHeartbeats 8000000 in
set_option maxRecDepth 100000 in
theorem impl_inodeText.calls (k : Nat) (ab : Int) (ac : Int) (ae : Int) (af : ByteArray) (ap : Option Addr) (ak : Nat) (l0_4 : List (S89)) (aq : Option Addr) (al : Nat) (a7 : List (S72)) (r : List ByteArray) (w : World) (be : Kd.C k89 w ap l0_4.length l0_4) (bf : l0_4.length ≤ ak) (bg : Kd.C k72 w aq a7.length a7) (bh : a7.length ≤ al) (h : impl_inodeText.f k ab ac ae af l0_4 a7 = some r) :
  Calls Tryz.prog 56 #[.agg #[.int .i64 ab, .int .i64 ac, .int .i64 ae, .string af, .slice ap l0_4.length ak, .slice aq a7.length al]] w fun e w' => ∃ v0_ : Value, e = .returned (v0_) ∧ Kd.R Kd.string 9 w' w.heap.size (fun _ => True) v0_ r ∧ Below w.heap.size w w' := by
 have hu69 := Tryz.underlying69
 have hu89 := Tryz.underlying89
 have hu72 := Tryz.underlying72
 have HR0_4 := Aside0.mk be
 have cy := Aside0.mk bf
 clear be bf
 have HR0_5 := Aside0.mk bg
 have cz := Aside0.mk bh
 clear bg bh
 have HB := Aside0.mk (Below.refl w.heap.size w)
 unfold impl_inodeText.f at h
 have H := h
 clear h
 obtain ⟨ay, A2, H⟩ := bd_ H
 obtain ⟨az, A3, H⟩ := bd_ H
 obtain ⟨c4, H⟩ := fc_ H
 have br := eq_true c4
 have bs := decide_eq_true c4
 try have bu : (9223372036854775807 < ay.size + az.size) = False := eq_false (Nat.not_lt.2 c4)
 obtain ⟨b7, A5, H⟩ := bd_ H
 obtain ⟨c6, H⟩ := fc_ H
 have bv := eq_true c6
 have bw := decide_eq_true c6
 try have b9 : (9223372036854775807 < (ay ++ az).size + b7.size) = False := eq_false (Nat.not_lt.2 c6)
 try have c6b2s : (9223372036854775807 < ay.size + az.size + b7.size) = False := by rw [← ByteArray.size_append]; exact b9
 obtain ⟨b0, A7, H⟩ := bd_ H
 obtain ⟨b1, A8, H⟩ := bd_ H
 obtain ⟨ca, hy578⟩ : ∃ y_ : List ByteArray, y_ = (([b0, b1] : List ByteArray)) := ⟨_, rfl⟩
 replace H : (impl_inodeText.l0 k ca l0_4 (l0_4.length : Int) 0 ab ac ae af l0_4 a7) = some r := by first | (rw [hy578]; with_reducible exact H) | (have H2_ := (Option.bind_some _ _).symm.trans H; rw [hy578]; with_reducible exact H2_) | (have H2_ := (Option.bind_some _ _).symm.trans H; with_reducible exact H2_) | with_reducible exact H | (rw [hy578]; exact H) | exact H
 have Ny578 := Aside0.mk hy578
 clear hy578
 have H' := Aside0.mk H
 clear H
 go_enter Tryz.func56, Tryz.ntmps56
 try go_wp2_with (first | ((with_reducible refine gate_dst (N := 1) rfl ?_); refine be_ 1 (cs := #[.int .i64 ab, .int .i64 ac, .int .i64 ae, .string af, .slice ap l0_4.length ak, .slice aq a7.length al]) 69 ?_; intro aa hg w9 hbox hb; have z_ := bx0_ th_ hb hbox hg; clear HB; obtain ⟨HB, a5, d0, d1⟩ := z_; clear hb hbox hg))
 have z_ := dw1_ a5 HB
 clear a5 HB
 obtain ⟨a5, HB⟩ := z_
 refine start_ (n := 17) (S := fun w' => w'.cell? ⟨aa, 0, none⟩ = some (.int .i64 ab) ∧ w'.cell? ⟨aa, 1, none⟩ = some (.int .i64 ac) ∧ w'.cell? ⟨aa, 2, none⟩ = some (.int .i64 ae) ∧ w'.cell? ⟨aa, 3, none⟩ = some (.string af) ∧ w'.cell? ⟨aa, 4, none⟩ = some (.slice ap l0_4.length ak) ∧ w'.cell? ⟨aa, 5, none⟩ = some (.slice aq a7.length al)) (ds := []) bq_112 (by kernel_rfl) rfl rfl (bk6_ a5.out) (fun hHeld => ?_); refine with_tabW impl_inodeText.tab1 impl_inodeText.bits1 (fun HT_ HW_ => ?_)
 generalize w9.drew = db at a5 HB hHeld ⊢
 refine yr_ 0 8 bq_113 HT_ ?_
 refine yr_ 3 11 bq_114 HT_ ?_
 refine yr_ 7 15 bq_115 HT_ ?_
 refine yr_ 12 20 bq_116 HT_ ?_
 refine tr_ 1 9 bq_117 HT_ HW_ hHeld ?_
 refine tr_ 4 12 bq_118 HT_ HW_ hHeld ?_
 refine tr_ 8 16 bq_119 HT_ HW_ hHeld ?_
 refine tr_ 13 21 bq_120 HT_ HW_ hHeld ?_
 refine one_ (i := 2) (N := some 10) bq_121 rfl rfl (one_of HT_.out (by kernel_rfl)) (by decide) (fun K hK => ?_)
 refine goes_ Tryz.func84 (by kernel_rfl) rfl #[.int .i64 ab, .int .i64 1] (by rfl) rfl rfl tq_0 ?_
 with_reducible refine (impl_NumText.calls k ab 1 ay _ A2.out).mono ?_
 rintro e dc ⟨rfl, hb⟩
 refine ⟨_, rfl, ?_⟩
 have z_ := bw1_ (kb_ a5) th_ hb
 clear a5 HB
 obtain ⟨a5, HB⟩ := z_
 (try clear hb)
 refine hK.out _ _ (bk6_ a5.out) (fun hHeld => ?_)
 clear hK K
 refine nm_ (some 10) ?_
 refine one_ (i := 5) (N := some 13) bq_122 rfl rfl (one_of HT_.out (by kernel_rfl)) (by decide) (fun K hK => ?_)
 refine goes_ Tryz.func84 (by kernel_rfl) rfl #[.int .i64 ac, .int .i64 2] (by rfl) rfl rfl tq_0 ?_
 with_reducible refine (impl_NumText.calls k ac 2 az _ A3.out).mono ?_
 rintro e dd ⟨rfl, hb⟩
 refine ⟨_, rfl, ?_⟩
 have z_ := bw1_ (kb_ a5) th_ hb
 clear a5 HB
 obtain ⟨a5, HB⟩ := z_
 (try clear hb)
 refine hK.out _ _ (bk6_ a5.out) (fun hHeld => ?_)
 clear hK K
 refine nm_ (some 13) ?_
 refine yr_ 6 14 bq_123 HT_ ?_
 refine one_ (i := 9) (N := some 17) bq_124 rfl rfl (one_of HT_.out (by kernel_rfl)) (by decide) (fun K hK => ?_)
 refine goes_ Tryz.func84 (by kernel_rfl) rfl #[.int .i64 ae, .int .i64 2] (by rfl) rfl rfl tq_0 ?_
 with_reducible refine (impl_NumText.calls k ae 2 b7 _ A5.out).mono ?_
 rintro e de ⟨rfl, hb⟩
 refine ⟨_, rfl, ?_⟩
 have z_ := bw1_ (kb_ a5) th_ hb
 clear a5 HB
 obtain ⟨a5, HB⟩ := z_
 (try clear hb)
 refine hK.out _ _ (bk6_ a5.out) (fun hHeld => ?_)
 clear hK K
 refine nm_ (some 17) ?_
 refine yr_ 10 18 bq_125 HT_ ?_
 refine one_ (i := 11) (N := some 19) bq_126 rfl rfl (one_of HT_.out (by kernel_rfl)) (by decide) (fun K hK => ?_)
 refine goes_ Tryz.func83 (by kernel_rfl) rfl #[.string ((ay ++ az) ++ b7)] (by rfl) rfl rfl tq_0 ?_
 with_reducible refine (impl_WordText.calls ((ay ++ az) ++ b7) b0 _ A7.out).mono ?_
 rintro e df ⟨rfl, hb⟩
 refine ⟨_, rfl, ?_⟩
 have z_ := bw1_ (kb_ a5) th_ hb
 clear a5 HB
 obtain ⟨a5, HB⟩ := z_
 (try clear hb)
 refine hK.out _ _ (bk6_ a5.out) (fun hHeld => ?_)
 clear hK K
 refine nm_ (some 19) ?_
 refine one_ (i := 14) (N := some 22) bq_127 rfl rfl (one_of HT_.out (by kernel_rfl)) (by decide) (fun K hK => ?_)
 refine goes_ Tryz.func83 (by kernel_rfl) rfl #[.string af] (by rfl) rfl rfl tq_0 ?_
 with_reducible refine (impl_WordText.calls af b1 _ A8.out).mono ?_
 rintro e dg ⟨rfl, hb⟩
 refine ⟨_, rfl, ?_⟩
 have z_ := bw1_ (kb_ a5) th_ hb
 clear a5 HB
 obtain ⟨a5, HB⟩ := z_
 (try clear hb)
 refine hK.out _ _ (bk6_ a5.out) (fun hHeld => ?_)
 clear hK K
 refine nm_ (some 22) ?_
 refine one_ (i := 15) (N := some 23) bq_128 rfl rfl (one_of HT_.out (by kernel_rfl)) (by decide) (fun K hK => ?_)
 refine Kd.R_lit_step Kd.string _ 9 ?hg (N := 23) ?hd (xs := ([b0, b1] : List ByteArray)) (inner := [.string b0, .string b1]) (ok := fun _ => True) (okp := fun _ => True) ?hr ?hp (fun _ hk => hk) trivial (Below.refl _ _) (Nat.le_refl _) (by simp) ?_; (case hd => rfl); (case hg => rfl); (case hr => first | (go_simp; done) | (go_simp; rfl)); (case hp => exact (Reps.one (show Kd.M Kd.string _ _ _ b0 [.string b0] from rfl) (Reps.one (show Kd.M Kd.string _ _ _ b1 [.string b1] from rfl) (Reps.none _ _))))
 intro v579 dh ho17 hb hg_ hnew_
 clear hg_ hnew_
 (first | rw [← Ny578.out] at ho17 | (simp only [Int.reduceToNat] at ho17; rw [← Ny578.out] at ho17))
 have z_ := p_ (Kd.R_lower ho17 (below_size th_)) <| bw1_ (kb_ a5) th_ hb
 clear a5 HB
 obtain ⟨HO580, a5, HB⟩ := z_
 clear hb ho17
 refine hK.out _ _ (bk6_ a5.out) (fun hHeld => ?_)
 clear hK K
 refine nm_ (some 23) ?_
 refine yr_ 16 3 bq_129 HT_ ?_
 refine done_ (done_of HT_.out (by kernel_rfl)) ?_
 have ax := bb6_ a5.out
 try go_wp2
 go_loopg [3, 27] k (fun kq v3 v27 w' => ∃ (b2 : List ByteArray) (a6 : Int), v27 = .int .i64 a6 ∧ Aside0 (impl_inodeText.l0 kq b2 l0_4 (l0_4.length : Int) a6 ab ac ae af l0_4 a7 = some r) ∧ Aside0 (kq ≤ k) ∧ Aside0 (Kd.R Kd.string 9 w' w.heap.size (fun _ => True) v3 b2) ∧ Aside0 (w'.heap[aa]? = some (.cells #[.int .i64 ab, .int .i64 ac, .int .i64 ae, .string af, (.slice ap l0_4.length ak), (.slice aq a7.length al)] 69 (0, 0))) ∧ Aside0 (Below w.heap.size w w'))
 case atStart => exact ⟨(ca), (0), tq_3, H', ⟨Nat.le_refl _⟩, ⟨(raR_ HO580)⟩, ⟨(kb_ a5)⟩, ⟨th_⟩⟩
 case round =>
 clear H'
 try clear p2; try clear c4; try clear br; try clear bs; try clear bu; try clear c5; try clear c6; try clear bv; try clear bw; try clear b9; try clear c8; try clear ax
 obtain ⟨b2, a6, rfl, HA, HK1, a8, a5, HB⟩ := hrel
 cases gk with
 | zero => exact absurd HA.out (by simp [impl_inodeText.l0])
 | succ k1 =>
 have H := HA.out
 clear HA
 simp only [impl_inodeText.l0] at H
 by_cases bi : a6 < (l0_4.length : Int)
 ·rw [if_pos bi] at H
  have b8 := decide_eq_true bi
  clear bi
  obtain ⟨cn, H⟩ := fc_ H
  have bj := decide_eq_true cn
  clear cn
  obtain ⟨co, H⟩ := fc_ H
  have bl := decide_eq_true co
  clear co
  obtain ⟨ba, d7, H⟩ := bd_ H
  obtain ⟨cp, H⟩ := fc_ H
  have LMc23 := Aside0.mk cp
  clear cp
  obtain ⟨cb, hy584⟩ : ∃ y_ : List ByteArray, y_ = (b2 ++ [ba]) := ⟨_, rfl⟩
  replace H : (impl_inodeText.l0 k1 cb l0_4 (l0_4.length : Int) (wrap64 (a6 + 1)) ab ac ae af l0_4 a7) = some r := by first | (rw [hy584]; with_reducible exact H) | (have H2_ := (Option.bind_some _ _).symm.trans H; rw [hy584]; with_reducible exact H2_) | (have H2_ := (Option.bind_some _ _).symm.trans H; with_reducible exact H2_) | with_reducible exact H | (rw [hy584]; exact H) | exact H
  have Ny584 := Aside0.mk hy584
  clear hy584
  have H' := Aside0.mk H
  clear H
  have p581 : 0 ≤ (a6 : Int) := of_decide_eq_true tq_2
  have q581 : a6 < (l0_4.length : Int) := of_decide_eq_true tq_2
  obtain ⟨bm, cq, am, an, ao⟩ := at_T89 HR0_4.out a6 p581 q581
  cases cq
  replace am := hx_ HB.out am
  replace an := hx_ HB.out an
  replace ao := hx_ HB.out ao
  replace p581 := eq_true p581
  replace q581 := eq_true q581
  go_wp2_with (first | ((with_reducible refine gate_dst (N := 5) rfl ?_); refine be_ 5 (cs := #[.int .i64 0, .int .i64 0, .string (⟨#[]⟩ : ByteArray)]) 89 ?_; intro bn hg di hbox hb; have z_ := p_ (Kd.R_below (raR_ a8) hb) <| bx1_ (kb_ a5) th_ hb hbox hg; clear a8 a5 HB; obtain ⟨a8, a5, HB, ah, d2, d3, ag, b3⟩ := z_; clear hb hbox hg; obtain ⟨cc, cd⟩ := an2_ b3 ag; have bb := bb3_ ah.out) | ((with_reducible refine gate_callee (f := 85) rfl ?_); refine goesL_ (some 33) rfl rfl Tryz.func85 (by kernel_rfl) rfl #[.agg #[.int .i64 ((rd_T89 l0_4 a6).f0), .int .i64 ((rd_T89 l0_4 a6).f1), .string ((rd_T89 l0_4 a6).f2)]] rfl tq_0 ?_; (with_reducible refine (impl_RecWord.calls k1 ((rd_T89 l0_4 a6).f0) ((rd_T89 l0_4 a6).f1) ((rd_T89 l0_4 a6).f2) ba _ d7.out).mono ?_); rintro e dj ⟨rfl, hb⟩; refine ⟨_, rfl, ?_⟩; have z_ := p_ (Kd.R_below (by (with_reducible repeat (first | apply Kd.R_alloc | apply Kd.R_drewN | apply Kd.R_drew)); exact (Kd.R_mono (rR_ (rR_ (rR_ (Kd.R_types a8.out ah.out (by decide))))) (fun _ h_ => h_.1))) hb) <| p_ (blk_below (g := aa) (o := .cells #[.int .i64 ab, .int .i64 ac, .int .i64 ae, .string af, .slice (some bm) l0_4.length ak, .slice aq a7.length al] 69 (0, 0)) (by (with_reducible repeat (first | refine blk_drewN ?_ _ | refine blk_drew ?_ | refine blk_alloc ?_ _)); refine blk_far ?_ ag.out _; (with_reducible repeat (first | refine blk_drewN ?_ _ | refine blk_drew ?_ | refine blk_alloc ?_ _)); refine blk_far ?_ ag.out _; (with_reducible repeat (first | refine blk_drewN ?_ _ | refine blk_drew ?_ | refine blk_alloc ?_ _)); refine blk_far ?_ ag.out _; (with_reducible repeat (first | refine blk_drewN ?_ _ | refine blk_drew ?_ | refine blk_alloc ?_ _)); exact a5.out) hb) <| p_ (blk_below (g := bn) (o := .cells #[.int .i64 ((rd_T89 l0_4 a6).f0), .int .i64 ((rd_T89 l0_4 a6).f1), .string ((rd_T89 l0_4 a6).f2)] 89 (0, 0)) (by (with_reducible repeat (first | refine blk_drewN ?_ _ | refine blk_drew ?_ | refine blk_alloc ?_ _)); refine blk_put (cs := #[.int .i64 ((rd_T89 l0_4 a6).f0), .int .i64 ((rd_T89 l0_4 a6).f1), .string (⟨#[]⟩ : ByteArray)]) ?_ 2 _ rfl; (with_reducible repeat (first | refine blk_drewN ?_ _ | refine blk_drew ?_ | refine blk_alloc ?_ _)); refine blk_put (cs := #[.int .i64 ((rd_T89 l0_4 a6).f0), .int .i64 0, .string (⟨#[]⟩ : ByteArray)]) ?_ 1 _ rfl; (with_reducible repeat (first | refine blk_drewN ?_ _ | refine blk_drew ?_ | refine blk_alloc ?_ _)); refine blk_put (cs := #[.int .i64 0, .int .i64 0, .string (⟨#[]⟩ : ByteArray)]) ?_ 0 _ rfl; (with_reducible repeat (first | refine blk_drewN ?_ _ | refine blk_drew ?_ | refine blk_alloc ?_ _)); exact ah.out) hb) <| a_ (below_step th_ hb); clear a8 a5 ah HB; obtain ⟨a8, a5, ah, HB⟩ := z_; (try clear hb); (try clear hk)) | ((with_reducible refine gate_builtin (b := .append) (xs := #[.tmp 31, .tmp 34]) rfl ?_); at_builtin; refine Kd.R_append Kd.string (w0 := w) w.heap.size rfl (.tmp 31) (.tmp 34) 75 9 (.string ⟨#[]⟩) 16 rfl Tryz.underlying75 info9 rfl (by decide) (by omega) u3 b2 ba [.string ba] (fun _ => True) (fun _ => False) rfl rfl ?aP (fun _ hk => hk.elim) ?aF ?aO ?aB ?aS ?aL ?_; (case aP => exact rfl); (case aB => exact th_); (case aF => exact (fun _ _ => trivial)); (case aO => exact (raR_ a8)); (case aS => exact (below_size th_)); (case aL => have := LMc23.out; omega); intro v585 dk ho hb hg hat; rw [← Ny584.out] at ho; have z_ := p_ (blk_grown (g := aa) (o := .cells #[.int .i64 ab, .int .i64 ac, .int .i64 ae, .string af, .slice (some bm) l0_4.length ak, .slice aq a7.length al] 69 (0, 0)) (kb_ a5) hg (Kd.R_ne a8.out a5.out (by decide))) <| p_ (blk_grown (g := bn) (o := .cells #[.int .i64 ((rd_T89 l0_4 a6).f0), .int .i64 ((rd_T89 l0_4 a6).f1), .string ((rd_T89 l0_4 a6).f2)] 89 (0, 0)) (kb_ ah) hg (Kd.R_ne a8.out ah.out (by decide))) <| p_ (hb) <| a_ (ho); clear a5 ah HB a8; obtain ⟨a5, ah, HB, HO586⟩ := z_; clear ho hb hg hat))
  go_roundg k1
  case measure => have := HK1.out; omega
  case rel => exact ⟨(cb), (wrap64 (a6 + 1)), tq_3, H', ⟨tq_22⟩, ⟨(raR_ HO586)⟩, ⟨(kb_ a5)⟩, ⟨th_⟩⟩
 rw [if_neg bi] at H
 have b8 := decide_eq_false bi
 clear bi
 have H' := Aside0.mk H
 clear H
 have b4 := bb6_ a5.out
 go_wp2
 go_loopg [3, 40] k1 (fun kq v3 v40 w' => ∃ (b5 : List ByteArray) (a9 : Int), v40 = .int .i64 a9 ∧ Aside0 (impl_inodeText.l1 kq b5 a7 (a7.length : Int) a9 = some r) ∧ Aside0 (kq ≤ k1) ∧ Aside0 (Kd.R Kd.string 9 w' w.heap.size (fun _ => True) v3 b5) ∧ Aside0 (w'.heap[aa]? = some (.cells #[.int .i64 ab, .int .i64 ac, .int .i64 ae, .string af, (.slice ap l0_4.length ak), (.slice aq a7.length al)] 69 (0, 0))) ∧ Aside0 (Below w.heap.size w w'))
 case atStart => exact ⟨(b2), (0), tq_3, H', ⟨Nat.le_refl _⟩, ⟨(raR_ a8)⟩, ⟨(kb_ a5)⟩, ⟨th_⟩⟩
 case round =>
 clear H'
 try clear c1; try clear c2; try clear p2; try clear c4; try clear br; try clear bs; try clear bu; try clear c5; try clear p5; try clear q5; try clear hx5; try clear c6; try clear bv; try clear bw; try clear b9; try clear p6; try clear c8; try clear bi; try clear b8; try clear cn; try clear bj; try clear co; try clear bl; try clear cp; try clear d8; try clear ax; try clear bb; try clear b4; try clear ax; try clear bb; try clear b4; try clear am; try clear an; try clear ao; try clear p2; try clear p581; try clear q581
 obtain ⟨b5, a9, rfl, HA, HK2, a8, a5, HB⟩ := hrel
 cases gk with
 | zero => exact absurd HA.out (by simp [impl_inodeText.l1])
 | succ k2 =>
 have H := HA.out
 clear HA
 simp only [impl_inodeText.l1] at H
 by_cases bx : a9 < (a7.length : Int)
 ·rw [if_pos bx] at H
  have bo := decide_eq_true bx
  clear bx
  obtain ⟨cr, H⟩ := fc_ H
  have ce := decide_eq_true cr
  clear cr
  obtain ⟨ct, H⟩ := fc_ H
  have cf := decide_eq_true ct
  clear ct
  obtain ⟨bc, d9, H⟩ := bd_ H
  obtain ⟨cu, H⟩ := fc_ H
  have LMc34 := Aside0.mk cu
  clear cu
  obtain ⟨cg, hy590⟩ : ∃ y_ : List ByteArray, y_ = (b5 ++ [bc]) := ⟨_, rfl⟩
  replace H : (impl_inodeText.l1 k2 cg a7 (a7.length : Int) (wrap64 (a9 + 1))) = some r := by first | (rw [hy590]; with_reducible exact H) | (have H2_ := (Option.bind_some _ _).symm.trans H; rw [hy590]; with_reducible exact H2_) | (have H2_ := (Option.bind_some _ _).symm.trans H; with_reducible exact H2_) | with_reducible exact H | (rw [hy590]; exact H) | exact H
  have Ny590 := Aside0.mk hy590
  clear hy590
  have H' := Aside0.mk H
  clear H
  have p587 : 0 ≤ (a9 : Int) := of_decide_eq_true tq_2
  have q587 : a9 < (a7.length : Int) := of_decide_eq_true tq_2
  obtain ⟨bp, cv, ar, au⟩ := at_T72 HR0_5.out a9 p587 q587
  cases cv
  replace ar := hx_ HB.out ar
  replace au := hx_ HB.out au
  replace p587 := eq_true p587
  replace q587 := eq_true q587
  go_wp2_with (first | ((with_reducible refine gate_dst (N := 7) rfl ?_); refine be_ 7 (cs := #[.int .i64 0, .string (⟨#[]⟩ : ByteArray)]) 72 ?_; intro bq hg dl hbox hb; have z_ := p_ (Kd.R_below (raR_ a8) hb) <| bx1_ (kb_ a5) th_ hb hbox hg; clear a8 a5 HB; obtain ⟨a8, a5, HB, ai, d4, d5, aj, b6⟩ := z_; clear hb hbox hg; obtain ⟨ch, ci⟩ := an2_ b6 aj; have cj := bb2_ ai.out) | ((with_reducible refine gate_callee (f := 86) rfl ?_); refine goesL_ (some 46) rfl rfl Tryz.func86 (by kernel_rfl) rfl #[.agg #[.int .i64 ((rd_T72 a7 a9).f0), .string ((rd_T72 a7 a9).f1)]] rfl tq_0 ?_; (with_reducible refine (impl_EntryWord.calls k2 ((rd_T72 a7 a9).f0) ((rd_T72 a7 a9).f1) bc _ d9.out).mono ?_); rintro e dm ⟨rfl, hb⟩; refine ⟨_, rfl, ?_⟩; have z_ := p_ (Kd.R_below (by (with_reducible repeat (first | apply Kd.R_alloc | apply Kd.R_drewN | apply Kd.R_drew)); exact (Kd.R_mono (rR_ (rR_ (Kd.R_types a8.out ai.out (by decide)))) (fun _ h_ => h_.1))) hb) <| p_ (blk_below (g := aa) (o := .cells #[.int .i64 ab, .int .i64 ac, .int .i64 ae, .string af, .slice ap l0_4.length ak, .slice (some bp) a7.length al] 69 (0, 0)) (by (with_reducible repeat (first | refine blk_drewN ?_ _ | refine blk_drew ?_ | refine blk_alloc ?_ _)); refine blk_far ?_ aj.out _; (with_reducible repeat (first | refine blk_drewN ?_ _ | refine blk_drew ?_ | refine blk_alloc ?_ _)); refine blk_far ?_ aj.out _; (with_reducible repeat (first | refine blk_drewN ?_ _ | refine blk_drew ?_ | refine blk_alloc ?_ _)); exact a5.out) hb) <| p_ (blk_below (g := bq) (o := .cells #[.int .i64 ((rd_T72 a7 a9).f0), .string ((rd_T72 a7 a9).f1)] 72 (0, 0)) (by (with_reducible repeat (first | refine blk_drewN ?_ _ | refine blk_drew ?_ | refine blk_alloc ?_ _)); refine blk_put (cs := #[.int .i64 ((rd_T72 a7 a9).f0), .string (⟨#[]⟩ : ByteArray)]) ?_ 1 _ rfl; (with_reducible repeat (first | refine blk_drewN ?_ _ | refine blk_drew ?_ | refine blk_alloc ?_ _)); refine blk_put (cs := #[.int .i64 0, .string (⟨#[]⟩ : ByteArray)]) ?_ 0 _ rfl; (with_reducible repeat (first | refine blk_drewN ?_ _ | refine blk_drew ?_ | refine blk_alloc ?_ _)); exact ai.out) hb) <| a_ (below_step th_ hb); clear a8 a5 ai HB; obtain ⟨a8, a5, ai, HB⟩ := z_; (try clear hb); (try clear hk)) | ((with_reducible refine gate_builtin (b := .append) (xs := #[.tmp 44, .tmp 47]) rfl ?_); at_builtin; refine Kd.R_append Kd.string (w0 := w) w.heap.size rfl (.tmp 44) (.tmp 47) 75 9 (.string ⟨#[]⟩) 16 rfl Tryz.underlying75 info9 rfl (by decide) (by omega) u3 b5 bc [.string bc] (fun _ => True) (fun _ => False) rfl rfl ?aP (fun _ hk => hk.elim) ?aF ?aO ?aB ?aS ?aL ?_; (case aP => exact rfl); (case aB => exact th_); (case aF => exact (fun _ _ => trivial)); (case aO => exact (raR_ a8)); (case aS => exact (below_size th_)); (case aL => have := LMc34.out; omega); intro v591 dn ho hb hg hat; rw [← Ny590.out] at ho; have z_ := p_ (blk_grown (g := aa) (o := .cells #[.int .i64 ab, .int .i64 ac, .int .i64 ae, .string af, .slice ap l0_4.length ak, .slice (some bp) a7.length al] 69 (0, 0)) (kb_ a5) hg (Kd.R_ne a8.out a5.out (by decide))) <| p_ (blk_grown (g := bq) (o := .cells #[.int .i64 ((rd_T72 a7 a9).f0), .string ((rd_T72 a7 a9).f1)] 72 (0, 0)) (kb_ ai) hg (Kd.R_ne a8.out ai.out (by decide))) <| p_ (hb) <| a_ (ho); clear a5 ai HB a8; obtain ⟨a5, ai, HB, HO592⟩ := z_; clear ho hb hg hat))
  go_roundg k2
  case measure => have := HK1.out; have := HK2.out; omega
  case rel => exact ⟨(cg), (wrap64 (a9 + 1)), tq_3, H', ⟨tq_34⟩, ⟨(raR_ HO592)⟩, ⟨(kb_ a5)⟩, ⟨th_⟩⟩
 rw [if_neg bx] at H
 have bo := decide_eq_false bx
 clear bx
 have H' := Aside0.mk H
 clear H
 go_wp2
 go_loopg [3] k2 (fun kq v3 w' => ∃ (av : List ByteArray), Aside0 (impl_inodeText.l2 kq av = some r) ∧ Aside0 (kq ≤ k2) ∧ Aside0 (Kd.R Kd.string 9 w' w.heap.size (fun _ => True) v3 av) ∧ Aside0 (w'.heap[aa]? = some (.cells #[.int .i64 ab, .int .i64 ac, .int .i64 ae, .string af, (.slice ap l0_4.length ak), (.slice aq a7.length al)] 69 (0, 0))) ∧ Aside0 (Below w.heap.size w w'))
 case atStart => exact ⟨(b5), H', ⟨Nat.le_refl _⟩, ⟨(raR_ a8)⟩, ⟨(kb_ a5)⟩, ⟨th_⟩⟩
 case round =>
 clear H'
 try clear c1; try clear c2; try clear p2; try clear c3; try clear c4; try clear br; try clear bs; try clear bu; try clear c5; try clear p5; try clear q5; try clear hx5; try clear c6; try clear bv; try clear bw; try clear b9; try clear p6; try clear c8; try clear bi; try clear b8; try clear cn; try clear bj; try clear co; try clear bl; try clear cp; try clear d8; try clear bx; try clear bo; try clear cr; try clear ce; try clear ct; try clear cf; try clear cu; try clear dp; try clear ax; try clear bb; try clear b4; try clear cj; try clear ax; try clear bb; try clear b4; try clear cj; try clear am; try clear an; try clear ao; try clear ar; try clear au; try clear p2; try clear p5; try clear p581; try clear p587; try clear p6; try clear q5; try clear q581; try clear q587
 obtain ⟨av, HA, HK3, a8, a5, HB⟩ := hrel
 cases gk with
 | zero => exact absurd HA.out (by simp [impl_inodeText.l2])
 | succ k3 =>
 have H := HA.out
 clear HA
 simp only [impl_inodeText.l2] at H
 have ck := Aside0.mk H
 clear H
 obtain ⟨Ao41, cw, cx⟩ := Kd.R_slice a8.out
 subst cx
 go_upto_if 52 with (fail)
 (try clear ax)
 (try clear b4)
 (try clear ax)
 (try clear b4)
 have H := ck.out
 clear ck
 by_cases bz : (av.length : Int) < 8
 rotate_left
 ·rw [if_neg bz] at H
  have aw := decide_eq_false bz
  have cl : decide (av.length < 8) = false := decide_eq_false (by omega)
  clear bz
  (first | rw [aw] | (simp only [i64_w, i32_w]; rw [aw]) | skip)
  obtain rfl := Option.some.inj H
  go_wp2
  go_ret
  exact ⟨_, tq_1, (raR_ a8), th_⟩
 rw [if_pos bz] at H
 have aw := decide_eq_true bz
 have cl : decide (av.length < 8) = true := decide_eq_true (by omega)
 clear bz
 (first | rw [aw] | (simp only [i64_w, i32_w]; rw [aw]) | skip)
 obtain ⟨bd, da, H⟩ := bd_ H
 obtain ⟨d6, H⟩ := fc_ H
 have LMc44 := Aside0.mk d6
 clear d6
 obtain ⟨cm, hy594⟩ : ∃ y_ : List ByteArray, y_ = (av ++ [bd]) := ⟨_, rfl⟩
 replace H : (impl_inodeText.l2 k3 cm) = some r := by first | (rw [hy594]; with_reducible exact H) | (have H2_ := (Option.bind_some _ _).symm.trans H; rw [hy594]; with_reducible exact H2_) | (have H2_ := (Option.bind_some _ _).symm.trans H; with_reducible exact H2_) | with_reducible exact H | (rw [hy594]; exact H) | exact H
 have Ny594 := Aside0.mk hy594
 clear hy594
 have H' := Aside0.mk H
 clear H
 go_wp2_with (first | ((with_reducible refine gate_callee (f := 87) rfl ?_); refine goesL_ (some 54) rfl rfl Tryz.func87 (by kernel_rfl) rfl #[] rfl tq_0 ?_; (with_reducible refine (impl_zeroWord.calls  bd _ da.out).mono ?_); rintro e dq ⟨rfl, hb⟩; refine ⟨_, rfl, ?_⟩; have z_ := p_ (Kd.R_below (raR_ a8) hb) <| bw1_ (kb_ a5) th_ hb; clear a8 a5 HB; obtain ⟨a8, a5, HB⟩ := z_; (try clear hb)) | ((with_reducible refine gate_builtin (b := .append) (xs := #[.tmp 53, .tmp 55]) rfl ?_); at_builtin; refine Kd.R_append Kd.string (w0 := w) w.heap.size rfl (.tmp 53) (.tmp 55) 75 9 (.string ⟨#[]⟩) 16 rfl Tryz.underlying75 info9 rfl (by decide) (by omega) (.slice Ao41 av.length cw) av bd [.string bd] (fun _ => True) (fun _ => False) rfl rfl ?aP (fun _ hk => hk.elim) ?aF ?aO ?aB ?aS ?aL ?_; (case aP => exact rfl); (case aB => exact th_); (case aF => exact (fun _ _ => trivial)); (case aO => exact (raR_ a8)); (case aS => exact (below_size th_)); (case aL => have := LMc44.out; omega); intro v595 dr ho hb hg hat; rw [← Ny594.out] at ho; have z_ := p_ (blk_grown (g := aa) (o := .cells #[.int .i64 ab, .int .i64 ac, .int .i64 ae, .string af, .slice ap l0_4.length ak, .slice aq a7.length al] 69 (0, 0)) (kb_ a5) hg (Kd.R_ne a8.out a5.out (by decide))) <| p_ (hb) <| a_ (ho); clear a5 HB a8; obtain ⟨a5, HB, HO596⟩ := z_; clear ho hb hg hat))
 go_roundg k3
 case measure => have := HK1.out; have := HK2.out; have := HK3.out; omega
 case rel => exact ⟨(cm), H', ⟨tq_44⟩, ⟨(raR_ HO596)⟩, ⟨(kb_ a5)⟩, ⟨th_⟩⟩

/-! ### impl_InodeAt: function 57 -/
def impl_InodeAt.f (a6 : Int) (a7 : Int) (a5 : Int) (a8 : Int) (a1 : Int) (a2 : Int) : Option (Int) := (impl_within.f a2 0 (wrap64 (a5 - 1))).bind fun a9 => ((impl_inPart.f a6 a7 a5 a8 a1 a9 (wrap64 (38 + (wrap64 (8 * a2))))).bind fun aa => (some aa))
def impl_InodeAt.T1 : Bool × List (List Nat × List Nat) := (true, [([], []), ([], []), ([], []), ([], []), ([3], [3]), ([4], [4]), ([2, 5], [2, 5]), ([], []), ([7], [7]), ([8], [8]), ([0, 1, 6, 9, 6], [0, 1, 6, 9]), ([10, 10, 0, 1, 2, 3, 4, 5, 6, 7, 8, 9, 10], [10])])
def impl_InodeAt.B1 : List Nat := [0, 0, 0, 0, 8, 24, 60, 0, 128, 384, 1023, 2047]
theorem impl_InodeAt.tab1 : rtab .any (opsOf Tryz.f57 1) = impl_InodeAt.T1 := by kernel_rfl
theorem impl_InodeAt.bits1 : waitsOk impl_InodeAt.T1.2 impl_InodeAt.B1 = true := by kernel_rfl
set_option maxHeartbeats 8000000 in
set_option maxRecDepth 100000 in
theorem impl_InodeAt.calls (a8 : Int) (a9 : Int) (a6 : Int) (aa : Int) (a1 : Int) (a2 : Int) (r : Int) (w : World) (h : impl_InodeAt.f a8 a9 a6 aa a1 a2 = some r) :
  Calls Tryz.prog 57 #[.agg #[.int .i64 a8, .int .i64 a9, .int .i64 a6, .int .i64 aa], .int .i64 a1, .int .i64 a2] w fun e w' => e = .returned (.int .i64 r) ∧ Below w.heap.size w w' := by
 have hu31 := Tryz.underlying31
 have HB := Aside0.mk (Below.refl w.heap.size w)
 unfold impl_InodeAt.f at h
 have H := h
 clear h
 obtain ⟨ab, A4, H⟩ := bd_ H
 obtain ⟨ac, A5, H⟩ := bd_ H
 obtain rfl := Option.some.inj H
 go_enter Tryz.func57, Tryz.ntmps57
 try go_wp2_with (first | ((with_reducible refine gate_dst (N := 3) rfl ?_); refine be_ 3 (cs := #[.int .i64 a8, .int .i64 a9, .int .i64 a6, .int .i64 aa]) 31 ?_; intro a7 hg w6 hbox hb; have z_ := bx0_ th_ hb hbox hg; clear HB; obtain ⟨HB, a5, ae, af⟩ := z_; clear hb hbox hg))
 have z_ := dw1_ a5 HB
 clear a5 HB
 obtain ⟨a5, HB⟩ := z_
 refine start_ (n := 12) (S := fun w' => w'.cell? ⟨a7, 0, none⟩ = some (.int .i64 a8) ∧ w'.cell? ⟨a7, 1, none⟩ = some (.int .i64 a9) ∧ w'.cell? ⟨a7, 2, none⟩ = some (.int .i64 a6) ∧ w'.cell? ⟨a7, 3, none⟩ = some (.int .i64 aa)) (ds := []) #[false, false, false, false, false, false, false, false, false, false, false, false] (by kernel_rfl) rfl rfl (bk4_ a5.out) (fun hHeld => ?_); refine with_tabW impl_InodeAt.tab1 impl_InodeAt.bits1 (fun HT_ HW_ => ?_)
 generalize w6.drew = w7 at a5 HB hHeld ⊢
 refine yr_ 1 8 #[false, true, false, false, false, false, false, false, false, false, false, false] HT_ ?_
 refine yr_ 2 9 #[false, true, true, false, false, false, false, false, false, false, false, false] HT_ ?_
 refine yr_ 3 10 #[false, true, true, true, false, false, false, false, false, false, false, false] HT_ ?_
 refine yr_ 7 14 #[false, true, true, true, false, false, false, true, false, false, false, false] HT_ ?_
 refine yr_ 8 15 #[false, true, true, true, false, false, false, true, true, false, false, false] HT_ ?_
 refine yr_ 9 16 #[false, true, true, true, false, false, false, true, true, true, false, false] HT_ ?_
 refine tr_ 0 7 #[true, true, true, true, false, false, false, true, true, true, false, false] HT_ HW_ hHeld ?_
 refine tr_ 4 11 #[true, true, true, true, true, false, false, true, true, true, false, false] HT_ HW_ hHeld ?_
 refine yr_ 5 12 #[true, true, true, true, true, true, false, true, true, true, false, false] HT_ ?_
 refine one_ (i := 6) (N := some 13) #[true, true, true, true, true, true, true, true, true, true, false, false] rfl rfl (one_of HT_.out (by kernel_rfl)) (by decide) (fun K hK => ?_)
 refine goes_ Tryz.func49 (by kernel_rfl) rfl #[.int .i64 a2, .int .i64 0, .int .i64 (wrap64 (a6 - 1))] (by rfl) rfl rfl tq_0 ?_
 with_reducible refine (impl_within.calls a2 0 (wrap64 (a6 - 1)) ab _ A4.out).mono ?_
 rintro e w' ⟨rfl, ⟨nd, rfl⟩⟩
 refine ⟨_, rfl, ?_⟩
 refine hK.out _ _ (bk4_ a5.out) (fun hHeld => ?_)
 clear hK K
 refine nm_ (some 13) ?_
 refine one_ (i := 10) (N := some 17) #[true, true, true, true, true, true, true, true, true, true, true, false] rfl rfl (one_of HT_.out (by kernel_rfl)) (by decide) (fun K hK => ?_)
 refine goes_ Tryz.func82 (by kernel_rfl) rfl #[.agg #[.int .i64 a8, .int .i64 a9, .int .i64 a6, .int .i64 aa], .int .i64 a1, .bool ab, .int .i64 (wrap64 (38 + (wrap64 (8 * a2))))] (by rfl) rfl rfl tq_0 ?_
 with_reducible refine (impl_inPart.calls a8 a9 a6 aa a1 ab (wrap64 (38 + (wrap64 (8 * a2)))) ac _ A5.out).mono ?_
 rintro e w8 ⟨rfl, hb⟩
 refine ⟨_, rfl, ?_⟩
 have z_ := bw1_ (kb_ a5) th_ hb
 clear a5 HB
 obtain ⟨a5, HB⟩ := z_
 (try clear hb)
 refine hK.out _ _ (bk4_ a5.out) (fun hHeld => ?_)
 clear hK K
 refine nm_ (some 17) ?_
 refine yr_ 11 6 #[true, true, true, true, true, true, true, true, true, true, true, true] HT_ ?_
 refine done_ (done_of HT_.out (by kernel_rfl)) ?_
 try go_wp2
 go_ret
 exact ⟨tq_1, th_⟩

end Go.Proofs.YtleoknilacjakaaGreat.PFnExactChanged
