/- Contracts of Go functions: each call returns what the Lean function beside it computes. Conditions: as each theorem states them. -/
import Derived.Test.YtleoknilacjakaaGreatPkFnExactChanged
import Derived.Test.YtleoknilacjakaaGreatPFnExactChangedx1
import Derived.Test.YtleoknilacjakaaGreatPFnExactChangedx17
import Derived.Test.YtleoknilacjakaaGreatPFnExactChangedx18
namespace Go.Proofs.YtleoknilacjakaaGreat.PFnExactChanged
open Go.RowKit Go.Proofs.YtleoknilacjakaaGreatW.PrintWords Go.Proofs.YtleoknilacjakaaGreatW.PrintLast Go.Proofs.YtleoknilacjakaaGreatW.PrintMore
attribute [local go_sem] max2_int min2_int max_two min_two max_three min_three max_four min_four   -- for this text's walks alone
set_option linter.unusedVariables false
set_option linter.unusedSimpArgs false

/-! ### impl_isFile: function 97 -/
def impl_isFile.l0 : Nat → List (S89) → Int → Int → Int → Int → Int → ByteArray → List (S89) → List (S72) → Option (Bool)
 | 0, _, _, _, _, _, _, _, _, _ => none
 | k + 1, x6, x7, x8, a9, a6, aa, a7, a5, a8 => if x8 < x7 then (if 0 ≤ x8 then (if x8 < (x6.length : Int) then ((impl_RecWord.f k ((rd_T89 x6 x8).f0) ((rd_T89 x6 x8).f1) ((rd_T89 x6 x8).f2)).bind fun ab => (if ab.toList = ([] : List UInt8) then (some false) else (if x8 ≤ (a5.length : Int) then ((slices_ContainsFunc_Rec_g107.f (a5.take (x8 : Int).toNat) ((rd_T89 x6 x8).f0) ((rd_T89 x6 x8).f1) ((rd_T89 x6 x8).f2)).bind fun ac => (if ac = true then (some false) else (impl_isFile.l0 k x6 x7 (wrap64 (x8 + 1)) a9 a6 aa a7 a5 a8))) else (none)))) else (none)) else (none)) else ((impl_within.f a6 0 128).bind fun ae => (if ae = true then (if (a7.size : Int) = 8 then ((impl_PagesFor.f a6).bind fun af => (if (a5.length : Int) = af then (some ((a8.length : Int) == 0)) else (some false))) else (some false)) else (some false)))
def impl_isFile.f (k : Nat) (a6 : Int) (a7 : Int) (a8 : Int) (a9 : ByteArray) (a5 : List (S89)) (aa : List (S72)) : Option (Bool) := impl_isFile.l0 k a5 (a5.length : Int) 0 a6 a7 a8 a9 a5 aa
set_option maxHeartbeats 8000000 in
set_option maxRecDepth 100000 in
theorem impl_isFile.calls (k : Nat) (ag : Int) (a6 : Int) (ah : Int) (af : ByteArray) (ar : Option Addr) (a8 : Nat) (l0_4 : List (S89)) (aj : Option Addr) (ak : Nat) (aa : List (S72)) (r : Bool) (w : World) (az : Kd.C k89 w ar l0_4.length l0_4) (b0 : l0_4.length ≤ a8) (b1 : Kd.C k72 w aj aa.length aa) (b2 : aa.length ≤ ak) (h : impl_isFile.f k ag a6 ah af l0_4 aa = some r) :
  Calls Tryz.prog 97 #[.agg #[.int .i64 ag, .int .i64 a6, .int .i64 ah, .string af, .slice ar l0_4.length a8, .slice aj aa.length ak]] w fun e w' => e = .returned (.bool r) ∧ Below w.heap.size w w' := by
 have hu69 := Tryz.underlying69
 have hu89 := Tryz.underlying89
 have HR0_4 := Aside0.mk az
 have aw := Aside0.mk b0
 clear az b0
 have HR0_5 := Aside0.mk b1
 have bp := Aside0.mk b2
 clear b1 b2
 have HB := Aside0.mk (Below.refl w.heap.size w)
 unfold impl_isFile.f at h
 have H := h
 clear h
 have H' := Aside0.mk H
 clear H
 go_enter Tryz.func97, Tryz.ntmps97
 go_wp2_with (first | ((with_reducible refine gate_dst (N := 1) rfl ?_); (try (refine gate_guard (by rfl) ?_; dsimp only)); refine be_ 1 (cs := #[.int .i64 ag, .int .i64 a6, .int .i64 ah, .string af, .slice ar l0_4.length a8, .slice aj aa.length ak]) 69 ?_; intro ai hg w2 hbox hb; have z_ := bx0_ th_ hb hbox hg; clear HB; obtain ⟨HB, BK459, b3, b4⟩ := z_; clear hb hbox hg; have b9 := bb6_ BK459.out))
 repeat (go_quiet (first | ((with_reducible refine gate_dst (N := 1) rfl ?_); (try (refine gate_guard (by rfl) ?_; dsimp only)); refine be_ 1 (cs := #[.int .i64 ag, .int .i64 a6, .int .i64 ah, .string af, .slice ar l0_4.length a8, .slice aj aa.length ak]) 69 ?_; intro ai hg w2 hbox hb; have z_ := bx0_ th_ hb hbox hg; clear HB; obtain ⟨HB, BK459, b3, b4⟩ := z_; clear hb hbox hg; have b9 := bb6_ BK459.out)); try go_wp2_with (first | ((with_reducible refine gate_dst (N := 1) rfl ?_); (try (refine gate_guard (by rfl) ?_; dsimp only)); refine be_ 1 (cs := #[.int .i64 ag, .int .i64 a6, .int .i64 ah, .string af, .slice ar l0_4.length a8, .slice aj aa.length ak]) 69 ?_; intro ai hg w2 hbox hb; have z_ := bx0_ th_ hb hbox hg; clear HB; obtain ⟨HB, BK459, b3, b4⟩ := z_; clear hb hbox hg; have b9 := bb6_ BK459.out)))
 go_loopg [8] k (fun kq v8 w' => ∃ (x8_1 : Int), v8 = .int .i64 x8_1 ∧ Aside0 (impl_isFile.l0 kq l0_4 (l0_4.length : Int) x8_1 ag a6 ah af l0_4 aa = some r) ∧ Aside0 (kq ≤ k) ∧ Aside0 (w'.heap[ai]? = some (.cells #[.int .i64 ag, .int .i64 a6, .int .i64 ah, .string af, (.slice ar l0_4.length a8), (.slice aj aa.length ak)] 69 (0, 0))) ∧ Aside0 (Below w.heap.size w w'))
 case atStart => exact ⟨(0), tq_3, H', ⟨Nat.le_refl _⟩, ⟨(kb_ BK459)⟩, ⟨th_⟩⟩
 case round =>
 clear H'
 try clear p2; try clear b9
 obtain ⟨x8_1, rfl, HA, HK1, BK459, HB⟩ := hrel
 cases gk with
 | zero => exact absurd HA.out (by simp [impl_isFile.l0])
 | succ k1 =>
 have H := HA.out
 clear HA
 simp only [impl_isFile.l0] at H
 by_cases c4 : x8_1 < (l0_4.length : Int)
 rotate_left
 ·rw [if_neg c4] at H
  have bi := decide_eq_false c4
  clear c4
  obtain ⟨bj, av, H⟩ := bd_ H
  by_cases bg : bj = true
  rotate_left
  ·replace bg := Bool.eq_false_iff.mpr bg
   subst bg
   rw [if_neg nf_] at H
   obtain rfl := Option.some.inj H
   have bz := bb6_ BK459.out
   go_wp2_with (first | (go_at_call 49; (with_reducible refine (impl_within.calls a6 0 128 false _ av.out).mono ?_); rintro e w' ⟨rfl, ⟨nd, rfl⟩⟩; (try first | exact ⟨rfl, _, World.drewN_drewN _ _ _⟩ | exact ⟨rfl, _, Eq.trans (World.drewN_drewN _ _ _) (congrArg (World.drewN _) (Nat.add_assoc _ _ _))⟩)))
   repeat (go_quiet (first | (go_at_call 49; (with_reducible refine (impl_within.calls a6 0 128 false _ av.out).mono ?_); rintro e w' ⟨rfl, ⟨nd, rfl⟩⟩; (try first | exact ⟨rfl, _, World.drewN_drewN _ _ _⟩ | exact ⟨rfl, _, Eq.trans (World.drewN_drewN _ _ _) (congrArg (World.drewN _) (Nat.add_assoc _ _ _))⟩))); try go_wp2_with (first | (go_at_call 49; (with_reducible refine (impl_within.calls a6 0 128 false _ av.out).mono ?_); rintro e w' ⟨rfl, ⟨nd, rfl⟩⟩; (try first | exact ⟨rfl, _, World.drewN_drewN _ _ _⟩ | exact ⟨rfl, _, Eq.trans (World.drewN_drewN _ _ _) (congrArg (World.drewN _) (Nat.add_assoc _ _ _))⟩))))
   go_ret
   exact ⟨tq_1, th_⟩
  subst bg
  rw [if_pos rfl] at H
  by_cases b5 : (af.size : Int) = 8
  rotate_left
  ·rw [if_neg b5] at H
   have ba := beq_eq_false_iff_ne.mpr b5
   have bb := bne_iff_ne.mpr b5
   obtain rfl := Option.some.inj H
   have ca := bb6_ BK459.out
   go_wp2_with (first | (go_at_call 49; (with_reducible refine (impl_within.calls a6 0 128 true _ av.out).mono ?_); rintro e w' ⟨rfl, ⟨nd, rfl⟩⟩; (try first | exact ⟨rfl, _, World.drewN_drewN _ _ _⟩ | exact ⟨rfl, _, Eq.trans (World.drewN_drewN _ _ _) (congrArg (World.drewN _) (Nat.add_assoc _ _ _))⟩)))
   repeat (go_quiet (first | (go_at_call 49; (with_reducible refine (impl_within.calls a6 0 128 true _ av.out).mono ?_); rintro e w' ⟨rfl, ⟨nd, rfl⟩⟩; (try first | exact ⟨rfl, _, World.drewN_drewN _ _ _⟩ | exact ⟨rfl, _, Eq.trans (World.drewN_drewN _ _ _) (congrArg (World.drewN _) (Nat.add_assoc _ _ _))⟩))); try go_wp2_with (first | (go_at_call 49; (with_reducible refine (impl_within.calls a6 0 128 true _ av.out).mono ?_); rintro e w' ⟨rfl, ⟨nd, rfl⟩⟩; (try first | exact ⟨rfl, _, World.drewN_drewN _ _ _⟩ | exact ⟨rfl, _, Eq.trans (World.drewN_drewN _ _ _) (congrArg (World.drewN _) (Nat.add_assoc _ _ _))⟩))))
   go_ret
   exact ⟨tq_1, th_⟩
  rw [if_pos b5] at H
  have ba := beq_iff_eq.mpr b5
  have bb := bne_eq_false_iff_eq.mpr b5
  clear b5
  obtain ⟨ap, b8, H⟩ := bd_ H
  by_cases b6 : (l0_4.length : Int) = ap
  rotate_left
  ·rw [if_neg b6] at H
   have bc := beq_eq_false_iff_ne.mpr b6
   have bd := bne_iff_ne.mpr b6
   obtain rfl := Option.some.inj H
   have cb := bb6_ BK459.out
   go_wp2_with (first | (go_at_call 49; (with_reducible refine (impl_within.calls a6 0 128 true _ av.out).mono ?_); rintro e w' ⟨rfl, ⟨nd, rfl⟩⟩; (try first | exact ⟨rfl, _, World.drewN_drewN _ _ _⟩ | exact ⟨rfl, _, Eq.trans (World.drewN_drewN _ _ _) (congrArg (World.drewN _) (Nat.add_assoc _ _ _))⟩)) | (go_at_call 108; (with_reducible refine (impl_PagesFor.calls a6 ap _ b8.out).mono ?_); rintro e w' ⟨rfl, ⟨nd, rfl⟩⟩; (try first | exact ⟨rfl, _, World.drewN_drewN _ _ _⟩ | exact ⟨rfl, _, Eq.trans (World.drewN_drewN _ _ _) (congrArg (World.drewN _) (Nat.add_assoc _ _ _))⟩)))
   repeat (go_quiet (first | (go_at_call 49; (with_reducible refine (impl_within.calls a6 0 128 true _ av.out).mono ?_); rintro e w' ⟨rfl, ⟨nd, rfl⟩⟩; (try first | exact ⟨rfl, _, World.drewN_drewN _ _ _⟩ | exact ⟨rfl, _, Eq.trans (World.drewN_drewN _ _ _) (congrArg (World.drewN _) (Nat.add_assoc _ _ _))⟩)) | (go_at_call 108; (with_reducible refine (impl_PagesFor.calls a6 ap _ b8.out).mono ?_); rintro e w' ⟨rfl, ⟨nd, rfl⟩⟩; (try first | exact ⟨rfl, _, World.drewN_drewN _ _ _⟩ | exact ⟨rfl, _, Eq.trans (World.drewN_drewN _ _ _) (congrArg (World.drewN _) (Nat.add_assoc _ _ _))⟩))); try go_wp2_with (first | (go_at_call 49; (with_reducible refine (impl_within.calls a6 0 128 true _ av.out).mono ?_); rintro e w' ⟨rfl, ⟨nd, rfl⟩⟩; (try first | exact ⟨rfl, _, World.drewN_drewN _ _ _⟩ | exact ⟨rfl, _, Eq.trans (World.drewN_drewN _ _ _) (congrArg (World.drewN _) (Nat.add_assoc _ _ _))⟩)) | (go_at_call 108; (with_reducible refine (impl_PagesFor.calls a6 ap _ b8.out).mono ?_); rintro e w' ⟨rfl, ⟨nd, rfl⟩⟩; (try first | exact ⟨rfl, _, World.drewN_drewN _ _ _⟩ | exact ⟨rfl, _, Eq.trans (World.drewN_drewN _ _ _) (congrArg (World.drewN _) (Nat.add_assoc _ _ _))⟩))))
   go_ret
   exact ⟨tq_1, th_⟩
  rw [if_pos b6] at H
  have bc := beq_iff_eq.mpr b6
  have bd := bne_eq_false_iff_eq.mpr b6
  clear b6
  obtain rfl := Option.some.inj H
  have cc := bb6_ BK459.out
  go_wp2_with (first | (go_at_call 49; (with_reducible refine (impl_within.calls a6 0 128 true _ av.out).mono ?_); rintro e w' ⟨rfl, ⟨nd, rfl⟩⟩; (try first | exact ⟨rfl, _, World.drewN_drewN _ _ _⟩ | exact ⟨rfl, _, Eq.trans (World.drewN_drewN _ _ _) (congrArg (World.drewN _) (Nat.add_assoc _ _ _))⟩)) | (go_at_call 108; (with_reducible refine (impl_PagesFor.calls a6 ap _ b8.out).mono ?_); rintro e w' ⟨rfl, ⟨nd, rfl⟩⟩; (try first | exact ⟨rfl, _, World.drewN_drewN _ _ _⟩ | exact ⟨rfl, _, Eq.trans (World.drewN_drewN _ _ _) (congrArg (World.drewN _) (Nat.add_assoc _ _ _))⟩)))
  repeat (go_quiet (first | (go_at_call 49; (with_reducible refine (impl_within.calls a6 0 128 true _ av.out).mono ?_); rintro e w' ⟨rfl, ⟨nd, rfl⟩⟩; (try first | exact ⟨rfl, _, World.drewN_drewN _ _ _⟩ | exact ⟨rfl, _, Eq.trans (World.drewN_drewN _ _ _) (congrArg (World.drewN _) (Nat.add_assoc _ _ _))⟩)) | (go_at_call 108; (with_reducible refine (impl_PagesFor.calls a6 ap _ b8.out).mono ?_); rintro e w' ⟨rfl, ⟨nd, rfl⟩⟩; (try first | exact ⟨rfl, _, World.drewN_drewN _ _ _⟩ | exact ⟨rfl, _, Eq.trans (World.drewN_drewN _ _ _) (congrArg (World.drewN _) (Nat.add_assoc _ _ _))⟩))); try go_wp2_with (first | (go_at_call 49; (with_reducible refine (impl_within.calls a6 0 128 true _ av.out).mono ?_); rintro e w' ⟨rfl, ⟨nd, rfl⟩⟩; (try first | exact ⟨rfl, _, World.drewN_drewN _ _ _⟩ | exact ⟨rfl, _, Eq.trans (World.drewN_drewN _ _ _) (congrArg (World.drewN _) (Nat.add_assoc _ _ _))⟩)) | (go_at_call 108; (with_reducible refine (impl_PagesFor.calls a6 ap _ b8.out).mono ?_); rintro e w' ⟨rfl, ⟨nd, rfl⟩⟩; (try first | exact ⟨rfl, _, World.drewN_drewN _ _ _⟩ | exact ⟨rfl, _, Eq.trans (World.drewN_drewN _ _ _) (congrArg (World.drewN _) (Nat.add_assoc _ _ _))⟩))))
  go_ret
  exact ⟨tq_1, th_⟩
 rw [if_pos c4] at H
 have bi := decide_eq_true c4
 clear c4
 obtain ⟨c5, H⟩ := fc_ H
 have cd := decide_eq_true c5
 clear c5
 obtain ⟨c6, H⟩ := fc_ H
 have ce := decide_eq_true c6
 clear c6
 obtain ⟨aq, A7, H⟩ := bd_ H
 by_cases c8 : aq.toList = ([] : List UInt8)
 ·rw [if_pos c8] at H
  have bl := beq_iff_eq.mpr c8
  have bm := bne_eq_false_iff_eq.mpr c8
  clear c8
  obtain rfl := Option.some.inj H
  have p462 : 0 ≤ (x8_1 : Int) := of_decide_eq_true tq_2
  have q462 : x8_1 < (l0_4.length : Int) := of_decide_eq_true tq_2
  obtain ⟨a9, b7, ab, ac, ae⟩ := at_T89 HR0_4.out x8_1 p462 q462
  cases b7
  replace ab := hx_ HB.out ab
  replace ac := hx_ HB.out ac
  replace ae := hx_ HB.out ae
  replace p462 := eq_true p462
  replace q462 := eq_true q462
  go_wp2_with (first | ((with_reducible refine gate_dst (N := 4) rfl ?_); (try (refine gate_guard (by rfl) ?_; dsimp only)); refine be_ 4 (cs := #[.int .i64 0, .int .i64 0, .string (⟨#[]⟩ : ByteArray)]) 89 ?_; intro a7 hg w9 hbox hb; have z_ := bx1_ (kb_ BK459) th_ hb hbox hg; clear BK459 HB; obtain ⟨BK459, HB, BK463, am, an, NB459_463, a5⟩ := z_; clear hb hbox hg; obtain ⟨hnb10, hnc10⟩ := an2_ a5 NB459_463; have be := bb3_ BK463.out) | (go_at_call 85; (with_reducible refine (impl_RecWord.calls k1 ((rd_T89 l0_4 x8_1).f0) ((rd_T89 l0_4 x8_1).f1) ((rd_T89 l0_4 x8_1).f2) aq _ A7.out).mono ?_); rintro e bq ⟨rfl, hb⟩; have z_ := p_ (blk_below (g := ai) (o := .cells #[.int .i64 ag, .int .i64 a6, .int .i64 ah, .string af, .slice (some a9) l0_4.length a8, .slice aj aa.length ak] 69 (0, 0)) tq_8 hb) <| p_ (blk_below (g := a7) (o := .cells #[.int .i64 ((rd_T89 l0_4 x8_1).f0), .int .i64 ((rd_T89 l0_4 x8_1).f1), .string ((rd_T89 l0_4 x8_1).f2)] 89 (0, 0)) tq_5 hb) <| a_ (below_step th_ hb); clear BK459 BK463 HB; obtain ⟨BK459, BK463, HB⟩ := z_; (try clear hb)))
  repeat (go_quiet (first | ((with_reducible refine gate_dst (N := 4) rfl ?_); (try (refine gate_guard (by rfl) ?_; dsimp only)); refine be_ 4 (cs := #[.int .i64 0, .int .i64 0, .string (⟨#[]⟩ : ByteArray)]) 89 ?_; intro a7 hg w9 hbox hb; have z_ := bx1_ (kb_ BK459) th_ hb hbox hg; clear BK459 HB; obtain ⟨BK459, HB, BK463, am, an, NB459_463, a5⟩ := z_; clear hb hbox hg; obtain ⟨hnb10, hnc10⟩ := an2_ a5 NB459_463; have be := bb3_ BK463.out) | (go_at_call 85; (with_reducible refine (impl_RecWord.calls k1 ((rd_T89 l0_4 x8_1).f0) ((rd_T89 l0_4 x8_1).f1) ((rd_T89 l0_4 x8_1).f2) aq _ A7.out).mono ?_); rintro e bq ⟨rfl, hb⟩; have z_ := p_ (blk_below (g := ai) (o := .cells #[.int .i64 ag, .int .i64 a6, .int .i64 ah, .string af, .slice (some a9) l0_4.length a8, .slice aj aa.length ak] 69 (0, 0)) tq_8 hb) <| p_ (blk_below (g := a7) (o := .cells #[.int .i64 ((rd_T89 l0_4 x8_1).f0), .int .i64 ((rd_T89 l0_4 x8_1).f1), .string ((rd_T89 l0_4 x8_1).f2)] 89 (0, 0)) tq_5 hb) <| a_ (below_step th_ hb); clear BK459 BK463 HB; obtain ⟨BK459, BK463, HB⟩ := z_; (try clear hb))); try go_wp2_with (first | ((with_reducible refine gate_dst (N := 4) rfl ?_); (try (refine gate_guard (by rfl) ?_; dsimp only)); refine be_ 4 (cs := #[.int .i64 0, .int .i64 0, .string (⟨#[]⟩ : ByteArray)]) 89 ?_; intro a7 hg w9 hbox hb; have z_ := bx1_ (kb_ BK459) th_ hb hbox hg; clear BK459 HB; obtain ⟨BK459, HB, BK463, am, an, NB459_463, a5⟩ := z_; clear hb hbox hg; obtain ⟨hnb10, hnc10⟩ := an2_ a5 NB459_463; have be := bb3_ BK463.out) | (go_at_call 85; (with_reducible refine (impl_RecWord.calls k1 ((rd_T89 l0_4 x8_1).f0) ((rd_T89 l0_4 x8_1).f1) ((rd_T89 l0_4 x8_1).f2) aq _ A7.out).mono ?_); rintro e bq ⟨rfl, hb⟩; have z_ := p_ (blk_below (g := ai) (o := .cells #[.int .i64 ag, .int .i64 a6, .int .i64 ah, .string af, .slice (some a9) l0_4.length a8, .slice aj aa.length ak] 69 (0, 0)) tq_8 hb) <| p_ (blk_below (g := a7) (o := .cells #[.int .i64 ((rd_T89 l0_4 x8_1).f0), .int .i64 ((rd_T89 l0_4 x8_1).f1), .string ((rd_T89 l0_4 x8_1).f2)] 89 (0, 0)) tq_5 hb) <| a_ (below_step th_ hb); clear BK459 BK463 HB; obtain ⟨BK459, BK463, HB⟩ := z_; (try clear hb))))
  go_ret
  exact ⟨tq_1, th_⟩
 rw [if_neg c8] at H
 have bl := beq_eq_false_iff_ne.mpr c8
 have bm := bne_iff_ne.mpr c8
 have br := eq_true (of_decide_eq_true tq_2 : 0 ≤ x8_1)
 obtain ⟨bn, H⟩ := fc_ H
 have bs := eq_true bn
 have bu := decide_eq_true bn
 clear bn
 obtain ⟨al, hy465⟩ : ∃ y_ : List (S89), y_ = (l0_4.take (x8_1 : Int).toNat) := ⟨_, rfl⟩
 replace H : ((slices_ContainsFunc_Rec_g107.f al ((rd_T89 l0_4 x8_1).f0) ((rd_T89 l0_4 x8_1).f1) ((rd_T89 l0_4 x8_1).f2)).bind fun au => (if au = true then (some false) else (impl_isFile.l0 k1 l0_4 (l0_4.length : Int) (wrap64 (x8_1 + 1)) ag a6 ah af l0_4 aa))) = some r := by first | (rw [hy465]; with_reducible exact H) | (have H2_ := (Option.bind_some _ _).symm.trans H; rw [hy465]; with_reducible exact H2_) | (have H2_ := (Option.bind_some _ _).symm.trans H; with_reducible exact H2_) | with_reducible exact H | (rw [hy465]; exact H) | exact H
 have Ny465 := Aside0.mk hy465
 clear hy465
 obtain ⟨au, bo, H⟩ := bd_ H
 have bf := Aside0.mk H
 clear H
 have p462 : 0 ≤ (x8_1 : Int) := of_decide_eq_true tq_2
 have q462 : x8_1 < (l0_4.length : Int) := of_decide_eq_true tq_2
 obtain ⟨a9, b7, ab, ac, ae⟩ := at_T89 HR0_4.out x8_1 p462 q462
 cases b7
 replace ab := hx_ HB.out ab
 replace ac := hx_ HB.out ac
 replace ae := hx_ HB.out ae
 replace p462 := eq_true p462
 replace q462 := eq_true q462
 go_upto_if 23 with (first | ((with_reducible refine gate_dst (N := 4) rfl ?_); (try (refine gate_guard (by rfl) ?_; dsimp only)); refine be_ 4 (cs := #[.int .i64 0, .int .i64 0, .string (⟨#[]⟩ : ByteArray)]) 89 ?_; intro a7 hg bv hbox hb; have z_ := bx1_ (kb_ BK459) th_ hb hbox hg; clear BK459 HB; obtain ⟨BK459, HB, BK463, am, an, NB459_463, a5⟩ := z_; clear hb hbox hg; obtain ⟨hnb18, hnc18⟩ := an2_ a5 NB459_463; have ax := bb3_ BK463.out) | (go_at_call 85; (with_reducible refine (impl_RecWord.calls k1 ((rd_T89 l0_4 x8_1).f0) ((rd_T89 l0_4 x8_1).f1) ((rd_T89 l0_4 x8_1).f2) aq _ A7.out).mono ?_); rintro e bw ⟨rfl, hb⟩; have z_ := p_ (blk_below (g := ai) (o := .cells #[.int .i64 ag, .int .i64 a6, .int .i64 ah, .string af, .slice (some a9) l0_4.length a8, .slice aj aa.length ak] 69 (0, 0)) tq_8 hb) <| p_ (blk_below (g := a7) (o := .cells #[.int .i64 ((rd_T89 l0_4 x8_1).f0), .int .i64 ((rd_T89 l0_4 x8_1).f1), .string ((rd_T89 l0_4 x8_1).f2)] 89 (0, 0)) tq_5 hb) <| a_ (below_step th_ hb); clear BK459 BK463 HB; obtain ⟨BK459, BK463, HB⟩ := z_; (try clear hb); have ay := bb6_ BK459.out; have q22 : (x8_1 : Int) ≤ ((l0_4.length : Int) : Int) := of_decide_eq_true tq_2; obtain ⟨i022, hi022, _, hsz22, _⟩ := info_parts info89; have hroom22 : l0_4.length ≤ a8 := aw.out; have hC22 : Kd.C k89 _ (some a9) l0_4.length l0_4 := HR0_4.out; have hcut22 := cut_to (P := Tryz.prog) 66 89 .i64 Tryz.underlying66 hi022 (some a9) l0_4.length a8 x8_1 (of_decide_eq_true tq_2) q22 hroom22; have hr22 := Kd.C_take (m := (x8_1 : Int).toNat) hC22 (by omega); have hy22 : al.length = (x8_1 : Int).toNat := (by rw [Ny465.out, List.length_take]; omega); rw [← Ny465.out] at hr22; rw [← hy22] at hcut22; have HR468 := Aside0.mk hr22; have ao := Aside0.mk (show al.length ≤ a8 from by omega); clear hr22 hC22 hroom22 hi022 hsz22; have KY22 := Aside0.mk hy22; clear hy22; replace q22 := eq_true q22) | (go_at_call 106; (with_reducible refine (slices_ContainsFunc_Rec_g107.calls _ _ al a7 ((rd_T89 l0_4 x8_1).f0) ((rd_T89 l0_4 x8_1).f1) ((rd_T89 l0_4 x8_1).f2) au _ ?side1 ?side2 ?side3 bo.out).mono ?_); (case side1 => exact tq_39); (case side2 => exact ao.out); (case side3 => (with_reducible repeat (first | refine blk_drewN ?_ _ | refine blk_drew ?_ | refine blk_alloc ?_ _)); exact BK463.out); rintro e bx ⟨rfl, hb⟩; have z_ := bw2_ (kb_ BK459) (kb_ BK463) th_ hb; clear BK459 BK463 HB; obtain ⟨BK459, BK463, HB⟩ := z_; (try clear hb)))
 repeat (go_quiet (first | ((with_reducible refine gate_dst (N := 4) rfl ?_); (try (refine gate_guard (by rfl) ?_; dsimp only)); refine be_ 4 (cs := #[.int .i64 0, .int .i64 0, .string (⟨#[]⟩ : ByteArray)]) 89 ?_; intro a7 hg bv hbox hb; have z_ := bx1_ (kb_ BK459) th_ hb hbox hg; clear BK459 HB; obtain ⟨BK459, HB, BK463, am, an, NB459_463, a5⟩ := z_; clear hb hbox hg; obtain ⟨hnb18, hnc18⟩ := an2_ a5 NB459_463; have ax := bb3_ BK463.out) | (go_at_call 85; (with_reducible refine (impl_RecWord.calls k1 ((rd_T89 l0_4 x8_1).f0) ((rd_T89 l0_4 x8_1).f1) ((rd_T89 l0_4 x8_1).f2) aq _ A7.out).mono ?_); rintro e bw ⟨rfl, hb⟩; have z_ := p_ (blk_below (g := ai) (o := .cells #[.int .i64 ag, .int .i64 a6, .int .i64 ah, .string af, .slice (some a9) l0_4.length a8, .slice aj aa.length ak] 69 (0, 0)) tq_8 hb) <| p_ (blk_below (g := a7) (o := .cells #[.int .i64 ((rd_T89 l0_4 x8_1).f0), .int .i64 ((rd_T89 l0_4 x8_1).f1), .string ((rd_T89 l0_4 x8_1).f2)] 89 (0, 0)) tq_5 hb) <| a_ (below_step th_ hb); clear BK459 BK463 HB; obtain ⟨BK459, BK463, HB⟩ := z_; (try clear hb); have ay := bb6_ BK459.out; have q22 : (x8_1 : Int) ≤ ((l0_4.length : Int) : Int) := of_decide_eq_true tq_2; obtain ⟨i022, hi022, _, hsz22, _⟩ := info_parts info89; have hroom22 : l0_4.length ≤ a8 := aw.out; have hC22 : Kd.C k89 _ (some a9) l0_4.length l0_4 := HR0_4.out; have hcut22 := cut_to (P := Tryz.prog) 66 89 .i64 Tryz.underlying66 hi022 (some a9) l0_4.length a8 x8_1 (of_decide_eq_true tq_2) q22 hroom22; have hr22 := Kd.C_take (m := (x8_1 : Int).toNat) hC22 (by omega); have hy22 : al.length = (x8_1 : Int).toNat := (by rw [Ny465.out, List.length_take]; omega); rw [← Ny465.out] at hr22; rw [← hy22] at hcut22; have HR468 := Aside0.mk hr22; have ao := Aside0.mk (show al.length ≤ a8 from by omega); clear hr22 hC22 hroom22 hi022 hsz22; have KY22 := Aside0.mk hy22; clear hy22; replace q22 := eq_true q22) | (go_at_call 106; (with_reducible refine (slices_ContainsFunc_Rec_g107.calls _ _ al a7 ((rd_T89 l0_4 x8_1).f0) ((rd_T89 l0_4 x8_1).f1) ((rd_T89 l0_4 x8_1).f2) au _ ?side1 ?side2 ?side3 bo.out).mono ?_); (case side1 => exact tq_39); (case side2 => exact ao.out); (case side3 => (with_reducible repeat (first | refine blk_drewN ?_ _ | refine blk_drew ?_ | refine blk_alloc ?_ _)); exact BK463.out); rintro e bx ⟨rfl, hb⟩; have z_ := bw2_ (kb_ BK459) (kb_ BK463) th_ hb; clear BK459 BK463 HB; obtain ⟨BK459, BK463, HB⟩ := z_; (try clear hb))); go_upto_if 23 with (first | ((with_reducible refine gate_dst (N := 4) rfl ?_); (try (refine gate_guard (by rfl) ?_; dsimp only)); refine be_ 4 (cs := #[.int .i64 0, .int .i64 0, .string (⟨#[]⟩ : ByteArray)]) 89 ?_; intro a7 hg bv hbox hb; have z_ := bx1_ (kb_ BK459) th_ hb hbox hg; clear BK459 HB; obtain ⟨BK459, HB, BK463, am, an, NB459_463, a5⟩ := z_; clear hb hbox hg; obtain ⟨hnb18, hnc18⟩ := an2_ a5 NB459_463; have ax := bb3_ BK463.out) | (go_at_call 85; (with_reducible refine (impl_RecWord.calls k1 ((rd_T89 l0_4 x8_1).f0) ((rd_T89 l0_4 x8_1).f1) ((rd_T89 l0_4 x8_1).f2) aq _ A7.out).mono ?_); rintro e bw ⟨rfl, hb⟩; have z_ := p_ (blk_below (g := ai) (o := .cells #[.int .i64 ag, .int .i64 a6, .int .i64 ah, .string af, .slice (some a9) l0_4.length a8, .slice aj aa.length ak] 69 (0, 0)) tq_8 hb) <| p_ (blk_below (g := a7) (o := .cells #[.int .i64 ((rd_T89 l0_4 x8_1).f0), .int .i64 ((rd_T89 l0_4 x8_1).f1), .string ((rd_T89 l0_4 x8_1).f2)] 89 (0, 0)) tq_5 hb) <| a_ (below_step th_ hb); clear BK459 BK463 HB; obtain ⟨BK459, BK463, HB⟩ := z_; (try clear hb); have ay := bb6_ BK459.out; have q22 : (x8_1 : Int) ≤ ((l0_4.length : Int) : Int) := of_decide_eq_true tq_2; obtain ⟨i022, hi022, _, hsz22, _⟩ := info_parts info89; have hroom22 : l0_4.length ≤ a8 := aw.out; have hC22 : Kd.C k89 _ (some a9) l0_4.length l0_4 := HR0_4.out; have hcut22 := cut_to (P := Tryz.prog) 66 89 .i64 Tryz.underlying66 hi022 (some a9) l0_4.length a8 x8_1 (of_decide_eq_true tq_2) q22 hroom22; have hr22 := Kd.C_take (m := (x8_1 : Int).toNat) hC22 (by omega); have hy22 : al.length = (x8_1 : Int).toNat := (by rw [Ny465.out, List.length_take]; omega); rw [← Ny465.out] at hr22; rw [← hy22] at hcut22; have HR468 := Aside0.mk hr22; have ao := Aside0.mk (show al.length ≤ a8 from by omega); clear hr22 hC22 hroom22 hi022 hsz22; have KY22 := Aside0.mk hy22; clear hy22; replace q22 := eq_true q22) | (go_at_call 106; (with_reducible refine (slices_ContainsFunc_Rec_g107.calls _ _ al a7 ((rd_T89 l0_4 x8_1).f0) ((rd_T89 l0_4 x8_1).f1) ((rd_T89 l0_4 x8_1).f2) au _ ?side1 ?side2 ?side3 bo.out).mono ?_); (case side1 => exact tq_39); (case side2 => exact ao.out); (case side3 => (with_reducible repeat (first | refine blk_drewN ?_ _ | refine blk_drew ?_ | refine blk_alloc ?_ _)); exact BK463.out); rintro e bx ⟨rfl, hb⟩; have z_ := bw2_ (kb_ BK459) (kb_ BK463) th_ hb; clear BK459 BK463 HB; obtain ⟨BK459, BK463, HB⟩ := z_; (try clear hb))))
 (try simp only [Act.put, List.setIfInBounds_toArray, List.set_cons_zero, List.set_cons_succ])
 (try clear ax)
 (try clear ay)
 (try clear b9)
 (try clear ax)
 (try clear ay)
 (try clear b9)
 (try clear ab ac ae)
 have H := bf.out
 clear bf
 by_cases bh : au = true
 ·subst bh
  rw [if_pos rfl] at H
  obtain rfl := Option.some.inj H
  go_wp2
  repeat (go_quiet (fail); try go_wp2)
  go_ret
  exact ⟨tq_1, th_⟩
 replace bh := Bool.eq_false_iff.mpr bh
 subst bh
 rw [if_neg nf_] at H
 have H' := Aside0.mk H
 clear H
 go_wp2
 repeat (go_quiet (fail); try go_wp2)
 go_roundg k1
 case measure => have := HK1.out; omega
 case rel => exact ⟨(wrap64 (x8_1 + 1)), tq_3, H', ⟨tq_22⟩, ⟨(kb_ BK459)⟩, ⟨th_⟩⟩

/-! ### strings_Repeat: function 101 -/
def strings_Repeat.f (a0 : ByteArray) (a1 : Int) : Option (ByteArray) := if 0 ≤ a1 ∧ a1 ≤ 9223372036854775807 ∧ a0.size * a1.toNat ≤ 140737488355328 then some ⟨(Lib.repeatL a0.data.toList a1.toNat).toArray⟩ else none
theorem strings_Repeat.calls (a0 : ByteArray) (a1 : Int) (r : ByteArray) (w : World) (h : strings_Repeat.f a0 a1 = some r) :
  Calls Tryz.prog 101 #[.string a0, .int .i64 a1] w fun e w' => e = .returned (.string r) ∧ Below w.heap.size w w' := by
 unfold strings_Repeat.f at h
 split at h
 case isFalse => cases h
 case isTrue hc =>
  obtain ⟨h0, h1, h2⟩ := hc
  obtain ⟨c, rfl⟩ := Int.eq_ofNat_of_zero_le h0
  obtain rfl := Option.some.inj h
  exact Tryz.strings_Repeat a0 c w (by omega) h2

/-! ### impl_padded: function 81 -/
def impl_padded.f (a0 : ByteArray) (a1 : Int) : Option (ByteArray) := (strings_Repeat.f (⟨#[0]⟩ : ByteArray) (mx 0 (wrap64 (a1 - (a0.size : Int))))).bind fun a5 => (if a0.size + a5.size ≤ 9223372036854775807 then (some (a0 ++ a5)) else (none))
set_option maxHeartbeats 8000000 in
set_option maxRecDepth 100000 in
theorem impl_padded.calls (a0 : ByteArray) (a1 : Int) (r : ByteArray) (w : World) (h : impl_padded.f a0 a1 = some r) :
  Calls Tryz.prog 81 #[.string a0, .int .i64 a1] w fun e w' => e = .returned (.string r) ∧ Below w.heap.size w w' := by
 have HB := Aside0.mk (Below.refl w.heap.size w)
 unfold impl_padded.f at h
 have H := h
 clear h
 obtain ⟨ji3, hji3⟩ : ∃ j_ : Int, (mx 0 (wrap64 (a1 - (a0.size : Int)))) = j_ := ⟨_, rfl⟩
 replace H : ((strings_Repeat.f (⟨#[0]⟩ : ByteArray) (ji3)).bind fun a5 => (if a0.size + a5.size ≤ 9223372036854775807 then (some (a0 ++ a5)) else (none))) = some r := by first | (rw [hji3] at H; exact H) | (simp only [hji3] at H ⊢; exact H)
 (try (have hji3l : 0 ≤ ji3 := by (rw [← hji3]; unfold mx; (repeat' split) <;> omega)))
 (try (have hji3m : 0 ≤ ji3 := by omega))
 have hji3_ : (if 0 < (wrap64 (a1 - (a0.size : Int))) then (wrap64 (a1 - (a0.size : Int))) else 0) = ji3 := hji3
 obtain ⟨a5, A4, H⟩ := bd_ H
 obtain ⟨c5, H⟩ := fc_ H
 have a6 := eq_true c5
 have a7 := decide_eq_true c5
 try have a8 : (9223372036854775807 < a0.size + a5.size) = False := eq_false (Nat.not_lt.2 c5)
 obtain rfl := Option.some.inj H
 go_enter Tryz.func81, Tryz.ntmps81
 go_wp2_with (first | ((with_reducible refine gate_callee (f := 101) rfl ?_); refine goesL_ (some 11) rfl rfl Tryz.func101 (by kernel_rfl) rfl #[.string (⟨#[0]⟩ : ByteArray), .int .i64 ji3] rfl (by (try simp only [List.map_toArray, List.map_cons, List.map_nil]); first | done | (simp only [hji3]; rfl) | rfl | (simp only [List.length_drop, List.length_take]; rfl)) ?_; (with_reducible refine (strings_Repeat.calls (⟨#[0]⟩ : ByteArray) ji3 a5 _ A4.out).mono ?_); rintro e w6 ⟨rfl, hb⟩; refine ⟨_, rfl, ?_⟩; have n0_ := Aside0.mk (below_step th_ hb); clear HB; have HB := n0_; clear n0_; (try clear hb)))
 go_ret
 exact ⟨(by first | rfl | (simp [errW_none, errW_some] <;> rfl) | (simp only [← hji3]; first | rfl | (simp [errW_none, errW_some] <;> rfl)) | (simp [*, errW_none, errW_some] <;> rfl)), th_⟩

/-! ### impl_WordText: function 83 -/
def impl_WordText.f (a0 : ByteArray) : Option (ByteArray) := if (a0.size : Int) > 8 then (some (⟨#[]⟩ : ByteArray)) else ((impl_padded.f a0 8).bind fun a5 => (some a5))
set_option maxHeartbeats 8000000 in
set_option maxRecDepth 100000 in
theorem impl_WordText.calls (a0 : ByteArray) (r : ByteArray) (w : World) (h : impl_WordText.f a0 = some r) :
  Calls Tryz.prog 83 #[.string a0] w fun e w' => e = .returned (.string r) ∧ Below w.heap.size w w' := by
 have HB := Aside0.mk (Below.refl w.heap.size w)
 unfold impl_WordText.f at h
 have H := h
 clear h
 by_cases c2 : (a0.size : Int) > 8
 ·rw [if_pos c2] at H
  have a5 := decide_eq_true c2
  have a6 : decide (8 < a0.size) = true := decide_eq_true (by omega)
  clear c2
  obtain rfl := Option.some.inj H
  go_enter Tryz.func83, Tryz.ntmps83
  go_wp2
  go_ret
  exact ⟨tq_1, th_⟩
 rw [if_neg c2] at H
 have a5 := decide_eq_false c2
 have a6 : decide (8 < a0.size) = false := decide_eq_false (by omega)
 clear c2
 obtain ⟨a7, A3, H⟩ := bd_ H
 obtain rfl := Option.some.inj H
 go_enter Tryz.func83, Tryz.ntmps83
 go_wp2_with (first | ((with_reducible refine gate_callee (f := 81) rfl ?_); refine goesL_ (some 7) rfl rfl Tryz.func81 (by kernel_rfl) rfl #[.string a0, .int .i64 8] rfl tq_0 ?_; (with_reducible refine (impl_padded.calls a0 8 a7 _ A3.out).mono ?_); rintro e w4 ⟨rfl, hb⟩; refine ⟨_, rfl, ?_⟩; have n0_ := Aside0.mk (below_step th_ hb); clear HB; have HB := n0_; clear n0_; (try clear hb)))
 go_ret
 exact ⟨tq_1, th_⟩

/-! ### impl_NameOk: function 103 -/
def impl_NameOk.l0 : Nat → ByteArray → Int → Int → Option (Bool)
 | 0, _, _, _ => none
 | k + 1, x0, x5, x6 => if x6 < x5 then (if 0 ≤ x6 then (if x6 < (x0.size : Int) then (if (bt x0 x6) ≥ 97 then (if (bt x0 x6) ≤ 122 then (impl_NameOk.l0 k x0 x5 (wrap64 (x6 + 1))) else (if (bt x0 x6) ≥ 48 then (if ((bt x0 x6) ≤ 57) then (impl_NameOk.l0 k x0 x5 (wrap64 (x6 + 1))) else (some false)) else (some false))) else (if (bt x0 x6) ≥ 48 then (if ((bt x0 x6) ≤ 57) then (impl_NameOk.l0 k x0 x5 (wrap64 (x6 + 1))) else (some false)) else (some false))) else (none)) else (none)) else ((impl_within.f (x0.size : Int) 1 7).bind fun a5 => (some a5))
def impl_NameOk.f (k : Nat) (a0 : ByteArray) : Option (Bool) := impl_NameOk.l0 k a0 (a0.size : Int) 0
set_option maxHeartbeats 8000000 in
set_option maxRecDepth 100000 in
theorem impl_NameOk.calls (k : Nat) (a0 : ByteArray) (r : Bool) (w : World) (h : impl_NameOk.f k a0 = some r) :
  Calls Tryz.prog 103 #[.string a0] w fun e w' => e = .returned (.bool r) ∧ Drawn0 w w' := by
 unfold impl_NameOk.f at h
 have H := h
 clear h
 have H' := Aside0.mk H
 clear H
 go_enter Tryz.func103, Tryz.ntmps103
 go_wp2
 go_loopg [6] k (fun kq v6 w' => ∃ (a5 : Int), v6 = .int .i64 a5 ∧ Aside0 (impl_NameOk.l0 kq a0 (a0.size : Int) a5 = some r) ∧ Aside0 (kq ≤ k) ∧ Drawn0 w w')
 case atStart => exact ⟨(0), tq_3, H', ⟨Nat.le_refl _⟩, tq_9⟩
 case round =>
 clear H'
 try clear c1
 obtain ⟨a5, rfl, HA, HK1, ⟨m1, rfl⟩⟩ := hrel
 cases gk with
 | zero => exact absurd HA.out (by simp [impl_NameOk.l0])
 | succ k1 =>
 have H := HA.out
 clear HA
 simp only [impl_NameOk.l0] at H
 by_cases c2 : a5 < (a0.size : Int)
 rotate_left
 ·rw [if_neg c2] at H
  have ah := decide_eq_false c2
  clear c2
  obtain ⟨ai, al, H⟩ := bd_ H
  obtain rfl := Option.some.inj H
  go_wp2_with (first | ((with_reducible refine gate_callee (f := 49) rfl ?_); refine goesL_ (some 35) rfl rfl Tryz.func49 (by kernel_rfl) rfl #[.int .i64 (a0.size : Int), .int .i64 1, .int .i64 7] rfl tq_0 ?_; (with_reducible refine (impl_within.calls (a0.size : Int) 1 7 ai _ al.out).mono ?_); rintro e w' ⟨rfl, ⟨nd, rfl⟩⟩; refine ⟨_, rfl, ?_⟩))
  go_ret
  exact ⟨tq_3, tq_9⟩
 rw [if_pos c2] at H
 have ah := decide_eq_true c2
 clear c2
 obtain ⟨c3, H⟩ := fc_ H
 have am := decide_eq_true c3
 clear c3
 obtain ⟨c4, H⟩ := fc_ H
 have an := decide_eq_true c4
 clear c4
 by_cases c6 : (bt a0 a5) ≥ 97
 rotate_left
 ·rw [if_neg c6] at H
  have aj := decide_eq_false c6
  clear c6
  by_cases a8 : (bt a0 a5) ≥ 48
  rotate_left
  ·rw [if_neg a8] at H
   have ac := decide_eq_false a8
   clear a8
   obtain rfl := Option.some.inj H
   have p5 : 0 ≤ (a5 : Int) := of_decide_eq_true tq_2
   have q5 : a5 < (a0.size : Int) := of_decide_eq_true tq_2
   have hx5 := bt_at a0 a5
   replace p5 := eq_true p5
   replace q5 := eq_true q5
   have p14 : 0 ≤ (a5 : Int) := of_decide_eq_true tq_2
   have q14 : a5 < (a0.size : Int) := of_decide_eq_true tq_2
   have hx14 := bt_at a0 a5
   replace p14 := eq_true p14
   replace q14 := eq_true q14
   go_wp2
   go_ret
   exact ⟨tq_3, tq_9⟩
  rw [if_pos a8] at H
  have ac := decide_eq_true a8
  clear a8
  have ae := Aside0.mk H
  clear H
  have p5 : 0 ≤ (a5 : Int) := of_decide_eq_true tq_2
  have q5 : a5 < (a0.size : Int) := of_decide_eq_true tq_2
  have hx5 := bt_at a0 a5
  replace p5 := eq_true p5
  replace q5 := eq_true q5
  have p14 : 0 ≤ (a5 : Int) := of_decide_eq_true tq_2
  have q14 : a5 < (a0.size : Int) := of_decide_eq_true tq_2
  have hx14 := bt_at a0 a5
  replace p14 := eq_true p14
  replace q14 := eq_true q14
  have p16 : 0 ≤ (a5 : Int) := of_decide_eq_true tq_2
  have q16 : a5 < (a0.size : Int) := of_decide_eq_true tq_2
  have hx16 := bt_at a0 a5
  replace p16 := eq_true p16
  replace q16 := eq_true q16
  go_upto_if 31 with (fail)
  have H := ae.out
  clear ae
  by_cases a9 : ((bt a0 a5) ≤ 57)
  rotate_left
  ·rw [if_neg a9] at H
   have a6 := decide_eq_false a9
   clear a9
   (first | rw [a6] | (simp only [i64_w, i32_w]; rw [a6]) | skip)
   obtain rfl := Option.some.inj H
   go_wp2
   go_ret
   exact ⟨tq_3, tq_9⟩
  rw [if_pos a9] at H
  have a6 := decide_eq_true a9
  clear a9
  (first | rw [a6] | (simp only [i64_w, i32_w]; rw [a6]) | skip)
  have H' := Aside0.mk H
  clear H
  go_wp2
  go_roundg k1
  case measure => have := HK1.out; omega
  case rel => exact ⟨(wrap64 (a5 + 1)), tq_3, H', ⟨tq_22⟩, tq_9⟩
 rw [if_pos c6] at H
 have aj := decide_eq_true c6
 clear c6
 by_cases c8 : (bt a0 a5) ≤ 122
 ·rw [if_pos c8] at H
  have ak := decide_eq_true c8
  clear c8
  have H' := Aside0.mk H
  clear H
  have p5 : 0 ≤ (a5 : Int) := of_decide_eq_true tq_2
  have q5 : a5 < (a0.size : Int) := of_decide_eq_true tq_2
  have hx5 := bt_at a0 a5
  replace p5 := eq_true p5
  replace q5 := eq_true q5
  have p7 : 0 ≤ (a5 : Int) := of_decide_eq_true tq_2
  have q7 : a5 < (a0.size : Int) := of_decide_eq_true tq_2
  have hx7 := bt_at a0 a5
  replace p7 := eq_true p7
  replace q7 := eq_true q7
  go_wp2
  go_roundg k1
  case measure => have := HK1.out; omega
  case rel => exact ⟨(wrap64 (a5 + 1)), tq_3, H', ⟨tq_22⟩, tq_9⟩
 rw [if_neg c8] at H
 have ak := decide_eq_false c8
 clear c8
 by_cases aa : (bt a0 a5) ≥ 48
 rotate_left
 ·rw [if_neg aa] at H
  have af := decide_eq_false aa
  clear aa
  obtain rfl := Option.some.inj H
  have p5 : 0 ≤ (a5 : Int) := of_decide_eq_true tq_2
  have q5 : a5 < (a0.size : Int) := of_decide_eq_true tq_2
  have hx5 := bt_at a0 a5
  replace p5 := eq_true p5
  replace q5 := eq_true q5
  have p7 : 0 ≤ (a5 : Int) := of_decide_eq_true tq_2
  have q7 : a5 < (a0.size : Int) := of_decide_eq_true tq_2
  have hx7 := bt_at a0 a5
  replace p7 := eq_true p7
  replace q7 := eq_true q7
  have p9 : 0 ≤ (a5 : Int) := of_decide_eq_true tq_2
  have q9 : a5 < (a0.size : Int) := of_decide_eq_true tq_2
  have hx9 := bt_at a0 a5
  replace p9 := eq_true p9
  replace q9 := eq_true q9
  go_wp2
  go_ret
  exact ⟨tq_3, tq_9⟩
 rw [if_pos aa] at H
 have af := decide_eq_true aa
 clear aa
 have ag := Aside0.mk H
 clear H
 have p5 : 0 ≤ (a5 : Int) := of_decide_eq_true tq_2
 have q5 : a5 < (a0.size : Int) := of_decide_eq_true tq_2
 have hx5 := bt_at a0 a5
 replace p5 := eq_true p5
 replace q5 := eq_true q5
 have p7 : 0 ≤ (a5 : Int) := of_decide_eq_true tq_2
 have q7 : a5 < (a0.size : Int) := of_decide_eq_true tq_2
 have hx7 := bt_at a0 a5
 replace p7 := eq_true p7
 replace q7 := eq_true q7
 have p9 : 0 ≤ (a5 : Int) := of_decide_eq_true tq_2
 have q9 : a5 < (a0.size : Int) := of_decide_eq_true tq_2
 have hx9 := bt_at a0 a5
 replace p9 := eq_true p9
 replace q9 := eq_true q9
 have p11 : 0 ≤ (a5 : Int) := of_decide_eq_true tq_2
 have q11 : a5 < (a0.size : Int) := of_decide_eq_true tq_2
 have hx11 := bt_at a0 a5
 replace p11 := eq_true p11
 replace q11 := eq_true q11
 go_upto_if 31 with (fail)
 have H := ag.out
 clear ag
 by_cases ab : ((bt a0 a5) ≤ 57)
 rotate_left
 ·rw [if_neg ab] at H
  have a7 := decide_eq_false ab
  clear ab
  (first | rw [a7] | (simp only [i64_w, i32_w]; rw [a7]) | skip)
  obtain rfl := Option.some.inj H
  go_wp2
  go_ret
  exact ⟨tq_3, tq_9⟩
 rw [if_pos ab] at H
 have a7 := decide_eq_true ab
 clear ab
 (first | rw [a7] | (simp only [i64_w, i32_w]; rw [a7]) | skip)
 have H' := Aside0.mk H
 clear H
 go_wp2
 go_roundg k1
 case measure => have := HK1.out; omega
 case rel => exact ⟨(wrap64 (a5 + 1)), tq_3, H', ⟨tq_22⟩, tq_9⟩

/-! ### impl_EntryWord: function 86 -/
def impl_EntryWord.j0 : Nat → Bool → Int → ByteArray → Option (ByteArray)
 | 0, _, _, _ => none
 | k + 1, a9, a6, a5 => if a9 = true then (some (⟨#[]⟩ : ByteArray)) else ((impl_NumText.f k a6 1).bind fun a7 => (if a7.size + a5.size ≤ 9223372036854775807 then ((impl_WordText.f (a7 ++ a5)).bind fun a8 => (some a8)) else (none)))
def impl_EntryWord.f (k : Nat) (a5 : Int) (a6 : ByteArray) : Option (ByteArray) := (impl_within.f a5 1 5).bind fun a7 => (if a7 = true then ((impl_NameOk.f k a6).bind fun a8 => (impl_EntryWord.j0 k (!a8) a5 a6)) else (impl_EntryWord.j0 k true a5 a6))
def impl_EntryWord.T3 : Bool × List (List Nat × List Nat) := (true, [([], []), ([0], [0]), ([1], [1]), ([], []), ([3], [3]), ([2, 4], [2, 4]), ([5, 2], [5]), ([6, 6, 0, 1, 2, 3, 4, 5, 6], [6])])
def impl_EntryWord.B3 : List Nat := [0, 1, 3, 0, 8, 31, 63, 127]
theorem impl_EntryWord.tab3 : rtab .any (opsOf Tryz.f86 3) = impl_EntryWord.T3 := by kernel_rfl
theorem impl_EntryWord.bits3 : waitsOk impl_EntryWord.T3.2 impl_EntryWord.B3 = true := by kernel_rfl
set_option maxHeartbeats 8000000 in
set_option maxRecDepth 100000 in
theorem impl_EntryWord.calls (k : Nat) (a6 : Int) (a7 : ByteArray) (r : ByteArray) (w : World) (h : impl_EntryWord.f k a6 a7 = some r) :
  Calls Tryz.prog 86 #[.agg #[.int .i64 a6, .string a7]] w fun e w' => e = .returned (.string r) ∧ Below w.heap.size w w' := by
 have hu72 := Tryz.underlying72
 have HB := Aside0.mk (Below.refl w.heap.size w)
 unfold impl_EntryWord.f at h
 have H := h
 clear h
 have ab := Aside0.mk H
 clear H
 go_enter Tryz.func86, Tryz.ntmps86
 go_upto_region 1 with (first | ((with_reducible refine gate_dst (N := 1) rfl ?_); refine be_ 1 (cs := #[.int .i64 a6, .string a7]) 72 ?_; intro a8 hg w3 hbox hb; have z_ := bx0_ th_ hb hbox hg; clear HB; obtain ⟨HB, a5, ag, ah⟩ := z_; clear hb hbox hg))
 (try simp only [Act.put, List.setIfInBounds_toArray, List.set_cons_zero, List.set_cons_succ])
 go_cut [12] (fun v12 wc => ∃ (kq : Nat) (x12_1 : Bool), v12 = .bool x12_1 ∧ Aside0 (impl_EntryWord.j0 kq x12_1 a6 a7 = some r) ∧ Aside0 (kq ≤ k) ∧ Aside0 (wc.heap[a8]? = some (.cells #[.int .i64 a6, .string a7] 72 (0, 0))) ∧ Aside0 (Below w.heap.size w wc))
 case first =>
  have H := ab.out
  clear ab
  obtain ⟨ac, A4, H⟩ := bd_ H
  by_cases c5 : ac = true
  rotate_left
  ·replace c5 := Bool.eq_false_iff.mpr c5
   subst c5
   rw [if_neg nf_] at H
   have H' := Aside0.mk H
   clear H
   have ai := bb2_ a5.out
   go_wp2_with (first | ((with_reducible refine gate_callee (f := 49) rfl ?_); refine goesL_ (some 5) rfl rfl Tryz.func49 (by kernel_rfl) rfl #[.int .i64 a6, .int .i64 1, .int .i64 5] rfl tq_0 ?_; (with_reducible refine (impl_within.calls a6 1 5 false _ A4.out).mono ?_); rintro e w' ⟨rfl, ⟨nd, rfl⟩⟩; refine ⟨_, rfl, ?_⟩))
   go_meet
   case rel => exact ⟨_, (true), tq_3, H', ⟨tq_18⟩, ⟨(kb_ a5)⟩, ⟨th_⟩⟩
  subst c5
  rw [if_pos rfl] at H
  obtain ⟨aa, A6, H⟩ := bd_ H
  have H' := Aside0.mk H
  clear H
  have aj := bb2_ a5.out
  go_wp2_with (first | ((with_reducible refine gate_callee (f := 49) rfl ?_); refine goesL_ (some 5) rfl rfl Tryz.func49 (by kernel_rfl) rfl #[.int .i64 a6, .int .i64 1, .int .i64 5] rfl tq_0 ?_; (with_reducible refine (impl_within.calls a6 1 5 true _ A4.out).mono ?_); rintro e w' ⟨rfl, ⟨nd, rfl⟩⟩; refine ⟨_, rfl, ?_⟩) | (go_at_call 103; (with_reducible refine (impl_NameOk.calls k a7 aa _ A6.out).mono ?_); rintro e w' ⟨rfl, ⟨nd, rfl⟩⟩))
  go_meet
  case rel => exact ⟨_, (!aa), tq_3, H', ⟨tq_18⟩, ⟨(kb_ a5)⟩, ⟨th_⟩⟩
 case rest =>
 clear ab
 try clear p2; try clear c4; try clear c5; try clear c8; try clear aj; try clear ai; try clear aj; try clear ai
 obtain ⟨kq, x12_1, rfl, HA, HJ1, a5, HB⟩ := hcut
 cases kq with
 | zero => exact absurd HA.out (by simp [impl_EntryWord.j0])
 | succ kj1 =>
 have H := HA.out
 clear HA
 simp only [impl_EntryWord.j0] at H
 by_cases c9 : x12_1 = true
 ·subst c9
  rw [if_pos rfl] at H
  obtain rfl := Option.some.inj H
  go_wp2
  go_ret
  exact ⟨tq_1, th_⟩
 replace c9 := Bool.eq_false_iff.mpr c9
 subst c9
 rw [if_neg nf_] at H
 obtain ⟨a9, an, H⟩ := bd_ H
 obtain ⟨ae, H⟩ := fc_ H
 have ak := eq_true ae
 have al := decide_eq_true ae
 try have am : (9223372036854775807 < a9.size + a7.size) = False := eq_false (Nat.not_lt.2 ae)
 obtain ⟨af, ao, H⟩ := bd_ H
 obtain rfl := Option.some.inj H
 try go_wp2
 have z_ := dw1_ a5 HB
 clear a5 HB
 obtain ⟨a5, HB⟩ := z_
 refine start_ (n := 8) (S := fun w' => w'.cell? ⟨a8, 0, none⟩ = some (.int .i64 a6) ∧ w'.cell? ⟨a8, 1, none⟩ = some (.string a7)) (ds := []) bq_0 (by kernel_rfl) rfl rfl (bk2_ a5.out) (fun hHeld => ?_); refine with_tabW impl_EntryWord.tab3 impl_EntryWord.bits3 (fun HT_ HW_ => ?_)
 generalize wc.drew = ap at a5 HB hHeld ⊢
 refine yr_ 0 13 bq_1 HT_ ?_
 refine yr_ 3 16 bq_97 HT_ ?_
 refine tr_ 1 14 bq_98 HT_ HW_ hHeld ?_
 refine tr_ 4 17 bq_99 HT_ HW_ hHeld ?_
 refine one_ (i := 2) (N := some 15) bq_40 rfl rfl (one_of HT_.out (by kernel_rfl)) (by decide) (fun K hK => ?_)
 refine goes_ Tryz.func84 (by kernel_rfl) rfl #[.int .i64 a6, .int .i64 1] (by rfl) rfl rfl tq_0 ?_
 with_reducible refine (impl_NumText.calls kj1 a6 1 a9 _ an.out).mono ?_
 rintro e aq ⟨rfl, hb⟩
 refine ⟨_, rfl, ?_⟩
 have z_ := bw1_ (kb_ a5) th_ hb
 clear a5 HB
 obtain ⟨a5, HB⟩ := z_
 (try clear hb)
 refine hK.out _ _ (bk2_ a5.out) (fun hHeld => ?_)
 clear hK K
 refine nm_ (some 15) ?_
 refine yr_ 5 18 bq_2 HT_ ?_
 refine one_ (i := 6) (N := some 19) bq_3 rfl rfl (one_of HT_.out (by kernel_rfl)) (by decide) (fun K hK => ?_)
 refine goes_ Tryz.func83 (by kernel_rfl) rfl #[.string (a9 ++ a7)] (by rfl) rfl rfl tq_0 ?_
 with_reducible refine (impl_WordText.calls (a9 ++ a7) af _ ao.out).mono ?_
 rintro e ar ⟨rfl, hb⟩
 refine ⟨_, rfl, ?_⟩
 have z_ := bw1_ (kb_ a5) th_ hb
 clear a5 HB
 obtain ⟨a5, HB⟩ := z_
 (try clear hb)
 refine hK.out _ _ (bk2_ a5.out) (fun hHeld => ?_)
 clear hK K
 refine nm_ (some 19) ?_
 refine yr_ 7 2 bq_4 HT_ ?_
 refine done_ (done_of HT_.out (by kernel_rfl)) ?_
 try go_wp2
 go_ret
 exact ⟨tq_1, th_⟩

end Go.Proofs.YtleoknilacjakaaGreat.PFnExactChanged
