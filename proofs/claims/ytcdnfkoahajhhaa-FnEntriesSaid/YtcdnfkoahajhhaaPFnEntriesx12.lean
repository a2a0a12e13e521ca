/- Contracts of Go functions, written by a program of ours over the print of the kit: each says that the call returns what the Lean function beside it computes. Conditions: as each theorem states them. -/
import Derived.Test.YtcdnfkoahajhhaaPkFnEntries
import Derived.Test.YtcdnfkoahajhhaaPFnEntriesx0
namespace Go.Proofs.Ytcdnfkoahajhhaa.PFnEntries
open Go.RowKit Go.Proofs.YtcdnfkoahajhhaaW.PrintWords Go.Proofs.YtcdnfkoahajhhaaW.PrintLast Go.Proofs.YtcdnfkoahajhhaaW.PrintMore
attribute [local go_sem] max2_int min2_int max_two min_two max_three min_three max_four min_four   -- for this text's walks alone
set_option linter.unusedVariables false
set_option linter.unusedSimpArgs false

/-! ### impl_FreeInode: function 41 -/
def impl_FreeInode.l0 : Nat → List (S49) → Int → Int → Option (Int)
 | 0, _, _, _ => none
 | k + 1, x6, x7, x8 => if x8 < x7 then (if 0 ≤ x8 then (if x8 < (x6.length : Int) then (if x8 > 0 then (if ((rd_T49 x6 x8).f0) = 0 then (if ((rd_T49 x6 x8).f2) < 65535 then (some x8) else (impl_FreeInode.l0 k x6 x7 (wrap64 (x8 + 1)))) else (impl_FreeInode.l0 k x6 x7 (wrap64 (x8 + 1)))) else (impl_FreeInode.l0 k x6 x7 (wrap64 (x8 + 1)))) else (none)) else (none)) else (some (-1))
def impl_FreeInode.f (k : Nat) (a0_0 : Int) (l0_1 : List Int) (l0_2 : List (S49)) : Option (Int) := impl_FreeInode.l0 k l0_2 (l0_2.length : Int) 0
theorem impl_FreeInode.mono_l : ∀ k, (∀ y0 y1 y2, LeO (impl_FreeInode.l0 k y0 y1 y2) (impl_FreeInode.l0 (k + 1) y0 y1 y2))
 | 0 => fun _ _ _ r h => by simp [impl_FreeInode.l0] at h
 | k + 1 => by
  have ih0 := impl_FreeInode.mono_l k
  ·intro y0 y1 y2
   unfold impl_FreeInode.l0
   exact mo_0
theorem impl_FreeInode.mono : ∀ a0 a1 a2 k, LeO (impl_FreeInode.f k a0 a1 a2) (impl_FreeInode.f (k + 1) a0 a1 a2) := by
 intro a0 a1 a2 k
 have ih0 := impl_FreeInode.mono_l k
 unfold impl_FreeInode.f
 repeat' first
   | (with_reducible exact ih0 ..)
   | (with_reducible exact LeO.refl _)
   | (with_reducible exact LeO.none _)
   | (with_reducible refine LeO.ite ?_ ?_)
   | (with_reducible refine LeO.bind ?_ (fun _ => ?_))
   | exact ih0 ..
   | exact LeO.none _
   | refine LeO.ite ?_ ?_
   | refine LeO.bind ?_ (fun _ => ?_)
set_option maxHeartbeats 8000000 in
set_option maxRecDepth 100000 in
theorem impl_FreeInode.calls (k : Nat) (a0_0 : Int) (A0_1 : Option Addr) (c0_1 : Nat) (l0_1 : List Int) (A0_2 : Option Addr) (c0_2 : Nat) (l0_2 : List (S49)) (r : Int) (w : World) (hr0_1 : Kd.C (Kd.int .i64) w A0_1 l0_1.length l0_1) (hc0_1 : l0_1.length ≤ c0_1) (hr0_2 : Kd.C k49 w A0_2 l0_2.length l0_2) (hc0_2 : l0_2.length ≤ c0_2) (h : impl_FreeInode.f k a0_0 l0_1 l0_2 = some r) :
  Calls Try.prog 41 #[.agg #[.int .i64 a0_0, .slice A0_1 l0_1.length c0_1, .slice A0_2 l0_2.length c0_2]] w fun e w' => e = .returned (.int .i64 r) ∧ Below w.heap.size w w' := by
 have hu69 := Try.underlying69
 have hu49 := Try.underlying49
 have HR0_1 := Aside0.mk hr0_1
 have HC0_1 := Aside0.mk hc0_1
 clear hr0_1 hc0_1
 have HR0_2 := Aside0.mk hr0_2
 have HC0_2 := Aside0.mk hc0_2
 clear hr0_2 hc0_2
 have HB := Aside0.mk (Below.refl w.heap.size w)
 have H : (impl_FreeInode.l0 k l0_2 (l0_2.length : Int) 0) = some r := h
 clear h
 have H' := Aside0.mk H
 clear H
 go_enter Try.func41, Try.ntmps41
 go_wp2_with (first | ((with_reducible refine gate_dst (N := 1) rfl ?_); refine box_event ?hg (N := 1) ?hd (cs := #[.int .i64 a0_0, .slice A0_1 l0_1.length c0_1, .slice A0_2 l0_2.length c0_2]) (t := 69) ?hr ?_; (case hd => rfl); (case hg => rfl); (case hr => first | (go_simp; done) | (go_simp; rfl)); intro gb472 hg w2 hbox hb; have z_ := p_ (below_step tq_3 hb) <| p_ (hbox) <| p_ (gb_ hg tq_3) <| a_ (gb_ hg tq_3); clear HB; obtain ⟨HB, BK472, GW472, GE472⟩ := z_; clear hb hbox hg; obtain ⟨hcz3_0, hcz3_1, hcz3_2⟩ := bk3_ BK472.out; obtain ⟨hfz3_0, hfz3_1, hfz3_2⟩ := bf3_ BK472.out))
 go_loopg [8] k (fun kq v8 w' => ∃ (x8_1 : Int), v8 = .int .i64 x8_1 ∧ Aside0 (impl_FreeInode.l0 kq l0_2 (l0_2.length : Int) x8_1 = some r) ∧ Aside0 (kq ≤ k) ∧ Aside0 (w'.heap[gb472]? = some (.cells #[.int .i64 a0_0, (.slice A0_1 l0_1.length c0_1), (.slice A0_2 l0_2.length c0_2)] 69 (0, 0))) ∧ Aside0 (Below w.heap.size w w'))
 case atStart => exact ⟨(0), tq_36, H', ⟨Nat.le_refl _⟩, ⟨tq_62⟩, ⟨tq_43⟩⟩
 case round =>
  clear H'
  try clear p2; try clear hcz3_0 hcz3_1 hcz3_2 hfz3_0 hfz3_1 hfz3_2
  obtain ⟨x8_1, rfl, HA, HK1, BK472, HB⟩ := hrel
  cases gk with
  | zero => exact absurd HA.out (by simp [impl_FreeInode.l0])
  | succ k1 =>
   have H := HA.out
   clear HA
   simp only [impl_FreeInode.l0] at H
   by_cases c4 : x8_1 < (l0_2.length : Int)
   rotate_left
   ·rw [if_neg c4] at H
    have c4b0 := decide_eq_false c4
    clear c4
    obtain rfl := Option.some.inj H
    go_wp2
    go_ret
    exact ⟨tq_11, tq_43⟩
   rw [if_pos c4] at H
   have c4b0 := decide_eq_true c4
   clear c4
   by_cases c5 : 0 ≤ x8_1
   rotate_left
   ·rw [if_neg c5] at H
    exact absurd H (by simp)
   rw [if_pos c5] at H
   have c5b0 := decide_eq_true c5
   clear c5
   by_cases c6 : x8_1 < (l0_2.length : Int)
   rotate_left
   ·rw [if_neg c6] at H
    exact absurd H (by simp)
   rw [if_pos c6] at H
   have c6b0 := decide_eq_true c6
   clear c6
   by_cases c7 : x8_1 > 0
   rotate_left
   ·rw [if_neg c7] at H
    have c7b0 := decide_eq_false c7
    clear c7
    have H' := Aside0.mk H
    clear H
    have p473 : 0 ≤ (x8_1 : Int) := of_decide_eq_true tq_20
    have q473 : x8_1 < (l0_2.length : Int) := of_decide_eq_true tq_20
    obtain ⟨ad473, A473_4, c473_4, A473_5, c473_5, e473, hx473_0, hx473_1, hx473_2, hx473_3, hx473_4, hx473_5, hl473_4, hi473_4, hl473_5, hi473_5⟩ := at_T49 HR0_2.out x8_1 p473 q473
    cases e473
    replace hx473_0 := hx_ HB.out hx473_0
    replace hx473_1 := hx_ HB.out hx473_1
    replace hx473_2 := hx_ HB.out hx473_2
    replace hx473_3 := hx_ HB.out hx473_3
    replace hx473_4 := hx_ HB.out hx473_4
    replace hx473_5 := hx_ HB.out hx473_5
    have HR473_4 := Aside0.mk hi473_4
    have HC473_4 := Aside0.mk hl473_4
    clear hi473_4 hl473_4
    have HR473_5 := Aside0.mk hi473_5
    have HC473_5 := Aside0.mk hl473_5
    clear hi473_5 hl473_5
    replace p473 := eq_true p473
    replace q473 := eq_true q473
    go_wp2_with (first | ((with_reducible refine gate_dst (N := 4) rfl ?_); refine box_event ?hg (N := 4) ?hd (cs := #[.int .i64 0, .int .i64 0, .int .i64 0, .string (⟨#[]⟩ : ByteArray), .slice none 0 0, .slice none 0 0]) (t := 49) ?hr ?_; (case hd => rfl); (case hg => rfl); (case hr => first | (go_simp; done) | (go_simp; rfl)); intro gb474 hg w19 hbox hb; have z_ := p_ (blk_below tq_62 hb) <| p_ (below_step tq_43 hb) <| p_ (hbox) <| p_ (gb_ hg tq_43) <| p_ (gb_ hg tq_43) <| p_ (ltne_ hg (blk_lt tq_62)) <| a_ (gtne_ hg (blk_lt tq_62)); clear BK472 HB; obtain ⟨BK472, HB, BK474, GW474, GE474, NB472_474, NB474_472⟩ := z_; clear hb hbox hg; have hnb20 := NB474_472.out; have hnc20 := NB472_474.out; obtain ⟨hcz21_0, hcz21_1, hcz21_2, hcz21_3, hcz21_4, hcz21_5⟩ := bk6_ BK474.out; obtain ⟨hfz21_0, hfz21_1, hfz21_2, hfz21_3, hfz21_4, hfz21_5⟩ := bf6_ BK474.out))
    go_roundg k1
    case measure => have := HK1.out; omega
    case rel => exact ⟨(wrap64 (x8_1 + 1)), tq_36, H', ⟨tq_198⟩, ⟨tq_50⟩, ⟨tq_151⟩⟩
   rw [if_pos c7] at H
   have c7b0 := decide_eq_true c7
   clear c7
   by_cases c8 : ((rd_T49 l0_2 x8_1).f0) = 0
   rotate_left
   ·rw [if_neg c8] at H
    have c8b0 : (((rd_T49 l0_2 x8_1).f0) == 0) = false := beq_eq_false_iff_ne.mpr c8
    have c8b1 : (((rd_T49 l0_2 x8_1).f0) != 0) = true := bne_iff_ne.mpr c8
    have H' := Aside0.mk H
    clear H
    have p473 : 0 ≤ (x8_1 : Int) := of_decide_eq_true tq_20
    have q473 : x8_1 < (l0_2.length : Int) := of_decide_eq_true tq_20
    obtain ⟨ad473, A473_4, c473_4, A473_5, c473_5, e473, hx473_0, hx473_1, hx473_2, hx473_3, hx473_4, hx473_5, hl473_4, hi473_4, hl473_5, hi473_5⟩ := at_T49 HR0_2.out x8_1 p473 q473
    cases e473
    replace hx473_0 := hx_ HB.out hx473_0
    replace hx473_1 := hx_ HB.out hx473_1
    replace hx473_2 := hx_ HB.out hx473_2
    replace hx473_3 := hx_ HB.out hx473_3
    replace hx473_4 := hx_ HB.out hx473_4
    replace hx473_5 := hx_ HB.out hx473_5
    have HR473_4 := Aside0.mk hi473_4
    have HC473_4 := Aside0.mk hl473_4
    clear hi473_4 hl473_4
    have HR473_5 := Aside0.mk hi473_5
    have HC473_5 := Aside0.mk hl473_5
    clear hi473_5 hl473_5
    replace p473 := eq_true p473
    replace q473 := eq_true q473
    go_wp2_with (first | ((with_reducible refine gate_dst (N := 4) rfl ?_); refine box_event ?hg (N := 4) ?hd (cs := #[.int .i64 0, .int .i64 0, .int .i64 0, .string (⟨#[]⟩ : ByteArray), .slice none 0 0, .slice none 0 0]) (t := 49) ?hr ?_; (case hd => rfl); (case hg => rfl); (case hr => first | (go_simp; done) | (go_simp; rfl)); intro gb474 hg w16 hbox hb; have z_ := p_ (blk_below tq_62 hb) <| p_ (below_step tq_43 hb) <| p_ (hbox) <| p_ (gb_ hg tq_43) <| p_ (gb_ hg tq_43) <| p_ (ltne_ hg (blk_lt tq_62)) <| a_ (gtne_ hg (blk_lt tq_62)); clear BK472 HB; obtain ⟨BK472, HB, BK474, GW474, GE474, NB472_474, NB474_472⟩ := z_; clear hb hbox hg; have hnb17 := NB474_472.out; have hnc17 := NB472_474.out; obtain ⟨hcz18_0, hcz18_1, hcz18_2, hcz18_3, hcz18_4, hcz18_5⟩ := bk6_ BK474.out; obtain ⟨hfz18_0, hfz18_1, hfz18_2, hfz18_3, hfz18_4, hfz18_5⟩ := bf6_ BK474.out))
    go_roundg k1
    case measure => have := HK1.out; omega
    case rel => exact ⟨(wrap64 (x8_1 + 1)), tq_36, H', ⟨tq_198⟩, ⟨tq_50⟩, ⟨tq_151⟩⟩
   rw [if_pos c8] at H
   have c8b0 : (((rd_T49 l0_2 x8_1).f0) == 0) = true := beq_iff_eq.mpr c8
   have c8b1 : (((rd_T49 l0_2 x8_1).f0) != 0) = false := bne_eq_false_iff_eq.mpr c8
   clear c8
   by_cases c9 : ((rd_T49 l0_2 x8_1).f2) < 65535
   ·rw [if_pos c9] at H
    have c9b0 := decide_eq_true c9
    clear c9
    obtain rfl := Option.some.inj H
    have p473 : 0 ≤ (x8_1 : Int) := of_decide_eq_true tq_20
    have q473 : x8_1 < (l0_2.length : Int) := of_decide_eq_true tq_20
    obtain ⟨ad473, A473_4, c473_4, A473_5, c473_5, e473, hx473_0, hx473_1, hx473_2, hx473_3, hx473_4, hx473_5, hl473_4, hi473_4, hl473_5, hi473_5⟩ := at_T49 HR0_2.out x8_1 p473 q473
    cases e473
    replace hx473_0 := hx_ HB.out hx473_0
    replace hx473_1 := hx_ HB.out hx473_1
    replace hx473_2 := hx_ HB.out hx473_2
    replace hx473_3 := hx_ HB.out hx473_3
    replace hx473_4 := hx_ HB.out hx473_4
    replace hx473_5 := hx_ HB.out hx473_5
    have HR473_4 := Aside0.mk hi473_4
    have HC473_4 := Aside0.mk hl473_4
    clear hi473_4 hl473_4
    have HR473_5 := Aside0.mk hi473_5
    have HC473_5 := Aside0.mk hl473_5
    clear hi473_5 hl473_5
    replace p473 := eq_true p473
    replace q473 := eq_true q473
    go_wp2_with (first | ((with_reducible refine gate_dst (N := 4) rfl ?_); refine box_event ?hg (N := 4) ?hd (cs := #[.int .i64 0, .int .i64 0, .int .i64 0, .string (⟨#[]⟩ : ByteArray), .slice none 0 0, .slice none 0 0]) (t := 49) ?hr ?_; (case hd => rfl); (case hg => rfl); (case hr => first | (go_simp; done) | (go_simp; rfl)); intro gb474 hg w10 hbox hb; have z_ := p_ (blk_below tq_62 hb) <| p_ (below_step tq_43 hb) <| p_ (hbox) <| p_ (gb_ hg tq_43) <| p_ (gb_ hg tq_43) <| p_ (ltne_ hg (blk_lt tq_62)) <| a_ (gtne_ hg (blk_lt tq_62)); clear BK472 HB; obtain ⟨BK472, HB, BK474, GW474, GE474, NB472_474, NB474_472⟩ := z_; clear hb hbox hg; have hnb11 := NB474_472.out; have hnc11 := NB472_474.out; obtain ⟨hcz12_0, hcz12_1, hcz12_2, hcz12_3, hcz12_4, hcz12_5⟩ := bk6_ BK474.out; obtain ⟨hfz12_0, hfz12_1, hfz12_2, hfz12_3, hfz12_4, hfz12_5⟩ := bf6_ BK474.out))
    go_ret
    exact ⟨tq_11, tq_151⟩
   rw [if_neg c9] at H
   have c9b0 := decide_eq_false c9
   clear c9
   have H' := Aside0.mk H
   clear H
   have p473 : 0 ≤ (x8_1 : Int) := of_decide_eq_true tq_20
   have q473 : x8_1 < (l0_2.length : Int) := of_decide_eq_true tq_20
   obtain ⟨ad473, A473_4, c473_4, A473_5, c473_5, e473, hx473_0, hx473_1, hx473_2, hx473_3, hx473_4, hx473_5, hl473_4, hi473_4, hl473_5, hi473_5⟩ := at_T49 HR0_2.out x8_1 p473 q473
   cases e473
   replace hx473_0 := hx_ HB.out hx473_0
   replace hx473_1 := hx_ HB.out hx473_1
   replace hx473_2 := hx_ HB.out hx473_2
   replace hx473_3 := hx_ HB.out hx473_3
   replace hx473_4 := hx_ HB.out hx473_4
   replace hx473_5 := hx_ HB.out hx473_5
   have HR473_4 := Aside0.mk hi473_4
   have HC473_4 := Aside0.mk hl473_4
   clear hi473_4 hl473_4
   have HR473_5 := Aside0.mk hi473_5
   have HC473_5 := Aside0.mk hl473_5
   clear hi473_5 hl473_5
   replace p473 := eq_true p473
   replace q473 := eq_true q473
   go_wp2_with (first | ((with_reducible refine gate_dst (N := 4) rfl ?_); refine box_event ?hg (N := 4) ?hd (cs := #[.int .i64 0, .int .i64 0, .int .i64 0, .string (⟨#[]⟩ : ByteArray), .slice none 0 0, .slice none 0 0]) (t := 49) ?hr ?_; (case hd => rfl); (case hg => rfl); (case hr => first | (go_simp; done) | (go_simp; rfl)); intro gb474 hg w13 hbox hb; have z_ := p_ (blk_below tq_62 hb) <| p_ (below_step tq_43 hb) <| p_ (hbox) <| p_ (gb_ hg tq_43) <| p_ (gb_ hg tq_43) <| p_ (ltne_ hg (blk_lt tq_62)) <| a_ (gtne_ hg (blk_lt tq_62)); clear BK472 HB; obtain ⟨BK472, HB, BK474, GW474, GE474, NB472_474, NB474_472⟩ := z_; clear hb hbox hg; have hnb14 := NB474_472.out; have hnc14 := NB472_474.out; obtain ⟨hcz15_0, hcz15_1, hcz15_2, hcz15_3, hcz15_4, hcz15_5⟩ := bk6_ BK474.out; obtain ⟨hfz15_0, hfz15_1, hfz15_2, hfz15_3, hfz15_4, hfz15_5⟩ := bf6_ BK474.out))
   go_roundg k1
   case measure => have := HK1.out; omega
   case rel => exact ⟨(wrap64 (x8_1 + 1)), tq_36, H', ⟨tq_198⟩, ⟨tq_50⟩, ⟨tq_151⟩⟩

end Go.Proofs.Ytcdnfkoahajhhaa.PFnEntries
