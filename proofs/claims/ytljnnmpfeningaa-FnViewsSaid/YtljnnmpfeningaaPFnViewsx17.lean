/- Contracts of Go functions, written by a program of ours over the print of the kit: each says that the call returns what the Lean function beside it computes. Conditions: as each theorem states them. -/
import Derived.Test.YtljnnmpfeningaaPkFnViews
import Derived.Test.YtljnnmpfeningaaPFnViewsx0
import Derived.Test.YtljnnmpfeningaaPFnViewsx1
import Derived.Test.YtljnnmpfeningaaPFnViewsx16
namespace Go.Proofs.Ytljnnmpfeningaa.PFnViews
open Go.RowKit Go.Proofs.YtljnnmpfeningaaW.PrintWords Go.Proofs.YtljnnmpfeningaaW.PrintLast Go.Proofs.YtljnnmpfeningaaW.PrintMore
attribute [local go_sem] max2_int min2_int max_two min_two max_three min_three max_four min_four   -- for this text's walks alone
set_option linter.unusedVariables false
set_option linter.unusedSimpArgs false

attribute [local go_sem high] eqA44
/-! ### impl_PutItem: function 14 -/
def impl_PutItem.f (l0_0 : List (S44)) (a1_0 : ByteArray) (a1_1 : Bool) (a1_2 : ByteArray) : Option ((List (S44))) := (impl_DropItem.f l0_0 a1_0).bind fun t779 => ((slices_IndexFunc_Item_g55.f t779 a1_0 a1_1 a1_2).bind fun t783 => (if t783 < 0 then ((slices_Insert_Item.f t779 (t779.length : Int) (([(⟨a1_0, a1_1, a1_2⟩ : S44)] : List (S44)))).bind fun t787 => (some t787)) else ((slices_Insert_Item.f t779 t783 (([(⟨a1_0, a1_1, a1_2⟩ : S44)] : List (S44)))).bind fun t793 => (some t793))))
set_option maxHeartbeats 8000000 in
set_option maxRecDepth 100000 in
theorem impl_PutItem.calls (A0_0 : Option Addr) (c0_0 : Nat) (l0_0 : List (S44)) (a1_0 : ByteArray) (a1_1 : Bool) (a1_2 : ByteArray) (r : List (S44)) (w : World) (hr0_0 : Kd.C k44 w A0_0 l0_0.length l0_0) (hc0_0 : l0_0.length ≤ c0_0) (h : impl_PutItem.f l0_0 a1_0 a1_1 a1_2 = some r) :
  Calls Try.prog 14 #[.agg #[.slice A0_0 l0_0.length c0_0], .agg #[.string a1_0, .bool a1_1, .string a1_2]] w fun e w' => ∃ v0_ : Value, e = .returned (.agg #[v0_]) ∧ Kd.R k44 44 w' w.heap.size (fun _ => True) v0_ r ∧ Below w.heap.size w w' := by
 have hu42 := Try.underlying42
 have hu44 := Try.underlying44
 have HR0_0 := Aside0.mk hr0_0
 have HC0_0 := Aside0.mk hc0_0
 clear hr0_0 hc0_0
 have HB := Aside0.mk (Below.refl w.heap.size w)
 unfold impl_PutItem.f at h
 have H := h
 clear h
 obtain ⟨t779, A3, H⟩ := bd_ H
 obtain ⟨t783, A4, H⟩ := bd_ H
 by_cases c5 : t783 < 0
 rotate_left
 ·rw [if_neg c5] at H
  have c5b0 := decide_eq_false c5
  clear c5
  obtain ⟨y790, hy790⟩ : ∃ y_ : List (S44), y_ = (([(⟨a1_0, a1_1, a1_2⟩ : S44)] : List (S44))) := ⟨_, rfl⟩
  replace H : ((slices_Insert_Item.f t779 t783 y790).bind fun t793 => (some t793)) = some r := by first | (rw [hy790]; with_reducible exact H) | (have H2_ := (Option.bind_some _ _).symm.trans H; rw [hy790]; with_reducible exact H2_) | (have H2_ := (Option.bind_some _ _).symm.trans H; with_reducible exact H2_) | with_reducible exact H | (rw [hy790]; exact H) | exact H
  have Ny790 := Aside0.mk hy790
  clear hy790
  obtain ⟨t793, A32, H⟩ := bd_ H
  obtain rfl := Option.some.inj H
  go_enter Try.func14, Try.ntmps14
  go_wp2_with (first | ((with_reducible refine gate_dst (N := 2) rfl ?_); refine be_ 2 (cs := #[.slice A0_0 l0_0.length c0_0]) 42 ?_; intro gb776 hg w33 hbox hb; have z_ := bx0_ th_ hb hbox hg; clear HB; obtain ⟨HB, BK776, GW776, GE776⟩ := z_; clear hb hbox hg) | ((with_reducible refine gate_dst (N := 3) rfl ?_); refine be_ 3 (cs := #[.string a1_0, .bool a1_1, .string a1_2]) 44 ?_; intro gb777 hg w34 hbox hb; have z_ := bx1_ (kb_ BK776) th_ hb hbox hg; clear BK776 HB; obtain ⟨BK776, HB, BK777, GW777, GE777, NB776_777, NB777_776⟩ := z_; clear hb hbox hg) | ((with_reducible refine gate_dst (N := 4) rfl ?_); refine be_ 4 (cs := #[.slice none 0 0]) 42 ?_; intro gb778 hg w35 hbox hb; have z_ := bx2_ (kb_ BK776) (kb_ BK777) th_ hb hbox hg; clear BK776 BK777 HB; obtain ⟨BK776, BK777, HB, BK778, GW778, GE778, NB776_778, NB778_776, NB777_778, NB778_777⟩ := z_; clear hb hbox hg; obtain ⟨n776_777, n777_776, n776_778, n778_776⟩ := an4_ NB776_777 NB777_776 NB776_778 NB778_776; have hcz38_0 := bc_ BK776.out 0; have hfz38_0 := blk_frozen BK776.out 0; obtain ⟨n777_778, n778_777⟩ := an2_ NB777_778 NB778_777; obtain ⟨hcz40_0, hcz40_1, hcz40_2⟩ := bk3_ BK777.out; obtain ⟨hfz40_0, hfz40_1, hfz40_2⟩ := bf3_ BK777.out) | ((with_reducible refine gate_callee (f := 15) rfl ?_); refine goesL_ (some 10) rfl rfl Try.func15 (by kernel_rfl) rfl #[.agg #[.slice A0_0 l0_0.length c0_0], .string a1_0] rfl tq_0 ?_; (with_reducible refine (impl_DropItem.calls _ _ l0_0 a1_0 t779 _ ?side1 ?side2 A3.out).mono ?_); (case side1 => exact tq_10); (case side2 => exact HC0_0.out); rintro e w41 ⟨v780, rfl, ho0, hb⟩; refine ⟨_, rfl, ?_⟩; have z_ := p_ (Kd.R_lower (Kd.R_newB ho0 (g := gb777) (o := .cells #[.string a1_0, .bool a1_1, .string a1_2] 44 (0, 0)) (kb_ BK777)) (below_size th_)) <| bw3_ (kb_ BK776) (kb_ BK777) (kb_ BK778) th_ hb; clear BK776 BK777 BK778 HB; obtain ⟨HO781, BK776, BK777, BK778, HB⟩ := z_; (try clear hb); (try clear ho0)) | ((with_reducible refine gate_dst (N := 5) rfl ?_); refine be_ 5 (cs := #[.slice none 0 0]) 42 ?_; intro gb782 hg w42 hbox hb; have z_ := p_ (Kd.R_below (raR_ HO781) hb) <| bx3_ (kb_ BK776) (kb_ BK777) (kb_ BK778) th_ hb hbox hg; clear HO781 BK776 BK777 BK778 HB; obtain ⟨HO781, BK776, BK777, BK778, HB, BK782, GW782, GE782, NB776_782, NB782_776, NB777_782, NB782_777, NB778_782, NB782_778⟩ := z_; clear hb hbox hg; obtain ⟨Ao43, co43, eo43⟩ := Kd.R_slice HO781.out; subst eo43; obtain ⟨n782_776, n776_782, n782_777, n777_782, n782_778, n778_782⟩ := an6_ NB782_776 NB776_782 NB782_777 NB777_782 NB782_778 NB778_782; have hcz47_0 := bc_ BK782.out 0; have hfz47_0 := blk_frozen BK782.out 0) | ((with_reducible refine gate_callee (f := 54) rfl ?_); refine goesL_ (some 14) rfl rfl Try.func54 (by kernel_rfl) rfl #[.slice Ao43 t779.length co43, .func (.func 55) #[] #[.pointer (some ⟨gb777, 0, none⟩)]] rfl tq_0 ?_; (with_reducible refine (slices_IndexFunc_Item_g55.calls _ _ t779 gb777 a1_0 a1_1 a1_2 t783 _ ?side1 ?side2 ?side3 A4.out).mono ?_); (case side1 => refine (Kd.R_reads' (e := 44) (base := w.heap.size) (ok := fun k_ => (True ∧ k_ ≠ gb777)) (n := t779.length) (c := co43) ?_).2.2; exact tq_55); (case side2 => exact (Kd.R_reads' HO781.out).2.1); (case side3 => (with_reducible repeat (first | refine blk_drewN ?_ _ | refine blk_drew ?_ | refine blk_alloc ?_ _)); refine blk_far ?_ NB777_782.out _; (with_reducible repeat (first | refine blk_drewN ?_ _ | refine blk_drew ?_ | refine blk_alloc ?_ _)); exact BK777.out); rintro e w48 ⟨rfl, hb⟩; refine ⟨_, rfl, ?_⟩; have z_ := p_ (Kd.R_below tq_55 hb) <| p_ (blk_below (g := gb776) (o := .cells #[.slice A0_0 l0_0.length c0_0] 42 (0, 0)) tq_94 hb) <| p_ (blk_below (g := gb777) (o := .cells #[.string a1_0, .bool a1_1, .string a1_2] 44 (0, 0)) tq_93 hb) <| p_ (blk_below (g := gb778) (o := .cells #[.slice none 0 0] 42 (0, 0)) tq_92 hb) <| p_ (blk_below (g := gb782) (o := .cells #[.slice Ao43 t779.length co43] 42 (0, 0)) tq_83 hb) <| a_ (below_step th_ hb); clear HO781 BK776 BK777 BK778 BK782 HB; obtain ⟨HO781, BK776, BK777, BK778, BK782, HB⟩ := z_; (try clear hb); (try clear hk); have hcz49_0 := bc_ BK782.out 0; have hfz49_0 := blk_frozen BK782.out 0; obtain ⟨hcz50_0, hcz50_1, hcz50_2⟩ := bk3_ BK777.out; obtain ⟨hfz50_0, hfz50_1, hfz50_2⟩ := bf3_ BK777.out) | ((with_reducible refine gate_dst (N := 24) rfl ?_); refine Kd.R_lit k44 _ 44 ?hg (N := 24) ?hd (xs := ([(⟨a1_0, a1_1, a1_2⟩ : S44)] : List (S44))) (inner := [.string a1_0, .bool a1_1, .string a1_2]) (ok := fun _ => True) (okp := fun _ => True) ?hr ?hp (fun _ hk => hk) trivial (Below.refl _ _) (Nat.le_refl _) (by simp) ?_; (case hd => rfl); (case hg => rfl); (case hr => first | (go_simp; done) | (go_simp; rfl)); (case hp => exact tq_119); intro v791 w51 ho52 hb hg_ hnew_; clear hg_ hnew_; (first | rw [← Ny790.out] at ho52 | (simp only [Int.reduceToNat] at ho52; rw [← Ny790.out] at ho52)); have z_ := p_ (Kd.R_elder' (raR_ HO781) (Kd.R_base ho52) hb) <| p_ (Kd.R_lower (Kd.R_newB (Kd.R_new' ho52 (Kd.R_lt (raR_ HO781))) (g := gb777) (o := .cells #[.string a1_0, .bool a1_1, .string a1_2] 44 (0, 0)) (kb_ BK777)) (below_size th_)) <| bw4_ (kb_ BK776) (kb_ BK777) (kb_ BK778) (kb_ BK782) th_ hb; clear HO781 BK776 BK777 BK778 BK782 HB; obtain ⟨HO781, HO792, BK776, BK777, BK778, BK782, HB⟩ := z_; clear hb ho52; obtain ⟨Ao53, co53, eo53⟩ := Kd.R_slice HO792.out; subst eo53) | ((with_reducible refine gate_callee (f := 56) rfl ?_); refine goesL_ (some 25) rfl rfl Try.func56 (by kernel_rfl) rfl #[.slice Ao43 t779.length co43, .int .i64 t783, .slice Ao53 y790.length co53] rfl tq_0 ?_; (with_reducible refine (slices_Insert_Item.calls (fun k_ => some k_ = (.slice Ao43 t779.length co43 : Value).ownBlock) (.slice Ao43 t779.length co43) t779 t783 (fun k_ => some k_ = (.slice Ao53 y790.length co53 : Value).ownBlock) (.slice Ao53 y790.length co53) y790 t793 w _ ?side1 ?side2 ?side3 ?side4 ?side5 A32.out).mono ?_); (case side1 => exact tq_96); (case side2 => exact Kd.R_tight rfl HO781.out); (case side3 => exact fun k_ e_ => (HO781.out.1 k_ e_.symm).2); (case side4 => exact Kd.R_tight rfl HO792.out); (case side5 => exact fun k_ e_ => (HO792.out.1 k_ e_.symm).1.2); rintro e w54 ⟨v794, rfl, ho0, hb, hkp⟩; refine ⟨_, rfl, ?_⟩; have z_ := p_ (blk_kept (kb_ BK776) hkp (fun hs_ => Or.elim hs_ (fun e_ => (fun e_ => (Kd.R_ne HO781.out BK776.out (by decide)) e_) e_) (fun e_ => (fun e_ => (Kd.R_ne HO792.out BK776.out (by decide)) e_) e_))) <| p_ (blk_kept (kb_ BK777) hkp (fun hs_ => Or.elim hs_ (fun e_ => (fun e_ => (Kd.R_away HO781.out (fun _ hk => hk.1.2)) e_) e_) (fun e_ => (fun e_ => (Kd.R_away HO792.out (fun _ hk => hk.2)) e_) e_))) <| p_ (blk_kept (kb_ BK778) hkp (fun hs_ => Or.elim hs_ (fun e_ => (fun e_ => (Kd.R_ne HO781.out BK778.out (by decide)) e_) e_) (fun e_ => (fun e_ => (Kd.R_ne HO792.out BK778.out (by decide)) e_) e_))) <| p_ (blk_kept (kb_ BK782) hkp (fun hs_ => Or.elim hs_ (fun e_ => (fun e_ => (Kd.R_ne HO781.out BK782.out (by decide)) e_) e_) (fun e_ => (fun e_ => (Kd.R_ne HO792.out BK782.out (by decide)) e_) e_))) <| p_ (Kd.R_mono (ok' := fun k_ => k_ ≠ gb777) ho0 (fun k_ hk_ => Or.elim hk_ (fun hs_ => Or.elim hs_ (fun hs_ => fun e_ => (Kd.R_away HO781.out (fun _ hk => hk.1.2)) (by rw [← e_]; exact hs_)) (fun hs_ => fun e_ => (Kd.R_away HO792.out (fun _ hk => hk.2)) (by rw [← e_]; exact hs_))) (fun hn_ => (Kd.freshB (g := gb777) (o := .cells #[.string a1_0, .bool a1_1, .string a1_2] 44 (0, 0)) (kb_ BK777) k_ hn_)))) <| a_ (hb); clear BK776 BK777 BK778 BK782 HB HO781 HO792; obtain ⟨BK776, BK777, BK778, BK782, HO795, HB⟩ := z_; (try clear hb); (try clear hkp); (try clear ho0); obtain ⟨Ao55, co55, eo55⟩ := Kd.R_slice HO795.out; subst eo55; have hcz56_0 := bc_ BK782.out 0; have hfz56_0 := blk_frozen BK782.out 0; have hcz57_0 := bc_ BK778.out 0; have hfz57_0 := blk_frozen BK778.out 0))
  refine bodyPost_ret (results_cell_row rfl _ _ gb778 42 #[.slice Ao55 t793.length co55] (0, 0) _ rfl tb_ Try.underlying42 rfl (by kernel_rfl)) rfl ?_
  exact ⟨_, tq_1, (by (with_reducible repeat (first | apply Kd.R_alloc | apply Kd.R_drewN | apply Kd.R_drew)); exact Kd.R_mono (rR_ (rR_ (Kd.R_types (Kd.R_types HO795.out BK782.out (by decide)) BK778.out (by decide)) (fun _ hk => hk.1.2))) (fun _ hk => trivial)), th_⟩
 rw [if_pos c5] at H
 have c5b0 := decide_eq_true c5
 clear c5
 obtain ⟨y784, hy784⟩ : ∃ y_ : List (S44), y_ = (([(⟨a1_0, a1_1, a1_2⟩ : S44)] : List (S44))) := ⟨_, rfl⟩
 replace H : ((slices_Insert_Item.f t779 (t779.length : Int) y784).bind fun t787 => (some t787)) = some r := by first | (rw [hy784]; with_reducible exact H) | (have H2_ := (Option.bind_some _ _).symm.trans H; rw [hy784]; with_reducible exact H2_) | (have H2_ := (Option.bind_some _ _).symm.trans H; with_reducible exact H2_) | with_reducible exact H | (rw [hy784]; exact H) | exact H
 have Ny784 := Aside0.mk hy784
 clear hy784
 obtain ⟨t787, A6, H⟩ := bd_ H
 obtain rfl := Option.some.inj H
 go_enter Try.func14, Try.ntmps14
 go_wp2_with (first | ((with_reducible refine gate_dst (N := 2) rfl ?_); refine be_ 2 (cs := #[.slice A0_0 l0_0.length c0_0]) 42 ?_; intro gb776 hg w7 hbox hb; have z_ := bx0_ th_ hb hbox hg; clear HB; obtain ⟨HB, BK776, GW776, GE776⟩ := z_; clear hb hbox hg) | ((with_reducible refine gate_dst (N := 3) rfl ?_); refine be_ 3 (cs := #[.string a1_0, .bool a1_1, .string a1_2]) 44 ?_; intro gb777 hg w8 hbox hb; have z_ := bx1_ (kb_ BK776) th_ hb hbox hg; clear BK776 HB; obtain ⟨BK776, HB, BK777, GW777, GE777, NB776_777, NB777_776⟩ := z_; clear hb hbox hg) | ((with_reducible refine gate_dst (N := 4) rfl ?_); refine be_ 4 (cs := #[.slice none 0 0]) 42 ?_; intro gb778 hg w9 hbox hb; have z_ := bx2_ (kb_ BK776) (kb_ BK777) th_ hb hbox hg; clear BK776 BK777 HB; obtain ⟨BK776, BK777, HB, BK778, GW778, GE778, NB776_778, NB778_776, NB777_778, NB778_777⟩ := z_; clear hb hbox hg; obtain ⟨hnb10, hnc10, n776_778, n778_776⟩ := an4_ NB776_777 NB777_776 NB776_778 NB778_776; have hcz12_0 := bc_ BK776.out 0; have hfz12_0 := blk_frozen BK776.out 0; obtain ⟨hnb13, hnc13⟩ := an2_ NB777_778 NB778_777; obtain ⟨hcz14_0, hcz14_1, hcz14_2⟩ := bk3_ BK777.out; obtain ⟨hfz14_0, hfz14_1, hfz14_2⟩ := bf3_ BK777.out) | ((with_reducible refine gate_callee (f := 15) rfl ?_); refine goesL_ (some 10) rfl rfl Try.func15 (by kernel_rfl) rfl #[.agg #[.slice A0_0 l0_0.length c0_0], .string a1_0] rfl tq_0 ?_; (with_reducible refine (impl_DropItem.calls _ _ l0_0 a1_0 t779 _ ?side1 ?side2 A3.out).mono ?_); (case side1 => exact tq_10); (case side2 => exact HC0_0.out); rintro e w15 ⟨v780, rfl, ho0, hb⟩; refine ⟨_, rfl, ?_⟩; have z_ := p_ (Kd.R_lower (Kd.R_newB ho0 (g := gb777) (o := .cells #[.string a1_0, .bool a1_1, .string a1_2] 44 (0, 0)) (kb_ BK777)) (below_size th_)) <| bw3_ (kb_ BK776) (kb_ BK777) (kb_ BK778) th_ hb; clear BK776 BK777 BK778 HB; obtain ⟨HO781, BK776, BK777, BK778, HB⟩ := z_; (try clear hb); (try clear ho0)) | ((with_reducible refine gate_dst (N := 5) rfl ?_); refine be_ 5 (cs := #[.slice none 0 0]) 42 ?_; intro gb782 hg w16 hbox hb; have z_ := p_ (Kd.R_below (raR_ HO781) hb) <| bx3_ (kb_ BK776) (kb_ BK777) (kb_ BK778) th_ hb hbox hg; clear HO781 BK776 BK777 BK778 HB; obtain ⟨HO781, BK776, BK777, BK778, HB, BK782, GW782, GE782, NB776_782, NB782_776, NB777_782, NB782_777, NB778_782, NB782_778⟩ := z_; clear hb hbox hg; obtain ⟨Ao17, co17, eo17⟩ := Kd.R_slice HO781.out; subst eo17; obtain ⟨n782_776, n776_782, hnb19, hnc19, n782_778, n778_782⟩ := an6_ NB782_776 NB776_782 NB782_777 NB777_782 NB782_778 NB778_782; have hcz21_0 := bc_ BK782.out 0; have hfz21_0 := blk_frozen BK782.out 0) | ((with_reducible refine gate_callee (f := 54) rfl ?_); refine goesL_ (some 14) rfl rfl Try.func54 (by kernel_rfl) rfl #[.slice Ao17 t779.length co17, .func (.func 55) #[] #[.pointer (some ⟨gb777, 0, none⟩)]] rfl tq_0 ?_; (with_reducible refine (slices_IndexFunc_Item_g55.calls _ _ t779 gb777 a1_0 a1_1 a1_2 t783 _ ?side1 ?side2 ?side3 A4.out).mono ?_); (case side1 => refine (Kd.R_reads' (e := 44) (base := w.heap.size) (ok := fun k_ => (True ∧ k_ ≠ gb777)) (n := t779.length) (c := co17) ?_).2.2; exact tq_55); (case side2 => exact (Kd.R_reads' HO781.out).2.1); (case side3 => (with_reducible repeat (first | refine blk_drewN ?_ _ | refine blk_drew ?_ | refine blk_alloc ?_ _)); refine blk_far ?_ NB777_782.out _; (with_reducible repeat (first | refine blk_drewN ?_ _ | refine blk_drew ?_ | refine blk_alloc ?_ _)); exact BK777.out); rintro e w22 ⟨rfl, hb⟩; refine ⟨_, rfl, ?_⟩; have z_ := p_ (Kd.R_below tq_55 hb) <| p_ (blk_below (g := gb776) (o := .cells #[.slice A0_0 l0_0.length c0_0] 42 (0, 0)) tq_94 hb) <| p_ (blk_below (g := gb777) (o := .cells #[.string a1_0, .bool a1_1, .string a1_2] 44 (0, 0)) tq_93 hb) <| p_ (blk_below (g := gb778) (o := .cells #[.slice none 0 0] 42 (0, 0)) tq_92 hb) <| p_ (blk_below (g := gb782) (o := .cells #[.slice Ao17 t779.length co17] 42 (0, 0)) tq_83 hb) <| a_ (below_step th_ hb); clear HO781 BK776 BK777 BK778 BK782 HB; obtain ⟨HO781, BK776, BK777, BK778, BK782, HB⟩ := z_; (try clear hb); (try clear hk); have hcz23_0 := bc_ BK782.out 0; have hfz23_0 := blk_frozen BK782.out 0; obtain ⟨hcz24_0, hcz24_1, hcz24_2⟩ := bk3_ BK777.out; obtain ⟨hfz24_0, hfz24_1, hfz24_2⟩ := bf3_ BK777.out) | ((with_reducible refine gate_dst (N := 24) rfl ?_); refine Kd.R_lit k44 _ 44 ?hg (N := 24) ?hd (xs := ([(⟨a1_0, a1_1, a1_2⟩ : S44)] : List (S44))) (inner := [.string a1_0, .bool a1_1, .string a1_2]) (ok := fun _ => True) (okp := fun _ => True) ?hr ?hp (fun _ hk => hk) trivial (Below.refl _ _) (Nat.le_refl _) (by simp) ?_; (case hd => rfl); (case hg => rfl); (case hr => first | (go_simp; done) | (go_simp; rfl)); (case hp => exact tq_119); intro v785 w25 ho26 hb hg_ hnew_; clear hg_ hnew_; (first | rw [← Ny784.out] at ho26 | (simp only [Int.reduceToNat] at ho26; rw [← Ny784.out] at ho26)); have z_ := p_ (Kd.R_elder' (raR_ HO781) (Kd.R_base ho26) hb) <| p_ (Kd.R_lower (Kd.R_newB (Kd.R_new' ho26 (Kd.R_lt (raR_ HO781))) (g := gb777) (o := .cells #[.string a1_0, .bool a1_1, .string a1_2] 44 (0, 0)) (kb_ BK777)) (below_size th_)) <| bw4_ (kb_ BK776) (kb_ BK777) (kb_ BK778) (kb_ BK782) th_ hb; clear HO781 BK776 BK777 BK778 BK782 HB; obtain ⟨HO781, HO786, BK776, BK777, BK778, BK782, HB⟩ := z_; clear hb ho26; obtain ⟨Ao27, co27, eo27⟩ := Kd.R_slice HO786.out; subst eo27) | ((with_reducible refine gate_callee (f := 56) rfl ?_); refine goesL_ (some 25) rfl rfl Try.func56 (by kernel_rfl) rfl #[.slice Ao17 t779.length co17, .int .i64 (t779.length : Int), .slice Ao27 y784.length co27] rfl tq_0 ?_; (with_reducible refine (slices_Insert_Item.calls (fun k_ => some k_ = (.slice Ao17 t779.length co17 : Value).ownBlock) (.slice Ao17 t779.length co17) t779 (t779.length : Int) (fun k_ => some k_ = (.slice Ao27 y784.length co27 : Value).ownBlock) (.slice Ao27 y784.length co27) y784 t787 w _ ?side1 ?side2 ?side3 ?side4 ?side5 A6.out).mono ?_); (case side1 => exact tq_96); (case side2 => exact Kd.R_tight rfl HO781.out); (case side3 => exact fun k_ e_ => (HO781.out.1 k_ e_.symm).2); (case side4 => exact Kd.R_tight rfl HO786.out); (case side5 => exact fun k_ e_ => (HO786.out.1 k_ e_.symm).1.2); rintro e w28 ⟨v788, rfl, ho0, hb, hkp⟩; refine ⟨_, rfl, ?_⟩; have z_ := p_ (blk_kept (kb_ BK776) hkp (fun hs_ => Or.elim hs_ (fun e_ => (fun e_ => (Kd.R_ne HO781.out BK776.out (by decide)) e_) e_) (fun e_ => (fun e_ => (Kd.R_ne HO786.out BK776.out (by decide)) e_) e_))) <| p_ (blk_kept (kb_ BK777) hkp (fun hs_ => Or.elim hs_ (fun e_ => (fun e_ => (Kd.R_away HO781.out (fun _ hk => hk.1.2)) e_) e_) (fun e_ => (fun e_ => (Kd.R_away HO786.out (fun _ hk => hk.2)) e_) e_))) <| p_ (blk_kept (kb_ BK778) hkp (fun hs_ => Or.elim hs_ (fun e_ => (fun e_ => (Kd.R_ne HO781.out BK778.out (by decide)) e_) e_) (fun e_ => (fun e_ => (Kd.R_ne HO786.out BK778.out (by decide)) e_) e_))) <| p_ (blk_kept (kb_ BK782) hkp (fun hs_ => Or.elim hs_ (fun e_ => (fun e_ => (Kd.R_ne HO781.out BK782.out (by decide)) e_) e_) (fun e_ => (fun e_ => (Kd.R_ne HO786.out BK782.out (by decide)) e_) e_))) <| p_ (Kd.R_mono (ok' := fun k_ => k_ ≠ gb777) ho0 (fun k_ hk_ => Or.elim hk_ (fun hs_ => Or.elim hs_ (fun hs_ => fun e_ => (Kd.R_away HO781.out (fun _ hk => hk.1.2)) (by rw [← e_]; exact hs_)) (fun hs_ => fun e_ => (Kd.R_away HO786.out (fun _ hk => hk.2)) (by rw [← e_]; exact hs_))) (fun hn_ => (Kd.freshB (g := gb777) (o := .cells #[.string a1_0, .bool a1_1, .string a1_2] 44 (0, 0)) (kb_ BK777) k_ hn_)))) <| a_ (hb); clear BK776 BK777 BK778 BK782 HB HO781 HO786; obtain ⟨BK776, BK777, BK778, BK782, HO789, HB⟩ := z_; (try clear hb); (try clear hkp); (try clear ho0); obtain ⟨Ao29, co29, eo29⟩ := Kd.R_slice HO789.out; subst eo29; have hcz30_0 := bc_ BK782.out 0; have hfz30_0 := blk_frozen BK782.out 0; have hcz31_0 := bc_ BK778.out 0; have hfz31_0 := blk_frozen BK778.out 0))
 refine bodyPost_ret (results_cell_row rfl _ _ gb778 42 #[.slice Ao29 t787.length co29] (0, 0) _ rfl tb_ Try.underlying42 rfl (by kernel_rfl)) rfl ?_
 exact ⟨_, tq_1, (by (with_reducible repeat (first | apply Kd.R_alloc | apply Kd.R_drewN | apply Kd.R_drew)); exact Kd.R_mono (rR_ (rR_ (Kd.R_types (Kd.R_types HO789.out BK782.out (by decide)) BK778.out (by decide)) (fun _ hk => hk.1.2))) (fun _ hk => trivial)), th_⟩

/-! ### spec_SameView: function 16 -/
def spec_SameView.l0 : Nat → Int → List (S44) → List (S44) → Option (Bool)
 | 0, _, _, _ => none
 | k + 1, x5, x797000, x798000 => if x5 < (x797000.length : Int) then (if 0 ≤ x5 then (if x5 < (x798000.length : Int) then (if (!((((rd_T44 x797000 x5).f0).toList) == (((rd_T44 x798000 x5).f0).toList)) || (!(((rd_T44 x797000 x5).f1) == ((rd_T44 x798000 x5).f1)) || (!((((rd_T44 x797000 x5).f2).toList) == (((rd_T44 x798000 x5).f2).toList))))) = true then (some false) else (spec_SameView.l0 k (wrap64 (x5 + 1)) x797000 x798000)) else (none)) else (none)) else (some true)
def spec_SameView.f (k : Nat) (l0_0 : List (S44)) (l1_0 : List (S44)) : Option (Bool) := if (l0_0.length : Int) = (l1_0.length : Int) then (spec_SameView.l0 k 0 l0_0 l1_0) else (some false)
theorem spec_SameView.mono_l : ∀ k, (∀ y0 y1 y2, LeO (spec_SameView.l0 k y0 y1 y2) (spec_SameView.l0 (k + 1) y0 y1 y2))
 | 0 => fun _ _ _ r h => by simp [spec_SameView.l0] at h
 | k + 1 => by
  have ih0 := spec_SameView.mono_l k
  ·intro y0 y1 y2
   unfold spec_SameView.l0
   exact mo_0
theorem spec_SameView.mono : ∀ a0 a1 k, LeO (spec_SameView.f k a0 a1) (spec_SameView.f (k + 1) a0 a1) := by
 intro a0 a1 k
 have ih0 := spec_SameView.mono_l k
 unfold spec_SameView.f
 repeat' first
   | (with_reducible exact ih0 ..)
   | (with_reducible exact LeO.refl _)
   | (with_reducible exact LeO.none _)
   | (with_reducible refine LeO.ite ?_ ?_)
   | (with_reducible refine LeO.bind ?_ (fun _ => ?_))
   | exact ih0 ..
   | exact LeO.none _
   | refine LeO.ite ?_ ?_
   | refine LeO.bind ?_ (fun _ => ?_)
set_option maxHeartbeats 8000000 in
set_option maxRecDepth 100000 in
theorem spec_SameView.calls (k : Nat) (A0_0 : Option Addr) (c0_0 : Nat) (l0_0 : List (S44)) (A1_0 : Option Addr) (c1_0 : Nat) (l1_0 : List (S44)) (r : Bool) (w : World) (hr0_0 : Kd.C k44 w A0_0 l0_0.length l0_0) (hc0_0 : l0_0.length ≤ c0_0) (hr1_0 : Kd.C k44 w A1_0 l1_0.length l1_0) (hc1_0 : l1_0.length ≤ c1_0) (h : spec_SameView.f k l0_0 l1_0 = some r) :
  Calls Try.prog 16 #[.agg #[.slice A0_0 l0_0.length c0_0], .agg #[.slice A1_0 l1_0.length c1_0]] w fun e w' => e = .returned (.bool r) ∧ Below w.heap.size w w' := by
 have hu42 := Try.underlying42
 have hu44 := Try.underlying44
 have HR0_0 := Aside0.mk hr0_0
 have HC0_0 := Aside0.mk hc0_0
 clear hr0_0 hc0_0
 have HR1_0 := Aside0.mk hr1_0
 have HC1_0 := Aside0.mk hc1_0
 clear hr1_0 hc1_0
 have HB := Aside0.mk (Below.refl w.heap.size w)
 unfold spec_SameView.f at h
 have H := h
 clear h
 by_cases c3 : (l0_0.length : Int) = (l1_0.length : Int)
 rotate_left
 ·rw [if_neg c3] at H
  have c3b0 := beq_eq_false_iff_ne.mpr c3
  have c3b1 := bne_iff_ne.mpr c3
  have c3b2 : (l0_0.length == l1_0.length) = false := by first | simpa using c3 | (simp at c3 ⊢; omega)
  obtain rfl := Option.some.inj H
  go_enter Try.func16, Try.ntmps16
  go_wp2_with (first | ((with_reducible refine gate_dst (N := 2) rfl ?_); refine be_ 2 (cs := #[.slice A0_0 l0_0.length c0_0]) 42 ?_; intro gb796 hg w21 hbox hb; have z_ := bx0_ th_ hb hbox hg; clear HB; obtain ⟨HB, BK796, GW796, GE796⟩ := z_; clear hb hbox hg) | ((with_reducible refine gate_dst (N := 3) rfl ?_); refine be_ 3 (cs := #[.slice A1_0 l1_0.length c1_0]) 42 ?_; intro gb797 hg w22 hbox hb; have z_ := bx1_ (kb_ BK796) th_ hb hbox hg; clear BK796 HB; obtain ⟨BK796, HB, BK797, GW797, GE797, NB796_797, NB797_796⟩ := z_; clear hb hbox hg; obtain ⟨hnb23, hnc23⟩ := an2_ NB796_797 NB797_796; have hcz24_0 := bc_ BK796.out 0; have hfz24_0 := blk_frozen BK796.out 0; have hcz25_0 := bc_ BK797.out 0; have hfz25_0 := blk_frozen BK797.out 0))
  repeat (go_quiet (first | ((with_reducible refine gate_dst (N := 2) rfl ?_); refine be_ 2 (cs := #[.slice A0_0 l0_0.length c0_0]) 42 ?_; intro gb796 hg w21 hbox hb; have z_ := bx0_ th_ hb hbox hg; clear HB; obtain ⟨HB, BK796, GW796, GE796⟩ := z_; clear hb hbox hg) | ((with_reducible refine gate_dst (N := 3) rfl ?_); refine be_ 3 (cs := #[.slice A1_0 l1_0.length c1_0]) 42 ?_; intro gb797 hg w22 hbox hb; have z_ := bx1_ (kb_ BK796) th_ hb hbox hg; clear BK796 HB; obtain ⟨BK796, HB, BK797, GW797, GE797, NB796_797, NB797_796⟩ := z_; clear hb hbox hg; obtain ⟨hnb23, hnc23⟩ := an2_ NB796_797 NB797_796; have hcz24_0 := bc_ BK796.out 0; have hfz24_0 := blk_frozen BK796.out 0; have hcz25_0 := bc_ BK797.out 0; have hfz25_0 := blk_frozen BK797.out 0)); try go_wp2_with (first | ((with_reducible refine gate_dst (N := 2) rfl ?_); refine be_ 2 (cs := #[.slice A0_0 l0_0.length c0_0]) 42 ?_; intro gb796 hg w21 hbox hb; have z_ := bx0_ th_ hb hbox hg; clear HB; obtain ⟨HB, BK796, GW796, GE796⟩ := z_; clear hb hbox hg) | ((with_reducible refine gate_dst (N := 3) rfl ?_); refine be_ 3 (cs := #[.slice A1_0 l1_0.length c1_0]) 42 ?_; intro gb797 hg w22 hbox hb; have z_ := bx1_ (kb_ BK796) th_ hb hbox hg; clear BK796 HB; obtain ⟨BK796, HB, BK797, GW797, GE797, NB796_797, NB797_796⟩ := z_; clear hb hbox hg; obtain ⟨hnb23, hnc23⟩ := an2_ NB796_797 NB797_796; have hcz24_0 := bc_ BK796.out 0; have hfz24_0 := blk_frozen BK796.out 0; have hcz25_0 := bc_ BK797.out 0; have hfz25_0 := blk_frozen BK797.out 0)))
  go_ret
  exact ⟨tq_1, th_⟩
 rw [if_pos c3] at H
 have c3b0 := beq_iff_eq.mpr c3
 have c3b1 := bne_eq_false_iff_eq.mpr c3
 have c3b2 : (l0_0.length == l1_0.length) = true := by first | simpa using c3 | (simp at c3 ⊢; omega)
 clear c3
 have H' := Aside0.mk H
 clear H
 go_enter Try.func16, Try.ntmps16
 go_wp2_with (first | ((with_reducible refine gate_dst (N := 2) rfl ?_); refine be_ 2 (cs := #[.slice A0_0 l0_0.length c0_0]) 42 ?_; intro gb796 hg w4 hbox hb; have z_ := bx0_ th_ hb hbox hg; clear HB; obtain ⟨HB, BK796, GW796, GE796⟩ := z_; clear hb hbox hg) | ((with_reducible refine gate_dst (N := 3) rfl ?_); refine be_ 3 (cs := #[.slice A1_0 l1_0.length c1_0]) 42 ?_; intro gb797 hg w5 hbox hb; have z_ := bx1_ (kb_ BK796) th_ hb hbox hg; clear BK796 HB; obtain ⟨BK796, HB, BK797, GW797, GE797, NB796_797, NB797_796⟩ := z_; clear hb hbox hg; obtain ⟨hnb6, hnc6⟩ := an2_ NB796_797 NB797_796; have hcz7_0 := bc_ BK796.out 0; have hfz7_0 := blk_frozen BK796.out 0; have hcz8_0 := bc_ BK797.out 0; have hfz8_0 := blk_frozen BK797.out 0))
 repeat (go_quiet (first | ((with_reducible refine gate_dst (N := 2) rfl ?_); refine be_ 2 (cs := #[.slice A0_0 l0_0.length c0_0]) 42 ?_; intro gb796 hg w4 hbox hb; have z_ := bx0_ th_ hb hbox hg; clear HB; obtain ⟨HB, BK796, GW796, GE796⟩ := z_; clear hb hbox hg) | ((with_reducible refine gate_dst (N := 3) rfl ?_); refine be_ 3 (cs := #[.slice A1_0 l1_0.length c1_0]) 42 ?_; intro gb797 hg w5 hbox hb; have z_ := bx1_ (kb_ BK796) th_ hb hbox hg; clear BK796 HB; obtain ⟨BK796, HB, BK797, GW797, GE797, NB796_797, NB797_796⟩ := z_; clear hb hbox hg; obtain ⟨hnb6, hnc6⟩ := an2_ NB796_797 NB797_796; have hcz7_0 := bc_ BK796.out 0; have hfz7_0 := blk_frozen BK796.out 0; have hcz8_0 := bc_ BK797.out 0; have hfz8_0 := blk_frozen BK797.out 0)); try go_wp2_with (first | ((with_reducible refine gate_dst (N := 2) rfl ?_); refine be_ 2 (cs := #[.slice A0_0 l0_0.length c0_0]) 42 ?_; intro gb796 hg w4 hbox hb; have z_ := bx0_ th_ hb hbox hg; clear HB; obtain ⟨HB, BK796, GW796, GE796⟩ := z_; clear hb hbox hg) | ((with_reducible refine gate_dst (N := 3) rfl ?_); refine be_ 3 (cs := #[.slice A1_0 l1_0.length c1_0]) 42 ?_; intro gb797 hg w5 hbox hb; have z_ := bx1_ (kb_ BK796) th_ hb hbox hg; clear BK796 HB; obtain ⟨BK796, HB, BK797, GW797, GE797, NB796_797, NB797_796⟩ := z_; clear hb hbox hg; obtain ⟨hnb6, hnc6⟩ := an2_ NB796_797 NB797_796; have hcz7_0 := bc_ BK796.out 0; have hfz7_0 := blk_frozen BK796.out 0; have hcz8_0 := bc_ BK797.out 0; have hfz8_0 := blk_frozen BK797.out 0)))
 go_loopg [5] k (fun kq v5 w' => ∃ (x5_1 : Int), v5 = .int .i64 x5_1 ∧ Aside0 (spec_SameView.l0 kq x5_1 l0_0 l1_0 = some r) ∧ Aside0 (kq ≤ k) ∧ Aside0 (w'.heap[gb796]? = some (.cells #[(.slice A0_0 l0_0.length c0_0)] 42 (0, 0))) ∧ Aside0 (w'.heap[gb797]? = some (.cells #[(.slice A1_0 l1_0.length c1_0)] 42 (0, 0))) ∧ Aside0 (Below w.heap.size w w'))
 case atStart => exact ⟨(0), tq_5, H', ⟨Nat.le_refl _⟩, ⟨(kb_ BK796)⟩, ⟨(kb_ BK797)⟩, ⟨th_⟩⟩
 case round =>
 clear H'
 try clear c1; try clear p2; try clear c3; try clear c3b0; try clear c3b1; try clear c3b2; try clear c6; try clear hcz7_0; try clear hcz8_0; try clear hfz7_0; try clear hfz8_0
 obtain ⟨x5_1, rfl, HA, HK1, BK796, BK797, HB⟩ := hrel
 cases gk with
 | zero => exact absurd HA.out (by simp [spec_SameView.l0])
 | succ k1 =>
 have H := HA.out
 clear HA
 simp only [spec_SameView.l0] at H
 by_cases c9 : x5_1 < (l0_0.length : Int)
 rotate_left
 ·rw [if_neg c9] at H
  have c9b0 := decide_eq_false c9
  clear c9
  obtain rfl := Option.some.inj H
  obtain ⟨hnb19, hnc19⟩ := an2_ NB796_797 NB797_796
  have hcz20_0 := bc_ BK796.out 0
  have hfz20_0 := blk_frozen BK796.out 0
  go_wp2
  repeat (go_quiet (fail); try go_wp2)
  go_ret
  exact ⟨tq_1, th_⟩
 rw [if_pos c9] at H
 have c9b0 := decide_eq_true c9
 clear c9
 obtain ⟨c10, H⟩ := fc_ H
 have c10b0 := decide_eq_true c10
 clear c10
 obtain ⟨c11, H⟩ := fc_ H
 have c11b0 := decide_eq_true c11
 clear c11
 by_cases c12 : (!((((rd_T44 l0_0 x5_1).f0).toList) == (((rd_T44 l1_0 x5_1).f0).toList)) || (!(((rd_T44 l0_0 x5_1).f1) == ((rd_T44 l1_0 x5_1).f1)) || (!((((rd_T44 l0_0 x5_1).f2).toList) == (((rd_T44 l1_0 x5_1).f2).toList))))) = true
 ·rw [if_pos c12] at H
  have c12b0 : (!((((rd_T44 l0_0 x5_1).f0).toList) == (((rd_T44 l1_0 x5_1).f0).toList)) || (!(((rd_T44 l0_0 x5_1).f1) == ((rd_T44 l1_0 x5_1).f1)) || (!((((rd_T44 l0_0 x5_1).f2).toList) == (((rd_T44 l1_0 x5_1).f2).toList))))) = true := c12
  clear c12
  obtain rfl := Option.some.inj H
  obtain ⟨hnb13, hnc13⟩ := an2_ NB796_797 NB797_796
  have hcz14_0 := bc_ BK796.out 0
  have hfz14_0 := blk_frozen BK796.out 0
  have p798 : 0 ≤ (x5_1 : Int) := of_decide_eq_true tq_3
  have q798 : x5_1 < (l0_0.length : Int) := of_decide_eq_true tq_3
  obtain ⟨ad798, e798, hx798_0, hx798_1, hx798_2⟩ := at_T44 HR0_0.out x5_1 p798 q798
  cases e798
  replace hx798_0 := hx_ HB.out hx798_0
  replace hx798_1 := hx_ HB.out hx798_1
  replace hx798_2 := hx_ HB.out hx798_2
  replace p798 := eq_true p798
  replace q798 := eq_true q798
  have hcz15_0 := bc_ BK797.out 0
  have hfz15_0 := blk_frozen BK797.out 0
  have p799 : 0 ≤ (x5_1 : Int) := of_decide_eq_true tq_3
  have q799 : x5_1 < (l1_0.length : Int) := of_decide_eq_true tq_3
  obtain ⟨ad799, e799, hx799_0, hx799_1, hx799_2⟩ := at_T44 HR1_0.out x5_1 p799 q799
  cases e799
  replace hx799_0 := hx_ HB.out hx799_0
  replace hx799_1 := hx_ HB.out hx799_1
  replace hx799_2 := hx_ HB.out hx799_2
  replace p799 := eq_true p799
  replace q799 := eq_true q799
  go_wp2
  repeat (go_quiet (fail); try go_wp2)
  go_ret
  exact ⟨tq_1, th_⟩
 rw [if_neg c12] at H
 have c12b0 : (!((((rd_T44 l0_0 x5_1).f0).toList) == (((rd_T44 l1_0 x5_1).f0).toList)) || (!(((rd_T44 l0_0 x5_1).f1) == ((rd_T44 l1_0 x5_1).f1)) || (!((((rd_T44 l0_0 x5_1).f2).toList) == (((rd_T44 l1_0 x5_1).f2).toList))))) = false := by simpa using c12
 clear c12
 have H' := Aside0.mk H
 clear H
 obtain ⟨n796_797, n797_796⟩ := an2_ NB796_797 NB797_796
 have hcz17_0 := bc_ BK796.out 0
 have hfz17_0 := blk_frozen BK796.out 0
 have p798 : 0 ≤ (x5_1 : Int) := of_decide_eq_true tq_3
 have q798 : x5_1 < (l0_0.length : Int) := of_decide_eq_true tq_3
 obtain ⟨ad798, e798, hx798_0, hx798_1, hx798_2⟩ := at_T44 HR0_0.out x5_1 p798 q798
 cases e798
 replace hx798_0 := hx_ HB.out hx798_0
 replace hx798_1 := hx_ HB.out hx798_1
 replace hx798_2 := hx_ HB.out hx798_2
 replace p798 := eq_true p798
 replace q798 := eq_true q798
 have hcz18_0 := bc_ BK797.out 0
 have hfz18_0 := blk_frozen BK797.out 0
 have p799 : 0 ≤ (x5_1 : Int) := of_decide_eq_true tq_3
 have q799 : x5_1 < (l1_0.length : Int) := of_decide_eq_true tq_3
 obtain ⟨ad799, e799, hx799_0, hx799_1, hx799_2⟩ := at_T44 HR1_0.out x5_1 p799 q799
 cases e799
 replace hx799_0 := hx_ HB.out hx799_0
 replace hx799_1 := hx_ HB.out hx799_1
 replace hx799_2 := hx_ HB.out hx799_2
 replace p799 := eq_true p799
 replace q799 := eq_true q799
 go_wp2
 repeat (go_quiet (fail); try go_wp2)
 go_roundg k1
 case measure => have := HK1.out; omega
 case rel => exact ⟨(wrap64 (x5_1 + 1)), tq_5, H', ⟨tq_79⟩, ⟨(kb_ BK796)⟩, ⟨(kb_ BK797)⟩, ⟨th_⟩⟩

/-! ### impl_ItemAt: function 19 -/
def impl_ItemAt.f (l0_0 : List (S44)) (a1 : ByteArray) : Option (Int) := (slices_IndexFunc_Item_g60.f l0_0 a1).bind fun t802 => (some t802)
set_option maxHeartbeats 8000000 in
set_option maxRecDepth 100000 in
theorem impl_ItemAt.calls (A0_0 : Option Addr) (c0_0 : Nat) (l0_0 : List (S44)) (a1 : ByteArray) (r : Int) (w : World) (hr0_0 : Kd.C k44 w A0_0 l0_0.length l0_0) (hc0_0 : l0_0.length ≤ c0_0) (h : impl_ItemAt.f l0_0 a1 = some r) :
  Calls Try.prog 19 #[.agg #[.slice A0_0 l0_0.length c0_0], .string a1] w fun e w' => e = .returned (.int .i64 r) ∧ Below w.heap.size w w' := by
 have hu42 := Try.underlying42
 have HR0_0 := Aside0.mk hr0_0
 have HC0_0 := Aside0.mk hc0_0
 clear hr0_0 hc0_0
 have HB := Aside0.mk (Below.refl w.heap.size w)
 unfold impl_ItemAt.f at h
 have H := h
 clear h
 obtain ⟨t802, A3, H⟩ := bd_ H
 obtain rfl := Option.some.inj H
 go_enter Try.func19, Try.ntmps19
 go_wp2_with (first | ((with_reducible refine gate_dst (N := 2) rfl ?_); refine be_ 2 (cs := #[.slice A0_0 l0_0.length c0_0]) 42 ?_; intro gb800 hg w4 hbox hb; have z_ := bx0_ th_ hb hbox hg; clear HB; obtain ⟨HB, BK800, GW800, GE800⟩ := z_; clear hb hbox hg) | ((with_reducible refine gate_dst (N := 3) rfl ?_); refine be_ 3 (cs := #[.string a1]) 9 ?_; intro gb801 hg w5 hbox hb; have z_ := bx1_ (kb_ BK800) th_ hb hbox hg; clear BK800 HB; obtain ⟨BK800, HB, BK801, GW801, GE801, NB800_801, NB801_800⟩ := z_; clear hb hbox hg; obtain ⟨hnb6, hnc6⟩ := an2_ NB800_801 NB801_800; have hcz7_0 := bc_ BK800.out 0; have hfz7_0 := blk_frozen BK800.out 0) | ((with_reducible refine gate_callee (f := 54) rfl ?_); refine goesL_ (some 8) rfl rfl Try.func54 (by kernel_rfl) rfl #[.slice A0_0 l0_0.length c0_0, .func (.func 60) #[] #[.pointer (some ⟨gb801, 0, none⟩)]] rfl tq_0 ?_; (with_reducible refine (slices_IndexFunc_Item_g60.calls _ _ l0_0 gb801 a1 t802 _ ?side1 ?side2 ?side3 A3.out).mono ?_); (case side1 => exact tq_10); (case side2 => exact HC0_0.out); (case side3 => (with_reducible repeat (first | refine blk_drewN ?_ _ | refine blk_drew ?_ | refine blk_alloc ?_ _)); exact BK801.out); rintro e w8 ⟨rfl, hb⟩; refine ⟨_, rfl, ?_⟩; have z_ := bw2_ (kb_ BK800) (kb_ BK801) th_ hb; clear BK800 BK801 HB; obtain ⟨BK800, BK801, HB⟩ := z_; (try clear hb)))
 go_ret
 exact ⟨tq_1, th_⟩

/-! ### impl_PagesFor: function 61 -/
def impl_PagesFor.f (a0 : Int) : Option (Int) := if a0 < 0 then (some 0) else (if (Int.tmod a0 32) > 0 then (some (wrap64 ((wrap64 (Int.tdiv a0 32)) + 1))) else (some (wrap64 (Int.tdiv a0 32))))
set_option maxHeartbeats 8000000 in
set_option maxRecDepth 100000 in
theorem impl_PagesFor.calls (a0 : Int) (r : Int) (w : World) (h : impl_PagesFor.f a0 = some r) :
  Calls Try.prog 61 #[.int .i64 a0] w fun e w' => e = .returned (.int .i64 r) ∧ Drawn0 w w' := by
 unfold impl_PagesFor.f at h
 have H := h
 clear h
 by_cases c2 : a0 < 0
 ·rw [if_pos c2] at H
  have c2b0 := decide_eq_true c2
  clear c2
  obtain rfl := Option.some.inj H
  go_enter Try.func61, Try.ntmps61
  go_wp2
  go_ret
  exact ⟨tq_5, tq_34⟩
 rw [if_neg c2] at H
 have c2b0 := decide_eq_false c2
 clear c2
 by_cases c3 : (Int.tmod a0 32) > 0
 ·rw [if_pos c3] at H
  have c3b0 := decide_eq_true c3
  clear c3
  obtain rfl := Option.some.inj H
  go_enter Try.func61, Try.ntmps61
  go_wp2
  go_ret
  exact ⟨tq_5, tq_34⟩
 rw [if_neg c3] at H
 have c3b0 := decide_eq_false c3
 clear c3
 obtain rfl := Option.some.inj H
 go_enter Try.func61, Try.ntmps61
 go_wp2
 go_ret
 exact ⟨tq_5, tq_34⟩

/-! ### impl_PagesIn: function 21 -/
def impl_PagesIn.l0 : Nat → Int → List (S44) → Int → Int → Option (Int)
 | 0, _, _, _, _ => none
 | k + 1, x3, x7, x8, x9 => if x9 < x8 then (if 0 ≤ x9 then (if x9 < (x7.length : Int) then (if ((rd_T44 x7 x9).f1 = true) then (impl_PagesIn.l0 k x3 x7 x8 (wrap64 (x9 + 1))) else ((impl_PagesFor.f (((rd_T44 x7 x9).f2).size : Int)).bind fun t806 => (impl_PagesIn.l0 k (wrap64 (x3 + t806)) x7 x8 (wrap64 (x9 + 1))))) else (none)) else (none)) else (some x3)
def impl_PagesIn.f (k : Nat) (l0_0 : List (S44)) : Option (Int) := impl_PagesIn.l0 k 0 l0_0 (l0_0.length : Int) 0
theorem impl_PagesIn.mono_l : ∀ k, (∀ y0 y1 y2 y3, LeO (impl_PagesIn.l0 k y0 y1 y2 y3) (impl_PagesIn.l0 (k + 1) y0 y1 y2 y3))
 | 0 => fun _ _ _ _ r h => by simp [impl_PagesIn.l0] at h
 | k + 1 => by
  have ih0 := impl_PagesIn.mono_l k
  ·intro y0 y1 y2 y3
   unfold impl_PagesIn.l0
   exact mo_0
theorem impl_PagesIn.mono : ∀ a0 k, LeO (impl_PagesIn.f k a0) (impl_PagesIn.f (k + 1) a0) := by
 intro a0 k
 have ih0 := impl_PagesIn.mono_l k
 unfold impl_PagesIn.f
 repeat' first
   | (with_reducible exact ih0 ..)
   | (with_reducible exact LeO.refl _)
   | (with_reducible exact LeO.none _)
   | (with_reducible refine LeO.ite ?_ ?_)
   | (with_reducible refine LeO.bind ?_ (fun _ => ?_))
   | exact ih0 ..
   | exact LeO.none _
   | refine LeO.ite ?_ ?_
   | refine LeO.bind ?_ (fun _ => ?_)
set_option maxHeartbeats 8000000 in
set_option maxRecDepth 100000 in
theorem impl_PagesIn.calls (k : Nat) (A0_0 : Option Addr) (c0_0 : Nat) (l0_0 : List (S44)) (r : Int) (w : World) (hr0_0 : Kd.C k44 w A0_0 l0_0.length l0_0) (hc0_0 : l0_0.length ≤ c0_0) (h : impl_PagesIn.f k l0_0 = some r) :
  Calls Try.prog 21 #[.agg #[.slice A0_0 l0_0.length c0_0]] w fun e w' => e = .returned (.int .i64 r) ∧ Below w.heap.size w w' := by
 have hu42 := Try.underlying42
 have hu44 := Try.underlying44
 have HR0_0 := Aside0.mk hr0_0
 have HC0_0 := Aside0.mk hc0_0
 clear hr0_0 hc0_0
 have HB := Aside0.mk (Below.refl w.heap.size w)
 unfold impl_PagesIn.f at h
 have H := h
 clear h
 have H' := Aside0.mk H
 clear H
 go_enter Try.func21, Try.ntmps21
 go_wp2_with (first | ((with_reducible refine gate_dst (N := 1) rfl ?_); refine be_ 1 (cs := #[.slice A0_0 l0_0.length c0_0]) 42 ?_; intro gb803 hg w2 hbox hb; have z_ := bx0_ th_ hb hbox hg; clear HB; obtain ⟨HB, BK803, GW803, GE803⟩ := z_; clear hb hbox hg; have hcz3_0 := bc_ BK803.out 0; have hfz3_0 := blk_frozen BK803.out 0))
 go_loopg [3, 9] k (fun kq v3 v9 w' => ∃ (x3_1 : Int) (x9_1 : Int), v3 = .int .i64 x3_1 ∧ v9 = .int .i64 x9_1 ∧ Aside0 (impl_PagesIn.l0 kq x3_1 l0_0 (l0_0.length : Int) x9_1 = some r) ∧ Aside0 (kq ≤ k) ∧ Aside0 (w'.heap[gb803]? = some (.cells #[(.slice A0_0 l0_0.length c0_0)] 42 (0, 0))) ∧ Aside0 (Below w.heap.size w w'))
 case atStart => exact ⟨(0), (0), tq_5, tq_5, H', ⟨Nat.le_refl _⟩, ⟨(kb_ BK803)⟩, ⟨th_⟩⟩
 case round =>
 clear H'
 try clear c2; try clear p2; try clear hcz3_0 hfz3_0
 obtain ⟨x3_1, x9_1, rfl, rfl, HA, HK1, BK803, HB⟩ := hrel
 cases gk with
 | zero => exact absurd HA.out (by simp [impl_PagesIn.l0])
 | succ k1 =>
 have H := HA.out
 clear HA
 simp only [impl_PagesIn.l0] at H
 by_cases c4 : x9_1 < (l0_0.length : Int)
 rotate_left
 ·rw [if_neg c4] at H
  have c4b0 := decide_eq_false c4
  clear c4
  obtain rfl := Option.some.inj H
  go_wp2
  go_ret
  exact ⟨tq_1, th_⟩
 rw [if_pos c4] at H
 have c4b0 := decide_eq_true c4
 clear c4
 obtain ⟨c5, H⟩ := fc_ H
 have c5b0 := decide_eq_true c5
 clear c5
 obtain ⟨c6, H⟩ := fc_ H
 have c6b0 := decide_eq_true c6
 clear c6
 obtain ⟨bq7, hbq7⟩ : ∃ b_ : Bool, b_ = ((rd_T44 l0_0 x9_1).f1) := ⟨_, rfl⟩
 replace H : (if (bq7 = true) then (impl_PagesIn.l0 k1 x3_1 l0_0 (l0_0.length : Int) (wrap64 (x9_1 + 1))) else ((impl_PagesFor.f (((rd_T44 l0_0 x9_1).f2).size : Int)).bind fun t806 => (impl_PagesIn.l0 k1 (wrap64 (x3_1 + t806)) l0_0 (l0_0.length : Int) (wrap64 (x9_1 + 1))))) = some r := by rw [← hbq7] at H; exact H
 have Nbq7 := Aside0.mk hbq7
 clear hbq7
 by_cases c8 : (bq7 = true)
 ·subst c8
  rw [if_pos rfl] at H
  have H' := Aside0.mk H
  clear H
  have p804 : 0 ≤ (x9_1 : Int) := of_decide_eq_true tq_3
  have q804 : x9_1 < (l0_0.length : Int) := of_decide_eq_true tq_3
  obtain ⟨ad804, e804, hx804_0, hx804_1, hx804_2⟩ := at_T44 HR0_0.out x9_1 p804 q804
  (try rw [← Nbq7.out] at hx804_1)
  cases e804
  replace hx804_0 := hx_ HB.out hx804_0
  replace hx804_1 := hx_ HB.out hx804_1
  replace hx804_2 := hx_ HB.out hx804_2
  replace p804 := eq_true p804
  replace q804 := eq_true q804
  go_wp2_with (first | ((with_reducible refine gate_dst (N := 5) rfl ?_); refine be_ 5 (cs := #[.string (⟨#[]⟩ : ByteArray), .bool false, .string (⟨#[]⟩ : ByteArray)]) 44 ?_; intro gb805 hg w9 hbox hb; have z_ := bx1_ (kb_ BK803) th_ hb hbox hg; clear BK803 HB; obtain ⟨BK803, HB, BK805, GW805, GE805, NB803_805, NB805_803⟩ := z_; clear hb hbox hg; obtain ⟨hnb10, hnc10⟩ := an2_ NB805_803 NB803_805; obtain ⟨hcz11_0, hcz11_1, hcz11_2⟩ := bk3_ BK805.out; obtain ⟨hfz11_0, hfz11_1, hfz11_2⟩ := bf3_ BK805.out))
  go_roundg k1
  case measure => have := HK1.out; omega
  case rel => exact ⟨(x3_1), (wrap64 (x9_1 + 1)), tq_5, tq_5, H', ⟨tq_79⟩, ⟨tb_⟩, ⟨th_⟩⟩
 replace c8 := Bool.eq_false_iff.mpr c8
 subst c8
 rw [if_neg nf_] at H
 obtain ⟨t806, A12, H⟩ := bd_ H
 have H' := Aside0.mk H
 clear H
 have p804 : 0 ≤ (x9_1 : Int) := of_decide_eq_true tq_3
 have q804 : x9_1 < (l0_0.length : Int) := of_decide_eq_true tq_3
 obtain ⟨ad804, e804, hx804_0, hx804_1, hx804_2⟩ := at_T44 HR0_0.out x9_1 p804 q804
 (try rw [← Nbq7.out] at hx804_1)
 cases e804
 replace hx804_0 := hx_ HB.out hx804_0
 replace hx804_1 := hx_ HB.out hx804_1
 replace hx804_2 := hx_ HB.out hx804_2
 replace p804 := eq_true p804
 replace q804 := eq_true q804
 go_wp2_with (first | ((with_reducible refine gate_dst (N := 5) rfl ?_); refine be_ 5 (cs := #[.string (⟨#[]⟩ : ByteArray), .bool false, .string (⟨#[]⟩ : ByteArray)]) 44 ?_; intro gb805 hg w13 hbox hb; have z_ := bx1_ (kb_ BK803) th_ hb hbox hg; clear BK803 HB; obtain ⟨BK803, HB, BK805, GW805, GE805, NB803_805, NB805_803⟩ := z_; clear hb hbox hg; obtain ⟨n805_803, n803_805⟩ := an2_ NB805_803 NB803_805; obtain ⟨hcz15_0, hcz15_1, hcz15_2⟩ := bk3_ BK805.out; obtain ⟨hfz15_0, hfz15_1, hfz15_2⟩ := bf3_ BK805.out) | ((with_reducible refine gate_callee (f := 61) rfl ?_); refine goesL_ (some 20) rfl rfl Try.func61 (by kernel_rfl) rfl #[.int .i64 (((rd_T44 l0_0 x9_1).f2).size : Int)] rfl tq_0 ?_; (with_reducible refine (impl_PagesFor.calls (((rd_T44 l0_0 x9_1).f2).size : Int) t806 _ A12.out).mono ?_); rintro e w' ⟨rfl, ⟨nd, rfl⟩⟩; refine ⟨_, rfl, ?_⟩))
 go_roundg k1
 case measure => have := HK1.out; omega
 case rel => exact ⟨(wrap64 (x3_1 + t806)), (wrap64 (x9_1 + 1)), tq_5, tq_5, H', ⟨tq_79⟩, ⟨tb_⟩, ⟨th_⟩⟩

/-! ### slices_Equal_Item: function 62 -/
def slices_Equal_Item.l0 : Nat → List (S44) → List (S44) → Int → Int → Option (Bool)
 | 0, _, _, _, _ => none
 | k + 1, x0, x1, x12, x13 => if x13 < x12 then (if 0 ≤ x13 then (if x13 < (x0.length : Int) then (if x13 < (x1.length : Int) then (if (!((((rd_T44 x0 x13).f0).toList) == (((rd_T44 x1 x13).f0).toList)) || (!(((rd_T44 x0 x13).f1) == ((rd_T44 x1 x13).f1)) || (!((((rd_T44 x0 x13).f2).toList) == (((rd_T44 x1 x13).f2).toList))))) = true then (some false) else (slices_Equal_Item.l0 k x0 x1 x12 (wrap64 (x13 + 1)))) else (none)) else (none)) else (none)) else (some true)
def slices_Equal_Item.f (k : Nat) (l0 : List (S44)) (l1 : List (S44)) : Option (Bool) := if (l0.length : Int) = (l1.length : Int) then (slices_Equal_Item.l0 k l0 l1 (l0.length : Int) 0) else (some false)
theorem slices_Equal_Item.mono_l : ∀ k, (∀ y0 y1 y2 y3, LeO (slices_Equal_Item.l0 k y0 y1 y2 y3) (slices_Equal_Item.l0 (k + 1) y0 y1 y2 y3))
 | 0 => fun _ _ _ _ r h => by simp [slices_Equal_Item.l0] at h
 | k + 1 => by
  have ih0 := slices_Equal_Item.mono_l k
  ·intro y0 y1 y2 y3
   unfold slices_Equal_Item.l0
   exact mo_0
theorem slices_Equal_Item.mono : ∀ a0 a1 k, LeO (slices_Equal_Item.f k a0 a1) (slices_Equal_Item.f (k + 1) a0 a1) := by
 intro a0 a1 k
 have ih0 := slices_Equal_Item.mono_l k
 unfold slices_Equal_Item.f
 repeat' first
   | (with_reducible exact ih0 ..)
   | (with_reducible exact LeO.refl _)
   | (with_reducible exact LeO.none _)
   | (with_reducible refine LeO.ite ?_ ?_)
   | (with_reducible refine LeO.bind ?_ (fun _ => ?_))
   | exact ih0 ..
   | exact LeO.none _
   | refine LeO.ite ?_ ?_
   | refine LeO.bind ?_ (fun _ => ?_)
set_option maxHeartbeats 8000000 in
set_option maxRecDepth 100000 in
theorem slices_Equal_Item.calls (k : Nat) (A0 : Option Addr) (c0 : Nat) (l0 : List (S44)) (A1 : Option Addr) (c1 : Nat) (l1 : List (S44)) (r : Bool) (w : World) (hr0 : Kd.C k44 w A0 l0.length l0) (hc0 : l0.length ≤ c0) (hr1 : Kd.C k44 w A1 l1.length l1) (hc1 : l1.length ≤ c1) (h : slices_Equal_Item.f k l0 l1 = some r) :
  Calls Try.prog 62 #[.slice A0 l0.length c0, .slice A1 l1.length c1] w fun e w' => e = .returned (.bool r) ∧ Drawn0 w w' := by
 have hu44 := Try.underlying44
 have HR0 := Aside0.mk hr0
 have HC0 := Aside0.mk hc0
 clear hr0 hc0
 have HR1 := Aside0.mk hr1
 have HC1 := Aside0.mk hc1
 clear hr1 hc1
 unfold slices_Equal_Item.f at h
 have H := h
 clear h
 by_cases c3 : (l0.length : Int) = (l1.length : Int)
 rotate_left
 ·rw [if_neg c3] at H
  have c3b0 := beq_eq_false_iff_ne.mpr c3
  have c3b1 := bne_iff_ne.mpr c3
  have c3b2 : (l0.length == l1.length) = false := by first | simpa using c3 | (simp at c3 ⊢; omega)
  obtain rfl := Option.some.inj H
  go_enter Try.func62, Try.ntmps62
  go_wp2
  repeat (go_quiet (fail); try go_wp2)
  go_ret
  exact ⟨tq_5, tq_34⟩
 rw [if_pos c3] at H
 have c3b0 := beq_iff_eq.mpr c3
 have c3b1 := bne_eq_false_iff_eq.mpr c3
 have c3b2 : (l0.length == l1.length) = true := by first | simpa using c3 | (simp at c3 ⊢; omega)
 clear c3
 have H' := Aside0.mk H
 clear H
 go_enter Try.func62, Try.ntmps62
 go_wp2
 repeat (go_quiet (fail); try go_wp2)
 go_loopg [13] k (fun kq v13 w' => ∃ (x13_1 : Int), v13 = .int .i64 x13_1 ∧ Aside0 (slices_Equal_Item.l0 kq l0 l1 (l0.length : Int) x13_1 = some r) ∧ Aside0 (kq ≤ k) ∧ Drawn0 w w')
 case atStart => exact ⟨(0), tq_5, H', ⟨Nat.le_refl _⟩, tq_34⟩
 case round =>
 clear H'
 try clear c1; try clear p2; try clear c3; try clear c3b0; try clear c3b1; try clear c3b2
 obtain ⟨x13_1, rfl, HA, HK1, ⟨m1, rfl⟩⟩ := hrel
 cases gk with
 | zero => exact absurd HA.out (by simp [slices_Equal_Item.l0])
 | succ k1 =>
 have H := HA.out
 clear HA
 simp only [slices_Equal_Item.l0] at H
 by_cases c4 : x13_1 < (l0.length : Int)
 rotate_left
 ·rw [if_neg c4] at H
  have c4b0 := decide_eq_false c4
  clear c4
  obtain rfl := Option.some.inj H
  go_wp2
  repeat (go_quiet (fail); try go_wp2)
  go_ret
  exact ⟨tq_5, tq_34⟩
 rw [if_pos c4] at H
 have c4b0 := decide_eq_true c4
 clear c4
 obtain ⟨c5, H⟩ := fc_ H
 have c5b0 := decide_eq_true c5
 clear c5
 obtain ⟨c6, H⟩ := fc_ H
 have c6b0 := decide_eq_true c6
 clear c6
 obtain ⟨c7, H⟩ := fc_ H
 have c7b0 := decide_eq_true c7
 clear c7
 by_cases c8 : (!((((rd_T44 l0 x13_1).f0).toList) == (((rd_T44 l1 x13_1).f0).toList)) || (!(((rd_T44 l0 x13_1).f1) == ((rd_T44 l1 x13_1).f1)) || (!((((rd_T44 l0 x13_1).f2).toList) == (((rd_T44 l1 x13_1).f2).toList))))) = true
 ·rw [if_pos c8] at H
  have c8b0 : (!((((rd_T44 l0 x13_1).f0).toList) == (((rd_T44 l1 x13_1).f0).toList)) || (!(((rd_T44 l0 x13_1).f1) == ((rd_T44 l1 x13_1).f1)) || (!((((rd_T44 l0 x13_1).f2).toList) == (((rd_T44 l1 x13_1).f2).toList))))) = true := c8
  clear c8
  obtain rfl := Option.some.inj H
  have p807 : 0 ≤ (x13_1 : Int) := of_decide_eq_true tq_3
  have q807 : x13_1 < (l0.length : Int) := of_decide_eq_true tq_3
  obtain ⟨ad807, e807, hx807_0, hx807_1, hx807_2⟩ := at_T44 HR0.out x13_1 p807 q807
  cases e807
  replace p807 := eq_true p807
  replace q807 := eq_true q807
  have p808 : 0 ≤ (x13_1 : Int) := of_decide_eq_true tq_3
  have q808 : x13_1 < (l1.length : Int) := of_decide_eq_true tq_3
  obtain ⟨ad808, e808, hx808_0, hx808_1, hx808_2⟩ := at_T44 HR1.out x13_1 p808 q808
  cases e808
  replace p808 := eq_true p808
  replace q808 := eq_true q808
  go_wp2
  repeat (go_quiet (fail); try go_wp2)
  go_ret
  exact ⟨tq_5, tq_34⟩
 rw [if_neg c8] at H
 have c8b0 : (!((((rd_T44 l0 x13_1).f0).toList) == (((rd_T44 l1 x13_1).f0).toList)) || (!(((rd_T44 l0 x13_1).f1) == ((rd_T44 l1 x13_1).f1)) || (!((((rd_T44 l0 x13_1).f2).toList) == (((rd_T44 l1 x13_1).f2).toList))))) = false := by simpa using c8
 clear c8
 have H' := Aside0.mk H
 clear H
 have p807 : 0 ≤ (x13_1 : Int) := of_decide_eq_true tq_3
 have q807 : x13_1 < (l0.length : Int) := of_decide_eq_true tq_3
 obtain ⟨ad807, e807, hx807_0, hx807_1, hx807_2⟩ := at_T44 HR0.out x13_1 p807 q807
 cases e807
 replace p807 := eq_true p807
 replace q807 := eq_true q807
 have p808 : 0 ≤ (x13_1 : Int) := of_decide_eq_true tq_3
 have q808 : x13_1 < (l1.length : Int) := of_decide_eq_true tq_3
 obtain ⟨ad808, e808, hx808_0, hx808_1, hx808_2⟩ := at_T44 HR1.out x13_1 p808 q808
 cases e808
 replace p808 := eq_true p808
 replace q808 := eq_true q808
 go_wp2
 repeat (go_quiet (fail); try go_wp2)
 go_roundg k1
 case measure => have := HK1.out; omega
 case rel => exact ⟨(wrap64 (x13_1 + 1)), tq_5, H', ⟨tq_79⟩, tq_34⟩

/-! ### impl_SameView: function 22 -/
def impl_SameView.f (k : Nat) (l0_0 : List (S44)) (l1_0 : List (S44)) : Option (Bool) := (slices_Equal_Item.f k l0_0 l1_0).bind fun t811 => (some t811)
theorem impl_SameView.mono : ∀ a0 a1 k, LeO (impl_SameView.f k a0 a1) (impl_SameView.f (k + 1) a0 a1) := by
 intro a0 a1 k
 unfold impl_SameView.f
 repeat' first
   | (with_reducible exact slices_Equal_Item.mono ..)
   | (with_reducible exact LeO.refl _)
   | (with_reducible exact LeO.none _)
   | (with_reducible refine LeO.ite ?_ ?_)
   | (with_reducible refine LeO.bind ?_ (fun _ => ?_))
   | exact slices_Equal_Item.mono ..
   | exact LeO.none _
   | refine LeO.ite ?_ ?_
   | refine LeO.bind ?_ (fun _ => ?_)
set_option maxHeartbeats 8000000 in
set_option maxRecDepth 100000 in
theorem impl_SameView.calls (k : Nat) (A0_0 : Option Addr) (c0_0 : Nat) (l0_0 : List (S44)) (A1_0 : Option Addr) (c1_0 : Nat) (l1_0 : List (S44)) (r : Bool) (w : World) (hr0_0 : Kd.C k44 w A0_0 l0_0.length l0_0) (hc0_0 : l0_0.length ≤ c0_0) (hr1_0 : Kd.C k44 w A1_0 l1_0.length l1_0) (hc1_0 : l1_0.length ≤ c1_0) (h : impl_SameView.f k l0_0 l1_0 = some r) :
  Calls Try.prog 22 #[.agg #[.slice A0_0 l0_0.length c0_0], .agg #[.slice A1_0 l1_0.length c1_0]] w fun e w' => e = .returned (.bool r) ∧ Below w.heap.size w w' := by
 have hu42 := Try.underlying42
 have HR0_0 := Aside0.mk hr0_0
 have HC0_0 := Aside0.mk hc0_0
 clear hr0_0 hc0_0
 have HR1_0 := Aside0.mk hr1_0
 have HC1_0 := Aside0.mk hc1_0
 clear hr1_0 hc1_0
 have HB := Aside0.mk (Below.refl w.heap.size w)
 unfold impl_SameView.f at h
 have H := h
 clear h
 obtain ⟨t811, A3, H⟩ := bd_ H
 obtain rfl := Option.some.inj H
 go_enter Try.func22, Try.ntmps22
 go_wp2_with (first | ((with_reducible refine gate_dst (N := 2) rfl ?_); refine be_ 2 (cs := #[.slice A0_0 l0_0.length c0_0]) 42 ?_; intro gb809 hg w4 hbox hb; have z_ := bx0_ th_ hb hbox hg; clear HB; obtain ⟨HB, BK809, GW809, GE809⟩ := z_; clear hb hbox hg) | ((with_reducible refine gate_dst (N := 3) rfl ?_); refine be_ 3 (cs := #[.slice A1_0 l1_0.length c1_0]) 42 ?_; intro gb810 hg w5 hbox hb; have z_ := bx1_ (kb_ BK809) th_ hb hbox hg; clear BK809 HB; obtain ⟨BK809, HB, BK810, GW810, GE810, NB809_810, NB810_809⟩ := z_; clear hb hbox hg; obtain ⟨hnb6, hnc6⟩ := an2_ NB809_810 NB810_809; have hcz7_0 := bc_ BK809.out 0; have hfz7_0 := blk_frozen BK809.out 0; have hcz8_0 := bc_ BK810.out 0; have hfz8_0 := blk_frozen BK810.out 0) | ((with_reducible refine gate_callee (f := 62) rfl ?_); refine goesL_ (some 9) rfl rfl Try.func62 (by kernel_rfl) rfl #[.slice A0_0 l0_0.length c0_0, .slice A1_0 l1_0.length c1_0] rfl tq_0 ?_; (with_reducible refine (slices_Equal_Item.calls k _ _ l0_0 _ _ l1_0 t811 _ ?side1 ?side2 ?side3 ?side4 A3.out).mono ?_); (case side1 => exact tq_10); (case side2 => exact HC0_0.out); (case side3 => exact tq_11); (case side4 => exact HC1_0.out); rintro e w' ⟨rfl, ⟨nd, rfl⟩⟩; refine ⟨_, rfl, ?_⟩))
 go_ret
 exact ⟨tq_1, th_⟩

end Go.Proofs.Ytljnnmpfeningaa.PFnViews
