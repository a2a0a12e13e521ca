/- Contracts of Go functions, written by a program of ours over the print of the kit: each says that the call returns what the Lean function beside it computes. Conditions: as each theorem states them. -/
import Derived.Test.YtjfhddenmnjgbaaDoorPkFnAnyInode
import Derived.Test.YtjfhddenmnjgbaaDoorPFnAnyInodex0
import Derived.Test.YtjfhddenmnjgbaaDoorPFnAnyInodex9
namespace Go.Proofs.YtjfhddenmnjgbaaDoor.PFnAnyInode
open Go.RowKit Go.Proofs.YtjfhddenmnjgbaaDoorW.PrintWords Go.Proofs.YtjfhddenmnjgbaaDoorW.PrintLast Go.Proofs.YtjfhddenmnjgbaaDoorW.PrintMore
attribute [local go_sem] max2_int min2_int max_two min_two max_three min_three max_four min_four setCell_drewN   -- for this text's walks alone
set_option linter.unusedVariables false
set_option linter.unusedSimpArgs false

/-! ### impl_isFile: function 55 -/
def impl_isFile.l0 : Nat → List (S42) → Int → Int → Int → Int → Int → ByteArray → List (S42) → List (S47) → Option (Bool)
 | 0, _, _, _, _, _, _, _, _, _ => none
 | k + 1, x6, x7, x8, x228000, x228001, x228002, x228003, x228004, x228005 => if x8 < x7 then (if 0 ≤ x8 then (if x8 < (x6.length : Int) then ((impl_RecWord.f k ((rd_T42 x6 x8).f0) ((rd_T42 x6 x8).f1) ((rd_T42 x6 x8).f2)).bind fun t232 => (if t232.toList = ([] : List UInt8) then (some false) else (if x8 ≤ (x228004.length : Int) then ((slices_ContainsFunc_Rec_g78.f (x228004.take (x8 : Int).toNat) ((rd_T42 x6 x8).f0) ((rd_T42 x6 x8).f1) ((rd_T42 x6 x8).f2)).bind fun t237 => (if t237 = true then (some false) else (impl_isFile.l0 k x6 x7 (wrap64 (x8 + 1)) x228000 x228001 x228002 x228003 x228004 x228005))) else (none)))) else (none)) else (none)) else ((impl_within.f x228001 0 128).bind fun t228 => (if t228 = true then (if (x228003.size : Int) = 8 then ((impl_PagesFor.f x228001).bind fun t229 => (if (x228004.length : Int) = t229 then (some ((x228005.length : Int) == 0)) else (some false))) else (some false)) else (some false)))
def impl_isFile.f (k : Nat) (a0_0 : Int) (a0_1 : Int) (a0_2 : Int) (a0_3 : ByteArray) (l0_4 : List (S42)) (l0_5 : List (S47)) : Option (Bool) := impl_isFile.l0 k l0_4 (l0_4.length : Int) 0 a0_0 a0_1 a0_2 a0_3 l0_4 l0_5
theorem impl_isFile.mono_l : ∀ k, (∀ y0 y1 y2 y3 y4 y5 y6 y7 y8, LeO (impl_isFile.l0 k y0 y1 y2 y3 y4 y5 y6 y7 y8) (impl_isFile.l0 (k + 1) y0 y1 y2 y3 y4 y5 y6 y7 y8))
 | 0 => fun _ _ _ _ _ _ _ _ _ r h => by simp [impl_isFile.l0] at h
 | k + 1 => by
  have ih0 := impl_isFile.mono_l k
  ·intro y0 y1 y2 y3 y4 y5 y6 y7 y8
   unfold impl_isFile.l0
   repeat' first
   | (with_reducible exact ih0 ..)
   | (with_reducible exact impl_RecWord.mono ..)
   | (with_reducible exact LeO.refl _)
   | (with_reducible exact LeO.none _)
   | (with_reducible refine LeO.ite ?_ ?_)
   | (with_reducible refine LeO.bind ?_ (fun _ => ?_))
   | exact ih0 ..
   | exact impl_RecWord.mono ..
   | exact LeO.none _
   | refine LeO.ite ?_ ?_
   | refine LeO.bind ?_ (fun _ => ?_)
theorem impl_isFile.mono : ∀ a0 a1 a2 a3 a4 a5 k, LeO (impl_isFile.f k a0 a1 a2 a3 a4 a5) (impl_isFile.f (k + 1) a0 a1 a2 a3 a4 a5) := by
 intro a0 a1 a2 a3 a4 a5 k
 have ih0 := impl_isFile.mono_l k
 unfold impl_isFile.f
 repeat' first
   | (with_reducible exact ih0 ..)
   | (with_reducible exact impl_RecWord.mono ..)
   | (with_reducible exact LeO.refl _)
   | (with_reducible exact LeO.none _)
   | (with_reducible refine LeO.ite ?_ ?_)
   | (with_reducible refine LeO.bind ?_ (fun _ => ?_))
   | exact ih0 ..
   | exact impl_RecWord.mono ..
   | exact LeO.none _
   | refine LeO.ite ?_ ?_
   | refine LeO.bind ?_ (fun _ => ?_)
set_option maxHeartbeats 8000000 in
set_option maxRecDepth 100000 in
theorem impl_isFile.calls (k : Nat) (a0_0 : Int) (a0_1 : Int) (a0_2 : Int) (a0_3 : ByteArray) (A0_4 : Option Addr) (c0_4 : Nat) (l0_4 : List (S42)) (A0_5 : Option Addr) (c0_5 : Nat) (l0_5 : List (S47)) (r : Bool) (w : World) (hr0_4 : Kd.C k42 w A0_4 l0_4.length l0_4) (hc0_4 : l0_4.length ≤ c0_4) (hr0_5 : Kd.C k47 w A0_5 l0_5.length l0_5) (hc0_5 : l0_5.length ≤ c0_5) (h : impl_isFile.f k a0_0 a0_1 a0_2 a0_3 l0_4 l0_5 = some r) :
  Calls Tryd.prog 55 #[.agg #[.int .i64 a0_0, .int .i64 a0_1, .int .i64 a0_2, .string a0_3, .slice A0_4 l0_4.length c0_4, .slice A0_5 l0_5.length c0_5]] w fun e w' => e = .returned (.bool r) ∧ Below w.heap.size w w' := by
 have hu27 := Tryd.underlying27
 have hu42 := Tryd.underlying42
 have HR0_4 := Aside0.mk hr0_4
 have HC0_4 := Aside0.mk hc0_4
 clear hr0_4 hc0_4
 have HR0_5 := Aside0.mk hr0_5
 have HC0_5 := Aside0.mk hc0_5
 clear hr0_5 hc0_5
 have HB := Aside0.mk (Below.refl w.heap.size w)
 unfold impl_isFile.f at h
 have H := h
 clear h
 have H' := Aside0.mk H
 clear H
 go_enter Tryd.func55, Tryd.ntmps55
 go_wp2_with (first | ((with_reducible refine gate_dst (N := 1) rfl ?_); (try (refine gate_guard (by rfl) ?_; dsimp only)); refine be_ 1 (cs := #[.int .i64 a0_0, .int .i64 a0_1, .int .i64 a0_2, .string a0_3, .slice A0_4 l0_4.length c0_4, .slice A0_5 l0_5.length c0_5]) 27 ?_; intro gb227 hg w2 hbox hb; have z_ := bx0_ th_ hb hbox hg; clear HB; obtain ⟨HB, BK227, GW227, GE227⟩ := z_; clear hb hbox hg; obtain ⟨hcz3_0, hcz3_1, hcz3_2, hcz3_3, hcz3_4, hcz3_5⟩ := bk6_ BK227.out; obtain ⟨hfz3_0, hfz3_1, hfz3_2, hfz3_3, hfz3_4, hfz3_5⟩ := bf6_ BK227.out))
 repeat (go_quiet (first | ((with_reducible refine gate_dst (N := 1) rfl ?_); (try (refine gate_guard (by rfl) ?_; dsimp only)); refine be_ 1 (cs := #[.int .i64 a0_0, .int .i64 a0_1, .int .i64 a0_2, .string a0_3, .slice A0_4 l0_4.length c0_4, .slice A0_5 l0_5.length c0_5]) 27 ?_; intro gb227 hg w2 hbox hb; have z_ := bx0_ th_ hb hbox hg; clear HB; obtain ⟨HB, BK227, GW227, GE227⟩ := z_; clear hb hbox hg; obtain ⟨hcz3_0, hcz3_1, hcz3_2, hcz3_3, hcz3_4, hcz3_5⟩ := bk6_ BK227.out; obtain ⟨hfz3_0, hfz3_1, hfz3_2, hfz3_3, hfz3_4, hfz3_5⟩ := bf6_ BK227.out)); try go_wp2_with (first | ((with_reducible refine gate_dst (N := 1) rfl ?_); (try (refine gate_guard (by rfl) ?_; dsimp only)); refine be_ 1 (cs := #[.int .i64 a0_0, .int .i64 a0_1, .int .i64 a0_2, .string a0_3, .slice A0_4 l0_4.length c0_4, .slice A0_5 l0_5.length c0_5]) 27 ?_; intro gb227 hg w2 hbox hb; have z_ := bx0_ th_ hb hbox hg; clear HB; obtain ⟨HB, BK227, GW227, GE227⟩ := z_; clear hb hbox hg; obtain ⟨hcz3_0, hcz3_1, hcz3_2, hcz3_3, hcz3_4, hcz3_5⟩ := bk6_ BK227.out; obtain ⟨hfz3_0, hfz3_1, hfz3_2, hfz3_3, hfz3_4, hfz3_5⟩ := bf6_ BK227.out)))
 go_loopg [8] k (fun kq v8 w' => ∃ (x8_1 : Int), v8 = .int .i64 x8_1 ∧ Aside0 (impl_isFile.l0 kq l0_4 (l0_4.length : Int) x8_1 a0_0 a0_1 a0_2 a0_3 l0_4 l0_5 = some r) ∧ Aside0 (kq ≤ k) ∧ Aside0 (w'.heap[gb227]? = some (.cells #[.int .i64 a0_0, .int .i64 a0_1, .int .i64 a0_2, .string a0_3, (.slice A0_4 l0_4.length c0_4), (.slice A0_5 l0_5.length c0_5)] 27 (0, 0))) ∧ Aside0 (Below w.heap.size w w'))
 case atStart => exact ⟨(0), tq_4, H', ⟨Nat.le_refl _⟩, ⟨(kb_ BK227)⟩, ⟨th_⟩⟩
 case round =>
 clear H'
 try clear p2; try clear hcz3_0 hcz3_1 hcz3_2 hcz3_3 hcz3_4 hcz3_5 hfz3_0 hfz3_1 hfz3_2 hfz3_3 hfz3_4 hfz3_5
 obtain ⟨x8_1, rfl, HA, HK1, BK227, HB⟩ := hrel
 cases gk with
 | zero => exact absurd HA.out (by simp [impl_isFile.l0])
 | succ k1 =>
 have H := HA.out
 clear HA
 simp only [impl_isFile.l0] at H
 by_cases c4 : x8_1 < (l0_4.length : Int)
 rotate_left
 ·rw [if_neg c4] at H
  have c4b0 := decide_eq_false c4
  clear c4
  obtain ⟨t228, A31, H⟩ := bd_ H
  by_cases c32 : t228 = true
  rotate_left
  ·replace c32 := Bool.eq_false_iff.mpr c32
   subst c32
   rw [if_neg nf_] at H
   obtain rfl := Option.some.inj H
   obtain ⟨hcz39_0, hcz39_1, hcz39_2, hcz39_3, hcz39_4, hcz39_5⟩ := bk6_ BK227.out
   obtain ⟨hfz39_0, hfz39_1, hfz39_2, hfz39_3, hfz39_4, hfz39_5⟩ := bf6_ BK227.out
   go_wp2_with (first | (go_at_call 54; (with_reducible refine (impl_within.calls a0_1 0 128 false _ A31.out).mono ?_); rintro e w' ⟨rfl, ⟨nd, rfl⟩⟩; (try first | exact ⟨rfl, _, World.drewN_drewN _ _ _⟩ | exact ⟨rfl, _, Eq.trans (World.drewN_drewN _ _ _) (congrArg (World.drewN _) (Nat.add_assoc _ _ _))⟩)))
   repeat (go_quiet (first | (go_at_call 54; (with_reducible refine (impl_within.calls a0_1 0 128 false _ A31.out).mono ?_); rintro e w' ⟨rfl, ⟨nd, rfl⟩⟩; (try first | exact ⟨rfl, _, World.drewN_drewN _ _ _⟩ | exact ⟨rfl, _, Eq.trans (World.drewN_drewN _ _ _) (congrArg (World.drewN _) (Nat.add_assoc _ _ _))⟩))); try go_wp2_with (first | (go_at_call 54; (with_reducible refine (impl_within.calls a0_1 0 128 false _ A31.out).mono ?_); rintro e w' ⟨rfl, ⟨nd, rfl⟩⟩; (try first | exact ⟨rfl, _, World.drewN_drewN _ _ _⟩ | exact ⟨rfl, _, Eq.trans (World.drewN_drewN _ _ _) (congrArg (World.drewN _) (Nat.add_assoc _ _ _))⟩))))
   go_ret
   exact ⟨tq_2, th_⟩
  subst c32
  rw [if_pos rfl] at H
  by_cases c33 : (a0_3.size : Int) = 8
  rotate_left
  ·rw [if_neg c33] at H
   have c33b0 := beq_eq_false_iff_ne.mpr c33
   have c33b1 := bne_iff_ne.mpr c33
   obtain rfl := Option.some.inj H
   obtain ⟨hcz38_0, hcz38_1, hcz38_2, hcz38_3, hcz38_4, hcz38_5⟩ := bk6_ BK227.out
   obtain ⟨hfz38_0, hfz38_1, hfz38_2, hfz38_3, hfz38_4, hfz38_5⟩ := bf6_ BK227.out
   go_wp2_with (first | (go_at_call 54; (with_reducible refine (impl_within.calls a0_1 0 128 true _ A31.out).mono ?_); rintro e w' ⟨rfl, ⟨nd, rfl⟩⟩; (try first | exact ⟨rfl, _, World.drewN_drewN _ _ _⟩ | exact ⟨rfl, _, Eq.trans (World.drewN_drewN _ _ _) (congrArg (World.drewN _) (Nat.add_assoc _ _ _))⟩)))
   repeat (go_quiet (first | (go_at_call 54; (with_reducible refine (impl_within.calls a0_1 0 128 true _ A31.out).mono ?_); rintro e w' ⟨rfl, ⟨nd, rfl⟩⟩; (try first | exact ⟨rfl, _, World.drewN_drewN _ _ _⟩ | exact ⟨rfl, _, Eq.trans (World.drewN_drewN _ _ _) (congrArg (World.drewN _) (Nat.add_assoc _ _ _))⟩))); try go_wp2_with (first | (go_at_call 54; (with_reducible refine (impl_within.calls a0_1 0 128 true _ A31.out).mono ?_); rintro e w' ⟨rfl, ⟨nd, rfl⟩⟩; (try first | exact ⟨rfl, _, World.drewN_drewN _ _ _⟩ | exact ⟨rfl, _, Eq.trans (World.drewN_drewN _ _ _) (congrArg (World.drewN _) (Nat.add_assoc _ _ _))⟩))))
   go_ret
   exact ⟨tq_2, th_⟩
  rw [if_pos c33] at H
  have c33b0 := beq_iff_eq.mpr c33
  have c33b1 := bne_eq_false_iff_eq.mpr c33
  clear c33
  obtain ⟨t229, A34, H⟩ := bd_ H
  by_cases c35 : (l0_4.length : Int) = t229
  rotate_left
  ·rw [if_neg c35] at H
   have c35b0 := beq_eq_false_iff_ne.mpr c35
   have c35b1 := bne_iff_ne.mpr c35
   obtain rfl := Option.some.inj H
   obtain ⟨hcz37_0, hcz37_1, hcz37_2, hcz37_3, hcz37_4, hcz37_5⟩ := bk6_ BK227.out
   obtain ⟨hfz37_0, hfz37_1, hfz37_2, hfz37_3, hfz37_4, hfz37_5⟩ := bf6_ BK227.out
   go_wp2_with (first | (go_at_call 54; (with_reducible refine (impl_within.calls a0_1 0 128 true _ A31.out).mono ?_); rintro e w' ⟨rfl, ⟨nd, rfl⟩⟩; (try first | exact ⟨rfl, _, World.drewN_drewN _ _ _⟩ | exact ⟨rfl, _, Eq.trans (World.drewN_drewN _ _ _) (congrArg (World.drewN _) (Nat.add_assoc _ _ _))⟩)) | (go_at_call 20; (with_reducible refine (impl_PagesFor.calls a0_1 t229 _ A34.out).mono ?_); rintro e w' ⟨rfl, ⟨nd, rfl⟩⟩; (try first | exact ⟨rfl, _, World.drewN_drewN _ _ _⟩ | exact ⟨rfl, _, Eq.trans (World.drewN_drewN _ _ _) (congrArg (World.drewN _) (Nat.add_assoc _ _ _))⟩)))
   repeat (go_quiet (first | (go_at_call 54; (with_reducible refine (impl_within.calls a0_1 0 128 true _ A31.out).mono ?_); rintro e w' ⟨rfl, ⟨nd, rfl⟩⟩; (try first | exact ⟨rfl, _, World.drewN_drewN _ _ _⟩ | exact ⟨rfl, _, Eq.trans (World.drewN_drewN _ _ _) (congrArg (World.drewN _) (Nat.add_assoc _ _ _))⟩)) | (go_at_call 20; (with_reducible refine (impl_PagesFor.calls a0_1 t229 _ A34.out).mono ?_); rintro e w' ⟨rfl, ⟨nd, rfl⟩⟩; (try first | exact ⟨rfl, _, World.drewN_drewN _ _ _⟩ | exact ⟨rfl, _, Eq.trans (World.drewN_drewN _ _ _) (congrArg (World.drewN _) (Nat.add_assoc _ _ _))⟩))); try go_wp2_with (first | (go_at_call 54; (with_reducible refine (impl_within.calls a0_1 0 128 true _ A31.out).mono ?_); rintro e w' ⟨rfl, ⟨nd, rfl⟩⟩; (try first | exact ⟨rfl, _, World.drewN_drewN _ _ _⟩ | exact ⟨rfl, _, Eq.trans (World.drewN_drewN _ _ _) (congrArg (World.drewN _) (Nat.add_assoc _ _ _))⟩)) | (go_at_call 20; (with_reducible refine (impl_PagesFor.calls a0_1 t229 _ A34.out).mono ?_); rintro e w' ⟨rfl, ⟨nd, rfl⟩⟩; (try first | exact ⟨rfl, _, World.drewN_drewN _ _ _⟩ | exact ⟨rfl, _, Eq.trans (World.drewN_drewN _ _ _) (congrArg (World.drewN _) (Nat.add_assoc _ _ _))⟩))))
   go_ret
   exact ⟨tq_2, th_⟩
  rw [if_pos c35] at H
  have c35b0 := beq_iff_eq.mpr c35
  have c35b1 := bne_eq_false_iff_eq.mpr c35
  clear c35
  obtain rfl := Option.some.inj H
  obtain ⟨hcz36_0, hcz36_1, hcz36_2, hcz36_3, hcz36_4, hcz36_5⟩ := bk6_ BK227.out
  obtain ⟨hfz36_0, hfz36_1, hfz36_2, hfz36_3, hfz36_4, hfz36_5⟩ := bf6_ BK227.out
  go_wp2_with (first | (go_at_call 54; (with_reducible refine (impl_within.calls a0_1 0 128 true _ A31.out).mono ?_); rintro e w' ⟨rfl, ⟨nd, rfl⟩⟩; (try first | exact ⟨rfl, _, World.drewN_drewN _ _ _⟩ | exact ⟨rfl, _, Eq.trans (World.drewN_drewN _ _ _) (congrArg (World.drewN _) (Nat.add_assoc _ _ _))⟩)) | (go_at_call 20; (with_reducible refine (impl_PagesFor.calls a0_1 t229 _ A34.out).mono ?_); rintro e w' ⟨rfl, ⟨nd, rfl⟩⟩; (try first | exact ⟨rfl, _, World.drewN_drewN _ _ _⟩ | exact ⟨rfl, _, Eq.trans (World.drewN_drewN _ _ _) (congrArg (World.drewN _) (Nat.add_assoc _ _ _))⟩)))
  repeat (go_quiet (first | (go_at_call 54; (with_reducible refine (impl_within.calls a0_1 0 128 true _ A31.out).mono ?_); rintro e w' ⟨rfl, ⟨nd, rfl⟩⟩; (try first | exact ⟨rfl, _, World.drewN_drewN _ _ _⟩ | exact ⟨rfl, _, Eq.trans (World.drewN_drewN _ _ _) (congrArg (World.drewN _) (Nat.add_assoc _ _ _))⟩)) | (go_at_call 20; (with_reducible refine (impl_PagesFor.calls a0_1 t229 _ A34.out).mono ?_); rintro e w' ⟨rfl, ⟨nd, rfl⟩⟩; (try first | exact ⟨rfl, _, World.drewN_drewN _ _ _⟩ | exact ⟨rfl, _, Eq.trans (World.drewN_drewN _ _ _) (congrArg (World.drewN _) (Nat.add_assoc _ _ _))⟩))); try go_wp2_with (first | (go_at_call 54; (with_reducible refine (impl_within.calls a0_1 0 128 true _ A31.out).mono ?_); rintro e w' ⟨rfl, ⟨nd, rfl⟩⟩; (try first | exact ⟨rfl, _, World.drewN_drewN _ _ _⟩ | exact ⟨rfl, _, Eq.trans (World.drewN_drewN _ _ _) (congrArg (World.drewN _) (Nat.add_assoc _ _ _))⟩)) | (go_at_call 20; (with_reducible refine (impl_PagesFor.calls a0_1 t229 _ A34.out).mono ?_); rintro e w' ⟨rfl, ⟨nd, rfl⟩⟩; (try first | exact ⟨rfl, _, World.drewN_drewN _ _ _⟩ | exact ⟨rfl, _, Eq.trans (World.drewN_drewN _ _ _) (congrArg (World.drewN _) (Nat.add_assoc _ _ _))⟩))))
  go_ret
  exact ⟨tq_2, th_⟩
 rw [if_pos c4] at H
 have c4b0 := decide_eq_true c4
 clear c4
 obtain ⟨c5, H⟩ := fc_ H
 have c5b0 := decide_eq_true c5
 clear c5
 obtain ⟨c6, H⟩ := fc_ H
 have c6b0 := decide_eq_true c6
 clear c6
 obtain ⟨t232, A7, H⟩ := bd_ H
 by_cases c8 : t232.toList = ([] : List UInt8)
 ·rw [if_pos c8] at H
  have c8b0 := beq_iff_eq.mpr c8
  have c8b1 := bne_eq_false_iff_eq.mpr c8
  clear c8
  obtain rfl := Option.some.inj H
  have p230 : 0 ≤ (x8_1 : Int) := of_decide_eq_true tq_1
  have q230 : x8_1 < (l0_4.length : Int) := of_decide_eq_true tq_1
  obtain ⟨ad230, e230, hx230_0, hx230_1, hx230_2⟩ := at_T42 HR0_4.out x8_1 p230 q230
  cases e230
  replace hx230_0 := hx_ HB.out hx230_0
  replace hx230_1 := hx_ HB.out hx230_1
  replace hx230_2 := hx_ HB.out hx230_2
  replace p230 := eq_true p230
  replace q230 := eq_true q230
  go_wp2_with (first | ((with_reducible refine gate_dst (N := 4) rfl ?_); (try (refine gate_guard (by rfl) ?_; dsimp only)); refine be_ 4 (cs := #[.int .i64 0, .int .i64 0, .string (⟨#[]⟩ : ByteArray)]) 42 ?_; intro gb231 hg w9 hbox hb; have z_ := bx1_ (kb_ BK227) th_ hb hbox hg; clear BK227 HB; obtain ⟨BK227, HB, BK231, GW231, GE231, NB227_231, NB231_227⟩ := z_; clear hb hbox hg; obtain ⟨hnb10, hnc10⟩ := an2_ NB231_227 NB227_231; obtain ⟨hcz11_0, hcz11_1, hcz11_2⟩ := bk3_ BK231.out; obtain ⟨hfz11_0, hfz11_1, hfz11_2⟩ := bf3_ BK231.out) | (go_at_call 22; (with_reducible refine (impl_RecWord.calls k1 ((rd_T42 l0_4 x8_1).f0) ((rd_T42 l0_4 x8_1).f1) ((rd_T42 l0_4 x8_1).f2) t232 _ A7.out).mono ?_); rintro e w12 ⟨rfl, hb⟩; have z_ := p_ (blk_below (g := gb227) (o := .cells #[.int .i64 a0_0, .int .i64 a0_1, .int .i64 a0_2, .string a0_3, .slice (some ad230) l0_4.length c0_4, .slice A0_5 l0_5.length c0_5] 27 (0, 0)) tq_9 hb) <| p_ (blk_below (g := gb231) (o := .cells #[.int .i64 ((rd_T42 l0_4 x8_1).f0), .int .i64 ((rd_T42 l0_4 x8_1).f1), .string ((rd_T42 l0_4 x8_1).f2)] 42 (0, 0)) tq_5 hb) <| a_ (below_step th_ hb); clear BK227 BK231 HB; obtain ⟨BK227, BK231, HB⟩ := z_; (try clear hb)))
  repeat (go_quiet (first | ((with_reducible refine gate_dst (N := 4) rfl ?_); (try (refine gate_guard (by rfl) ?_; dsimp only)); refine be_ 4 (cs := #[.int .i64 0, .int .i64 0, .string (⟨#[]⟩ : ByteArray)]) 42 ?_; intro gb231 hg w9 hbox hb; have z_ := bx1_ (kb_ BK227) th_ hb hbox hg; clear BK227 HB; obtain ⟨BK227, HB, BK231, GW231, GE231, NB227_231, NB231_227⟩ := z_; clear hb hbox hg; obtain ⟨hnb10, hnc10⟩ := an2_ NB231_227 NB227_231; obtain ⟨hcz11_0, hcz11_1, hcz11_2⟩ := bk3_ BK231.out; obtain ⟨hfz11_0, hfz11_1, hfz11_2⟩ := bf3_ BK231.out) | (go_at_call 22; (with_reducible refine (impl_RecWord.calls k1 ((rd_T42 l0_4 x8_1).f0) ((rd_T42 l0_4 x8_1).f1) ((rd_T42 l0_4 x8_1).f2) t232 _ A7.out).mono ?_); rintro e w12 ⟨rfl, hb⟩; have z_ := p_ (blk_below (g := gb227) (o := .cells #[.int .i64 a0_0, .int .i64 a0_1, .int .i64 a0_2, .string a0_3, .slice (some ad230) l0_4.length c0_4, .slice A0_5 l0_5.length c0_5] 27 (0, 0)) tq_9 hb) <| p_ (blk_below (g := gb231) (o := .cells #[.int .i64 ((rd_T42 l0_4 x8_1).f0), .int .i64 ((rd_T42 l0_4 x8_1).f1), .string ((rd_T42 l0_4 x8_1).f2)] 42 (0, 0)) tq_5 hb) <| a_ (below_step th_ hb); clear BK227 BK231 HB; obtain ⟨BK227, BK231, HB⟩ := z_; (try clear hb))); try go_wp2_with (first | ((with_reducible refine gate_dst (N := 4) rfl ?_); (try (refine gate_guard (by rfl) ?_; dsimp only)); refine be_ 4 (cs := #[.int .i64 0, .int .i64 0, .string (⟨#[]⟩ : ByteArray)]) 42 ?_; intro gb231 hg w9 hbox hb; have z_ := bx1_ (kb_ BK227) th_ hb hbox hg; clear BK227 HB; obtain ⟨BK227, HB, BK231, GW231, GE231, NB227_231, NB231_227⟩ := z_; clear hb hbox hg; obtain ⟨hnb10, hnc10⟩ := an2_ NB231_227 NB227_231; obtain ⟨hcz11_0, hcz11_1, hcz11_2⟩ := bk3_ BK231.out; obtain ⟨hfz11_0, hfz11_1, hfz11_2⟩ := bf3_ BK231.out) | (go_at_call 22; (with_reducible refine (impl_RecWord.calls k1 ((rd_T42 l0_4 x8_1).f0) ((rd_T42 l0_4 x8_1).f1) ((rd_T42 l0_4 x8_1).f2) t232 _ A7.out).mono ?_); rintro e w12 ⟨rfl, hb⟩; have z_ := p_ (blk_below (g := gb227) (o := .cells #[.int .i64 a0_0, .int .i64 a0_1, .int .i64 a0_2, .string a0_3, .slice (some ad230) l0_4.length c0_4, .slice A0_5 l0_5.length c0_5] 27 (0, 0)) tq_9 hb) <| p_ (blk_below (g := gb231) (o := .cells #[.int .i64 ((rd_T42 l0_4 x8_1).f0), .int .i64 ((rd_T42 l0_4 x8_1).f1), .string ((rd_T42 l0_4 x8_1).f2)] 42 (0, 0)) tq_5 hb) <| a_ (below_step th_ hb); clear BK227 BK231 HB; obtain ⟨BK227, BK231, HB⟩ := z_; (try clear hb))))
  go_ret
  exact ⟨tq_2, th_⟩
 rw [if_neg c8] at H
 have c8b0 := beq_eq_false_iff_ne.mpr c8
 have c8b1 := bne_iff_ne.mpr c8
 have c13b0 := eq_true (of_decide_eq_true tq_1 : 0 ≤ x8_1)
 obtain ⟨c14, H⟩ := fc_ H
 have c14b0 := eq_true c14
 have c14b1 := decide_eq_true c14
 clear c14
 obtain ⟨y233, hy233⟩ : ∃ y_ : List (S42), y_ = (l0_4.take (x8_1 : Int).toNat) := ⟨_, rfl⟩
 replace H : ((slices_ContainsFunc_Rec_g78.f y233 ((rd_T42 l0_4 x8_1).f0) ((rd_T42 l0_4 x8_1).f1) ((rd_T42 l0_4 x8_1).f2)).bind fun t237 => (if t237 = true then (some false) else (impl_isFile.l0 k1 l0_4 (l0_4.length : Int) (wrap64 (x8_1 + 1)) a0_0 a0_1 a0_2 a0_3 l0_4 l0_5))) = some r := by first | (rw [hy233]; with_reducible exact H) | (have H2_ := (Option.bind_some _ _).symm.trans H; rw [hy233]; with_reducible exact H2_) | (have H2_ := (Option.bind_some _ _).symm.trans H; with_reducible exact H2_) | with_reducible exact H | (rw [hy233]; exact H) | exact H
 have Ny233 := Aside0.mk hy233
 clear hy233
 obtain ⟨t237, A15, H⟩ := bd_ H
 by_cases c16 : t237 = true
 ·subst c16
  rw [if_pos rfl] at H
  obtain rfl := Option.some.inj H
  have p230 : 0 ≤ (x8_1 : Int) := of_decide_eq_true tq_1
  have q230 : x8_1 < (l0_4.length : Int) := of_decide_eq_true tq_1
  obtain ⟨ad230, e230, hx230_0, hx230_1, hx230_2⟩ := at_T42 HR0_4.out x8_1 p230 q230
  cases e230
  replace hx230_0 := hx_ HB.out hx230_0
  replace hx230_1 := hx_ HB.out hx230_1
  replace hx230_2 := hx_ HB.out hx230_2
  replace p230 := eq_true p230
  replace q230 := eq_true q230
  go_wp2_with (first | ((with_reducible refine gate_dst (N := 4) rfl ?_); (try (refine gate_guard (by rfl) ?_; dsimp only)); refine be_ 4 (cs := #[.int .i64 0, .int .i64 0, .string (⟨#[]⟩ : ByteArray)]) 42 ?_; intro gb231 hg w17 hbox hb; have z_ := bx1_ (kb_ BK227) th_ hb hbox hg; clear BK227 HB; obtain ⟨BK227, HB, BK231, GW231, GE231, NB227_231, NB231_227⟩ := z_; clear hb hbox hg; obtain ⟨hnb18, hnc18⟩ := an2_ NB231_227 NB227_231; obtain ⟨hcz19_0, hcz19_1, hcz19_2⟩ := bk3_ BK231.out; obtain ⟨hfz19_0, hfz19_1, hfz19_2⟩ := bf3_ BK231.out) | (go_at_call 22; (with_reducible refine (impl_RecWord.calls k1 ((rd_T42 l0_4 x8_1).f0) ((rd_T42 l0_4 x8_1).f1) ((rd_T42 l0_4 x8_1).f2) t232 _ A7.out).mono ?_); rintro e w20 ⟨rfl, hb⟩; have z_ := p_ (blk_below (g := gb227) (o := .cells #[.int .i64 a0_0, .int .i64 a0_1, .int .i64 a0_2, .string a0_3, .slice (some ad230) l0_4.length c0_4, .slice A0_5 l0_5.length c0_5] 27 (0, 0)) tq_9 hb) <| p_ (blk_below (g := gb231) (o := .cells #[.int .i64 ((rd_T42 l0_4 x8_1).f0), .int .i64 ((rd_T42 l0_4 x8_1).f1), .string ((rd_T42 l0_4 x8_1).f2)] 42 (0, 0)) tq_5 hb) <| a_ (below_step th_ hb); clear BK227 BK231 HB; obtain ⟨BK227, BK231, HB⟩ := z_; (try clear hb); obtain ⟨hcz21_0, hcz21_1, hcz21_2, hcz21_3, hcz21_4, hcz21_5⟩ := bk6_ BK227.out; obtain ⟨hfz21_0, hfz21_1, hfz21_2, hfz21_3, hfz21_4, hfz21_5⟩ := bf6_ BK227.out; have q22 : (x8_1 : Int) ≤ ((l0_4.length : Int) : Int) := of_decide_eq_true tq_1; obtain ⟨i022, hi022, _, hsz22, _⟩ := info_parts info42; have hroom22 : l0_4.length ≤ c0_4 := HC0_4.out; have hC22 : Kd.C k42 _ (some ad230) l0_4.length l0_4 := HR0_4.out; have hcut22 := cut_to (P := Tryd.prog) 24 42 .i64 Tryd.underlying24 hi022 (some ad230) l0_4.length c0_4 x8_1 (of_decide_eq_true tq_1) q22 hroom22; have hr22 := Kd.C_take (m := (x8_1 : Int).toNat) hC22 (by omega); have hy22 : y233.length = (x8_1 : Int).toNat := tq_82; rw [← Ny233.out] at hr22; rw [← hy22] at hcut22; have HR236 := Aside0.mk hr22; have HC236 := Aside0.mk (show y233.length ≤ c0_4 from by omega); clear hr22 hC22 hroom22 hi022 hsz22; have KY22 := Aside0.mk hy22; clear hy22; replace q22 := eq_true q22) | (go_at_call 77; (with_reducible refine (slices_ContainsFunc_Rec_g78.calls _ _ y233 gb231 ((rd_T42 l0_4 x8_1).f0) ((rd_T42 l0_4 x8_1).f1) ((rd_T42 l0_4 x8_1).f2) true _ ?side1 ?side2 ?side3 A15.out).mono ?_); (case side1 => exact tq_33); (case side2 => exact HC236.out); (case side3 => (with_reducible repeat (first | refine blk_drewN ?_ _ | refine blk_drew ?_ | refine blk_alloc ?_ _)); exact BK231.out); rintro e w23 ⟨rfl, hb⟩; have z_ := bw2_ (kb_ BK227) (kb_ BK231) th_ hb; clear BK227 BK231 HB; obtain ⟨BK227, BK231, HB⟩ := z_; (try clear hb)))
  repeat (go_quiet (first | ((with_reducible refine gate_dst (N := 4) rfl ?_); (try (refine gate_guard (by rfl) ?_; dsimp only)); refine be_ 4 (cs := #[.int .i64 0, .int .i64 0, .string (⟨#[]⟩ : ByteArray)]) 42 ?_; intro gb231 hg w17 hbox hb; have z_ := bx1_ (kb_ BK227) th_ hb hbox hg; clear BK227 HB; obtain ⟨BK227, HB, BK231, GW231, GE231, NB227_231, NB231_227⟩ := z_; clear hb hbox hg; obtain ⟨hnb18, hnc18⟩ := an2_ NB231_227 NB227_231; obtain ⟨hcz19_0, hcz19_1, hcz19_2⟩ := bk3_ BK231.out; obtain ⟨hfz19_0, hfz19_1, hfz19_2⟩ := bf3_ BK231.out) | (go_at_call 22; (with_reducible refine (impl_RecWord.calls k1 ((rd_T42 l0_4 x8_1).f0) ((rd_T42 l0_4 x8_1).f1) ((rd_T42 l0_4 x8_1).f2) t232 _ A7.out).mono ?_); rintro e w20 ⟨rfl, hb⟩; have z_ := p_ (blk_below (g := gb227) (o := .cells #[.int .i64 a0_0, .int .i64 a0_1, .int .i64 a0_2, .string a0_3, .slice (some ad230) l0_4.length c0_4, .slice A0_5 l0_5.length c0_5] 27 (0, 0)) tq_9 hb) <| p_ (blk_below (g := gb231) (o := .cells #[.int .i64 ((rd_T42 l0_4 x8_1).f0), .int .i64 ((rd_T42 l0_4 x8_1).f1), .string ((rd_T42 l0_4 x8_1).f2)] 42 (0, 0)) tq_5 hb) <| a_ (below_step th_ hb); clear BK227 BK231 HB; obtain ⟨BK227, BK231, HB⟩ := z_; (try clear hb); obtain ⟨hcz21_0, hcz21_1, hcz21_2, hcz21_3, hcz21_4, hcz21_5⟩ := bk6_ BK227.out; obtain ⟨hfz21_0, hfz21_1, hfz21_2, hfz21_3, hfz21_4, hfz21_5⟩ := bf6_ BK227.out; have q22 : (x8_1 : Int) ≤ ((l0_4.length : Int) : Int) := of_decide_eq_true tq_1; obtain ⟨i022, hi022, _, hsz22, _⟩ := info_parts info42; have hroom22 : l0_4.length ≤ c0_4 := HC0_4.out; have hC22 : Kd.C k42 _ (some ad230) l0_4.length l0_4 := HR0_4.out; have hcut22 := cut_to (P := Tryd.prog) 24 42 .i64 Tryd.underlying24 hi022 (some ad230) l0_4.length c0_4 x8_1 (of_decide_eq_true tq_1) q22 hroom22; have hr22 := Kd.C_take (m := (x8_1 : Int).toNat) hC22 (by omega); have hy22 : y233.length = (x8_1 : Int).toNat := tq_82; rw [← Ny233.out] at hr22; rw [← hy22] at hcut22; have HR236 := Aside0.mk hr22; have HC236 := Aside0.mk (show y233.length ≤ c0_4 from by omega); clear hr22 hC22 hroom22 hi022 hsz22; have KY22 := Aside0.mk hy22; clear hy22; replace q22 := eq_true q22) | (go_at_call 77; (with_reducible refine (slices_ContainsFunc_Rec_g78.calls _ _ y233 gb231 ((rd_T42 l0_4 x8_1).f0) ((rd_T42 l0_4 x8_1).f1) ((rd_T42 l0_4 x8_1).f2) true _ ?side1 ?side2 ?side3 A15.out).mono ?_); (case side1 => exact tq_33); (case side2 => exact HC236.out); (case side3 => (with_reducible repeat (first | refine blk_drewN ?_ _ | refine blk_drew ?_ | refine blk_alloc ?_ _)); exact BK231.out); rintro e w23 ⟨rfl, hb⟩; have z_ := bw2_ (kb_ BK227) (kb_ BK231) th_ hb; clear BK227 BK231 HB; obtain ⟨BK227, BK231, HB⟩ := z_; (try clear hb))); try go_wp2_with (first | ((with_reducible refine gate_dst (N := 4) rfl ?_); (try (refine gate_guard (by rfl) ?_; dsimp only)); refine be_ 4 (cs := #[.int .i64 0, .int .i64 0, .string (⟨#[]⟩ : ByteArray)]) 42 ?_; intro gb231 hg w17 hbox hb; have z_ := bx1_ (kb_ BK227) th_ hb hbox hg; clear BK227 HB; obtain ⟨BK227, HB, BK231, GW231, GE231, NB227_231, NB231_227⟩ := z_; clear hb hbox hg; obtain ⟨hnb18, hnc18⟩ := an2_ NB231_227 NB227_231; obtain ⟨hcz19_0, hcz19_1, hcz19_2⟩ := bk3_ BK231.out; obtain ⟨hfz19_0, hfz19_1, hfz19_2⟩ := bf3_ BK231.out) | (go_at_call 22; (with_reducible refine (impl_RecWord.calls k1 ((rd_T42 l0_4 x8_1).f0) ((rd_T42 l0_4 x8_1).f1) ((rd_T42 l0_4 x8_1).f2) t232 _ A7.out).mono ?_); rintro e w20 ⟨rfl, hb⟩; have z_ := p_ (blk_below (g := gb227) (o := .cells #[.int .i64 a0_0, .int .i64 a0_1, .int .i64 a0_2, .string a0_3, .slice (some ad230) l0_4.length c0_4, .slice A0_5 l0_5.length c0_5] 27 (0, 0)) tq_9 hb) <| p_ (blk_below (g := gb231) (o := .cells #[.int .i64 ((rd_T42 l0_4 x8_1).f0), .int .i64 ((rd_T42 l0_4 x8_1).f1), .string ((rd_T42 l0_4 x8_1).f2)] 42 (0, 0)) tq_5 hb) <| a_ (below_step th_ hb); clear BK227 BK231 HB; obtain ⟨BK227, BK231, HB⟩ := z_; (try clear hb); obtain ⟨hcz21_0, hcz21_1, hcz21_2, hcz21_3, hcz21_4, hcz21_5⟩ := bk6_ BK227.out; obtain ⟨hfz21_0, hfz21_1, hfz21_2, hfz21_3, hfz21_4, hfz21_5⟩ := bf6_ BK227.out; have q22 : (x8_1 : Int) ≤ ((l0_4.length : Int) : Int) := of_decide_eq_true tq_1; obtain ⟨i022, hi022, _, hsz22, _⟩ := info_parts info42; have hroom22 : l0_4.length ≤ c0_4 := HC0_4.out; have hC22 : Kd.C k42 _ (some ad230) l0_4.length l0_4 := HR0_4.out; have hcut22 := cut_to (P := Tryd.prog) 24 42 .i64 Tryd.underlying24 hi022 (some ad230) l0_4.length c0_4 x8_1 (of_decide_eq_true tq_1) q22 hroom22; have hr22 := Kd.C_take (m := (x8_1 : Int).toNat) hC22 (by omega); have hy22 : y233.length = (x8_1 : Int).toNat := tq_82; rw [← Ny233.out] at hr22; rw [← hy22] at hcut22; have HR236 := Aside0.mk hr22; have HC236 := Aside0.mk (show y233.length ≤ c0_4 from by omega); clear hr22 hC22 hroom22 hi022 hsz22; have KY22 := Aside0.mk hy22; clear hy22; replace q22 := eq_true q22) | (go_at_call 77; (with_reducible refine (slices_ContainsFunc_Rec_g78.calls _ _ y233 gb231 ((rd_T42 l0_4 x8_1).f0) ((rd_T42 l0_4 x8_1).f1) ((rd_T42 l0_4 x8_1).f2) true _ ?side1 ?side2 ?side3 A15.out).mono ?_); (case side1 => exact tq_33); (case side2 => exact HC236.out); (case side3 => (with_reducible repeat (first | refine blk_drewN ?_ _ | refine blk_drew ?_ | refine blk_alloc ?_ _)); exact BK231.out); rintro e w23 ⟨rfl, hb⟩; have z_ := bw2_ (kb_ BK227) (kb_ BK231) th_ hb; clear BK227 BK231 HB; obtain ⟨BK227, BK231, HB⟩ := z_; (try clear hb))))
  go_ret
  exact ⟨tq_2, th_⟩
 replace c16 := Bool.eq_false_iff.mpr c16
 subst c16
 rw [if_neg nf_] at H
 have H' := Aside0.mk H
 clear H
 have p230 : 0 ≤ (x8_1 : Int) := of_decide_eq_true tq_1
 have q230 : x8_1 < (l0_4.length : Int) := of_decide_eq_true tq_1
 obtain ⟨ad230, e230, hx230_0, hx230_1, hx230_2⟩ := at_T42 HR0_4.out x8_1 p230 q230
 cases e230
 replace hx230_0 := hx_ HB.out hx230_0
 replace hx230_1 := hx_ HB.out hx230_1
 replace hx230_2 := hx_ HB.out hx230_2
 replace p230 := eq_true p230
 replace q230 := eq_true q230
 go_wp2_with (first | ((with_reducible refine gate_dst (N := 4) rfl ?_); (try (refine gate_guard (by rfl) ?_; dsimp only)); refine be_ 4 (cs := #[.int .i64 0, .int .i64 0, .string (⟨#[]⟩ : ByteArray)]) 42 ?_; intro gb231 hg w24 hbox hb; have z_ := bx1_ (kb_ BK227) th_ hb hbox hg; clear BK227 HB; obtain ⟨BK227, HB, BK231, GW231, GE231, NB227_231, NB231_227⟩ := z_; clear hb hbox hg; obtain ⟨hnb25, hnc25⟩ := an2_ NB231_227 NB227_231; obtain ⟨hcz26_0, hcz26_1, hcz26_2⟩ := bk3_ BK231.out; obtain ⟨hfz26_0, hfz26_1, hfz26_2⟩ := bf3_ BK231.out) | (go_at_call 22; (with_reducible refine (impl_RecWord.calls k1 ((rd_T42 l0_4 x8_1).f0) ((rd_T42 l0_4 x8_1).f1) ((rd_T42 l0_4 x8_1).f2) t232 _ A7.out).mono ?_); rintro e w27 ⟨rfl, hb⟩; have z_ := p_ (blk_below (g := gb227) (o := .cells #[.int .i64 a0_0, .int .i64 a0_1, .int .i64 a0_2, .string a0_3, .slice (some ad230) l0_4.length c0_4, .slice A0_5 l0_5.length c0_5] 27 (0, 0)) tq_9 hb) <| p_ (blk_below (g := gb231) (o := .cells #[.int .i64 ((rd_T42 l0_4 x8_1).f0), .int .i64 ((rd_T42 l0_4 x8_1).f1), .string ((rd_T42 l0_4 x8_1).f2)] 42 (0, 0)) tq_5 hb) <| a_ (below_step th_ hb); clear BK227 BK231 HB; obtain ⟨BK227, BK231, HB⟩ := z_; (try clear hb); obtain ⟨hcz28_0, hcz28_1, hcz28_2, hcz28_3, hcz28_4, hcz28_5⟩ := bk6_ BK227.out; obtain ⟨hfz28_0, hfz28_1, hfz28_2, hfz28_3, hfz28_4, hfz28_5⟩ := bf6_ BK227.out; have q29 : (x8_1 : Int) ≤ ((l0_4.length : Int) : Int) := of_decide_eq_true tq_1; obtain ⟨i029, hi029, _, hsz29, _⟩ := info_parts info42; have hroom29 : l0_4.length ≤ c0_4 := HC0_4.out; have hC29 : Kd.C k42 _ (some ad230) l0_4.length l0_4 := HR0_4.out; have hcut29 := cut_to (P := Tryd.prog) 24 42 .i64 Tryd.underlying24 hi029 (some ad230) l0_4.length c0_4 x8_1 (of_decide_eq_true tq_1) q29 hroom29; have hr29 := Kd.C_take (m := (x8_1 : Int).toNat) hC29 (by omega); have hy29 : y233.length = (x8_1 : Int).toNat := tq_82; rw [← Ny233.out] at hr29; rw [← hy29] at hcut29; have HR236 := Aside0.mk hr29; have HC236 := Aside0.mk (show y233.length ≤ c0_4 from by omega); clear hr29 hC29 hroom29 hi029 hsz29; have KY29 := Aside0.mk hy29; clear hy29; replace q29 := eq_true q29) | (go_at_call 77; (with_reducible refine (slices_ContainsFunc_Rec_g78.calls _ _ y233 gb231 ((rd_T42 l0_4 x8_1).f0) ((rd_T42 l0_4 x8_1).f1) ((rd_T42 l0_4 x8_1).f2) false _ ?side1 ?side2 ?side3 A15.out).mono ?_); (case side1 => exact tq_33); (case side2 => exact HC236.out); (case side3 => (with_reducible repeat (first | refine blk_drewN ?_ _ | refine blk_drew ?_ | refine blk_alloc ?_ _)); exact BK231.out); rintro e w30 ⟨rfl, hb⟩; have z_ := bw2_ (kb_ BK227) (kb_ BK231) th_ hb; clear BK227 BK231 HB; obtain ⟨BK227, BK231, HB⟩ := z_; (try clear hb)))
 repeat (go_quiet (first | ((with_reducible refine gate_dst (N := 4) rfl ?_); (try (refine gate_guard (by rfl) ?_; dsimp only)); refine be_ 4 (cs := #[.int .i64 0, .int .i64 0, .string (⟨#[]⟩ : ByteArray)]) 42 ?_; intro gb231 hg w24 hbox hb; have z_ := bx1_ (kb_ BK227) th_ hb hbox hg; clear BK227 HB; obtain ⟨BK227, HB, BK231, GW231, GE231, NB227_231, NB231_227⟩ := z_; clear hb hbox hg; obtain ⟨hnb25, hnc25⟩ := an2_ NB231_227 NB227_231; obtain ⟨hcz26_0, hcz26_1, hcz26_2⟩ := bk3_ BK231.out; obtain ⟨hfz26_0, hfz26_1, hfz26_2⟩ := bf3_ BK231.out) | (go_at_call 22; (with_reducible refine (impl_RecWord.calls k1 ((rd_T42 l0_4 x8_1).f0) ((rd_T42 l0_4 x8_1).f1) ((rd_T42 l0_4 x8_1).f2) t232 _ A7.out).mono ?_); rintro e w27 ⟨rfl, hb⟩; have z_ := p_ (blk_below (g := gb227) (o := .cells #[.int .i64 a0_0, .int .i64 a0_1, .int .i64 a0_2, .string a0_3, .slice (some ad230) l0_4.length c0_4, .slice A0_5 l0_5.length c0_5] 27 (0, 0)) tq_9 hb) <| p_ (blk_below (g := gb231) (o := .cells #[.int .i64 ((rd_T42 l0_4 x8_1).f0), .int .i64 ((rd_T42 l0_4 x8_1).f1), .string ((rd_T42 l0_4 x8_1).f2)] 42 (0, 0)) tq_5 hb) <| a_ (below_step th_ hb); clear BK227 BK231 HB; obtain ⟨BK227, BK231, HB⟩ := z_; (try clear hb); obtain ⟨hcz28_0, hcz28_1, hcz28_2, hcz28_3, hcz28_4, hcz28_5⟩ := bk6_ BK227.out; obtain ⟨hfz28_0, hfz28_1, hfz28_2, hfz28_3, hfz28_4, hfz28_5⟩ := bf6_ BK227.out; have q29 : (x8_1 : Int) ≤ ((l0_4.length : Int) : Int) := of_decide_eq_true tq_1; obtain ⟨i029, hi029, _, hsz29, _⟩ := info_parts info42; have hroom29 : l0_4.length ≤ c0_4 := HC0_4.out; have hC29 : Kd.C k42 _ (some ad230) l0_4.length l0_4 := HR0_4.out; have hcut29 := cut_to (P := Tryd.prog) 24 42 .i64 Tryd.underlying24 hi029 (some ad230) l0_4.length c0_4 x8_1 (of_decide_eq_true tq_1) q29 hroom29; have hr29 := Kd.C_take (m := (x8_1 : Int).toNat) hC29 (by omega); have hy29 : y233.length = (x8_1 : Int).toNat := tq_82; rw [← Ny233.out] at hr29; rw [← hy29] at hcut29; have HR236 := Aside0.mk hr29; have HC236 := Aside0.mk (show y233.length ≤ c0_4 from by omega); clear hr29 hC29 hroom29 hi029 hsz29; have KY29 := Aside0.mk hy29; clear hy29; replace q29 := eq_true q29) | (go_at_call 77; (with_reducible refine (slices_ContainsFunc_Rec_g78.calls _ _ y233 gb231 ((rd_T42 l0_4 x8_1).f0) ((rd_T42 l0_4 x8_1).f1) ((rd_T42 l0_4 x8_1).f2) false _ ?side1 ?side2 ?side3 A15.out).mono ?_); (case side1 => exact tq_33); (case side2 => exact HC236.out); (case side3 => (with_reducible repeat (first | refine blk_drewN ?_ _ | refine blk_drew ?_ | refine blk_alloc ?_ _)); exact BK231.out); rintro e w30 ⟨rfl, hb⟩; have z_ := bw2_ (kb_ BK227) (kb_ BK231) th_ hb; clear BK227 BK231 HB; obtain ⟨BK227, BK231, HB⟩ := z_; (try clear hb))); try go_wp2_with (first | ((with_reducible refine gate_dst (N := 4) rfl ?_); (try (refine gate_guard (by rfl) ?_; dsimp only)); refine be_ 4 (cs := #[.int .i64 0, .int .i64 0, .string (⟨#[]⟩ : ByteArray)]) 42 ?_; intro gb231 hg w24 hbox hb; have z_ := bx1_ (kb_ BK227) th_ hb hbox hg; clear BK227 HB; obtain ⟨BK227, HB, BK231, GW231, GE231, NB227_231, NB231_227⟩ := z_; clear hb hbox hg; obtain ⟨hnb25, hnc25⟩ := an2_ NB231_227 NB227_231; obtain ⟨hcz26_0, hcz26_1, hcz26_2⟩ := bk3_ BK231.out; obtain ⟨hfz26_0, hfz26_1, hfz26_2⟩ := bf3_ BK231.out) | (go_at_call 22; (with_reducible refine (impl_RecWord.calls k1 ((rd_T42 l0_4 x8_1).f0) ((rd_T42 l0_4 x8_1).f1) ((rd_T42 l0_4 x8_1).f2) t232 _ A7.out).mono ?_); rintro e w27 ⟨rfl, hb⟩; have z_ := p_ (blk_below (g := gb227) (o := .cells #[.int .i64 a0_0, .int .i64 a0_1, .int .i64 a0_2, .string a0_3, .slice (some ad230) l0_4.length c0_4, .slice A0_5 l0_5.length c0_5] 27 (0, 0)) tq_9 hb) <| p_ (blk_below (g := gb231) (o := .cells #[.int .i64 ((rd_T42 l0_4 x8_1).f0), .int .i64 ((rd_T42 l0_4 x8_1).f1), .string ((rd_T42 l0_4 x8_1).f2)] 42 (0, 0)) tq_5 hb) <| a_ (below_step th_ hb); clear BK227 BK231 HB; obtain ⟨BK227, BK231, HB⟩ := z_; (try clear hb); obtain ⟨hcz28_0, hcz28_1, hcz28_2, hcz28_3, hcz28_4, hcz28_5⟩ := bk6_ BK227.out; obtain ⟨hfz28_0, hfz28_1, hfz28_2, hfz28_3, hfz28_4, hfz28_5⟩ := bf6_ BK227.out; have q29 : (x8_1 : Int) ≤ ((l0_4.length : Int) : Int) := of_decide_eq_true tq_1; obtain ⟨i029, hi029, _, hsz29, _⟩ := info_parts info42; have hroom29 : l0_4.length ≤ c0_4 := HC0_4.out; have hC29 : Kd.C k42 _ (some ad230) l0_4.length l0_4 := HR0_4.out; have hcut29 := cut_to (P := Tryd.prog) 24 42 .i64 Tryd.underlying24 hi029 (some ad230) l0_4.length c0_4 x8_1 (of_decide_eq_true tq_1) q29 hroom29; have hr29 := Kd.C_take (m := (x8_1 : Int).toNat) hC29 (by omega); have hy29 : y233.length = (x8_1 : Int).toNat := tq_82; rw [← Ny233.out] at hr29; rw [← hy29] at hcut29; have HR236 := Aside0.mk hr29; have HC236 := Aside0.mk (show y233.length ≤ c0_4 from by omega); clear hr29 hC29 hroom29 hi029 hsz29; have KY29 := Aside0.mk hy29; clear hy29; replace q29 := eq_true q29) | (go_at_call 77; (with_reducible refine (slices_ContainsFunc_Rec_g78.calls _ _ y233 gb231 ((rd_T42 l0_4 x8_1).f0) ((rd_T42 l0_4 x8_1).f1) ((rd_T42 l0_4 x8_1).f2) false _ ?side1 ?side2 ?side3 A15.out).mono ?_); (case side1 => exact tq_33); (case side2 => exact HC236.out); (case side3 => (with_reducible repeat (first | refine blk_drewN ?_ _ | refine blk_drew ?_ | refine blk_alloc ?_ _)); exact BK231.out); rintro e w30 ⟨rfl, hb⟩; have z_ := bw2_ (kb_ BK227) (kb_ BK231) th_ hb; clear BK227 BK231 HB; obtain ⟨BK227, BK231, HB⟩ := z_; (try clear hb))))
 go_roundg k1
 case measure => have := HK1.out; omega
 case rel => exact ⟨(wrap64 (x8_1 + 1)), tq_4, H', ⟨tq_56⟩, ⟨(kb_ BK227)⟩, ⟨th_⟩⟩

/-! ### impl_NameOk: function 25 -/
def impl_NameOk.l0 : Nat → ByteArray → Int → Int → Option (Bool)
 | 0, _, _, _ => none
 | k + 1, x0, x5, x6 => if x6 < x5 then (if 0 ≤ x6 then (if x6 < (x0.size : Int) then (if (bt x0 x6) ≥ 97 then (if (bt x0 x6) ≤ 122 then (impl_NameOk.l0 k x0 x5 (wrap64 (x6 + 1))) else (if (bt x0 x6) ≥ 48 then (if ((bt x0 x6) ≤ 57) then (impl_NameOk.l0 k x0 x5 (wrap64 (x6 + 1))) else (some false)) else (some false))) else (if (bt x0 x6) ≥ 48 then (if ((bt x0 x6) ≤ 57) then (impl_NameOk.l0 k x0 x5 (wrap64 (x6 + 1))) else (some false)) else (some false))) else (none)) else (none)) else ((impl_within.f (x0.size : Int) 1 7).bind fun t238 => (some t238))
def impl_NameOk.f (k : Nat) (a0 : ByteArray) : Option (Bool) := impl_NameOk.l0 k a0 (a0.size : Int) 0
theorem impl_NameOk.mono_l : ∀ k, (∀ y0 y1 y2, LeO (impl_NameOk.l0 k y0 y1 y2) (impl_NameOk.l0 (k + 1) y0 y1 y2))
 | 0 => fun _ _ _ r h => by simp [impl_NameOk.l0] at h
 | k + 1 => by
  have ih0 := impl_NameOk.mono_l k
  ·intro y0 y1 y2
   unfold impl_NameOk.l0
   exact mo_1
theorem impl_NameOk.mono : ∀ a0 k, LeO (impl_NameOk.f k a0) (impl_NameOk.f (k + 1) a0) := by
 intro a0 k
 have ih0 := impl_NameOk.mono_l k
 unfold impl_NameOk.f
 repeat' first
   | (with_reducible exact ih0 ..)
   | (with_reducible exact LeO.refl _)
   | (with_reducible exact LeO.none _)
   | (with_reducible refine LeO.ite ?_ ?_)
   | (with_reducible refine LeO.bind ?_ (fun _ => ?_))
   | exact ih0 ..
   | exact LeO.none _
   | refine LeO.ite ?_ ?_
   | refine LeO.bind ?_ (fun _ => ?_)
set_option maxHeartbeats 8000000 in
set_option maxRecDepth 100000 in
theorem impl_NameOk.calls (k : Nat) (a0 : ByteArray) (r : Bool) (w : World) (h : impl_NameOk.f k a0 = some r) :
  Calls Tryd.prog 25 #[.string a0] w fun e w' => e = .returned (.bool r) ∧ Drawn0 w w' := by
 unfold impl_NameOk.f at h
 have H := h
 clear h
 have H' := Aside0.mk H
 clear H
 go_enter Tryd.func25, Tryd.ntmps25
 go_wp2
 go_loopg [6] k (fun kq v6 w' => ∃ (x6_1 : Int), v6 = .int .i64 x6_1 ∧ Aside0 (impl_NameOk.l0 kq a0 (a0.size : Int) x6_1 = some r) ∧ Aside0 (kq ≤ k) ∧ Drawn0 w w')
 case atStart => exact ⟨(0), tq_4, H', ⟨Nat.le_refl _⟩, tq_11⟩
 case round =>
 clear H'
 obtain ⟨x6_1, rfl, HA, HK1, ⟨m1, rfl⟩⟩ := hrel
 cases gk with
 | zero => exact absurd HA.out (by simp [impl_NameOk.l0])
 | succ k1 =>
 have H := HA.out
 clear HA
 simp only [impl_NameOk.l0] at H
 by_cases c2 : x6_1 < (a0.size : Int)
 rotate_left
 ·rw [if_neg c2] at H
  have c2b0 := decide_eq_false c2
  clear c2
  obtain ⟨t238, A17, H⟩ := bd_ H
  obtain rfl := Option.some.inj H
  go_wp2_with (first | ((with_reducible refine gate_callee (f := 54) rfl ?_); refine goesL_ (some 35) rfl rfl Tryd.func54 (by kernel_rfl) rfl #[.int .i64 (a0.size : Int), .int .i64 1, .int .i64 7] rfl tq_0 ?_; (with_reducible refine (impl_within.calls (a0.size : Int) 1 7 t238 _ A17.out).mono ?_); rintro e w' ⟨rfl, ⟨nd, rfl⟩⟩; refine ⟨_, rfl, ?_⟩))
  go_ret
  exact ⟨tq_4, tq_11⟩
 rw [if_pos c2] at H
 have c2b0 := decide_eq_true c2
 clear c2
 obtain ⟨c3, H⟩ := fc_ H
 have c3b0 := decide_eq_true c3
 clear c3
 obtain ⟨c4, H⟩ := fc_ H
 have c4b0 := decide_eq_true c4
 clear c4
 by_cases c6 : (bt a0 x6_1) ≥ 97
 rotate_left
 ·rw [if_neg c6] at H
  have c6b0 := decide_eq_false c6
  clear c6
  by_cases c14 : (bt a0 x6_1) ≥ 48
  rotate_left
  ·rw [if_neg c14] at H
   have c14b0 := decide_eq_false c14
   clear c14
   obtain rfl := Option.some.inj H
   have p5 : 0 ≤ (x6_1 : Int) := of_decide_eq_true tq_1
   have q5 : x6_1 < (a0.size : Int) := of_decide_eq_true tq_1
   have hx5 := bt_at a0 x6_1
   replace p5 := eq_true p5
   replace q5 := eq_true q5
   have p13 : 0 ≤ (x6_1 : Int) := of_decide_eq_true tq_1
   have q13 : x6_1 < (a0.size : Int) := of_decide_eq_true tq_1
   have hx13 := bt_at a0 x6_1
   replace p13 := eq_true p13
   replace q13 := eq_true q13
   go_wp2
   go_ret
   exact ⟨tq_4, tq_11⟩
  rw [if_pos c14] at H
  have c14b0 := decide_eq_true c14
  clear c14
  by_cases c16 : ((bt a0 x6_1) ≤ 57)
  rotate_left
  ·rw [if_neg c16] at H
   have c16b0 := decide_eq_false c16
   clear c16
   obtain rfl := Option.some.inj H
   have p5 : 0 ≤ (x6_1 : Int) := of_decide_eq_true tq_1
   have q5 : x6_1 < (a0.size : Int) := of_decide_eq_true tq_1
   have hx5 := bt_at a0 x6_1
   replace p5 := eq_true p5
   replace q5 := eq_true q5
   have p13 : 0 ≤ (x6_1 : Int) := of_decide_eq_true tq_1
   have q13 : x6_1 < (a0.size : Int) := of_decide_eq_true tq_1
   have hx13 := bt_at a0 x6_1
   replace p13 := eq_true p13
   replace q13 := eq_true q13
   have p15 : 0 ≤ (x6_1 : Int) := of_decide_eq_true tq_1
   have q15 : x6_1 < (a0.size : Int) := of_decide_eq_true tq_1
   have hx15 := bt_at a0 x6_1
   replace p15 := eq_true p15
   replace q15 := eq_true q15
   go_wp2
   go_ret
   exact ⟨tq_4, tq_11⟩
  rw [if_pos c16] at H
  have c16b0 := decide_eq_true c16
  clear c16
  have H' := Aside0.mk H
  clear H
  have p5 : 0 ≤ (x6_1 : Int) := of_decide_eq_true tq_1
  have q5 : x6_1 < (a0.size : Int) := of_decide_eq_true tq_1
  have hx5 := bt_at a0 x6_1
  replace p5 := eq_true p5
  replace q5 := eq_true q5
  have p13 : 0 ≤ (x6_1 : Int) := of_decide_eq_true tq_1
  have q13 : x6_1 < (a0.size : Int) := of_decide_eq_true tq_1
  have hx13 := bt_at a0 x6_1
  replace p13 := eq_true p13
  replace q13 := eq_true q13
  have p15 : 0 ≤ (x6_1 : Int) := of_decide_eq_true tq_1
  have q15 : x6_1 < (a0.size : Int) := of_decide_eq_true tq_1
  have hx15 := bt_at a0 x6_1
  replace p15 := eq_true p15
  replace q15 := eq_true q15
  go_wp2
  go_roundg k1
  case measure => have := HK1.out; omega
  case rel => exact ⟨(wrap64 (x6_1 + 1)), tq_4, H', ⟨tq_56⟩, tq_11⟩
 rw [if_pos c6] at H
 have c6b0 := decide_eq_true c6
 clear c6
 by_cases c8 : (bt a0 x6_1) ≤ 122
 ·rw [if_pos c8] at H
  have c8b0 := decide_eq_true c8
  clear c8
  have H' := Aside0.mk H
  clear H
  have p5 : 0 ≤ (x6_1 : Int) := of_decide_eq_true tq_1
  have q5 : x6_1 < (a0.size : Int) := of_decide_eq_true tq_1
  have hx5 := bt_at a0 x6_1
  replace p5 := eq_true p5
  replace q5 := eq_true q5
  have p7 : 0 ≤ (x6_1 : Int) := of_decide_eq_true tq_1
  have q7 : x6_1 < (a0.size : Int) := of_decide_eq_true tq_1
  have hx7 := bt_at a0 x6_1
  replace p7 := eq_true p7
  replace q7 := eq_true q7
  go_wp2
  go_roundg k1
  case measure => have := HK1.out; omega
  case rel => exact ⟨(wrap64 (x6_1 + 1)), tq_4, H', ⟨tq_56⟩, tq_11⟩
 rw [if_neg c8] at H
 have c8b0 := decide_eq_false c8
 clear c8
 by_cases c10 : (bt a0 x6_1) ≥ 48
 rotate_left
 ·rw [if_neg c10] at H
  have c10b0 := decide_eq_false c10
  clear c10
  obtain rfl := Option.some.inj H
  have p5 : 0 ≤ (x6_1 : Int) := of_decide_eq_true tq_1
  have q5 : x6_1 < (a0.size : Int) := of_decide_eq_true tq_1
  have hx5 := bt_at a0 x6_1
  replace p5 := eq_true p5
  replace q5 := eq_true q5
  have p7 : 0 ≤ (x6_1 : Int) := of_decide_eq_true tq_1
  have q7 : x6_1 < (a0.size : Int) := of_decide_eq_true tq_1
  have hx7 := bt_at a0 x6_1
  replace p7 := eq_true p7
  replace q7 := eq_true q7
  have p9 : 0 ≤ (x6_1 : Int) := of_decide_eq_true tq_1
  have q9 : x6_1 < (a0.size : Int) := of_decide_eq_true tq_1
  have hx9 := bt_at a0 x6_1
  replace p9 := eq_true p9
  replace q9 := eq_true q9
  go_wp2
  go_ret
  exact ⟨tq_4, tq_11⟩
 rw [if_pos c10] at H
 have c10b0 := decide_eq_true c10
 clear c10
 by_cases c12 : ((bt a0 x6_1) ≤ 57)
 rotate_left
 ·rw [if_neg c12] at H
  have c12b0 := decide_eq_false c12
  clear c12
  obtain rfl := Option.some.inj H
  have p5 : 0 ≤ (x6_1 : Int) := of_decide_eq_true tq_1
  have q5 : x6_1 < (a0.size : Int) := of_decide_eq_true tq_1
  have hx5 := bt_at a0 x6_1
  replace p5 := eq_true p5
  replace q5 := eq_true q5
  have p7 : 0 ≤ (x6_1 : Int) := of_decide_eq_true tq_1
  have q7 : x6_1 < (a0.size : Int) := of_decide_eq_true tq_1
  have hx7 := bt_at a0 x6_1
  replace p7 := eq_true p7
  replace q7 := eq_true q7
  have p9 : 0 ≤ (x6_1 : Int) := of_decide_eq_true tq_1
  have q9 : x6_1 < (a0.size : Int) := of_decide_eq_true tq_1
  have hx9 := bt_at a0 x6_1
  replace p9 := eq_true p9
  replace q9 := eq_true q9
  have p11 : 0 ≤ (x6_1 : Int) := of_decide_eq_true tq_1
  have q11 : x6_1 < (a0.size : Int) := of_decide_eq_true tq_1
  have hx11 := bt_at a0 x6_1
  replace p11 := eq_true p11
  replace q11 := eq_true q11
  go_wp2
  go_ret
  exact ⟨tq_4, tq_11⟩
 rw [if_pos c12] at H
 have c12b0 := decide_eq_true c12
 clear c12
 have H' := Aside0.mk H
 clear H
 have p5 : 0 ≤ (x6_1 : Int) := of_decide_eq_true tq_1
 have q5 : x6_1 < (a0.size : Int) := of_decide_eq_true tq_1
 have hx5 := bt_at a0 x6_1
 replace p5 := eq_true p5
 replace q5 := eq_true q5
 have p7 : 0 ≤ (x6_1 : Int) := of_decide_eq_true tq_1
 have q7 : x6_1 < (a0.size : Int) := of_decide_eq_true tq_1
 have hx7 := bt_at a0 x6_1
 replace p7 := eq_true p7
 replace q7 := eq_true q7
 have p9 : 0 ≤ (x6_1 : Int) := of_decide_eq_true tq_1
 have q9 : x6_1 < (a0.size : Int) := of_decide_eq_true tq_1
 have hx9 := bt_at a0 x6_1
 replace p9 := eq_true p9
 replace q9 := eq_true q9
 have p11 : 0 ≤ (x6_1 : Int) := of_decide_eq_true tq_1
 have q11 : x6_1 < (a0.size : Int) := of_decide_eq_true tq_1
 have hx11 := bt_at a0 x6_1
 replace p11 := eq_true p11
 replace q11 := eq_true q11
 go_wp2
 go_roundg k1
 case measure => have := HK1.out; omega
 case rel => exact ⟨(wrap64 (x6_1 + 1)), tq_4, H', ⟨tq_56⟩, tq_11⟩

/-! ### strings_Repeat: function 86 -/
def strings_Repeat.f (a0 : ByteArray) (a1 : Int) : Option (ByteArray) := if 0 ≤ a1 ∧ a1 ≤ 9223372036854775807 ∧ a0.size * a1.toNat ≤ 140737488355328 then some ⟨(Lib.repeatL a0.data.toList a1.toNat).toArray⟩ else none
theorem strings_Repeat.calls (a0 : ByteArray) (a1 : Int) (r : ByteArray) (w : World) (h : strings_Repeat.f a0 a1 = some r) :
  Calls Tryd.prog 86 #[.string a0, .int .i64 a1] w fun e w' => e = .returned (.string r) ∧ Below w.heap.size w w' := by
 unfold strings_Repeat.f at h
 split at h
 case isFalse => cases h
 case isTrue hc =>
  obtain ⟨h0, h1, h2⟩ := hc
  obtain ⟨c, rfl⟩ := Int.eq_ofNat_of_zero_le h0
  obtain rfl := Option.some.inj h
  exact Tryd.strings_Repeat a0 c w (by omega) h2

/-! ### impl_padded: function 69 -/
def impl_padded.f (a0 : ByteArray) (a1 : Int) : Option (ByteArray) := (strings_Repeat.f (⟨#[0]⟩ : ByteArray) (mx 0 (wrap64 (a1 - (a0.size : Int))))).bind fun t239 => (if a0.size + t239.size ≤ 9223372036854775807 then (some (a0 ++ t239)) else (none))
set_option maxHeartbeats 8000000 in
set_option maxRecDepth 100000 in
theorem impl_padded.calls (a0 : ByteArray) (a1 : Int) (r : ByteArray) (w : World) (h : impl_padded.f a0 a1 = some r) :
  Calls Tryd.prog 69 #[.string a0, .int .i64 a1] w fun e w' => e = .returned (.string r) ∧ Below w.heap.size w w' := by
 have HB := Aside0.mk (Below.refl w.heap.size w)
 unfold impl_padded.f at h
 have H := h
 clear h
 obtain ⟨ji3, hji3⟩ : ∃ j_ : Int, (mx 0 (wrap64 (a1 - (a0.size : Int)))) = j_ := ⟨_, rfl⟩
 replace H : ((strings_Repeat.f (⟨#[0]⟩ : ByteArray) (ji3)).bind fun t239 => (if a0.size + t239.size ≤ 9223372036854775807 then (some (a0 ++ t239)) else (none))) = some r := by first | (rw [hji3] at H; exact H) | (simp only [hji3] at H ⊢; exact H)
 (try (have hji3l : 0 ≤ ji3 := by (rw [← hji3]; unfold mx; (repeat' split) <;> omega)))
 (try (have hji3m : 0 ≤ ji3 := by omega))
 have hji3_ : (if 0 < (wrap64 (a1 - (a0.size : Int))) then (wrap64 (a1 - (a0.size : Int))) else 0) = ji3 := hji3
 obtain ⟨t239, A4, H⟩ := bd_ H
 obtain ⟨c5, H⟩ := fc_ H
 have c5b0 := eq_true c5
 have c5b1 := decide_eq_true c5
 try have c5b2 : (9223372036854775807 < a0.size + t239.size) = False := eq_false (Nat.not_lt.2 c5)
 obtain rfl := Option.some.inj H
 go_enter Tryd.func69, Tryd.ntmps69
 go_wp2_with (first | ((with_reducible refine gate_callee (f := 86) rfl ?_); refine goesL_ (some 11) rfl rfl Tryd.func86 (by kernel_rfl) rfl #[.string (⟨#[0]⟩ : ByteArray), .int .i64 ji3] rfl (by (try simp only [List.map_toArray, List.map_cons, List.map_nil]); first | done | (simp only [hji3]; rfl) | rfl | (simp only [List.length_drop, List.length_take]; rfl)) ?_; (with_reducible refine (strings_Repeat.calls (⟨#[0]⟩ : ByteArray) ji3 t239 _ A4.out).mono ?_); rintro e w6 ⟨rfl, hb⟩; refine ⟨_, rfl, ?_⟩; have n0_ := Aside0.mk (below_step th_ hb); clear HB; have HB := n0_; clear n0_; (try clear hb)))
 go_ret
 exact ⟨(by first | rfl | (simp [errW_none, errW_some] <;> rfl) | (simp only [← hji3]; first | rfl | (simp [errW_none, errW_some] <;> rfl)) | (simp [*, errW_none, errW_some] <;> rfl)), th_⟩

/-! ### impl_WordText: function 59 -/
def impl_WordText.f (a0 : ByteArray) : Option (ByteArray) := if (a0.size : Int) > 8 then (some (⟨#[]⟩ : ByteArray)) else ((impl_padded.f a0 8).bind fun t240 => (some t240))
set_option maxHeartbeats 8000000 in
set_option maxRecDepth 100000 in
theorem impl_WordText.calls (a0 : ByteArray) (r : ByteArray) (w : World) (h : impl_WordText.f a0 = some r) :
  Calls Tryd.prog 59 #[.string a0] w fun e w' => e = .returned (.string r) ∧ Below w.heap.size w w' := by
 have HB := Aside0.mk (Below.refl w.heap.size w)
 unfold impl_WordText.f at h
 have H := h
 clear h
 by_cases c2 : (a0.size : Int) > 8
 ·rw [if_pos c2] at H
  have c2b0 := decide_eq_true c2
  have c2b1 : decide (8 < a0.size) = true := decide_eq_true (by omega)
  clear c2
  obtain rfl := Option.some.inj H
  go_enter Tryd.func59, Tryd.ntmps59
  go_wp2
  go_ret
  exact ⟨tq_2, th_⟩
 rw [if_neg c2] at H
 have c2b0 := decide_eq_false c2
 have c2b1 : decide (8 < a0.size) = false := decide_eq_false (by omega)
 clear c2
 obtain ⟨t240, A3, H⟩ := bd_ H
 obtain rfl := Option.some.inj H
 go_enter Tryd.func59, Tryd.ntmps59
 go_wp2_with (first | ((with_reducible refine gate_callee (f := 69) rfl ?_); refine goesL_ (some 7) rfl rfl Tryd.func69 (by kernel_rfl) rfl #[.string a0, .int .i64 8] rfl tq_0 ?_; (with_reducible refine (impl_padded.calls a0 8 t240 _ A3.out).mono ?_); rintro e w4 ⟨rfl, hb⟩; refine ⟨_, rfl, ?_⟩; have n0_ := Aside0.mk (below_step th_ hb); clear HB; have HB := n0_; clear n0_; (try clear hb)))
 go_ret
 exact ⟨tq_2, th_⟩

/-! ### impl_EntryWord: function 24 -/
def impl_EntryWord.j0 : Nat → Bool → Int → ByteArray → Option (ByteArray)
 | 0, _, _, _ => none
 | k + 1, x12, x242000, x242001 => if x12 = true then (some (⟨#[]⟩ : ByteArray)) else ((impl_NumText.f k x242000 1).bind fun t244 => (if t244.size + x242001.size ≤ 9223372036854775807 then ((impl_WordText.f (t244 ++ x242001)).bind fun t245 => (some t245)) else (none)))
def impl_EntryWord.f (k : Nat) (a0_0 : Int) (a0_1 : ByteArray) : Option (ByteArray) := (impl_within.f a0_0 1 5).bind fun t242 => (if t242 = true then ((impl_NameOk.f k a0_1).bind fun t243 => (impl_EntryWord.j0 k (!t243) a0_0 a0_1)) else (impl_EntryWord.j0 k true a0_0 a0_1))
theorem impl_EntryWord.mono_l : ∀ k, (∀ y0 y1 y2, LeO (impl_EntryWord.j0 k y0 y1 y2) (impl_EntryWord.j0 (k + 1) y0 y1 y2))
 | 0 => fun _ _ _ r h => by simp [impl_EntryWord.j0] at h
 | k + 1 => by
  have ih0 := impl_EntryWord.mono_l k
  ·intro y0 y1 y2
   unfold impl_EntryWord.j0
   repeat' first
   | (with_reducible exact ih0 ..)
   | (with_reducible exact impl_NameOk.mono ..)
   | (with_reducible exact impl_NumText.mono ..)
   | (with_reducible exact LeO.refl _)
   | (with_reducible exact LeO.none _)
   | (with_reducible refine LeO.ite ?_ ?_)
   | (with_reducible refine LeO.bind ?_ (fun _ => ?_))
   | exact ih0 ..
   | exact impl_NameOk.mono ..
   | exact impl_NumText.mono ..
   | exact LeO.none _
   | refine LeO.ite ?_ ?_
   | refine LeO.bind ?_ (fun _ => ?_)
theorem impl_EntryWord.mono : ∀ a0 a1 k, LeO (impl_EntryWord.f k a0 a1) (impl_EntryWord.f (k + 1) a0 a1) := by
 intro a0 a1 k
 have ih0 := impl_EntryWord.mono_l k
 unfold impl_EntryWord.f
 repeat' first
   | (with_reducible exact ih0 ..)
   | (with_reducible exact impl_NameOk.mono ..)
   | (with_reducible exact impl_NumText.mono ..)
   | (with_reducible exact LeO.refl _)
   | (with_reducible exact LeO.none _)
   | (with_reducible refine LeO.ite ?_ ?_)
   | (with_reducible refine LeO.bind ?_ (fun _ => ?_))
   | exact ih0 ..
   | exact impl_NameOk.mono ..
   | exact impl_NumText.mono ..
   | exact LeO.none _
   | refine LeO.ite ?_ ?_
   | refine LeO.bind ?_ (fun _ => ?_)
def impl_EntryWord.T3 : Bool × List (List Nat × List Nat) := (true, [([], []), ([0], [0]), ([1], [1]), ([], []), ([3], [3]), ([2, 4], [2, 4]), ([5, 2], [5]), ([6, 6, 0, 1, 2, 3, 4, 5, 6], [6])])
def impl_EntryWord.B3 : List Nat := [0, 1, 3, 0, 8, 31, 63, 127]
theorem impl_EntryWord.tab3 : rtab .any (opsOf Tryd.f24 3) = impl_EntryWord.T3 := by kernel_rfl
theorem impl_EntryWord.bits3 : waitsOk impl_EntryWord.T3.2 impl_EntryWord.B3 = true := by kernel_rfl
set_option maxHeartbeats 8000000 in
set_option maxRecDepth 100000 in
theorem impl_EntryWord.calls (k : Nat) (a0_0 : Int) (a0_1 : ByteArray) (r : ByteArray) (w : World) (h : impl_EntryWord.f k a0_0 a0_1 = some r) :
  Calls Tryd.prog 24 #[.agg #[.int .i64 a0_0, .string a0_1]] w fun e w' => e = .returned (.string r) ∧ Below w.heap.size w w' := by
 have hu47 := Tryd.underlying47
 have HB := Aside0.mk (Below.refl w.heap.size w)
 unfold impl_EntryWord.f at h
 have H := h
 clear h
 have HC2 := Aside0.mk H
 clear H
 go_enter Tryd.func24, Tryd.ntmps24
 go_upto_region 1 with (first | ((with_reducible refine gate_dst (N := 1) rfl ?_); refine be_ 1 (cs := #[.int .i64 a0_0, .string a0_1]) 47 ?_; intro gb241 hg w3 hbox hb; have z_ := bx0_ th_ hb hbox hg; clear HB; obtain ⟨HB, BK241, GW241, GE241⟩ := z_; clear hb hbox hg))
 (try simp only [Act.put, List.setIfInBounds_toArray, List.set_cons_zero, List.set_cons_succ])
 go_cut [12] (fun v12 wc => ∃ (kq : Nat) (x12_1 : Bool), v12 = .bool x12_1 ∧ Aside0 (impl_EntryWord.j0 kq x12_1 a0_0 a0_1 = some r) ∧ Aside0 (kq ≤ k) ∧ Aside0 (wc.heap[gb241]? = some (.cells #[.int .i64 a0_0, .string a0_1] 47 (0, 0))) ∧ Aside0 (Below w.heap.size w wc))
 case first =>
  have H := HC2.out
  clear HC2
  obtain ⟨t242, A4, H⟩ := bd_ H
  by_cases c5 : t242 = true
  rotate_left
  ·replace c5 := Bool.eq_false_iff.mpr c5
   subst c5
   rw [if_neg nf_] at H
   have H' := Aside0.mk H
   clear H
   obtain ⟨hcz8_0, hcz8_1⟩ := bk2_ BK241.out
   obtain ⟨hfz8_0, hfz8_1⟩ := bf2_ BK241.out
   go_wp2_with (first | ((with_reducible refine gate_callee (f := 54) rfl ?_); refine goesL_ (some 5) rfl rfl Tryd.func54 (by kernel_rfl) rfl #[.int .i64 a0_0, .int .i64 1, .int .i64 5] rfl tq_0 ?_; (with_reducible refine (impl_within.calls a0_0 1 5 false _ A4.out).mono ?_); rintro e w' ⟨rfl, ⟨nd, rfl⟩⟩; refine ⟨_, rfl, ?_⟩))
   go_meet
   case rel => exact ⟨_, (true), tq_4, H', ⟨tq_26⟩, ⟨(kb_ BK241)⟩, ⟨th_⟩⟩
  subst c5
  rw [if_pos rfl] at H
  obtain ⟨t243, A6, H⟩ := bd_ H
  have H' := Aside0.mk H
  clear H
  obtain ⟨hcz7_0, hcz7_1⟩ := bk2_ BK241.out
  obtain ⟨hfz7_0, hfz7_1⟩ := bf2_ BK241.out
  go_wp2_with (first | ((with_reducible refine gate_callee (f := 54) rfl ?_); refine goesL_ (some 5) rfl rfl Tryd.func54 (by kernel_rfl) rfl #[.int .i64 a0_0, .int .i64 1, .int .i64 5] rfl tq_0 ?_; (with_reducible refine (impl_within.calls a0_0 1 5 true _ A4.out).mono ?_); rintro e w' ⟨rfl, ⟨nd, rfl⟩⟩; refine ⟨_, rfl, ?_⟩) | (go_at_call 25; (with_reducible refine (impl_NameOk.calls k a0_1 t243 _ A6.out).mono ?_); rintro e w' ⟨rfl, ⟨nd, rfl⟩⟩))
  go_meet
  case rel => exact ⟨_, (!t243), tq_4, H', ⟨tq_26⟩, ⟨(kb_ BK241)⟩, ⟨th_⟩⟩
 case rest =>
 clear HC2
 try clear c2; try clear p2; try clear c5; try clear hcz7_0 hcz7_1; try clear hcz8_0 hcz8_1; try clear hfz7_0 hfz7_1; try clear hfz8_0 hfz8_1
 obtain ⟨kq, x12_1, rfl, HA, HJ1, BK241, HB⟩ := hcut
 cases kq with
 | zero => exact absurd HA.out (by simp [impl_EntryWord.j0])
 | succ kj1 =>
 have H := HA.out
 clear HA
 simp only [impl_EntryWord.j0] at H
 by_cases c9 : x12_1 = true
 ·subst c9
  rw [if_pos rfl] at H
  obtain rfl := Option.some.inj H
  go_wp2
  go_ret
  exact ⟨tq_2, th_⟩
 replace c9 := Bool.eq_false_iff.mpr c9
 subst c9
 rw [if_neg nf_] at H
 obtain ⟨t244, A10, H⟩ := bd_ H
 obtain ⟨c11, H⟩ := fc_ H
 have c11b0 := eq_true c11
 have c11b1 := decide_eq_true c11
 try have c11b2 : (9223372036854775807 < t244.size + a0_1.size) = False := eq_false (Nat.not_lt.2 c11)
 obtain ⟨t245, A12, H⟩ := bd_ H
 obtain rfl := Option.some.inj H
 try go_wp2
 have z_ := dw1_ BK241 HB
 clear BK241 HB
 obtain ⟨BK241, HB⟩ := z_
 refine start_ (n := 8) (S := fun w' => w'.cell? ⟨gb241, 0, none⟩ = some (.int .i64 a0_0) ∧ w'.cell? ⟨gb241, 1, none⟩ = some (.string a0_1)) (ds := []) bq_82 (by kernel_rfl) rfl rfl (bk2_ BK241.out) (fun hHeld => ?_); refine with_tabW impl_EntryWord.tab3 impl_EntryWord.bits3 (fun HT_ HW_ => ?_)
 generalize wc.drew = w13 at BK241 HB hHeld ⊢
 refine yr_ 0 13 bq_83 HT_ ?_
 refine yr_ 3 16 bq_84 HT_ ?_
 refine tr_ 1 14 bq_85 HT_ HW_ hHeld ?_
 refine tr_ 4 17 bq_86 HT_ HW_ hHeld ?_
 refine one_ (i := 2) (N := some 15) #[true, true, true, true, true, false, false, false] rfl rfl (one_of HT_.out (by kernel_rfl)) (by decide) (fun K hK => ?_)
 refine goes_ Tryd.func57 (by kernel_rfl) rfl #[.int .i64 a0_0, .int .i64 1] (by rfl) rfl rfl tq_0 ?_
 with_reducible refine (impl_NumText.calls kj1 a0_0 1 t244 _ A10.out).mono ?_
 rintro e w14 ⟨rfl, hb⟩
 refine ⟨_, rfl, ?_⟩
 have z_ := bw1_ (kb_ BK241) th_ hb
 clear BK241 HB
 obtain ⟨BK241, HB⟩ := z_
 (try clear hb)
 refine hK.out _ _ (bk2_ BK241.out) (fun hHeld => ?_)
 clear hK K
 refine nm_ (some 15) ?_
 refine yr_ 5 18 #[true, true, true, true, true, true, false, false] HT_ ?_
 refine one_ (i := 6) (N := some 19) #[true, true, true, true, true, true, true, false] rfl rfl (one_of HT_.out (by kernel_rfl)) (by decide) (fun K hK => ?_)
 refine goes_ Tryd.func59 (by kernel_rfl) rfl #[.string (t244 ++ a0_1)] (by rfl) rfl rfl tq_0 ?_
 with_reducible refine (impl_WordText.calls (t244 ++ a0_1) t245 _ A12.out).mono ?_
 rintro e w15 ⟨rfl, hb⟩
 refine ⟨_, rfl, ?_⟩
 have z_ := bw1_ (kb_ BK241) th_ hb
 clear BK241 HB
 obtain ⟨BK241, HB⟩ := z_
 (try clear hb)
 refine hK.out _ _ (bk2_ BK241.out) (fun hHeld => ?_)
 clear hK K
 refine nm_ (some 19) ?_
 refine yr_ 7 2 #[true, true, true, true, true, true, true, true] HT_ ?_
 refine done_ (done_of HT_.out (by kernel_rfl)) ?_
 try go_wp2
 go_ret
 exact ⟨tq_2, th_⟩

end Go.Proofs.YtjfhddenmnjgbaaDoor.PFnAnyInode
