/- Contracts of Go functions, written by a program of ours over the print of the kit: each says that the call returns what the Lean function beside it computes. Conditions: as each theorem states them. -/
import Derived.Test.YtjfhddenmnjgbaaDoorPkFnAnyInode
import Derived.Test.YtjfhddenmnjgbaaDoorPFnAnyInodex0
import Derived.Test.YtjfhddenmnjgbaaDoorPFnAnyInodex12
import Derived.Test.YtjfhddenmnjgbaaDoorPFnAnyInodex13
import Derived.Test.YtjfhddenmnjgbaaDoorPFnAnyInodex14
namespace Go.Proofs.YtjfhddenmnjgbaaDoor.PFnAnyInode
open Go.RowKit Go.Proofs.YtjfhddenmnjgbaaDoorW.PrintWords Go.Proofs.YtjfhddenmnjgbaaDoorW.PrintLast Go.Proofs.YtjfhddenmnjgbaaDoorW.PrintMore
attribute [local go_sem] max2_int min2_int max_two min_two max_three min_three max_four min_four setCell_drewN   -- for this text's walks alone
set_option linter.unusedVariables false
set_option linter.unusedSimpArgs false

/-! ### impl_ReadInode: function 9 -/
mutual
def impl_ReadInode.j0 : Nat → List ByteArray → Bool → Option (Int × Int × Int × ByteArray × (List (S42)) × (List (S47)) × Bool)
 | 0, _, _ => none
 | k + 1, x0, x17 => if x17 = true then (some (0, 0, 0, (⟨#[]⟩ : ByteArray), ([] : List (S42)), ([] : List (S47)), false)) else (if 0 < (x0.length : Int) then ((impl_NumAt.f k (rdOf ByteArray.empty x0 0) 0 1).bind fun bt302 => ((impl_NumAt.f k (rdOf ByteArray.empty x0 0) 1 2).bind fun bt305 => ((impl_NumAt.f k (rdOf ByteArray.empty x0 0) 3 2).bind fun bt308 => (if bt302.1 = 1 then (if 1 < (x0.length : Int) then (impl_ReadInode.j1 k x0 bt302.1 bt305.1 bt308.1 (rdOf ByteArray.empty x0 1)) else (none)) else (impl_ReadInode.j1 k x0 bt302.1 bt305.1 bt308.1 (⟨#[]⟩ : ByteArray)))))) else (none))
def impl_ReadInode.j1 : Nat → List ByteArray → Int → Int → Int → ByteArray → Option (Int × Int × Int × ByteArray × (List (S42)) × (List (S47)) × Bool)
 | 0, _, _, _, _, _ => none
 | k + 1, x0, x301000, x301001, x301002, x301003 => if 2 ≤ (x0.length : Int) then (impl_ReadInode.l0 k x0 (x0.drop 2) ((x0.drop 2).length : Int) 0 x301000 x301001 x301002 x301003 ([] : List (S42)) ([] : List (S47))) else (none)
def impl_ReadInode.j4 : Nat → List ByteArray → Int → Int → Int → ByteArray → List (S42) → List (S47) → Option (Int × Int × Int × ByteArray × (List (S42)) × (List (S47)) × Bool)
 | 0, _, _, _, _, _, _, _ => none
 | k + 1, x0, x301000, x301001, x301002, x301003, x301004, x301005 => (impl_InodeOk.f k x301000 x301001 x301002 x301003 x301004 x301005).bind fun t329 => (if t329 = true then ((impl_inodeText.f k x301000 x301001 x301002 x301003 x301004 x301005).bind fun t330 => ((slices_Equal_string.f k t330 x0).bind fun t333 => (if t333 = true then (some (x301000, x301001, x301002, x301003, x301004, x301005, true)) else (some (0, 0, 0, (⟨#[]⟩ : ByteArray), ([] : List (S42)), ([] : List (S47)), false))))) else (some (0, 0, 0, (⟨#[]⟩ : ByteArray), ([] : List (S42)), ([] : List (S47)), false)))
def impl_ReadInode.l0 : Nat → List ByteArray → List ByteArray → Int → Int → Int → Int → Int → ByteArray → List (S42) → List (S47) → Option (Int × Int × Int × ByteArray × (List (S42)) × (List (S47)) × Bool)
 | 0, _, _, _, _, _, _, _, _, _, _ => none
 | k + 1, x0, x52, x53, x54, x301000, x301001, x301002, x301003, x301004, x301005 => if x54 < x53 then (if 0 ≤ x54 then (if x54 < (x52.length : Int) then ((impl_zeroWord.f).bind fun t313 => (if (rdOf ByteArray.empty x52 x54).toList = t313.toList then (impl_ReadInode.j4 k x0 x301000 x301001 x301002 x301003 x301004 x301005) else ((impl_ReadRec.f k (rdOf ByteArray.empty x52 x54)).bind fun bt314 => ((impl_ReadEntry.f k (rdOf ByteArray.empty x52 x54)).bind fun bt319 => (if x301000 = 1 then (impl_ReadInode.j3 k x0 bt319.2.2 x52 x53 x54 bt314.2.2.2 x301000 x301001 x301002 x301003 x301004 x301005 bt314.1 bt314.2.1 bt314.2.2.1 bt319.1 bt319.2.1) else (impl_ReadInode.j3 k x0 bt319.2.2 x52 x53 x54 false x301000 x301001 x301002 x301003 x301004 x301005 bt314.1 bt314.2.1 bt314.2.2.1 bt319.1 bt319.2.1)))))) else (none)) else (none)) else (impl_ReadInode.j4 k x0 x301000 x301001 x301002 x301003 x301004 x301005)
def impl_ReadInode.j3 : Nat → List ByteArray → Bool → List ByteArray → Int → Int → Bool → Int → Int → Int → ByteArray → List (S42) → List (S47) → Int → Int → ByteArray → Int → ByteArray → Option (Int × Int × Int × ByteArray × (List (S42)) × (List (S47)) × Bool)
 | 0, _, _, _, _, _, _, _, _, _, _, _, _, _, _, _, _, _ => none
 | k + 1, x0, x10, x52, x53, x54, x72, x301000, x301001, x301002, x301003, x301004, x301005, x319000, x319001, x319002, x323000, x323001 => if x72 = true then (if x301004.length < 4398046511104 then (impl_ReadInode.l0 k x0 x52 x53 (wrap64 (x54 + 1)) x301000 x301001 x301002 x301003 (x301004 ++ [(⟨x319000, x319001, x319002⟩ : S42)]) x301005) else (none)) else (if x301000 = 2 then (if x10 = true then (if x301005.length < 5864062014805 then (impl_ReadInode.l0 k x0 x52 x53 (wrap64 (x54 + 1)) x301000 x301001 x301002 x301003 x301004 (x301005 ++ [(⟨x323000, x323001⟩ : S47)])) else (none)) else (some (0, 0, 0, (⟨#[]⟩ : ByteArray), ([] : List (S42)), ([] : List (S47)), false))) else (some (0, 0, 0, (⟨#[]⟩ : ByteArray), ([] : List (S42)), ([] : List (S47)), false)))
end
def impl_ReadInode.f (k : Nat) (l0 : List ByteArray) : Option (Int × Int × Int × ByteArray × (List (S42)) × (List (S47)) × Bool) := if (l0.length : Int) = 8 then ((slices_ContainsFunc_string.f k l0 ()).bind fun t299 => (impl_ReadInode.j0 k l0 t299)) else (impl_ReadInode.j0 k l0 true)
theorem impl_ReadInode.mono_l : ∀ k, (∀ y0 y1, LeO (impl_ReadInode.j0 k y0 y1) (impl_ReadInode.j0 (k + 1) y0 y1)) ∧ (∀ y0 y1 y2 y3 y4, LeO (impl_ReadInode.j1 k y0 y1 y2 y3 y4) (impl_ReadInode.j1 (k + 1) y0 y1 y2 y3 y4)) ∧ (∀ y0 y1 y2 y3 y4 y5 y6, LeO (impl_ReadInode.j4 k y0 y1 y2 y3 y4 y5 y6) (impl_ReadInode.j4 (k + 1) y0 y1 y2 y3 y4 y5 y6)) ∧ (∀ y0 y1 y2 y3 y4 y5 y6 y7 y8 y9, LeO (impl_ReadInode.l0 k y0 y1 y2 y3 y4 y5 y6 y7 y8 y9) (impl_ReadInode.l0 (k + 1) y0 y1 y2 y3 y4 y5 y6 y7 y8 y9)) ∧ (∀ y0 y1 y2 y3 y4 y5 y6 y7 y8 y9 y10 y11 y12 y13 y14 y15 y16, LeO (impl_ReadInode.j3 k y0 y1 y2 y3 y4 y5 y6 y7 y8 y9 y10 y11 y12 y13 y14 y15 y16) (impl_ReadInode.j3 (k + 1) y0 y1 y2 y3 y4 y5 y6 y7 y8 y9 y10 y11 y12 y13 y14 y15 y16))
 | 0 => ⟨fun _ _ r h => by simp [impl_ReadInode.j0] at h, fun _ _ _ _ _ r h => by simp [impl_ReadInode.j1] at h, fun _ _ _ _ _ _ _ r h => by simp [impl_ReadInode.j4] at h, fun _ _ _ _ _ _ _ _ _ _ r h => by simp [impl_ReadInode.l0] at h, fun _ _ _ _ _ _ _ _ _ _ _ _ _ _ _ _ _ r h => by simp [impl_ReadInode.j3] at h⟩
 | k + 1 => by
  obtain ⟨ih0, ih1, ih2, ih3, ih4⟩ := impl_ReadInode.mono_l k
  refine ⟨?_, ?_, ?_, ?_, ?_⟩
  ·intro y0 y1
   unfold impl_ReadInode.j0
   exact mo_6
  ·intro y0 y1 y2 y3 y4
   unfold impl_ReadInode.j1
   exact mo_6
  ·intro y0 y1 y2 y3 y4 y5 y6
   unfold impl_ReadInode.j4
   exact mo_6
  ·intro y0 y1 y2 y3 y4 y5 y6 y7 y8 y9
   unfold impl_ReadInode.l0
   exact mo_6
  ·intro y0 y1 y2 y3 y4 y5 y6 y7 y8 y9 y10 y11 y12 y13 y14 y15 y16
   unfold impl_ReadInode.j3
   exact mo_6
theorem impl_ReadInode.mono : ∀ a0 k, LeO (impl_ReadInode.f k a0) (impl_ReadInode.f (k + 1) a0) := by
 intro a0 k
 obtain ⟨ih0, ih1, ih2, ih3, ih4⟩ := impl_ReadInode.mono_l k
 unfold impl_ReadInode.f
 repeat' first
   | (with_reducible exact ih0 ..)
   | (with_reducible exact ih1 ..)
   | (with_reducible exact ih2 ..)
   | (with_reducible exact ih3 ..)
   | (with_reducible exact ih4 ..)
   | (with_reducible exact impl_InodeOk.mono ..)
   | (with_reducible exact impl_NumAt.mono ..)
   | (with_reducible exact impl_ReadEntry.mono ..)
   | (with_reducible exact impl_ReadRec.mono ..)
   | (with_reducible exact impl_inodeText.mono ..)
   | (with_reducible exact slices_ContainsFunc_string.mono ..)
   | (with_reducible exact slices_Equal_string.mono ..)
   | (with_reducible exact LeO.refl _)
   | (with_reducible exact LeO.none _)
   | (with_reducible refine LeO.ite ?_ ?_)
   | (with_reducible refine LeO.bind ?_ (fun _ => ?_))
   | exact ih0 ..
   | exact ih1 ..
   | exact ih2 ..
   | exact ih3 ..
   | exact ih4 ..
   | exact impl_InodeOk.mono ..
   | exact impl_NumAt.mono ..
   | exact impl_ReadEntry.mono ..
   | exact impl_ReadRec.mono ..
   | exact impl_inodeText.mono ..
   | exact slices_ContainsFunc_string.mono ..
   | exact slices_Equal_string.mono ..
   | exact LeO.none _
   | refine LeO.ite ?_ ?_
   | refine LeO.bind ?_ (fun _ => ?_)
set_option maxHeartbeats 8000000 in
set_option maxRecDepth 100000 in
theorem impl_ReadInode.calls (k : Nat) (A0 : Option Addr) (c0 : Nat) (l0 : List ByteArray) (r1 : Int) (r2 : Int) (r3 : Int) (r4 : ByteArray) (r5 : List (S42)) (r6 : List (S47)) (r7 : Bool) (w : World) (hr0 : Kd.C Kd.string w A0 l0.length l0) (hc0 : l0.length ≤ c0) (h : impl_ReadInode.f k l0 = some (r1, r2, r3, r4, r5, r6, r7)) :
  Calls Tryd.prog 9 #[.slice A0 l0.length c0] w fun e w' => ∃ v4_ v5_ : Value, e = .returned (.tuple #[.agg #[.int .i64 r1, .int .i64 r2, .int .i64 r3, .string r4, v4_, v5_], .bool r7]) ∧ Kd.R k42 42 w' w.heap.size (fun _ => True) v4_ r5 ∧ Kd.R k47 47 w' w.heap.size (fun _ => True) v5_ r6 ∧ Below w.heap.size w w' := by
 have hu27 := Tryd.underlying27
 have hu42 := Tryd.underlying42
 have hu47 := Tryd.underlying47
 have HR0 := Aside0.mk hr0
 have HC0 := Aside0.mk hc0
 clear hr0 hc0
 have HB := Aside0.mk (Below.refl w.heap.size w)
 unfold impl_ReadInode.f at h
 have H := h
 clear h
 have HC2 := Aside0.mk H
 clear H
 go_enter Tryd.func9, Tryd.ntmps9
 go_upto_region 1 with (first | ((with_reducible refine gate_dst (N := 2) rfl ?_); refine be_ 2 (cs := #[.int .i64 0, .int .i64 0, .int .i64 0, .string (⟨#[]⟩ : ByteArray), .slice none 0 0, .slice none 0 0]) 27 ?_; intro gb298 hg w3 hbox hb; have z_ := bx0_ th_ hb hbox hg; clear HB; obtain ⟨HB, BK298, GW298, GE298⟩ := z_; clear hb hbox hg))
 (try simp only [Act.put, List.setIfInBounds_toArray, List.set_cons_zero, List.set_cons_succ])
 go_cut [17] (fun v17 wc => ∃ (kq : Nat) (x17_1 : Bool), v17 = .bool x17_1 ∧ Aside0 (impl_ReadInode.j0 kq l0 x17_1 = some (r1, r2, r3, r4, r5, r6, r7)) ∧ Aside0 (kq ≤ k) ∧ Aside0 (wc.heap[gb298]? = some (.cells #[.int .i64 0, .int .i64 0, .int .i64 0, .string (⟨#[]⟩ : ByteArray), (.slice none 0 0), (.slice none 0 0)] 27 (0, 0))) ∧ Aside0 (Below w.heap.size w wc))
 case first =>
  have H := HC2.out
  clear HC2
  by_cases c4 : (l0.length : Int) = 8
  rotate_left
  ·rw [if_neg c4] at H
   have c4b0 := beq_eq_false_iff_ne.mpr c4
   have c4b1 := bne_iff_ne.mpr c4
   (first | rw [c4b0] | (simp only [i64_w, i32_w]; rw [c4b0]) | skip)
   have H' := Aside0.mk H
   clear H
   go_wp2
   go_meet
   case rel => exact ⟨_, (true), tq_4, H', ⟨tq_26⟩, ⟨(kb_ BK298)⟩, ⟨th_⟩⟩
  rw [if_pos c4] at H
  have c4b0 := beq_iff_eq.mpr c4
  have c4b1 := bne_eq_false_iff_eq.mpr c4
  clear c4
  (first | rw [c4b0] | (simp only [i64_w, i32_w]; rw [c4b0]) | skip)
  obtain ⟨t299, A5, H⟩ := bd_ H
  have H' := Aside0.mk H
  clear H
  go_wp2_with (first | (go_at_call 35; (with_reducible refine (slices_ContainsFunc_string.calls k _ _ l0 () t299 _ ?side1 ?side2 A5.out).mono ?_); (case side1 => exact tq_35); (case side2 => exact HC0.out); rintro e w' ⟨rfl, ⟨nd, rfl⟩⟩))
  go_meet
  case rel => exact ⟨_, (t299), tq_4, H', ⟨tq_26⟩, ⟨(kb_ BK298)⟩, ⟨th_⟩⟩
 case rest =>
 clear HC2
 try clear p2; try clear c4; try clear c4b0; try clear c4b1
 obtain ⟨kq, x17_1, rfl, HA, HJ1, BK298, HB⟩ := hcut
 cases kq with
 | zero => exact absurd HA.out (by simp [impl_ReadInode.j0])
 | succ kj1 =>
 have H := HA.out
 clear HA
 simp only [impl_ReadInode.j0] at H
 by_cases c6 : x17_1 = true
 ·subst c6
  rw [if_pos rfl] at H
  simp only [Option.some.injEq, Prod.mk.injEq] at H
  obtain ⟨rfl, rfl, rfl, rfl, rfl, rfl, rfl⟩ := H
  obtain ⟨hcz7_0, hcz7_1, hcz7_2, hcz7_3, hcz7_4, hcz7_5⟩ := bk6_ BK298.out
  obtain ⟨hfz7_0, hfz7_1, hfz7_2, hfz7_3, hfz7_4, hfz7_5⟩ := bf6_ BK298.out
  go_wp2
  refine bodyPost_ret (results_ct rfl _ _ gb298 27 #[.int .i64 0, .int .i64 0, .int .i64 0, .string (⟨#[]⟩ : ByteArray), .slice none 0 0, .slice none 0 0] (0, 0) _ rfl tb_ Tryd.underlying27 rfl (by kernel_rfl)) rfl ?_
  exact ⟨_, _, tq_2, tq_10, tq_10, th_⟩
 replace c6 := Bool.eq_false_iff.mpr c6
 subst c6
 rw [if_neg nf_] at H
 obtain ⟨c8, H⟩ := fc_ H
 have c8b0 := decide_eq_true c8
 have c8b1 : decide (0 < l0.length) = true := decide_eq_true (by omega)
 clear c8
 obtain ⟨⟨t302, t303⟩, A9, H⟩ := bd_ H
 try dsimp -simprocs only at H
 obtain ⟨⟨t305, t306⟩, A10, H⟩ := bd_ H
 try dsimp -simprocs only at H
 obtain ⟨⟨t308, t309⟩, A11, H⟩ := bd_ H
 try dsimp -simprocs only at H
 have HC12 := Aside0.mk H
 clear H
 go_upto_if 46 with (first | ((with_reducible refine gate_dst (N := 4) rfl ?_); refine be_ 4 (cs := #[.int .i64 0, .int .i64 0, .int .i64 0, .string (⟨#[]⟩ : ByteArray), .slice none 0 0, .slice none 0 0]) 27 ?_; intro gb300 hg w13 hbox hb; have z_ := bx1_ (kb_ BK298) th_ hb hbox hg; clear BK298 HB; obtain ⟨BK298, HB, BK300, GW300, GE300, NB298_300, NB300_298⟩ := z_; clear hb hbox hg; obtain ⟨n300_298, n298_300⟩ := an2_ NB300_298 NB298_300; obtain ⟨hcz15_0, hcz15_1, hcz15_2, hcz15_3, hcz15_4, hcz15_5⟩ := bk6_ BK300.out; obtain ⟨hfz15_0, hfz15_1, hfz15_2, hfz15_3, hfz15_4, hfz15_5⟩ := bf6_ BK300.out; have p301 : 0 ≤ (0 : Int) := (by omega); have q301 : 0 < (l0.length : Int) := of_decide_eq_true tq_1; obtain ⟨ad301, e301, hx301_0⟩ := Kd.at_string HR0.out 0 p301 q301; cases e301; have qi301 : (0 < l0.length) = True := eq_true (by omega); (try rw [show ((0 : Int)).toNat = 0 from rfl] at hx301_0); (try rw [Addr.add_zero'] at hx301_0); have hn301_0 : ad301.block ≠ gb300 := Nat.ne_of_lt (Nat.lt_of_lt_of_le tq_57 GW300.out); have hn301_1 : ad301.block ≠ gb300 := Nat.ne_of_lt (Nat.lt_of_lt_of_le tq_57 GW300.out); have hn301_2 : ad301.block ≠ gb300 := Nat.ne_of_lt (Nat.lt_of_lt_of_le tq_57 GW300.out); have hn301_3 : ad301.block ≠ gb300 := Nat.ne_of_lt (Nat.lt_of_lt_of_le tq_57 GW300.out); have hn301_4 : ad301.block ≠ gb300 := Nat.ne_of_lt (Nat.lt_of_lt_of_le tq_57 GW300.out); have hn301_5 : ad301.block ≠ gb300 := Nat.ne_of_lt (Nat.lt_of_lt_of_le tq_57 GW300.out); replace hx301_0 := hx_ HB.out hx301_0; replace hx301_0 := (cell_far (p := ⟨gb300, 0, none⟩) (by first | (rw [add_block]; exact hn301_0) | (show (Addr.add _ _).block ≠ _; rw [add_block]; exact hn301_0) | exact hn301_0) (.int .i64 0)).trans hx301_0; replace hx301_0 := (cell_far (p := ⟨gb300, 1, none⟩) (by first | (rw [add_block]; exact hn301_1) | (show (Addr.add _ _).block ≠ _; rw [add_block]; exact hn301_1) | exact hn301_1) (.int .i64 0)).trans hx301_0; replace hx301_0 := (cell_far (p := ⟨gb300, 2, none⟩) (by first | (rw [add_block]; exact hn301_2) | (show (Addr.add _ _).block ≠ _; rw [add_block]; exact hn301_2) | exact hn301_2) (.int .i64 0)).trans hx301_0; replace hx301_0 := (cell_far (p := ⟨gb300, 3, none⟩) (by first | (rw [add_block]; exact hn301_3) | (show (Addr.add _ _).block ≠ _; rw [add_block]; exact hn301_3) | exact hn301_3) (.string (⟨#[]⟩ : ByteArray))).trans hx301_0; replace hx301_0 := (cell_far (p := ⟨gb300, 4, none⟩) (by first | (rw [add_block]; exact hn301_4) | (show (Addr.add _ _).block ≠ _; rw [add_block]; exact hn301_4) | exact hn301_4) (.slice none 0 0)).trans hx301_0; replace hx301_0 := (cell_far (p := ⟨gb300, 5, none⟩) (by first | (rw [add_block]; exact hn301_5) | (show (Addr.add _ _).block ≠ _; rw [add_block]; exact hn301_5) | exact hn301_5) (.slice none 0 0)).trans hx301_0; clear hn301_0 hn301_1 hn301_2 hn301_3 hn301_4 hn301_5; replace p301 := eq_true p301; replace q301 := eq_true q301) | ((with_reducible refine gate_callee (f := 37) rfl ?_); refine goesL_ (some 24) rfl rfl Tryd.func37 (by kernel_rfl) rfl #[.string (rdOf ByteArray.empty l0 0), .int .i64 0, .int .i64 1] rfl tq_0 ?_; (with_reducible refine (impl_NumAt.calls kj1 (rdOf ByteArray.empty l0 0) 0 1 t302 t303 _ A9.out).mono ?_); rintro e w' ⟨rfl, ⟨nd, rfl⟩⟩; refine ⟨_, rfl, ?_⟩; have p304 : 0 ≤ (0 : Int) := (by omega); have q304 : 0 < (l0.length : Int) := of_decide_eq_true tq_1; obtain ⟨ad304, e304, hx304_0⟩ := Kd.at_string HR0.out 0 p304 q304; obtain rfl : ad301 = ad304 := (by injection e304); have qi304 : (0 < l0.length) = True := eq_true (by omega); (try rw [show ((0 : Int)).toNat = 0 from rfl] at hx304_0); (try rw [Addr.add_zero'] at hx304_0); have hn304_0 : ad301.block ≠ gb300 := Nat.ne_of_lt (Nat.lt_of_lt_of_le tq_51 GW300.out); have hn304_1 : ad301.block ≠ gb300 := Nat.ne_of_lt (Nat.lt_of_lt_of_le tq_51 GW300.out); have hn304_2 : ad301.block ≠ gb300 := Nat.ne_of_lt (Nat.lt_of_lt_of_le tq_51 GW300.out); have hn304_3 : ad301.block ≠ gb300 := Nat.ne_of_lt (Nat.lt_of_lt_of_le tq_51 GW300.out); have hn304_4 : ad301.block ≠ gb300 := Nat.ne_of_lt (Nat.lt_of_lt_of_le tq_51 GW300.out); have hn304_5 : ad301.block ≠ gb300 := Nat.ne_of_lt (Nat.lt_of_lt_of_le tq_51 GW300.out); have hn304_6 : ad301.block ≠ gb300 := Nat.ne_of_lt (Nat.lt_of_lt_of_le tq_51 GW300.out); replace hx304_0 := hx_ HB.out hx304_0; replace hx304_0 := (cell_far (p := ⟨gb300, 0, none⟩) (by first | (rw [add_block]; exact hn304_0) | (show (Addr.add _ _).block ≠ _; rw [add_block]; exact hn304_0) | exact hn304_0) (.int .i64 0)).trans hx304_0; replace hx304_0 := (cell_far (p := ⟨gb300, 1, none⟩) (by first | (rw [add_block]; exact hn304_1) | (show (Addr.add _ _).block ≠ _; rw [add_block]; exact hn304_1) | exact hn304_1) (.int .i64 0)).trans hx304_0; replace hx304_0 := (cell_far (p := ⟨gb300, 2, none⟩) (by first | (rw [add_block]; exact hn304_2) | (show (Addr.add _ _).block ≠ _; rw [add_block]; exact hn304_2) | exact hn304_2) (.int .i64 0)).trans hx304_0; replace hx304_0 := (cell_far (p := ⟨gb300, 3, none⟩) (by first | (rw [add_block]; exact hn304_3) | (show (Addr.add _ _).block ≠ _; rw [add_block]; exact hn304_3) | exact hn304_3) (.string (⟨#[]⟩ : ByteArray))).trans hx304_0; replace hx304_0 := (cell_far (p := ⟨gb300, 4, none⟩) (by first | (rw [add_block]; exact hn304_4) | (show (Addr.add _ _).block ≠ _; rw [add_block]; exact hn304_4) | exact hn304_4) (.slice none 0 0)).trans hx304_0; replace hx304_0 := (cell_far (p := ⟨gb300, 5, none⟩) (by first | (rw [add_block]; exact hn304_5) | (show (Addr.add _ _).block ≠ _; rw [add_block]; exact hn304_5) | exact hn304_5) (.slice none 0 0)).trans hx304_0; replace hx304_0 := (cell_far (p := ⟨gb300, 0, none⟩) (by first | (rw [add_block]; exact hn304_6) | (show (Addr.add _ _).block ≠ _; rw [add_block]; exact hn304_6) | exact hn304_6) (.int .i64 t302)).trans hx304_0; clear hn304_0 hn304_1 hn304_2 hn304_3 hn304_4 hn304_5 hn304_6; replace p304 := eq_true p304; replace q304 := eq_true q304) | ((with_reducible refine gate_callee (f := 37) rfl ?_); refine goesL_ (some 32) rfl rfl Tryd.func37 (by kernel_rfl) rfl #[.string (rdOf ByteArray.empty l0 0), .int .i64 1, .int .i64 2] rfl tq_0 ?_; (with_reducible refine (impl_NumAt.calls kj1 (rdOf ByteArray.empty l0 0) 1 2 t305 t306 _ A10.out).mono ?_); rintro e w' ⟨rfl, ⟨nd, rfl⟩⟩; refine ⟨_, rfl, ?_⟩; have p307 : 0 ≤ (0 : Int) := (by omega); have q307 : 0 < (l0.length : Int) := of_decide_eq_true tq_1; obtain ⟨ad307, e307, hx307_0⟩ := Kd.at_string HR0.out 0 p307 q307; obtain rfl : ad301 = ad307 := (by injection e307); have qi307 : (0 < l0.length) = True := eq_true (by omega); (try rw [show ((0 : Int)).toNat = 0 from rfl] at hx307_0); (try rw [Addr.add_zero'] at hx307_0); have hn307_0 : ad301.block ≠ gb300 := Nat.ne_of_lt (Nat.lt_of_lt_of_le tq_47 GW300.out); have hn307_1 : ad301.block ≠ gb300 := Nat.ne_of_lt (Nat.lt_of_lt_of_le tq_47 GW300.out); have hn307_2 : ad301.block ≠ gb300 := Nat.ne_of_lt (Nat.lt_of_lt_of_le tq_47 GW300.out); have hn307_3 : ad301.block ≠ gb300 := Nat.ne_of_lt (Nat.lt_of_lt_of_le tq_47 GW300.out); have hn307_4 : ad301.block ≠ gb300 := Nat.ne_of_lt (Nat.lt_of_lt_of_le tq_47 GW300.out); have hn307_5 : ad301.block ≠ gb300 := Nat.ne_of_lt (Nat.lt_of_lt_of_le tq_47 GW300.out); have hn307_6 : ad301.block ≠ gb300 := Nat.ne_of_lt (Nat.lt_of_lt_of_le tq_47 GW300.out); have hn307_7 : ad301.block ≠ gb300 := Nat.ne_of_lt (Nat.lt_of_lt_of_le tq_47 GW300.out); replace hx307_0 := hx_ HB.out hx307_0; replace hx307_0 := (cell_far (p := ⟨gb300, 0, none⟩) (by first | (rw [add_block]; exact hn307_0) | (show (Addr.add _ _).block ≠ _; rw [add_block]; exact hn307_0) | exact hn307_0) (.int .i64 0)).trans hx307_0; replace hx307_0 := (cell_far (p := ⟨gb300, 1, none⟩) (by first | (rw [add_block]; exact hn307_1) | (show (Addr.add _ _).block ≠ _; rw [add_block]; exact hn307_1) | exact hn307_1) (.int .i64 0)).trans hx307_0; replace hx307_0 := (cell_far (p := ⟨gb300, 2, none⟩) (by first | (rw [add_block]; exact hn307_2) | (show (Addr.add _ _).block ≠ _; rw [add_block]; exact hn307_2) | exact hn307_2) (.int .i64 0)).trans hx307_0; replace hx307_0 := (cell_far (p := ⟨gb300, 3, none⟩) (by first | (rw [add_block]; exact hn307_3) | (show (Addr.add _ _).block ≠ _; rw [add_block]; exact hn307_3) | exact hn307_3) (.string (⟨#[]⟩ : ByteArray))).trans hx307_0; replace hx307_0 := (cell_far (p := ⟨gb300, 4, none⟩) (by first | (rw [add_block]; exact hn307_4) | (show (Addr.add _ _).block ≠ _; rw [add_block]; exact hn307_4) | exact hn307_4) (.slice none 0 0)).trans hx307_0; replace hx307_0 := (cell_far (p := ⟨gb300, 5, none⟩) (by first | (rw [add_block]; exact hn307_5) | (show (Addr.add _ _).block ≠ _; rw [add_block]; exact hn307_5) | exact hn307_5) (.slice none 0 0)).trans hx307_0; replace hx307_0 := (cell_far (p := ⟨gb300, 0, none⟩) (by first | (rw [add_block]; exact hn307_6) | (show (Addr.add _ _).block ≠ _; rw [add_block]; exact hn307_6) | exact hn307_6) (.int .i64 t302)).trans hx307_0; replace hx307_0 := (cell_far (p := ⟨gb300, 1, none⟩) (by first | (rw [add_block]; exact hn307_7) | (show (Addr.add _ _).block ≠ _; rw [add_block]; exact hn307_7) | exact hn307_7) (.int .i64 t305)).trans hx307_0; clear hn307_0 hn307_1 hn307_2 hn307_3 hn307_4 hn307_5 hn307_6 hn307_7; replace p307 := eq_true p307; replace q307 := eq_true q307) | ((with_reducible refine gate_callee (f := 37) rfl ?_); refine goesL_ (some 40) rfl rfl Tryd.func37 (by kernel_rfl) rfl #[.string (rdOf ByteArray.empty l0 0), .int .i64 3, .int .i64 2] rfl tq_0 ?_; (with_reducible refine (impl_NumAt.calls kj1 (rdOf ByteArray.empty l0 0) 3 2 t308 t309 _ A11.out).mono ?_); rintro e w' ⟨rfl, ⟨nd, rfl⟩⟩; refine ⟨_, rfl, ?_⟩))
 (try simp only [Act.put, List.setIfInBounds_toArray, List.set_cons_zero, List.set_cons_succ])
 go_cut [] (fun wc => ∃ (kq : Nat) (x301003_11 : ByteArray), Aside0 (impl_ReadInode.j1 kq l0 t302 t305 t308 x301003_11 = some (r1, r2, r3, r4, r5, r6, r7)) ∧ Aside0 (kq ≤ kj1) ∧ Aside0 (wc.heap[gb298]? = some (.cells #[.int .i64 0, .int .i64 0, .int .i64 0, .string (⟨#[]⟩ : ByteArray), (.slice none 0 0), (.slice none 0 0)] 27 (0, 0))) ∧ Aside0 (wc.heap[gb300]? = some (.cells #[.int .i64 t302, .int .i64 t305, .int .i64 t308, .string x301003_11, (.slice none 0 0), (.slice none 0 0)] 27 (0, 0))) ∧ Aside0 (Below w.heap.size w wc))
 case first =>
  have H := HC12.out
  clear HC12
  by_cases c16 : t302 = 1
  rotate_left
  ·rw [if_neg c16] at H
   have c16b0 := beq_eq_false_iff_ne.mpr c16
   have c16b1 := bne_iff_ne.mpr c16
   (first | rw [c16b0] | (simp only [i64_w, i32_w]; rw [c16b0]) | skip)
   have H' := Aside0.mk H
   clear H
   go_wp2
   go_meet
   case rel => exact ⟨_, ((⟨#[]⟩ : ByteArray)), H', ⟨(by have := HJ1.out; first | omega | exact Nat.le_refl _)⟩, ⟨tb_⟩, ⟨tb_⟩, ⟨th_⟩⟩
  rw [if_pos c16] at H
  have c16b0 := beq_iff_eq.mpr c16
  have c16b1 := bne_eq_false_iff_eq.mpr c16
  clear c16
  (first | rw [c16b0] | (simp only [i64_w, i32_w]; rw [c16b0]) | skip)
  obtain ⟨c17, H⟩ := fc_ H
  have c17b0 := decide_eq_true c17
  have c17b1 : decide (1 < l0.length) = true := decide_eq_true (by omega)
  clear c17
  have H' := Aside0.mk H
  clear H
  have p310 : 0 ≤ (1 : Int) := (by omega)
  have q310 : 1 < (l0.length : Int) := of_decide_eq_true tq_1
  obtain ⟨ad310, e310, hx310_0⟩ := Kd.at_string HR0.out 1 p310 q310
  obtain rfl : ad301 = ad310 := (by injection e310)
  (try simp only [show (1 : Int).toNat = 1 from rfl, Nat.reduceMul, Nat.reduceEqDiff, Go.Addr.add, ↓reduceIte] at hx310_0)
  have qi310 : (1 < l0.length) = True := eq_true (by omega)
  (try rw [show ((1 : Int)).toNat = 1 from rfl] at hx310_0)
  have hn310_0 : ad301.block ≠ gb300 := Nat.ne_of_lt (Nat.lt_of_lt_of_le tq_38 GW300.out)
  have hn310_1 : ad301.block ≠ gb300 := Nat.ne_of_lt (Nat.lt_of_lt_of_le tq_38 GW300.out)
  have hn310_2 : ad301.block ≠ gb300 := Nat.ne_of_lt (Nat.lt_of_lt_of_le tq_38 GW300.out)
  have hn310_3 : ad301.block ≠ gb300 := Nat.ne_of_lt (Nat.lt_of_lt_of_le tq_38 GW300.out)
  have hn310_4 : ad301.block ≠ gb300 := Nat.ne_of_lt (Nat.lt_of_lt_of_le tq_38 GW300.out)
  have hn310_5 : ad301.block ≠ gb300 := Nat.ne_of_lt (Nat.lt_of_lt_of_le tq_38 GW300.out)
  have hn310_6 : ad301.block ≠ gb300 := Nat.ne_of_lt (Nat.lt_of_lt_of_le tq_38 GW300.out)
  have hn310_7 : ad301.block ≠ gb300 := Nat.ne_of_lt (Nat.lt_of_lt_of_le tq_38 GW300.out)
  have hn310_8 : ad301.block ≠ gb300 := Nat.ne_of_lt (Nat.lt_of_lt_of_le tq_38 GW300.out)
  replace hx310_0 := hx_ HB.out hx310_0
  replace hx310_0 := (cell_far (p := ⟨gb300, 0, none⟩) (by first | (rw [add_block]; exact hn310_0) | (show (Addr.add _ _).block ≠ _; rw [add_block]; exact hn310_0) | exact hn310_0) (.int .i64 0)).trans hx310_0
  replace hx310_0 := (cell_far (p := ⟨gb300, 1, none⟩) (by first | (rw [add_block]; exact hn310_1) | (show (Addr.add _ _).block ≠ _; rw [add_block]; exact hn310_1) | exact hn310_1) (.int .i64 0)).trans hx310_0
  replace hx310_0 := (cell_far (p := ⟨gb300, 2, none⟩) (by first | (rw [add_block]; exact hn310_2) | (show (Addr.add _ _).block ≠ _; rw [add_block]; exact hn310_2) | exact hn310_2) (.int .i64 0)).trans hx310_0
  replace hx310_0 := (cell_far (p := ⟨gb300, 3, none⟩) (by first | (rw [add_block]; exact hn310_3) | (show (Addr.add _ _).block ≠ _; rw [add_block]; exact hn310_3) | exact hn310_3) (.string (⟨#[]⟩ : ByteArray))).trans hx310_0
  replace hx310_0 := (cell_far (p := ⟨gb300, 4, none⟩) (by first | (rw [add_block]; exact hn310_4) | (show (Addr.add _ _).block ≠ _; rw [add_block]; exact hn310_4) | exact hn310_4) (.slice none 0 0)).trans hx310_0
  replace hx310_0 := (cell_far (p := ⟨gb300, 5, none⟩) (by first | (rw [add_block]; exact hn310_5) | (show (Addr.add _ _).block ≠ _; rw [add_block]; exact hn310_5) | exact hn310_5) (.slice none 0 0)).trans hx310_0
  replace hx310_0 := (cell_far (p := ⟨gb300, 0, none⟩) (by first | (rw [add_block]; exact hn310_6) | (show (Addr.add _ _).block ≠ _; rw [add_block]; exact hn310_6) | exact hn310_6) (.int .i64 t302)).trans hx310_0
  replace hx310_0 := (cell_far (p := ⟨gb300, 1, none⟩) (by first | (rw [add_block]; exact hn310_7) | (show (Addr.add _ _).block ≠ _; rw [add_block]; exact hn310_7) | exact hn310_7) (.int .i64 t305)).trans hx310_0
  replace hx310_0 := (cell_far (p := ⟨gb300, 2, none⟩) (by first | (rw [add_block]; exact hn310_8) | (show (Addr.add _ _).block ≠ _; rw [add_block]; exact hn310_8) | exact hn310_8) (.int .i64 t308)).trans hx310_0
  clear hn310_0 hn310_1 hn310_2 hn310_3 hn310_4 hn310_5 hn310_6 hn310_7 hn310_8
  replace p310 := eq_true p310
  replace q310 := eq_true q310
  obtain ⟨hcz19_0, hcz19_1, hcz19_2, hcz19_3, hcz19_4, hcz19_5⟩ := bk6_ BK300.out
  obtain ⟨hfz19_0, hfz19_1, hfz19_2, hfz19_3, hfz19_4, hfz19_5⟩ := bf6_ BK300.out
  go_wp2
  go_meet
  case rel => exact ⟨_, (rdOf ByteArray.empty l0 1), H', ⟨(by have := HJ1.out; first | omega | exact Nat.le_refl _)⟩, ⟨tb_⟩, ⟨tb_⟩, ⟨th_⟩⟩
 case rest =>
 clear HC12
 try clear c1; try clear p2; try clear c3; try clear p3; try clear q3; try clear hx3; try clear qi3; try clear c4; try clear c4b0; try clear c4b1; try clear c6; try clear c8; try clear c8b0; try clear c8b1; try clear c9; try clear c14; try clear c16; try clear c16b0; try clear c16b1; try clear c17; try clear c17b0; try clear c17b1; try clear c18; try clear hcz15_0 hcz15_1 hcz15_2 hcz15_3 hcz15_4 hcz15_5; try clear hcz19_0 hcz19_1 hcz19_2 hcz19_3 hcz19_4 hcz19_5; try clear hcz7_0 hcz7_1 hcz7_2 hcz7_3 hcz7_4 hcz7_5; try clear hfz15_0 hfz15_1 hfz15_2 hfz15_3 hfz15_4 hfz15_5; try clear hfz19_0 hfz19_1 hfz19_2 hfz19_3 hfz19_4 hfz19_5; try clear hfz7_0 hfz7_1 hfz7_2 hfz7_3 hfz7_4 hfz7_5; try clear hx301_0; try clear hx304_0; try clear hx307_0; try clear hx310_0; try clear p2; try clear p301; try clear p304; try clear p307; try clear p310; try clear q301; try clear q304; try clear q307; try clear q310
 obtain ⟨kq, x301003_11, HA, HJ11, BK298, BK300, HB⟩ := hcut
 cases kq with
 | zero => exact absurd HA.out (by simp [impl_ReadInode.j1])
 | succ kj11 =>
 have H := HA.out
 clear HA
 simp only [impl_ReadInode.j1] at H
 obtain ⟨c20, H⟩ := fc_ H
 have c20b0 := eq_true c20
 have c20b1 := decide_eq_true c20
 clear c20
 obtain ⟨yd22, hyd22⟩ : ∃ y_ : List ByteArray, y_ = (l0.drop 2) := ⟨_, rfl⟩
 rw [← hyd22] at H
 have HC21 := Aside0.mk H
 clear H
 obtain ⟨i022, hi022, _, hsz22, _⟩ := info_parts info9
 obtain ⟨A22, hcut22, hA22, hC22⟩ := print_drop_of (P := Tryd.prog) Value.string (⟨#[]⟩ : ByteArray) 22 9 .i64 Tryd.underlying22 hi022 hsz22 (some ad301) c0 l0 2 (by omega) (of_decide_eq_true tq_1) HC0.out
 have eyd22 : List.drop (Int.toNat 2) l0 = yd22 := hyd22.symm
 rw [eyd22] at hcut22 hA22 hC22
 have HR311 := Aside0.mk (Kd.C_of_reads (h1 := fun _ => rfl) (hA22 _ (Kd.reads_of_C HR0.out)))
 have HC311 := Aside0.mk hC22
 clear hA22 hC22 hi022 hsz22 hyd22 eyd22
 go_upto_block 0 with (fail)
 go_cut [] (fun wc => ∃ (kq : Nat) (x299000_20 : Int) (x299001_20 : Int) (x299002_20 : Int) (x299003_20 : ByteArray) (x301004_20 : List (S42)) (x301005_20 : List (S47)) (u301004 : Value) (u301005 : Value), Aside0 (impl_ReadInode.j4 kq l0 t302 t305 t308 x301003_11 x301004_20 x301005_20 = some (r1, r2, r3, r4, r5, r6, r7)) ∧ Aside0 (kq ≤ kj11) ∧ Aside0 (Kd.R k42 42 wc w.heap.size (fun _ => True) u301004 x301004_20) ∧ Aside0 (Kd.R k47 47 wc w.heap.size (fun _ => True) u301005 x301005_20) ∧ Aside0 (wc.heap[gb298]? = some (.cells #[.int .i64 x299000_20, .int .i64 x299001_20, .int .i64 x299002_20, .string x299003_20, (.slice none 0 0), (.slice none 0 0)] 27 (0, 0))) ∧ Aside0 (wc.heap[gb300]? = some (.cells #[.int .i64 t302, .int .i64 t305, .int .i64 t308, .string x301003_11, u301004, u301005] 27 (0, 0))) ∧ Aside0 (Below w.heap.size w wc))
 case first =>
  have H := HC21.out
  clear HC21
  have H' := Aside0.mk H
  clear H
  go_wp2
  go_loopg [54] kj11 (fun kq v54 w' => ∃ (x54_3 : Int) (x299000_3 : Int) (x299001_3 : Int) (x299002_3 : Int) (x299003_3 : ByteArray) (x301004_3 : List (S42)) (x301005_3 : List (S47)) (u301004 : Value) (u301005 : Value), v54 = .int .i64 x54_3 ∧ Aside0 (impl_ReadInode.l0 kq l0 yd22 (yd22.length : Int) x54_3 t302 t305 t308 x301003_11 x301004_3 x301005_3 = some (r1, r2, r3, r4, r5, r6, r7)) ∧ Aside0 (kq ≤ kj11) ∧ Aside0 (Kd.R k42 42 w' w.heap.size (fun _ => True) u301004 x301004_3) ∧ Aside0 (Kd.R k47 47 w' w.heap.size (fun _ => True) u301005 x301005_3) ∧ Aside0 (w'.heap[gb298]? = some (.cells #[.int .i64 x299000_3, .int .i64 x299001_3, .int .i64 x299002_3, .string x299003_3, (.slice none 0 0), (.slice none 0 0)] 27 (0, 0))) ∧ Aside0 (w'.heap[gb300]? = some (.cells #[.int .i64 t302, .int .i64 t305, .int .i64 t308, .string x301003_11, u301004, u301005] 27 (0, 0))) ∧ Aside0 (Below w.heap.size w w'))
  case atStart => exact ⟨(0), (0), (0), (0), ((⟨#[]⟩ : ByteArray)), (([] : List (S42))), (([] : List (S47))), (.slice none 0 0), (.slice none 0 0), tq_4, H', ⟨Nat.le_refl _⟩, ⟨tq_10⟩, ⟨tq_10⟩, ⟨(kb_ BK298)⟩, ⟨(kb_ BK300)⟩, ⟨th_⟩⟩
  case round =>
  clear H'
  try clear c1; try clear c2; try clear p2; try clear c3; try clear p3; try clear q3; try clear hx3; try clear qi3; try clear c4; try clear c4b0; try clear c4b1; try clear c6; try clear c8; try clear c8b0; try clear c8b1; try clear c9; try clear c14; try clear c16; try clear c16b0; try clear c16b1; try clear c17; try clear c17b0; try clear c17b1; try clear c18; try clear c20; try clear c20b0; try clear c20b1; try clear hcz15_0 hcz15_1 hcz15_2 hcz15_3 hcz15_4 hcz15_5; try clear hcz19_0 hcz19_1 hcz19_2 hcz19_3 hcz19_4 hcz19_5; try clear hcz7_0 hcz7_1 hcz7_2 hcz7_3 hcz7_4 hcz7_5; try clear hfz15_0 hfz15_1 hfz15_2 hfz15_3 hfz15_4 hfz15_5; try clear hfz19_0 hfz19_1 hfz19_2 hfz19_3 hfz19_4 hfz19_5; try clear hfz7_0 hfz7_1 hfz7_2 hfz7_3 hfz7_4 hfz7_5; try clear hx301_0; try clear hx304_0; try clear hx307_0; try clear hx310_0; try clear p2; try clear p3; try clear p301; try clear p304; try clear p307; try clear p310; try clear q3; try clear q301; try clear q304; try clear q307; try clear q310
  obtain ⟨x54_3, x299000_3, x299001_3, x299002_3, x299003_3, x301004_3, x301005_3, u301004, u301005, rfl, HA, HK3, HO_301004, HO_301005, BK298, BK300, HB⟩ := hrel
  cases gk with
  | zero => exact absurd HA.out (by simp [impl_ReadInode.l0])
  | succ k3 =>
  have H := HA.out
  clear HA
  simp only [impl_ReadInode.l0] at H
  by_cases c23 : x54_3 < (yd22.length : Int)
  rotate_left
  ·rw [if_neg c23] at H
   have c23b0 := decide_eq_false c23
   clear c23
   (first | rw [c23b0] | (simp only [i64_w, i32_w]; rw [c23b0]) | skip)
   have H' := Aside0.mk H
   clear H
   go_wp2
   go_meet
   case rel => exact ⟨_, (x299000_3), (x299001_3), (x299002_3), (x299003_3), (x301004_3), (x301005_3), (u301004), (u301005), H', ⟨tq_69⟩, ⟨(raR_ HO_301004)⟩, ⟨(raR_ HO_301005)⟩, ⟨(kb_ BK298)⟩, ⟨(kb_ BK300)⟩, ⟨th_⟩⟩
  rw [if_pos c23] at H
  have c23b0 := decide_eq_true c23
  clear c23
  (first | rw [c23b0] | (simp only [i64_w, i32_w]; rw [c23b0]) | skip)
  obtain ⟨c24, H⟩ := fc_ H
  have c24b0 := decide_eq_true c24
  clear c24
  obtain ⟨c25, H⟩ := fc_ H
  have c25b0 := decide_eq_true c25
  clear c25
  obtain ⟨t313, A26, H⟩ := bd_ H
  by_cases c27 : (rdOf ByteArray.empty yd22 x54_3).toList = t313.toList
  ·rw [if_pos c27] at H
   have c27b0 := beq_iff_eq.mpr c27
   have c27b1 := bne_eq_false_iff_eq.mpr c27
   clear c27
   have H' := Aside0.mk H
   clear H
   have p312 : 0 ≤ (x54_3 : Int) := of_decide_eq_true tq_1
   have q312 : x54_3 < (yd22.length : Int) := of_decide_eq_true tq_1
   obtain ⟨ad312, e312, hx312_0⟩ := Kd.at_string HR311.out x54_3 p312 q312
   cases e312
   replace hx312_0 := hx_ HB.out hx312_0
   replace p312 := eq_true p312
   replace q312 := eq_true q312
   go_wp2_with (first | ((with_reducible refine gate_callee (f := 38) rfl ?_); refine goesL_ (some 59) rfl rfl Tryd.func38 (by kernel_rfl) rfl #[] rfl tq_0 ?_; (with_reducible refine (impl_zeroWord.calls  t313 _ A26.out).mono ?_); rintro e w28 ⟨rfl, hb⟩; refine ⟨_, rfl, ?_⟩; have z_ := p_ (Kd.R_below (raR_ HO_301004) hb) <| p_ (Kd.R_below (raR_ HO_301005) hb) <| bw2_ (kb_ BK298) (kb_ BK300) th_ hb; clear HO_301004 HO_301005 BK298 BK300 HB; obtain ⟨HO_301004, HO_301005, BK298, BK300, HB⟩ := z_; (try clear hb)))
   go_meet
   case rel => exact ⟨_, (x299000_3), (x299001_3), (x299002_3), (x299003_3), (x301004_3), (x301005_3), (u301004), (u301005), H', ⟨tq_69⟩, ⟨(raR_ HO_301004)⟩, ⟨(raR_ HO_301005)⟩, ⟨(kb_ BK298)⟩, ⟨(kb_ BK300)⟩, ⟨th_⟩⟩
  rw [if_neg c27] at H
  have c27b0 := beq_eq_false_iff_ne.mpr c27
  have c27b1 := bne_iff_ne.mpr c27
  obtain ⟨⟨t314, t315, t316, t317⟩, A29, H⟩ := bd_ H
  try dsimp -simprocs only at H
  obtain ⟨⟨t319, t320, t321⟩, A30, H⟩ := bd_ H
  try dsimp -simprocs only at H
  have HC31 := Aside0.mk H
  clear H
  have p312 : 0 ≤ (x54_3 : Int) := of_decide_eq_true tq_1
  have q312 : x54_3 < (yd22.length : Int) := of_decide_eq_true tq_1
  obtain ⟨ad312, e312, hx312_0⟩ := Kd.at_string HR311.out x54_3 p312 q312
  cases e312
  replace hx312_0 := hx_ HB.out hx312_0
  replace p312 := eq_true p312
  replace q312 := eq_true q312
  go_upto_region 16 with (first | ((with_reducible refine gate_callee (f := 38) rfl ?_); refine goesL_ (some 59) rfl rfl Tryd.func38 (by kernel_rfl) rfl #[] rfl tq_0 ?_; (with_reducible refine (impl_zeroWord.calls  t313 _ A26.out).mono ?_); rintro e w32 ⟨rfl, hb⟩; refine ⟨_, rfl, ?_⟩; have z_ := p_ (Kd.R_below (raR_ HO_301004) hb) <| p_ (Kd.R_below (raR_ HO_301005) hb) <| bw2_ (kb_ BK298) (kb_ BK300) th_ hb; clear HO_301004 HO_301005 BK298 BK300 HB; obtain ⟨HO_301004, HO_301005, BK298, BK300, HB⟩ := z_; (try clear hb)) | ((with_reducible refine gate_callee (f := 21) rfl ?_); refine goesL_ (some 63) rfl rfl Tryd.func21 (by kernel_rfl) rfl #[.string (rdOf ByteArray.empty yd22 x54_3)] rfl tq_0 ?_; (with_reducible refine (impl_ReadRec.calls k3 (rdOf ByteArray.empty yd22 x54_3) t314 t315 t316 t317 _ A29.out).mono ?_); rintro e w33 ⟨rfl, hb⟩; refine ⟨_, rfl, ?_⟩; have z_ := p_ (Kd.R_below (raR_ HO_301004) hb) <| p_ (Kd.R_below (raR_ HO_301005) hb) <| bw2_ (kb_ BK298) (kb_ BK300) th_ hb; clear HO_301004 HO_301005 BK298 BK300 HB; obtain ⟨HO_301004, HO_301005, BK298, BK300, HB⟩ := z_; (try clear hb)) | ((with_reducible refine gate_dst (N := 7) rfl ?_); refine be_ 7 (cs := #[.int .i64 0, .int .i64 0, .string (⟨#[]⟩ : ByteArray)]) 42 ?_; intro gb318 hg w34 hbox hb; have z_ := p_ (Kd.R_below (Kd.R_elderB (raR_ HO_301004) gb318 (Nat.le_of_eq hg.symm)) hb) <| p_ (Kd.R_below (raR_ HO_301005) hb) <| bx2_ (kb_ BK298) (kb_ BK300) th_ hb hbox hg; clear HO_301004 HO_301005 BK298 BK300 HB; obtain ⟨HO_301004, HO_301005, BK298, BK300, HB, BK318, GW318, GE318, NB298_318, NB318_298, NB300_318, NB318_300⟩ := z_; clear hb hbox hg; obtain ⟨n318_298, n298_318, n318_300, n300_318⟩ := an4_ NB318_298 NB298_318 NB318_300 NB300_318; obtain ⟨hcz37_0, hcz37_1, hcz37_2⟩ := bk3_ BK318.out; obtain ⟨hfz37_0, hfz37_1, hfz37_2⟩ := bf3_ BK318.out) | ((with_reducible refine gate_callee (f := 23) rfl ?_); refine goesL_ (some 68) rfl rfl Tryd.func23 (by kernel_rfl) rfl #[.string (rdOf ByteArray.empty yd22 x54_3)] rfl tq_0 ?_; (with_reducible refine (impl_ReadEntry.calls k3 (rdOf ByteArray.empty yd22 x54_3) t319 t320 t321 _ A30.out).mono ?_); rintro e w38 ⟨rfl, hb⟩; refine ⟨_, rfl, ?_⟩; have z_ := p_ (Kd.R_below (by (with_reducible repeat (first | apply Kd.R_alloc | apply Kd.R_drewN | apply Kd.R_drew)); exact (Kd.R_mono (rR_ (rR_ (rR_ (Kd.R_mono HO_301004.out (fun k_ hk => (⟨hk, hk.2⟩ : _ ∧ k_ ≠ gb318)))))) (fun _ h_ => h_.1))) hb) <| p_ (Kd.R_below (by (with_reducible repeat (first | apply Kd.R_alloc | apply Kd.R_drewN | apply Kd.R_drew)); exact (Kd.R_mono (rR_ (rR_ (rR_ (Kd.R_types HO_301005.out BK318.out (by decide))))) (fun _ h_ => h_.1))) hb) <| p_ (blk_below (g := gb298) (o := .cells #[.int .i64 x299000_3, .int .i64 x299001_3, .int .i64 x299002_3, .string x299003_3, .slice none 0 0, .slice none 0 0] 27 (0, 0)) (by (with_reducible repeat (first | refine blk_drewN ?_ _ | refine blk_drew ?_ | refine blk_alloc ?_ _)); refine blk_far ?_ NB298_318.out _; (with_reducible repeat (first | refine blk_drewN ?_ _ | refine blk_drew ?_ | refine blk_alloc ?_ _)); refine blk_far ?_ NB298_318.out _; (with_reducible repeat (first | refine blk_drewN ?_ _ | refine blk_drew ?_ | refine blk_alloc ?_ _)); refine blk_far ?_ NB298_318.out _; (with_reducible repeat (first | refine blk_drewN ?_ _ | refine blk_drew ?_ | refine blk_alloc ?_ _)); exact BK298.out) hb) <| p_ (blk_below (g := gb300) (o := .cells #[.int .i64 t302, .int .i64 t305, .int .i64 t308, .string x301003_11, u301004, u301005] 27 (0, 0)) (by (with_reducible repeat (first | refine blk_drewN ?_ _ | refine blk_drew ?_ | refine blk_alloc ?_ _)); refine blk_far ?_ NB300_318.out _; (with_reducible repeat (first | refine blk_drewN ?_ _ | refine blk_drew ?_ | refine blk_alloc ?_ _)); refine blk_far ?_ NB300_318.out _; (with_reducible repeat (first | refine blk_drewN ?_ _ | refine blk_drew ?_ | refine blk_alloc ?_ _)); refine blk_far ?_ NB300_318.out _; (with_reducible repeat (first | refine blk_drewN ?_ _ | refine blk_drew ?_ | refine blk_alloc ?_ _)); exact BK300.out) hb) <| p_ (blk_below (g := gb318) (o := .cells #[.int .i64 t314, .int .i64 t315, .string t316] 42 (0, 0)) (by (with_reducible repeat (first | refine blk_drewN ?_ _ | refine blk_drew ?_ | refine blk_alloc ?_ _)); refine blk_put (cs := #[.int .i64 t314, .int .i64 t315, .string (⟨#[]⟩ : ByteArray)]) ?_ 2 _ rfl; (with_reducible repeat (first | refine blk_drewN ?_ _ | refine blk_drew ?_ | refine blk_alloc ?_ _)); refine blk_put (cs := #[.int .i64 t314, .int .i64 0, .string (⟨#[]⟩ : ByteArray)]) ?_ 1 _ rfl; (with_reducible repeat (first | refine blk_drewN ?_ _ | refine blk_drew ?_ | refine blk_alloc ?_ _)); refine blk_put (cs := #[.int .i64 0, .int .i64 0, .string (⟨#[]⟩ : ByteArray)]) ?_ 0 _ rfl; (with_reducible repeat (first | refine blk_drewN ?_ _ | refine blk_drew ?_ | refine blk_alloc ?_ _)); exact BK318.out) hb) <| a_ (below_step th_ hb); clear HO_301004 HO_301005 BK298 BK300 BK318 HB; obtain ⟨HO_301004, HO_301005, BK298, BK300, BK318, HB⟩ := z_; (try clear hb); (try clear hk)) | ((with_reducible refine gate_dst (N := 9) rfl ?_); refine be_ 9 (cs := #[.int .i64 0, .string (⟨#[]⟩ : ByteArray)]) 47 ?_; intro gb322 hg w39 hbox hb; have z_ := p_ (Kd.R_below (raR_ HO_301004) hb) <| p_ (Kd.R_below (Kd.R_elderB (raR_ HO_301005) gb322 (Nat.le_of_eq hg.symm)) hb) <| bx3_ (kb_ BK298) (kb_ BK300) (kb_ BK318) th_ hb hbox hg; clear HO_301004 HO_301005 BK298 BK300 BK318 HB; obtain ⟨HO_301004, HO_301005, BK298, BK300, BK318, HB, BK322, GW322, GE322, NB298_322, NB322_298, NB300_322, NB322_300, NB318_322, NB322_318⟩ := z_; clear hb hbox hg; obtain ⟨n322_298, n298_322, n322_300, n300_322, n322_318, n318_322⟩ := an6_ NB322_298 NB298_322 NB322_300 NB300_322 NB322_318 NB318_322; obtain ⟨hcz43_0, hcz43_1⟩ := bk2_ BK322.out; obtain ⟨hfz43_0, hfz43_1⟩ := bf2_ BK322.out))
  (try simp only [Act.put, List.setIfInBounds_toArray, List.set_cons_zero, List.set_cons_succ])
  go_cut [72] (fun v72 wc => ∃ (kq : Nat) (x72_30 : Bool), v72 = .bool x72_30 ∧ Aside0 (impl_ReadInode.j3 kq l0 t321 yd22 (yd22.length : Int) x54_3 x72_30 t302 t305 t308 x301003_11 x301004_3 x301005_3 t314 t315 t316 t319 t320 = some (r1, r2, r3, r4, r5, r6, r7)) ∧ Aside0 (kq ≤ k3) ∧ Aside0 (Kd.R k42 42 wc w.heap.size (fun k_ => k_ ≠ gb318) u301004 x301004_3) ∧ Aside0 (Kd.R k47 47 wc w.heap.size (fun k_ => k_ ≠ gb322) u301005 x301005_3) ∧ Aside0 (wc.heap[gb298]? = some (.cells #[.int .i64 x299000_3, .int .i64 x299001_3, .int .i64 x299002_3, .string x299003_3, (.slice none 0 0), (.slice none 0 0)] 27 (0, 0))) ∧ Aside0 (wc.heap[gb300]? = some (.cells #[.int .i64 t302, .int .i64 t305, .int .i64 t308, .string x301003_11, u301004, u301005] 27 (0, 0))) ∧ Aside0 (wc.heap[gb318]? = some (.cells #[.int .i64 t314, .int .i64 t315, .string t316] 42 (0, 0))) ∧ Aside0 (wc.heap[gb322]? = some (.cells #[.int .i64 t319, .string t320] 47 (0, 0))) ∧ Aside0 (Below w.heap.size w wc))
  case first =>
   have H := HC31.out
   clear HC31
   by_cases c44 : t302 = 1
   rotate_left
   ·rw [if_neg c44] at H
    have c44b0 := beq_eq_false_iff_ne.mpr c44
    have c44b1 := bne_iff_ne.mpr c44
    (first | rw [c44b0] | (simp only [i64_w, i32_w]; rw [c44b0]) | skip)
    have H' := Aside0.mk H
    clear H
    obtain ⟨hcz52_0, hcz52_1, hcz52_2, hcz52_3, hcz52_4, hcz52_5⟩ := bk6_ BK300.out
    obtain ⟨hfz52_0, hfz52_1, hfz52_2, hfz52_3, hfz52_4, hfz52_5⟩ := bf6_ BK300.out
    go_wp2
    go_meet
    case rel => exact ⟨_, (false), tq_4, H', ⟨tq_69⟩, ⟨tq_83⟩, ⟨tq_74⟩, ⟨tb_⟩, ⟨tb_⟩, ⟨tb_⟩, ⟨tb_⟩, ⟨th_⟩⟩
   rw [if_pos c44] at H
   have c44b0 := beq_iff_eq.mpr c44
   have c44b1 := bne_eq_false_iff_eq.mpr c44
   clear c44
   (first | rw [c44b0] | (simp only [i64_w, i32_w]; rw [c44b0]) | skip)
   have H' := Aside0.mk H
   clear H
   obtain ⟨hcz48_0, hcz48_1, hcz48_2, hcz48_3, hcz48_4, hcz48_5⟩ := bk6_ BK300.out
   obtain ⟨hfz48_0, hfz48_1, hfz48_2, hfz48_3, hfz48_4, hfz48_5⟩ := bf6_ BK300.out
   go_wp2
   go_meet
   case rel => exact ⟨_, (t317), tq_4, H', ⟨tq_69⟩, ⟨tq_83⟩, ⟨tq_74⟩, ⟨tb_⟩, ⟨tb_⟩, ⟨tb_⟩, ⟨tb_⟩, ⟨th_⟩⟩
  case rest =>
  clear HC31
  try clear c1; try clear c2; try clear p2; try clear c3; try clear p3; try clear q3; try clear hx3; try clear qi3; try clear c4; try clear c4b0; try clear c4b1; try clear c5; try clear c6; try clear c8; try clear c8b0; try clear c8b1; try clear c9; try clear c14; try clear c16; try clear c16b0; try clear c16b1; try clear c17; try clear c17b0; try clear c17b1; try clear c18; try clear c20; try clear c20b0; try clear c20b1; try clear c21; try clear c23; try clear c23b0; try clear c24; try clear c24b0; try clear c25; try clear c25b0; try clear c27; try clear c27b0; try clear c27b1; try clear p30; try clear q30; try clear hx30; try clear qi30; try clear p31; try clear q31; try clear hx31; try clear qi31; try clear c35; try clear c36; try clear c37; try clear c38; try clear c40; try clear c41; try clear c42; try clear c44; try clear c44b0; try clear c44b1; try clear c45; try clear c46; try clear c47; try clear c49; try clear c50; try clear c51; try clear hcz15_0 hcz15_1 hcz15_2 hcz15_3 hcz15_4 hcz15_5; try clear hcz19_0 hcz19_1 hcz19_2 hcz19_3 hcz19_4 hcz19_5; try clear hcz37_0 hcz37_1 hcz37_2; try clear hcz43_0 hcz43_1; try clear hcz48_0 hcz48_1 hcz48_2 hcz48_3 hcz48_4 hcz48_5; try clear hcz52_0 hcz52_1 hcz52_2 hcz52_3 hcz52_4 hcz52_5; try clear hcz7_0 hcz7_1 hcz7_2 hcz7_3 hcz7_4 hcz7_5; try clear hfz15_0 hfz15_1 hfz15_2 hfz15_3 hfz15_4 hfz15_5; try clear hfz19_0 hfz19_1 hfz19_2 hfz19_3 hfz19_4 hfz19_5; try clear hfz37_0 hfz37_1 hfz37_2; try clear hfz43_0 hfz43_1; try clear hfz48_0 hfz48_1 hfz48_2 hfz48_3 hfz48_4 hfz48_5; try clear hfz52_0 hfz52_1 hfz52_2 hfz52_3 hfz52_4 hfz52_5; try clear hfz7_0 hfz7_1 hfz7_2 hfz7_3 hfz7_4 hfz7_5; try clear hx301_0; try clear hx304_0; try clear hx307_0; try clear hx310_0; try clear hx312_0; try clear p2; try clear p3; try clear p301; try clear p304; try clear p307; try clear p310; try clear p312; try clear q3; try clear q301; try clear q304; try clear q307; try clear q310; try clear q312
  obtain ⟨kq, x72_30, rfl, HA, HJ30, HO_301004, HO_301005, BK298, BK300, BK318, BK322, HB⟩ := hcut
  cases kq with
  | zero => exact absurd HA.out (by simp [impl_ReadInode.j3])
  | succ kj30 =>
  have H := HA.out
  clear HA
  simp only [impl_ReadInode.j3] at H
  by_cases c53 : x72_30 = true
  ·subst c53
   rw [if_pos rfl] at H
   obtain ⟨c54, H⟩ := fc_ H
   have LMc54 := Aside0.mk c54
   clear c54
   obtain ⟨y323, hy323⟩ : ∃ y_ : List (S42), y_ = (x301004_3 ++ [(⟨t314, t315, t316⟩ : S42)]) := ⟨_, rfl⟩
   replace H : (impl_ReadInode.l0 kj30 l0 yd22 (yd22.length : Int) (wrap64 (x54_3 + 1)) t302 t305 t308 x301003_11 y323 x301005_3) = some (r1, r2, r3, r4, r5, r6, r7) := by first | (rw [hy323]; with_reducible exact H) | (have H2_ := (Option.bind_some _ _).symm.trans H; rw [hy323]; with_reducible exact H2_) | (have H2_ := (Option.bind_some _ _).symm.trans H; with_reducible exact H2_) | with_reducible exact H | (rw [hy323]; exact H) | exact H
   have Ny323 := Aside0.mk hy323
   clear hy323
   have H' := Aside0.mk H
   clear H
   obtain ⟨hcz58_0, hcz58_1, hcz58_2, hcz58_3, hcz58_4, hcz58_5⟩ := bk6_ BK300.out
   obtain ⟨hfz58_0, hfz58_1, hfz58_2, hfz58_3, hfz58_4, hfz58_5⟩ := bf6_ BK300.out
   obtain ⟨hcz61_0, hcz61_1, hcz61_2⟩ := bk3_ BK318.out
   obtain ⟨hfz61_0, hfz61_1, hfz61_2⟩ := bf3_ BK318.out
   go_wp2_with (first | ((with_reducible refine gate_builtin (b := .append) (xs := #[.tmp 80, .tmp 82]) rfl ?_); at_builtin; refine Kd.R_append k42 (w0 := w) w.heap.size rfl (.tmp 80) (.tmp 82) 24 42 (.agg #[(.int .i64 0), (.int .i64 0), (.string ⟨#[]⟩)]) 32 rfl Tryd.underlying24 info42 rfl (by decide) (by omega) u301004 x301004_3 (⟨t314, t315, t316⟩ : S42) [.int .i64 t314, .int .i64 t315, .string t316] (fun k_ => k_ ≠ gb318) (fun _ => False) rfl rfl ?aP (fun _ hk => hk.elim) ?aF ?aO ?aB ?aS ?aL ?_; (case aP => exact k42_mkM _ _ _ (⟨t314, t315, t316⟩ : S42)); (case aB => exact th_); (case aF => exact (fun k_ hk => Kd.freshB (g := gb318) (o := .cells #[.int .i64 t314, .int .i64 t315, .string t316] 42 (0, 0)) (kb_ BK318) k_ hk)); (case aO => exact (raR_ HO_301004)); (case aS => exact (below_size th_)); (case aL => have := LMc54.out; omega); intro v324 w62 ho hb hg hat; rw [← Ny323.out] at ho; have z_ := p_ (Kd.R_over' (raR_ HO_301005) (Kd.R_typed (raR_ HO_301004)) (by decide) hg) <| p_ (blk_grown (g := gb298) (o := .cells #[.int .i64 x299000_3, .int .i64 x299001_3, .int .i64 x299002_3, .string x299003_3, .slice none 0 0, .slice none 0 0] 27 (0, 0)) (kb_ BK298) hg (Kd.R_ne HO_301004.out BK298.out (by decide))) <| p_ (blk_grown (g := gb300) (o := .cells #[.int .i64 t302, .int .i64 t305, .int .i64 t308, .string x301003_11, u301004, u301005] 27 (0, 0)) (kb_ BK300) hg (Kd.R_ne HO_301004.out BK300.out (by decide))) <| p_ (blk_grown (g := gb318) (o := .cells #[.int .i64 t314, .int .i64 t315, .string t316] 42 (0, 0)) (kb_ BK318) hg (Kd.R_away HO_301004.out (fun _ hk => hk))) <| p_ (blk_grown (g := gb322) (o := .cells #[.int .i64 t319, .string t320] 47 (0, 0)) (kb_ BK322) hg (Kd.R_ne HO_301004.out BK322.out (by decide))) <| p_ (hb) <| a_ (ho); clear HO_301005 BK298 BK300 BK318 BK322 HB HO_301004; obtain ⟨HO_301005, BK298, BK300, BK318, BK322, HB, HO325⟩ := z_; clear ho hb hg hat; obtain ⟨Ao63, co63, eo63⟩ := Kd.R_slice HO325.out; subst eo63; obtain ⟨hcz64_0, hcz64_1, hcz64_2, hcz64_3, hcz64_4, hcz64_5⟩ := bk6_ BK300.out; obtain ⟨hfz64_0, hfz64_1, hfz64_2, hfz64_3, hfz64_4, hfz64_5⟩ := bf6_ BK300.out))
   go_roundg kj30
   case measure => have := HJ1.out; have := HJ11.out; have := HK3.out; have := HJ30.out; omega
   case rel => exact ⟨(wrap64 (x54_3 + 1)), (x299000_3), (x299001_3), (x299002_3), (x299003_3), (y323), (x301005_3), (.slice Ao63 y323.length co63), (u301005), tq_4, H', ⟨(by have := HJ1.out; have := HJ11.out; have := HK3.out; have := HJ30.out; omega)⟩, ⟨(by (with_reducible repeat (first | apply Kd.R_alloc | apply Kd.R_drewN | apply Kd.R_drew)); exact Kd.R_mono (rR_ (Kd.R_types HO325.out BK300.out (by decide))) (fun _ hk => trivial))⟩, ⟨(by (with_reducible repeat (first | apply Kd.R_alloc | apply Kd.R_drewN | apply Kd.R_drew)); exact Kd.R_mono (rR_ (Kd.R_types HO_301005.out BK300.out (by decide))) (fun _ hk => trivial))⟩, ⟨tb_⟩, ⟨tb_⟩, ⟨th_⟩⟩
  replace c53 := Bool.eq_false_iff.mpr c53
  subst c53
  rw [if_neg nf_] at H
  by_cases c65 : t302 = 2
  rotate_left
  ·rw [if_neg c65] at H
   have c65b0 := beq_eq_false_iff_ne.mpr c65
   have c65b1 := bne_iff_ne.mpr c65
   simp only [Option.some.injEq, Prod.mk.injEq] at H
   obtain ⟨rfl, rfl, rfl, rfl, rfl, rfl, rfl⟩ := H
   obtain ⟨hcz88_0, hcz88_1, hcz88_2, hcz88_3, hcz88_4, hcz88_5⟩ := bk6_ BK300.out
   obtain ⟨hfz88_0, hfz88_1, hfz88_2, hfz88_3, hfz88_4, hfz88_5⟩ := bf6_ BK300.out
   obtain ⟨hcz91_0, hcz91_1, hcz91_2, hcz91_3, hcz91_4, hcz91_5⟩ := bk6_ BK298.out
   obtain ⟨hfz91_0, hfz91_1, hfz91_2, hfz91_3, hfz91_4, hfz91_5⟩ := bf6_ BK298.out
   go_wp2
   refine bodyPost_ret (results_ct rfl _ _ gb298 27 #[.int .i64 0, .int .i64 0, .int .i64 0, .string (⟨#[]⟩ : ByteArray), .slice none 0 0, .slice none 0 0] (0, 0) _ rfl tb_ Tryd.underlying27 rfl (by kernel_rfl)) rfl ?_
   exact ⟨_, _, tq_2, tq_10, tq_10, th_⟩
  rw [if_pos c65] at H
  have c65b0 := beq_iff_eq.mpr c65
  have c65b1 := bne_eq_false_iff_eq.mpr c65
  clear c65
  by_cases c66 : t321 = true
  rotate_left
  ·replace c66 := Bool.eq_false_iff.mpr c66
   subst c66
   rw [if_neg nf_] at H
   simp only [Option.some.injEq, Prod.mk.injEq] at H
   obtain ⟨rfl, rfl, rfl, rfl, rfl, rfl, rfl⟩ := H
   obtain ⟨hcz81_0, hcz81_1, hcz81_2, hcz81_3, hcz81_4, hcz81_5⟩ := bk6_ BK300.out
   obtain ⟨hfz81_0, hfz81_1, hfz81_2, hfz81_3, hfz81_4, hfz81_5⟩ := bf6_ BK300.out
   obtain ⟨hcz84_0, hcz84_1, hcz84_2, hcz84_3, hcz84_4, hcz84_5⟩ := bk6_ BK298.out
   obtain ⟨hfz84_0, hfz84_1, hfz84_2, hfz84_3, hfz84_4, hfz84_5⟩ := bf6_ BK298.out
   go_wp2
   refine bodyPost_ret (results_ct rfl _ _ gb298 27 #[.int .i64 0, .int .i64 0, .int .i64 0, .string (⟨#[]⟩ : ByteArray), .slice none 0 0, .slice none 0 0] (0, 0) _ rfl tb_ Tryd.underlying27 rfl (by kernel_rfl)) rfl ?_
   exact ⟨_, _, tq_2, tq_10, tq_10, th_⟩
  subst c66
  rw [if_pos rfl] at H
  obtain ⟨c67, H⟩ := fc_ H
  have LMc67 := Aside0.mk c67
  clear c67
  obtain ⟨y326, hy326⟩ : ∃ y_ : List (S47), y_ = (x301005_3 ++ [(⟨t319, t320⟩ : S47)]) := ⟨_, rfl⟩
  replace H : (impl_ReadInode.l0 kj30 l0 yd22 (yd22.length : Int) (wrap64 (x54_3 + 1)) t302 t305 t308 x301003_11 x301004_3 y326) = some (r1, r2, r3, r4, r5, r6, r7) := by first | (rw [hy326]; with_reducible exact H) | (have H2_ := (Option.bind_some _ _).symm.trans H; rw [hy326]; with_reducible exact H2_) | (have H2_ := (Option.bind_some _ _).symm.trans H; with_reducible exact H2_) | with_reducible exact H | (rw [hy326]; exact H) | exact H
  have Ny326 := Aside0.mk hy326
  clear hy326
  have H' := Aside0.mk H
  clear H
  obtain ⟨hcz71_0, hcz71_1, hcz71_2, hcz71_3, hcz71_4, hcz71_5⟩ := bk6_ BK300.out
  obtain ⟨hfz71_0, hfz71_1, hfz71_2, hfz71_3, hfz71_4, hfz71_5⟩ := bf6_ BK300.out
  obtain ⟨hcz74_0, hcz74_1⟩ := bk2_ BK322.out
  obtain ⟨hfz74_0, hfz74_1⟩ := bf2_ BK322.out
  go_wp2_with (first | ((with_reducible refine gate_builtin (b := .append) (xs := #[.tmp 93, .tmp 95]) rfl ?_); at_builtin; refine Kd.R_append k47 (w0 := w) w.heap.size rfl (.tmp 93) (.tmp 95) 25 47 (.agg #[(.int .i64 0), (.string ⟨#[]⟩)]) 24 rfl Tryd.underlying25 info47 rfl (by decide) (by omega) u301005 x301005_3 (⟨t319, t320⟩ : S47) [.int .i64 t319, .string t320] (fun k_ => k_ ≠ gb322) (fun _ => False) rfl rfl ?aP (fun _ hk => hk.elim) ?aF ?aO ?aB ?aS ?aL ?_; (case aP => exact k47_mkM _ _ _ (⟨t319, t320⟩ : S47)); (case aB => exact th_); (case aF => exact (fun k_ hk => Kd.freshB (g := gb322) (o := .cells #[.int .i64 t319, .string t320] 47 (0, 0)) (kb_ BK322) k_ hk)); (case aO => exact (raR_ HO_301005)); (case aS => exact (below_size th_)); (case aL => have := LMc67.out; omega); intro v327 w75 ho hb hg hat; rw [← Ny326.out] at ho; have z_ := p_ (Kd.R_over' (raR_ HO_301004) (Kd.R_typed (raR_ HO_301005)) (by decide) hg) <| p_ (blk_grown (g := gb298) (o := .cells #[.int .i64 x299000_3, .int .i64 x299001_3, .int .i64 x299002_3, .string x299003_3, .slice none 0 0, .slice none 0 0] 27 (0, 0)) (kb_ BK298) hg (Kd.R_ne HO_301005.out BK298.out (by decide))) <| p_ (blk_grown (g := gb300) (o := .cells #[.int .i64 t302, .int .i64 t305, .int .i64 t308, .string x301003_11, u301004, u301005] 27 (0, 0)) (kb_ BK300) hg (Kd.R_ne HO_301005.out BK300.out (by decide))) <| p_ (blk_grown (g := gb318) (o := .cells #[.int .i64 t314, .int .i64 t315, .string t316] 42 (0, 0)) (kb_ BK318) hg (Kd.R_ne HO_301005.out BK318.out (by decide))) <| p_ (blk_grown (g := gb322) (o := .cells #[.int .i64 t319, .string t320] 47 (0, 0)) (kb_ BK322) hg (Kd.R_away HO_301005.out (fun _ hk => hk))) <| p_ (hb) <| a_ (ho); clear HO_301004 BK298 BK300 BK318 BK322 HB HO_301005; obtain ⟨HO_301004, BK298, BK300, BK318, BK322, HB, HO328⟩ := z_; clear ho hb hg hat; obtain ⟨Ao76, co76, eo76⟩ := Kd.R_slice HO328.out; subst eo76; obtain ⟨hcz77_0, hcz77_1, hcz77_2, hcz77_3, hcz77_4, hcz77_5⟩ := bk6_ BK300.out; obtain ⟨hfz77_0, hfz77_1, hfz77_2, hfz77_3, hfz77_4, hfz77_5⟩ := bf6_ BK300.out))
  go_roundg kj30
  case measure => have := HJ1.out; have := HJ11.out; have := HK3.out; have := HJ30.out; omega
  case rel => exact ⟨(wrap64 (x54_3 + 1)), (x299000_3), (x299001_3), (x299002_3), (x299003_3), (x301004_3), (y326), (u301004), (.slice Ao76 y326.length co76), tq_4, H', ⟨(by have := HJ1.out; have := HJ11.out; have := HK3.out; have := HJ30.out; omega)⟩, ⟨(by (with_reducible repeat (first | apply Kd.R_alloc | apply Kd.R_drewN | apply Kd.R_drew)); exact Kd.R_mono (rR_ (Kd.R_types HO_301004.out BK300.out (by decide))) (fun _ hk => trivial))⟩, ⟨(by (with_reducible repeat (first | apply Kd.R_alloc | apply Kd.R_drewN | apply Kd.R_drew)); exact Kd.R_mono (rR_ (Kd.R_types HO328.out BK300.out (by decide))) (fun _ hk => trivial))⟩, ⟨tb_⟩, ⟨tb_⟩, ⟨th_⟩⟩
 case rest =>
 clear HC21
 try clear c1; try clear c2; try clear p2; try clear c3; try clear p3; try clear q3; try clear hx3; try clear qi3; try clear c4; try clear c4b0; try clear c4b1; try clear c5; try clear c6; try clear p6; try clear c7; try clear c8; try clear c8b0; try clear c8b1; try clear c9; try clear c14; try clear c16; try clear c16b0; try clear c16b1; try clear c17; try clear c17b0; try clear c17b1; try clear c18; try clear c20; try clear c20b0; try clear c20b1; try clear c21; try clear c23; try clear c23b0; try clear c24; try clear c24b0; try clear c25; try clear c25b0; try clear c27; try clear c27b0; try clear c27b1; try clear p30; try clear q30; try clear hx30; try clear qi30; try clear p31; try clear q31; try clear hx31; try clear qi31; try clear c35; try clear c36; try clear c37; try clear c38; try clear c40; try clear c41; try clear c42; try clear c44; try clear c44b0; try clear c44b1; try clear c45; try clear c46; try clear c47; try clear c49; try clear c50; try clear c51; try clear c53; try clear c54; try clear c55; try clear c56; try clear c57; try clear c59; try clear c60; try clear p64; try clear c65; try clear c65b0; try clear c65b1; try clear c66; try clear c67; try clear c68; try clear c69; try clear c70; try clear c72; try clear c73; try clear c78; try clear c79; try clear c80; try clear c82; try clear c83; try clear c85; try clear c86; try clear c87; try clear c89; try clear c90; try clear hcz15_0 hcz15_1 hcz15_2 hcz15_3 hcz15_4 hcz15_5; try clear hcz19_0 hcz19_1 hcz19_2 hcz19_3 hcz19_4 hcz19_5; try clear hcz37_0 hcz37_1 hcz37_2; try clear hcz43_0 hcz43_1; try clear hcz48_0 hcz48_1 hcz48_2 hcz48_3 hcz48_4 hcz48_5; try clear hcz52_0 hcz52_1 hcz52_2 hcz52_3 hcz52_4 hcz52_5; try clear hcz58_0 hcz58_1 hcz58_2 hcz58_3 hcz58_4 hcz58_5; try clear hcz61_0 hcz61_1 hcz61_2; try clear hcz64_0 hcz64_1 hcz64_2 hcz64_3 hcz64_4 hcz64_5; try clear hcz71_0 hcz71_1 hcz71_2 hcz71_3 hcz71_4 hcz71_5; try clear hcz74_0 hcz74_1; try clear hcz77_0 hcz77_1 hcz77_2 hcz77_3 hcz77_4 hcz77_5; try clear hcz7_0 hcz7_1 hcz7_2 hcz7_3 hcz7_4 hcz7_5; try clear hcz81_0 hcz81_1 hcz81_2 hcz81_3 hcz81_4 hcz81_5; try clear hcz84_0 hcz84_1 hcz84_2 hcz84_3 hcz84_4 hcz84_5; try clear hcz88_0 hcz88_1 hcz88_2 hcz88_3 hcz88_4 hcz88_5; try clear hcz91_0 hcz91_1 hcz91_2 hcz91_3 hcz91_4 hcz91_5; try clear hfz15_0 hfz15_1 hfz15_2 hfz15_3 hfz15_4 hfz15_5; try clear hfz19_0 hfz19_1 hfz19_2 hfz19_3 hfz19_4 hfz19_5; try clear hfz37_0 hfz37_1 hfz37_2; try clear hfz43_0 hfz43_1; try clear hfz48_0 hfz48_1 hfz48_2 hfz48_3 hfz48_4 hfz48_5; try clear hfz52_0 hfz52_1 hfz52_2 hfz52_3 hfz52_4 hfz52_5; try clear hfz58_0 hfz58_1 hfz58_2 hfz58_3 hfz58_4 hfz58_5; try clear hfz61_0 hfz61_1 hfz61_2; try clear hfz64_0 hfz64_1 hfz64_2 hfz64_3 hfz64_4 hfz64_5; try clear hfz71_0 hfz71_1 hfz71_2 hfz71_3 hfz71_4 hfz71_5; try clear hfz74_0 hfz74_1; try clear hfz77_0 hfz77_1 hfz77_2 hfz77_3 hfz77_4 hfz77_5; try clear hfz7_0 hfz7_1 hfz7_2 hfz7_3 hfz7_4 hfz7_5; try clear hfz81_0 hfz81_1 hfz81_2 hfz81_3 hfz81_4 hfz81_5; try clear hfz84_0 hfz84_1 hfz84_2 hfz84_3 hfz84_4 hfz84_5; try clear hfz88_0 hfz88_1 hfz88_2 hfz88_3 hfz88_4 hfz88_5; try clear hfz91_0 hfz91_1 hfz91_2 hfz91_3 hfz91_4 hfz91_5; try clear hx301_0; try clear hx304_0; try clear hx307_0; try clear hx310_0; try clear hx312_0; try clear p2; try clear p3; try clear p30; try clear p301; try clear p304; try clear p307; try clear p31; try clear p310; try clear p312; try clear q3; try clear q30; try clear q301; try clear q304; try clear q307; try clear q31; try clear q310; try clear q312
 obtain ⟨kq, x299000_20, x299001_20, x299002_20, x299003_20, x301004_20, x301005_20, u301004, u301005, HA, HJ20, HO_301004, HO_301005, BK298, BK300, HB⟩ := hcut
 cases kq with
 | zero => exact absurd HA.out (by simp [impl_ReadInode.j4])
 | succ kj20 =>
 have H := HA.out
 clear HA
 simp only [impl_ReadInode.j4] at H
 obtain ⟨t329, A92, H⟩ := bd_ H
 by_cases c93 : t329 = true
 rotate_left
 ·replace c93 := Bool.eq_false_iff.mpr c93
  subst c93
  rw [if_neg nf_] at H
  simp only [Option.some.injEq, Prod.mk.injEq] at H
  obtain ⟨rfl, rfl, rfl, rfl, rfl, rfl, rfl⟩ := H
  obtain ⟨hcz117_0, hcz117_1, hcz117_2, hcz117_3, hcz117_4, hcz117_5⟩ := bk6_ BK300.out
  obtain ⟨hfz117_0, hfz117_1, hfz117_2, hfz117_3, hfz117_4, hfz117_5⟩ := bf6_ BK300.out
  obtain ⟨Ao118, co118, eo118⟩ := Kd.R_slice HO_301004.out
  subst eo118
  obtain ⟨Ao119, co119, eo119⟩ := Kd.R_slice HO_301005.out
  subst eo119
  go_wp2_with (first | ((with_reducible refine gate_callee (f := 19) rfl ?_); refine goesL_ (some 100) rfl rfl Tryd.func19 (by kernel_rfl) rfl #[.agg #[.int .i64 t302, .int .i64 t305, .int .i64 t308, .string x301003_11, .slice Ao118 x301004_20.length co118, .slice Ao119 x301005_20.length co119]] rfl tq_0 ?_; (with_reducible refine (impl_InodeOk.calls kj20 t302 t305 t308 x301003_11 _ _ x301004_20 _ _ x301005_20 false _ ?side1 ?side2 ?side3 ?side4 A92.out).mono ?_); (case side1 => exact tq_45); (case side2 => exact (Kd.R_reads' HO_301004.out).2.1); (case side3 => exact tq_44); (case side4 => exact (Kd.R_reads' HO_301005.out).2.1); rintro e w120 ⟨rfl, hb⟩; refine ⟨_, rfl, ?_⟩; have z_ := p_ (Kd.R_below (raR_ HO_301004) hb) <| p_ (Kd.R_below (raR_ HO_301005) hb) <| bw2_ (kb_ BK298) (kb_ BK300) th_ hb; clear HO_301004 HO_301005 BK298 BK300 HB; obtain ⟨HO_301004, HO_301005, BK298, BK300, HB⟩ := z_; (try clear hb); obtain ⟨hcz121_0, hcz121_1, hcz121_2, hcz121_3, hcz121_4, hcz121_5⟩ := bk6_ BK298.out; obtain ⟨hfz121_0, hfz121_1, hfz121_2, hfz121_3, hfz121_4, hfz121_5⟩ := bf6_ BK298.out))
  refine bodyPost_ret (results_ct rfl _ _ gb298 27 #[.int .i64 0, .int .i64 0, .int .i64 0, .string (⟨#[]⟩ : ByteArray), .slice none 0 0, .slice none 0 0] (0, 0) _ rfl tb_ Tryd.underlying27 rfl (by kernel_rfl)) rfl ?_
  exact ⟨_, _, tq_2, tq_10, tq_10, th_⟩
 subst c93
 rw [if_pos rfl] at H
 obtain ⟨t330, A94, H⟩ := bd_ H
 obtain ⟨t333, A95, H⟩ := bd_ H
 by_cases c96 : t333 = true
 rotate_left
 ·replace c96 := Bool.eq_false_iff.mpr c96
  subst c96
  rw [if_neg nf_] at H
  simp only [Option.some.injEq, Prod.mk.injEq] at H
  obtain ⟨rfl, rfl, rfl, rfl, rfl, rfl, rfl⟩ := H
  obtain ⟨hcz108_0, hcz108_1, hcz108_2, hcz108_3, hcz108_4, hcz108_5⟩ := bk6_ BK300.out
  obtain ⟨hfz108_0, hfz108_1, hfz108_2, hfz108_3, hfz108_4, hfz108_5⟩ := bf6_ BK300.out
  obtain ⟨Ao109, co109, eo109⟩ := Kd.R_slice HO_301004.out
  subst eo109
  obtain ⟨Ao110, co110, eo110⟩ := Kd.R_slice HO_301005.out
  subst eo110
  go_wp2_with (first | ((with_reducible refine gate_callee (f := 19) rfl ?_); refine goesL_ (some 100) rfl rfl Tryd.func19 (by kernel_rfl) rfl #[.agg #[.int .i64 t302, .int .i64 t305, .int .i64 t308, .string x301003_11, .slice Ao109 x301004_20.length co109, .slice Ao110 x301005_20.length co110]] rfl tq_0 ?_; (with_reducible refine (impl_InodeOk.calls kj20 t302 t305 t308 x301003_11 _ _ x301004_20 _ _ x301005_20 true _ ?side1 ?side2 ?side3 ?side4 A92.out).mono ?_); (case side1 => exact tq_45); (case side2 => exact (Kd.R_reads' HO_301004.out).2.1); (case side3 => exact tq_44); (case side4 => exact (Kd.R_reads' HO_301005.out).2.1); rintro e w111 ⟨rfl, hb⟩; refine ⟨_, rfl, ?_⟩; have z_ := p_ (Kd.R_below (raR_ HO_301004) hb) <| p_ (Kd.R_below (raR_ HO_301005) hb) <| bw2_ (kb_ BK298) (kb_ BK300) th_ hb; clear HO_301004 HO_301005 BK298 BK300 HB; obtain ⟨HO_301004, HO_301005, BK298, BK300, HB⟩ := z_; (try clear hb); (try clear hk); obtain ⟨hcz112_0, hcz112_1, hcz112_2, hcz112_3, hcz112_4, hcz112_5⟩ := bk6_ BK300.out; obtain ⟨hfz112_0, hfz112_1, hfz112_2, hfz112_3, hfz112_4, hfz112_5⟩ := bf6_ BK300.out) | (go_at_call 40; (with_reducible refine (impl_inodeText.calls kj20 t302 t305 t308 x301003_11 _ _ x301004_20 _ _ x301005_20 t330 _ ?side1 ?side2 ?side3 ?side4 A94.out).mono ?_); (case side1 => exact tq_45); (case side2 => exact (Kd.R_reads' HO_301004.out).2.1); (case side3 => exact tq_44); (case side4 => exact (Kd.R_reads' HO_301005.out).2.1); rintro e w113 ⟨v331, rfl, ho0, hb⟩; have z_ := p_ (Kd.R_below (raR_ HO_301004) hb) <| p_ (Kd.R_below (raR_ HO_301005) hb) <| p_ (Kd.R_lower ho0 (below_size th_)) <| bw2_ (kb_ BK298) (kb_ BK300) th_ hb; clear HO_301004 HO_301005 BK298 BK300 HB; obtain ⟨HO_301004, HO_301005, HO332, BK298, BK300, HB⟩ := z_; (try clear hb); (try clear ho0); obtain ⟨Ao114, co114, eo114⟩ := Kd.R_slice HO332.out; subst eo114) | (go_at_call 39; (with_reducible refine (slices_Equal_string.calls kj20 _ _ t330 _ _ l0 false _ ?side1 ?side2 ?side3 ?side4 A95.out).mono ?_); (case side1 => exact tq_89); (case side2 => exact (Kd.R_reads' HO332.out).2.1); (case side3 => exact tq_35); (case side4 => exact HC0.out); rintro e w' ⟨rfl, ⟨nd, rfl⟩⟩; (try (rw [drewN_self w113]; generalize hq_ : World.drewN w113 _ = w113; have z_ := q_ (⟨(by rw [← hq_]; exact (raR_ HO332))⟩ : Aside0 (Kd.R Kd.string 9 w113 w.heap.size (fun k_ => True) (.slice Ao114 t330.length co114) t330)) <| q_ (⟨(by rw [← hq_]; exact (raR_ HO_301004))⟩ : Aside0 (Kd.R k42 42 w113 w.heap.size (fun k_ => True) (.slice Ao109 x301004_20.length co109) x301004_20)) <| q_ (⟨(by rw [← hq_]; exact (raR_ HO_301005))⟩ : Aside0 (Kd.R k47 47 w113 w.heap.size (fun k_ => True) (.slice Ao110 x301005_20.length co110) x301005_20)) <| q_ (⟨(by rw [← hq_]; exact (kb_ BK298))⟩ : Aside0 (w113.heap[gb298]? = some (.cells #[.int .i64 x299000_20, .int .i64 x299001_20, .int .i64 x299002_20, .string x299003_20, .slice none 0 0, .slice none 0 0] 27 (0, 0)))) <| q_ (⟨(by rw [← hq_]; exact (kb_ BK300))⟩ : Aside0 (w113.heap[gb300]? = some (.cells #[.int .i64 t302, .int .i64 t305, .int .i64 t308, .string x301003_11, .slice Ao109 x301004_20.length co109, .slice Ao110 x301005_20.length co110] 27 (0, 0)))) <| (⟨tq_73⟩ : Aside0 (Below w.heap.size w w113)); clear HO332 HO_301004 HO_301005 BK298 BK300 HB hq_; obtain ⟨HO332, HO_301004, HO_301005, BK298, BK300, HB⟩ := z_)); obtain ⟨hcz115_0, hcz115_1, hcz115_2, hcz115_3, hcz115_4, hcz115_5⟩ := bk6_ BK298.out; obtain ⟨hfz115_0, hfz115_1, hfz115_2, hfz115_3, hfz115_4, hfz115_5⟩ := bf6_ BK298.out))
  refine bodyPost_ret (results_ct rfl _ _ gb298 27 #[.int .i64 0, .int .i64 0, .int .i64 0, .string (⟨#[]⟩ : ByteArray), .slice none 0 0, .slice none 0 0] (0, 0) _ rfl tb_ Tryd.underlying27 rfl (by kernel_rfl)) rfl ?_
  exact ⟨_, _, tq_2, tq_10, tq_10, th_⟩
 subst c96
 rw [if_pos rfl] at H
 simp only [Option.some.injEq, Prod.mk.injEq] at H
 obtain ⟨rfl, rfl, rfl, rfl, rfl, rfl, rfl⟩ := H
 obtain ⟨hcz98_0, hcz98_1, hcz98_2, hcz98_3, hcz98_4, hcz98_5⟩ := bk6_ BK300.out
 obtain ⟨hfz98_0, hfz98_1, hfz98_2, hfz98_3, hfz98_4, hfz98_5⟩ := bf6_ BK300.out
 obtain ⟨Ao99, co99, eo99⟩ := Kd.R_slice HO_301004.out
 subst eo99
 obtain ⟨Ao100, co100, eo100⟩ := Kd.R_slice HO_301005.out
 subst eo100
 go_wp2_with (first | ((with_reducible refine gate_callee (f := 19) rfl ?_); refine goesL_ (some 100) rfl rfl Tryd.func19 (by kernel_rfl) rfl #[.agg #[.int .i64 t302, .int .i64 t305, .int .i64 t308, .string x301003_11, .slice Ao99 x301004_20.length co99, .slice Ao100 x301005_20.length co100]] rfl tq_0 ?_; (with_reducible refine (impl_InodeOk.calls kj20 t302 t305 t308 x301003_11 _ _ x301004_20 _ _ x301005_20 true _ ?side1 ?side2 ?side3 ?side4 A92.out).mono ?_); (case side1 => exact tq_45); (case side2 => exact (Kd.R_reads' HO_301004.out).2.1); (case side3 => exact tq_44); (case side4 => exact (Kd.R_reads' HO_301005.out).2.1); rintro e w101 ⟨rfl, hb⟩; refine ⟨_, rfl, ?_⟩; have z_ := p_ (Kd.R_below (raR_ HO_301004) hb) <| p_ (Kd.R_below (raR_ HO_301005) hb) <| bw2_ (kb_ BK298) (kb_ BK300) th_ hb; clear HO_301004 HO_301005 BK298 BK300 HB; obtain ⟨HO_301004, HO_301005, BK298, BK300, HB⟩ := z_; (try clear hb); obtain ⟨hcz102_0, hcz102_1, hcz102_2, hcz102_3, hcz102_4, hcz102_5⟩ := bk6_ BK300.out; obtain ⟨hfz102_0, hfz102_1, hfz102_2, hfz102_3, hfz102_4, hfz102_5⟩ := bf6_ BK300.out) | (go_at_call 40; (with_reducible refine (impl_inodeText.calls kj20 t302 t305 t308 x301003_11 _ _ x301004_20 _ _ x301005_20 t330 _ ?side1 ?side2 ?side3 ?side4 A94.out).mono ?_); (case side1 => exact tq_45); (case side2 => exact (Kd.R_reads' HO_301004.out).2.1); (case side3 => exact tq_44); (case side4 => exact (Kd.R_reads' HO_301005.out).2.1); rintro e w103 ⟨v331, rfl, ho0, hb⟩; have z_ := p_ (Kd.R_below (raR_ HO_301004) hb) <| p_ (Kd.R_below (raR_ HO_301005) hb) <| p_ (Kd.R_lower ho0 (below_size th_)) <| bw2_ (kb_ BK298) (kb_ BK300) th_ hb; clear HO_301004 HO_301005 BK298 BK300 HB; obtain ⟨HO_301004, HO_301005, HO332, BK298, BK300, HB⟩ := z_; (try clear hb); (try clear ho0); obtain ⟨Ao104, co104, eo104⟩ := Kd.R_slice HO332.out; subst eo104) | (go_at_call 39; (with_reducible refine (slices_Equal_string.calls kj20 _ _ t330 _ _ l0 true _ ?side1 ?side2 ?side3 ?side4 A95.out).mono ?_); (case side1 => exact tq_89); (case side2 => exact (Kd.R_reads' HO332.out).2.1); (case side3 => exact tq_35); (case side4 => exact HC0.out); rintro e w' ⟨rfl, ⟨nd, rfl⟩⟩; (try (rw [drewN_self w103]; generalize hq_ : World.drewN w103 _ = w103; have z_ := q_ (⟨(by rw [← hq_]; exact (raR_ HO332))⟩ : Aside0 (Kd.R Kd.string 9 w103 w.heap.size (fun k_ => True) (.slice Ao104 t330.length co104) t330)) <| q_ (⟨(by rw [← hq_]; exact (raR_ HO_301004))⟩ : Aside0 (Kd.R k42 42 w103 w.heap.size (fun k_ => True) (.slice Ao99 x301004_20.length co99) x301004_20)) <| q_ (⟨(by rw [← hq_]; exact (raR_ HO_301005))⟩ : Aside0 (Kd.R k47 47 w103 w.heap.size (fun k_ => True) (.slice Ao100 x301005_20.length co100) x301005_20)) <| q_ (⟨(by rw [← hq_]; exact (kb_ BK298))⟩ : Aside0 (w103.heap[gb298]? = some (.cells #[.int .i64 x299000_20, .int .i64 x299001_20, .int .i64 x299002_20, .string x299003_20, .slice none 0 0, .slice none 0 0] 27 (0, 0)))) <| q_ (⟨(by rw [← hq_]; exact (kb_ BK300))⟩ : Aside0 (w103.heap[gb300]? = some (.cells #[.int .i64 t302, .int .i64 t305, .int .i64 t308, .string x301003_11, .slice Ao99 x301004_20.length co99, .slice Ao100 x301005_20.length co100] 27 (0, 0)))) <| (⟨tq_73⟩ : Aside0 (Below w.heap.size w w103)); clear HO332 HO_301004 HO_301005 BK298 BK300 HB hq_; obtain ⟨HO332, HO_301004, HO_301005, BK298, BK300, HB⟩ := z_)); obtain ⟨hcz105_0, hcz105_1, hcz105_2, hcz105_3, hcz105_4, hcz105_5⟩ := bk6_ BK300.out; obtain ⟨hfz105_0, hfz105_1, hfz105_2, hfz105_3, hfz105_4, hfz105_5⟩ := bf6_ BK300.out; obtain ⟨hcz106_0, hcz106_1, hcz106_2, hcz106_3, hcz106_4, hcz106_5⟩ := bk6_ BK298.out; obtain ⟨hfz106_0, hfz106_1, hfz106_2, hfz106_3, hfz106_4, hfz106_5⟩ := bf6_ BK298.out))
 refine bodyPost_ret (results_ct rfl _ _ gb298 27 #[.int .i64 t302, .int .i64 t305, .int .i64 t308, .string x301003_11, .slice Ao99 x301004_20.length co99, .slice Ao100 x301005_20.length co100] (0, 0) _ rfl tb_ Tryd.underlying27 rfl (by kernel_rfl)) rfl ?_
 exact ⟨_, _, tq_2, (by (with_reducible repeat (first | apply Kd.R_alloc | apply Kd.R_drewN | apply Kd.R_drew)); exact Kd.R_mono (rR_ (rR_ (rR_ (rR_ (rR_ (rR_ (Kd.R_types HO_301004.out BK298.out (by decide)))))))) (fun _ hk => trivial)), (by (with_reducible repeat (first | apply Kd.R_alloc | apply Kd.R_drewN | apply Kd.R_drew)); exact Kd.R_mono (rR_ (rR_ (rR_ (rR_ (rR_ (rR_ (Kd.R_types HO_301005.out BK298.out (by decide)))))))) (fun _ hk => trivial)), th_⟩

end Go.Proofs.YtjfhddenmnjgbaaDoor.PFnAnyInode
