/- Contracts of Go functions, written by a program of ours over the print of the kit: each says that the call returns what the Lean function beside it computes. Conditions: as each theorem states them. -/
import Derived.Test.YtjfhddenmnjgbaaDoorPkFnInodes
import Derived.Test.YtjfhddenmnjgbaaDoorPFnInodesx0
import Derived.Test.YtjfhddenmnjgbaaDoorPFnInodesx6
import Derived.Test.YtjfhddenmnjgbaaDoorPFnInodesx7
import Derived.Test.YtjfhddenmnjgbaaDoorPFnInodesx8
namespace Go.Proofs.YtjfhddenmnjgbaaDoor.PFnInodes
open Go.RowKit Go.Proofs.YtjfhddenmnjgbaaDoorW.PrintWords Go.Proofs.YtjfhddenmnjgbaaDoorW.PrintLast Go.Proofs.YtjfhddenmnjgbaaDoorW.PrintMore
attribute [local go_sem] max2_int min2_int max_two min_two max_three min_three max_four min_four setCell_drewN   -- for this text's walks alone
set_option linter.unusedVariables false
set_option linter.unusedSimpArgs false

/-! ### impl_ReadInode: function 9 -/
mutual
def impl_ReadInode.j0 : Nat → List ByteArray → Bool → Option (Int × Int × Int × ByteArray × (List (S42)) × (List (S47)) × Bool)
 | 0, _, _ => none
 | k + 1, x0, x17 => if x17 = true then (some (0, 0, 0, (⟨#[]⟩ : ByteArray), ([] : List (S42)), ([] : List (S47)), false)) else (if 0 < (x0.length : Int) then ((impl_NumAt.f k (rdOf ByteArray.empty x0 0) 0 1).bind fun bt186 => ((impl_NumAt.f k (rdOf ByteArray.empty x0 0) 1 2).bind fun bt189 => ((impl_NumAt.f k (rdOf ByteArray.empty x0 0) 3 2).bind fun bt192 => (if bt186.1 = 1 then (if 1 < (x0.length : Int) then (impl_ReadInode.j1 k x0 bt186.1 bt189.1 bt192.1 (rdOf ByteArray.empty x0 1)) else (none)) else (impl_ReadInode.j1 k x0 bt186.1 bt189.1 bt192.1 (⟨#[]⟩ : ByteArray)))))) else (none))
def impl_ReadInode.j1 : Nat → List ByteArray → Int → Int → Int → ByteArray → Option (Int × Int × Int × ByteArray × (List (S42)) × (List (S47)) × Bool)
 | 0, _, _, _, _, _ => none
 | k + 1, x0, x185000, x185001, x185002, x185003 => if 2 ≤ (x0.length : Int) then (impl_ReadInode.l0 k x0 (x0.drop 2) ((x0.drop 2).length : Int) 0 x185000 x185001 x185002 x185003 ([] : List (S42)) ([] : List (S47))) else (none)
def impl_ReadInode.j4 : Nat → List ByteArray → Int → Int → Int → ByteArray → List (S42) → List (S47) → Option (Int × Int × Int × ByteArray × (List (S42)) × (List (S47)) × Bool)
 | 0, _, _, _, _, _, _, _ => none
 | k + 1, x0, x185000, x185001, x185002, x185003, x185004, x185005 => (impl_InodeOk.f k x185000 x185001 x185002 x185003 x185004 x185005).bind fun t213 => (if t213 = true then ((impl_inodeText.f k x185000 x185001 x185002 x185003 x185004 x185005).bind fun t214 => ((slices_Equal_string.f k t214 x0).bind fun t217 => (if t217 = true then (some (x185000, x185001, x185002, x185003, x185004, x185005, true)) else (some (0, 0, 0, (⟨#[]⟩ : ByteArray), ([] : List (S42)), ([] : List (S47)), false))))) else (some (0, 0, 0, (⟨#[]⟩ : ByteArray), ([] : List (S42)), ([] : List (S47)), false)))
def impl_ReadInode.l0 : Nat → List ByteArray → List ByteArray → Int → Int → Int → Int → Int → ByteArray → List (S42) → List (S47) → Option (Int × Int × Int × ByteArray × (List (S42)) × (List (S47)) × Bool)
 | 0, _, _, _, _, _, _, _, _, _, _ => none
 | k + 1, x0, x52, x53, x54, x185000, x185001, x185002, x185003, x185004, x185005 => if x54 < x53 then (if 0 ≤ x54 then (if x54 < (x52.length : Int) then ((impl_zeroWord.f).bind fun t197 => (if (rdOf ByteArray.empty x52 x54).toList = t197.toList then (impl_ReadInode.j4 k x0 x185000 x185001 x185002 x185003 x185004 x185005) else ((impl_ReadRec.f k (rdOf ByteArray.empty x52 x54)).bind fun bt198 => ((impl_ReadEntry.f k (rdOf ByteArray.empty x52 x54)).bind fun bt203 => (if x185000 = 1 then (impl_ReadInode.j3 k x0 bt203.2.2 x52 x53 x54 bt198.2.2.2 x185000 x185001 x185002 x185003 x185004 x185005 bt198.1 bt198.2.1 bt198.2.2.1 bt203.1 bt203.2.1) else (impl_ReadInode.j3 k x0 bt203.2.2 x52 x53 x54 false x185000 x185001 x185002 x185003 x185004 x185005 bt198.1 bt198.2.1 bt198.2.2.1 bt203.1 bt203.2.1)))))) else (none)) else (none)) else (impl_ReadInode.j4 k x0 x185000 x185001 x185002 x185003 x185004 x185005)
def impl_ReadInode.j3 : Nat → List ByteArray → Bool → List ByteArray → Int → Int → Bool → Int → Int → Int → ByteArray → List (S42) → List (S47) → Int → Int → ByteArray → Int → ByteArray → Option (Int × Int × Int × ByteArray × (List (S42)) × (List (S47)) × Bool)
 | 0, _, _, _, _, _, _, _, _, _, _, _, _, _, _, _, _, _ => none
 | k + 1, x0, x10, x52, x53, x54, x72, x185000, x185001, x185002, x185003, x185004, x185005, x203000, x203001, x203002, x207000, x207001 => if x72 = true then (if x185004.length < 4398046511104 then (impl_ReadInode.l0 k x0 x52 x53 (wrap64 (x54 + 1)) x185000 x185001 x185002 x185003 (x185004 ++ [(⟨x203000, x203001, x203002⟩ : S42)]) x185005) else (none)) else (if x185000 = 2 then (if x10 = true then (if x185005.length < 5864062014805 then (impl_ReadInode.l0 k x0 x52 x53 (wrap64 (x54 + 1)) x185000 x185001 x185002 x185003 x185004 (x185005 ++ [(⟨x207000, x207001⟩ : S47)])) else (none)) else (some (0, 0, 0, (⟨#[]⟩ : ByteArray), ([] : List (S42)), ([] : List (S47)), false))) else (some (0, 0, 0, (⟨#[]⟩ : ByteArray), ([] : List (S42)), ([] : List (S47)), false)))
end
def impl_ReadInode.f (k : Nat) (l0 : List ByteArray) : Option (Int × Int × Int × ByteArray × (List (S42)) × (List (S47)) × Bool) := if (l0.length : Int) = 8 then ((slices_ContainsFunc_string.f k l0 ()).bind fun t183 => (impl_ReadInode.j0 k l0 t183)) else (impl_ReadInode.j0 k l0 true)
theorem impl_ReadInode.mono_l : ∀ k, (∀ y0 y1, LeO (impl_ReadInode.j0 k y0 y1) (impl_ReadInode.j0 (k + 1) y0 y1)) ∧ (∀ y0 y1 y2 y3 y4, LeO (impl_ReadInode.j1 k y0 y1 y2 y3 y4) (impl_ReadInode.j1 (k + 1) y0 y1 y2 y3 y4)) ∧ (∀ y0 y1 y2 y3 y4 y5 y6, LeO (impl_ReadInode.j4 k y0 y1 y2 y3 y4 y5 y6) (impl_ReadInode.j4 (k + 1) y0 y1 y2 y3 y4 y5 y6)) ∧ (∀ y0 y1 y2 y3 y4 y5 y6 y7 y8 y9, LeO (impl_ReadInode.l0 k y0 y1 y2 y3 y4 y5 y6 y7 y8 y9) (impl_ReadInode.l0 (k + 1) y0 y1 y2 y3 y4 y5 y6 y7 y8 y9)) ∧ (∀ y0 y1 y2 y3 y4 y5 y6 y7 y8 y9 y10 y11 y12 y13 y14 y15 y16, LeO (impl_ReadInode.j3 k y0 y1 y2 y3 y4 y5 y6 y7 y8 y9 y10 y11 y12 y13 y14 y15 y16) (impl_ReadInode.j3 (k + 1) y0 y1 y2 y3 y4 y5 y6 y7 y8 y9 y10 y11 y12 y13 y14 y15 y16))
 | 0 => ⟨fun _ _ r h => by simp [impl_ReadInode.j0] at h, fun _ _ _ _ _ r h => by simp [impl_ReadInode.j1] at h, fun _ _ _ _ _ _ _ r h => by simp [impl_ReadInode.j4] at h, fun _ _ _ _ _ _ _ _ _ _ r h => by simp [impl_ReadInode.l0] at h, fun _ _ _ _ _ _ _ _ _ _ _ _ _ _ _ _ _ r h => by simp [impl_ReadInode.j3] at h⟩
 | k + 1 => by
  obtain ⟨ih0, ih1, ih2, ih3, ih4⟩ := impl_ReadInode.mono_l k
  refine ⟨?_, ?_, ?_, ?_, ?_⟩
  ·intro y0 y1
   unfold impl_ReadInode.j0
   exact mo_3
  ·intro y0 y1 y2 y3 y4
   unfold impl_ReadInode.j1
   exact mo_3
  ·intro y0 y1 y2 y3 y4 y5 y6
   unfold impl_ReadInode.j4
   exact mo_3
  ·intro y0 y1 y2 y3 y4 y5 y6 y7 y8 y9
   unfold impl_ReadInode.l0
   exact mo_3
  ·intro y0 y1 y2 y3 y4 y5 y6 y7 y8 y9 y10 y11 y12 y13 y14 y15 y16
   unfold impl_ReadInode.j3
   exact mo_3
theorem impl_ReadInode.mono : ∀ a0 k, LeO (impl_ReadInode.f k a0) (impl_ReadInode.f (k + 1) a0) := by
 intro a0 k
 obtain ⟨ih0, ih1, ih2, ih3, ih4⟩ := impl_ReadInode.mono_l k
 unfold impl_ReadInode.f
 repeat' first
   | (with_reducible exact ih0 ..)
   | (with_reducible exact ih1 ..)
   | (with_reducible exact ih2 ..)
   | (with_reducible exact ih3 ..)
   | (with_reducible exact ih4 ..)
   | (with_reducible exact impl_InodeOk.mono ..)
   | (with_reducible exact impl_NumAt.mono ..)
   | (with_reducible exact impl_ReadEntry.mono ..)
   | (with_reducible exact impl_ReadRec.mono ..)
   | (with_reducible exact impl_inodeText.mono ..)
   | (with_reducible exact slices_ContainsFunc_string.mono ..)
   | (with_reducible exact slices_Equal_string.mono ..)
   | (with_reducible exact LeO.refl _)
   | (with_reducible exact LeO.none _)
   | (with_reducible refine LeO.ite ?_ ?_)
   | (with_reducible refine LeO.bind ?_ (fun _ => ?_))
   | exact ih0 ..
   | exact ih1 ..
   | exact ih2 ..
   | exact ih3 ..
   | exact ih4 ..
   | exact impl_InodeOk.mono ..
   | exact impl_NumAt.mono ..
   | exact impl_ReadEntry.mono ..
   | exact impl_ReadRec.mono ..
   | exact impl_inodeText.mono ..
   | exact slices_ContainsFunc_string.mono ..
   | exact slices_Equal_string.mono ..
   | exact LeO.none _
   | refine LeO.ite ?_ ?_
   | refine LeO.bind ?_ (fun _ => ?_)
set_option maxHeartbeats 8000000 in
set_option maxRecDepth 100000 in
theorem impl_ReadInode.calls (k : Nat) (A0 : Option Addr) (c0 : Nat) (l0 : List ByteArray) (r1 : Int) (r2 : Int) (r3 : Int) (r4 : ByteArray) (r5 : List (S42)) (r6 : List (S47)) (r7 : Bool) (w : World) (hr0 : Kd.C Kd.string w A0 l0.length l0) (hc0 : l0.length ≤ c0) (h : impl_ReadInode.f k l0 = some (r1, r2, r3, r4, r5, r6, r7)) :
  Calls Tryd.prog 9 #[.slice A0 l0.length c0] w fun e w' => ∃ v4_ v5_ : Value, e = .returned (.tuple #[.agg #[.int .i64 r1, .int .i64 r2, .int .i64 r3, .string r4, v4_, v5_], .bool r7]) ∧ Kd.R k42 42 w' w.heap.size (fun _ => True) v4_ r5 ∧ Kd.R k47 47 w' w.heap.size (fun _ => True) v5_ r6 ∧ Below w.heap.size w w' := by
 have hu27 := Tryd.underlying27
 have hu42 := Tryd.underlying42
 have hu47 := Tryd.underlying47
 have HR0 := Aside0.mk hr0
 have HC0 := Aside0.mk hc0
 clear hr0 hc0
 have HB := Aside0.mk (Below.refl w.heap.size w)
 unfold impl_ReadInode.f at h
 have H := h
 clear h
 have HC2 := Aside0.mk H
 clear H
 go_enter Tryd.func9, Tryd.ntmps9
 go_upto_region 1 with (first | ((with_reducible refine gate_dst (N := 2) rfl ?_); refine be_ 2 (cs := #[.int .i64 0, .int .i64 0, .int .i64 0, .string (⟨#[]⟩ : ByteArray), .slice none 0 0, .slice none 0 0]) 27 ?_; intro gb182 hg w3 hbox hb; have z_ := bx0_ th_ hb hbox hg; clear HB; obtain ⟨HB, BK182, GW182, GE182⟩ := z_; clear hb hbox hg))
 (try simp only [Act.put, List.setIfInBounds_toArray, List.set_cons_zero, List.set_cons_succ])
 go_cut [17] (fun v17 wc => ∃ (kq : Nat) (x17_1 : Bool), v17 = .bool x17_1 ∧ Aside0 (impl_ReadInode.j0 kq l0 x17_1 = some (r1, r2, r3, r4, r5, r6, r7)) ∧ Aside0 (kq ≤ k) ∧ Aside0 (wc.heap[gb182]? = some (.cells #[.int .i64 0, .int .i64 0, .int .i64 0, .string (⟨#[]⟩ : ByteArray), (.slice none 0 0), (.slice none 0 0)] 27 (0, 0))) ∧ Aside0 (Below w.heap.size w wc))
 case first =>
  have H := HC2.out
  clear HC2
  by_cases c4 : (l0.length : Int) = 8
  rotate_left
  ·rw [if_neg c4] at H
   have c4b0 := beq_eq_false_iff_ne.mpr c4
   have c4b1 := bne_iff_ne.mpr c4
   (first | rw [c4b0] | (simp only [i64_w, i32_w]; rw [c4b0]) | skip)
   have H' := Aside0.mk H
   clear H
   go_wp2
   go_meet
   case rel => exact ⟨_, (true), tq_13, H', ⟨tq_46⟩, ⟨(kb_ BK182)⟩, ⟨th_⟩⟩
  rw [if_pos c4] at H
  have c4b0 := beq_iff_eq.mpr c4
  have c4b1 := bne_eq_false_iff_eq.mpr c4
  clear c4
  (first | rw [c4b0] | (simp only [i64_w, i32_w]; rw [c4b0]) | skip)
  obtain ⟨t183, A5, H⟩ := bd_ H
  have H' := Aside0.mk H
  clear H
  go_wp2_with (first | (go_at_call 35; (with_reducible refine (slices_ContainsFunc_string.calls k _ _ l0 () t183 _ ?side1 ?side2 A5.out).mono ?_); (case side1 => exact tq_79); (case side2 => exact HC0.out); rintro e w' ⟨rfl, ⟨nd, rfl⟩⟩))
  go_meet
  case rel => exact ⟨_, (t183), tq_13, H', ⟨tq_46⟩, ⟨(kb_ BK182)⟩, ⟨th_⟩⟩
 case rest =>
 clear HC2
 try clear p2; try clear c4; try clear c4b0; try clear c4b1
 obtain ⟨kq, x17_1, rfl, HA, HJ1, BK182, HB⟩ := hcut
 cases kq with
 | zero => exact absurd HA.out (by simp [impl_ReadInode.j0])
 | succ kj1 =>
 have H := HA.out
 clear HA
 simp only [impl_ReadInode.j0] at H
 by_cases c6 : x17_1 = true
 ·subst c6
  rw [if_pos rfl] at H
  simp only [Option.some.injEq, Prod.mk.injEq] at H
  obtain ⟨rfl, rfl, rfl, rfl, rfl, rfl, rfl⟩ := H
  obtain ⟨hcz7_0, hcz7_1, hcz7_2, hcz7_3, hcz7_4, hcz7_5⟩ := bk6_ BK182.out
  obtain ⟨hfz7_0, hfz7_1, hfz7_2, hfz7_3, hfz7_4, hfz7_5⟩ := bf6_ BK182.out
  go_wp2
  refine bodyPost_ret (results_ct rfl _ _ gb182 27 #[.int .i64 0, .int .i64 0, .int .i64 0, .string (⟨#[]⟩ : ByteArray), .slice none 0 0, .slice none 0 0] (0, 0) _ rfl tb_ Tryd.underlying27 rfl (by kernel_rfl)) rfl ?_
  exact ⟨_, _, tq_3, tq_23, tq_23, th_⟩
 replace c6 := Bool.eq_false_iff.mpr c6
 subst c6
 rw [if_neg nf_] at H
 obtain ⟨c8, H⟩ := fc_ H
 have c8b0 := decide_eq_true c8
 have c8b1 : decide (0 < l0.length) = true := decide_eq_true (by omega)
 clear c8
 obtain ⟨⟨t186, t187⟩, A9, H⟩ := bd_ H
 try dsimp -simprocs only at H
 obtain ⟨⟨t189, t190⟩, A10, H⟩ := bd_ H
 try dsimp -simprocs only at H
 obtain ⟨⟨t192, t193⟩, A11, H⟩ := bd_ H
 try dsimp -simprocs only at H
 have HC12 := Aside0.mk H
 clear H
 go_upto_if 46 with (first | ((with_reducible refine gate_dst (N := 4) rfl ?_); refine be_ 4 (cs := #[.int .i64 0, .int .i64 0, .int .i64 0, .string (⟨#[]⟩ : ByteArray), .slice none 0 0, .slice none 0 0]) 27 ?_; intro gb184 hg w13 hbox hb; have z_ := bx1_ (kb_ BK182) th_ hb hbox hg; clear BK182 HB; obtain ⟨BK182, HB, BK184, GW184, GE184, NB182_184, NB184_182⟩ := z_; clear hb hbox hg; obtain ⟨n184_182, n182_184⟩ := an2_ NB184_182 NB182_184; obtain ⟨hcz15_0, hcz15_1, hcz15_2, hcz15_3, hcz15_4, hcz15_5⟩ := bk6_ BK184.out; obtain ⟨hfz15_0, hfz15_1, hfz15_2, hfz15_3, hfz15_4, hfz15_5⟩ := bf6_ BK184.out; have p185 : 0 ≤ (0 : Int) := (by omega); have q185 : 0 < (l0.length : Int) := of_decide_eq_true tq_5; obtain ⟨ad185, e185, hx185_0⟩ := Kd.at_string HR0.out 0 p185 q185; cases e185; have qi185 : (0 < l0.length) = True := eq_true (by omega); (try rw [show ((0 : Int)).toNat = 0 from rfl] at hx185_0); (try rw [Addr.add_zero'] at hx185_0); have hn185_0 : ad185.block ≠ gb184 := Nat.ne_of_lt (Nat.lt_of_lt_of_le tq_82 GW184.out); have hn185_1 : ad185.block ≠ gb184 := Nat.ne_of_lt (Nat.lt_of_lt_of_le tq_82 GW184.out); have hn185_2 : ad185.block ≠ gb184 := Nat.ne_of_lt (Nat.lt_of_lt_of_le tq_82 GW184.out); have hn185_3 : ad185.block ≠ gb184 := Nat.ne_of_lt (Nat.lt_of_lt_of_le tq_82 GW184.out); have hn185_4 : ad185.block ≠ gb184 := Nat.ne_of_lt (Nat.lt_of_lt_of_le tq_82 GW184.out); have hn185_5 : ad185.block ≠ gb184 := Nat.ne_of_lt (Nat.lt_of_lt_of_le tq_82 GW184.out); replace hx185_0 := hx_ HB.out hx185_0; replace hx185_0 := (cell_far (p := ⟨gb184, 0, none⟩) (by first | (rw [add_block]; exact hn185_0) | (show (Addr.add _ _).block ≠ _; rw [add_block]; exact hn185_0) | exact hn185_0) (.int .i64 0)).trans hx185_0; replace hx185_0 := (cell_far (p := ⟨gb184, 1, none⟩) (by first | (rw [add_block]; exact hn185_1) | (show (Addr.add _ _).block ≠ _; rw [add_block]; exact hn185_1) | exact hn185_1) (.int .i64 0)).trans hx185_0; replace hx185_0 := (cell_far (p := ⟨gb184, 2, none⟩) (by first | (rw [add_block]; exact hn185_2) | (show (Addr.add _ _).block ≠ _; rw [add_block]; exact hn185_2) | exact hn185_2) (.int .i64 0)).trans hx185_0; replace hx185_0 := (cell_far (p := ⟨gb184, 3, none⟩) (by first | (rw [add_block]; exact hn185_3) | (show (Addr.add _ _).block ≠ _; rw [add_block]; exact hn185_3) | exact hn185_3) (.string (⟨#[]⟩ : ByteArray))).trans hx185_0; replace hx185_0 := (cell_far (p := ⟨gb184, 4, none⟩) (by first | (rw [add_block]; exact hn185_4) | (show (Addr.add _ _).block ≠ _; rw [add_block]; exact hn185_4) | exact hn185_4) (.slice none 0 0)).trans hx185_0; replace hx185_0 := (cell_far (p := ⟨gb184, 5, none⟩) (by first | (rw [add_block]; exact hn185_5) | (show (Addr.add _ _).block ≠ _; rw [add_block]; exact hn185_5) | exact hn185_5) (.slice none 0 0)).trans hx185_0; clear hn185_0 hn185_1 hn185_2 hn185_3 hn185_4 hn185_5; replace p185 := eq_true p185; replace q185 := eq_true q185) | ((with_reducible refine gate_callee (f := 37) rfl ?_); refine goesL_ (some 24) rfl rfl Tryd.func37 (by kernel_rfl) rfl #[.string (rdOf ByteArray.empty l0 0), .int .i64 0, .int .i64 1] rfl tq_0 ?_; (with_reducible refine (impl_NumAt.calls kj1 (rdOf ByteArray.empty l0 0) 0 1 t186 t187 _ A9.out).mono ?_); rintro e w' ⟨rfl, ⟨nd, rfl⟩⟩; refine ⟨_, rfl, ?_⟩; have p188 : 0 ≤ (0 : Int) := (by omega); have q188 : 0 < (l0.length : Int) := of_decide_eq_true tq_5; obtain ⟨ad188, e188, hx188_0⟩ := Kd.at_string HR0.out 0 p188 q188; obtain rfl : ad185 = ad188 := (by injection e188); have qi188 : (0 < l0.length) = True := eq_true (by omega); (try rw [show ((0 : Int)).toNat = 0 from rfl] at hx188_0); (try rw [Addr.add_zero'] at hx188_0); have hn188_0 : ad185.block ≠ gb184 := Nat.ne_of_lt (Nat.lt_of_lt_of_le tq_77 GW184.out); have hn188_1 : ad185.block ≠ gb184 := Nat.ne_of_lt (Nat.lt_of_lt_of_le tq_77 GW184.out); have hn188_2 : ad185.block ≠ gb184 := Nat.ne_of_lt (Nat.lt_of_lt_of_le tq_77 GW184.out); have hn188_3 : ad185.block ≠ gb184 := Nat.ne_of_lt (Nat.lt_of_lt_of_le tq_77 GW184.out); have hn188_4 : ad185.block ≠ gb184 := Nat.ne_of_lt (Nat.lt_of_lt_of_le tq_77 GW184.out); have hn188_5 : ad185.block ≠ gb184 := Nat.ne_of_lt (Nat.lt_of_lt_of_le tq_77 GW184.out); have hn188_6 : ad185.block ≠ gb184 := Nat.ne_of_lt (Nat.lt_of_lt_of_le tq_77 GW184.out); replace hx188_0 := hx_ HB.out hx188_0; replace hx188_0 := (cell_far (p := ⟨gb184, 0, none⟩) (by first | (rw [add_block]; exact hn188_0) | (show (Addr.add _ _).block ≠ _; rw [add_block]; exact hn188_0) | exact hn188_0) (.int .i64 0)).trans hx188_0; replace hx188_0 := (cell_far (p := ⟨gb184, 1, none⟩) (by first | (rw [add_block]; exact hn188_1) | (show (Addr.add _ _).block ≠ _; rw [add_block]; exact hn188_1) | exact hn188_1) (.int .i64 0)).trans hx188_0; replace hx188_0 := (cell_far (p := ⟨gb184, 2, none⟩) (by first | (rw [add_block]; exact hn188_2) | (show (Addr.add _ _).block ≠ _; rw [add_block]; exact hn188_2) | exact hn188_2) (.int .i64 0)).trans hx188_0; replace hx188_0 := (cell_far (p := ⟨gb184, 3, none⟩) (by first | (rw [add_block]; exact hn188_3) | (show (Addr.add _ _).block ≠ _; rw [add_block]; exact hn188_3) | exact hn188_3) (.string (⟨#[]⟩ : ByteArray))).trans hx188_0; replace hx188_0 := (cell_far (p := ⟨gb184, 4, none⟩) (by first | (rw [add_block]; exact hn188_4) | (show (Addr.add _ _).block ≠ _; rw [add_block]; exact hn188_4) | exact hn188_4) (.slice none 0 0)).trans hx188_0; replace hx188_0 := (cell_far (p := ⟨gb184, 5, none⟩) (by first | (rw [add_block]; exact hn188_5) | (show (Addr.add _ _).block ≠ _; rw [add_block]; exact hn188_5) | exact hn188_5) (.slice none 0 0)).trans hx188_0; replace hx188_0 := (cell_far (p := ⟨gb184, 0, none⟩) (by first | (rw [add_block]; exact hn188_6) | (show (Addr.add _ _).block ≠ _; rw [add_block]; exact hn188_6) | exact hn188_6) (.int .i64 t186)).trans hx188_0; clear hn188_0 hn188_1 hn188_2 hn188_3 hn188_4 hn188_5 hn188_6; replace p188 := eq_true p188; replace q188 := eq_true q188) | ((with_reducible refine gate_callee (f := 37) rfl ?_); refine goesL_ (some 32) rfl rfl Tryd.func37 (by kernel_rfl) rfl #[.string (rdOf ByteArray.empty l0 0), .int .i64 1, .int .i64 2] rfl tq_0 ?_; (with_reducible refine (impl_NumAt.calls kj1 (rdOf ByteArray.empty l0 0) 1 2 t189 t190 _ A10.out).mono ?_); rintro e w' ⟨rfl, ⟨nd, rfl⟩⟩; refine ⟨_, rfl, ?_⟩; have p191 : 0 ≤ (0 : Int) := (by omega); have q191 : 0 < (l0.length : Int) := of_decide_eq_true tq_5; obtain ⟨ad191, e191, hx191_0⟩ := Kd.at_string HR0.out 0 p191 q191; obtain rfl : ad185 = ad191 := (by injection e191); have qi191 : (0 < l0.length) = True := eq_true (by omega); (try rw [show ((0 : Int)).toNat = 0 from rfl] at hx191_0); (try rw [Addr.add_zero'] at hx191_0); have hn191_0 : ad185.block ≠ gb184 := Nat.ne_of_lt (Nat.lt_of_lt_of_le tq_69 GW184.out); have hn191_1 : ad185.block ≠ gb184 := Nat.ne_of_lt (Nat.lt_of_lt_of_le tq_69 GW184.out); have hn191_2 : ad185.block ≠ gb184 := Nat.ne_of_lt (Nat.lt_of_lt_of_le tq_69 GW184.out); have hn191_3 : ad185.block ≠ gb184 := Nat.ne_of_lt (Nat.lt_of_lt_of_le tq_69 GW184.out); have hn191_4 : ad185.block ≠ gb184 := Nat.ne_of_lt (Nat.lt_of_lt_of_le tq_69 GW184.out); have hn191_5 : ad185.block ≠ gb184 := Nat.ne_of_lt (Nat.lt_of_lt_of_le tq_69 GW184.out); have hn191_6 : ad185.block ≠ gb184 := Nat.ne_of_lt (Nat.lt_of_lt_of_le tq_69 GW184.out); have hn191_7 : ad185.block ≠ gb184 := Nat.ne_of_lt (Nat.lt_of_lt_of_le tq_69 GW184.out); replace hx191_0 := hx_ HB.out hx191_0; replace hx191_0 := (cell_far (p := ⟨gb184, 0, none⟩) (by first | (rw [add_block]; exact hn191_0) | (show (Addr.add _ _).block ≠ _; rw [add_block]; exact hn191_0) | exact hn191_0) (.int .i64 0)).trans hx191_0; replace hx191_0 := (cell_far (p := ⟨gb184, 1, none⟩) (by first | (rw [add_block]; exact hn191_1) | (show (Addr.add _ _).block ≠ _; rw [add_block]; exact hn191_1) | exact hn191_1) (.int .i64 0)).trans hx191_0; replace hx191_0 := (cell_far (p := ⟨gb184, 2, none⟩) (by first | (rw [add_block]; exact hn191_2) | (show (Addr.add _ _).block ≠ _; rw [add_block]; exact hn191_2) | exact hn191_2) (.int .i64 0)).trans hx191_0; replace hx191_0 := (cell_far (p := ⟨gb184, 3, none⟩) (by first | (rw [add_block]; exact hn191_3) | (show (Addr.add _ _).block ≠ _; rw [add_block]; exact hn191_3) | exact hn191_3) (.string (⟨#[]⟩ : ByteArray))).trans hx191_0; replace hx191_0 := (cell_far (p := ⟨gb184, 4, none⟩) (by first | (rw [add_block]; exact hn191_4) | (show (Addr.add _ _).block ≠ _; rw [add_block]; exact hn191_4) | exact hn191_4) (.slice none 0 0)).trans hx191_0; replace hx191_0 := (cell_far (p := ⟨gb184, 5, none⟩) (by first | (rw [add_block]; exact hn191_5) | (show (Addr.add _ _).block ≠ _; rw [add_block]; exact hn191_5) | exact hn191_5) (.slice none 0 0)).trans hx191_0; replace hx191_0 := (cell_far (p := ⟨gb184, 0, none⟩) (by first | (rw [add_block]; exact hn191_6) | (show (Addr.add _ _).block ≠ _; rw [add_block]; exact hn191_6) | exact hn191_6) (.int .i64 t186)).trans hx191_0; replace hx191_0 := (cell_far (p := ⟨gb184, 1, none⟩) (by first | (rw [add_block]; exact hn191_7) | (show (Addr.add _ _).block ≠ _; rw [add_block]; exact hn191_7) | exact hn191_7) (.int .i64 t189)).trans hx191_0; clear hn191_0 hn191_1 hn191_2 hn191_3 hn191_4 hn191_5 hn191_6 hn191_7; replace p191 := eq_true p191; replace q191 := eq_true q191) | ((with_reducible refine gate_callee (f := 37) rfl ?_); refine goesL_ (some 40) rfl rfl Tryd.func37 (by kernel_rfl) rfl #[.string (rdOf ByteArray.empty l0 0), .int .i64 3, .int .i64 2] rfl tq_0 ?_; (with_reducible refine (impl_NumAt.calls kj1 (rdOf ByteArray.empty l0 0) 3 2 t192 t193 _ A11.out).mono ?_); rintro e w' ⟨rfl, ⟨nd, rfl⟩⟩; refine ⟨_, rfl, ?_⟩))
 (try simp only [Act.put, List.setIfInBounds_toArray, List.set_cons_zero, List.set_cons_succ])
 go_cut [] (fun wc => ∃ (kq : Nat) (x185003_11 : ByteArray), Aside0 (impl_ReadInode.j1 kq l0 t186 t189 t192 x185003_11 = some (r1, r2, r3, r4, r5, r6, r7)) ∧ Aside0 (kq ≤ kj1) ∧ Aside0 (wc.heap[gb182]? = some (.cells #[.int .i64 0, .int .i64 0, .int .i64 0, .string (⟨#[]⟩ : ByteArray), (.slice none 0 0), (.slice none 0 0)] 27 (0, 0))) ∧ Aside0 (wc.heap[gb184]? = some (.cells #[.int .i64 t186, .int .i64 t189, .int .i64 t192, .string x185003_11, (.slice none 0 0), (.slice none 0 0)] 27 (0, 0))) ∧ Aside0 (Below w.heap.size w wc))
 case first =>
  have H := HC12.out
  clear HC12
  by_cases c16 : t186 = 1
  rotate_left
  ·rw [if_neg c16] at H
   have c16b0 := beq_eq_false_iff_ne.mpr c16
   have c16b1 := bne_iff_ne.mpr c16
   (first | rw [c16b0] | (simp only [i64_w, i32_w]; rw [c16b0]) | skip)
   have H' := Aside0.mk H
   clear H
   go_wp2
   go_meet
   case rel => exact ⟨_, ((⟨#[]⟩ : ByteArray)), H', ⟨(by have := HJ1.out; first | omega | exact Nat.le_refl _)⟩, ⟨tb_⟩, ⟨tb_⟩, ⟨th_⟩⟩
  rw [if_pos c16] at H
  have c16b0 := beq_iff_eq.mpr c16
  have c16b1 := bne_eq_false_iff_eq.mpr c16
  clear c16
  (first | rw [c16b0] | (simp only [i64_w, i32_w]; rw [c16b0]) | skip)
  obtain ⟨c17, H⟩ := fc_ H
  have c17b0 := decide_eq_true c17
  have c17b1 : decide (1 < l0.length) = true := decide_eq_true (by omega)
  clear c17
  have H' := Aside0.mk H
  clear H
  have p194 : 0 ≤ (1 : Int) := (by omega)
  have q194 : 1 < (l0.length : Int) := of_decide_eq_true tq_5
  obtain ⟨ad194, e194, hx194_0⟩ := Kd.at_string HR0.out 1 p194 q194
  obtain rfl : ad185 = ad194 := (by injection e194)
  (try simp only [show (1 : Int).toNat = 1 from rfl, Nat.reduceMul, Nat.reduceEqDiff, Go.Addr.add, ↓reduceIte] at hx194_0)
  have qi194 : (1 < l0.length) = True := eq_true (by omega)
  (try rw [show ((1 : Int)).toNat = 1 from rfl] at hx194_0)
  have hn194_0 : ad185.block ≠ gb184 := Nat.ne_of_lt (Nat.lt_of_lt_of_le tq_56 GW184.out)
  have hn194_1 : ad185.block ≠ gb184 := Nat.ne_of_lt (Nat.lt_of_lt_of_le tq_56 GW184.out)
  have hn194_2 : ad185.block ≠ gb184 := Nat.ne_of_lt (Nat.lt_of_lt_of_le tq_56 GW184.out)
  have hn194_3 : ad185.block ≠ gb184 := Nat.ne_of_lt (Nat.lt_of_lt_of_le tq_56 GW184.out)
  have hn194_4 : ad185.block ≠ gb184 := Nat.ne_of_lt (Nat.lt_of_lt_of_le tq_56 GW184.out)
  have hn194_5 : ad185.block ≠ gb184 := Nat.ne_of_lt (Nat.lt_of_lt_of_le tq_56 GW184.out)
  have hn194_6 : ad185.block ≠ gb184 := Nat.ne_of_lt (Nat.lt_of_lt_of_le tq_56 GW184.out)
  have hn194_7 : ad185.block ≠ gb184 := Nat.ne_of_lt (Nat.lt_of_lt_of_le tq_56 GW184.out)
  have hn194_8 : ad185.block ≠ gb184 := Nat.ne_of_lt (Nat.lt_of_lt_of_le tq_56 GW184.out)
  replace hx194_0 := hx_ HB.out hx194_0
  replace hx194_0 := (cell_far (p := ⟨gb184, 0, none⟩) (by first | (rw [add_block]; exact hn194_0) | (show (Addr.add _ _).block ≠ _; rw [add_block]; exact hn194_0) | exact hn194_0) (.int .i64 0)).trans hx194_0
  replace hx194_0 := (cell_far (p := ⟨gb184, 1, none⟩) (by first | (rw [add_block]; exact hn194_1) | (show (Addr.add _ _).block ≠ _; rw [add_block]; exact hn194_1) | exact hn194_1) (.int .i64 0)).trans hx194_0
  replace hx194_0 := (cell_far (p := ⟨gb184, 2, none⟩) (by first | (rw [add_block]; exact hn194_2) | (show (Addr.add _ _).block ≠ _; rw [add_block]; exact hn194_2) | exact hn194_2) (.int .i64 0)).trans hx194_0
  replace hx194_0 := (cell_far (p := ⟨gb184, 3, none⟩) (by first | (rw [add_block]; exact hn194_3) | (show (Addr.add _ _).block ≠ _; rw [add_block]; exact hn194_3) | exact hn194_3) (.string (⟨#[]⟩ : ByteArray))).trans hx194_0
  replace hx194_0 := (cell_far (p := ⟨gb184, 4, none⟩) (by first | (rw [add_block]; exact hn194_4) | (show (Addr.add _ _).block ≠ _; rw [add_block]; exact hn194_4) | exact hn194_4) (.slice none 0 0)).trans hx194_0
  replace hx194_0 := (cell_far (p := ⟨gb184, 5, none⟩) (by first | (rw [add_block]; exact hn194_5) | (show (Addr.add _ _).block ≠ _; rw [add_block]; exact hn194_5) | exact hn194_5) (.slice none 0 0)).trans hx194_0
  replace hx194_0 := (cell_far (p := ⟨gb184, 0, none⟩) (by first | (rw [add_block]; exact hn194_6) | (show (Addr.add _ _).block ≠ _; rw [add_block]; exact hn194_6) | exact hn194_6) (.int .i64 t186)).trans hx194_0
  replace hx194_0 := (cell_far (p := ⟨gb184, 1, none⟩) (by first | (rw [add_block]; exact hn194_7) | (show (Addr.add _ _).block ≠ _; rw [add_block]; exact hn194_7) | exact hn194_7) (.int .i64 t189)).trans hx194_0
  replace hx194_0 := (cell_far (p := ⟨gb184, 2, none⟩) (by first | (rw [add_block]; exact hn194_8) | (show (Addr.add _ _).block ≠ _; rw [add_block]; exact hn194_8) | exact hn194_8) (.int .i64 t192)).trans hx194_0
  clear hn194_0 hn194_1 hn194_2 hn194_3 hn194_4 hn194_5 hn194_6 hn194_7 hn194_8
  replace p194 := eq_true p194
  replace q194 := eq_true q194
  obtain ⟨hcz19_0, hcz19_1, hcz19_2, hcz19_3, hcz19_4, hcz19_5⟩ := bk6_ BK184.out
  obtain ⟨hfz19_0, hfz19_1, hfz19_2, hfz19_3, hfz19_4, hfz19_5⟩ := bf6_ BK184.out
  go_wp2
  go_meet
  case rel => exact ⟨_, (rdOf ByteArray.empty l0 1), H', ⟨(by have := HJ1.out; first | omega | exact Nat.le_refl _)⟩, ⟨tb_⟩, ⟨tb_⟩, ⟨th_⟩⟩
 case rest =>
 clear HC12
 try clear c1; try clear p1; try clear q1; try clear hx1; try clear qi1; try clear p2; try clear c3; try clear c4; try clear c4b0; try clear c4b1; try clear c6; try clear c8; try clear c8b0; try clear c8b1; try clear c9; try clear c14; try clear c16; try clear c16b0; try clear c16b1; try clear c17; try clear c17b0; try clear c17b1; try clear c18; try clear p18; try clear q18; try clear hx18; try clear qi18; try clear p19; try clear q19; try clear hx19; try clear qi19; try clear hcz15_0 hcz15_1 hcz15_2 hcz15_3 hcz15_4 hcz15_5; try clear hcz19_0 hcz19_1 hcz19_2 hcz19_3 hcz19_4 hcz19_5; try clear hcz7_0 hcz7_1 hcz7_2 hcz7_3 hcz7_4 hcz7_5; try clear hfz15_0 hfz15_1 hfz15_2 hfz15_3 hfz15_4 hfz15_5; try clear hfz19_0 hfz19_1 hfz19_2 hfz19_3 hfz19_4 hfz19_5; try clear hfz7_0 hfz7_1 hfz7_2 hfz7_3 hfz7_4 hfz7_5; try clear hx185_0; try clear hx188_0; try clear hx191_0; try clear hx194_0; try clear p185; try clear p188; try clear p191; try clear p194; try clear p2; try clear q185; try clear q188; try clear q191; try clear q194
 obtain ⟨kq, x185003_11, HA, HJ11, BK182, BK184, HB⟩ := hcut
 cases kq with
 | zero => exact absurd HA.out (by simp [impl_ReadInode.j1])
 | succ kj11 =>
 have H := HA.out
 clear HA
 simp only [impl_ReadInode.j1] at H
 obtain ⟨c20, H⟩ := fc_ H
 have c20b0 := eq_true c20
 have c20b1 := decide_eq_true c20
 clear c20
 obtain ⟨yd22, hyd22⟩ : ∃ y_ : List ByteArray, y_ = (l0.drop 2) := ⟨_, rfl⟩
 rw [← hyd22] at H
 have HC21 := Aside0.mk H
 clear H
 obtain ⟨i022, hi022, _, hsz22, _⟩ := info_parts info9
 obtain ⟨A22, hcut22, hA22, hC22⟩ := print_drop_of (P := Tryd.prog) Value.string (⟨#[]⟩ : ByteArray) 22 9 .i64 Tryd.underlying22 hi022 hsz22 (some ad185) c0 l0 2 (by omega) (of_decide_eq_true tq_5) HC0.out
 have eyd22 : List.drop (Int.toNat 2) l0 = yd22 := hyd22.symm
 rw [eyd22] at hcut22 hA22 hC22
 have HR195 := Aside0.mk (Kd.C_of_reads (h1 := fun _ => rfl) (hA22 _ (Kd.reads_of_C HR0.out)))
 have HC195 := Aside0.mk hC22
 clear hA22 hC22 hi022 hsz22 hyd22 eyd22
 go_upto_block 0 with (fail)
 go_cut [] (fun wc => ∃ (kq : Nat) (x183000_20 : Int) (x183001_20 : Int) (x183002_20 : Int) (x183003_20 : ByteArray) (x185004_20 : List (S42)) (x185005_20 : List (S47)) (u185004 : Value) (u185005 : Value), Aside0 (impl_ReadInode.j4 kq l0 t186 t189 t192 x185003_11 x185004_20 x185005_20 = some (r1, r2, r3, r4, r5, r6, r7)) ∧ Aside0 (kq ≤ kj11) ∧ Aside0 (Kd.R k42 42 wc w.heap.size (fun _ => True) u185004 x185004_20) ∧ Aside0 (Kd.R k47 47 wc w.heap.size (fun _ => True) u185005 x185005_20) ∧ Aside0 (wc.heap[gb182]? = some (.cells #[.int .i64 x183000_20, .int .i64 x183001_20, .int .i64 x183002_20, .string x183003_20, (.slice none 0 0), (.slice none 0 0)] 27 (0, 0))) ∧ Aside0 (wc.heap[gb184]? = some (.cells #[.int .i64 t186, .int .i64 t189, .int .i64 t192, .string x185003_11, u185004, u185005] 27 (0, 0))) ∧ Aside0 (Below w.heap.size w wc))
 case first =>
  have H := HC21.out
  clear HC21
  have H' := Aside0.mk H
  clear H
  go_wp2
  go_loopg [54] kj11 (fun kq v54 w' => ∃ (x54_3 : Int) (x183000_3 : Int) (x183001_3 : Int) (x183002_3 : Int) (x183003_3 : ByteArray) (x185004_3 : List (S42)) (x185005_3 : List (S47)) (u185004 : Value) (u185005 : Value), v54 = .int .i64 x54_3 ∧ Aside0 (impl_ReadInode.l0 kq l0 yd22 (yd22.length : Int) x54_3 t186 t189 t192 x185003_11 x185004_3 x185005_3 = some (r1, r2, r3, r4, r5, r6, r7)) ∧ Aside0 (kq ≤ kj11) ∧ Aside0 (Kd.R k42 42 w' w.heap.size (fun _ => True) u185004 x185004_3) ∧ Aside0 (Kd.R k47 47 w' w.heap.size (fun _ => True) u185005 x185005_3) ∧ Aside0 (w'.heap[gb182]? = some (.cells #[.int .i64 x183000_3, .int .i64 x183001_3, .int .i64 x183002_3, .string x183003_3, (.slice none 0 0), (.slice none 0 0)] 27 (0, 0))) ∧ Aside0 (w'.heap[gb184]? = some (.cells #[.int .i64 t186, .int .i64 t189, .int .i64 t192, .string x185003_11, u185004, u185005] 27 (0, 0))) ∧ Aside0 (Below w.heap.size w w'))
  case atStart => exact ⟨(0), (0), (0), (0), ((⟨#[]⟩ : ByteArray)), (([] : List (S42))), (([] : List (S47))), (.slice none 0 0), (.slice none 0 0), tq_13, H', ⟨Nat.le_refl _⟩, ⟨tq_23⟩, ⟨tq_23⟩, ⟨(kb_ BK182)⟩, ⟨(kb_ BK184)⟩, ⟨th_⟩⟩
  case round =>
  clear H'
  try clear c1; try clear p1; try clear q1; try clear hx1; try clear qi1; try clear c2; try clear p2; try clear c3; try clear c4; try clear c4b0; try clear c4b1; try clear c6; try clear c8; try clear c8b0; try clear c8b1; try clear c9; try clear c14; try clear c16; try clear c16b0; try clear c16b1; try clear c17; try clear c17b0; try clear c17b1; try clear c18; try clear p18; try clear q18; try clear hx18; try clear qi18; try clear p19; try clear q19; try clear hx19; try clear qi19; try clear c20; try clear c20b0; try clear c20b1; try clear hcz15_0 hcz15_1 hcz15_2 hcz15_3 hcz15_4 hcz15_5; try clear hcz19_0 hcz19_1 hcz19_2 hcz19_3 hcz19_4 hcz19_5; try clear hcz7_0 hcz7_1 hcz7_2 hcz7_3 hcz7_4 hcz7_5; try clear hfz15_0 hfz15_1 hfz15_2 hfz15_3 hfz15_4 hfz15_5; try clear hfz19_0 hfz19_1 hfz19_2 hfz19_3 hfz19_4 hfz19_5; try clear hfz7_0 hfz7_1 hfz7_2 hfz7_3 hfz7_4 hfz7_5; try clear hx185_0; try clear hx188_0; try clear hx191_0; try clear hx194_0; try clear p1; try clear p18; try clear p185; try clear p188; try clear p19; try clear p191; try clear p194; try clear p2; try clear q1; try clear q18; try clear q185; try clear q188; try clear q19; try clear q191; try clear q194
  obtain ⟨x54_3, x183000_3, x183001_3, x183002_3, x183003_3, x185004_3, x185005_3, u185004, u185005, rfl, HA, HK3, HO_185004, HO_185005, BK182, BK184, HB⟩ := hrel
  cases gk with
  | zero => exact absurd HA.out (by simp [impl_ReadInode.l0])
  | succ k3 =>
  have H := HA.out
  clear HA
  simp only [impl_ReadInode.l0] at H
  by_cases c23 : x54_3 < (yd22.length : Int)
  rotate_left
  ·rw [if_neg c23] at H
   have c23b0 := decide_eq_false c23
   clear c23
   (first | rw [c23b0] | (simp only [i64_w, i32_w]; rw [c23b0]) | skip)
   have H' := Aside0.mk H
   clear H
   go_wp2
   go_meet
   case rel => exact ⟨_, (x183000_3), (x183001_3), (x183002_3), (x183003_3), (x185004_3), (x185005_3), (u185004), (u185005), H', ⟨tq_99⟩, ⟨(raR_ HO_185004)⟩, ⟨(raR_ HO_185005)⟩, ⟨(kb_ BK182)⟩, ⟨(kb_ BK184)⟩, ⟨th_⟩⟩
  rw [if_pos c23] at H
  have c23b0 := decide_eq_true c23
  clear c23
  (first | rw [c23b0] | (simp only [i64_w, i32_w]; rw [c23b0]) | skip)
  obtain ⟨c24, H⟩ := fc_ H
  have c24b0 := decide_eq_true c24
  clear c24
  obtain ⟨c25, H⟩ := fc_ H
  have c25b0 := decide_eq_true c25
  clear c25
  obtain ⟨t197, A26, H⟩ := bd_ H
  by_cases c27 : (rdOf ByteArray.empty yd22 x54_3).toList = t197.toList
  ·rw [if_pos c27] at H
   have c27b0 := beq_iff_eq.mpr c27
   have c27b1 := bne_eq_false_iff_eq.mpr c27
   clear c27
   have H' := Aside0.mk H
   clear H
   have p196 : 0 ≤ (x54_3 : Int) := of_decide_eq_true tq_5
   have q196 : x54_3 < (yd22.length : Int) := of_decide_eq_true tq_5
   obtain ⟨ad196, e196, hx196_0⟩ := Kd.at_string HR195.out x54_3 p196 q196
   cases e196
   replace hx196_0 := hx_ HB.out hx196_0
   replace p196 := eq_true p196
   replace q196 := eq_true q196
   go_wp2_with (first | ((with_reducible refine gate_callee (f := 38) rfl ?_); refine goesL_ (some 59) rfl rfl Tryd.func38 (by kernel_rfl) rfl #[] rfl tq_0 ?_; (with_reducible refine (impl_zeroWord.calls  t197 _ A26.out).mono ?_); rintro e w28 ⟨rfl, hb⟩; refine ⟨_, rfl, ?_⟩; have z_ := p_ (Kd.R_below (raR_ HO_185004) hb) <| p_ (Kd.R_below (raR_ HO_185005) hb) <| bw2_ (kb_ BK182) (kb_ BK184) th_ hb; clear HO_185004 HO_185005 BK182 BK184 HB; obtain ⟨HO_185004, HO_185005, BK182, BK184, HB⟩ := z_; (try clear hb)))
   go_meet
   case rel => exact ⟨_, (x183000_3), (x183001_3), (x183002_3), (x183003_3), (x185004_3), (x185005_3), (u185004), (u185005), H', ⟨tq_99⟩, ⟨(raR_ HO_185004)⟩, ⟨(raR_ HO_185005)⟩, ⟨(kb_ BK182)⟩, ⟨(kb_ BK184)⟩, ⟨th_⟩⟩
  rw [if_neg c27] at H
  have c27b0 := beq_eq_false_iff_ne.mpr c27
  have c27b1 := bne_iff_ne.mpr c27
  obtain ⟨⟨t198, t199, t200, t201⟩, A29, H⟩ := bd_ H
  try dsimp -simprocs only at H
  obtain ⟨⟨t203, t204, t205⟩, A30, H⟩ := bd_ H
  try dsimp -simprocs only at H
  have HC31 := Aside0.mk H
  clear H
  have p196 : 0 ≤ (x54_3 : Int) := of_decide_eq_true tq_5
  have q196 : x54_3 < (yd22.length : Int) := of_decide_eq_true tq_5
  obtain ⟨ad196, e196, hx196_0⟩ := Kd.at_string HR195.out x54_3 p196 q196
  cases e196
  replace hx196_0 := hx_ HB.out hx196_0
  replace p196 := eq_true p196
  replace q196 := eq_true q196
  go_upto_region 16 with (first | ((with_reducible refine gate_callee (f := 38) rfl ?_); refine goesL_ (some 59) rfl rfl Tryd.func38 (by kernel_rfl) rfl #[] rfl tq_0 ?_; (with_reducible refine (impl_zeroWord.calls  t197 _ A26.out).mono ?_); rintro e w32 ⟨rfl, hb⟩; refine ⟨_, rfl, ?_⟩; have z_ := p_ (Kd.R_below (raR_ HO_185004) hb) <| p_ (Kd.R_below (raR_ HO_185005) hb) <| bw2_ (kb_ BK182) (kb_ BK184) th_ hb; clear HO_185004 HO_185005 BK182 BK184 HB; obtain ⟨HO_185004, HO_185005, BK182, BK184, HB⟩ := z_; (try clear hb)) | ((with_reducible refine gate_callee (f := 21) rfl ?_); refine goesL_ (some 63) rfl rfl Tryd.func21 (by kernel_rfl) rfl #[.string (rdOf ByteArray.empty yd22 x54_3)] rfl tq_0 ?_; (with_reducible refine (impl_ReadRec.calls k3 (rdOf ByteArray.empty yd22 x54_3) t198 t199 t200 t201 _ A29.out).mono ?_); rintro e w33 ⟨rfl, hb⟩; refine ⟨_, rfl, ?_⟩; have z_ := p_ (Kd.R_below (raR_ HO_185004) hb) <| p_ (Kd.R_below (raR_ HO_185005) hb) <| bw2_ (kb_ BK182) (kb_ BK184) th_ hb; clear HO_185004 HO_185005 BK182 BK184 HB; obtain ⟨HO_185004, HO_185005, BK182, BK184, HB⟩ := z_; (try clear hb)) | ((with_reducible refine gate_dst (N := 7) rfl ?_); refine be_ 7 (cs := #[.int .i64 0, .int .i64 0, .string (⟨#[]⟩ : ByteArray)]) 42 ?_; intro gb202 hg w34 hbox hb; have z_ := p_ (Kd.R_below (Kd.R_elderB (raR_ HO_185004) gb202 (Nat.le_of_eq hg.symm)) hb) <| p_ (Kd.R_below (raR_ HO_185005) hb) <| bx2_ (kb_ BK182) (kb_ BK184) th_ hb hbox hg; clear HO_185004 HO_185005 BK182 BK184 HB; obtain ⟨HO_185004, HO_185005, BK182, BK184, HB, BK202, GW202, GE202, NB182_202, NB202_182, NB184_202, NB202_184⟩ := z_; clear hb hbox hg; obtain ⟨n202_182, n182_202, n202_184, n184_202⟩ := an4_ NB202_182 NB182_202 NB202_184 NB184_202; obtain ⟨hcz37_0, hcz37_1, hcz37_2⟩ := bk3_ BK202.out; obtain ⟨hfz37_0, hfz37_1, hfz37_2⟩ := bf3_ BK202.out) | ((with_reducible refine gate_callee (f := 23) rfl ?_); refine goesL_ (some 68) rfl rfl Tryd.func23 (by kernel_rfl) rfl #[.string (rdOf ByteArray.empty yd22 x54_3)] rfl tq_0 ?_; (with_reducible refine (impl_ReadEntry.calls k3 (rdOf ByteArray.empty yd22 x54_3) t203 t204 t205 _ A30.out).mono ?_); rintro e w38 ⟨rfl, hb⟩; refine ⟨_, rfl, ?_⟩; have z_ := p_ (Kd.R_below (by (with_reducible repeat (first | apply Kd.R_alloc | apply Kd.R_drewN | apply Kd.R_drew)); exact (Kd.R_mono (rR_ (rR_ (rR_ (Kd.R_mono HO_185004.out (fun k_ hk => (⟨hk, hk.2⟩ : _ ∧ k_ ≠ gb202)))))) (fun _ h_ => h_.1))) hb) <| p_ (Kd.R_below (by (with_reducible repeat (first | apply Kd.R_alloc | apply Kd.R_drewN | apply Kd.R_drew)); exact (Kd.R_mono (rR_ (rR_ (rR_ (Kd.R_types HO_185005.out BK202.out (by decide))))) (fun _ h_ => h_.1))) hb) <| p_ (blk_below (g := gb182) (o := .cells #[.int .i64 x183000_3, .int .i64 x183001_3, .int .i64 x183002_3, .string x183003_3, .slice none 0 0, .slice none 0 0] 27 (0, 0)) (by (with_reducible repeat (first | refine blk_drewN ?_ _ | refine blk_drew ?_ | refine blk_alloc ?_ _)); refine blk_far ?_ NB182_202.out _; (with_reducible repeat (first | refine blk_drewN ?_ _ | refine blk_drew ?_ | refine blk_alloc ?_ _)); refine blk_far ?_ NB182_202.out _; (with_reducible repeat (first | refine blk_drewN ?_ _ | refine blk_drew ?_ | refine blk_alloc ?_ _)); refine blk_far ?_ NB182_202.out _; (with_reducible repeat (first | refine blk_drewN ?_ _ | refine blk_drew ?_ | refine blk_alloc ?_ _)); exact BK182.out) hb) <| p_ (blk_below (g := gb184) (o := .cells #[.int .i64 t186, .int .i64 t189, .int .i64 t192, .string x185003_11, u185004, u185005] 27 (0, 0)) (by (with_reducible repeat (first | refine blk_drewN ?_ _ | refine blk_drew ?_ | refine blk_alloc ?_ _)); refine blk_far ?_ NB184_202.out _; (with_reducible repeat (first | refine blk_drewN ?_ _ | refine blk_drew ?_ | refine blk_alloc ?_ _)); refine blk_far ?_ NB184_202.out _; (with_reducible repeat (first | refine blk_drewN ?_ _ | refine blk_drew ?_ | refine blk_alloc ?_ _)); refine blk_far ?_ NB184_202.out _; (with_reducible repeat (first | refine blk_drewN ?_ _ | refine blk_drew ?_ | refine blk_alloc ?_ _)); exact BK184.out) hb) <| p_ (blk_below (g := gb202) (o := .cells #[.int .i64 t198, .int .i64 t199, .string t200] 42 (0, 0)) (by (with_reducible repeat (first | refine blk_drewN ?_ _ | refine blk_drew ?_ | refine blk_alloc ?_ _)); refine blk_put (cs := #[.int .i64 t198, .int .i64 t199, .string (⟨#[]⟩ : ByteArray)]) ?_ 2 _ rfl; (with_reducible repeat (first | refine blk_drewN ?_ _ | refine blk_drew ?_ | refine blk_alloc ?_ _)); refine blk_put (cs := #[.int .i64 t198, .int .i64 0, .string (⟨#[]⟩ : ByteArray)]) ?_ 1 _ rfl; (with_reducible repeat (first | refine blk_drewN ?_ _ | refine blk_drew ?_ | refine blk_alloc ?_ _)); refine blk_put (cs := #[.int .i64 0, .int .i64 0, .string (⟨#[]⟩ : ByteArray)]) ?_ 0 _ rfl; (with_reducible repeat (first | refine blk_drewN ?_ _ | refine blk_drew ?_ | refine blk_alloc ?_ _)); exact BK202.out) hb) <| a_ (below_step th_ hb); clear HO_185004 HO_185005 BK182 BK184 BK202 HB; obtain ⟨HO_185004, HO_185005, BK182, BK184, BK202, HB⟩ := z_; (try clear hb); (try clear hk)) | ((with_reducible refine gate_dst (N := 9) rfl ?_); refine be_ 9 (cs := #[.int .i64 0, .string (⟨#[]⟩ : ByteArray)]) 47 ?_; intro gb206 hg w39 hbox hb; have z_ := p_ (Kd.R_below (raR_ HO_185004) hb) <| p_ (Kd.R_below (Kd.R_elderB (raR_ HO_185005) gb206 (Nat.le_of_eq hg.symm)) hb) <| bx3_ (kb_ BK182) (kb_ BK184) (kb_ BK202) th_ hb hbox hg; clear HO_185004 HO_185005 BK182 BK184 BK202 HB; obtain ⟨HO_185004, HO_185005, BK182, BK184, BK202, HB, BK206, GW206, GE206, NB182_206, NB206_182, NB184_206, NB206_184, NB202_206, NB206_202⟩ := z_; clear hb hbox hg; obtain ⟨n206_182, n182_206, n206_184, n184_206, n206_202, n202_206⟩ := an6_ NB206_182 NB182_206 NB206_184 NB184_206 NB206_202 NB202_206; obtain ⟨hcz43_0, hcz43_1⟩ := bk2_ BK206.out; obtain ⟨hfz43_0, hfz43_1⟩ := bf2_ BK206.out))
  (try simp only [Act.put, List.setIfInBounds_toArray, List.set_cons_zero, List.set_cons_succ])
  go_cut [72] (fun v72 wc => ∃ (kq : Nat) (x72_30 : Bool), v72 = .bool x72_30 ∧ Aside0 (impl_ReadInode.j3 kq l0 t205 yd22 (yd22.length : Int) x54_3 x72_30 t186 t189 t192 x185003_11 x185004_3 x185005_3 t198 t199 t200 t203 t204 = some (r1, r2, r3, r4, r5, r6, r7)) ∧ Aside0 (kq ≤ k3) ∧ Aside0 (Kd.R k42 42 wc w.heap.size (fun k_ => k_ ≠ gb202) u185004 x185004_3) ∧ Aside0 (Kd.R k47 47 wc w.heap.size (fun k_ => k_ ≠ gb206) u185005 x185005_3) ∧ Aside0 (wc.heap[gb182]? = some (.cells #[.int .i64 x183000_3, .int .i64 x183001_3, .int .i64 x183002_3, .string x183003_3, (.slice none 0 0), (.slice none 0 0)] 27 (0, 0))) ∧ Aside0 (wc.heap[gb184]? = some (.cells #[.int .i64 t186, .int .i64 t189, .int .i64 t192, .string x185003_11, u185004, u185005] 27 (0, 0))) ∧ Aside0 (wc.heap[gb202]? = some (.cells #[.int .i64 t198, .int .i64 t199, .string t200] 42 (0, 0))) ∧ Aside0 (wc.heap[gb206]? = some (.cells #[.int .i64 t203, .string t204] 47 (0, 0))) ∧ Aside0 (Below w.heap.size w wc))
  case first =>
   have H := HC31.out
   clear HC31
   by_cases c44 : t186 = 1
   rotate_left
   ·rw [if_neg c44] at H
    have c44b0 := beq_eq_false_iff_ne.mpr c44
    have c44b1 := bne_iff_ne.mpr c44
    (first | rw [c44b0] | (simp only [i64_w, i32_w]; rw [c44b0]) | skip)
    have H' := Aside0.mk H
    clear H
    obtain ⟨hcz52_0, hcz52_1, hcz52_2, hcz52_3, hcz52_4, hcz52_5⟩ := bk6_ BK184.out
    obtain ⟨hfz52_0, hfz52_1, hfz52_2, hfz52_3, hfz52_4, hfz52_5⟩ := bf6_ BK184.out
    go_wp2
    go_meet
    case rel => exact ⟨_, (false), tq_13, H', ⟨tq_99⟩, ⟨tq_108⟩, ⟨tq_101⟩, ⟨tb_⟩, ⟨tb_⟩, ⟨tb_⟩, ⟨tb_⟩, ⟨th_⟩⟩
   rw [if_pos c44] at H
   have c44b0 := beq_iff_eq.mpr c44
   have c44b1 := bne_eq_false_iff_eq.mpr c44
   clear c44
   (first | rw [c44b0] | (simp only [i64_w, i32_w]; rw [c44b0]) | skip)
   have H' := Aside0.mk H
   clear H
   obtain ⟨hcz48_0, hcz48_1, hcz48_2, hcz48_3, hcz48_4, hcz48_5⟩ := bk6_ BK184.out
   obtain ⟨hfz48_0, hfz48_1, hfz48_2, hfz48_3, hfz48_4, hfz48_5⟩ := bf6_ BK184.out
   go_wp2
   go_meet
   case rel => exact ⟨_, (t201), tq_13, H', ⟨tq_99⟩, ⟨tq_108⟩, ⟨tq_101⟩, ⟨tb_⟩, ⟨tb_⟩, ⟨tb_⟩, ⟨tb_⟩, ⟨th_⟩⟩
  case rest =>
  clear HC31
  try clear c1; try clear p1; try clear q1; try clear hx1; try clear qi1; try clear c2; try clear p2; try clear c3; try clear c4; try clear c4b0; try clear c4b1; try clear c5; try clear c6; try clear c8; try clear c8b0; try clear c8b1; try clear c9; try clear c14; try clear c16; try clear c16b0; try clear c16b1; try clear c17; try clear c17b0; try clear c17b1; try clear c18; try clear p18; try clear q18; try clear hx18; try clear qi18; try clear p19; try clear q19; try clear hx19; try clear qi19; try clear c20; try clear c20b0; try clear c20b1; try clear c21; try clear c23; try clear c23b0; try clear c24; try clear c24b0; try clear c25; try clear c25b0; try clear c27; try clear c27b0; try clear c27b1; try clear c35; try clear c36; try clear c37; try clear c38; try clear c40; try clear c41; try clear c42; try clear c44; try clear c44b0; try clear c44b1; try clear c45; try clear c46; try clear c47; try clear c49; try clear c50; try clear c51; try clear hcz15_0 hcz15_1 hcz15_2 hcz15_3 hcz15_4 hcz15_5; try clear hcz19_0 hcz19_1 hcz19_2 hcz19_3 hcz19_4 hcz19_5; try clear hcz37_0 hcz37_1 hcz37_2; try clear hcz43_0 hcz43_1; try clear hcz48_0 hcz48_1 hcz48_2 hcz48_3 hcz48_4 hcz48_5; try clear hcz52_0 hcz52_1 hcz52_2 hcz52_3 hcz52_4 hcz52_5; try clear hcz7_0 hcz7_1 hcz7_2 hcz7_3 hcz7_4 hcz7_5; try clear hfz15_0 hfz15_1 hfz15_2 hfz15_3 hfz15_4 hfz15_5; try clear hfz19_0 hfz19_1 hfz19_2 hfz19_3 hfz19_4 hfz19_5; try clear hfz37_0 hfz37_1 hfz37_2; try clear hfz43_0 hfz43_1; try clear hfz48_0 hfz48_1 hfz48_2 hfz48_3 hfz48_4 hfz48_5; try clear hfz52_0 hfz52_1 hfz52_2 hfz52_3 hfz52_4 hfz52_5; try clear hfz7_0 hfz7_1 hfz7_2 hfz7_3 hfz7_4 hfz7_5; try clear hx185_0; try clear hx188_0; try clear hx191_0; try clear hx194_0; try clear hx196_0; try clear p1; try clear p18; try clear p185; try clear p188; try clear p19; try clear p191; try clear p194; try clear p196; try clear p2; try clear q1; try clear q18; try clear q185; try clear q188; try clear q19; try clear q191; try clear q194; try clear q196
  obtain ⟨kq, x72_30, rfl, HA, HJ30, HO_185004, HO_185005, BK182, BK184, BK202, BK206, HB⟩ := hcut
  cases kq with
  | zero => exact absurd HA.out (by simp [impl_ReadInode.j3])
  | succ kj30 =>
  have H := HA.out
  clear HA
  simp only [impl_ReadInode.j3] at H
  by_cases c53 : x72_30 = true
  ·subst c53
   rw [if_pos rfl] at H
   obtain ⟨c54, H⟩ := fc_ H
   have LMc54 := Aside0.mk c54
   clear c54
   obtain ⟨y207, hy207⟩ : ∃ y_ : List (S42), y_ = (x185004_3 ++ [(⟨t198, t199, t200⟩ : S42)]) := ⟨_, rfl⟩
   replace H : (impl_ReadInode.l0 kj30 l0 yd22 (yd22.length : Int) (wrap64 (x54_3 + 1)) t186 t189 t192 x185003_11 y207 x185005_3) = some (r1, r2, r3, r4, r5, r6, r7) := by first | (rw [hy207]; with_reducible exact H) | (have H2_ := (Option.bind_some _ _).symm.trans H; rw [hy207]; with_reducible exact H2_) | (have H2_ := (Option.bind_some _ _).symm.trans H; with_reducible exact H2_) | with_reducible exact H | (rw [hy207]; exact H) | exact H
   have Ny207 := Aside0.mk hy207
   clear hy207
   have H' := Aside0.mk H
   clear H
   obtain ⟨hcz58_0, hcz58_1, hcz58_2, hcz58_3, hcz58_4, hcz58_5⟩ := bk6_ BK184.out
   obtain ⟨hfz58_0, hfz58_1, hfz58_2, hfz58_3, hfz58_4, hfz58_5⟩ := bf6_ BK184.out
   obtain ⟨hcz61_0, hcz61_1, hcz61_2⟩ := bk3_ BK202.out
   obtain ⟨hfz61_0, hfz61_1, hfz61_2⟩ := bf3_ BK202.out
   go_wp2_with (first | ((with_reducible refine gate_builtin (b := .append) (xs := #[.tmp 80, .tmp 82]) rfl ?_); at_builtin; refine Kd.R_append k42 (w0 := w) w.heap.size rfl (.tmp 80) (.tmp 82) 24 42 (.agg #[(.int .i64 0), (.int .i64 0), (.string ⟨#[]⟩)]) 32 rfl Tryd.underlying24 info42 rfl (by decide) (by omega) u185004 x185004_3 (⟨t198, t199, t200⟩ : S42) [.int .i64 t198, .int .i64 t199, .string t200] (fun k_ => k_ ≠ gb202) (fun _ => False) rfl rfl ?aP (fun _ hk => hk.elim) ?aF ?aO ?aB ?aS ?aL ?_; (case aP => exact k42_mkM _ _ _ (⟨t198, t199, t200⟩ : S42)); (case aB => exact th_); (case aF => exact (fun k_ hk => Kd.freshB (g := gb202) (o := .cells #[.int .i64 t198, .int .i64 t199, .string t200] 42 (0, 0)) (kb_ BK202) k_ hk)); (case aO => exact (raR_ HO_185004)); (case aS => exact (below_size th_)); (case aL => have := LMc54.out; omega); intro v208 w62 ho hb hg hat; rw [← Ny207.out] at ho; have z_ := p_ (Kd.R_over' (raR_ HO_185005) (Kd.R_typed (raR_ HO_185004)) (by decide) hg) <| p_ (blk_grown (g := gb182) (o := .cells #[.int .i64 x183000_3, .int .i64 x183001_3, .int .i64 x183002_3, .string x183003_3, .slice none 0 0, .slice none 0 0] 27 (0, 0)) (kb_ BK182) hg (Kd.R_ne HO_185004.out BK182.out (by decide))) <| p_ (blk_grown (g := gb184) (o := .cells #[.int .i64 t186, .int .i64 t189, .int .i64 t192, .string x185003_11, u185004, u185005] 27 (0, 0)) (kb_ BK184) hg (Kd.R_ne HO_185004.out BK184.out (by decide))) <| p_ (blk_grown (g := gb202) (o := .cells #[.int .i64 t198, .int .i64 t199, .string t200] 42 (0, 0)) (kb_ BK202) hg (Kd.R_away HO_185004.out (fun _ hk => hk))) <| p_ (blk_grown (g := gb206) (o := .cells #[.int .i64 t203, .string t204] 47 (0, 0)) (kb_ BK206) hg (Kd.R_ne HO_185004.out BK206.out (by decide))) <| p_ (hb) <| a_ (ho); clear HO_185005 BK182 BK184 BK202 BK206 HB HO_185004; obtain ⟨HO_185005, BK182, BK184, BK202, BK206, HB, HO209⟩ := z_; clear ho hb hg hat; obtain ⟨Ao63, co63, eo63⟩ := Kd.R_slice HO209.out; subst eo63; obtain ⟨hcz64_0, hcz64_1, hcz64_2, hcz64_3, hcz64_4, hcz64_5⟩ := bk6_ BK184.out; obtain ⟨hfz64_0, hfz64_1, hfz64_2, hfz64_3, hfz64_4, hfz64_5⟩ := bf6_ BK184.out))
   go_roundg kj30
   case measure => have := HJ1.out; have := HJ11.out; have := HK3.out; have := HJ30.out; omega
   case rel => exact ⟨(wrap64 (x54_3 + 1)), (x183000_3), (x183001_3), (x183002_3), (x183003_3), (y207), (x185005_3), (.slice Ao63 y207.length co63), (u185005), tq_13, H', ⟨(by have := HJ1.out; have := HJ11.out; have := HK3.out; have := HJ30.out; omega)⟩, ⟨(by (with_reducible repeat (first | apply Kd.R_alloc | apply Kd.R_drewN | apply Kd.R_drew)); exact Kd.R_mono (rR_ (Kd.R_types HO209.out BK184.out (by decide))) (fun _ hk => trivial))⟩, ⟨(by (with_reducible repeat (first | apply Kd.R_alloc | apply Kd.R_drewN | apply Kd.R_drew)); exact Kd.R_mono (rR_ (Kd.R_types HO_185005.out BK184.out (by decide))) (fun _ hk => trivial))⟩, ⟨tb_⟩, ⟨tb_⟩, ⟨th_⟩⟩
  replace c53 := Bool.eq_false_iff.mpr c53
  subst c53
  rw [if_neg nf_] at H
  by_cases c65 : t186 = 2
  rotate_left
  ·rw [if_neg c65] at H
   have c65b0 := beq_eq_false_iff_ne.mpr c65
   have c65b1 := bne_iff_ne.mpr c65
   simp only [Option.some.injEq, Prod.mk.injEq] at H
   obtain ⟨rfl, rfl, rfl, rfl, rfl, rfl, rfl⟩ := H
   obtain ⟨hcz88_0, hcz88_1, hcz88_2, hcz88_3, hcz88_4, hcz88_5⟩ := bk6_ BK184.out
   obtain ⟨hfz88_0, hfz88_1, hfz88_2, hfz88_3, hfz88_4, hfz88_5⟩ := bf6_ BK184.out
   obtain ⟨hcz91_0, hcz91_1, hcz91_2, hcz91_3, hcz91_4, hcz91_5⟩ := bk6_ BK182.out
   obtain ⟨hfz91_0, hfz91_1, hfz91_2, hfz91_3, hfz91_4, hfz91_5⟩ := bf6_ BK182.out
   go_wp2
   refine bodyPost_ret (results_ct rfl _ _ gb182 27 #[.int .i64 0, .int .i64 0, .int .i64 0, .string (⟨#[]⟩ : ByteArray), .slice none 0 0, .slice none 0 0] (0, 0) _ rfl tb_ Tryd.underlying27 rfl (by kernel_rfl)) rfl ?_
   exact ⟨_, _, tq_3, tq_23, tq_23, th_⟩
  rw [if_pos c65] at H
  have c65b0 := beq_iff_eq.mpr c65
  have c65b1 := bne_eq_false_iff_eq.mpr c65
  clear c65
  by_cases c66 : t205 = true
  rotate_left
  ·replace c66 := Bool.eq_false_iff.mpr c66
   subst c66
   rw [if_neg nf_] at H
   simp only [Option.some.injEq, Prod.mk.injEq] at H
   obtain ⟨rfl, rfl, rfl, rfl, rfl, rfl, rfl⟩ := H
   obtain ⟨hcz81_0, hcz81_1, hcz81_2, hcz81_3, hcz81_4, hcz81_5⟩ := bk6_ BK184.out
   obtain ⟨hfz81_0, hfz81_1, hfz81_2, hfz81_3, hfz81_4, hfz81_5⟩ := bf6_ BK184.out
   obtain ⟨hcz84_0, hcz84_1, hcz84_2, hcz84_3, hcz84_4, hcz84_5⟩ := bk6_ BK182.out
   obtain ⟨hfz84_0, hfz84_1, hfz84_2, hfz84_3, hfz84_4, hfz84_5⟩ := bf6_ BK182.out
   go_wp2
   refine bodyPost_ret (results_ct rfl _ _ gb182 27 #[.int .i64 0, .int .i64 0, .int .i64 0, .string (⟨#[]⟩ : ByteArray), .slice none 0 0, .slice none 0 0] (0, 0) _ rfl tb_ Tryd.underlying27 rfl (by kernel_rfl)) rfl ?_
   exact ⟨_, _, tq_3, tq_23, tq_23, th_⟩
  subst c66
  rw [if_pos rfl] at H
  obtain ⟨c67, H⟩ := fc_ H
  have LMc67 := Aside0.mk c67
  clear c67
  obtain ⟨y210, hy210⟩ : ∃ y_ : List (S47), y_ = (x185005_3 ++ [(⟨t203, t204⟩ : S47)]) := ⟨_, rfl⟩
  replace H : (impl_ReadInode.l0 kj30 l0 yd22 (yd22.length : Int) (wrap64 (x54_3 + 1)) t186 t189 t192 x185003_11 x185004_3 y210) = some (r1, r2, r3, r4, r5, r6, r7) := by first | (rw [hy210]; with_reducible exact H) | (have H2_ := (Option.bind_some _ _).symm.trans H; rw [hy210]; with_reducible exact H2_) | (have H2_ := (Option.bind_some _ _).symm.trans H; with_reducible exact H2_) | with_reducible exact H | (rw [hy210]; exact H) | exact H
  have Ny210 := Aside0.mk hy210
  clear hy210
  have H' := Aside0.mk H
  clear H
  obtain ⟨hcz71_0, hcz71_1, hcz71_2, hcz71_3, hcz71_4, hcz71_5⟩ := bk6_ BK184.out
  obtain ⟨hfz71_0, hfz71_1, hfz71_2, hfz71_3, hfz71_4, hfz71_5⟩ := bf6_ BK184.out
  obtain ⟨hcz74_0, hcz74_1⟩ := bk2_ BK206.out
  obtain ⟨hfz74_0, hfz74_1⟩ := bf2_ BK206.out
  go_wp2_with (first | ((with_reducible refine gate_builtin (b := .append) (xs := #[.tmp 93, .tmp 95]) rfl ?_); at_builtin; refine Kd.R_append k47 (w0 := w) w.heap.size rfl (.tmp 93) (.tmp 95) 25 47 (.agg #[(.int .i64 0), (.string ⟨#[]⟩)]) 24 rfl Tryd.underlying25 info47 rfl (by decide) (by omega) u185005 x185005_3 (⟨t203, t204⟩ : S47) [.int .i64 t203, .string t204] (fun k_ => k_ ≠ gb206) (fun _ => False) rfl rfl ?aP (fun _ hk => hk.elim) ?aF ?aO ?aB ?aS ?aL ?_; (case aP => exact k47_mkM _ _ _ (⟨t203, t204⟩ : S47)); (case aB => exact th_); (case aF => exact (fun k_ hk => Kd.freshB (g := gb206) (o := .cells #[.int .i64 t203, .string t204] 47 (0, 0)) (kb_ BK206) k_ hk)); (case aO => exact (raR_ HO_185005)); (case aS => exact (below_size th_)); (case aL => have := LMc67.out; omega); intro v211 w75 ho hb hg hat; rw [← Ny210.out] at ho; have z_ := p_ (Kd.R_over' (raR_ HO_185004) (Kd.R_typed (raR_ HO_185005)) (by decide) hg) <| p_ (blk_grown (g := gb182) (o := .cells #[.int .i64 x183000_3, .int .i64 x183001_3, .int .i64 x183002_3, .string x183003_3, .slice none 0 0, .slice none 0 0] 27 (0, 0)) (kb_ BK182) hg (Kd.R_ne HO_185005.out BK182.out (by decide))) <| p_ (blk_grown (g := gb184) (o := .cells #[.int .i64 t186, .int .i64 t189, .int .i64 t192, .string x185003_11, u185004, u185005] 27 (0, 0)) (kb_ BK184) hg (Kd.R_ne HO_185005.out BK184.out (by decide))) <| p_ (blk_grown (g := gb202) (o := .cells #[.int .i64 t198, .int .i64 t199, .string t200] 42 (0, 0)) (kb_ BK202) hg (Kd.R_ne HO_185005.out BK202.out (by decide))) <| p_ (blk_grown (g := gb206) (o := .cells #[.int .i64 t203, .string t204] 47 (0, 0)) (kb_ BK206) hg (Kd.R_away HO_185005.out (fun _ hk => hk))) <| p_ (hb) <| a_ (ho); clear HO_185004 BK182 BK184 BK202 BK206 HB HO_185005; obtain ⟨HO_185004, BK182, BK184, BK202, BK206, HB, HO212⟩ := z_; clear ho hb hg hat; obtain ⟨Ao76, co76, eo76⟩ := Kd.R_slice HO212.out; subst eo76; obtain ⟨hcz77_0, hcz77_1, hcz77_2, hcz77_3, hcz77_4, hcz77_5⟩ := bk6_ BK184.out; obtain ⟨hfz77_0, hfz77_1, hfz77_2, hfz77_3, hfz77_4, hfz77_5⟩ := bf6_ BK184.out))
  go_roundg kj30
  case measure => have := HJ1.out; have := HJ11.out; have := HK3.out; have := HJ30.out; omega
  case rel => exact ⟨(wrap64 (x54_3 + 1)), (x183000_3), (x183001_3), (x183002_3), (x183003_3), (x185004_3), (y210), (u185004), (.slice Ao76 y210.length co76), tq_13, H', ⟨(by have := HJ1.out; have := HJ11.out; have := HK3.out; have := HJ30.out; omega)⟩, ⟨(by (with_reducible repeat (first | apply Kd.R_alloc | apply Kd.R_drewN | apply Kd.R_drew)); exact Kd.R_mono (rR_ (Kd.R_types HO_185004.out BK184.out (by decide))) (fun _ hk => trivial))⟩, ⟨(by (with_reducible repeat (first | apply Kd.R_alloc | apply Kd.R_drewN | apply Kd.R_drew)); exact Kd.R_mono (rR_ (Kd.R_types HO212.out BK184.out (by decide))) (fun _ hk => trivial))⟩, ⟨tb_⟩, ⟨tb_⟩, ⟨th_⟩⟩
 case rest =>
 clear HC21
 try clear c1; try clear p1; try clear q1; try clear hx1; try clear qi1; try clear c2; try clear p2; try clear c3; try clear c4; try clear c4b0; try clear c4b1; try clear c5; try clear c6; try clear p6; try clear c7; try clear c8; try clear c8b0; try clear c8b1; try clear c9; try clear c14; try clear c16; try clear c16b0; try clear c16b1; try clear c17; try clear c17b0; try clear c17b1; try clear c18; try clear p18; try clear q18; try clear hx18; try clear qi18; try clear p19; try clear q19; try clear hx19; try clear qi19; try clear c20; try clear c20b0; try clear c20b1; try clear c21; try clear c23; try clear c23b0; try clear c24; try clear c24b0; try clear c25; try clear c25b0; try clear c27; try clear c27b0; try clear c27b1; try clear c35; try clear c36; try clear c37; try clear c38; try clear c40; try clear c41; try clear c42; try clear c44; try clear c44b0; try clear c44b1; try clear c45; try clear c46; try clear c47; try clear c49; try clear c50; try clear c51; try clear c53; try clear c54; try clear c55; try clear c56; try clear c57; try clear c59; try clear c60; try clear p64; try clear c65; try clear c65b0; try clear c65b1; try clear c66; try clear c67; try clear c68; try clear c69; try clear c70; try clear c72; try clear c73; try clear c78; try clear c79; try clear c80; try clear c82; try clear c83; try clear c85; try clear c86; try clear c87; try clear c89; try clear c90; try clear hcz15_0 hcz15_1 hcz15_2 hcz15_3 hcz15_4 hcz15_5; try clear hcz19_0 hcz19_1 hcz19_2 hcz19_3 hcz19_4 hcz19_5; try clear hcz37_0 hcz37_1 hcz37_2; try clear hcz43_0 hcz43_1; try clear hcz48_0 hcz48_1 hcz48_2 hcz48_3 hcz48_4 hcz48_5; try clear hcz52_0 hcz52_1 hcz52_2 hcz52_3 hcz52_4 hcz52_5; try clear hcz58_0 hcz58_1 hcz58_2 hcz58_3 hcz58_4 hcz58_5; try clear hcz61_0 hcz61_1 hcz61_2; try clear hcz64_0 hcz64_1 hcz64_2 hcz64_3 hcz64_4 hcz64_5; try clear hcz71_0 hcz71_1 hcz71_2 hcz71_3 hcz71_4 hcz71_5; try clear hcz74_0 hcz74_1; try clear hcz77_0 hcz77_1 hcz77_2 hcz77_3 hcz77_4 hcz77_5; try clear hcz7_0 hcz7_1 hcz7_2 hcz7_3 hcz7_4 hcz7_5; try clear hcz81_0 hcz81_1 hcz81_2 hcz81_3 hcz81_4 hcz81_5; try clear hcz84_0 hcz84_1 hcz84_2 hcz84_3 hcz84_4 hcz84_5; try clear hcz88_0 hcz88_1 hcz88_2 hcz88_3 hcz88_4 hcz88_5; try clear hcz91_0 hcz91_1 hcz91_2 hcz91_3 hcz91_4 hcz91_5; try clear hfz15_0 hfz15_1 hfz15_2 hfz15_3 hfz15_4 hfz15_5; try clear hfz19_0 hfz19_1 hfz19_2 hfz19_3 hfz19_4 hfz19_5; try clear hfz37_0 hfz37_1 hfz37_2; try clear hfz43_0 hfz43_1; try clear hfz48_0 hfz48_1 hfz48_2 hfz48_3 hfz48_4 hfz48_5; try clear hfz52_0 hfz52_1 hfz52_2 hfz52_3 hfz52_4 hfz52_5; try clear hfz58_0 hfz58_1 hfz58_2 hfz58_3 hfz58_4 hfz58_5; try clear hfz61_0 hfz61_1 hfz61_2; try clear hfz64_0 hfz64_1 hfz64_2 hfz64_3 hfz64_4 hfz64_5; try clear hfz71_0 hfz71_1 hfz71_2 hfz71_3 hfz71_4 hfz71_5; try clear hfz74_0 hfz74_1; try clear hfz77_0 hfz77_1 hfz77_2 hfz77_3 hfz77_4 hfz77_5; try clear hfz7_0 hfz7_1 hfz7_2 hfz7_3 hfz7_4 hfz7_5; try clear hfz81_0 hfz81_1 hfz81_2 hfz81_3 hfz81_4 hfz81_5; try clear hfz84_0 hfz84_1 hfz84_2 hfz84_3 hfz84_4 hfz84_5; try clear hfz88_0 hfz88_1 hfz88_2 hfz88_3 hfz88_4 hfz88_5; try clear hfz91_0 hfz91_1 hfz91_2 hfz91_3 hfz91_4 hfz91_5; try clear hx185_0; try clear hx188_0; try clear hx191_0; try clear hx194_0; try clear hx196_0; try clear p1; try clear p18; try clear p185; try clear p188; try clear p19; try clear p191; try clear p194; try clear p196; try clear p2; try clear q1; try clear q18; try clear q185; try clear q188; try clear q19; try clear q191; try clear q194; try clear q196
 obtain ⟨kq, x183000_20, x183001_20, x183002_20, x183003_20, x185004_20, x185005_20, u185004, u185005, HA, HJ20, HO_185004, HO_185005, BK182, BK184, HB⟩ := hcut
 cases kq with
 | zero => exact absurd HA.out (by simp [impl_ReadInode.j4])
 | succ kj20 =>
 have H := HA.out
 clear HA
 simp only [impl_ReadInode.j4] at H
 obtain ⟨t213, A92, H⟩ := bd_ H
 by_cases c93 : t213 = true
 rotate_left
 ·replace c93 := Bool.eq_false_iff.mpr c93
  subst c93
  rw [if_neg nf_] at H
  simp only [Option.some.injEq, Prod.mk.injEq] at H
  obtain ⟨rfl, rfl, rfl, rfl, rfl, rfl, rfl⟩ := H
  obtain ⟨hcz117_0, hcz117_1, hcz117_2, hcz117_3, hcz117_4, hcz117_5⟩ := bk6_ BK184.out
  obtain ⟨hfz117_0, hfz117_1, hfz117_2, hfz117_3, hfz117_4, hfz117_5⟩ := bf6_ BK184.out
  obtain ⟨Ao118, co118, eo118⟩ := Kd.R_slice HO_185004.out
  subst eo118
  obtain ⟨Ao119, co119, eo119⟩ := Kd.R_slice HO_185005.out
  subst eo119
  go_wp2_with (first | ((with_reducible refine gate_callee (f := 19) rfl ?_); refine goesL_ (some 100) rfl rfl Tryd.func19 (by kernel_rfl) rfl #[.agg #[.int .i64 t186, .int .i64 t189, .int .i64 t192, .string x185003_11, .slice Ao118 x185004_20.length co118, .slice Ao119 x185005_20.length co119]] rfl tq_0 ?_; (with_reducible refine (impl_InodeOk.calls kj20 t186 t189 t192 x185003_11 _ _ x185004_20 _ _ x185005_20 false _ ?side1 ?side2 ?side3 ?side4 A92.out).mono ?_); (case side1 => exact tq_63); (case side2 => exact (Kd.R_reads' HO_185004.out).2.1); (case side3 => exact tq_62); (case side4 => exact (Kd.R_reads' HO_185005.out).2.1); rintro e w120 ⟨rfl, hb⟩; refine ⟨_, rfl, ?_⟩; have z_ := p_ (Kd.R_below (raR_ HO_185004) hb) <| p_ (Kd.R_below (raR_ HO_185005) hb) <| bw2_ (kb_ BK182) (kb_ BK184) th_ hb; clear HO_185004 HO_185005 BK182 BK184 HB; obtain ⟨HO_185004, HO_185005, BK182, BK184, HB⟩ := z_; (try clear hb); obtain ⟨hcz121_0, hcz121_1, hcz121_2, hcz121_3, hcz121_4, hcz121_5⟩ := bk6_ BK182.out; obtain ⟨hfz121_0, hfz121_1, hfz121_2, hfz121_3, hfz121_4, hfz121_5⟩ := bf6_ BK182.out))
  refine bodyPost_ret (results_ct rfl _ _ gb182 27 #[.int .i64 0, .int .i64 0, .int .i64 0, .string (⟨#[]⟩ : ByteArray), .slice none 0 0, .slice none 0 0] (0, 0) _ rfl tb_ Tryd.underlying27 rfl (by kernel_rfl)) rfl ?_
  exact ⟨_, _, tq_3, tq_23, tq_23, th_⟩
 subst c93
 rw [if_pos rfl] at H
 obtain ⟨t214, A94, H⟩ := bd_ H
 obtain ⟨t217, A95, H⟩ := bd_ H
 by_cases c96 : t217 = true
 rotate_left
 ·replace c96 := Bool.eq_false_iff.mpr c96
  subst c96
  rw [if_neg nf_] at H
  simp only [Option.some.injEq, Prod.mk.injEq] at H
  obtain ⟨rfl, rfl, rfl, rfl, rfl, rfl, rfl⟩ := H
  obtain ⟨hcz108_0, hcz108_1, hcz108_2, hcz108_3, hcz108_4, hcz108_5⟩ := bk6_ BK184.out
  obtain ⟨hfz108_0, hfz108_1, hfz108_2, hfz108_3, hfz108_4, hfz108_5⟩ := bf6_ BK184.out
  obtain ⟨Ao109, co109, eo109⟩ := Kd.R_slice HO_185004.out
  subst eo109
  obtain ⟨Ao110, co110, eo110⟩ := Kd.R_slice HO_185005.out
  subst eo110
  go_wp2_with (first | ((with_reducible refine gate_callee (f := 19) rfl ?_); refine goesL_ (some 100) rfl rfl Tryd.func19 (by kernel_rfl) rfl #[.agg #[.int .i64 t186, .int .i64 t189, .int .i64 t192, .string x185003_11, .slice Ao109 x185004_20.length co109, .slice Ao110 x185005_20.length co110]] rfl tq_0 ?_; (with_reducible refine (impl_InodeOk.calls kj20 t186 t189 t192 x185003_11 _ _ x185004_20 _ _ x185005_20 true _ ?side1 ?side2 ?side3 ?side4 A92.out).mono ?_); (case side1 => exact tq_63); (case side2 => exact (Kd.R_reads' HO_185004.out).2.1); (case side3 => exact tq_62); (case side4 => exact (Kd.R_reads' HO_185005.out).2.1); rintro e w111 ⟨rfl, hb⟩; refine ⟨_, rfl, ?_⟩; have z_ := p_ (Kd.R_below (raR_ HO_185004) hb) <| p_ (Kd.R_below (raR_ HO_185005) hb) <| bw2_ (kb_ BK182) (kb_ BK184) th_ hb; clear HO_185004 HO_185005 BK182 BK184 HB; obtain ⟨HO_185004, HO_185005, BK182, BK184, HB⟩ := z_; (try clear hb); (try clear hk); obtain ⟨hcz112_0, hcz112_1, hcz112_2, hcz112_3, hcz112_4, hcz112_5⟩ := bk6_ BK184.out; obtain ⟨hfz112_0, hfz112_1, hfz112_2, hfz112_3, hfz112_4, hfz112_5⟩ := bf6_ BK184.out) | (go_at_call 40; (with_reducible refine (impl_inodeText.calls kj20 t186 t189 t192 x185003_11 _ _ x185004_20 _ _ x185005_20 t214 _ ?side1 ?side2 ?side3 ?side4 A94.out).mono ?_); (case side1 => exact tq_63); (case side2 => exact (Kd.R_reads' HO_185004.out).2.1); (case side3 => exact tq_62); (case side4 => exact (Kd.R_reads' HO_185005.out).2.1); rintro e w113 ⟨v215, rfl, ho0, hb⟩; have z_ := p_ (Kd.R_below (raR_ HO_185004) hb) <| p_ (Kd.R_below (raR_ HO_185005) hb) <| p_ (Kd.R_lower ho0 (below_size th_)) <| bw2_ (kb_ BK182) (kb_ BK184) th_ hb; clear HO_185004 HO_185005 BK182 BK184 HB; obtain ⟨HO_185004, HO_185005, HO216, BK182, BK184, HB⟩ := z_; (try clear hb); (try clear ho0); obtain ⟨Ao114, co114, eo114⟩ := Kd.R_slice HO216.out; subst eo114) | (go_at_call 39; (with_reducible refine (slices_Equal_string.calls kj20 _ _ t214 _ _ l0 false _ ?side1 ?side2 ?side3 ?side4 A95.out).mono ?_); (case side1 => exact tq_110); (case side2 => exact (Kd.R_reads' HO216.out).2.1); (case side3 => exact tq_79); (case side4 => exact HC0.out); rintro e w' ⟨rfl, ⟨nd, rfl⟩⟩; (try (rw [drewN_self w113]; generalize hq_ : World.drewN w113 _ = w113; have z_ := q_ (⟨(by rw [← hq_]; exact (raR_ HO216))⟩ : Aside0 (Kd.R Kd.string 9 w113 w.heap.size (fun k_ => True) (.slice Ao114 t214.length co114) t214)) <| q_ (⟨(by rw [← hq_]; exact (raR_ HO_185004))⟩ : Aside0 (Kd.R k42 42 w113 w.heap.size (fun k_ => True) (.slice Ao109 x185004_20.length co109) x185004_20)) <| q_ (⟨(by rw [← hq_]; exact (raR_ HO_185005))⟩ : Aside0 (Kd.R k47 47 w113 w.heap.size (fun k_ => True) (.slice Ao110 x185005_20.length co110) x185005_20)) <| q_ (⟨(by rw [← hq_]; exact (kb_ BK182))⟩ : Aside0 (w113.heap[gb182]? = some (.cells #[.int .i64 x183000_20, .int .i64 x183001_20, .int .i64 x183002_20, .string x183003_20, .slice none 0 0, .slice none 0 0] 27 (0, 0)))) <| q_ (⟨(by rw [← hq_]; exact (kb_ BK184))⟩ : Aside0 (w113.heap[gb184]? = some (.cells #[.int .i64 t186, .int .i64 t189, .int .i64 t192, .string x185003_11, .slice Ao109 x185004_20.length co109, .slice Ao110 x185005_20.length co110] 27 (0, 0)))) <| (⟨(by rw [← hq_]; exact th_)⟩ : Aside0 (Below w.heap.size w w113)); clear HO216 HO_185004 HO_185005 BK182 BK184 HB hq_; obtain ⟨HO216, HO_185004, HO_185005, BK182, BK184, HB⟩ := z_)); obtain ⟨hcz115_0, hcz115_1, hcz115_2, hcz115_3, hcz115_4, hcz115_5⟩ := bk6_ BK182.out; obtain ⟨hfz115_0, hfz115_1, hfz115_2, hfz115_3, hfz115_4, hfz115_5⟩ := bf6_ BK182.out))
  refine bodyPost_ret (results_ct rfl _ _ gb182 27 #[.int .i64 0, .int .i64 0, .int .i64 0, .string (⟨#[]⟩ : ByteArray), .slice none 0 0, .slice none 0 0] (0, 0) _ rfl tb_ Tryd.underlying27 rfl (by kernel_rfl)) rfl ?_
  exact ⟨_, _, tq_3, tq_23, tq_23, th_⟩
 subst c96
 rw [if_pos rfl] at H
 simp only [Option.some.injEq, Prod.mk.injEq] at H
 obtain ⟨rfl, rfl, rfl, rfl, rfl, rfl, rfl⟩ := H
 obtain ⟨hcz98_0, hcz98_1, hcz98_2, hcz98_3, hcz98_4, hcz98_5⟩ := bk6_ BK184.out
 obtain ⟨hfz98_0, hfz98_1, hfz98_2, hfz98_3, hfz98_4, hfz98_5⟩ := bf6_ BK184.out
 obtain ⟨Ao99, co99, eo99⟩ := Kd.R_slice HO_185004.out
 subst eo99
 obtain ⟨Ao100, co100, eo100⟩ := Kd.R_slice HO_185005.out
 subst eo100
 go_wp2_with (first | ((with_reducible refine gate_callee (f := 19) rfl ?_); refine goesL_ (some 100) rfl rfl Tryd.func19 (by kernel_rfl) rfl #[.agg #[.int .i64 t186, .int .i64 t189, .int .i64 t192, .string x185003_11, .slice Ao99 x185004_20.length co99, .slice Ao100 x185005_20.length co100]] rfl tq_0 ?_; (with_reducible refine (impl_InodeOk.calls kj20 t186 t189 t192 x185003_11 _ _ x185004_20 _ _ x185005_20 true _ ?side1 ?side2 ?side3 ?side4 A92.out).mono ?_); (case side1 => exact tq_63); (case side2 => exact (Kd.R_reads' HO_185004.out).2.1); (case side3 => exact tq_62); (case side4 => exact (Kd.R_reads' HO_185005.out).2.1); rintro e w101 ⟨rfl, hb⟩; refine ⟨_, rfl, ?_⟩; have z_ := p_ (Kd.R_below (raR_ HO_185004) hb) <| p_ (Kd.R_below (raR_ HO_185005) hb) <| bw2_ (kb_ BK182) (kb_ BK184) th_ hb; clear HO_185004 HO_185005 BK182 BK184 HB; obtain ⟨HO_185004, HO_185005, BK182, BK184, HB⟩ := z_; (try clear hb); obtain ⟨hcz102_0, hcz102_1, hcz102_2, hcz102_3, hcz102_4, hcz102_5⟩ := bk6_ BK184.out; obtain ⟨hfz102_0, hfz102_1, hfz102_2, hfz102_3, hfz102_4, hfz102_5⟩ := bf6_ BK184.out) | (go_at_call 40; (with_reducible refine (impl_inodeText.calls kj20 t186 t189 t192 x185003_11 _ _ x185004_20 _ _ x185005_20 t214 _ ?side1 ?side2 ?side3 ?side4 A94.out).mono ?_); (case side1 => exact tq_63); (case side2 => exact (Kd.R_reads' HO_185004.out).2.1); (case side3 => exact tq_62); (case side4 => exact (Kd.R_reads' HO_185005.out).2.1); rintro e w103 ⟨v215, rfl, ho0, hb⟩; have z_ := p_ (Kd.R_below (raR_ HO_185004) hb) <| p_ (Kd.R_below (raR_ HO_185005) hb) <| p_ (Kd.R_lower ho0 (below_size th_)) <| bw2_ (kb_ BK182) (kb_ BK184) th_ hb; clear HO_185004 HO_185005 BK182 BK184 HB; obtain ⟨HO_185004, HO_185005, HO216, BK182, BK184, HB⟩ := z_; (try clear hb); (try clear ho0); obtain ⟨Ao104, co104, eo104⟩ := Kd.R_slice HO216.out; subst eo104) | (go_at_call 39; (with_reducible refine (slices_Equal_string.calls kj20 _ _ t214 _ _ l0 true _ ?side1 ?side2 ?side3 ?side4 A95.out).mono ?_); (case side1 => exact tq_110); (case side2 => exact (Kd.R_reads' HO216.out).2.1); (case side3 => exact tq_79); (case side4 => exact HC0.out); rintro e w' ⟨rfl, ⟨nd, rfl⟩⟩; (try (rw [drewN_self w103]; generalize hq_ : World.drewN w103 _ = w103; have z_ := q_ (⟨(by rw [← hq_]; exact (raR_ HO216))⟩ : Aside0 (Kd.R Kd.string 9 w103 w.heap.size (fun k_ => True) (.slice Ao104 t214.length co104) t214)) <| q_ (⟨(by rw [← hq_]; exact (raR_ HO_185004))⟩ : Aside0 (Kd.R k42 42 w103 w.heap.size (fun k_ => True) (.slice Ao99 x185004_20.length co99) x185004_20)) <| q_ (⟨(by rw [← hq_]; exact (raR_ HO_185005))⟩ : Aside0 (Kd.R k47 47 w103 w.heap.size (fun k_ => True) (.slice Ao100 x185005_20.length co100) x185005_20)) <| q_ (⟨(by rw [← hq_]; exact (kb_ BK182))⟩ : Aside0 (w103.heap[gb182]? = some (.cells #[.int .i64 x183000_20, .int .i64 x183001_20, .int .i64 x183002_20, .string x183003_20, .slice none 0 0, .slice none 0 0] 27 (0, 0)))) <| q_ (⟨(by rw [← hq_]; exact (kb_ BK184))⟩ : Aside0 (w103.heap[gb184]? = some (.cells #[.int .i64 t186, .int .i64 t189, .int .i64 t192, .string x185003_11, .slice Ao99 x185004_20.length co99, .slice Ao100 x185005_20.length co100] 27 (0, 0)))) <| (⟨(by rw [← hq_]; exact th_)⟩ : Aside0 (Below w.heap.size w w103)); clear HO216 HO_185004 HO_185005 BK182 BK184 HB hq_; obtain ⟨HO216, HO_185004, HO_185005, BK182, BK184, HB⟩ := z_)); obtain ⟨hcz105_0, hcz105_1, hcz105_2, hcz105_3, hcz105_4, hcz105_5⟩ := bk6_ BK184.out; obtain ⟨hfz105_0, hfz105_1, hfz105_2, hfz105_3, hfz105_4, hfz105_5⟩ := bf6_ BK184.out; obtain ⟨hcz106_0, hcz106_1, hcz106_2, hcz106_3, hcz106_4, hcz106_5⟩ := bk6_ BK182.out; obtain ⟨hfz106_0, hfz106_1, hfz106_2, hfz106_3, hfz106_4, hfz106_5⟩ := bf6_ BK182.out))
 refine bodyPost_ret (results_ct rfl _ _ gb182 27 #[.int .i64 t186, .int .i64 t189, .int .i64 t192, .string x185003_11, .slice Ao99 x185004_20.length co99, .slice Ao100 x185005_20.length co100] (0, 0) _ rfl tb_ Tryd.underlying27 rfl (by kernel_rfl)) rfl ?_
 exact ⟨_, _, tq_3, (by (with_reducible repeat (first | apply Kd.R_alloc | apply Kd.R_drewN | apply Kd.R_drew)); exact Kd.R_mono (rR_ (rR_ (rR_ (rR_ (rR_ (rR_ (Kd.R_types HO_185004.out BK182.out (by decide)))))))) (fun _ hk => trivial)), (by (with_reducible repeat (first | apply Kd.R_alloc | apply Kd.R_drewN | apply Kd.R_drew)); exact Kd.R_mono (rR_ (rR_ (rR_ (rR_ (rR_ (rR_ (Kd.R_types HO_185005.out BK182.out (by decide)))))))) (fun _ hk => trivial)), th_⟩

end Go.Proofs.YtjfhddenmnjgbaaDoor.PFnInodes
