/- Contracts of Go functions, written by a program of ours over the print of the kit: each says that the call returns what the Lean function beside it computes. Conditions: as each theorem states them. -/
import Derived.Test.YtjfhddenmnjgbaaDoorPkFnAnyInode
import Derived.Test.YtjfhddenmnjgbaaDoorPFnAnyInodex0
import Derived.Test.YtjfhddenmnjgbaaDoorPFnAnyInodex3
import Derived.Test.YtjfhddenmnjgbaaDoorPFnAnyInodex4
import Derived.Test.YtjfhddenmnjgbaaDoorPFnAnyInodex5
import Derived.Test.YtjfhddenmnjgbaaDoorPFnAnyInodex7
namespace Go.Proofs.YtjfhddenmnjgbaaDoor.PFnAnyInode
open Go.RowKit Go.Proofs.YtjfhddenmnjgbaaDoorW.PrintWords Go.Proofs.YtjfhddenmnjgbaaDoorW.PrintLast Go.Proofs.YtjfhddenmnjgbaaDoorW.PrintMore
attribute [local go_sem] max2_int min2_int max_two min_two max_three min_three max_four min_four setCell_drewN   -- for this text's walks alone
set_option linter.unusedVariables false
set_option linter.unusedSimpArgs false

/-! ### spec_ReadInode: function 7 -/
mutual
def spec_ReadInode.l0 : Nat → List ByteArray → Int → Option (Int × Int × Int × ByteArray × (List (S42)) × (List (S47)) × Bool)
 | 0, _, _ => none
 | k + 1, x0, x4 => if x4 < 8 then (if 0 ≤ x4 then (if x4 < (x0.length : Int) then (if ((rdOf ByteArray.empty x0 x4).size : Int) = 8 then (spec_ReadInode.l0 k x0 (wrap64 (x4 + 1))) else (some (0, 0, 0, (⟨#[]⟩ : ByteArray), ([] : List (S42)), ([] : List (S47)), false))) else (none)) else (none)) else (if 0 < (x0.length : Int) then (if 0 < ((rdOf ByteArray.empty x0 0).size : Int) then ((spec_NumAt.f k (rdOf ByteArray.empty x0 0) 1 2).bind fun bt188 => ((spec_NumAt.f k (rdOf ByteArray.empty x0 0) 3 2).bind fun bt191 => ((spec_ZeroText.f k 8).bind fun t193 => (if (wrap64 (bt (rdOf ByteArray.empty x0 0) 0)) = 1 then (if 1 < (x0.length : Int) then (spec_ReadInode.j1 k x0 t193 (wrap64 (bt (rdOf ByteArray.empty x0 0) 0)) bt188.1 bt191.1 (rdOf ByteArray.empty x0 1)) else (none)) else (spec_ReadInode.j1 k x0 t193 (wrap64 (bt (rdOf ByteArray.empty x0 0) 0)) bt188.1 bt191.1 (⟨#[]⟩ : ByteArray)))))) else (none)) else (none))
def spec_ReadInode.j1 : Nat → List ByteArray → ByteArray → Int → Int → Int → ByteArray → Option (Int × Int × Int × ByteArray × (List (S42)) × (List (S47)) × Bool)
 | 0, _, _, _, _, _, _ => none
 | k + 1, x0, x6, x187000, x187001, x187002, x187003 => spec_ReadInode.l1 k x0 x6 2 x187000 x187001 x187002 x187003 ([] : List (S42)) ([] : List (S47))
def spec_ReadInode.l1 : Nat → List ByteArray → ByteArray → Int → Int → Int → Int → ByteArray → List (S42) → List (S47) → Option (Int × Int × Int × ByteArray × (List (S42)) × (List (S47)) × Bool)
 | 0, _, _, _, _, _, _, _, _, _ => none
 | k + 1, x0, x6, x7, x187000, x187001, x187002, x187003, x187004, x187005 => if x7 < 8 then (if 0 ≤ x7 then (if x7 < (x0.length : Int) then (spec_ReadInode.j3 k x0 x6 x7 ((rdOf ByteArray.empty x0 x7).toList != x6.toList) x187000 x187001 x187002 x187003 x187004 x187005) else (none)) else (none)) else (spec_ReadInode.j3 k x0 x6 x7 false x187000 x187001 x187002 x187003 x187004 x187005)
def spec_ReadInode.j3 : Nat → List ByteArray → ByteArray → Int → Bool → Int → Int → Int → ByteArray → List (S42) → List (S47) → Option (Int × Int × Int × ByteArray × (List (S42)) × (List (S47)) × Bool)
 | 0, _, _, _, _, _, _, _, _, _, _ => none
 | k + 1, x0, x6, x7, x66, x187000, x187001, x187002, x187003, x187004, x187005 => if x66 = true then (if x187000 = 1 then (if 0 ≤ x7 then (if x7 < (x0.length : Int) then ((spec_ReadRec.f k (rdOf ByteArray.empty x0 x7)).bind fun bt197 => (if bt197.2.2.2 = true then (if x187004.length < 4398046511104 then (spec_ReadInode.j4 k x0 x6 x7 x187000 x187001 x187002 x187003 (x187004 ++ [(⟨bt197.1, bt197.2.1, bt197.2.2.1⟩ : S42)]) x187005) else (none)) else (some (0, 0, 0, (⟨#[]⟩ : ByteArray), ([] : List (S42)), ([] : List (S47)), false)))) else (none)) else (none)) else (spec_ReadInode.j4 k x0 x6 x7 x187000 x187001 x187002 x187003 x187004 x187005)) else ((spec_InodeWords.f k x187000 x187001 x187002 x187003 x187004 x187005).bind fun t213 => ((spec_l12Words.f k t213 x0).bind fun t216 => (if t216 = true then (some (x187000, x187001, x187002, x187003, x187004, x187005, true)) else (some (0, 0, 0, (⟨#[]⟩ : ByteArray), ([] : List (S42)), ([] : List (S47)), false)))))
def spec_ReadInode.j4 : Nat → List ByteArray → ByteArray → Int → Int → Int → Int → ByteArray → List (S42) → List (S47) → Option (Int × Int × Int × ByteArray × (List (S42)) × (List (S47)) × Bool)
 | 0, _, _, _, _, _, _, _, _, _ => none
 | k + 1, x0, x6, x7, x187000, x187001, x187002, x187003, x187004, x187005 => if x187000 = 2 then (if 0 ≤ x7 then (if x7 < (x0.length : Int) then ((spec_ReadEntry.f k (rdOf ByteArray.empty x0 x7)).bind fun bt206 => (if bt206.2.2 = true then (if x187005.length < 5864062014805 then (spec_ReadInode.l1 k x0 x6 (wrap64 (x7 + 1)) x187000 x187001 x187002 x187003 x187004 (x187005 ++ [(⟨bt206.1, bt206.2.1⟩ : S47)])) else (none)) else (some (0, 0, 0, (⟨#[]⟩ : ByteArray), ([] : List (S42)), ([] : List (S47)), false)))) else (none)) else (none)) else (spec_ReadInode.l1 k x0 x6 (wrap64 (x7 + 1)) x187000 x187001 x187002 x187003 x187004 x187005)
end
def spec_ReadInode.f (k : Nat) (l0 : List ByteArray) : Option (Int × Int × Int × ByteArray × (List (S42)) × (List (S47)) × Bool) := if (l0.length : Int) = 8 then (spec_ReadInode.l0 k l0 0) else (some (0, 0, 0, (⟨#[]⟩ : ByteArray), ([] : List (S42)), ([] : List (S47)), false))
theorem spec_ReadInode.mono_l : ∀ k, (∀ y0 y1, LeO (spec_ReadInode.l0 k y0 y1) (spec_ReadInode.l0 (k + 1) y0 y1)) ∧ (∀ y0 y1 y2 y3 y4 y5, LeO (spec_ReadInode.j1 k y0 y1 y2 y3 y4 y5) (spec_ReadInode.j1 (k + 1) y0 y1 y2 y3 y4 y5)) ∧ (∀ y0 y1 y2 y3 y4 y5 y6 y7 y8, LeO (spec_ReadInode.l1 k y0 y1 y2 y3 y4 y5 y6 y7 y8) (spec_ReadInode.l1 (k + 1) y0 y1 y2 y3 y4 y5 y6 y7 y8)) ∧ (∀ y0 y1 y2 y3 y4 y5 y6 y7 y8 y9, LeO (spec_ReadInode.j3 k y0 y1 y2 y3 y4 y5 y6 y7 y8 y9) (spec_ReadInode.j3 (k + 1) y0 y1 y2 y3 y4 y5 y6 y7 y8 y9)) ∧ (∀ y0 y1 y2 y3 y4 y5 y6 y7 y8, LeO (spec_ReadInode.j4 k y0 y1 y2 y3 y4 y5 y6 y7 y8) (spec_ReadInode.j4 (k + 1) y0 y1 y2 y3 y4 y5 y6 y7 y8))
 | 0 => ⟨fun _ _ r h => by simp [spec_ReadInode.l0] at h, fun _ _ _ _ _ _ r h => by simp [spec_ReadInode.j1] at h, fun _ _ _ _ _ _ _ _ _ r h => by simp [spec_ReadInode.l1] at h, fun _ _ _ _ _ _ _ _ _ _ r h => by simp [spec_ReadInode.j3] at h, fun _ _ _ _ _ _ _ _ _ r h => by simp [spec_ReadInode.j4] at h⟩
 | k + 1 => by
  obtain ⟨ih0, ih1, ih2, ih3, ih4⟩ := spec_ReadInode.mono_l k
  refine ⟨?_, ?_, ?_, ?_, ?_⟩
  ·intro y0 y1
   unfold spec_ReadInode.l0
   exact mo_4
  ·intro y0 y1 y2 y3 y4 y5
   unfold spec_ReadInode.j1
   exact mo_4
  ·intro y0 y1 y2 y3 y4 y5 y6 y7 y8
   unfold spec_ReadInode.l1
   exact mo_4
  ·intro y0 y1 y2 y3 y4 y5 y6 y7 y8 y9
   unfold spec_ReadInode.j3
   exact mo_4
  ·intro y0 y1 y2 y3 y4 y5 y6 y7 y8
   unfold spec_ReadInode.j4
   exact mo_4
theorem spec_ReadInode.mono : ∀ a0 k, LeO (spec_ReadInode.f k a0) (spec_ReadInode.f (k + 1) a0) := by
 intro a0 k
 obtain ⟨ih0, ih1, ih2, ih3, ih4⟩ := spec_ReadInode.mono_l k
 unfold spec_ReadInode.f
 repeat' first
   | (with_reducible exact ih0 ..)
   | (with_reducible exact ih1 ..)
   | (with_reducible exact ih2 ..)
   | (with_reducible exact ih3 ..)
   | (with_reducible exact ih4 ..)
   | (with_reducible exact spec_InodeWords.mono ..)
   | (with_reducible exact spec_NumAt.mono ..)
   | (with_reducible exact spec_ReadEntry.mono ..)
   | (with_reducible exact spec_ReadRec.mono ..)
   | (with_reducible exact spec_ZeroText.mono ..)
   | (with_reducible exact spec_l12Words.mono ..)
   | (with_reducible exact LeO.refl _)
   | (with_reducible exact LeO.none _)
   | (with_reducible refine LeO.ite ?_ ?_)
   | (with_reducible refine LeO.bind ?_ (fun _ => ?_))
   | exact ih0 ..
   | exact ih1 ..
   | exact ih2 ..
   | exact ih3 ..
   | exact ih4 ..
   | exact spec_InodeWords.mono ..
   | exact spec_NumAt.mono ..
   | exact spec_ReadEntry.mono ..
   | exact spec_ReadRec.mono ..
   | exact spec_ZeroText.mono ..
   | exact spec_l12Words.mono ..
   | exact LeO.none _
   | refine LeO.ite ?_ ?_
   | refine LeO.bind ?_ (fun _ => ?_)
set_option maxHeartbeats 8000000 in
set_option maxRecDepth 100000 in
theorem spec_ReadInode.calls (k : Nat) (A0 : Option Addr) (c0 : Nat) (l0 : List ByteArray) (r1 : Int) (r2 : Int) (r3 : Int) (r4 : ByteArray) (r5 : List (S42)) (r6 : List (S47)) (r7 : Bool) (w : World) (hr0 : Kd.C Kd.string w A0 l0.length l0) (hc0 : l0.length ≤ c0) (h : spec_ReadInode.f k l0 = some (r1, r2, r3, r4, r5, r6, r7)) :
  Calls Tryd.prog 7 #[.slice A0 l0.length c0] w fun e w' => ∃ v4_ v5_ : Value, e = .returned (.tuple #[.agg #[.int .i64 r1, .int .i64 r2, .int .i64 r3, .string r4, v4_, v5_], .bool r7]) ∧ Kd.R k42 42 w' w.heap.size (fun _ => True) v4_ r5 ∧ Kd.R k47 47 w' w.heap.size (fun _ => True) v5_ r6 ∧ Below w.heap.size w w' := by
 have hu27 := Tryd.underlying27
 have hu42 := Tryd.underlying42
 have hu47 := Tryd.underlying47
 have HR0 := Aside0.mk hr0
 have HC0 := Aside0.mk hc0
 clear hr0 hc0
 have HB := Aside0.mk (Below.refl w.heap.size w)
 unfold spec_ReadInode.f at h
 have H := h
 clear h
 by_cases c2 : (l0.length : Int) = 8
 rotate_left
 ·rw [if_neg c2] at H
  have c2b0 := beq_eq_false_iff_ne.mpr c2
  have c2b1 := bne_iff_ne.mpr c2
  simp only [Option.some.injEq, Prod.mk.injEq] at H
  obtain ⟨rfl, rfl, rfl, rfl, rfl, rfl, rfl⟩ := H
  go_enter Tryd.func7, Tryd.ntmps7
  go_wp2_with (first | ((with_reducible refine gate_dst (N := 2) rfl ?_); refine be_ 2 (cs := #[.int .i64 0, .int .i64 0, .int .i64 0, .string (⟨#[]⟩ : ByteArray), .slice none 0 0, .slice none 0 0]) 27 ?_; intro gb183 hg w101 hbox hb; have z_ := bx0_ th_ hb hbox hg; clear HB; obtain ⟨HB, BK183, GW183, GE183⟩ := z_; clear hb hbox hg; obtain ⟨hcz102_0, hcz102_1, hcz102_2, hcz102_3, hcz102_4, hcz102_5⟩ := bk6_ BK183.out; obtain ⟨hfz102_0, hfz102_1, hfz102_2, hfz102_3, hfz102_4, hfz102_5⟩ := bf6_ BK183.out))
  refine bodyPost_ret (results_ct rfl _ _ gb183 27 #[.int .i64 0, .int .i64 0, .int .i64 0, .string (⟨#[]⟩ : ByteArray), .slice none 0 0, .slice none 0 0] (0, 0) _ rfl tb_ Tryd.underlying27 rfl (by kernel_rfl)) rfl ?_
  exact ⟨_, _, tq_2, tq_10, tq_10, th_⟩
 rw [if_pos c2] at H
 have c2b0 := beq_iff_eq.mpr c2
 have c2b1 := bne_eq_false_iff_eq.mpr c2
 clear c2
 have H' := Aside0.mk H
 clear H
 go_enter Tryd.func7, Tryd.ntmps7
 go_wp2_with (first | ((with_reducible refine gate_dst (N := 2) rfl ?_); refine be_ 2 (cs := #[.int .i64 0, .int .i64 0, .int .i64 0, .string (⟨#[]⟩ : ByteArray), .slice none 0 0, .slice none 0 0]) 27 ?_; intro gb183 hg w3 hbox hb; have z_ := bx0_ th_ hb hbox hg; clear HB; obtain ⟨HB, BK183, GW183, GE183⟩ := z_; clear hb hbox hg))
 go_loopg [4] k (fun kq v4 w' => ∃ (x4_1 : Int) (x184000_1 : Int) (x184001_1 : Int) (x184002_1 : Int) (x184003_1 : ByteArray), v4 = .int .i64 x4_1 ∧ Aside0 (spec_ReadInode.l0 kq l0 x4_1 = some (r1, r2, r3, r4, r5, r6, r7)) ∧ Aside0 (kq ≤ k) ∧ Aside0 (w'.heap[gb183]? = some (.cells #[.int .i64 x184000_1, .int .i64 x184001_1, .int .i64 x184002_1, .string x184003_1, (.slice none 0 0), (.slice none 0 0)] 27 (0, 0))) ∧ Aside0 (Below w.heap.size w w'))
 case atStart => exact ⟨(0), (0), (0), (0), ((⟨#[]⟩ : ByteArray)), tq_4, H', ⟨Nat.le_refl _⟩, ⟨(kb_ BK183)⟩, ⟨th_⟩⟩
 case round =>
 clear H'
 try clear c2; try clear c2b0; try clear c2b1; try clear p2
 obtain ⟨x4_1, x184000_1, x184001_1, x184002_1, x184003_1, rfl, HA, HK1, BK183, HB⟩ := hrel
 cases gk with
 | zero => exact absurd HA.out (by simp [spec_ReadInode.l0])
 | succ k1 =>
 have H := HA.out
 clear HA
 simp only [spec_ReadInode.l0] at H
 by_cases c4 : x4_1 < 8
 ·rw [if_pos c4] at H
  have c4b0 := decide_eq_true c4
  clear c4
  obtain ⟨c5, H⟩ := fc_ H
  have c5b0 := decide_eq_true c5
  clear c5
  obtain ⟨c6, H⟩ := fc_ H
  have c6b0 := decide_eq_true c6
  clear c6
  by_cases c7 : ((rdOf ByteArray.empty l0 x4_1).size : Int) = 8
  ·rw [if_pos c7] at H
   have c7b0 := beq_iff_eq.mpr c7
   have c7b1 := bne_eq_false_iff_eq.mpr c7
   clear c7
   have H' := Aside0.mk H
   clear H
   have p184 : 0 ≤ (x4_1 : Int) := of_decide_eq_true tq_1
   have q184 : x4_1 < (l0.length : Int) := of_decide_eq_true tq_1
   obtain ⟨ad184, e184, hx184_0⟩ := Kd.at_string HR0.out x4_1 p184 q184
   cases e184
   replace hx184_0 := hx_ HB.out hx184_0
   replace p184 := eq_true p184
   replace q184 := eq_true q184
   go_wp2
   go_roundg k1
   case measure => have := HK1.out; omega
   case rel => exact ⟨(wrap64 (x4_1 + 1)), (x184000_1), (x184001_1), (x184002_1), (x184003_1), tq_4, H', ⟨tq_56⟩, ⟨(kb_ BK183)⟩, ⟨th_⟩⟩
  rw [if_neg c7] at H
  have c7b0 := beq_eq_false_iff_ne.mpr c7
  have c7b1 := bne_iff_ne.mpr c7
  simp only [Option.some.injEq, Prod.mk.injEq] at H
  obtain ⟨rfl, rfl, rfl, rfl, rfl, rfl, rfl⟩ := H
  have p184 : 0 ≤ (x4_1 : Int) := of_decide_eq_true tq_1
  have q184 : x4_1 < (l0.length : Int) := of_decide_eq_true tq_1
  obtain ⟨ad184, e184, hx184_0⟩ := Kd.at_string HR0.out x4_1 p184 q184
  cases e184
  replace hx184_0 := hx_ HB.out hx184_0
  replace p184 := eq_true p184
  replace q184 := eq_true q184
  obtain ⟨hcz8_0, hcz8_1, hcz8_2, hcz8_3, hcz8_4, hcz8_5⟩ := bk6_ BK183.out
  obtain ⟨hfz8_0, hfz8_1, hfz8_2, hfz8_3, hfz8_4, hfz8_5⟩ := bf6_ BK183.out
  go_wp2
  refine bodyPost_ret (results_ct rfl _ _ gb183 27 #[.int .i64 0, .int .i64 0, .int .i64 0, .string (⟨#[]⟩ : ByteArray), .slice none 0 0, .slice none 0 0] (0, 0) _ rfl tb_ Tryd.underlying27 rfl (by kernel_rfl)) rfl ?_
  exact ⟨_, _, tq_2, tq_10, tq_10, th_⟩
 rw [if_neg c4] at H
 have c4b0 := decide_eq_false c4
 clear c4
 obtain ⟨c9, H⟩ := fc_ H
 have c9b0 := decide_eq_true c9
 have c9b1 : decide (0 < l0.length) = true := decide_eq_true (by omega)
 clear c9
 obtain ⟨c10, H⟩ := fc_ H
 have c10b0 := decide_eq_true c10
 have c10b1 : decide (0 < (rdOf ByteArray.empty l0 0).size) = true := decide_eq_true (by omega)
 clear c10
 obtain ⟨⟨t188, t189⟩, A12, H⟩ := bd_ H
 try dsimp -simprocs only at H
 obtain ⟨⟨t191, t192⟩, A13, H⟩ := bd_ H
 try dsimp -simprocs only at H
 obtain ⟨t193, A14, H⟩ := bd_ H
 have HC15 := Aside0.mk H
 clear H
 have p185 : 0 ≤ (0 : Int) := (by omega)
 have q185 : 0 < (l0.length : Int) := of_decide_eq_true tq_1
 obtain ⟨ad185, e185, hx185_0⟩ := Kd.at_string HR0.out 0 p185 q185
 cases e185
 have qi185 : (0 < l0.length) = True := eq_true (by omega)
 (try rw [show ((0 : Int)).toNat = 0 from rfl] at hx185_0)
 (try rw [Addr.add_zero'] at hx185_0)
 replace hx185_0 := hx_ HB.out hx185_0
 replace p185 := eq_true p185
 replace q185 := eq_true q185
 have p11 : 0 ≤ (0 : Int) := (by omega)
 have q11 : 0 < (rdOf ByteArray.empty l0 0).size := (by have : (0 : Int) < ((rdOf ByteArray.empty l0 0).size : Int) := of_decide_eq_true tq_1; omega)
 have hx11 : ∀ h : 0 < (rdOf ByteArray.empty l0 0).size, (((rdOf ByteArray.empty l0 0)[0]'h).toNat : Int) = bt (rdOf ByteArray.empty l0 0) 0 := bt_at (rdOf ByteArray.empty l0 0) 0
 clear p11
 have qi11 : (0 < ((rdOf ByteArray.empty l0 0).size : Int)) = True := eq_true (of_decide_eq_true tq_1)
 replace q11 := eq_true q11
 go_upto_if 52 with (first | ((with_reducible refine gate_dst (N := 5) rfl ?_); refine be_ 5 (cs := #[.int .i64 0, .int .i64 0, .int .i64 0, .string (⟨#[]⟩ : ByteArray), .slice none 0 0, .slice none 0 0]) 27 ?_; intro gb186 hg w16 hbox hb; have z_ := bx1_ (kb_ BK183) th_ hb hbox hg; clear BK183 HB; obtain ⟨BK183, HB, BK186, GW186, GE186, NB183_186, NB186_183⟩ := z_; clear hb hbox hg; obtain ⟨n186_183, n183_186⟩ := an2_ NB186_183 NB183_186; obtain ⟨hcz18_0, hcz18_1, hcz18_2, hcz18_3, hcz18_4, hcz18_5⟩ := bk6_ BK186.out; obtain ⟨hfz18_0, hfz18_1, hfz18_2, hfz18_3, hfz18_4, hfz18_5⟩ := bf6_ BK186.out; have p187 : 0 ≤ (0 : Int) := (by omega); have q187 : 0 < (l0.length : Int) := of_decide_eq_true tq_1; obtain ⟨ad187, e187, hx187_0⟩ := Kd.at_string HR0.out 0 p187 q187; obtain rfl : ad185 = ad187 := (by injection e187); have qi187 : (0 < l0.length) = True := eq_true (by omega); (try rw [show ((0 : Int)).toNat = 0 from rfl] at hx187_0); (try rw [Addr.add_zero'] at hx187_0); have hn187_0 : ad185.block ≠ gb186 := Nat.ne_of_lt (Nat.lt_of_lt_of_le tq_58 GW186.out); have hn187_1 : ad185.block ≠ gb186 := Nat.ne_of_lt (Nat.lt_of_lt_of_le tq_58 GW186.out); have hn187_2 : ad185.block ≠ gb186 := Nat.ne_of_lt (Nat.lt_of_lt_of_le tq_58 GW186.out); have hn187_3 : ad185.block ≠ gb186 := Nat.ne_of_lt (Nat.lt_of_lt_of_le tq_58 GW186.out); have hn187_4 : ad185.block ≠ gb186 := Nat.ne_of_lt (Nat.lt_of_lt_of_le tq_58 GW186.out); have hn187_5 : ad185.block ≠ gb186 := Nat.ne_of_lt (Nat.lt_of_lt_of_le tq_58 GW186.out); replace hx187_0 := hx_ HB.out hx187_0; replace hx187_0 := (cell_far (p := ⟨gb186, 0, none⟩) (by first | (rw [add_block]; exact hn187_0) | (show (Addr.add _ _).block ≠ _; rw [add_block]; exact hn187_0) | exact hn187_0) (.int .i64 (wrap64 (bt (rdOf ByteArray.empty l0 0) 0)))).trans hx187_0; replace hx187_0 := (cell_far (p := ⟨gb186, 1, none⟩) (by first | (rw [add_block]; exact hn187_1) | (show (Addr.add _ _).block ≠ _; rw [add_block]; exact hn187_1) | exact hn187_1) (.int .i64 0)).trans hx187_0; replace hx187_0 := (cell_far (p := ⟨gb186, 2, none⟩) (by first | (rw [add_block]; exact hn187_2) | (show (Addr.add _ _).block ≠ _; rw [add_block]; exact hn187_2) | exact hn187_2) (.int .i64 0)).trans hx187_0; replace hx187_0 := (cell_far (p := ⟨gb186, 3, none⟩) (by first | (rw [add_block]; exact hn187_3) | (show (Addr.add _ _).block ≠ _; rw [add_block]; exact hn187_3) | exact hn187_3) (.string (⟨#[]⟩ : ByteArray))).trans hx187_0; replace hx187_0 := (cell_far (p := ⟨gb186, 4, none⟩) (by first | (rw [add_block]; exact hn187_4) | (show (Addr.add _ _).block ≠ _; rw [add_block]; exact hn187_4) | exact hn187_4) (.slice none 0 0)).trans hx187_0; replace hx187_0 := (cell_far (p := ⟨gb186, 5, none⟩) (by first | (rw [add_block]; exact hn187_5) | (show (Addr.add _ _).block ≠ _; rw [add_block]; exact hn187_5) | exact hn187_5) (.slice none 0 0)).trans hx187_0; clear hn187_0 hn187_1 hn187_2 hn187_3 hn187_4 hn187_5; replace p187 := eq_true p187; replace q187 := eq_true q187) | ((with_reducible refine gate_callee (f := 29) rfl ?_); refine goesL_ (some 37) rfl rfl Tryd.func29 (by kernel_rfl) rfl #[.string (rdOf ByteArray.empty l0 0), .int .i64 1, .int .i64 2] rfl tq_0 ?_; (with_reducible refine (spec_NumAt.calls k1 (rdOf ByteArray.empty l0 0) 1 2 t188 t189 _ A12.out).mono ?_); rintro e w' ⟨rfl, ⟨nd, rfl⟩⟩; refine ⟨_, rfl, ?_⟩; have p190 : 0 ≤ (0 : Int) := (by omega); have q190 : 0 < (l0.length : Int) := of_decide_eq_true tq_1; obtain ⟨ad190, e190, hx190_0⟩ := Kd.at_string HR0.out 0 p190 q190; obtain rfl : ad185 = ad190 := (by injection e190); have qi190 : (0 < l0.length) = True := eq_true (by omega); (try rw [show ((0 : Int)).toNat = 0 from rfl] at hx190_0); (try rw [Addr.add_zero'] at hx190_0); have hn190_0 : ad185.block ≠ gb186 := Nat.ne_of_lt (Nat.lt_of_lt_of_le tq_52 GW186.out); have hn190_1 : ad185.block ≠ gb186 := Nat.ne_of_lt (Nat.lt_of_lt_of_le tq_52 GW186.out); have hn190_2 : ad185.block ≠ gb186 := Nat.ne_of_lt (Nat.lt_of_lt_of_le tq_52 GW186.out); have hn190_3 : ad185.block ≠ gb186 := Nat.ne_of_lt (Nat.lt_of_lt_of_le tq_52 GW186.out); have hn190_4 : ad185.block ≠ gb186 := Nat.ne_of_lt (Nat.lt_of_lt_of_le tq_52 GW186.out); have hn190_5 : ad185.block ≠ gb186 := Nat.ne_of_lt (Nat.lt_of_lt_of_le tq_52 GW186.out); have hn190_6 : ad185.block ≠ gb186 := Nat.ne_of_lt (Nat.lt_of_lt_of_le tq_52 GW186.out); replace hx190_0 := hx_ HB.out hx190_0; replace hx190_0 := (cell_far (p := ⟨gb186, 0, none⟩) (by first | (rw [add_block]; exact hn190_0) | (show (Addr.add _ _).block ≠ _; rw [add_block]; exact hn190_0) | exact hn190_0) (.int .i64 (wrap64 (bt (rdOf ByteArray.empty l0 0) 0)))).trans hx190_0; replace hx190_0 := (cell_far (p := ⟨gb186, 1, none⟩) (by first | (rw [add_block]; exact hn190_1) | (show (Addr.add _ _).block ≠ _; rw [add_block]; exact hn190_1) | exact hn190_1) (.int .i64 0)).trans hx190_0; replace hx190_0 := (cell_far (p := ⟨gb186, 2, none⟩) (by first | (rw [add_block]; exact hn190_2) | (show (Addr.add _ _).block ≠ _; rw [add_block]; exact hn190_2) | exact hn190_2) (.int .i64 0)).trans hx190_0; replace hx190_0 := (cell_far (p := ⟨gb186, 3, none⟩) (by first | (rw [add_block]; exact hn190_3) | (show (Addr.add _ _).block ≠ _; rw [add_block]; exact hn190_3) | exact hn190_3) (.string (⟨#[]⟩ : ByteArray))).trans hx190_0; replace hx190_0 := (cell_far (p := ⟨gb186, 4, none⟩) (by first | (rw [add_block]; exact hn190_4) | (show (Addr.add _ _).block ≠ _; rw [add_block]; exact hn190_4) | exact hn190_4) (.slice none 0 0)).trans hx190_0; replace hx190_0 := (cell_far (p := ⟨gb186, 5, none⟩) (by first | (rw [add_block]; exact hn190_5) | (show (Addr.add _ _).block ≠ _; rw [add_block]; exact hn190_5) | exact hn190_5) (.slice none 0 0)).trans hx190_0; replace hx190_0 := (cell_far (p := ⟨gb186, 1, none⟩) (by first | (rw [add_block]; exact hn190_6) | (show (Addr.add _ _).block ≠ _; rw [add_block]; exact hn190_6) | exact hn190_6) (.int .i64 t188)).trans hx190_0; clear hn190_0 hn190_1 hn190_2 hn190_3 hn190_4 hn190_5 hn190_6; replace p190 := eq_true p190; replace q190 := eq_true q190) | ((with_reducible refine gate_callee (f := 29) rfl ?_); refine goesL_ (some 45) rfl rfl Tryd.func29 (by kernel_rfl) rfl #[.string (rdOf ByteArray.empty l0 0), .int .i64 3, .int .i64 2] rfl tq_0 ?_; (with_reducible refine (spec_NumAt.calls k1 (rdOf ByteArray.empty l0 0) 3 2 t191 t192 _ A13.out).mono ?_); rintro e w' ⟨rfl, ⟨nd, rfl⟩⟩; refine ⟨_, rfl, ?_⟩) | ((with_reducible refine gate_callee (f := 30) rfl ?_); refine goesL_ (some 49) rfl rfl Tryd.func30 (by kernel_rfl) rfl #[.int .i64 8] rfl tq_0 ?_; (with_reducible refine (spec_ZeroText.calls k1 8 t193 _ A14.out).mono ?_); rintro e w19 ⟨rfl, hb⟩; refine ⟨_, rfl, ?_⟩; have z_ := p_ (blk_below (g := gb183) (o := .cells #[.int .i64 x184000_1, .int .i64 x184001_1, .int .i64 x184002_1, .string x184003_1, .slice none 0 0, .slice none 0 0] 27 (0, 0)) (by (with_reducible repeat (first | refine blk_drewN ?_ _ | refine blk_drew ?_ | refine blk_alloc ?_ _)); refine blk_far ?_ NB183_186.out _; (with_reducible repeat (first | refine blk_drewN ?_ _ | refine blk_drew ?_ | refine blk_alloc ?_ _)); refine blk_far ?_ NB183_186.out _; (with_reducible repeat (first | refine blk_drewN ?_ _ | refine blk_drew ?_ | refine blk_alloc ?_ _)); refine blk_far ?_ NB183_186.out _; (with_reducible repeat (first | refine blk_drewN ?_ _ | refine blk_drew ?_ | refine blk_alloc ?_ _)); refine blk_far ?_ NB183_186.out _; (with_reducible repeat (first | refine blk_drewN ?_ _ | refine blk_drew ?_ | refine blk_alloc ?_ _)); refine blk_far ?_ NB183_186.out _; (with_reducible repeat (first | refine blk_drewN ?_ _ | refine blk_drew ?_ | refine blk_alloc ?_ _)); refine blk_far ?_ NB183_186.out _; (with_reducible repeat (first | refine blk_drewN ?_ _ | refine blk_drew ?_ | refine blk_alloc ?_ _)); refine blk_far ?_ NB183_186.out _; (with_reducible repeat (first | refine blk_drewN ?_ _ | refine blk_drew ?_ | refine blk_alloc ?_ _)); refine blk_far ?_ NB183_186.out _; (with_reducible repeat (first | refine blk_drewN ?_ _ | refine blk_drew ?_ | refine blk_alloc ?_ _)); exact BK183.out) hb) <| p_ (blk_below (g := gb186) (o := .cells #[.int .i64 (wrap64 (bt (rdOf ByteArray.empty l0 0) 0)), .int .i64 t188, .int .i64 t191, .string (⟨#[]⟩ : ByteArray), .slice none 0 0, .slice none 0 0] 27 (0, 0)) (by (with_reducible repeat (first | refine blk_drewN ?_ _ | refine blk_drew ?_ | refine blk_alloc ?_ _)); refine blk_put (cs := #[.int .i64 (wrap64 (bt (rdOf ByteArray.empty l0 0) 0)), .int .i64 t188, .int .i64 0, .string (⟨#[]⟩ : ByteArray), .slice none 0 0, .slice none 0 0]) ?_ 2 _ rfl; (with_reducible repeat (first | refine blk_drewN ?_ _ | refine blk_drew ?_ | refine blk_alloc ?_ _)); refine blk_put (cs := #[.int .i64 (wrap64 (bt (rdOf ByteArray.empty l0 0) 0)), .int .i64 0, .int .i64 0, .string (⟨#[]⟩ : ByteArray), .slice none 0 0, .slice none 0 0]) ?_ 1 _ rfl; (with_reducible repeat (first | refine blk_drewN ?_ _ | refine blk_drew ?_ | refine blk_alloc ?_ _)); refine blk_put (cs := #[.int .i64 (wrap64 (bt (rdOf ByteArray.empty l0 0) 0)), .int .i64 0, .int .i64 0, .string (⟨#[]⟩ : ByteArray), .slice none 0 0, .slice none 0 0]) ?_ 5 _ rfl; (with_reducible repeat (first | refine blk_drewN ?_ _ | refine blk_drew ?_ | refine blk_alloc ?_ _)); refine blk_put (cs := #[.int .i64 (wrap64 (bt (rdOf ByteArray.empty l0 0) 0)), .int .i64 0, .int .i64 0, .string (⟨#[]⟩ : ByteArray), .slice none 0 0, .slice none 0 0]) ?_ 4 _ rfl; (with_reducible repeat (first | refine blk_drewN ?_ _ | refine blk_drew ?_ | refine blk_alloc ?_ _)); refine blk_put (cs := #[.int .i64 (wrap64 (bt (rdOf ByteArray.empty l0 0) 0)), .int .i64 0, .int .i64 0, .string (⟨#[]⟩ : ByteArray), .slice none 0 0, .slice none 0 0]) ?_ 3 _ rfl; (with_reducible repeat (first | refine blk_drewN ?_ _ | refine blk_drew ?_ | refine blk_alloc ?_ _)); refine blk_put (cs := #[.int .i64 (wrap64 (bt (rdOf ByteArray.empty l0 0) 0)), .int .i64 0, .int .i64 0, .string (⟨#[]⟩ : ByteArray), .slice none 0 0, .slice none 0 0]) ?_ 2 _ rfl; (with_reducible repeat (first | refine blk_drewN ?_ _ | refine blk_drew ?_ | refine blk_alloc ?_ _)); refine blk_put (cs := #[.int .i64 (wrap64 (bt (rdOf ByteArray.empty l0 0) 0)), .int .i64 0, .int .i64 0, .string (⟨#[]⟩ : ByteArray), .slice none 0 0, .slice none 0 0]) ?_ 1 _ rfl; (with_reducible repeat (first | refine blk_drewN ?_ _ | refine blk_drew ?_ | refine blk_alloc ?_ _)); refine blk_put (cs := #[.int .i64 0, .int .i64 0, .int .i64 0, .string (⟨#[]⟩ : ByteArray), .slice none 0 0, .slice none 0 0]) ?_ 0 _ rfl; (with_reducible repeat (first | refine blk_drewN ?_ _ | refine blk_drew ?_ | refine blk_alloc ?_ _)); exact BK186.out) hb) <| a_ (below_step th_ hb); clear BK183 BK186 HB; obtain ⟨BK183, BK186, HB⟩ := z_; (try clear hb); obtain ⟨hcz20_0, hcz20_1, hcz20_2, hcz20_3, hcz20_4, hcz20_5⟩ := bk6_ BK186.out; obtain ⟨hfz20_0, hfz20_1, hfz20_2, hfz20_3, hfz20_4, hfz20_5⟩ := bf6_ BK186.out))
 (try simp only [Act.put, List.setIfInBounds_toArray, List.set_cons_zero, List.set_cons_succ])
 go_cut [] (fun wc => ∃ (kq : Nat) (x187003_14 : ByteArray), Aside0 (spec_ReadInode.j1 kq l0 t193 (wrap64 (bt (rdOf ByteArray.empty l0 0) 0)) t188 t191 x187003_14 = some (r1, r2, r3, r4, r5, r6, r7)) ∧ Aside0 (kq ≤ k1) ∧ Aside0 (wc.heap[gb183]? = some (.cells #[.int .i64 x184000_1, .int .i64 x184001_1, .int .i64 x184002_1, .string x184003_1, (.slice none 0 0), (.slice none 0 0)] 27 (0, 0))) ∧ Aside0 (wc.heap[gb186]? = some (.cells #[.int .i64 (wrap64 (bt (rdOf ByteArray.empty l0 0) 0)), .int .i64 t188, .int .i64 t191, .string x187003_14, (.slice none 0 0), (.slice none 0 0)] 27 (0, 0))) ∧ Aside0 (Below w.heap.size w wc))
 case first =>
  have H := HC15.out
  clear HC15
  by_cases c21 : (wrap64 (bt (rdOf ByteArray.empty l0 0) 0)) = 1
  rotate_left
  ·rw [if_neg c21] at H
   have c21b0 := beq_eq_false_iff_ne.mpr c21
   have c21b1 := bne_iff_ne.mpr c21
   (first | rw [c21b0] | (simp only [i64_w, i32_w]; rw [c21b0]) | skip)
   have H' := Aside0.mk H
   clear H
   go_wp2
   go_meet
   case rel => exact ⟨_, ((⟨#[]⟩ : ByteArray)), H', ⟨(by have := HK1.out; first | omega | exact Nat.le_refl _)⟩, ⟨(kb_ BK183)⟩, ⟨(kb_ BK186)⟩, ⟨th_⟩⟩
  rw [if_pos c21] at H
  have c21b0 := beq_iff_eq.mpr c21
  have c21b1 := bne_eq_false_iff_eq.mpr c21
  clear c21
  (first | rw [c21b0] | (simp only [i64_w, i32_w]; rw [c21b0]) | skip)
  obtain ⟨c22, H⟩ := fc_ H
  have c22b0 := decide_eq_true c22
  have c22b1 : decide (1 < l0.length) = true := decide_eq_true (by omega)
  clear c22
  have H' := Aside0.mk H
  clear H
  have p194 : 0 ≤ (1 : Int) := (by omega)
  have q194 : 1 < (l0.length : Int) := of_decide_eq_true tq_1
  obtain ⟨ad194, e194, hx194_0⟩ := Kd.at_string HR0.out 1 p194 q194
  obtain rfl : ad185 = ad194 := (by injection e194)
  (try simp only [show (1 : Int).toNat = 1 from rfl, Nat.reduceMul, Nat.reduceEqDiff, Go.Addr.add, ↓reduceIte] at hx194_0)
  have qi194 : (1 < l0.length) = True := eq_true (by omega)
  (try rw [show ((1 : Int)).toNat = 1 from rfl] at hx194_0)
  replace hx194_0 := hx_ HB.out hx194_0
  replace p194 := eq_true p194
  replace q194 := eq_true q194
  obtain ⟨hcz24_0, hcz24_1, hcz24_2, hcz24_3, hcz24_4, hcz24_5⟩ := bk6_ BK186.out
  obtain ⟨hfz24_0, hfz24_1, hfz24_2, hfz24_3, hfz24_4, hfz24_5⟩ := bf6_ BK186.out
  go_wp2
  go_meet
  case rel => exact ⟨_, (rdOf ByteArray.empty l0 1), H', ⟨(by have := HK1.out; first | omega | exact Nat.le_refl _)⟩, ⟨tb_⟩, ⟨tb_⟩, ⟨th_⟩⟩
 case rest =>
 clear HC15
 try clear c1; try clear p1; try clear q1; try clear hx1; try clear qi1; try clear c2; try clear c2b0; try clear c2b1; try clear p2; try clear c3; try clear c4; try clear c4b0; try clear c5; try clear c5b0; try clear c6; try clear c6b0; try clear p6; try clear c7; try clear c7b0; try clear c7b1; try clear c9; try clear c9b0; try clear c9b1; try clear c10; try clear c10b0; try clear c10b1; try clear p11; try clear q11; try clear hx11; try clear qi11; try clear c17; try clear p18; try clear q18; try clear hx18; try clear qi18; try clear p19; try clear q19; try clear hx19; try clear qi19; try clear c21; try clear c21b0; try clear c21b1; try clear c22; try clear c22b0; try clear c22b1; try clear c23; try clear hcz18_0 hcz18_1 hcz18_2 hcz18_3 hcz18_4 hcz18_5; try clear hcz20_0 hcz20_1 hcz20_2 hcz20_3 hcz20_4 hcz20_5; try clear hcz24_0 hcz24_1 hcz24_2 hcz24_3 hcz24_4 hcz24_5; try clear hcz8_0 hcz8_1 hcz8_2 hcz8_3 hcz8_4 hcz8_5; try clear hfz18_0 hfz18_1 hfz18_2 hfz18_3 hfz18_4 hfz18_5; try clear hfz20_0 hfz20_1 hfz20_2 hfz20_3 hfz20_4 hfz20_5; try clear hfz24_0 hfz24_1 hfz24_2 hfz24_3 hfz24_4 hfz24_5; try clear hfz8_0 hfz8_1 hfz8_2 hfz8_3 hfz8_4 hfz8_5; try clear hx184_0; try clear hx185_0; try clear hx187_0; try clear hx190_0; try clear hx194_0; try clear p11; try clear p184; try clear p185; try clear p187; try clear p190; try clear p194; try clear p2; try clear q11; try clear q184; try clear q185; try clear q187; try clear q190; try clear q194
 obtain ⟨kq, x187003_14, HA, HJ14, BK183, BK186, HB⟩ := hcut
 cases kq with
 | zero => exact absurd HA.out (by simp [spec_ReadInode.j1])
 | succ kj14 =>
 have H := HA.out
 clear HA
 simp only [spec_ReadInode.j1] at H
 have H' := Aside0.mk H
 clear H
 go_wp2
 go_loopg [7] kj14 (fun kq v7 w' => ∃ (x7_3 : Int) (x184000_3 : Int) (x184001_3 : Int) (x184002_3 : Int) (x184003_3 : ByteArray) (x187004_3 : List (S42)) (x187005_3 : List (S47)) (u187004 : Value) (u187005 : Value), v7 = .int .i64 x7_3 ∧ Aside0 (spec_ReadInode.l1 kq l0 t193 x7_3 (wrap64 (bt (rdOf ByteArray.empty l0 0) 0)) t188 t191 x187003_14 x187004_3 x187005_3 = some (r1, r2, r3, r4, r5, r6, r7)) ∧ Aside0 (kq ≤ kj14) ∧ Aside0 (Kd.R k42 42 w' w.heap.size (fun _ => True) u187004 x187004_3) ∧ Aside0 (Kd.R k47 47 w' w.heap.size (fun _ => True) u187005 x187005_3) ∧ Aside0 (w'.heap[gb183]? = some (.cells #[.int .i64 x184000_3, .int .i64 x184001_3, .int .i64 x184002_3, .string x184003_3, (.slice none 0 0), (.slice none 0 0)] 27 (0, 0))) ∧ Aside0 (w'.heap[gb186]? = some (.cells #[.int .i64 (wrap64 (bt (rdOf ByteArray.empty l0 0) 0)), .int .i64 t188, .int .i64 t191, .string x187003_14, u187004, u187005] 27 (0, 0))) ∧ Aside0 (Below w.heap.size w w'))
 case atStart => exact ⟨(2), (x184000_1), (x184001_1), (x184002_1), (x184003_1), (([] : List (S42))), (([] : List (S47))), (.slice none 0 0), (.slice none 0 0), tq_4, H', ⟨Nat.le_refl _⟩, ⟨tq_10⟩, ⟨tq_10⟩, ⟨(kb_ BK183)⟩, ⟨(kb_ BK186)⟩, ⟨th_⟩⟩
 case round =>
 clear H'
 try clear c1; try clear p1; try clear q1; try clear hx1; try clear qi1; try clear c2; try clear c2b0; try clear c2b1; try clear p2; try clear c3; try clear c4; try clear c4b0; try clear c5; try clear c5b0; try clear c6; try clear c6b0; try clear p6; try clear c7; try clear c7b0; try clear c7b1; try clear c9; try clear c9b0; try clear c9b1; try clear c10; try clear c10b0; try clear c10b1; try clear p11; try clear q11; try clear hx11; try clear qi11; try clear c17; try clear p18; try clear q18; try clear hx18; try clear qi18; try clear p19; try clear q19; try clear hx19; try clear qi19; try clear c21; try clear c21b0; try clear c21b1; try clear c22; try clear c22b0; try clear c22b1; try clear c23; try clear hcz18_0 hcz18_1 hcz18_2 hcz18_3 hcz18_4 hcz18_5; try clear hcz20_0 hcz20_1 hcz20_2 hcz20_3 hcz20_4 hcz20_5; try clear hcz24_0 hcz24_1 hcz24_2 hcz24_3 hcz24_4 hcz24_5; try clear hcz8_0 hcz8_1 hcz8_2 hcz8_3 hcz8_4 hcz8_5; try clear hfz18_0 hfz18_1 hfz18_2 hfz18_3 hfz18_4 hfz18_5; try clear hfz20_0 hfz20_1 hfz20_2 hfz20_3 hfz20_4 hfz20_5; try clear hfz24_0 hfz24_1 hfz24_2 hfz24_3 hfz24_4 hfz24_5; try clear hfz8_0 hfz8_1 hfz8_2 hfz8_3 hfz8_4 hfz8_5; try clear hx184_0; try clear hx185_0; try clear hx187_0; try clear hx190_0; try clear hx194_0; try clear p1; try clear p11; try clear p18; try clear p184; try clear p185; try clear p187; try clear p19; try clear p190; try clear p194; try clear p2; try clear p6; try clear q1; try clear q11; try clear q18; try clear q184; try clear q185; try clear q187; try clear q19; try clear q190; try clear q194
 obtain ⟨x7_3, x184000_3, x184001_3, x184002_3, x184003_3, x187004_3, x187005_3, u187004, u187005, rfl, HA, HK3, HO_187004, HO_187005, BK183, BK186, HB⟩ := hrel
 cases gk with
 | zero => exact absurd HA.out (by simp [spec_ReadInode.l1])
 | succ k3 =>
 have H := HA.out
 clear HA
 simp only [spec_ReadInode.l1] at H
 have HC25 := Aside0.mk H
 clear H
 go_upto_region 15 with (fail)
 go_cut [66] (fun v66 wc => ∃ (kq : Nat) (x66_24 : Bool), v66 = .bool x66_24 ∧ Aside0 (spec_ReadInode.j3 kq l0 t193 x7_3 x66_24 (wrap64 (bt (rdOf ByteArray.empty l0 0) 0)) t188 t191 x187003_14 x187004_3 x187005_3 = some (r1, r2, r3, r4, r5, r6, r7)) ∧ Aside0 (kq ≤ k3) ∧ Aside0 (Kd.R k42 42 wc w.heap.size (fun _ => True) u187004 x187004_3) ∧ Aside0 (Kd.R k47 47 wc w.heap.size (fun _ => True) u187005 x187005_3) ∧ Aside0 (wc.heap[gb183]? = some (.cells #[.int .i64 x184000_3, .int .i64 x184001_3, .int .i64 x184002_3, .string x184003_3, (.slice none 0 0), (.slice none 0 0)] 27 (0, 0))) ∧ Aside0 (wc.heap[gb186]? = some (.cells #[.int .i64 (wrap64 (bt (rdOf ByteArray.empty l0 0) 0)), .int .i64 t188, .int .i64 t191, .string x187003_14, u187004, u187005] 27 (0, 0))) ∧ Aside0 (Below w.heap.size w wc))
 case first =>
  have H := HC25.out
  clear HC25
  by_cases c26 : x7_3 < 8
  rotate_left
  ·rw [if_neg c26] at H
   have c26b0 := decide_eq_false c26
   clear c26
   (first | rw [c26b0] | (simp only [i64_w, i32_w]; rw [c26b0]) | skip)
   have H' := Aside0.mk H
   clear H
   go_wp2
   go_meet
   case rel => exact ⟨_, (false), tq_4, H', ⟨(by have := HK1.out; have := HJ14.out; have := HK3.out; first | omega | exact Nat.le_refl _)⟩, ⟨(raR_ HO_187004)⟩, ⟨(raR_ HO_187005)⟩, ⟨(kb_ BK183)⟩, ⟨(kb_ BK186)⟩, ⟨th_⟩⟩
  rw [if_pos c26] at H
  have c26b0 := decide_eq_true c26
  clear c26
  (first | rw [c26b0] | (simp only [i64_w, i32_w]; rw [c26b0]) | skip)
  obtain ⟨c27, H⟩ := fc_ H
  have c27b0 := decide_eq_true c27
  clear c27
  obtain ⟨c28, H⟩ := fc_ H
  have c28b0 := decide_eq_true c28
  clear c28
  have H' := Aside0.mk H
  clear H
  have p195 : 0 ≤ (x7_3 : Int) := of_decide_eq_true tq_1
  have q195 : x7_3 < (l0.length : Int) := of_decide_eq_true tq_1
  obtain ⟨ad195, e195, hx195_0⟩ := Kd.at_string HR0.out x7_3 p195 q195
  obtain rfl : ad185 = ad195 := (by injection e195)
  replace hx195_0 := hx_ HB.out hx195_0
  replace p195 := eq_true p195
  replace q195 := eq_true q195
  go_wp2
  go_meet
  case rel => exact ⟨_, (((rdOf ByteArray.empty l0 x7_3).toList != t193.toList)), tq_4, H', ⟨(by have := HK1.out; have := HJ14.out; have := HK3.out; first | omega | exact Nat.le_refl _)⟩, ⟨(raR_ HO_187004)⟩, ⟨(raR_ HO_187005)⟩, ⟨(kb_ BK183)⟩, ⟨(kb_ BK186)⟩, ⟨th_⟩⟩
 case rest =>
 clear HC25
 try clear c1; try clear p1; try clear q1; try clear hx1; try clear qi1; try clear c2; try clear c2b0; try clear c2b1; try clear p2; try clear c3; try clear c4; try clear c4b0; try clear c5; try clear c5b0; try clear c6; try clear c6b0; try clear p6; try clear c7; try clear c7b0; try clear c7b1; try clear c9; try clear c9b0; try clear c9b1; try clear c10; try clear c10b0; try clear c10b1; try clear p11; try clear q11; try clear hx11; try clear qi11; try clear c17; try clear p18; try clear q18; try clear hx18; try clear qi18; try clear p19; try clear q19; try clear hx19; try clear qi19; try clear c21; try clear c21b0; try clear c21b1; try clear c22; try clear c22b0; try clear c22b1; try clear c23; try clear c26; try clear c26b0; try clear c27; try clear c27b0; try clear c28; try clear c28b0; try clear hcz18_0 hcz18_1 hcz18_2 hcz18_3 hcz18_4 hcz18_5; try clear hcz20_0 hcz20_1 hcz20_2 hcz20_3 hcz20_4 hcz20_5; try clear hcz24_0 hcz24_1 hcz24_2 hcz24_3 hcz24_4 hcz24_5; try clear hcz8_0 hcz8_1 hcz8_2 hcz8_3 hcz8_4 hcz8_5; try clear hfz18_0 hfz18_1 hfz18_2 hfz18_3 hfz18_4 hfz18_5; try clear hfz20_0 hfz20_1 hfz20_2 hfz20_3 hfz20_4 hfz20_5; try clear hfz24_0 hfz24_1 hfz24_2 hfz24_3 hfz24_4 hfz24_5; try clear hfz8_0 hfz8_1 hfz8_2 hfz8_3 hfz8_4 hfz8_5; try clear hx184_0; try clear hx185_0; try clear hx187_0; try clear hx190_0; try clear hx194_0; try clear hx195_0; try clear p1; try clear p11; try clear p18; try clear p184; try clear p185; try clear p187; try clear p19; try clear p190; try clear p194; try clear p195; try clear p2; try clear p6; try clear q1; try clear q11; try clear q18; try clear q184; try clear q185; try clear q187; try clear q19; try clear q190; try clear q194; try clear q195
 obtain ⟨kq, x66_24, rfl, HA, HJ24, HO_187004, HO_187005, BK183, BK186, HB⟩ := hcut
 cases kq with
 | zero => exact absurd HA.out (by simp [spec_ReadInode.j3])
 | succ kj24 =>
 have H := HA.out
 clear HA
 simp only [spec_ReadInode.j3] at H
 by_cases c29 : x66_24 = true
 rotate_left
 ·replace c29 := Bool.eq_false_iff.mpr c29
  subst c29
  rw [if_neg nf_] at H
  obtain ⟨t213, A83, H⟩ := bd_ H
  obtain ⟨t216, A84, H⟩ := bd_ H
  by_cases c85 : t216 = true
  rotate_left
  ·replace c85 := Bool.eq_false_iff.mpr c85
   subst c85
   rw [if_neg nf_] at H
   simp only [Option.some.injEq, Prod.mk.injEq] at H
   obtain ⟨rfl, rfl, rfl, rfl, rfl, rfl, rfl⟩ := H
   obtain ⟨hcz95_0, hcz95_1, hcz95_2, hcz95_3, hcz95_4, hcz95_5⟩ := bk6_ BK186.out
   obtain ⟨hfz95_0, hfz95_1, hfz95_2, hfz95_3, hfz95_4, hfz95_5⟩ := bf6_ BK186.out
   obtain ⟨Ao96, co96, eo96⟩ := Kd.R_slice HO_187004.out
   subst eo96
   obtain ⟨Ao97, co97, eo97⟩ := Kd.R_slice HO_187005.out
   subst eo97
   go_wp2_with (first | ((with_reducible refine gate_callee (f := 34) rfl ?_); refine goesL_ (some 110) rfl rfl Tryd.func34 (by kernel_rfl) rfl #[.agg #[.int .i64 (wrap64 (bt (rdOf ByteArray.empty l0 0) 0)), .int .i64 t188, .int .i64 t191, .string x187003_14, .slice Ao96 x187004_3.length co96, .slice Ao97 x187005_3.length co97]] rfl tq_0 ?_; (with_reducible refine (spec_InodeWords.calls kj24 (wrap64 (bt (rdOf ByteArray.empty l0 0) 0)) t188 t191 x187003_14 _ _ x187004_3 _ _ x187005_3 t213 _ ?side1 ?side2 ?side3 ?side4 A83.out).mono ?_); (case side1 => exact tq_86); (case side2 => exact (Kd.R_reads' HO_187004.out).2.1); (case side3 => exact tq_85); (case side4 => exact (Kd.R_reads' HO_187005.out).2.1); rintro e w98 ⟨v214, rfl, ho0, hb⟩; refine ⟨_, rfl, ?_⟩; have z_ := p_ (Kd.R_below (raR_ HO_187004) hb) <| p_ (Kd.R_below (raR_ HO_187005) hb) <| p_ (Kd.R_lower ho0 (below_size th_)) <| bw2_ (kb_ BK183) (kb_ BK186) th_ hb; clear HO_187004 HO_187005 BK183 BK186 HB; obtain ⟨HO_187004, HO_187005, HO215, BK183, BK186, HB⟩ := z_; (try clear hb); (try clear ho0); obtain ⟨Ao99, co99, eo99⟩ := Kd.R_slice HO215.out; subst eo99) | ((with_reducible refine gate_callee (f := 33) rfl ?_); refine goesL_ (some 112) rfl rfl Tryd.func33 (by kernel_rfl) rfl #[.slice Ao99 t213.length co99, .slice (some ad185) l0.length c0] rfl tq_0 ?_; (with_reducible refine (spec_l12Words.calls kj24 _ _ t213 _ _ l0 false _ ?side1 ?side2 ?side3 ?side4 A84.out).mono ?_); (case side1 => exact tq_90); (case side2 => exact (Kd.R_reads' HO215.out).2.1); (case side3 => exact tq_35); (case side4 => exact HC0.out); rintro e w' ⟨rfl, ⟨nd, rfl⟩⟩; refine ⟨_, rfl, ?_⟩; (try (rw [drewN_self w98]; generalize hq_ : World.drewN w98 _ = w98; have z_ := q_ (⟨(by rw [← hq_]; exact (raR_ HO215))⟩ : Aside0 (Kd.R Kd.string 9 w98 w.heap.size (fun k_ => True) (.slice Ao99 t213.length co99) t213)) <| q_ (⟨(by rw [← hq_]; exact (raR_ HO_187004))⟩ : Aside0 (Kd.R k42 42 w98 w.heap.size (fun k_ => True) (.slice Ao96 x187004_3.length co96) x187004_3)) <| q_ (⟨(by rw [← hq_]; exact (raR_ HO_187005))⟩ : Aside0 (Kd.R k47 47 w98 w.heap.size (fun k_ => True) (.slice Ao97 x187005_3.length co97) x187005_3)) <| q_ (⟨(by rw [← hq_]; exact (kb_ BK183))⟩ : Aside0 (w98.heap[gb183]? = some (.cells #[.int .i64 x184000_3, .int .i64 x184001_3, .int .i64 x184002_3, .string x184003_3, .slice none 0 0, .slice none 0 0] 27 (0, 0)))) <| q_ (⟨(by rw [← hq_]; exact (kb_ BK186))⟩ : Aside0 (w98.heap[gb186]? = some (.cells #[.int .i64 (wrap64 (bt (rdOf ByteArray.empty l0 0) 0)), .int .i64 t188, .int .i64 t191, .string x187003_14, .slice Ao96 x187004_3.length co96, .slice Ao97 x187005_3.length co97] 27 (0, 0)))) <| (⟨tq_73⟩ : Aside0 (Below w.heap.size w w98)); clear HO215 HO_187004 HO_187005 BK183 BK186 HB hq_; obtain ⟨HO215, HO_187004, HO_187005, BK183, BK186, HB⟩ := z_)); obtain ⟨hcz100_0, hcz100_1, hcz100_2, hcz100_3, hcz100_4, hcz100_5⟩ := bk6_ BK183.out; obtain ⟨hfz100_0, hfz100_1, hfz100_2, hfz100_3, hfz100_4, hfz100_5⟩ := bf6_ BK183.out))
   refine bodyPost_ret (results_ct rfl _ _ gb183 27 #[.int .i64 0, .int .i64 0, .int .i64 0, .string (⟨#[]⟩ : ByteArray), .slice none 0 0, .slice none 0 0] (0, 0) _ rfl tb_ Tryd.underlying27 rfl (by kernel_rfl)) rfl ?_
   exact ⟨_, _, tq_2, tq_10, tq_10, th_⟩
  subst c85
  rw [if_pos rfl] at H
  simp only [Option.some.injEq, Prod.mk.injEq] at H
  obtain ⟨rfl, rfl, rfl, rfl, rfl, rfl, rfl⟩ := H
  obtain ⟨hcz87_0, hcz87_1, hcz87_2, hcz87_3, hcz87_4, hcz87_5⟩ := bk6_ BK186.out
  obtain ⟨hfz87_0, hfz87_1, hfz87_2, hfz87_3, hfz87_4, hfz87_5⟩ := bf6_ BK186.out
  obtain ⟨Ao88, co88, eo88⟩ := Kd.R_slice HO_187004.out
  subst eo88
  obtain ⟨Ao89, co89, eo89⟩ := Kd.R_slice HO_187005.out
  subst eo89
  go_wp2_with (first | ((with_reducible refine gate_callee (f := 34) rfl ?_); refine goesL_ (some 110) rfl rfl Tryd.func34 (by kernel_rfl) rfl #[.agg #[.int .i64 (wrap64 (bt (rdOf ByteArray.empty l0 0) 0)), .int .i64 t188, .int .i64 t191, .string x187003_14, .slice Ao88 x187004_3.length co88, .slice Ao89 x187005_3.length co89]] rfl tq_0 ?_; (with_reducible refine (spec_InodeWords.calls kj24 (wrap64 (bt (rdOf ByteArray.empty l0 0) 0)) t188 t191 x187003_14 _ _ x187004_3 _ _ x187005_3 t213 _ ?side1 ?side2 ?side3 ?side4 A83.out).mono ?_); (case side1 => exact tq_86); (case side2 => exact (Kd.R_reads' HO_187004.out).2.1); (case side3 => exact tq_85); (case side4 => exact (Kd.R_reads' HO_187005.out).2.1); rintro e w90 ⟨v214, rfl, ho0, hb⟩; refine ⟨_, rfl, ?_⟩; have z_ := p_ (Kd.R_below (raR_ HO_187004) hb) <| p_ (Kd.R_below (raR_ HO_187005) hb) <| p_ (Kd.R_lower ho0 (below_size th_)) <| bw2_ (kb_ BK183) (kb_ BK186) th_ hb; clear HO_187004 HO_187005 BK183 BK186 HB; obtain ⟨HO_187004, HO_187005, HO215, BK183, BK186, HB⟩ := z_; (try clear hb); (try clear ho0); obtain ⟨Ao91, co91, eo91⟩ := Kd.R_slice HO215.out; subst eo91) | ((with_reducible refine gate_callee (f := 33) rfl ?_); refine goesL_ (some 112) rfl rfl Tryd.func33 (by kernel_rfl) rfl #[.slice Ao91 t213.length co91, .slice (some ad185) l0.length c0] rfl tq_0 ?_; (with_reducible refine (spec_l12Words.calls kj24 _ _ t213 _ _ l0 true _ ?side1 ?side2 ?side3 ?side4 A84.out).mono ?_); (case side1 => exact tq_90); (case side2 => exact (Kd.R_reads' HO215.out).2.1); (case side3 => exact tq_35); (case side4 => exact HC0.out); rintro e w' ⟨rfl, ⟨nd, rfl⟩⟩; refine ⟨_, rfl, ?_⟩; (try (rw [drewN_self w90]; generalize hq_ : World.drewN w90 _ = w90; have z_ := q_ (⟨(by rw [← hq_]; exact (raR_ HO215))⟩ : Aside0 (Kd.R Kd.string 9 w90 w.heap.size (fun k_ => True) (.slice Ao91 t213.length co91) t213)) <| q_ (⟨(by rw [← hq_]; exact (raR_ HO_187004))⟩ : Aside0 (Kd.R k42 42 w90 w.heap.size (fun k_ => True) (.slice Ao88 x187004_3.length co88) x187004_3)) <| q_ (⟨(by rw [← hq_]; exact (raR_ HO_187005))⟩ : Aside0 (Kd.R k47 47 w90 w.heap.size (fun k_ => True) (.slice Ao89 x187005_3.length co89) x187005_3)) <| q_ (⟨(by rw [← hq_]; exact (kb_ BK183))⟩ : Aside0 (w90.heap[gb183]? = some (.cells #[.int .i64 x184000_3, .int .i64 x184001_3, .int .i64 x184002_3, .string x184003_3, .slice none 0 0, .slice none 0 0] 27 (0, 0)))) <| q_ (⟨(by rw [← hq_]; exact (kb_ BK186))⟩ : Aside0 (w90.heap[gb186]? = some (.cells #[.int .i64 (wrap64 (bt (rdOf ByteArray.empty l0 0) 0)), .int .i64 t188, .int .i64 t191, .string x187003_14, .slice Ao88 x187004_3.length co88, .slice Ao89 x187005_3.length co89] 27 (0, 0)))) <| (⟨tq_73⟩ : Aside0 (Below w.heap.size w w90)); clear HO215 HO_187004 HO_187005 BK183 BK186 HB hq_; obtain ⟨HO215, HO_187004, HO_187005, BK183, BK186, HB⟩ := z_)); obtain ⟨hcz92_0, hcz92_1, hcz92_2, hcz92_3, hcz92_4, hcz92_5⟩ := bk6_ BK186.out; obtain ⟨hfz92_0, hfz92_1, hfz92_2, hfz92_3, hfz92_4, hfz92_5⟩ := bf6_ BK186.out; obtain ⟨hcz93_0, hcz93_1, hcz93_2, hcz93_3, hcz93_4, hcz93_5⟩ := bk6_ BK183.out; obtain ⟨hfz93_0, hfz93_1, hfz93_2, hfz93_3, hfz93_4, hfz93_5⟩ := bf6_ BK183.out))
  refine bodyPost_ret (results_ct rfl _ _ gb183 27 #[.int .i64 (wrap64 (bt (rdOf ByteArray.empty l0 0) 0)), .int .i64 t188, .int .i64 t191, .string x187003_14, .slice Ao88 x187004_3.length co88, .slice Ao89 x187005_3.length co89] (0, 0) _ rfl tb_ Tryd.underlying27 rfl (by kernel_rfl)) rfl ?_
  exact ⟨_, _, tq_2, (by (with_reducible repeat (first | apply Kd.R_alloc | apply Kd.R_drewN | apply Kd.R_drew)); exact Kd.R_mono (rR_ (rR_ (rR_ (rR_ (rR_ (rR_ (Kd.R_types HO_187004.out BK183.out (by decide)))))))) (fun _ hk => trivial)), (by (with_reducible repeat (first | apply Kd.R_alloc | apply Kd.R_drewN | apply Kd.R_drew)); exact Kd.R_mono (rR_ (rR_ (rR_ (rR_ (rR_ (rR_ (Kd.R_types HO_187005.out BK183.out (by decide)))))))) (fun _ hk => trivial)), th_⟩
 subst c29
 rw [if_pos rfl] at H
 have HC30 := Aside0.mk H
 clear H
 obtain ⟨hcz32_0, hcz32_1, hcz32_2, hcz32_3, hcz32_4, hcz32_5⟩ := bk6_ BK186.out
 obtain ⟨hfz32_0, hfz32_1, hfz32_2, hfz32_3, hfz32_4, hfz32_5⟩ := bf6_ BK186.out
 go_upto_if 71 with (fail)
 go_cut [] (fun wc => ∃ (kq : Nat) (x184000_29 : Int) (x184001_29 : Int) (x184002_29 : Int) (x184003_29 : ByteArray) (x187004_29 : List (S42)) (u187004 : Value), Aside0 (spec_ReadInode.j4 kq l0 t193 x7_3 (wrap64 (bt (rdOf ByteArray.empty l0 0) 0)) t188 t191 x187003_14 x187004_29 x187005_3 = some (r1, r2, r3, r4, r5, r6, r7)) ∧ Aside0 (kq ≤ kj24) ∧ Aside0 (Kd.R k42 42 wc w.heap.size (fun _ => True) u187004 x187004_29) ∧ Aside0 (Kd.R k47 47 wc w.heap.size (fun _ => True) u187005 x187005_3) ∧ Aside0 (wc.heap[gb183]? = some (.cells #[.int .i64 x184000_29, .int .i64 x184001_29, .int .i64 x184002_29, .string x184003_29, (.slice none 0 0), (.slice none 0 0)] 27 (0, 0))) ∧ Aside0 (wc.heap[gb186]? = some (.cells #[.int .i64 (wrap64 (bt (rdOf ByteArray.empty l0 0) 0)), .int .i64 t188, .int .i64 t191, .string x187003_14, u187004, u187005] 27 (0, 0))) ∧ Aside0 (Below w.heap.size w wc))
 case first =>
  have H := HC30.out
  clear HC30
  by_cases c33 : (wrap64 (bt (rdOf ByteArray.empty l0 0) 0)) = 1
  rotate_left
  ·rw [if_neg c33] at H
   have c33b0 := beq_eq_false_iff_ne.mpr c33
   have c33b1 := bne_iff_ne.mpr c33
   (first | rw [c33b0] | (simp only [i64_w, i32_w]; rw [c33b0]) | skip)
   have H' := Aside0.mk H
   clear H
   go_wp2
   go_meet
   case rel => exact ⟨_, (x184000_3), (x184001_3), (x184002_3), (x184003_3), (x187004_3), (u187004), H', ⟨(by have := HK1.out; have := HJ14.out; have := HK3.out; have := HJ24.out; first | omega | exact Nat.le_refl _)⟩, ⟨(raR_ HO_187004)⟩, ⟨(raR_ HO_187005)⟩, ⟨(kb_ BK183)⟩, ⟨(kb_ BK186)⟩, ⟨th_⟩⟩
  rw [if_pos c33] at H
  have c33b0 := beq_iff_eq.mpr c33
  have c33b1 := bne_eq_false_iff_eq.mpr c33
  clear c33
  (first | rw [c33b0] | (simp only [i64_w, i32_w]; rw [c33b0]) | skip)
  obtain ⟨c34, H⟩ := fc_ H
  have c34b0 := decide_eq_true c34
  clear c34
  obtain ⟨c35, H⟩ := fc_ H
  have c35b0 := decide_eq_true c35
  clear c35
  obtain ⟨⟨t197, t198, t199, t200⟩, A36, H⟩ := bd_ H
  try dsimp -simprocs only at H
  by_cases c37 : t200 = true
  rotate_left
  ·replace c37 := Bool.eq_false_iff.mpr c37
   subst c37
   rw [if_neg nf_] at H
   simp only [Option.some.injEq, Prod.mk.injEq] at H
   obtain ⟨rfl, rfl, rfl, rfl, rfl, rfl, rfl⟩ := H
   have p196 : 0 ≤ (x7_3 : Int) := of_decide_eq_true tq_1
   have q196 : x7_3 < (l0.length : Int) := of_decide_eq_true tq_1
   obtain ⟨ad196, e196, hx196_0⟩ := Kd.at_string HR0.out x7_3 p196 q196
   obtain rfl : ad185 = ad196 := (by injection e196)
   replace hx196_0 := hx_ HB.out hx196_0
   replace p196 := eq_true p196
   replace q196 := eq_true q196
   go_wp2_with (first | ((with_reducible refine gate_callee (f := 31) rfl ?_); refine goesL_ (some 77) rfl rfl Tryd.func31 (by kernel_rfl) rfl #[.string (rdOf ByteArray.empty l0 x7_3)] rfl tq_0 ?_; (with_reducible refine (spec_ReadRec.calls kj24 (rdOf ByteArray.empty l0 x7_3) t197 t198 t199 false _ A36.out).mono ?_); rintro e w49 ⟨rfl, hb⟩; refine ⟨_, rfl, ?_⟩; have z_ := p_ (Kd.R_below (raR_ HO_187004) hb) <| p_ (Kd.R_below (raR_ HO_187005) hb) <| bw2_ (kb_ BK183) (kb_ BK186) th_ hb; clear HO_187004 HO_187005 BK183 BK186 HB; obtain ⟨HO_187004, HO_187005, BK183, BK186, HB⟩ := z_; (try clear hb); (try clear hk)) | ((with_reducible refine gate_dst (N := 8) rfl ?_); refine be_ 8 (cs := #[.int .i64 0, .int .i64 0, .string (⟨#[]⟩ : ByteArray)]) 42 ?_; intro gb201 hg w50 hbox hb; have z_ := p_ (Kd.R_below (Kd.R_elderB (raR_ HO_187004) gb201 (Nat.le_of_eq hg.symm)) hb) <| p_ (Kd.R_below (raR_ HO_187005) hb) <| bx2_ (kb_ BK183) (kb_ BK186) th_ hb hbox hg; clear HO_187004 HO_187005 BK183 BK186 HB; obtain ⟨HO_187004, HO_187005, BK183, BK186, HB, BK201, GW201, GE201, NB183_201, NB201_183, NB186_201, NB201_186⟩ := z_; clear hb hbox hg; obtain ⟨n201_183, n183_201, n201_186, n186_201⟩ := an4_ NB201_183 NB183_201 NB201_186 NB186_201; obtain ⟨hcz53_0, hcz53_1, hcz53_2⟩ := bk3_ BK201.out; obtain ⟨hfz53_0, hfz53_1, hfz53_2⟩ := bf3_ BK201.out; obtain ⟨n183_186, n186_183⟩ := an2_ NB183_186 NB186_183; obtain ⟨hcz55_0, hcz55_1, hcz55_2, hcz55_3, hcz55_4, hcz55_5⟩ := bk6_ BK183.out; obtain ⟨hfz55_0, hfz55_1, hfz55_2, hfz55_3, hfz55_4, hfz55_5⟩ := bf6_ BK183.out))
   refine bodyPost_ret (results_ct rfl _ _ gb183 27 #[.int .i64 0, .int .i64 0, .int .i64 0, .string (⟨#[]⟩ : ByteArray), .slice none 0 0, .slice none 0 0] (0, 0) _ rfl tb_ Tryd.underlying27 rfl (by kernel_rfl)) rfl ?_
   exact ⟨_, _, tq_2, tq_10, tq_10, th_⟩
  subst c37
  rw [if_pos rfl] at H
  obtain ⟨c38, H⟩ := fc_ H
  have LMc38 := Aside0.mk c38
  clear c38
  obtain ⟨y202, hy202⟩ : ∃ y_ : List (S42), y_ = (x187004_3 ++ [(⟨t197, t198, t199⟩ : S42)]) := ⟨_, rfl⟩
  replace H : (spec_ReadInode.j4 kj24 l0 t193 x7_3 (wrap64 (bt (rdOf ByteArray.empty l0 0) 0)) t188 t191 x187003_14 y202 x187005_3) = some (r1, r2, r3, r4, r5, r6, r7) := by first | (rw [hy202]; with_reducible exact H) | (have H2_ := (Option.bind_some _ _).symm.trans H; rw [hy202]; with_reducible exact H2_) | (have H2_ := (Option.bind_some _ _).symm.trans H; with_reducible exact H2_) | with_reducible exact H | (rw [hy202]; exact H) | exact H
  have Ny202 := Aside0.mk hy202
  clear hy202
  have H' := Aside0.mk H
  clear H
  have p196 : 0 ≤ (x7_3 : Int) := of_decide_eq_true tq_1
  have q196 : x7_3 < (l0.length : Int) := of_decide_eq_true tq_1
  obtain ⟨ad196, e196, hx196_0⟩ := Kd.at_string HR0.out x7_3 p196 q196
  obtain rfl : ad185 = ad196 := (by injection e196)
  replace hx196_0 := hx_ HB.out hx196_0
  replace p196 := eq_true p196
  replace q196 := eq_true q196
  go_wp2_with (first | ((with_reducible refine gate_callee (f := 31) rfl ?_); refine goesL_ (some 77) rfl rfl Tryd.func31 (by kernel_rfl) rfl #[.string (rdOf ByteArray.empty l0 x7_3)] rfl tq_0 ?_; (with_reducible refine (spec_ReadRec.calls kj24 (rdOf ByteArray.empty l0 x7_3) t197 t198 t199 true _ A36.out).mono ?_); rintro e w39 ⟨rfl, hb⟩; refine ⟨_, rfl, ?_⟩; have z_ := p_ (Kd.R_below (raR_ HO_187004) hb) <| p_ (Kd.R_below (raR_ HO_187005) hb) <| bw2_ (kb_ BK183) (kb_ BK186) th_ hb; clear HO_187004 HO_187005 BK183 BK186 HB; obtain ⟨HO_187004, HO_187005, BK183, BK186, HB⟩ := z_; (try clear hb)) | ((with_reducible refine gate_dst (N := 8) rfl ?_); refine be_ 8 (cs := #[.int .i64 0, .int .i64 0, .string (⟨#[]⟩ : ByteArray)]) 42 ?_; intro gb201 hg w40 hbox hb; have z_ := p_ (Kd.R_below (Kd.R_elderB (raR_ HO_187004) gb201 (Nat.le_of_eq hg.symm)) hb) <| p_ (Kd.R_below (raR_ HO_187005) hb) <| bx2_ (kb_ BK183) (kb_ BK186) th_ hb hbox hg; clear HO_187004 HO_187005 BK183 BK186 HB; obtain ⟨HO_187004, HO_187005, BK183, BK186, HB, BK201, GW201, GE201, NB183_201, NB201_183, NB186_201, NB201_186⟩ := z_; clear hb hbox hg; obtain ⟨n201_183, n183_201, n201_186, n186_201⟩ := an4_ NB201_183 NB183_201 NB201_186 NB186_201; obtain ⟨hcz43_0, hcz43_1, hcz43_2⟩ := bk3_ BK201.out; obtain ⟨hfz43_0, hfz43_1, hfz43_2⟩ := bf3_ BK201.out; obtain ⟨n186_183, n183_186⟩ := an2_ NB186_183 NB183_186; obtain ⟨hcz45_0, hcz45_1, hcz45_2, hcz45_3, hcz45_4, hcz45_5⟩ := bk6_ BK186.out; obtain ⟨hfz45_0, hfz45_1, hfz45_2, hfz45_3, hfz45_4, hfz45_5⟩ := bf6_ BK186.out) | ((with_reducible refine gate_builtin (b := .append) (xs := #[.tmp 84, .tmp 86]) rfl ?_); at_builtin; refine Kd.R_append k42 (w0 := w) w.heap.size rfl (.tmp 84) (.tmp 86) 24 42 (.agg #[(.int .i64 0), (.int .i64 0), (.string ⟨#[]⟩)]) 32 rfl Tryd.underlying24 info42 rfl (by decide) (by omega) u187004 x187004_3 (⟨t197, t198, t199⟩ : S42) [.int .i64 t197, .int .i64 t198, .string t199] (fun k_ => k_ ≠ gb201) (fun _ => False) rfl (by first | (go_simp; done) | (go_simp; rfl)) ?aP (fun _ hk => hk.elim) ?aF ?aO ?aB ?aS ?aL ?_; (case aP => exact k42_mkM _ _ _ (⟨t197, t198, t199⟩ : S42)); (case aB => exact th_); (case aF => exact (fun k_ hk => Kd.freshB (g := gb201) (o := .cells #[.int .i64 t197, .int .i64 t198, .string t199] 42 (0, 0)) tb_ k_ hk)); (case aO => exact (by (with_reducible repeat (first | apply Kd.R_alloc | apply Kd.R_drewN | apply Kd.R_drew)); exact Kd.R_mono (rR_ (rR_ (rR_ (Kd.R_mono HO_187004.out (fun k_ hk => (⟨hk, hk.2⟩ : _ ∧ k_ ≠ gb201)))))) (fun _ hk => hk.1.2))); (case aS => exact (below_size th_)); (case aL => have := LMc38.out; omega); intro v203 w46 ho hb hg hat; rw [← Ny202.out] at ho; have z_ := p_ (Kd.R_over' (by (with_reducible repeat (first | apply Kd.R_alloc | apply Kd.R_drewN | apply Kd.R_drew)); exact (Kd.R_mono (rR_ (rR_ (rR_ (Kd.R_types HO_187005.out BK201.out (by decide))))) (fun _ h_ => h_.1))) (Kd.R_typed (by (with_reducible repeat (first | apply Kd.R_alloc | apply Kd.R_drewN | apply Kd.R_drew)); exact (Kd.R_mono (rR_ (rR_ (rR_ (Kd.R_mono HO_187004.out (fun k_ hk => (⟨hk, hk.2⟩ : _ ∧ k_ ≠ gb201)))))) (fun _ h_ => h_.1)))) (by decide) hg) <| p_ (blk_grown (g := gb183) (o := .cells #[.int .i64 x184000_3, .int .i64 x184001_3, .int .i64 x184002_3, .string x184003_3, .slice none 0 0, .slice none 0 0] 27 (0, 0)) (by (with_reducible repeat (first | refine blk_drewN ?_ _ | refine blk_drew ?_ | refine blk_alloc ?_ _)); refine blk_far ?_ NB183_201.out _; (with_reducible repeat (first | refine blk_drewN ?_ _ | refine blk_drew ?_ | refine blk_alloc ?_ _)); refine blk_far ?_ NB183_201.out _; (with_reducible repeat (first | refine blk_drewN ?_ _ | refine blk_drew ?_ | refine blk_alloc ?_ _)); refine blk_far ?_ NB183_201.out _; (with_reducible repeat (first | refine blk_drewN ?_ _ | refine blk_drew ?_ | refine blk_alloc ?_ _)); exact BK183.out) hg (Kd.R_ne HO_187004.out BK183.out (by decide))) <| p_ (blk_grown (g := gb186) (o := .cells #[.int .i64 (wrap64 (bt (rdOf ByteArray.empty l0 0) 0)), .int .i64 t188, .int .i64 t191, .string x187003_14, u187004, u187005] 27 (0, 0)) (by (with_reducible repeat (first | refine blk_drewN ?_ _ | refine blk_drew ?_ | refine blk_alloc ?_ _)); refine blk_far ?_ NB186_201.out _; (with_reducible repeat (first | refine blk_drewN ?_ _ | refine blk_drew ?_ | refine blk_alloc ?_ _)); refine blk_far ?_ NB186_201.out _; (with_reducible repeat (first | refine blk_drewN ?_ _ | refine blk_drew ?_ | refine blk_alloc ?_ _)); refine blk_far ?_ NB186_201.out _; (with_reducible repeat (first | refine blk_drewN ?_ _ | refine blk_drew ?_ | refine blk_alloc ?_ _)); exact BK186.out) hg (Kd.R_ne HO_187004.out BK186.out (by decide))) <| p_ (blk_grown (g := gb201) (o := .cells #[.int .i64 t197, .int .i64 t198, .string t199] 42 (0, 0)) (by (with_reducible repeat (first | refine blk_drewN ?_ _ | refine blk_drew ?_ | refine blk_alloc ?_ _)); refine blk_put (cs := #[.int .i64 t197, .int .i64 t198, .string (⟨#[]⟩ : ByteArray)]) ?_ 2 _ rfl; (with_reducible repeat (first | refine blk_drewN ?_ _ | refine blk_drew ?_ | refine blk_alloc ?_ _)); refine blk_put (cs := #[.int .i64 t197, .int .i64 0, .string (⟨#[]⟩ : ByteArray)]) ?_ 1 _ rfl; (with_reducible repeat (first | refine blk_drewN ?_ _ | refine blk_drew ?_ | refine blk_alloc ?_ _)); refine blk_put (cs := #[.int .i64 0, .int .i64 0, .string (⟨#[]⟩ : ByteArray)]) ?_ 0 _ rfl; (with_reducible repeat (first | refine blk_drewN ?_ _ | refine blk_drew ?_ | refine blk_alloc ?_ _)); exact BK201.out) hg (Kd.R_away HO_187004.out (fun _ hk => hk.2))) <| p_ (hb) <| a_ (ho); clear HO_187005 BK183 BK186 BK201 HB HO_187004; obtain ⟨HO_187005, BK183, BK186, BK201, HB, HO204⟩ := z_; clear ho hb hg hat; obtain ⟨Ao47, co47, eo47⟩ := Kd.R_slice HO204.out; subst eo47; obtain ⟨hcz48_0, hcz48_1, hcz48_2, hcz48_3, hcz48_4, hcz48_5⟩ := bk6_ BK186.out; obtain ⟨hfz48_0, hfz48_1, hfz48_2, hfz48_3, hfz48_4, hfz48_5⟩ := bf6_ BK186.out))
  go_meet
  case rel => exact ⟨_, (x184000_3), (x184001_3), (x184002_3), (x184003_3), (y202), (.slice Ao47 y202.length co47), H', ⟨(by have := HK1.out; have := HJ14.out; have := HK3.out; have := HJ24.out; first | omega | exact Nat.le_refl _)⟩, ⟨(by (with_reducible repeat (first | apply Kd.R_alloc | apply Kd.R_drewN | apply Kd.R_drew)); exact Kd.R_mono (rR_ (Kd.R_types HO204.out BK186.out (by decide))) (fun _ hk => trivial))⟩, ⟨(by (with_reducible repeat (first | apply Kd.R_alloc | apply Kd.R_drewN | apply Kd.R_drew)); exact Kd.R_mono (rR_ (Kd.R_types HO_187005.out BK186.out (by decide))) (fun _ hk => trivial))⟩, ⟨tb_⟩, ⟨tb_⟩, ⟨th_⟩⟩
 case rest =>
 clear HC30
 try clear c1; try clear p1; try clear q1; try clear hx1; try clear qi1; try clear c2; try clear c2b0; try clear c2b1; try clear p2; try clear c3; try clear c4; try clear c4b0; try clear c5; try clear c5b0; try clear c6; try clear c6b0; try clear p6; try clear c7; try clear c7b0; try clear c7b1; try clear c9; try clear c9b0; try clear c9b1; try clear c10; try clear c10b0; try clear c10b1; try clear p11; try clear q11; try clear hx11; try clear qi11; try clear c17; try clear p18; try clear q18; try clear hx18; try clear qi18; try clear p19; try clear q19; try clear hx19; try clear qi19; try clear c21; try clear c21b0; try clear c21b1; try clear c22; try clear c22b0; try clear c22b1; try clear c23; try clear c26; try clear c26b0; try clear c27; try clear c27b0; try clear c28; try clear c28b0; try clear c29; try clear c30; try clear c31; try clear c33; try clear c33b0; try clear c33b1; try clear c34; try clear c34b0; try clear c35; try clear c35b0; try clear c37; try clear c38; try clear c41; try clear c42; try clear c44; try clear c51; try clear c52; try clear c54; try clear hcz18_0 hcz18_1 hcz18_2 hcz18_3 hcz18_4 hcz18_5; try clear hcz20_0 hcz20_1 hcz20_2 hcz20_3 hcz20_4 hcz20_5; try clear hcz24_0 hcz24_1 hcz24_2 hcz24_3 hcz24_4 hcz24_5; try clear hcz32_0 hcz32_1 hcz32_2 hcz32_3 hcz32_4 hcz32_5; try clear hcz43_0 hcz43_1 hcz43_2; try clear hcz45_0 hcz45_1 hcz45_2 hcz45_3 hcz45_4 hcz45_5; try clear hcz48_0 hcz48_1 hcz48_2 hcz48_3 hcz48_4 hcz48_5; try clear hcz53_0 hcz53_1 hcz53_2; try clear hcz55_0 hcz55_1 hcz55_2 hcz55_3 hcz55_4 hcz55_5; try clear hcz8_0 hcz8_1 hcz8_2 hcz8_3 hcz8_4 hcz8_5; try clear hfz18_0 hfz18_1 hfz18_2 hfz18_3 hfz18_4 hfz18_5; try clear hfz20_0 hfz20_1 hfz20_2 hfz20_3 hfz20_4 hfz20_5; try clear hfz24_0 hfz24_1 hfz24_2 hfz24_3 hfz24_4 hfz24_5; try clear hfz32_0 hfz32_1 hfz32_2 hfz32_3 hfz32_4 hfz32_5; try clear hfz43_0 hfz43_1 hfz43_2; try clear hfz45_0 hfz45_1 hfz45_2 hfz45_3 hfz45_4 hfz45_5; try clear hfz48_0 hfz48_1 hfz48_2 hfz48_3 hfz48_4 hfz48_5; try clear hfz53_0 hfz53_1 hfz53_2; try clear hfz55_0 hfz55_1 hfz55_2 hfz55_3 hfz55_4 hfz55_5; try clear hfz8_0 hfz8_1 hfz8_2 hfz8_3 hfz8_4 hfz8_5; try clear hx184_0; try clear hx185_0; try clear hx187_0; try clear hx190_0; try clear hx194_0; try clear hx195_0; try clear hx196_0; try clear p1; try clear p11; try clear p18; try clear p184; try clear p185; try clear p187; try clear p19; try clear p190; try clear p194; try clear p195; try clear p196; try clear p2; try clear p6; try clear q1; try clear q11; try clear q18; try clear q184; try clear q185; try clear q187; try clear q19; try clear q190; try clear q194; try clear q195; try clear q196
 obtain ⟨kq, x184000_29, x184001_29, x184002_29, x184003_29, x187004_29, u187004, HA, HJ29, HO_187004, HO_187005, BK183, BK186, HB⟩ := hcut
 cases kq with
 | zero => exact absurd HA.out (by simp [spec_ReadInode.j4])
 | succ kj29 =>
 have H := HA.out
 clear HA
 simp only [spec_ReadInode.j4] at H
 by_cases c56 : (wrap64 (bt (rdOf ByteArray.empty l0 0) 0)) = 2
 rotate_left
 ·rw [if_neg c56] at H
  have c56b0 := beq_eq_false_iff_ne.mpr c56
  have c56b1 := bne_iff_ne.mpr c56
  have H' := Aside0.mk H
  clear H
  obtain ⟨hcz82_0, hcz82_1, hcz82_2, hcz82_3, hcz82_4, hcz82_5⟩ := bk6_ BK186.out
  obtain ⟨hfz82_0, hfz82_1, hfz82_2, hfz82_3, hfz82_4, hfz82_5⟩ := bf6_ BK186.out
  go_wp2
  go_roundg kj29
  case measure => have := HK1.out; have := HJ14.out; have := HK3.out; have := HJ24.out; have := HJ29.out; omega
  case rel => exact ⟨(wrap64 (x7_3 + 1)), (x184000_29), (x184001_29), (x184002_29), (x184003_29), (x187004_29), (x187005_3), (u187004), (u187005), tq_4, H', ⟨(by have := HK1.out; have := HJ14.out; have := HK3.out; have := HJ24.out; have := HJ29.out; omega)⟩, ⟨(raR_ HO_187004)⟩, ⟨(raR_ HO_187005)⟩, ⟨(kb_ BK183)⟩, ⟨(kb_ BK186)⟩, ⟨th_⟩⟩
 rw [if_pos c56] at H
 have c56b0 := beq_iff_eq.mpr c56
 have c56b1 := bne_eq_false_iff_eq.mpr c56
 clear c56
 obtain ⟨c57, H⟩ := fc_ H
 have c57b0 := decide_eq_true c57
 clear c57
 obtain ⟨c58, H⟩ := fc_ H
 have c58b0 := decide_eq_true c58
 clear c58
 obtain ⟨⟨t206, t207, t208⟩, A59, H⟩ := bd_ H
 try dsimp -simprocs only at H
 by_cases c60 : t208 = true
 rotate_left
 ·replace c60 := Bool.eq_false_iff.mpr c60
  subst c60
  rw [if_neg nf_] at H
  simp only [Option.some.injEq, Prod.mk.injEq] at H
  obtain ⟨rfl, rfl, rfl, rfl, rfl, rfl, rfl⟩ := H
  obtain ⟨hcz74_0, hcz74_1, hcz74_2, hcz74_3, hcz74_4, hcz74_5⟩ := bk6_ BK186.out
  obtain ⟨hfz74_0, hfz74_1, hfz74_2, hfz74_3, hfz74_4, hfz74_5⟩ := bf6_ BK186.out
  have p205 : 0 ≤ (x7_3 : Int) := of_decide_eq_true tq_1
  have q205 : x7_3 < (l0.length : Int) := of_decide_eq_true tq_1
  obtain ⟨ad205, e205, hx205_0⟩ := Kd.at_string HR0.out x7_3 p205 q205
  obtain rfl : ad185 = ad205 := (by injection e205)
  replace hx205_0 := hx_ HB.out hx205_0
  replace p205 := eq_true p205
  replace q205 := eq_true q205
  go_wp2_with (first | ((with_reducible refine gate_callee (f := 32) rfl ?_); refine goesL_ (some 97) rfl rfl Tryd.func32 (by kernel_rfl) rfl #[.string (rdOf ByteArray.empty l0 x7_3)] rfl tq_0 ?_; (with_reducible refine (spec_ReadEntry.calls kj29 (rdOf ByteArray.empty l0 x7_3) t206 t207 false _ A59.out).mono ?_); rintro e w75 ⟨rfl, hb⟩; refine ⟨_, rfl, ?_⟩; have z_ := p_ (Kd.R_below (raR_ HO_187004) hb) <| p_ (Kd.R_below (raR_ HO_187005) hb) <| bw2_ (kb_ BK183) (kb_ BK186) th_ hb; clear HO_187004 HO_187005 BK183 BK186 HB; obtain ⟨HO_187004, HO_187005, BK183, BK186, HB⟩ := z_; (try clear hb)) | ((with_reducible refine gate_dst (N := 10) rfl ?_); refine be_ 10 (cs := #[.int .i64 0, .string (⟨#[]⟩ : ByteArray)]) 47 ?_; intro gb209 hg w76 hbox hb; have z_ := p_ (Kd.R_below (raR_ HO_187004) hb) <| p_ (Kd.R_below (Kd.R_elderB (raR_ HO_187005) gb209 (Nat.le_of_eq hg.symm)) hb) <| bx2_ (kb_ BK183) (kb_ BK186) th_ hb hbox hg; clear HO_187004 HO_187005 BK183 BK186 HB; obtain ⟨HO_187004, HO_187005, BK183, BK186, HB, BK209, GW209, GE209, NB183_209, NB209_183, NB186_209, NB209_186⟩ := z_; clear hb hbox hg; obtain ⟨n209_183, n183_209, n209_186, n186_209⟩ := an4_ NB209_183 NB183_209 NB209_186 NB186_209; obtain ⟨hcz79_0, hcz79_1⟩ := bk2_ BK209.out; obtain ⟨hfz79_0, hfz79_1⟩ := bf2_ BK209.out; obtain ⟨hcz80_0, hcz80_1, hcz80_2, hcz80_3, hcz80_4, hcz80_5⟩ := bk6_ BK183.out; obtain ⟨hfz80_0, hfz80_1, hfz80_2, hfz80_3, hfz80_4, hfz80_5⟩ := bf6_ BK183.out))
  refine bodyPost_ret (results_ct rfl _ _ gb183 27 #[.int .i64 0, .int .i64 0, .int .i64 0, .string (⟨#[]⟩ : ByteArray), .slice none 0 0, .slice none 0 0] (0, 0) _ rfl tb_ Tryd.underlying27 rfl (by kernel_rfl)) rfl ?_
  exact ⟨_, _, tq_2, tq_10, tq_10, th_⟩
 subst c60
 rw [if_pos rfl] at H
 obtain ⟨c61, H⟩ := fc_ H
 have LMc61 := Aside0.mk c61
 clear c61
 obtain ⟨y210, hy210⟩ : ∃ y_ : List (S47), y_ = (x187005_3 ++ [(⟨t206, t207⟩ : S47)]) := ⟨_, rfl⟩
 replace H : (spec_ReadInode.l1 kj29 l0 t193 (wrap64 (x7_3 + 1)) (wrap64 (bt (rdOf ByteArray.empty l0 0) 0)) t188 t191 x187003_14 x187004_29 y210) = some (r1, r2, r3, r4, r5, r6, r7) := by first | (rw [hy210]; with_reducible exact H) | (have H2_ := (Option.bind_some _ _).symm.trans H; rw [hy210]; with_reducible exact H2_) | (have H2_ := (Option.bind_some _ _).symm.trans H; with_reducible exact H2_) | with_reducible exact H | (rw [hy210]; exact H) | exact H
 have Ny210 := Aside0.mk hy210
 clear hy210
 have H' := Aside0.mk H
 clear H
 obtain ⟨hcz63_0, hcz63_1, hcz63_2, hcz63_3, hcz63_4, hcz63_5⟩ := bk6_ BK186.out
 obtain ⟨hfz63_0, hfz63_1, hfz63_2, hfz63_3, hfz63_4, hfz63_5⟩ := bf6_ BK186.out
 have p205 : 0 ≤ (x7_3 : Int) := of_decide_eq_true tq_1
 have q205 : x7_3 < (l0.length : Int) := of_decide_eq_true tq_1
 obtain ⟨ad205, e205, hx205_0⟩ := Kd.at_string HR0.out x7_3 p205 q205
 obtain rfl : ad185 = ad205 := (by injection e205)
 replace hx205_0 := hx_ HB.out hx205_0
 replace p205 := eq_true p205
 replace q205 := eq_true q205
 go_wp2_with (first | ((with_reducible refine gate_callee (f := 32) rfl ?_); refine goesL_ (some 97) rfl rfl Tryd.func32 (by kernel_rfl) rfl #[.string (rdOf ByteArray.empty l0 x7_3)] rfl tq_0 ?_; (with_reducible refine (spec_ReadEntry.calls kj29 (rdOf ByteArray.empty l0 x7_3) t206 t207 true _ A59.out).mono ?_); rintro e w64 ⟨rfl, hb⟩; refine ⟨_, rfl, ?_⟩; have z_ := p_ (Kd.R_below (raR_ HO_187004) hb) <| p_ (Kd.R_below (raR_ HO_187005) hb) <| bw2_ (kb_ BK183) (kb_ BK186) th_ hb; clear HO_187004 HO_187005 BK183 BK186 HB; obtain ⟨HO_187004, HO_187005, BK183, BK186, HB⟩ := z_; (try clear hb)) | ((with_reducible refine gate_dst (N := 10) rfl ?_); refine be_ 10 (cs := #[.int .i64 0, .string (⟨#[]⟩ : ByteArray)]) 47 ?_; intro gb209 hg w65 hbox hb; have z_ := p_ (Kd.R_below (raR_ HO_187004) hb) <| p_ (Kd.R_below (Kd.R_elderB (raR_ HO_187005) gb209 (Nat.le_of_eq hg.symm)) hb) <| bx2_ (kb_ BK183) (kb_ BK186) th_ hb hbox hg; clear HO_187004 HO_187005 BK183 BK186 HB; obtain ⟨HO_187004, HO_187005, BK183, BK186, HB, BK209, GW209, GE209, NB183_209, NB209_183, NB186_209, NB209_186⟩ := z_; clear hb hbox hg; obtain ⟨n209_183, n183_209, n209_186, n186_209⟩ := an4_ NB209_183 NB183_209 NB209_186 NB186_209; obtain ⟨hcz68_0, hcz68_1⟩ := bk2_ BK209.out; obtain ⟨hfz68_0, hfz68_1⟩ := bf2_ BK209.out; obtain ⟨hcz69_0, hcz69_1, hcz69_2, hcz69_3, hcz69_4, hcz69_5⟩ := bk6_ BK186.out; obtain ⟨hfz69_0, hfz69_1, hfz69_2, hfz69_3, hfz69_4, hfz69_5⟩ := bf6_ BK186.out) | ((with_reducible refine gate_builtin (b := .append) (xs := #[.tmp 104, .tmp 106]) rfl ?_); at_builtin; refine Kd.R_append k47 (w0 := w) w.heap.size rfl (.tmp 104) (.tmp 106) 25 47 (.agg #[(.int .i64 0), (.string ⟨#[]⟩)]) 24 rfl Tryd.underlying25 info47 rfl (by decide) (by omega) u187005 x187005_3 (⟨t206, t207⟩ : S47) [.int .i64 t206, .string t207] (fun k_ => k_ ≠ gb209) (fun _ => False) rfl (by first | (go_simp; done) | (go_simp; rfl)) ?aP (fun _ hk => hk.elim) ?aF ?aO ?aB ?aS ?aL ?_; (case aP => exact k47_mkM _ _ _ (⟨t206, t207⟩ : S47)); (case aB => exact th_); (case aF => exact (fun k_ hk => Kd.freshB (g := gb209) (o := .cells #[.int .i64 t206, .string t207] 47 (0, 0)) tb_ k_ hk)); (case aO => exact (by (with_reducible repeat (first | apply Kd.R_alloc | apply Kd.R_drewN | apply Kd.R_drew)); exact Kd.R_mono (rR_ (rR_ (Kd.R_mono HO_187005.out (fun k_ hk => (⟨hk, hk.2⟩ : _ ∧ k_ ≠ gb209))))) (fun _ hk => hk.1.2))); (case aS => exact (below_size th_)); (case aL => have := LMc61.out; omega); intro v211 w70 ho hb hg hat; rw [← Ny210.out] at ho; have z_ := p_ (Kd.R_over' (by (with_reducible repeat (first | apply Kd.R_alloc | apply Kd.R_drewN | apply Kd.R_drew)); exact (Kd.R_mono (rR_ (rR_ (Kd.R_types HO_187004.out BK209.out (by decide)))) (fun _ h_ => h_.1))) (Kd.R_typed (by (with_reducible repeat (first | apply Kd.R_alloc | apply Kd.R_drewN | apply Kd.R_drew)); exact (Kd.R_mono (rR_ (rR_ (Kd.R_mono HO_187005.out (fun k_ hk => (⟨hk, hk.2⟩ : _ ∧ k_ ≠ gb209))))) (fun _ h_ => h_.1)))) (by decide) hg) <| p_ (blk_grown (g := gb183) (o := .cells #[.int .i64 x184000_29, .int .i64 x184001_29, .int .i64 x184002_29, .string x184003_29, .slice none 0 0, .slice none 0 0] 27 (0, 0)) (by (with_reducible repeat (first | refine blk_drewN ?_ _ | refine blk_drew ?_ | refine blk_alloc ?_ _)); refine blk_far ?_ NB183_209.out _; (with_reducible repeat (first | refine blk_drewN ?_ _ | refine blk_drew ?_ | refine blk_alloc ?_ _)); refine blk_far ?_ NB183_209.out _; (with_reducible repeat (first | refine blk_drewN ?_ _ | refine blk_drew ?_ | refine blk_alloc ?_ _)); exact BK183.out) hg (Kd.R_ne HO_187005.out BK183.out (by decide))) <| p_ (blk_grown (g := gb186) (o := .cells #[.int .i64 (wrap64 (bt (rdOf ByteArray.empty l0 0) 0)), .int .i64 t188, .int .i64 t191, .string x187003_14, u187004, u187005] 27 (0, 0)) (by (with_reducible repeat (first | refine blk_drewN ?_ _ | refine blk_drew ?_ | refine blk_alloc ?_ _)); refine blk_far ?_ NB186_209.out _; (with_reducible repeat (first | refine blk_drewN ?_ _ | refine blk_drew ?_ | refine blk_alloc ?_ _)); refine blk_far ?_ NB186_209.out _; (with_reducible repeat (first | refine blk_drewN ?_ _ | refine blk_drew ?_ | refine blk_alloc ?_ _)); exact BK186.out) hg (Kd.R_ne HO_187005.out BK186.out (by decide))) <| p_ (blk_grown (g := gb209) (o := .cells #[.int .i64 t206, .string t207] 47 (0, 0)) (by (with_reducible repeat (first | refine blk_drewN ?_ _ | refine blk_drew ?_ | refine blk_alloc ?_ _)); refine blk_put (cs := #[.int .i64 t206, .string (⟨#[]⟩ : ByteArray)]) ?_ 1 _ rfl; (with_reducible repeat (first | refine blk_drewN ?_ _ | refine blk_drew ?_ | refine blk_alloc ?_ _)); refine blk_put (cs := #[.int .i64 0, .string (⟨#[]⟩ : ByteArray)]) ?_ 0 _ rfl; (with_reducible repeat (first | refine blk_drewN ?_ _ | refine blk_drew ?_ | refine blk_alloc ?_ _)); exact BK209.out) hg (Kd.R_away HO_187005.out (fun _ hk => hk.2))) <| p_ (hb) <| a_ (ho); clear HO_187004 BK183 BK186 BK209 HB HO_187005; obtain ⟨HO_187004, BK183, BK186, BK209, HB, HO212⟩ := z_; clear ho hb hg hat; obtain ⟨Ao71, co71, eo71⟩ := Kd.R_slice HO212.out; subst eo71; obtain ⟨hcz72_0, hcz72_1, hcz72_2, hcz72_3, hcz72_4, hcz72_5⟩ := bk6_ BK186.out; obtain ⟨hfz72_0, hfz72_1, hfz72_2, hfz72_3, hfz72_4, hfz72_5⟩ := bf6_ BK186.out))
 go_roundg kj29
 case measure => have := HK1.out; have := HJ14.out; have := HK3.out; have := HJ24.out; have := HJ29.out; omega
 case rel => exact ⟨(wrap64 (x7_3 + 1)), (x184000_29), (x184001_29), (x184002_29), (x184003_29), (x187004_29), (y210), (u187004), (.slice Ao71 y210.length co71), tq_4, H', ⟨(by have := HK1.out; have := HJ14.out; have := HK3.out; have := HJ24.out; have := HJ29.out; omega)⟩, ⟨(by (with_reducible repeat (first | apply Kd.R_alloc | apply Kd.R_drewN | apply Kd.R_drew)); exact Kd.R_mono (rR_ (Kd.R_types HO_187004.out BK186.out (by decide))) (fun _ hk => trivial))⟩, ⟨(by (with_reducible repeat (first | apply Kd.R_alloc | apply Kd.R_drewN | apply Kd.R_drew)); exact Kd.R_mono (rR_ (Kd.R_types HO212.out BK186.out (by decide))) (fun _ hk => trivial))⟩, ⟨tb_⟩, ⟨tb_⟩, ⟨th_⟩⟩

end Go.Proofs.YtjfhddenmnjgbaaDoor.PFnAnyInode
