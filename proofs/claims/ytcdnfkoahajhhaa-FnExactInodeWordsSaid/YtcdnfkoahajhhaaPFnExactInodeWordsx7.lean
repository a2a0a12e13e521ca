/- Contracts of Go functions, written by a program of ours over the print of the kit: each says that the call returns what the Lean function beside it computes. Conditions: as each theorem states them. -/
import Derived.Test.YtcdnfkoahajhhaaPkFnExactInodeWords
import Derived.Test.YtcdnfkoahajhhaaPFnExactInodeWordsx0
import Derived.Test.YtcdnfkoahajhhaaPFnExactInodeWordsx3
import Derived.Test.YtcdnfkoahajhhaaPFnExactInodeWordsx4
import Derived.Test.YtcdnfkoahajhhaaPFnExactInodeWordsx5
import Derived.Test.YtcdnfkoahajhhaaPFnExactInodeWordsx6
namespace Go.Proofs.Ytcdnfkoahajhhaa.PFnExactInodeWords
open Go.RowKit Go.Proofs.YtcdnfkoahajhhaaW.PrintWords Go.Proofs.YtcdnfkoahajhhaaW.PrintLast Go.Proofs.YtcdnfkoahajhhaaW.PrintMore
attribute [local go_sem] max2_int min2_int max_two min_two max_three min_three max_four min_four   -- for this text's walks alone
set_option linter.unusedVariables false
set_option linter.unusedSimpArgs false

/-! ### spec_InodeWords: function 68 -/
mutual
def spec_InodeWords.l0 : Nat → List ByteArray → Int → Int → Int → Int → ByteArray → List (S170) → List (S59) → Option (List ByteArray)
 | 0, _, _, _, _, _, _, _, _ => none
 | k + 1, x3, x4, x209000, x209001, x209002, x209003, x209004, x209005 => if x4 < (x209004.length : Int) then (if 0 ≤ x4 then ((spec_RecWord.f k ((rd_T170 x209004 x4).f0) ((rd_T170 x209004 x4).f1) ((rd_T170 x209004 x4).f2)).bind fun t222 => (if x3.length < 8796093022208 then (spec_InodeWords.l0 k (x3 ++ [t222]) (wrap64 (x4 + 1)) x209000 x209001 x209002 x209003 x209004 x209005) else (none))) else (none)) else (spec_InodeWords.l1 k x3 0 x209000 x209001 x209002 x209003 x209004 x209005)
def spec_InodeWords.l1 : Nat → List ByteArray → Int → Int → Int → Int → ByteArray → List (S170) → List (S59) → Option (List ByteArray)
 | 0, _, _, _, _, _, _, _, _ => none
 | k + 1, x3, x5, x209000, x209001, x209002, x209003, x209004, x209005 => if x5 < (x209005.length : Int) then (if 0 ≤ x5 then ((spec_EntryWord.f k ((rd_T59 x209005 x5).f0) ((rd_T59 x209005 x5).f1)).bind fun t227 => (if x3.length < 8796093022208 then (spec_InodeWords.l1 k (x3 ++ [t227]) (wrap64 (x5 + 1)) x209000 x209001 x209002 x209003 x209004 x209005) else (none))) else (none)) else (spec_InodeWords.l2 k x3)
def spec_InodeWords.l2 : Nat → List ByteArray → Option (List ByteArray)
 | 0, _ => none
 | k + 1, x3 => if (x3.length : Int) < 8 then ((spec_ZeroText.f k 8).bind fun t231 => (if x3.length < 8796093022208 then (spec_InodeWords.l2 k (x3 ++ [t231])) else (none))) else (some x3)
end
def spec_InodeWords.f (k : Nat) (a0_0 : Int) (a0_1 : Int) (a0_2 : Int) (a0_3 : ByteArray) (l0_4 : List (S170)) (l0_5 : List (S59)) : Option (List ByteArray) := (spec_InodeOk.f k a0_0 a0_1 a0_2 a0_3 l0_4 l0_5).bind fun t209 => (if t209 = true then ((spec_NumText.f k a0_0 1).bind fun t213 => ((spec_NumText.f k a0_1 2).bind fun t214 => (if t213.size + t214.size ≤ 9223372036854775807 then ((spec_NumText.f k a0_2 2).bind fun t215 => (if (t213 ++ t214).size + t215.size ≤ 9223372036854775807 then ((spec_WordText.f k ((t213 ++ t214) ++ t215)).bind fun t216 => ((spec_WordText.f k a0_3).bind fun t217 => (spec_InodeWords.l0 k (([t216, t217] : List ByteArray)) 0 a0_0 a0_1 a0_2 a0_3 l0_4 l0_5))) else (none))) else (none)))) else (some (([] : List ByteArray))))
theorem spec_InodeWords.mono_l : ∀ k, (∀ y0 y1 y2 y3 y4 y5 y6 y7, LeO (spec_InodeWords.l0 k y0 y1 y2 y3 y4 y5 y6 y7) (spec_InodeWords.l0 (k + 1) y0 y1 y2 y3 y4 y5 y6 y7)) ∧ (∀ y0 y1 y2 y3 y4 y5 y6 y7, LeO (spec_InodeWords.l1 k y0 y1 y2 y3 y4 y5 y6 y7) (spec_InodeWords.l1 (k + 1) y0 y1 y2 y3 y4 y5 y6 y7)) ∧ (∀ y0, LeO (spec_InodeWords.l2 k y0) (spec_InodeWords.l2 (k + 1) y0))
 | 0 => ⟨fun _ _ _ _ _ _ _ _ r h => by simp [spec_InodeWords.l0] at h, fun _ _ _ _ _ _ _ _ r h => by simp [spec_InodeWords.l1] at h, fun _ r h => by simp [spec_InodeWords.l2] at h⟩
 | k + 1 => by
  obtain ⟨ih0, ih1, ih2⟩ := spec_InodeWords.mono_l k
  refine ⟨?_, ?_, ?_⟩
  ·intro y0 y1 y2 y3 y4 y5 y6 y7
   unfold spec_InodeWords.l0
   repeat' first
   | (with_reducible exact ih0 ..)
   | (with_reducible exact ih1 ..)
   | (with_reducible exact ih2 _)
   | (with_reducible exact spec_EntryWord.mono ..)
   | (with_reducible exact spec_InodeOk.mono ..)
   | (with_reducible exact spec_NumText.mono ..)
   | (with_reducible exact spec_RecWord.mono ..)
   | (with_reducible exact spec_WordText.mono ..)
   | (with_reducible exact spec_ZeroText.mono ..)
   | (with_reducible exact LeO.refl _)
   | (with_reducible exact LeO.none _)
   | (with_reducible refine LeO.ite ?_ ?_)
   | (with_reducible refine LeO.bind ?_ (fun _ => ?_))
   | exact ih0 ..
   | exact ih1 ..
   | exact ih2 _
   | exact spec_EntryWord.mono ..
   | exact spec_InodeOk.mono ..
   | exact spec_NumText.mono ..
   | exact spec_RecWord.mono ..
   | exact spec_WordText.mono ..
   | exact spec_ZeroText.mono ..
   | exact LeO.none _
   | refine LeO.ite ?_ ?_
   | refine LeO.bind ?_ (fun _ => ?_)
  ·intro y0 y1 y2 y3 y4 y5 y6 y7
   unfold spec_InodeWords.l1
   repeat' first
   | (with_reducible exact ih0 ..)
   | (with_reducible exact ih1 ..)
   | (with_reducible exact ih2 _)
   | (with_reducible exact spec_EntryWord.mono ..)
   | (with_reducible exact spec_InodeOk.mono ..)
   | (with_reducible exact spec_NumText.mono ..)
   | (with_reducible exact spec_RecWord.mono ..)
   | (with_reducible exact spec_WordText.mono ..)
   | (with_reducible exact spec_ZeroText.mono ..)
   | (with_reducible exact LeO.refl _)
   | (with_reducible exact LeO.none _)
   | (with_reducible refine LeO.ite ?_ ?_)
   | (with_reducible refine LeO.bind ?_ (fun _ => ?_))
   | exact ih0 ..
   | exact ih1 ..
   | exact ih2 _
   | exact spec_EntryWord.mono ..
   | exact spec_InodeOk.mono ..
   | exact spec_NumText.mono ..
   | exact spec_RecWord.mono ..
   | exact spec_WordText.mono ..
   | exact spec_ZeroText.mono ..
   | exact LeO.none _
   | refine LeO.ite ?_ ?_
   | refine LeO.bind ?_ (fun _ => ?_)
  ·intro y0
   unfold spec_InodeWords.l2
   repeat' first
   | (with_reducible exact ih0 ..)
   | (with_reducible exact ih1 ..)
   | (with_reducible exact ih2 _)
   | (with_reducible exact spec_EntryWord.mono ..)
   | (with_reducible exact spec_InodeOk.mono ..)
   | (with_reducible exact spec_NumText.mono ..)
   | (with_reducible exact spec_RecWord.mono ..)
   | (with_reducible exact spec_WordText.mono ..)
   | (with_reducible exact spec_ZeroText.mono ..)
   | (with_reducible exact LeO.refl _)
   | (with_reducible exact LeO.none _)
   | (with_reducible refine LeO.ite ?_ ?_)
   | (with_reducible refine LeO.bind ?_ (fun _ => ?_))
   | exact ih0 ..
   | exact ih1 ..
   | exact ih2 _
   | exact spec_EntryWord.mono ..
   | exact spec_InodeOk.mono ..
   | exact spec_NumText.mono ..
   | exact spec_RecWord.mono ..
   | exact spec_WordText.mono ..
   | exact spec_ZeroText.mono ..
   | exact LeO.none _
   | refine LeO.ite ?_ ?_
   | refine LeO.bind ?_ (fun _ => ?_)
theorem spec_InodeWords.mono : ∀ a0 a1 a2 a3 a4 a5 k, LeO (spec_InodeWords.f k a0 a1 a2 a3 a4 a5) (spec_InodeWords.f (k + 1) a0 a1 a2 a3 a4 a5) := by
 intro a0 a1 a2 a3 a4 a5 k
 obtain ⟨ih0, ih1, ih2⟩ := spec_InodeWords.mono_l k
 unfold spec_InodeWords.f
 repeat' first
   | (with_reducible exact ih0 ..)
   | (with_reducible exact ih1 ..)
   | (with_reducible exact ih2 _)
   | (with_reducible exact spec_EntryWord.mono ..)
   | (with_reducible exact spec_InodeOk.mono ..)
   | (with_reducible exact spec_NumText.mono ..)
   | (with_reducible exact spec_RecWord.mono ..)
   | (with_reducible exact spec_WordText.mono ..)
   | (with_reducible exact spec_ZeroText.mono ..)
   | (with_reducible exact LeO.refl _)
   | (with_reducible exact LeO.none _)
   | (with_reducible refine LeO.ite ?_ ?_)
   | (with_reducible refine LeO.bind ?_ (fun _ => ?_))
   | exact ih0 ..
   | exact ih1 ..
   | exact ih2 _
   | exact spec_EntryWord.mono ..
   | exact spec_InodeOk.mono ..
   | exact spec_NumText.mono ..
   | exact spec_RecWord.mono ..
   | exact spec_WordText.mono ..
   | exact spec_ZeroText.mono ..
   | exact LeO.none _
   | refine LeO.ite ?_ ?_
   | refine LeO.bind ?_ (fun _ => ?_)
def spec_InodeWords.T3 : Bool × List (List Nat × List Nat) := (true, [([], []), ([0], [0]), ([1], [1]), ([], []), ([3], [3]), ([4, 2], [4]), ([2, 5], [2, 5]), ([], []), ([7], [7]), ([8, 5], [8]), ([6, 9], [6, 9]), ([10, 9], [10]), ([], []), ([12], [12]), ([13, 11], [13]), ([11, 14], [11, 14]), ([15, 14, 0, 1, 2, 3, 4, 5, 6, 7, 8, 9, 10, 11, 12, 13, 14, 15], [15])])
def spec_InodeWords.B3 : List Nat := [0, 1, 3, 0, 8, 31, 63, 0, 128, 447, 1023, 2047, 0, 4096, 16383, 32767, 65535]
theorem spec_InodeWords.tab3 : rtab .any (opsOf Try.f68 3) = spec_InodeWords.T3 := by kernel_rfl
theorem spec_InodeWords.bits3 : waitsOk spec_InodeWords.T3.2 spec_InodeWords.B3 = true := by kernel_rfl
set_option maxHeartbeats 8000000 in
set_option maxRecDepth 100000 in
theorem spec_InodeWords.calls (k : Nat) (a0_0 : Int) (a0_1 : Int) (a0_2 : Int) (a0_3 : ByteArray) (A0_4 : Option Addr) (c0_4 : Nat) (l0_4 : List (S170)) (A0_5 : Option Addr) (c0_5 : Nat) (l0_5 : List (S59)) (r : List ByteArray) (w : World) (hr0_4 : Kd.C k170 w A0_4 l0_4.length l0_4) (hc0_4 : l0_4.length ≤ c0_4) (hr0_5 : Kd.C k59 w A0_5 l0_5.length l0_5) (hc0_5 : l0_5.length ≤ c0_5) (h : spec_InodeWords.f k a0_0 a0_1 a0_2 a0_3 l0_4 l0_5 = some r) :
  Calls Try.prog 68 #[.agg #[.int .i64 a0_0, .int .i64 a0_1, .int .i64 a0_2, .string a0_3, .slice A0_4 l0_4.length c0_4, .slice A0_5 l0_5.length c0_5]] w fun e w' => ∃ v0_ : Value, e = .returned (v0_) ∧ Kd.R Kd.string 9 w' w.heap.size (fun _ => True) v0_ r ∧ Below w.heap.size w w' := by
 have hu49 := Try.underlying49
 have hu170 := Try.underlying170
 have hu59 := Try.underlying59
 have HR0_4 := Aside0.mk hr0_4
 have HC0_4 := Aside0.mk hc0_4
 clear hr0_4 hc0_4
 have HR0_5 := Aside0.mk hr0_5
 have HC0_5 := Aside0.mk hc0_5
 clear hr0_5 hc0_5
 have HB := Aside0.mk (Below.refl w.heap.size w)
 have H : ((spec_InodeOk.f k a0_0 a0_1 a0_2 a0_3 l0_4 l0_5).bind fun t209 => (if t209 = true then ((spec_NumText.f k a0_0 1).bind fun t213 => ((spec_NumText.f k a0_1 2).bind fun t214 => (if t213.size + t214.size ≤ 9223372036854775807 then ((spec_NumText.f k a0_2 2).bind fun t215 => (if (t213 ++ t214).size + t215.size ≤ 9223372036854775807 then ((spec_WordText.f k ((t213 ++ t214) ++ t215)).bind fun t216 => ((spec_WordText.f k a0_3).bind fun t217 => (spec_InodeWords.l0 k (([t216, t217] : List ByteArray)) 0 a0_0 a0_1 a0_2 a0_3 l0_4 l0_5))) else (none))) else (none)))) else (some (([] : List ByteArray))))) = some r := h
 clear h
 replace H := Option.bind_eq_some_iff.mp H
 obtain ⟨t209, A20, H⟩ := H
 replace H : (if t209 = true then ((spec_NumText.f k a0_0 1).bind fun t213 => ((spec_NumText.f k a0_1 2).bind fun t214 => (if t213.size + t214.size ≤ 9223372036854775807 then ((spec_NumText.f k a0_2 2).bind fun t215 => (if (t213 ++ t214).size + t215.size ≤ 9223372036854775807 then ((spec_WordText.f k ((t213 ++ t214) ++ t215)).bind fun t216 => ((spec_WordText.f k a0_3).bind fun t217 => (spec_InodeWords.l0 k (([t216, t217] : List ByteArray)) 0 a0_0 a0_1 a0_2 a0_3 l0_4 l0_5))) else (none))) else (none)))) else (some (([] : List ByteArray)))) = some r := H
 have A2 := Aside0.mk A20
 clear A20
 by_cases c3 : t209 = true
 ·subst c3
  have H1 : ((spec_NumText.f k a0_0 1).bind fun t213 => ((spec_NumText.f k a0_1 2).bind fun t214 => (if t213.size + t214.size ≤ 9223372036854775807 then ((spec_NumText.f k a0_2 2).bind fun t215 => (if (t213 ++ t214).size + t215.size ≤ 9223372036854775807 then ((spec_WordText.f k ((t213 ++ t214) ++ t215)).bind fun t216 => ((spec_WordText.f k a0_3).bind fun t217 => (spec_InodeWords.l0 k (([t216, t217] : List ByteArray)) 0 a0_0 a0_1 a0_2 a0_3 l0_4 l0_5))) else (none))) else (none)))) = some r := by rw [if_pos rfl] at H; exact H
  clear H
  have H := H1
  clear H1
  replace H := Option.bind_eq_some_iff.mp H
  obtain ⟨t213, A40, H⟩ := H
  replace H : ((spec_NumText.f k a0_1 2).bind fun t214 => (if t213.size + t214.size ≤ 9223372036854775807 then ((spec_NumText.f k a0_2 2).bind fun t215 => (if (t213 ++ t214).size + t215.size ≤ 9223372036854775807 then ((spec_WordText.f k ((t213 ++ t214) ++ t215)).bind fun t216 => ((spec_WordText.f k a0_3).bind fun t217 => (spec_InodeWords.l0 k (([t216, t217] : List ByteArray)) 0 a0_0 a0_1 a0_2 a0_3 l0_4 l0_5))) else (none))) else (none))) = some r := H
  have A4 := Aside0.mk A40
  clear A40
  replace H := Option.bind_eq_some_iff.mp H
  obtain ⟨t214, A50, H⟩ := H
  replace H : (if t213.size + t214.size ≤ 9223372036854775807 then ((spec_NumText.f k a0_2 2).bind fun t215 => (if (t213 ++ t214).size + t215.size ≤ 9223372036854775807 then ((spec_WordText.f k ((t213 ++ t214) ++ t215)).bind fun t216 => ((spec_WordText.f k a0_3).bind fun t217 => (spec_InodeWords.l0 k (([t216, t217] : List ByteArray)) 0 a0_0 a0_1 a0_2 a0_3 l0_4 l0_5))) else (none))) else (none)) = some r := H
  have A5 := Aside0.mk A50
  clear A50
  by_cases c6 : t213.size + t214.size ≤ 9223372036854775807
  ·rw [if_pos c6] at H
   have c6b0 := eq_true c6
   have c6b1 : decide (t213.size + t214.size ≤ 9223372036854775807) = true := decide_eq_true c6
   try have c6b2 : (9223372036854775807 < t213.size + t214.size) = False := eq_false (Nat.not_lt.2 c6)
   replace H := Option.bind_eq_some_iff.mp H
   obtain ⟨t215, A70, H⟩ := H
   replace H : (if (t213 ++ t214).size + t215.size ≤ 9223372036854775807 then ((spec_WordText.f k ((t213 ++ t214) ++ t215)).bind fun t216 => ((spec_WordText.f k a0_3).bind fun t217 => (spec_InodeWords.l0 k (([t216, t217] : List ByteArray)) 0 a0_0 a0_1 a0_2 a0_3 l0_4 l0_5))) else (none)) = some r := H
   have A7 := Aside0.mk A70
   clear A70
   by_cases c8 : (t213 ++ t214).size + t215.size ≤ 9223372036854775807
   ·rw [if_pos c8] at H
    have c8b0 := eq_true c8
    have c8b1 : decide ((t213 ++ t214).size + t215.size ≤ 9223372036854775807) = true := decide_eq_true c8
    try have c8b2 : (9223372036854775807 < (t213 ++ t214).size + t215.size) = False := eq_false (Nat.not_lt.2 c8)
    try have c8b2s : (9223372036854775807 < t213.size + t214.size + t215.size) = False := by rw [← ByteArray.size_append]; exact c8b2
    replace H := Option.bind_eq_some_iff.mp H
    obtain ⟨t216, A90, H⟩ := H
    replace H : ((spec_WordText.f k a0_3).bind fun t217 => (spec_InodeWords.l0 k (([t216, t217] : List ByteArray)) 0 a0_0 a0_1 a0_2 a0_3 l0_4 l0_5)) = some r := H
    have A9 := Aside0.mk A90
    clear A90
    replace H := Option.bind_eq_some_iff.mp H
    obtain ⟨t217, A100, H⟩ := H
    replace H : (spec_InodeWords.l0 k (([t216, t217] : List ByteArray)) 0 a0_0 a0_1 a0_2 a0_3 l0_4 l0_5) = some r := H
    have A10 := Aside0.mk A100
    clear A100
    obtain ⟨y218, hy218⟩ : ∃ y_ : List ByteArray, y_ = (([t216, t217] : List ByteArray)) := ⟨_, rfl⟩
    replace H : (spec_InodeWords.l0 k y218 0 a0_0 a0_1 a0_2 a0_3 l0_4 l0_5) = some r := by first | (rw [hy218]; with_reducible exact H) | (have H2_ := (Option.bind_some _ _).symm.trans H; rw [hy218]; with_reducible exact H2_) | (have H2_ := (Option.bind_some _ _).symm.trans H; with_reducible exact H2_) | with_reducible exact H | (rw [hy218]; exact H) | exact H
    have Ny218 := Aside0.mk hy218
    clear hy218
    have H' := Aside0.mk H
    clear H
    go_enter Try.func68, Try.ntmps68
    try go_wp2_with (first | ((with_reducible refine gate_dst (N := 1) rfl ?_); refine box_event ?hg (N := 1) ?hd (cs := #[.int .i64 a0_0, .int .i64 a0_1, .int .i64 a0_2, .string a0_3, .slice A0_4 l0_4.length c0_4, .slice A0_5 l0_5.length c0_5]) (t := 49) ?hr ?_; (case hd => rfl); (case hg => rfl); (case hr => first | (go_simp; done) | (go_simp; rfl)); intro gb208 hg w11 hbox hb; have z_ := p_ (below_step tq_0 hb) <| p_ (hbox) <| p_ (gb_ hg tq_0) <| a_ (gb_ hg tq_0); clear HB; obtain ⟨HB, BK208, GW208, GE208⟩ := z_; clear hb hbox hg; have hcz12_0 := bc_ BK208.out 0; have hcz12_1 := bc_ BK208.out 1; have hcz12_2 := bc_ BK208.out 2; have hcz12_3 := bc_ BK208.out 3; have hcz12_4 := bc_ BK208.out 4; have hcz12_5 := bc_ BK208.out 5; have hfz12_0 := blk_frozen BK208.out 0; have hfz12_1 := blk_frozen BK208.out 1; have hfz12_2 := blk_frozen BK208.out 2; have hfz12_3 := blk_frozen BK208.out 3; have hfz12_4 := blk_frozen BK208.out 4; have hfz12_5 := blk_frozen BK208.out 5) | ((with_reducible refine gate_callee (f := 147) rfl ?_); refine goesL_ (some 7) rfl rfl Try.func147 (by kernel_rfl) rfl #[.agg #[.int .i64 a0_0, .int .i64 a0_1, .int .i64 a0_2, .string a0_3, .slice A0_4 l0_4.length c0_4, .slice A0_5 l0_5.length c0_5]] rfl tq_1 ?_; (with_reducible refine (spec_InodeOk.calls k a0_0 a0_1 a0_2 a0_3 _ _ l0_4 _ _ l0_5 true _ ?side1 ?side2 ?side3 ?side4 A2.out).mono ?_); (case side1 => exact tq_18); (case side2 => exact HC0_4.out); (case side3 => exact tq_26); (case side4 => exact HC0_5.out); rintro e w13 ⟨rfl, hb⟩; refine ⟨_, rfl, ?_⟩; have z_ := p_ (blk_below tq_21 hb) <| a_ (below_step tq_9 hb); clear BK208 HB; obtain ⟨BK208, HB⟩ := z_; (try clear hb); (try clear hb2); (try clear hk); (try clear hi)))
    have z_ := p_ (blk_drew BK208.out) <| a_ (below_drew1 HB.out)
    clear BK208 HB
    obtain ⟨BK208, HB⟩ := z_
    refine start_ (n := 17) (S := fun w' => w'.cell? ⟨gb208, 0, none⟩ = some (.int .i64 a0_0) ∧ w'.cell? ⟨gb208, 1, none⟩ = some (.int .i64 a0_1) ∧ w'.cell? ⟨gb208, 2, none⟩ = some (.int .i64 a0_2) ∧ w'.cell? ⟨gb208, 3, none⟩ = some (.string a0_3) ∧ w'.cell? ⟨gb208, 4, none⟩ = some (.slice A0_4 l0_4.length c0_4) ∧ w'.cell? ⟨gb208, 5, none⟩ = some (.slice A0_5 l0_5.length c0_5)) (ds := []) bq_122 (by kernel_rfl) rfl rfl (bk6_ BK208.out) (fun hHeld => ?_); refine with_tabW spec_InodeWords.tab3 spec_InodeWords.bits3 (fun HT_ HW_ => ?_)
    generalize w13.drew = w14 at BK208 HB hHeld ⊢
    refine yq_ (i := 0) (N := some 10) bq_123 (any_of HT_.out (by kernel_rfl)) ?_
    refine yq_ (i := 3) (N := some 13) bq_124 (any_of HT_.out (by kernel_rfl)) ?_
    refine yq_ (i := 7) (N := some 17) bq_125 (any_of HT_.out (by kernel_rfl)) ?_
    refine yq_ (i := 12) (N := some 22) bq_126 (any_of HT_.out (by kernel_rfl)) ?_
    refine tk_ (i := 1) (N := some 11) bq_127 (take_ofW HT_.out HW_.out (by kernel_rfl)) hHeld ?_
    refine tk_ (i := 4) (N := some 14) bq_128 (take_ofW HT_.out HW_.out (by kernel_rfl)) hHeld ?_
    refine tk_ (i := 8) (N := some 18) bq_129 (take_ofW HT_.out HW_.out (by kernel_rfl)) hHeld ?_
    refine tk_ (i := 13) (N := some 23) bq_130 (take_ofW HT_.out HW_.out (by kernel_rfl)) hHeld ?_
    refine one_ (i := 2) (N := some 12) bq_131 rfl rfl (one_of HT_.out (by kernel_rfl)) (by decide) (fun K hK => ?_)
    refine goes_ Try.func149 (by kernel_rfl) rfl #[.int .i64 a0_0, .int .i64 1] (by rfl) rfl rfl tq_1 ?_
    with_reducible refine (spec_NumText.calls k a0_0 1 t213 _ A4.out).mono ?_
    rintro e w15 ⟨rfl, hb⟩
    refine ⟨_, rfl, ?_⟩
    have z_ := p_ (blk_below tq_21 hb) <| a_ (below_step tq_9 hb)
    clear BK208 HB
    obtain ⟨BK208, HB⟩ := z_
    (try clear hb)
    (try clear hb2)
    (try clear hk)
    (try clear hi)
    refine hK.out _ _ (bk6_ BK208.out) (fun hHeld => ?_)
    clear hK K
    refine nm_ (some 12) ?_
    refine one_ (i := 5) (N := some 15) bq_132 rfl rfl (one_of HT_.out (by kernel_rfl)) (by decide) (fun K hK => ?_)
    refine goes_ Try.func149 (by kernel_rfl) rfl #[.int .i64 a0_1, .int .i64 2] (by rfl) rfl rfl tq_1 ?_
    with_reducible refine (spec_NumText.calls k a0_1 2 t214 _ A5.out).mono ?_
    rintro e w16 ⟨rfl, hb⟩
    refine ⟨_, rfl, ?_⟩
    have z_ := p_ (blk_below tq_21 hb) <| a_ (below_step tq_9 hb)
    clear BK208 HB
    obtain ⟨BK208, HB⟩ := z_
    (try clear hb)
    (try clear hb2)
    (try clear hk)
    (try clear hi)
    refine hK.out _ _ (bk6_ BK208.out) (fun hHeld => ?_)
    clear hK K
    refine nm_ (some 15) ?_
    refine yq_ (i := 6) (N := some 16) bq_133 (any_of HT_.out (by kernel_rfl)) ?_
    refine one_ (i := 9) (N := some 19) bq_134 rfl rfl (one_of HT_.out (by kernel_rfl)) (by decide) (fun K hK => ?_)
    refine goes_ Try.func149 (by kernel_rfl) rfl #[.int .i64 a0_2, .int .i64 2] (by rfl) rfl rfl tq_1 ?_
    with_reducible refine (spec_NumText.calls k a0_2 2 t215 _ A7.out).mono ?_
    rintro e w17 ⟨rfl, hb⟩
    refine ⟨_, rfl, ?_⟩
    have z_ := p_ (blk_below tq_21 hb) <| a_ (below_step tq_9 hb)
    clear BK208 HB
    obtain ⟨BK208, HB⟩ := z_
    (try clear hb)
    (try clear hb2)
    (try clear hk)
    (try clear hi)
    refine hK.out _ _ (bk6_ BK208.out) (fun hHeld => ?_)
    clear hK K
    refine nm_ (some 19) ?_
    refine yq_ (i := 10) (N := some 20) bq_135 (any_of HT_.out (by kernel_rfl)) ?_
    refine one_ (i := 11) (N := some 21) bq_136 rfl rfl (one_of HT_.out (by kernel_rfl)) (by decide) (fun K hK => ?_)
    refine goes_ Try.func148 (by kernel_rfl) rfl #[.string ((t213 ++ t214) ++ t215)] (by rfl) rfl rfl tq_1 ?_
    with_reducible refine (spec_WordText.calls k ((t213 ++ t214) ++ t215) t216 _ A9.out).mono ?_
    rintro e w18 ⟨rfl, hb⟩
    refine ⟨_, rfl, ?_⟩
    have z_ := p_ (blk_below tq_21 hb) <| a_ (below_step tq_9 hb)
    clear BK208 HB
    obtain ⟨BK208, HB⟩ := z_
    (try clear hb)
    (try clear hb2)
    (try clear hk)
    (try clear hi)
    refine hK.out _ _ (bk6_ BK208.out) (fun hHeld => ?_)
    clear hK K
    refine nm_ (some 21) ?_
    refine one_ (i := 14) (N := some 24) bq_137 rfl rfl (one_of HT_.out (by kernel_rfl)) (by decide) (fun K hK => ?_)
    refine goes_ Try.func148 (by kernel_rfl) rfl #[.string a0_3] (by rfl) rfl rfl tq_1 ?_
    with_reducible refine (spec_WordText.calls k a0_3 t217 _ A10.out).mono ?_
    rintro e w19 ⟨rfl, hb⟩
    refine ⟨_, rfl, ?_⟩
    have z_ := p_ (blk_below tq_21 hb) <| a_ (below_step tq_9 hb)
    clear BK208 HB
    obtain ⟨BK208, HB⟩ := z_
    (try clear hb)
    (try clear hb2)
    (try clear hk)
    (try clear hi)
    refine hK.out _ _ (bk6_ BK208.out) (fun hHeld => ?_)
    clear hK K
    refine nm_ (some 24) ?_
    refine one_ (i := 15) (N := some 25) bq_138 rfl rfl (one_of HT_.out (by kernel_rfl)) (by decide) (fun K hK => ?_)
    refine Kd.R_lit_step Kd.string _ 9 ?hg (N := 25) ?hd (xs := ([t216, t217] : List ByteArray)) (inner := [.string t216, .string t217]) (ok := fun _ => True) (okp := fun _ => True) ?hr ?hp (fun _ hk => hk) trivial (Below.refl _ _) (Nat.le_refl _) (by simp) ?_; (case hd => rfl); (case hg => rfl); (case hr => first | (go_simp; done) | (go_simp; rfl)); (case hp => exact (Reps.one (show Kd.M Kd.string _ _ _ t216 [.string t216] from rfl) (Reps.one (show Kd.M Kd.string _ _ _ t217 [.string t217] from rfl) (Reps.none _ _))))
    intro v219 w20 ho21 hb hg_ hnew_
    clear hg_ hnew_
    (first | rw [← Ny218.out] at ho21 | (simp only [Int.reduceToNat] at ho21; rw [← Ny218.out] at ho21))
    have z_ := p_ (Kd.R_lower ho21 (below_size tq_9)) <| p_ (blk_below tq_21 hb) <| a_ (below_step tq_9 hb)
    clear BK208 HB
    obtain ⟨HO220, BK208, HB⟩ := z_
    clear hb ho21
    refine hK.out _ _ (bk6_ BK208.out) (fun hHeld => ?_)
    clear hK K
    refine nm_ (some 25) ?_
    refine yq_ (i := 16) (N := some 3) bq_139 (any_of HT_.out (by kernel_rfl)) ?_
    refine done_ (done_of HT_.out (by kernel_rfl)) ?_
    try go_wp2
    go_loopg [3, 4] k (fun kq v3 v4 w' => ∃ (x3_1 : List ByteArray) (x4_1 : Int), v4 = .int .i64 x4_1 ∧ Aside0 (spec_InodeWords.l0 kq x3_1 x4_1 a0_0 a0_1 a0_2 a0_3 l0_4 l0_5 = some r) ∧ Aside0 (kq ≤ k) ∧ Aside0 (Kd.R Kd.string 9 w' w.heap.size (fun _ => True) v3 x3_1) ∧ Aside0 (w'.heap[gb208]? = some (.cells #[.int .i64 a0_0, .int .i64 a0_1, .int .i64 a0_2, .string a0_3, (.slice A0_4 l0_4.length c0_4), (.slice A0_5 l0_5.length c0_5)] 49 (0, 0))) ∧ Aside0 (Below w.heap.size w w'))
    case atStart => exact ⟨(y218), (0), tq_8, H', ⟨Nat.le_refl _⟩, ⟨(by (with_reducible repeat (first | apply Kd.R_alloc | apply Kd.R_drewN | apply Kd.R_drew)); exact HO220.out)⟩, ⟨tq_21⟩, ⟨tq_9⟩⟩
    case round =>
     clear H'
     try clear c1
     try clear p2
     try clear c3
     try clear c6
     try clear c6b0
     try clear c6b1
     try clear c6b2
     try clear c8
     try clear c8b0
     try clear c8b1
     try clear c8b2
     try clear c14
     try clear hcz12_0 hcz12_1 hcz12_2 hcz12_3 hcz12_4 hcz12_5 hfz12_0 hfz12_1 hfz12_2 hfz12_3 hfz12_4 hfz12_5
     obtain ⟨x3_1, x4_1, rfl, HA, HK1, HO_3, BK208, HB⟩ := hrel
     cases gk with
     | zero => exact absurd HA.out (by simp [spec_InodeWords.l0])
     | succ k1 =>
      have H := HA.out
      clear HA
      simp only [spec_InodeWords.l0] at H
      by_cases c22 : x4_1 < (l0_4.length : Int)
      ·rw [if_pos c22] at H
       have c22b0 : decide (x4_1 < (l0_4.length : Int)) = true := decide_eq_true c22
       clear c22
       by_cases c23 : 0 ≤ x4_1
       ·rw [if_pos c23] at H
        have c23b0 : decide (0 ≤ x4_1) = true := decide_eq_true c23
        clear c23
        replace H := Option.bind_eq_some_iff.mp H
        obtain ⟨t222, A240, H⟩ := H
        replace H : (if x3_1.length < 8796093022208 then (spec_InodeWords.l0 k1 (x3_1 ++ [t222]) (wrap64 (x4_1 + 1)) a0_0 a0_1 a0_2 a0_3 l0_4 l0_5) else (none)) = some r := H
        have A24 := Aside0.mk A240
        clear A240
        by_cases c25 : x3_1.length < 8796093022208
        ·rw [if_pos c25] at H
         have LMc25 := Aside0.mk c25
         clear c25
         obtain ⟨y223, hy223⟩ : ∃ y_ : List ByteArray, y_ = (x3_1 ++ [t222]) := ⟨_, rfl⟩
         replace H : (spec_InodeWords.l0 k1 y223 (wrap64 (x4_1 + 1)) a0_0 a0_1 a0_2 a0_3 l0_4 l0_5) = some r := by first | (rw [hy223]; with_reducible exact H) | (have H2_ := (Option.bind_some _ _).symm.trans H; rw [hy223]; with_reducible exact H2_) | (have H2_ := (Option.bind_some _ _).symm.trans H; with_reducible exact H2_) | with_reducible exact H | (rw [hy223]; exact H) | exact H
         have Ny223 := Aside0.mk hy223
         clear hy223
         have H' := Aside0.mk H
         clear H
         have hcz26_0 := bc_ BK208.out 0
         have hcz26_1 := bc_ BK208.out 1
         have hcz26_2 := bc_ BK208.out 2
         have hcz26_3 := bc_ BK208.out 3
         have hcz26_4 := bc_ BK208.out 4
         have hcz26_5 := bc_ BK208.out 5
         have hfz26_0 := blk_frozen BK208.out 0
         have hfz26_1 := blk_frozen BK208.out 1
         have hfz26_2 := blk_frozen BK208.out 2
         have hfz26_3 := blk_frozen BK208.out 3
         have hfz26_4 := blk_frozen BK208.out 4
         have hfz26_5 := blk_frozen BK208.out 5
         have p221 : 0 ≤ (x4_1 : Int) := of_decide_eq_true tq_3
         have q221 : x4_1 < (l0_4.length : Int) := of_decide_eq_true tq_3
         obtain ⟨ad221, e221, hx221_0, hx221_1, hx221_2⟩ := at_T170 HR0_4.out x4_1 p221 q221
         cases e221
         replace hx221_0 := hx_ HB.out hx221_0
         replace hx221_1 := hx_ HB.out hx221_1
         replace hx221_2 := hx_ HB.out hx221_2
         replace p221 := eq_true p221
         replace q221 := eq_true q221
         go_wp2_with (first | ((with_reducible refine gate_callee (f := 150) rfl ?_); refine goesL_ (some 39) rfl rfl Try.func150 (by kernel_rfl) rfl #[.agg #[.int .i64 ((rd_T170 l0_4 x4_1).f0), .int .i64 ((rd_T170 l0_4 x4_1).f1), .string ((rd_T170 l0_4 x4_1).f2)]] rfl tq_1 ?_; (with_reducible refine (spec_RecWord.calls k1 ((rd_T170 l0_4 x4_1).f0) ((rd_T170 l0_4 x4_1).f1) ((rd_T170 l0_4 x4_1).f2) t222 _ A24.out).mono ?_); rintro e w27 ⟨rfl, hb⟩; refine ⟨_, rfl, ?_⟩; have z_ := p_ (Kd.R_below tq_17 hb) <| p_ (blk_below tq_21 hb) <| a_ (below_step tq_9 hb); clear HO_3 BK208 HB; obtain ⟨HO_3, BK208, HB⟩ := z_; (try clear hb); (try clear hb2); (try clear hk); (try clear hi)) | ((with_reducible refine gate_builtin (b := .append) (xs := #[.tmp 33, .tmp 40]) rfl ?_); at_builtin; refine Kd.R_append Kd.string (w0 := w) w.heap.size rfl (.tmp 33) (.tmp 40) 96 9 (.string ⟨#[]⟩) 16 rfl Try.underlying96 info9 rfl (by decide) (by omega) u3 x3_1 t222 [.string t222] (fun _ => True) (fun _ => False) rfl rfl ?aP (fun _ hk => hk.elim) ?aF ?aO ?aB ?aS ?aL ?_; (case aP => exact rfl); (case aB => exact tq_9); (case aF => exact (fun _ _ => trivial)); (case aO => exact tq_17); (case aS => exact (below_size tq_9)); (case aL => have := LMc25.out; omega); intro v224 w28 ho hb hg hat; rw [← Ny223.out] at ho; have z_ := p_ (blk_grown (g := gb208) (o := .cells #[.int .i64 a0_0, .int .i64 a0_1, .int .i64 a0_2, .string a0_3, .slice (some ad221) l0_4.length c0_4, .slice A0_5 l0_5.length c0_5] 49 (0, 0)) tq_21 hg (Kd.R_ne HO_3.out BK208.out (by decide))) <| p_ (hb) <| a_ (ho); clear BK208 HB HO_3; obtain ⟨BK208, HB, HO225⟩ := z_; clear ho hb hg hat))
         go_roundg k1
         case measure => have := HK1.out; omega
         case rel => exact ⟨(y223), (wrap64 (x4_1 + 1)), tq_8, H', ⟨tq_67⟩, ⟨(by (with_reducible repeat (first | apply Kd.R_alloc | apply Kd.R_drewN | apply Kd.R_drew)); exact HO225.out)⟩, ⟨tq_21⟩, ⟨tq_9⟩⟩
        ·rw [if_neg c25] at H
         exact absurd H (by simp)
       ·rw [if_neg c23] at H
        exact absurd H (by simp)
      ·rw [if_neg c22] at H
       have c22b0 : decide (x4_1 < (l0_4.length : Int)) = false := decide_eq_false c22
       clear c22
       have H' := Aside0.mk H
       clear H
       have hcz29_0 := bc_ BK208.out 0
       have hcz29_1 := bc_ BK208.out 1
       have hcz29_2 := bc_ BK208.out 2
       have hcz29_3 := bc_ BK208.out 3
       have hcz29_4 := bc_ BK208.out 4
       have hcz29_5 := bc_ BK208.out 5
       have hfz29_0 := blk_frozen BK208.out 0
       have hfz29_1 := blk_frozen BK208.out 1
       have hfz29_2 := blk_frozen BK208.out 2
       have hfz29_3 := blk_frozen BK208.out 3
       have hfz29_4 := blk_frozen BK208.out 4
       have hfz29_5 := blk_frozen BK208.out 5
       go_wp2
       go_loopg [3, 5] k1 (fun kq v3 v5 w' => ∃ (x3_2 : List ByteArray) (x5_2 : Int), v5 = .int .i64 x5_2 ∧ Aside0 (spec_InodeWords.l1 kq x3_2 x5_2 a0_0 a0_1 a0_2 a0_3 l0_4 l0_5 = some r) ∧ Aside0 (kq ≤ k1) ∧ Aside0 (Kd.R Kd.string 9 w' w.heap.size (fun _ => True) v3 x3_2) ∧ Aside0 (w'.heap[gb208]? = some (.cells #[.int .i64 a0_0, .int .i64 a0_1, .int .i64 a0_2, .string a0_3, (.slice A0_4 l0_4.length c0_4), (.slice A0_5 l0_5.length c0_5)] 49 (0, 0))) ∧ Aside0 (Below w.heap.size w w'))
       case atStart => exact ⟨(x3_1), (0), tq_8, H', ⟨Nat.le_refl _⟩, ⟨tq_17⟩, ⟨tq_21⟩, ⟨tq_9⟩⟩
       case round =>
        clear H'
        try clear c1
        try clear c2
        try clear p2
        try clear q2
        try clear hx2
        try clear c3
        try clear c6
        try clear c6b0
        try clear c6b1
        try clear c6b2
        try clear p6
        try clear c8
        try clear c8b0
        try clear c8b1
        try clear c8b2
        try clear c14
        try clear c15
        try clear c22
        try clear c22b0
        try clear p22
        try clear q22
        try clear hx22
        try clear c23
        try clear c23b0
        try clear c25
        try clear hcz12_0 hcz12_1 hcz12_2 hcz12_3 hcz12_4 hcz12_5
        try clear hcz26_0 hcz26_1 hcz26_2 hcz26_3 hcz26_4 hcz26_5
        try clear hcz29_0 hcz29_1 hcz29_2 hcz29_3 hcz29_4 hcz29_5
        try clear hfz12_0 hfz12_1 hfz12_2 hfz12_3 hfz12_4 hfz12_5
        try clear hfz26_0 hfz26_1 hfz26_2 hfz26_3 hfz26_4 hfz26_5
        try clear hfz29_0 hfz29_1 hfz29_2 hfz29_3 hfz29_4 hfz29_5
        try clear hx221_0
        try clear hx221_1
        try clear hx221_2
        try clear p2
        try clear p221
        try clear q221
        obtain ⟨x3_2, x5_2, rfl, HA, HK2, HO_3, BK208, HB⟩ := hrel
        cases gk with
        | zero => exact absurd HA.out (by simp [spec_InodeWords.l1])
        | succ k2 =>
         have H := HA.out
         clear HA
         simp only [spec_InodeWords.l1] at H
         by_cases c30 : x5_2 < (l0_5.length : Int)
         ·rw [if_pos c30] at H
          have c30b0 : decide (x5_2 < (l0_5.length : Int)) = true := decide_eq_true c30
          clear c30
          by_cases c31 : 0 ≤ x5_2
          ·rw [if_pos c31] at H
           have c31b0 : decide (0 ≤ x5_2) = true := decide_eq_true c31
           clear c31
           replace H := Option.bind_eq_some_iff.mp H
           obtain ⟨t227, A320, H⟩ := H
           replace H : (if x3_2.length < 8796093022208 then (spec_InodeWords.l1 k2 (x3_2 ++ [t227]) (wrap64 (x5_2 + 1)) a0_0 a0_1 a0_2 a0_3 l0_4 l0_5) else (none)) = some r := H
           have A32 := Aside0.mk A320
           clear A320
           by_cases c33 : x3_2.length < 8796093022208
           ·rw [if_pos c33] at H
            have LMc33 := Aside0.mk c33
            clear c33
            obtain ⟨y228, hy228⟩ : ∃ y_ : List ByteArray, y_ = (x3_2 ++ [t227]) := ⟨_, rfl⟩
            replace H : (spec_InodeWords.l1 k2 y228 (wrap64 (x5_2 + 1)) a0_0 a0_1 a0_2 a0_3 l0_4 l0_5) = some r := by first | (rw [hy228]; with_reducible exact H) | (have H2_ := (Option.bind_some _ _).symm.trans H; rw [hy228]; with_reducible exact H2_) | (have H2_ := (Option.bind_some _ _).symm.trans H; with_reducible exact H2_) | with_reducible exact H | (rw [hy228]; exact H) | exact H
            have Ny228 := Aside0.mk hy228
            clear hy228
            have H' := Aside0.mk H
            clear H
            have hcz34_0 := bc_ BK208.out 0
            have hcz34_1 := bc_ BK208.out 1
            have hcz34_2 := bc_ BK208.out 2
            have hcz34_3 := bc_ BK208.out 3
            have hcz34_4 := bc_ BK208.out 4
            have hcz34_5 := bc_ BK208.out 5
            have hfz34_0 := blk_frozen BK208.out 0
            have hfz34_1 := blk_frozen BK208.out 1
            have hfz34_2 := blk_frozen BK208.out 2
            have hfz34_3 := blk_frozen BK208.out 3
            have hfz34_4 := blk_frozen BK208.out 4
            have hfz34_5 := blk_frozen BK208.out 5
            have p226 : 0 ≤ (x5_2 : Int) := of_decide_eq_true tq_3
            have q226 : x5_2 < (l0_5.length : Int) := of_decide_eq_true tq_3
            obtain ⟨ad226, e226, hx226_0, hx226_1⟩ := at_T59 HR0_5.out x5_2 p226 q226
            cases e226
            replace hx226_0 := hx_ HB.out hx226_0
            replace hx226_1 := hx_ HB.out hx226_1
            replace p226 := eq_true p226
            replace q226 := eq_true q226
            go_wp2_with (first | ((with_reducible refine gate_callee (f := 151) rfl ?_); refine goesL_ (some 55) rfl rfl Try.func151 (by kernel_rfl) rfl #[.agg #[.int .i64 ((rd_T59 l0_5 x5_2).f0), .string ((rd_T59 l0_5 x5_2).f1)]] rfl tq_1 ?_; (with_reducible refine (spec_EntryWord.calls k2 ((rd_T59 l0_5 x5_2).f0) ((rd_T59 l0_5 x5_2).f1) t227 _ A32.out).mono ?_); rintro e w35 ⟨rfl, hb⟩; refine ⟨_, rfl, ?_⟩; have z_ := p_ (Kd.R_below tq_17 hb) <| p_ (blk_below tq_21 hb) <| a_ (below_step tq_9 hb); clear HO_3 BK208 HB; obtain ⟨HO_3, BK208, HB⟩ := z_; (try clear hb); (try clear hb2); (try clear hk); (try clear hi)) | ((with_reducible refine gate_builtin (b := .append) (xs := #[.tmp 49, .tmp 56]) rfl ?_); at_builtin; refine Kd.R_append Kd.string (w0 := w) w.heap.size rfl (.tmp 49) (.tmp 56) 96 9 (.string ⟨#[]⟩) 16 rfl Try.underlying96 info9 rfl (by decide) (by omega) u3 x3_2 t227 [.string t227] (fun _ => True) (fun _ => False) rfl rfl ?aP (fun _ hk => hk.elim) ?aF ?aO ?aB ?aS ?aL ?_; (case aP => exact rfl); (case aB => exact tq_9); (case aF => exact (fun _ _ => trivial)); (case aO => exact tq_17); (case aS => exact (below_size tq_9)); (case aL => have := LMc33.out; omega); intro v229 w36 ho hb hg hat; rw [← Ny228.out] at ho; have z_ := p_ (blk_grown (g := gb208) (o := .cells #[.int .i64 a0_0, .int .i64 a0_1, .int .i64 a0_2, .string a0_3, .slice A0_4 l0_4.length c0_4, .slice (some ad226) l0_5.length c0_5] 49 (0, 0)) tq_21 hg (Kd.R_ne HO_3.out BK208.out (by decide))) <| p_ (hb) <| a_ (ho); clear BK208 HB HO_3; obtain ⟨BK208, HB, HO230⟩ := z_; clear ho hb hg hat))
            go_roundg k2
            case measure => have := HK1.out; have := HK2.out; omega
            case rel => exact ⟨(y228), (wrap64 (x5_2 + 1)), tq_8, H', ⟨(by have := HK1.out; have := HK2.out; omega)⟩, ⟨(by (with_reducible repeat (first | apply Kd.R_alloc | apply Kd.R_drewN | apply Kd.R_drew)); exact HO230.out)⟩, ⟨tq_21⟩, ⟨tq_9⟩⟩
           ·rw [if_neg c33] at H
            exact absurd H (by simp)
          ·rw [if_neg c31] at H
           exact absurd H (by simp)
         ·rw [if_neg c30] at H
          have c30b0 : decide (x5_2 < (l0_5.length : Int)) = false := decide_eq_false c30
          clear c30
          have H' := Aside0.mk H
          clear H
          have hcz37_0 := bc_ BK208.out 0
          have hcz37_1 := bc_ BK208.out 1
          have hcz37_2 := bc_ BK208.out 2
          have hcz37_3 := bc_ BK208.out 3
          have hcz37_4 := bc_ BK208.out 4
          have hcz37_5 := bc_ BK208.out 5
          have hfz37_0 := blk_frozen BK208.out 0
          have hfz37_1 := blk_frozen BK208.out 1
          have hfz37_2 := blk_frozen BK208.out 2
          have hfz37_3 := blk_frozen BK208.out 3
          have hfz37_4 := blk_frozen BK208.out 4
          have hfz37_5 := blk_frozen BK208.out 5
          go_wp2
          go_loopg [3] k2 (fun kq v3 w' => ∃ (x3_3 : List ByteArray), Aside0 (spec_InodeWords.l2 kq x3_3 = some r) ∧ Aside0 (kq ≤ k2) ∧ Aside0 (Kd.R Kd.string 9 w' w.heap.size (fun _ => True) v3 x3_3) ∧ Aside0 (w'.heap[gb208]? = some (.cells #[.int .i64 a0_0, .int .i64 a0_1, .int .i64 a0_2, .string a0_3, (.slice A0_4 l0_4.length c0_4), (.slice A0_5 l0_5.length c0_5)] 49 (0, 0))) ∧ Aside0 (Below w.heap.size w w'))
          case atStart => exact ⟨(x3_2), H', ⟨Nat.le_refl _⟩, ⟨tq_17⟩, ⟨tq_21⟩, ⟨tq_9⟩⟩
          case round =>
           clear H'
           try clear c1
           try clear c2
           try clear p2
           try clear q2
           try clear hx2
           try clear c3
           try clear c6
           try clear c6b0
           try clear c6b1
           try clear c6b2
           try clear p6
           try clear c8
           try clear c8b0
           try clear c8b1
           try clear c8b2
           try clear c14
           try clear c15
           try clear c22
           try clear c22b0
           try clear p22
           try clear q22
           try clear hx22
           try clear c23
           try clear c23b0
           try clear c25
           try clear c30
           try clear c30b0
           try clear c31
           try clear c31b0
           try clear c33
           try clear hcz12_0 hcz12_1 hcz12_2 hcz12_3 hcz12_4 hcz12_5
           try clear hcz26_0 hcz26_1 hcz26_2 hcz26_3 hcz26_4 hcz26_5
           try clear hcz29_0 hcz29_1 hcz29_2 hcz29_3 hcz29_4 hcz29_5
           try clear hcz34_0 hcz34_1 hcz34_2 hcz34_3 hcz34_4 hcz34_5
           try clear hcz37_0 hcz37_1 hcz37_2 hcz37_3 hcz37_4 hcz37_5
           try clear hfz12_0 hfz12_1 hfz12_2 hfz12_3 hfz12_4 hfz12_5
           try clear hfz26_0 hfz26_1 hfz26_2 hfz26_3 hfz26_4 hfz26_5
           try clear hfz29_0 hfz29_1 hfz29_2 hfz29_3 hfz29_4 hfz29_5
           try clear hfz34_0 hfz34_1 hfz34_2 hfz34_3 hfz34_4 hfz34_5
           try clear hfz37_0 hfz37_1 hfz37_2 hfz37_3 hfz37_4 hfz37_5
           try clear hx221_0
           try clear hx221_1
           try clear hx221_2
           try clear hx226_0
           try clear hx226_1
           try clear p2
           try clear p22
           try clear p221
           try clear p226
           try clear p6
           try clear q2
           try clear q22
           try clear q221
           try clear q226
           obtain ⟨x3_3, HA, HK3, HO_3, BK208, HB⟩ := hrel
           cases gk with
           | zero => exact absurd HA.out (by simp [spec_InodeWords.l2])
           | succ k3 =>
            have H := HA.out
            clear HA
            simp only [spec_InodeWords.l2] at H
            by_cases c38 : (x3_3.length : Int) < 8
            ·rw [if_pos c38] at H
             have c38b0 : decide ((x3_3.length : Int) < 8) = true := decide_eq_true c38
             have c38b1 : decide (x3_3.length < 8) = true := decide_eq_true (by omega)
             clear c38
             replace H := Option.bind_eq_some_iff.mp H
             obtain ⟨t231, A390, H⟩ := H
             replace H : (if x3_3.length < 8796093022208 then (spec_InodeWords.l2 k3 (x3_3 ++ [t231])) else (none)) = some r := H
             have A39 := Aside0.mk A390
             clear A390
             by_cases c40 : x3_3.length < 8796093022208
             ·rw [if_pos c40] at H
              have LMc40 := Aside0.mk c40
              clear c40
              obtain ⟨y232, hy232⟩ : ∃ y_ : List ByteArray, y_ = (x3_3 ++ [t231]) := ⟨_, rfl⟩
              replace H : (spec_InodeWords.l2 k3 y232) = some r := by first | (rw [hy232]; with_reducible exact H) | (have H2_ := (Option.bind_some _ _).symm.trans H; rw [hy232]; with_reducible exact H2_) | (have H2_ := (Option.bind_some _ _).symm.trans H; with_reducible exact H2_) | with_reducible exact H | (rw [hy232]; exact H) | exact H
              have Ny232 := Aside0.mk hy232
              clear hy232
              have H' := Aside0.mk H
              clear H
              obtain ⟨Ao41, co41, eo41⟩ := Kd.R_slice HO_3.out
              subst eo41
              go_wp2_with (first | ((with_reducible refine gate_callee (f := 152) rfl ?_); refine goesL_ (some 62) rfl rfl Try.func152 (by kernel_rfl) rfl #[.int .i64 8] rfl tq_1 ?_; (with_reducible refine (spec_ZeroText.calls k3 8 t231 _ A39.out).mono ?_); rintro e w42 ⟨rfl, hb⟩; refine ⟨_, rfl, ?_⟩; have z_ := p_ (Kd.R_below tq_17 hb) <| p_ (blk_below tq_21 hb) <| a_ (below_step tq_9 hb); clear HO_3 BK208 HB; obtain ⟨HO_3, BK208, HB⟩ := z_; (try clear hb); (try clear hb2); (try clear hk); (try clear hi)) | ((with_reducible refine gate_builtin (b := .append) (xs := #[.tmp 61, .tmp 63]) rfl ?_); at_builtin; refine Kd.R_append Kd.string (w0 := w) w.heap.size rfl (.tmp 61) (.tmp 63) 96 9 (.string ⟨#[]⟩) 16 rfl Try.underlying96 info9 rfl (by decide) (by omega) (.slice Ao41 x3_3.length co41) x3_3 t231 [.string t231] (fun _ => True) (fun _ => False) rfl rfl ?aP (fun _ hk => hk.elim) ?aF ?aO ?aB ?aS ?aL ?_; (case aP => exact rfl); (case aB => exact tq_9); (case aF => exact (fun _ _ => trivial)); (case aO => exact tq_17); (case aS => exact (below_size tq_9)); (case aL => have := LMc40.out; omega); intro v233 w43 ho hb hg hat; rw [← Ny232.out] at ho; have z_ := p_ (blk_grown (g := gb208) (o := .cells #[.int .i64 a0_0, .int .i64 a0_1, .int .i64 a0_2, .string a0_3, .slice A0_4 l0_4.length c0_4, .slice A0_5 l0_5.length c0_5] 49 (0, 0)) tq_21 hg (Kd.R_ne HO_3.out BK208.out (by decide))) <| p_ (hb) <| a_ (ho); clear BK208 HB HO_3; obtain ⟨BK208, HB, HO234⟩ := z_; clear ho hb hg hat))
              go_roundg k3
              case measure => have := HK1.out; have := HK2.out; have := HK3.out; omega
              case rel => exact ⟨(y232), H', ⟨(by have := HK1.out; have := HK2.out; have := HK3.out; omega)⟩, ⟨(by (with_reducible repeat (first | apply Kd.R_alloc | apply Kd.R_drewN | apply Kd.R_drew)); exact HO234.out)⟩, ⟨tq_21⟩, ⟨tq_9⟩⟩
             ·rw [if_neg c40] at H
              exact absurd H (by simp)
            ·rw [if_neg c38] at H
             have c38b0 : decide ((x3_3.length : Int) < 8) = false := decide_eq_false c38
             have c38b1 : decide (x3_3.length < 8) = false := decide_eq_false (by omega)
             clear c38
             obtain rfl := Option.some.inj H
             obtain ⟨Ao44, co44, eo44⟩ := Kd.R_slice HO_3.out
             subst eo44
             go_wp2
             go_ret
             exact ⟨_, tq_2, tq_17, tq_9⟩
   ·rw [if_neg c8] at H
    exact absurd H (by simp)
  ·rw [if_neg c6] at H
   exact absurd H (by simp)
 ·replace c3 := Bool.eq_false_iff.mpr c3
  subst c3
  have H1 : (some (([] : List ByteArray))) = some r := by rw [if_neg (show ¬ (false = true) by decide)] at H; exact H
  clear H
  have H := H1
  clear H1
  obtain ⟨y210, hy210⟩ : ∃ y_ : List ByteArray, y_ = (([] : List ByteArray)) := ⟨_, rfl⟩
  replace H : (some y210) = some r := by first | (rw [hy210]; with_reducible exact H) | (have H2_ := (Option.bind_some _ _).symm.trans H; rw [hy210]; with_reducible exact H2_) | (have H2_ := (Option.bind_some _ _).symm.trans H; with_reducible exact H2_) | with_reducible exact H | (rw [hy210]; exact H) | exact H
  have Ny210 := Aside0.mk hy210
  clear hy210
  obtain rfl := Option.some.inj H
  go_enter Try.func68, Try.ntmps68
  go_wp2_with (first | ((with_reducible refine gate_dst (N := 1) rfl ?_); refine box_event ?hg (N := 1) ?hd (cs := #[.int .i64 a0_0, .int .i64 a0_1, .int .i64 a0_2, .string a0_3, .slice A0_4 l0_4.length c0_4, .slice A0_5 l0_5.length c0_5]) (t := 49) ?hr ?_; (case hd => rfl); (case hg => rfl); (case hr => first | (go_simp; done) | (go_simp; rfl)); intro gb208 hg w45 hbox hb; have z_ := p_ (below_step tq_0 hb) <| p_ (hbox) <| p_ (gb_ hg tq_0) <| a_ (gb_ hg tq_0); clear HB; obtain ⟨HB, BK208, GW208, GE208⟩ := z_; clear hb hbox hg; have hcz46_0 := bc_ BK208.out 0; have hcz46_1 := bc_ BK208.out 1; have hcz46_2 := bc_ BK208.out 2; have hcz46_3 := bc_ BK208.out 3; have hcz46_4 := bc_ BK208.out 4; have hcz46_5 := bc_ BK208.out 5; have hfz46_0 := blk_frozen BK208.out 0; have hfz46_1 := blk_frozen BK208.out 1; have hfz46_2 := blk_frozen BK208.out 2; have hfz46_3 := blk_frozen BK208.out 3; have hfz46_4 := blk_frozen BK208.out 4; have hfz46_5 := blk_frozen BK208.out 5) | ((with_reducible refine gate_callee (f := 147) rfl ?_); refine goesL_ (some 7) rfl rfl Try.func147 (by kernel_rfl) rfl #[.agg #[.int .i64 a0_0, .int .i64 a0_1, .int .i64 a0_2, .string a0_3, .slice A0_4 l0_4.length c0_4, .slice A0_5 l0_5.length c0_5]] rfl tq_1 ?_; (with_reducible refine (spec_InodeOk.calls k a0_0 a0_1 a0_2 a0_3 _ _ l0_4 _ _ l0_5 false _ ?side1 ?side2 ?side3 ?side4 A2.out).mono ?_); (case side1 => exact tq_18); (case side2 => exact HC0_4.out); (case side3 => exact tq_26); (case side4 => exact HC0_5.out); rintro e w47 ⟨rfl, hb⟩; refine ⟨_, rfl, ?_⟩; have z_ := p_ (blk_below tq_21 hb) <| a_ (below_step tq_9 hb); clear BK208 HB; obtain ⟨BK208, HB⟩ := z_; (try clear hb); (try clear hb2); (try clear hk); (try clear hi)) | ((with_reducible refine gate_dst (N := 9) rfl ?_); refine Kd.R_lit Kd.string _ 9 ?hg (N := 9) ?hd (xs := ([] : List ByteArray)) (inner := []) (ok := fun _ => True) (okp := fun _ => True) ?hr ?hp (fun _ hk => hk) trivial (Below.refl _ _) (Nat.le_refl _) (by simp) ?_; (case hd => rfl); (case hg => rfl); (case hr => first | (go_simp; done) | (go_simp; rfl)); (case hp => exact (Reps.none _ _)); intro v211 w48 ho49 hb hg_ hnew_; clear hg_ hnew_; (first | rw [← Ny210.out] at ho49 | (simp only [Int.reduceToNat] at ho49; rw [← Ny210.out] at ho49)); have z_ := p_ (Kd.R_lower ho49 (below_size tq_9)) <| p_ (blk_below tq_21 hb) <| a_ (below_step tq_9 hb); clear BK208 HB; obtain ⟨HO212, BK208, HB⟩ := z_; clear hb ho49))
  go_ret
  exact ⟨_, tq_2, (by (with_reducible repeat (first | apply Kd.R_alloc | apply Kd.R_drewN | apply Kd.R_drew)); exact HO212.out), tq_9⟩

/-! ### impl_within: function 140 -/
def impl_within.f (a0 : Int) (a1 : Int) (a2 : Int) : Option (Bool) := if a0 ≥ a1 then (some (decide (a0 ≤ a2))) else (some false)
set_option maxHeartbeats 8000000 in
set_option maxRecDepth 100000 in
theorem impl_within.calls (a0 : Int) (a1 : Int) (a2 : Int) (r : Bool) (w : World) (h : impl_within.f a0 a1 a2 = some r) :
  Calls Try.prog 140 #[.int .i64 a0, .int .i64 a1, .int .i64 a2] w fun e w' => e = .returned (.bool r) ∧ Drawn0 w w' := by
 have H : (if a0 ≥ a1 then (some (decide (a0 ≤ a2))) else (some false)) = some r := h
 clear h
 by_cases c4 : a0 ≥ a1
 ·rw [if_pos c4] at H
  have c4b0 : decide (a1 ≤ a0) = true := decide_eq_true c4
  clear c4
  obtain rfl := Option.some.inj H
  go_enter Try.func140, Try.ntmps140
  go_wp2
  go_ret
  exact ⟨tq_8, tq_33⟩
 ·rw [if_neg c4] at H
  have c4b0 : decide (a1 ≤ a0) = false := decide_eq_false c4
  clear c4
  obtain rfl := Option.some.inj H
  go_enter Try.func140, Try.ntmps140
  go_wp2
  go_ret
  exact ⟨tq_8, tq_33⟩

end Go.Proofs.Ytcdnfkoahajhhaa.PFnExactInodeWords
