/- Contracts of Go functions, written by a program of ours over the print of the kit: each says that the call returns what the Lean function beside it computes. Conditions: as each theorem states them. -/
import Derived.Test.YtleoknilacjakaaGreatPkFnExactPartWrites
import Derived.Test.YtleoknilacjakaaGreatPFnExactPartWritesx0
import Derived.Test.YtleoknilacjakaaGreatPFnExactPartWritesx11
import Derived.Test.YtleoknilacjakaaGreatPFnExactPartWritesx13
import Derived.Test.YtleoknilacjakaaGreatPFnExactPartWritesx14
namespace Go.Proofs.YtleoknilacjakaaGreat.PFnExactPartWrites
open Go.RowKit Go.Proofs.YtleoknilacjakaaGreatW.PrintWords Go.Proofs.YtleoknilacjakaaGreatW.PrintLast Go.Proofs.YtleoknilacjakaaGreatW.PrintMore
attribute [local go_sem] max2_int min2_int max_two min_two max_three min_three max_four min_four   -- for this text's walks alone
set_option linter.unusedVariables false
set_option linter.unusedSimpArgs false

/-! ### impl_InodeOk: function 76 -/
def impl_InodeOk.f (k : Nat) (a0_0 : Int) (a0_1 : Int) (a0_2 : Int) (a0_3 : ByteArray) (l0_4 : List (S89)) (l0_5 : List (S72)) : Option (Bool) := (impl_within.f a0_2 0 65535).bind fun t411 => (if t411 = true then (if a0_0 = 0 then (if a0_1 = 0 then (if a0_3.toList = ([] : List UInt8) then (if (l0_4.length : Int) = 0 then (some ((l0_5.length : Int) == 0)) else (some false)) else (some false)) else (some false)) else (if a0_0 = 1 then ((impl_isFile.f k a0_0 a0_1 a0_2 a0_3 l0_4 l0_5).bind fun t412 => (some t412)) else (if a0_0 = 2 then ((impl_isDir.f k a0_0 a0_1 a0_2 a0_3 l0_4 l0_5).bind fun t413 => (some t413)) else (some false)))) else (some false))
set_option maxHeartbeats 8000000 in
set_option maxRecDepth 100000 in
theorem impl_InodeOk.calls (k : Nat) (a6 : Int) (a9 : Int) (a8 : Int) (aa : ByteArray) (ab : Option Addr) (ac : Nat) (l0_4 : List (S89)) (ae : Option Addr) (af : Nat) (a7 : List (S72)) (r : Bool) (w : World) (ah : Kd.C k89 w ab l0_4.length l0_4) (ai : l0_4.length ≤ ac) (aj : Kd.C k72 w ae a7.length a7) (ak : a7.length ≤ af) (h : impl_InodeOk.f k a6 a9 a8 aa l0_4 a7 = some r) :
  Calls Tryz.prog 76 #[.agg #[.int .i64 a6, .int .i64 a9, .int .i64 a8, .string aa, .slice ab l0_4.length ac, .slice ae a7.length af]] w fun e w' => e = .returned (.bool r) ∧ Below w.heap.size w w' := by
 have hu69 := Tryz.underlying69
 have HR0_4 := Aside0.mk ah
 have al := Aside0.mk ai
 clear ah ai
 have HR0_5 := Aside0.mk aj
 have am := Aside0.mk ak
 clear aj ak
 have HB := Aside0.mk (Below.refl w.heap.size w)
 unfold impl_InodeOk.f at h
 have H := h
 clear h
 obtain ⟨au, A2, H⟩ := bd_ H
 have b8 := Aside0.mk H
 clear H
 go_enter Tryz.func76, Tryz.ntmps76
 go_upto_if 6 with (first | ((with_reducible refine gate_dst (N := 1) rfl ?_); (try (refine gate_guard (by rfl) ?_; dsimp only)); refine be_ 1 (cs := #[.int .i64 a6, .int .i64 a9, .int .i64 a8, .string aa, .slice ab l0_4.length ac, .slice ae a7.length af]) 69 ?_; intro b9 hg w4 hbox hb; have z_ := bx0_ th_ hb hbox hg; clear HB; obtain ⟨HB, a5, ba, bb⟩ := z_; clear hb hbox hg; have be := bb6_ a5.out) | ((with_reducible refine gate_callee (f := 49) rfl ?_); refine goesL_ (some 5) rfl rfl Tryz.func49 (by kernel_rfl) rfl #[.int .i64 a8, .int .i64 0, .int .i64 65535] rfl tq_0 ?_; (with_reducible refine (impl_within.calls a8 0 65535 au _ A2.out).mono ?_); rintro e w' ⟨rfl, ⟨nd, rfl⟩⟩; refine ⟨_, rfl, ?_⟩))
 (try simp only [Act.put, List.setIfInBounds_toArray, List.set_cons_zero, List.set_cons_succ])
 (try clear be)
 have H := b8.out
 clear b8
 by_cases c6 : au = true
 rotate_left
 ·replace c6 := Bool.eq_false_iff.mpr c6
  subst c6
  rw [if_neg nf_] at H
  obtain rfl := Option.some.inj H
  go_wp2
  go_ret
  exact ⟨tq_1, th_⟩
 subst c6
 rw [if_pos rfl] at H
 have bc := Aside0.mk H
 clear H
 have bf := bb6_ a5.out
 go_upto_if 9 with (fail)
 (try clear bf)
 have H := bc.out
 clear bc
 by_cases c9 : a6 = 0
 ·rw [if_pos c9] at H
  have ag := beq_iff_eq.mpr c9
  have b5 := bne_eq_false_iff_eq.mpr c9
  clear c9
  (first | rw [ag] | (simp only [i64_w, i32_w]; rw [ag]) | skip)
  by_cases ao : a9 = 0
  rotate_left
  ·rw [if_neg ao] at H
   have av := beq_eq_false_iff_ne.mpr ao
   have aw := bne_iff_ne.mpr ao
   obtain rfl := Option.some.inj H
   have bg := bb6_ a5.out
   go_wp2
   go_ret
   exact ⟨tq_1, th_⟩
  rw [if_pos ao] at H
  have av := beq_iff_eq.mpr ao
  have aw := bne_eq_false_iff_eq.mpr ao
  clear ao
  by_cases ap : aa.toList = ([] : List UInt8)
  rotate_left
  ·rw [if_neg ap] at H
   have ax := beq_eq_false_iff_ne.mpr ap
   have ay := bne_iff_ne.mpr ap
   obtain rfl := Option.some.inj H
   have bh := bb6_ a5.out
   go_wp2
   go_ret
   exact ⟨tq_1, th_⟩
  rw [if_pos ap] at H
  have ax := beq_iff_eq.mpr ap
  have ay := bne_eq_false_iff_eq.mpr ap
  clear ap
  by_cases an : (l0_4.length : Int) = 0
  ·rw [if_pos an] at H
   have az := beq_iff_eq.mpr an
   have b0 := bne_eq_false_iff_eq.mpr an
   clear an
   obtain rfl := Option.some.inj H
   have bi := bb6_ a5.out
   go_wp2
   go_ret
   exact ⟨tq_1, th_⟩
  rw [if_neg an] at H
  have az := beq_eq_false_iff_ne.mpr an
  have b0 := bne_iff_ne.mpr an
  have bd : ¬ (l0_4 = []) := fun h_ => an (by rw [h_]; rfl)
  obtain rfl := Option.some.inj H
  have bj := bb6_ a5.out
  go_wp2
  go_ret
  exact ⟨tq_1, th_⟩
 rw [if_neg c9] at H
 have ag := beq_eq_false_iff_ne.mpr c9
 have b5 := bne_iff_ne.mpr c9
 (first | rw [ag] | (simp only [i64_w, i32_w]; rw [ag]) | skip)
 by_cases aq : a6 = 1
 ·rw [if_pos aq] at H
  have b1 := beq_iff_eq.mpr aq
  have b2 := bne_eq_false_iff_eq.mpr aq
  clear aq
  obtain ⟨b6, bl, H⟩ := bd_ H
  obtain rfl := Option.some.inj H
  have bm := bb6_ a5.out
  go_wp2_with (first | ((with_reducible refine gate_callee (f := 97) rfl ?_); refine goesL_ (some 34) rfl rfl Tryz.func97 (by kernel_rfl) rfl #[.agg #[.int .i64 a6, .int .i64 a9, .int .i64 a8, .string aa, .slice ab l0_4.length ac, .slice ae a7.length af]] rfl tq_0 ?_; (with_reducible refine (impl_isFile.calls k a6 a9 a8 aa _ _ l0_4 _ _ a7 b6 _ ?side1 ?side2 ?side3 ?side4 bl.out).mono ?_); (case side1 => exact tq_44); (case side2 => exact al.out); (case side3 => exact tq_43); (case side4 => exact am.out); rintro e bp ⟨rfl, hb⟩; refine ⟨_, rfl, ?_⟩; have z_ := bw1_ (kb_ a5) th_ hb; clear a5 HB; obtain ⟨a5, HB⟩ := z_; (try clear hb)))
  go_ret
  exact ⟨tq_1, th_⟩
 rw [if_neg aq] at H
 have b1 := beq_eq_false_iff_ne.mpr aq
 have b2 := bne_iff_ne.mpr aq
 by_cases ar : a6 = 2
 rotate_left
 ·rw [if_neg ar] at H
  have b3 := beq_eq_false_iff_ne.mpr ar
  have b4 := bne_iff_ne.mpr ar
  obtain rfl := Option.some.inj H
  go_wp2
  go_ret
  exact ⟨tq_1, th_⟩
 rw [if_pos ar] at H
 have b3 := beq_iff_eq.mpr ar
 have b4 := bne_eq_false_iff_eq.mpr ar
 clear ar
 obtain ⟨b7, bn, H⟩ := bd_ H
 obtain rfl := Option.some.inj H
 have bo := bb6_ a5.out
 go_wp2_with (first | ((with_reducible refine gate_callee (f := 98) rfl ?_); refine goesL_ (some 38) rfl rfl Tryz.func98 (by kernel_rfl) rfl #[.agg #[.int .i64 a6, .int .i64 a9, .int .i64 a8, .string aa, .slice ab l0_4.length ac, .slice ae a7.length af]] rfl tq_0 ?_; (with_reducible refine (impl_isDir.calls k a6 a9 a8 aa _ _ l0_4 _ _ a7 b7 _ ?side1 ?side2 ?side3 ?side4 bn.out).mono ?_); (case side1 => exact tq_44); (case side2 => exact al.out); (case side3 => exact tq_43); (case side4 => exact am.out); rintro e bq ⟨rfl, hb⟩; refine ⟨_, rfl, ?_⟩; have z_ := bw1_ (kb_ a5) th_ hb; clear a5 HB; obtain ⟨a5, HB⟩ := z_; (try clear hb)))
 go_ret
 exact ⟨tq_1, th_⟩

/-! ### impl_areInodes_1: function 78 -/
def clo78.p (c0_0 : Int) (l0_1 : List Int) (l0_2 : List (S69)) (x : S72) : Bool := decide (x.f0 ≥ (l0_2.length : Int))
theorem clo78 (x : S72) (gb0 : Nat) (c0_0 : Int) (A0_1 : Option Addr) (n0_1 : Nat) (l0_1 : List Int) (A0_2 : Option Addr) (n0_2 : Nat) (l0_2 : List (S69)) (W : World) (hcl0 : W.heap[gb0]? = some (.cells #[.int .i64 c0_0, .slice A0_1 l0_1.length n0_1, .slice A0_2 l0_2.length n0_2] 35 (0, 0))) : Calls Tryz.prog 78 (#[.agg #[.int .i64 x.f0, .string x.f1]] ++ #[.pointer (some ⟨gb0, 0, none⟩)]) W fun e w' => e = .returned (.bool (clo78.p c0_0 l0_1 l0_2 x)) ∧ Below W.heap.size W w' := by
 have hu35 := Tryz.underlying35
 have hu72 := Tryz.underlying72
 have hb0 : gb0 < W.heap.size := blk_lt hcl0
 have h0_0 : W.cell? ⟨gb0, 0, none⟩ = some (.int .i64 c0_0) := (blk_cell hcl0 0).trans rfl
 have h0_1 : W.cell? ⟨gb0, 1, none⟩ = some (.slice A0_1 l0_1.length n0_1) := (blk_cell hcl0 1).trans rfl
 have h0_2 : W.cell? ⟨gb0, 2, none⟩ = some (.slice A0_2 l0_2.length n0_2) := (blk_cell hcl0 2).trans rfl
 clear hcl0
 show Calls Tryz.prog 78 #[.agg #[.int .i64 x.f0, .string x.f1], .pointer (some ⟨gb0, 0, none⟩)] W _
 go_enter Tryz.func78, Tryz.ntmps78
 go_wp2
 go_ret
 exact ⟨(by unfold clo78.p; first | rfl | (simp; done)), (by repeat (first | (with_reducible first | exact Below.refl _ _ | apply below_alloc) | exact Below.refl ..))⟩

/-! ### slices_IndexFunc_Entry: function 99 -/
def lq99_ren : Go.Shelf.Ren := ⟨fun | 6 => 99 | n => n, fun | 22 => 67 | 23 => 72 | 25 => 99 | 3 => 3 | 0 => 0 | 4 => 4 | n => n, fun | n => n⟩
theorem lq99 : Go.Proofs.SlLaysH0.n6 Tryz.prog lq99_ren := {
 mixed := by kernel_rfl
 f6 := ⟨Tryz.f99.name, (by decide), Tryz.func99.trans (congrArg some (by kernel_rfl))⟩
 t0 := Tryz.underlying0
 a0 := Tryz.isAgg0
 z0 := Tryz.sizeOf0
 v0 := Tryz.zeroValue0
 t3 := Tryz.underlying3
 a3 := Tryz.isAgg3
 z3 := Tryz.sizeOf3
 v3 := Tryz.zeroValue3
 t4 := Tryz.underlying4
 a4 := Tryz.isAgg4
 z4 := Tryz.sizeOf4
 v4 := Tryz.zeroValue4
 t22 := Tryz.underlying67
 a22 := Tryz.isAgg67
 z22 := Tryz.sizeOf67
 v22 := Tryz.zeroValue67
 t25 := Tryz.underlying99
 a25 := Tryz.isAgg99
 z25 := Tryz.sizeOf99
 v25 := Tryz.zeroValue99 }
theorem idx99_nil (a : Option Addr) (c : Nat) (fv : Value) (w : World) : Calls Tryz.prog 99 #[.slice a 0 c, fv] w fun e w' => e = .returned (.int .i64 (-1)) ∧ w' = w := by
 go_enter Tryz.func99, Tryz.ntmps99
 go_wp2
 go_loopg [5, 8] 0 (fun gg _ s8 wr => s8 = .int .i64 0 ∧ wr = w)
 case atStart => exact ⟨rfl, rfl⟩
 case round =>
 obtain ⟨rfl, rfl⟩ := hrel
 go_wp2
 go_ret
 exact ⟨rfl, rfl⟩
instance inh72 : Inhabited S72 := ⟨z72⟩
def enc72 (x : S72) : List Value := [.int .i64 x.f0, .string x.f1]
theorem idx99 (p : S72 → Bool) (g : Nat) (lb : Array Value) (eg : ∀ args w, (callFunc g args).run Tryz.prog w = .ok (.enter g args) w) (A0 : Option Addr) (c0 : Nat) (l0 : List S72) (w : World) (hr0 : Kd.C k72 w A0 l0.length l0) (hbig : l0.length ≤ 9223372036854775807)
  (hp : PredBelow Tryz.prog g lb (fun x => .agg (enc72 x).toArray) p w) :
  Calls Tryz.prog 99 #[.slice A0 l0.length c0, .func (.func g) #[] lb] w fun e w' => e = .returned (.int .i64 (Lib.idxBy (fun _ y => p y) l0 default)) ∧ Below w.heap.size w w' := by
 rcases Nat.eq_zero_or_pos l0.length with hz | hz
 ·have hn := List.eq_nil_of_length_eq_zero hz
  subst hn
  refine (idx99_nil A0 c0 _ w).mono ?_
  rintro e w' ⟨rfl, rfl⟩
  exact ⟨rfl, Below.refl _ _⟩
 ·obtain ⟨ad, rfl, hcell⟩ := hr0.2.2 hz
  have cells : ∀ (j : Nat) x, l0[j]? = some x → ∀ i v, (enc72 x)[i]? = some v → w.cell? (ad.add (j * 2 + i)) = some v := by
   intro j x hx i v hv
   obtain ⟨c, _, hk, hc⟩ := hcell j x hx
   have hk2 := k72_open hk
   subst hk2
   exact hc i _ hv
  have h0 := cells 0 _ (List.getElem?_eq_getElem hz) 0 _ rfl
  have hsp : ad.spot = none := by
   have h0' : w.cell? ad = some _ := h0
   unfold World.cell? at h0'
   split at h0'
   ·split at h0'
    ·cases h0'
    ·simpa using ‹¬ ad.spot.isSome = true›
   ·cases h0'
  obtain ⟨bk, o, sp⟩ := ad
  cases hsp
  have := AnyQ.slices_IndexFunc lq99 2 Tryz.isAgg72 Tryz.sizeOf72 enc72 (fun _ => rfl) p g lb eg bk o l0.length c0 l0 w hp (Nat.le_refl _) hbig (World.block_lt_of_cell? w _ h0) (fun j hj i v hv => by
   have := cells j _ (List.getElem?_eq_getElem hj) i v (by rw [← getElem!_pos l0 j hj]; exact hv)
   rw [Addr.add_lit] at this
   rw [Nat.add_assoc]
   exact this)
  rw [List.take_length] at this
  exact this
def slices_IndexFunc_Entry_g78.f (l0 : List S72) (c0_0 : Int) (l0_1 : List Int) (l0_2 : List (S69)) : Option (Int) := if l0.length ≤ 9223372036854775807 then some (Lib.idxBy (fun _ y => clo78.p c0_0 l0_1 l0_2 y) l0 z72) else none
theorem slices_IndexFunc_Entry_g78.calls (A0 : Option Addr) (c0 : Nat) (l0 : List S72) (ac : Nat) (a5 : Int) (a8 : Option Addr) (a9 : Nat) (a6 : List Int) (aa : Option Addr) (ab : Nat) (a7 : List (S69)) (r : Int) (w : World) (hr0 : Kd.C k72 w A0 l0.length l0) (hc0 : l0.length ≤ c0) (ae : w.heap[ac]? = some (.cells #[.int .i64 a5, .slice a8 a6.length a9, .slice aa a7.length ab] 35 (0, 0))) (h : slices_IndexFunc_Entry_g78.f l0 a5 a6 a7 = some r) :
  Calls Tryz.prog 99 #[.slice A0 l0.length c0, .func (.func 78) #[] #[.pointer (some ⟨ac, 0, none⟩)]] w fun e w' => e = .returned (.int .i64 r) ∧ Below w.heap.size w w' := by
 unfold slices_IndexFunc_Entry_g78.f at h
 split at h
 case isFalse => cases h
 case isTrue hl =>
 obtain rfl := Option.some.inj h
 exact idx99 (fun y => clo78.p a5 a6 a7 y) 78 #[.pointer (some ⟨ac, 0, none⟩)] (fun args W => enters_ Tryz.func78 rfl rfl args W) A0 c0 l0 w hr0 hl (fun W x hW => (clo78 x ac a5 a8 a9 a6 aa ab a7 W (blk_below ae hW)).mono fun e w' hq => ⟨hq.1, hW.trans (hq.2.mono hW.size)⟩)

/-! ### slices_ContainsFunc_Entry: function 77 -/
def slices_ContainsFunc_Entry_g78.f (l0 : List S72) (c0_0 : Int) (l0_1 : List Int) (l0_2 : List (S69)) : Option (Bool) := if l0.length ≤ 9223372036854775807 then some (decide (Lib.idxBy (fun _ y => clo78.p c0_0 l0_1 l0_2 y) l0 z72 ≥ 0)) else none
theorem slices_ContainsFunc_Entry_g78.calls (A0 : Option Addr) (c0 : Nat) (l0 : List S72) (ac : Nat) (a5 : Int) (a8 : Option Addr) (a9 : Nat) (a6 : List Int) (aa : Option Addr) (ab : Nat) (a7 : List (S69)) (r : Bool) (w : World) (hr0 : Kd.C k72 w A0 l0.length l0) (hc0 : l0.length ≤ c0) (ae : w.heap[ac]? = some (.cells #[.int .i64 a5, .slice a8 a6.length a9, .slice aa a7.length ab] 35 (0, 0))) (h : slices_ContainsFunc_Entry_g78.f l0 a5 a6 a7 = some r) :
  Calls Tryz.prog 77 #[.slice A0 l0.length c0, .func (.func 78) #[] #[.pointer (some ⟨ac, 0, none⟩)]] w fun e w' => e = .returned (.bool r) ∧ Below w.heap.size w w' := by
 unfold slices_ContainsFunc_Entry_g78.f at h
 split at h
 case isFalse => cases h
 case isTrue hl =>
 obtain rfl := Option.some.inj h
 have hI := slices_IndexFunc_Entry_g78.calls A0 c0 l0 ac a5 a8 a9 a6 aa ab a7 _ w hr0 hc0 ae (by unfold slices_IndexFunc_Entry_g78.f; rw [if_pos hl])
 go_enter Tryz.func77, Tryz.ntmps77
 go_wp2_with (go_at_call 99; refine hI.mono ?_; rintro e w1 ⟨rfl, hb⟩)
 go_ret
 exact ⟨rfl, hb⟩

/-! ### impl_above: function 109 -/
mutual
def impl_above.l0 : Nat → Int → List (S69) → Int → Int → Option (Int × ByteArray × Bool)
 | 0, _, _, _, _ => none
 | k + 1, x1, x12, x13, x14 => if x14 < x13 then (if 0 ≤ x14 then (if x14 < (x12.length : Int) then (if ((rd_T69 x12 x14).f0) = 2 then (impl_above.l1 k x1 x14 x12 x13 x14 ((rd_T69 x12 x14).f5) (((rd_T69 x12 x14).f5).length : Int) 0) else (impl_above.l0 k x1 x12 x13 (wrap64 (x14 + 1)))) else (none)) else (none)) else (some (0, (⟨#[]⟩ : ByteArray), false))
def impl_above.l1 : Nat → Int → Int → List (S69) → Int → Int → List (S72) → Int → Int → Option (Int × ByteArray × Bool)
 | 0, _, _, _, _, _, _, _, _ => none
 | k + 1, x1, x7, x12, x13, x14, x23, x24, x25 => if x25 < x24 then (if 0 ≤ x25 then (if x25 < (x23.length : Int) then (if ((rd_T72 x23 x25).f0) = x1 then (some (x7, (rd_T72 x23 x25).f1, true)) else (impl_above.l1 k x1 x7 x12 x13 x14 x23 x24 (wrap64 (x25 + 1)))) else (none)) else (none)) else (impl_above.l0 k x1 x12 x13 (wrap64 (x14 + 1)))
end
def impl_above.f (k : Nat) (a0_0 : Int) (l0_1 : List Int) (l0_2 : List (S69)) (a1 : Int) : Option (Int × ByteArray × Bool) := impl_above.l0 k a1 l0_2 (l0_2.length : Int) 0
set_option maxHeartbeats 8000000 in
set_option maxRecDepth 100000 in
theorem impl_above.calls (k : Nat) (b4 : Int) (b5 : Option Addr) (b6 : Nat) (aw : List Int) (b9 : Option Addr) (b7 : Nat) (af : List (S69)) (a1 : Int) (r1 : Int) (r2 : ByteArray) (r3 : Bool) (w : World) (bi : Kd.C (Kd.int .i64) w b5 aw.length aw) (bj : aw.length ≤ b6) (bl : Kd.C k69 w b9 af.length af) (bm : af.length ≤ b7) (h : impl_above.f k b4 aw af a1 = some (r1, r2, r3)) :
  Calls Tryz.prog 109 #[.agg #[.int .i64 b4, .slice b5 aw.length b6, .slice b9 af.length b7], .int .i64 a1] w fun e w' => e = .returned (.tuple #[.int .i64 r1, .string r2, .bool r3]) ∧ Below w.heap.size w w' := by
 have hu35 := Tryz.underlying35
 have hu69 := Tryz.underlying69
 have hu72 := Tryz.underlying72
 have HR0_1 := Aside0.mk bi
 have cj := Aside0.mk bj
 clear bi bj
 have HR0_2 := Aside0.mk bl
 have ck := Aside0.mk bm
 clear bl bm
 have HB := Aside0.mk (Below.refl w.heap.size w)
 unfold impl_above.f at h
 have H := h
 clear h
 have H' := Aside0.mk H
 clear H
 go_enter Tryz.func109, Tryz.ntmps109
 go_wp2_with (first | ((with_reducible refine gate_dst (N := 2) rfl ?_); refine be_ 2 (cs := #[.int .i64 b4, .slice b5 aw.length b6, .slice b9 af.length b7]) 35 ?_; intro b8 hg w3 hbox hb; have z_ := bx0_ th_ hb hbox hg; clear HB; obtain ⟨HB, a5, bn, bo⟩ := z_; clear hb hbox hg; have bv := bb3_ a5.out))
 repeat (go_quiet (first | ((with_reducible refine gate_dst (N := 2) rfl ?_); refine be_ 2 (cs := #[.int .i64 b4, .slice b5 aw.length b6, .slice b9 af.length b7]) 35 ?_; intro b8 hg w3 hbox hb; have z_ := bx0_ th_ hb hbox hg; clear HB; obtain ⟨HB, a5, bn, bo⟩ := z_; clear hb hbox hg; have bv := bb3_ a5.out)); try go_wp2_with (first | ((with_reducible refine gate_dst (N := 2) rfl ?_); refine be_ 2 (cs := #[.int .i64 b4, .slice b5 aw.length b6, .slice b9 af.length b7]) 35 ?_; intro b8 hg w3 hbox hb; have z_ := bx0_ th_ hb hbox hg; clear HB; obtain ⟨HB, a5, bn, bo⟩ := z_; clear hb hbox hg; have bv := bb3_ a5.out)))
 go_loopg [14] k (fun kq v14 w' => ∃ (a7 : Int), v14 = .int .i64 a7 ∧ Aside0 (impl_above.l0 kq a1 af (af.length : Int) a7 = some (r1, r2, r3)) ∧ Aside0 (kq ≤ k) ∧ Aside0 (w'.heap[b8]? = some (.cells #[.int .i64 b4, (.slice b5 aw.length b6), (.slice b9 af.length b7)] 35 (0, 0))) ∧ Aside0 (Below w.heap.size w w'))
 case atStart => exact ⟨(0), tq_3, H', ⟨Nat.le_refl _⟩, ⟨(kb_ a5)⟩, ⟨th_⟩⟩
 case round =>
 clear H'
 try clear c1; try clear p2; try clear bv
 obtain ⟨a7, rfl, HA, HK1, a5, HB⟩ := hrel
 cases gk with
 | zero => exact absurd HA.out (by simp [impl_above.l0])
 | succ k1 =>
 have H := HA.out
 clear HA
 simp only [impl_above.l0] at H
 by_cases c5 : a7 < (af.length : Int)
 rotate_left
 ·rw [if_neg c5] at H
  have bw := decide_eq_false c5
  clear c5
  simp only [Option.some.injEq, Prod.mk.injEq] at H
  obtain ⟨rfl, rfl, rfl⟩ := H
  go_wp2
  repeat (go_quiet (fail); try go_wp2)
  go_ret3
  exact ⟨tq_1, th_⟩
 rw [if_pos c5] at H
 have bw := decide_eq_true c5
 clear c5
 obtain ⟨c6, H⟩ := fc_ H
 have ch := decide_eq_true c6
 clear c6
 obtain ⟨c7, H⟩ := fc_ H
 have ci := decide_eq_true c7
 clear c7
 by_cases c8 : ((rd_T69 af a7).f0) = 2
 rotate_left
 ·rw [if_neg c8] at H
  have bx := beq_eq_false_iff_ne.mpr c8
  have bz := bne_iff_ne.mpr c8
  have H' := Aside0.mk H
  clear H
  have p415 : 0 ≤ (a7 : Int) := of_decide_eq_true tq_2
  have q415 : a7 < (af.length : Int) := of_decide_eq_true tq_2
  obtain ⟨bp, ba, bb, bc, bd, bq, ai, aj, ak, al, am, an, ao, ap, aq, ar⟩ := at_T69 HR0_2.out a7 p415 q415
  cases bq
  replace ai := hx_ HB.out ai
  replace aj := hx_ HB.out aj
  replace ak := hx_ HB.out ak
  replace al := hx_ HB.out al
  replace am := hx_ HB.out am
  replace an := hx_ HB.out an
  have be := Aside0.mk ap
  have bf := Aside0.mk ao
  clear ap ao
  have ay := Aside0.mk ar
  have bg := Aside0.mk aq
  clear ar aq
  replace p415 := eq_true p415
  replace q415 := eq_true q415
  go_wp2_with (first | ((with_reducible refine gate_dst (N := 8) rfl ?_); refine be_ 8 (cs := #[.int .i64 0, .int .i64 0, .int .i64 0, .string (⟨#[]⟩ : ByteArray), .slice none 0 0, .slice none 0 0]) 69 ?_; intro ax hg cl hbox hb; have z_ := bx1_ (kb_ a5) th_ hb hbox hg; clear a5 HB; obtain ⟨a5, HB, a6, az, b0, a8, a9⟩ := z_; clear hb hbox hg; obtain ⟨hnb25, hnc25⟩ := an2_ a9 a8; have ca := bb6_ a6.out))
  repeat (go_quiet (first | ((with_reducible refine gate_dst (N := 8) rfl ?_); refine be_ 8 (cs := #[.int .i64 0, .int .i64 0, .int .i64 0, .string (⟨#[]⟩ : ByteArray), .slice none 0 0, .slice none 0 0]) 69 ?_; intro ax hg cl hbox hb; have z_ := bx1_ (kb_ a5) th_ hb hbox hg; clear a5 HB; obtain ⟨a5, HB, a6, az, b0, a8, a9⟩ := z_; clear hb hbox hg; obtain ⟨hnb25, hnc25⟩ := an2_ a9 a8; have ca := bb6_ a6.out)); try go_wp2_with (first | ((with_reducible refine gate_dst (N := 8) rfl ?_); refine be_ 8 (cs := #[.int .i64 0, .int .i64 0, .int .i64 0, .string (⟨#[]⟩ : ByteArray), .slice none 0 0, .slice none 0 0]) 69 ?_; intro ax hg cl hbox hb; have z_ := bx1_ (kb_ a5) th_ hb hbox hg; clear a5 HB; obtain ⟨a5, HB, a6, az, b0, a8, a9⟩ := z_; clear hb hbox hg; obtain ⟨hnb25, hnc25⟩ := an2_ a9 a8; have ca := bb6_ a6.out)))
  go_roundg k1
  case measure => have := HK1.out; omega
  case rel => exact ⟨(wrap64 (a7 + 1)), tq_3, H', ⟨tq_15⟩, ⟨tb_⟩, ⟨th_⟩⟩
 rw [if_pos c8] at H
 have bx := beq_iff_eq.mpr c8
 have bz := bne_eq_false_iff_eq.mpr c8
 clear c8
 have H' := Aside0.mk H
 clear H
 have p415 : 0 ≤ (a7 : Int) := of_decide_eq_true tq_2
 have q415 : a7 < (af.length : Int) := of_decide_eq_true tq_2
 obtain ⟨bp, ba, bb, bc, bd, bq, ai, aj, ak, al, am, an, ao, ap, aq, ar⟩ := at_T69 HR0_2.out a7 p415 q415
 cases bq
 replace ai := hx_ HB.out ai
 replace aj := hx_ HB.out aj
 replace ak := hx_ HB.out ak
 replace al := hx_ HB.out al
 replace am := hx_ HB.out am
 replace an := hx_ HB.out an
 have be := Aside0.mk ap
 have bf := Aside0.mk ao
 clear ap ao
 have ay := Aside0.mk ar
 have bg := Aside0.mk aq
 clear ar aq
 replace p415 := eq_true p415
 replace q415 := eq_true q415
 go_wp2_with (first | ((with_reducible refine gate_dst (N := 8) rfl ?_); refine be_ 8 (cs := #[.int .i64 0, .int .i64 0, .int .i64 0, .string (⟨#[]⟩ : ByteArray), .slice none 0 0, .slice none 0 0]) 69 ?_; intro ax hg w9 hbox hb; have z_ := bx1_ (kb_ a5) th_ hb hbox hg; clear a5 HB; obtain ⟨a5, HB, a6, az, b0, a8, a9⟩ := z_; clear hb hbox hg; obtain ⟨hnb10, hnc10⟩ := an2_ a9 a8; have bh := bb6_ a6.out))
 repeat (go_quiet (first | ((with_reducible refine gate_dst (N := 8) rfl ?_); refine be_ 8 (cs := #[.int .i64 0, .int .i64 0, .int .i64 0, .string (⟨#[]⟩ : ByteArray), .slice none 0 0, .slice none 0 0]) 69 ?_; intro ax hg w9 hbox hb; have z_ := bx1_ (kb_ a5) th_ hb hbox hg; clear a5 HB; obtain ⟨a5, HB, a6, az, b0, a8, a9⟩ := z_; clear hb hbox hg; obtain ⟨hnb10, hnc10⟩ := an2_ a9 a8; have bh := bb6_ a6.out)); try go_wp2_with (first | ((with_reducible refine gate_dst (N := 8) rfl ?_); refine be_ 8 (cs := #[.int .i64 0, .int .i64 0, .int .i64 0, .string (⟨#[]⟩ : ByteArray), .slice none 0 0, .slice none 0 0]) 69 ?_; intro ax hg w9 hbox hb; have z_ := bx1_ (kb_ a5) th_ hb hbox hg; clear a5 HB; obtain ⟨a5, HB, a6, az, b0, a8, a9⟩ := z_; clear hb hbox hg; obtain ⟨hnb10, hnc10⟩ := an2_ a9 a8; have bh := bb6_ a6.out)))
 go_loopg [25] k1 (fun kq v25 w' => ∃ (ag : Int), v25 = .int .i64 ag ∧ Aside0 (impl_above.l1 kq a1 a7 af (af.length : Int) a7 ((rd_T69 af a7).f5) (((rd_T69 af a7).f5).length : Int) ag = some (r1, r2, r3)) ∧ Aside0 (kq ≤ k1) ∧ Aside0 (w'.heap[b8]? = some (.cells #[.int .i64 b4, (.slice b5 aw.length b6), (.slice (some bp) af.length b7)] 35 (0, 0))) ∧ Aside0 (w'.heap[ax]? = some (.cells #[.int .i64 ((rd_T69 af a7).f0), .int .i64 ((rd_T69 af a7).f1), .int .i64 ((rd_T69 af a7).f2), .string ((rd_T69 af a7).f3), (.slice ba ((rd_T69 af a7).f4).length bb), (.slice bc ((rd_T69 af a7).f5).length bd)] 69 (0, 0))) ∧ Aside0 (Below w.heap.size w w'))
 case atStart => exact ⟨(0), tq_3, H', ⟨Nat.le_refl _⟩, ⟨tb_⟩, ⟨tb_⟩, ⟨th_⟩⟩
 case round =>
 clear H'
 try clear c1; try clear p2; try clear c4; try clear p4; try clear q4; try clear hx4; try clear c5; try clear bw; try clear c6; try clear ch; try clear c7; try clear ci; try clear c8; try clear bx; try clear bz; try clear ct; try clear bh; try clear bv; try clear bh; try clear bv; try clear ai; try clear aj; try clear ak; try clear al; try clear am; try clear an; try clear p2; try clear p415; try clear q415
 obtain ⟨ag, rfl, HA, HK2, a5, a6, HB⟩ := hrel
 cases gk with
 | zero => exact absurd HA.out (by simp [impl_above.l1])
 | succ k2 =>
 have H := HA.out
 clear HA
 simp only [impl_above.l1] at H
 by_cases bu : ag < (((rd_T69 af a7).f5).length : Int)
 rotate_left
 ·rw [if_neg bu] at H
  have cb := decide_eq_false bu
  clear bu
  have H' := Aside0.mk H
  clear H
  go_wp2
  repeat (go_quiet (fail); try go_wp2)
  go_roundg k2
  case measure => have := HK1.out; have := HK2.out; omega
  case rel => exact ⟨(wrap64 (a7 + 1)), tq_3, H', ⟨tq_20⟩, ⟨(kb_ a5)⟩, ⟨th_⟩⟩
 rw [if_pos bu] at H
 have cb := decide_eq_true bu
 clear bu
 obtain ⟨cm, H⟩ := fc_ H
 have cn := decide_eq_true cm
 clear cm
 obtain ⟨co, H⟩ := fc_ H
 have cp := decide_eq_true co
 clear co
 by_cases br : ((rd_T72 ((rd_T69 af a7).f5) ag).f0) = a1
 ·rw [if_pos br] at H
  have cc := beq_iff_eq.mpr br
  have cd := bne_eq_false_iff_eq.mpr br
  clear br
  simp only [Option.some.injEq, Prod.mk.injEq] at H
  obtain ⟨rfl, rfl, rfl⟩ := H
  have p417 : 0 ≤ (ag : Int) := of_decide_eq_true tq_2
  have q417 : ag < (((rd_T69 af a7).f5).length : Int) := of_decide_eq_true tq_2
  obtain ⟨ce, bs, au, av⟩ := at_T72 ay.out ag p417 q417
  cases bs
  replace au := hx_ HB.out au
  replace av := hx_ HB.out av
  replace p417 := eq_true p417
  replace q417 := eq_true q417
  go_wp2_with (first | ((with_reducible refine gate_dst (N := 10) rfl ?_); refine be_ 10 (cs := #[.int .i64 0, .string (⟨#[]⟩ : ByteArray)]) 72 ?_; intro b1 hg cq hbox hb; have z_ := bx2_ (kb_ a5) (kb_ a6) th_ hb hbox hg; clear a5 a6 HB; obtain ⟨a5, a6, HB, ah, b2, b3, aa, ab, ac, ae⟩ := z_; clear hb hbox hg; obtain ⟨hnb17, hnc17, hnb18, hnc18⟩ := an4_ ab aa ae ac; have cf := bb2_ ah.out))
  repeat (go_quiet (first | ((with_reducible refine gate_dst (N := 10) rfl ?_); refine be_ 10 (cs := #[.int .i64 0, .string (⟨#[]⟩ : ByteArray)]) 72 ?_; intro b1 hg cq hbox hb; have z_ := bx2_ (kb_ a5) (kb_ a6) th_ hb hbox hg; clear a5 a6 HB; obtain ⟨a5, a6, HB, ah, b2, b3, aa, ab, ac, ae⟩ := z_; clear hb hbox hg; obtain ⟨hnb17, hnc17, hnb18, hnc18⟩ := an4_ ab aa ae ac; have cf := bb2_ ah.out)); try go_wp2_with (first | ((with_reducible refine gate_dst (N := 10) rfl ?_); refine be_ 10 (cs := #[.int .i64 0, .string (⟨#[]⟩ : ByteArray)]) 72 ?_; intro b1 hg cq hbox hb; have z_ := bx2_ (kb_ a5) (kb_ a6) th_ hb hbox hg; clear a5 a6 HB; obtain ⟨a5, a6, HB, ah, b2, b3, aa, ab, ac, ae⟩ := z_; clear hb hbox hg; obtain ⟨hnb17, hnc17, hnb18, hnc18⟩ := an4_ ab aa ae ac; have cf := bb2_ ah.out)))
  go_ret3
  exact ⟨tq_1, th_⟩
 rw [if_neg br] at H
 have cc := beq_eq_false_iff_ne.mpr br
 have cd := bne_iff_ne.mpr br
 have H' := Aside0.mk H
 clear H
 have p417 : 0 ≤ (ag : Int) := of_decide_eq_true tq_2
 have q417 : ag < (((rd_T69 af a7).f5).length : Int) := of_decide_eq_true tq_2
 obtain ⟨ce, bs, au, av⟩ := at_T72 ay.out ag p417 q417
 cases bs
 replace au := hx_ HB.out au
 replace av := hx_ HB.out av
 replace p417 := eq_true p417
 replace q417 := eq_true q417
 go_wp2_with (first | ((with_reducible refine gate_dst (N := 10) rfl ?_); refine be_ 10 (cs := #[.int .i64 0, .string (⟨#[]⟩ : ByteArray)]) 72 ?_; intro b1 hg cr hbox hb; have z_ := bx2_ (kb_ a5) (kb_ a6) th_ hb hbox hg; clear a5 a6 HB; obtain ⟨a5, a6, HB, ah, b2, b3, aa, ab, ac, ae⟩ := z_; clear hb hbox hg; obtain ⟨hnb21, hnc21, hnb22, hnc22⟩ := an4_ ab aa ae ac; have cg := bb2_ ah.out))
 repeat (go_quiet (first | ((with_reducible refine gate_dst (N := 10) rfl ?_); refine be_ 10 (cs := #[.int .i64 0, .string (⟨#[]⟩ : ByteArray)]) 72 ?_; intro b1 hg cr hbox hb; have z_ := bx2_ (kb_ a5) (kb_ a6) th_ hb hbox hg; clear a5 a6 HB; obtain ⟨a5, a6, HB, ah, b2, b3, aa, ab, ac, ae⟩ := z_; clear hb hbox hg; obtain ⟨hnb21, hnc21, hnb22, hnc22⟩ := an4_ ab aa ae ac; have cg := bb2_ ah.out)); try go_wp2_with (first | ((with_reducible refine gate_dst (N := 10) rfl ?_); refine be_ 10 (cs := #[.int .i64 0, .string (⟨#[]⟩ : ByteArray)]) 72 ?_; intro b1 hg cr hbox hb; have z_ := bx2_ (kb_ a5) (kb_ a6) th_ hb hbox hg; clear a5 a6 HB; obtain ⟨a5, a6, HB, ah, b2, b3, aa, ab, ac, ae⟩ := z_; clear hb hbox hg; obtain ⟨hnb21, hnc21, hnb22, hnc22⟩ := an4_ ab aa ae ac; have cg := bb2_ ah.out)))
 go_roundg k2
 case measure => have := HK1.out; have := HK2.out; omega
 case rel => exact ⟨(wrap64 (ag + 1)), tq_3, H', ⟨tq_20⟩, ⟨tb_⟩, ⟨tb_⟩, ⟨th_⟩⟩

end Go.Proofs.YtleoknilacjakaaGreat.PFnExactPartWrites
