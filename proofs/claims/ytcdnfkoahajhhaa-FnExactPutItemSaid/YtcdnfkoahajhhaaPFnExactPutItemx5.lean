/- Contracts of Go functions, written by a program of ours over the print of the kit: each says that the call returns what the Lean function beside it computes. Conditions: as each theorem states them. -/
import Derived.Test.YtcdnfkoahajhhaaPkFnExactPutItem
import Derived.Test.YtcdnfkoahajhhaaPFnExactPutItemx0
namespace Go.Proofs.Ytcdnfkoahajhhaa.PFnExactPutItem
open Go.RowKit Go.Proofs.YtcdnfkoahajhhaaW.PrintWords Go.Proofs.YtcdnfkoahajhhaaW.PrintLast Go.Proofs.YtcdnfkoahajhhaaW.PrintMore
attribute [local go_sem] max2_int min2_int max_two min_two max_three min_three max_four min_four   -- for this text's walks alone
set_option linter.unusedVariables false
set_option linter.unusedSimpArgs false

/-! ### impl_DropItem_1: function 84 -/
def clo84.p (c0_0 : ByteArray) (x : S38) : Bool := x.f0.toList == c0_0.toList
theorem clo84 (x : S38) (gb0 : Nat) (c0_0 : ByteArray) (W : World) (hcl0 : W.heap[gb0]? = some (.cells #[.string c0_0] 9 (0, 0))) : Calls Try.prog 84 (#[.agg #[.string x.f0, .bool x.f1, .string x.f2]] ++ #[.pointer (some ⟨gb0, 0, none⟩)]) W fun e w' => e = .returned (.bool (clo84.p c0_0 x)) ∧ Below W.heap.size W w' := by
 have hu9 := Try.underlying9
 have hu38 := Try.underlying38
 have hb0 : gb0 < W.heap.size := blk_lt hcl0
 have h0_0 : W.cell? ⟨gb0, 0, none⟩ = some (.string c0_0) := (blk_cell hcl0 0).trans rfl
 clear hcl0
 show Calls Try.prog 84 #[.agg #[.string x.f0, .bool x.f1, .string x.f2], .pointer (some ⟨gb0, 0, none⟩)] W _
 go_enter Try.func84, Try.ntmps84
 go_wp2
 go_ret
 exact ⟨by unfold clo84.p; first | rfl | (simp; done), by repeat (first | (with_reducible first | exact Below.refl _ _ | apply below_alloc) | exact Below.refl _ _)⟩

/-! ### impl_PutItem_1: function 89 -/
def clo89.p (c0_0 : ByteArray) (c0_1 : Bool) (c0_2 : ByteArray) (x : S38) : Bool := !(Op.bytesLess x.f0.toList c0_0.toList)
theorem clo89 (x : S38) (gb0 : Nat) (c0_0 : ByteArray) (c0_1 : Bool) (c0_2 : ByteArray) (W : World) (hcl0 : W.heap[gb0]? = some (.cells #[.string c0_0, .bool c0_1, .string c0_2] 38 (0, 0))) : Calls Try.prog 89 (#[.agg #[.string x.f0, .bool x.f1, .string x.f2]] ++ #[.pointer (some ⟨gb0, 0, none⟩)]) W fun e w' => e = .returned (.bool (clo89.p c0_0 c0_1 c0_2 x)) ∧ Below W.heap.size W w' := by
 have hu38 := Try.underlying38
 have hb0 : gb0 < W.heap.size := blk_lt hcl0
 have h0_0 : W.cell? ⟨gb0, 0, none⟩ = some (.string c0_0) := (blk_cell hcl0 0).trans rfl
 have h0_1 : W.cell? ⟨gb0, 1, none⟩ = some (.bool c0_1) := (blk_cell hcl0 1).trans rfl
 have h0_2 : W.cell? ⟨gb0, 2, none⟩ = some (.string c0_2) := (blk_cell hcl0 2).trans rfl
 clear hcl0
 show Calls Try.prog 89 #[.agg #[.string x.f0, .bool x.f1, .string x.f2], .pointer (some ⟨gb0, 0, none⟩)] W _
 go_enter Try.func89, Try.ntmps89
 go_wp2
 go_ret
 exact ⟨by unfold clo89.p; first | rfl | (simp; done), by repeat (first | (with_reducible first | exact Below.refl _ _ | apply below_alloc) | exact Below.refl _ _)⟩

-- NOT PRINTED: function 120 (impl_ItemAt_1)

/-! ### slices_IndexFunc_Item: function 88 -/
def lq88_ren : Go.Shelf.Ren := ⟨fun | 6 => 88 | n => n, fun | 22 => 26 | 23 => 38 | 25 => 123 | 3 => 3 | 0 => 0 | 4 => 4 | n => n, fun | n => n⟩
theorem lq88 : Go.Proofs.SlLaysH0.n6 Try.prog lq88_ren := {
 mixed := by kernel_rfl
 f6 := ⟨Try.f88.name, by decide, Try.func88.trans (congrArg some (by kernel_rfl))⟩
 t0 := Try.underlying0
 a0 := Try.isAgg0
 z0 := Try.sizeOf0
 v0 := Try.zeroValue0
 t3 := Try.underlying3
 a3 := Try.isAgg3
 z3 := Try.sizeOf3
 v3 := Try.zeroValue3
 t4 := Try.underlying4
 a4 := Try.isAgg4
 z4 := Try.sizeOf4
 v4 := Try.zeroValue4
 t22 := Try.underlying26
 a22 := Try.isAgg26
 z22 := Try.sizeOf26
 v22 := Try.zeroValue26
 t25 := Try.underlying123
 a25 := Try.isAgg123
 z25 := Try.sizeOf123
 v25 := Try.zeroValue123 }
theorem idx88_nil (a : Option Addr) (c : Nat) (fv : Value) (w : World) : Calls Try.prog 88 #[.slice a 0 c, fv] w fun e w' => e = .returned (.int .i64 (-1)) ∧ w' = w := by
 go_enter Try.func88, Try.ntmps88
 go_wp2
 go_loopg [5, 8] 0 (fun gg _ s8 wr => s8 = .int .i64 0 ∧ wr = w)
 case atStart => exact ⟨rfl, rfl⟩
 case round =>
  obtain ⟨rfl, rfl⟩ := hrel
  go_wp2
  go_ret
  exact ⟨rfl, rfl⟩
instance inh38 : Inhabited S38 := ⟨z38⟩
def enc38 (x : S38) : List Value := [.string x.f0, .bool x.f1, .string x.f2]
theorem idx88 (p : S38 → Bool) (g : Nat) (lb : Array Value) (eg : ∀ args w, (callFunc g args).run Try.prog w = .ok (.enter g args) w) (A0 : Option Addr) (c0 : Nat) (l0 : List S38) (w : World) (hr0 : Kd.C k38 w A0 l0.length l0) (hbig : l0.length ≤ 9223372036854775807)
  (hp : PredBelow Try.prog g lb (fun x => .agg (enc38 x).toArray) p w) :
  Calls Try.prog 88 #[.slice A0 l0.length c0, .func (.func g) #[] lb] w fun e w' => e = .returned (.int .i64 (Lib.idxBy (fun _ y => p y) l0 default)) ∧ Below w.heap.size w w' := by
 rcases Nat.eq_zero_or_pos l0.length with hz | hz
 ·have hn := List.eq_nil_of_length_eq_zero hz
  subst hn
  refine (idx88_nil A0 c0 _ w).mono ?_
  rintro e w' ⟨rfl, rfl⟩
  exact ⟨rfl, Below.refl _ _⟩
 ·obtain ⟨ad, rfl, hcell⟩ := hr0.2.2 hz
  have cells : ∀ (j : Nat) x, l0[j]? = some x → ∀ i v, (enc38 x)[i]? = some v → w.cell? (ad.add (j * 3 + i)) = some v := by
   intro j x hx i v hv
   obtain ⟨c, _, hk, hc⟩ := hcell j x hx
   have hk2 := k38_open hk
   subst hk2
   exact hc i _ hv
  have h0 := cells 0 _ (List.getElem?_eq_getElem hz) 0 _ rfl
  have hsp : ad.spot = none := by
   have h0' : w.cell? ad = some _ := h0
   unfold World.cell? at h0'
   split at h0'
   ·split at h0'
    ·cases h0'
    ·simpa using ‹¬ ad.spot.isSome = true›
   ·cases h0'
  obtain ⟨bk, o, sp⟩ := ad
  cases hsp
  have := AnyQ.slices_IndexFunc lq88 3 Try.isAgg38 Try.sizeOf38 enc38 (fun _ => rfl) p g lb eg bk o l0.length c0 l0 w hp (Nat.le_refl _) hbig (World.block_lt_of_cell? w _ h0) (fun j hj i v hv => by
   have := cells j _ (List.getElem?_eq_getElem hj) i v (by rw [← getElem!_pos l0 j hj]; exact hv)
   rw [Addr.add_lit] at this
   rw [Nat.add_assoc]
   exact this)
  rw [List.take_length] at this
  exact this
def slices_IndexFunc_Item_g84.f (l0 : List S38) (c0_0 : ByteArray) : Option (Int) := if l0.length ≤ 9223372036854775807 then some (Lib.idxBy (fun _ y => clo84.p c0_0 y) l0 z38) else none
theorem slices_IndexFunc_Item_g84.calls (A0 : Option Addr) (c0 : Nat) (l0 : List S38) (gb0 : Nat) (c0_0 : ByteArray) (r : Int) (w : World) (hr0 : Kd.C k38 w A0 l0.length l0) (hc0 : l0.length ≤ c0) (hcl0 : w.heap[gb0]? = some (.cells #[.string c0_0] 9 (0, 0))) (h : slices_IndexFunc_Item_g84.f l0 c0_0 = some r) :
  Calls Try.prog 88 #[.slice A0 l0.length c0, .func (.func 84) #[] #[.pointer (some ⟨gb0, 0, none⟩)]] w fun e w' => e = .returned (.int .i64 r) ∧ Below w.heap.size w w' := by
 unfold slices_IndexFunc_Item_g84.f at h
 split at h
 case isFalse => cases h
 case isTrue hl =>
 obtain rfl := Option.some.inj h
 exact idx88 (fun y => clo84.p c0_0 y) 84 #[.pointer (some ⟨gb0, 0, none⟩)] (fun args W => enters_ Try.func84 rfl rfl args W) A0 c0 l0 w hr0 hl (fun W x hW => (clo84 x gb0 c0_0 W (blk_below hcl0 hW)).mono fun e w' hq => ⟨hq.1, hW.trans (hq.2.mono hW.size)⟩)
def slices_IndexFunc_Item_g89.f (l0 : List S38) (c0_0 : ByteArray) (c0_1 : Bool) (c0_2 : ByteArray) : Option (Int) := if l0.length ≤ 9223372036854775807 then some (Lib.idxBy (fun _ y => clo89.p c0_0 c0_1 c0_2 y) l0 z38) else none
theorem slices_IndexFunc_Item_g89.calls (A0 : Option Addr) (c0 : Nat) (l0 : List S38) (gb0 : Nat) (c0_0 : ByteArray) (c0_1 : Bool) (c0_2 : ByteArray) (r : Int) (w : World) (hr0 : Kd.C k38 w A0 l0.length l0) (hc0 : l0.length ≤ c0) (hcl0 : w.heap[gb0]? = some (.cells #[.string c0_0, .bool c0_1, .string c0_2] 38 (0, 0))) (h : slices_IndexFunc_Item_g89.f l0 c0_0 c0_1 c0_2 = some r) :
  Calls Try.prog 88 #[.slice A0 l0.length c0, .func (.func 89) #[] #[.pointer (some ⟨gb0, 0, none⟩)]] w fun e w' => e = .returned (.int .i64 r) ∧ Below w.heap.size w w' := by
 unfold slices_IndexFunc_Item_g89.f at h
 split at h
 case isFalse => cases h
 case isTrue hl =>
 obtain rfl := Option.some.inj h
 exact idx88 (fun y => clo89.p c0_0 c0_1 c0_2 y) 89 #[.pointer (some ⟨gb0, 0, none⟩)] (fun args W => enters_ Try.func89 rfl rfl args W) A0 c0 l0 w hr0 hl (fun W x hW => (clo89 x gb0 c0_0 c0_1 c0_2 W (blk_below hcl0 hW)).mono fun e w' hq => ⟨hq.1, hW.trans (hq.2.mono hW.size)⟩)

/-! ### slices_DeleteFunc_Item: function 82 -/
theorem flat38 : Flat.IsFlat k38 enc38 := ⟨fun w base ok x => k38_mkM w base ok x, fun w x cs h => k38_open h⟩
set_option maxHeartbeats 8000000 in
set_option maxRecDepth 100000 in
theorem del82 (p : S38 → Bool) (g : Nat) (lb : Array Value) (eg : ∀ args w, (callFunc g args).run Try.prog w = .ok (.enter g args) w) (gb : Nat) (ob : Obj)
  (hp : ∀ (x : S38) (W : World), W.heap[gb]? = some ob → Calls Try.prog g (#[.agg (enc38 x).toArray] ++ lb) W fun e w' => e = .returned (.bool (p x)) ∧ Below W.heap.size W w')
  (P0_ : Nat → Prop) (u9000_ : Value) (l0 : List S38) (w0 w : World) (hB : Below w0.heap.size w0 w) (ho0 : Kd.R k38 38 w w0.heap.size P0_ u9000_ l0) (hbig : l0.length ≤ 9223372036854775807) (hcl : w.heap[gb]? = some ob) (hne : some gb ≠ u9000_.ownBlock) :
  Calls Try.prog 82 #[u9000_, .func (.func g) #[] lb] w fun e w' => ∃ v0_ : Value, e = .returned v0_ ∧ Kd.R k38 38 w' w0.heap.size (fun k_ => (P0_ k_ ∨ w.heap.size ≤ k_)) v0_ (l0.filter fun y => !p y) ∧ Below w0.heap.size w0 w' ∧ Kept w w' (fun k_ => P0_ k_) := by
 obtain ⟨A, c, rfl, hnc, hC⟩ := Kd.R_reads ho0
 have hIF := idx88 p g lb eg A c l0 w hC hbig (fun W x hW => (hp x W (blk_below hcl hW)).mono fun e w' hq => ⟨hq.1, hW.trans (hq.2.mono hW.size)⟩)
 have HB := Aside0.mk hB
 have HO := Aside0.mk ho0
 have hu38 := Try.underlying38
 rcases Flat.idx_cut p default l0 0 with ⟨e1, hall⟩ | ⟨a, b, c', hl, e1, hb, ha⟩
 ·have e2 : Lib.idxBy (fun _ y => p y) l0 default = -1 := e1
  rw [e2] at hIF
  rw [hall]
  clear e1 e2 hall hC ho0 hp hB hcl hne
  go_enter Try.func82, Try.ntmps82
  go_wp2_with (go_at_call 88; refine hIF.mono ?_; rintro e w1 ⟨rfl, hb⟩)
  go_ret
  exact ⟨_, rfl, Kd.R_mono (Kd.R_below HO.out hb) (fun _ h => .inl h), below_step HB.out hb, Kept.of_below hb _⟩
 ·have e2 : Lib.idxBy (fun _ y => p y) l0 default = ((a.length : Nat) : Int) := e1.trans (by rw [Nat.zero_add])
  rw [e2] at hIF
  have hpos : 0 < l0.length := by rw [hl]; simp; omega
  have hst := Flat.DelInv.start (c := c') hb ha
  rw [← hl] at hst
  obtain ⟨g0, cap, hv, hbg, hlt, cells, hh⟩ := Kd.R_form ho0 hpos
  injection hv with hv1 _ hv2
  subst hv1; subst hv2
  have hgne : gb ≠ g0 := fun e => hne (by rw [e]; rfl)
  have HST := Aside0.mk hst
  have HCL := Aside0.mk hcl
  have HP := Aside0.mk hp
  have HGP := Aside0.mk (ho0.1 g0 rfl)
  have hne1 : (((a.length : Nat) : Int) == -1) = false := beq_eq_false_iff_ne.2 (by omega)
  have hal : a.length < l0.length := by rw [hl]; simp
  have HL := Aside0.mk hal
  clear e1 e2 hl hb ha hp hst hC hcl hB ho0 hh hne
  go_enter Try.func82, Try.ntmps82
  go_wp2_with (go_at_call 88; refine hIF.mono ?_; rintro e w1 ⟨rfl, hb⟩)
  go_loopg [5, 6, 7] l0.length (fun gg s5 s6 _ wr => ∃ (i j : Nat) (l : List S38), s5 = .int .i64 i ∧ s6 = .int .i64 j ∧ l0.length - j ≤ gg ∧ Aside0 (Flat.DelInv p l0 i j l) ∧ Aside0 (Kd.R k38 38 wr w0.heap.size (fun k_ => (P0_ k_ ∨ w.heap.size ≤ k_)) (.slice (some ⟨g0, 0, none⟩) l0.length c) l) ∧ Aside0 (Below w0.heap.size w0 wr) ∧ Aside0 (Kept w wr (fun k_ => P0_ k_)) ∧ Aside0 (wr.heap[gb]? = some ob))
  case atStart => exact ⟨a.length, a.length + 1, l0, rfl, by have := HL.out; go_num, by omega, HST, ⟨Kd.R_mono (Kd.R_below HO.out hb) (fun _ h => .inl h)⟩, ⟨below_step HB.out hb⟩, ⟨Kept.of_below hb _⟩, ⟨blk_below HCL.out hb⟩⟩
  case round =>
   obtain ⟨i, j, l, rfl, rfl, hgg, HI, HR, HB1, HK, HC1⟩ := hrel
   have hij := HI.out.lt
   have hjn := HI.out.le
   have hll := HI.out.len
   clear HST HCL HO HB
   by_cases hjl : j < l0.length
   ·have hjz : (j : Int) < (l0.length : Int) := by omega
    have hx := HI.out.at_ hjl (by omega)
    have hR := HR.out
    obtain ⟨x, hxe⟩ : ∃ x, x = l0[j] := ⟨_, rfl⟩
    have hcj0 : wr.cell? ⟨g0, j * 3, none⟩ = some (.string x.f0) := by rw [hxe, ← hx]; exact Flat.R_cell flat38 hR j (by omega) 0 _ rfl
    have hcj1 : wr.cell? ⟨g0, j * 3 + 1, none⟩ = some (.bool x.f1) := by rw [hxe, ← hx]; exact Flat.R_cell flat38 hR j (by omega) 1 _ rfl
    have hcj2 : wr.cell? ⟨g0, j * 3 + 2, none⟩ = some (.string x.f2) := by rw [hxe, ← hx]; exact Flat.R_cell flat38 hR j (by omega) 2 _ rfl
    have hcall : ∀ W', Below wr.heap.size wr W' → W'.heap[wr.heap.size]? = some (.cells #[.string x.f0, .bool x.f1, .string x.f2] 38 (0, 0)) → Calls Try.prog g (#[.agg #[.string x.f0, .bool x.f1, .string x.f2]] ++ lb) W' fun e w' => e = .returned (.bool (p x)) ∧ Below wr.heap.size wr w' ∧ w'.heap[wr.heap.size]? = some (.cells #[.string x.f0, .bool x.f1, .string x.f2] 38 (0, 0)) := fun W' hW hx => (HP.out x W' (blk_below HC1.out hW)).mono fun e w' hq => ⟨hq.1, below_then hW hW.size hq.2, blk_below hx hq.2⟩
    have HXE := Aside0.mk hxe
    clear hxe hx hR
    cases hq : p x with
    | false =>
     rw [hq] at hcall
     go_wp2_with (go_at_fn g; refine (hcall _ ?hbl ?hbx).mono ?_; (case hbl => exact below_alloc (Below.refl _ _) _); (case hbx => exact heap_alloc_new _ _); rintro e w1 ⟨rfl, hb1, hbx⟩; have hv0 : w1.cell? ⟨wr.heap.size, 0, none⟩ = some (.string x.f0) := (blk_cell hbx 0).trans rfl; have hv1 : w1.cell? ⟨wr.heap.size, 1, none⟩ = some (.bool x.f1) := (blk_cell hbx 1).trans rfl; have hv2 : w1.cell? ⟨wr.heap.size, 2, none⟩ = some (.string x.f2) := (blk_cell hbx 2).trans rfl; have HR1 := Aside0.mk (Kd.R_below HR.out hb1); have HB2 := Aside0.mk hb1; have hi0 := Flat.R_cell flat38 HR1.out i (by omega) 0 _ rfl; have hi1 := Flat.R_cell flat38 HR1.out i (by omega) 1 _ rfl; have hi2 := Flat.R_cell flat38 HR1.out i (by omega) 2 _ rfl; have hf0 := Flat.R_fz flat38 HR1.out (i * 3); have hf1 := Flat.R_fz flat38 HR1.out (i * 3 + 1); have hf2 := Flat.R_fz flat38 HR1.out (i * 3 + 2); clear hbx hb1; (try simp only [show k38.sz = 3 from rfl, Nat.add_zero] at hi0 hi1 hi2))
     go_roundg (l0.length - (j + 1))
     case measure => omega
     case rel =>
      have hS := Flat.R_cells flat38 HR1.out i [x] (by show i + 1 ≤ l.length; omega)
      refine ⟨i + 1, j + 1, l.take i ++ [x] ++ l.drop (i + 1), by go_num, by go_num, by omega, ⟨?_⟩, ⟨hS.1⟩, ⟨pw_below_grown (below_then HB1.out HB1.out.size HB2.out) (some g0) (Nat.le_trans HB1.out.size HB2.out.size) hS.2 (fun k hk => ?_)⟩, ⟨Kept.of_grown hS.2 (Kept.below HK.out HB2.out) (fun k hk => ?_)⟩, ⟨blk_grown (blk_below HC1.out HB2.out) hS.2 (fun e => hgne (Option.some.inj e))⟩⟩
      ·rw [HXE.out]
       exact HI.out.keep hjl (by rw [← HXE.out]; exact hq)
      ·obtain rfl := Option.some.inj hk
       exact hbg
      ·obtain rfl := Option.some.inj hk
       exact .inl HGP.out
    | true =>
     rw [hq] at hcall
     go_wp2_with (go_at_fn g; refine (hcall _ ?hbl ?hbx).mono ?_; (case hbl => exact below_alloc (Below.refl _ _) _); (case hbx => exact heap_alloc_new _ _); rintro e w1 ⟨rfl, hb1, hbx⟩; have HB2 := Aside0.mk hb1; clear hbx hb1)
     go_roundg (l0.length - (j + 1))
     case measure => omega
     case rel => exact ⟨i, j + 1, l, rfl, by go_num, by omega, ⟨HI.out.skip hjl (by rw [← HXE.out]; exact hq)⟩, ⟨Kd.R_below HR.out HB2.out⟩, ⟨below_step HB1.out HB2.out⟩, ⟨Kept.below HK.out HB2.out⟩, ⟨blk_below HC1.out HB2.out⟩⟩
   ·have hjz : ¬ ((j : Int) < (l0.length : Int)) := by omega
    have hje : j = l0.length := by omega
    have hci : ¬ (c = i) := by omega
    have hin : i ≤ l0.length := by omega
    have hcl : ∀ ty, (Builtin.clear_ #[26] ty #[.slice (some ⟨g0, i * 3, none⟩) (l0.length - i) (c - i)]).run Try.prog wr = .ok (.tuple #[]) (wr.setCells g0 (i * 3) ((List.replicate (l0.length - i) z38).flatMap enc38)) := fun ty => Flat.run_clear flat38 (by decide) HR.out 26 ty _ z38 rfl Try.underlying26 Try.zeroValue38 i (l0.length - i) (c - i) (by omega) (by omega)
    go_wp2
    go_ret
    have hS := Flat.R_cells flat38 HR.out i (List.replicate (l0.length - i) z38) (by rw [List.length_replicate]; omega)
    have hT := Kd.R_take (m := i) hS.1 (by simp [List.length_take, List.length_drop]; omega)
    rw [List.append_assoc, List.take_left' (by simp [List.length_take]; omega)] at hT
    have hD := HI.out
    rw [hje] at hD
    rw [hD.done] at hT
    refine ⟨_, rfl, hT, pw_below_grown HB1.out (some g0) HB1.out.size hS.2 (fun k hk => ?_), Kept.of_grown hS.2 HK.out (fun k hk => ?_)⟩
    ·obtain rfl := Option.some.inj hk
     exact hbg
    ·obtain rfl := Option.some.inj hk
     exact .inl HGP.out
def slices_DeleteFunc_Item_g84.f (l0 : List S38) (c0_0 : ByteArray) : Option (List S38) := if l0.length ≤ 9223372036854775807 then some (l0.filter fun y => !clo84.p c0_0 y) else none
theorem slices_DeleteFunc_Item_g84.calls (P0_ : Nat → Prop) (u9000_ : Value) (l0 : List S38) (gb0 : Nat) (c0_0 : ByteArray) (r : List S38) (w0 w : World) (hB : Below w0.heap.size w0 w) (ho0 : Kd.R k38 38 w w0.heap.size P0_ u9000_ l0) (hcl0 : w.heap[gb0]? = some (.cells #[.string c0_0] 9 (0, 0))) (h : slices_DeleteFunc_Item_g84.f l0 c0_0 = some r) :
  Calls Try.prog 82 #[u9000_, .func (.func 84) #[] #[.pointer (some ⟨gb0, 0, none⟩)]] w fun e w' => ∃ v0_ : Value, e = .returned v0_ ∧ Kd.R k38 38 w' w0.heap.size (fun k_ => (P0_ k_ ∨ w.heap.size ≤ k_)) v0_ r ∧ Below w0.heap.size w0 w' ∧ Kept w w' (fun k_ => P0_ k_) := by
 unfold slices_DeleteFunc_Item_g84.f at h
 split at h
 case isFalse => cases h
 case isTrue hl =>
 obtain rfl := Option.some.inj h
 exact del82 (fun y => clo84.p c0_0 y) 84 #[.pointer (some ⟨gb0, 0, none⟩)] (fun args W => enters_ Try.func84 rfl rfl args W) gb0 (.cells #[.string c0_0] 9 (0, 0)) (fun x W hx => clo84 x gb0 c0_0 W hx) P0_ u9000_ l0 w0 w hB ho0 hl hcl0 (Kd.R_ne ho0 hcl0 (by decide))

/-! ### slices_Clone_Item: function 83 -/
def slices_Clone_Item.f (l0 : List (S38)) : Option (List (S38)) := if l0.length < 3518437208883 then some l0 else none
set_option maxHeartbeats 8000000 in
set_option maxRecDepth 100000 in
theorem slices_Clone_Item.calls (A0 : Option Addr) (c0 : Nat) (l0 : List (S38)) (r : List (S38)) (w : World) (hr0 : Kd.C k38 w A0 l0.length l0) (hc0 : l0.length ≤ c0) (h : slices_Clone_Item.f l0 = some r) :
  Calls Try.prog 83 #[.slice A0 l0.length c0] w fun e w' => ∃ v0_ : Value, e = .returned (v0_) ∧ Kd.R k38 38 w' w.heap.size (fun _ => True) v0_ r ∧ Below w.heap.size w w' := by
 have hl : l0.length < 3518437208883 ∧ l0 = r := by
  unfold slices_Clone_Item.f at h
  split at h
  ·exact ⟨by assumption, Option.some.inj h⟩
  ·cases h
 obtain ⟨hl, rfl⟩ := hl
 clear h
 have HR0 := Aside0.mk hr0
 clear hr0 hc0
 have q_ : ∀ (w : World) (a : Option Addr) (n c n' c' : Nat), (binOp .eql 26 (.slice a n c) (.slice none n' c')).run Try.prog w = .ok (.bool a.isNone) w := fun w a n c n' c' => Lib.run_eql_slice_nil w _ _ a n c n' c' Try.underlying26
 rcases A0 with _ | ad
 ·have hn : l0 = [] := by
   rcases Nat.eq_zero_or_pos l0.length with h0 | h0
   ·exact List.eq_nil_of_length_eq_zero h0
   ·obtain ⟨ad, h, _⟩ := HR0.out.2.2 h0
    cases h
  subst hn
  clear HR0
  go_enter Try.func83, Try.ntmps83
  go_wp2
  go_ret
  exact ⟨_, rfl, Kd.R_nil _ _ _ _ _, Below.refl _ _⟩
 ·have HL := Aside0.mk hl
  clear hl
  go_enter Try.func83, Try.ntmps83
  go_wp2_with ((with_reducible refine gate_builtin (b := .append) (xs := #[.tmp 5, .tmp 6]) rfl ?_); at_builtin; refine Kd.R_append_rows k38 (w0 := w) w.heap.size rfl (.tmp 5) (.tmp 6) 26 38 (.agg #[(.string ⟨#[]⟩), (.bool false), (.string ⟨#[]⟩)]) 40 rfl Try.underlying26 info38 rfl (by decide) (by omega) _ [] l0 _ _ _ (fun _ => True) (fun _ => False) rfl rfl ?aO ?aR (fun _ _ h => h) (fun _ h => h.elim) (fun _ _ => trivial) ?aB ?aS ?aL ?_; (case aO => exact ⟨fun _ _ => trivial, [], World.ownsRow_made w #[] 0 (Nat.le_refl _) (Nat.zero_le _) (by simp), Reps.none _ _⟩); (case aR => exact Kd.C_alloc HR0.out _); (case aB => exact (Below.refl _ _).alloc (Nat.le_refl _) _); (case aS => simp); (case aL => have := HL.out; simp only [List.length_nil]; omega); intro v1 w1 hR hB hg hat)
  go_ret
  exact ⟨_, rfl, by simpa using hR, hB⟩

/-! ### impl_DropItem: function 18 -/
def impl_DropItem.f (l0_0 : List (S38)) (a1 : ByteArray) : Option ((List (S38))) := (slices_Clone_Item.f l0_0).bind fun t173 => ((slices_DeleteFunc_Item_g84.f t173 a1).bind fun t176 => (some t176))
set_option maxHeartbeats 8000000 in
set_option maxRecDepth 100000 in
theorem impl_DropItem.calls (A0_0 : Option Addr) (c0_0 : Nat) (l0_0 : List (S38)) (a1 : ByteArray) (r : List (S38)) (w : World) (hr0_0 : Kd.C k38 w A0_0 l0_0.length l0_0) (hc0_0 : l0_0.length ≤ c0_0) (h : impl_DropItem.f l0_0 a1 = some r) :
  Calls Try.prog 18 #[.agg #[.slice A0_0 l0_0.length c0_0], .string a1] w fun e w' => ∃ v0_ : Value, e = .returned (.agg #[v0_]) ∧ Kd.R k38 38 w' w.heap.size (fun _ => True) v0_ r ∧ Below w.heap.size w w' := by
 have hu28 := Try.underlying28
 have HR0_0 := Aside0.mk hr0_0
 have HC0_0 := Aside0.mk hc0_0
 clear hr0_0 hc0_0
 have HB := Aside0.mk (Below.refl w.heap.size w)
 have H : ((slices_Clone_Item.f l0_0).bind fun t173 => ((slices_DeleteFunc_Item_g84.f t173 a1).bind fun t176 => (some t176))) = some r := h
 clear h
 replace H := Option.bind_eq_some_iff.mp H
 obtain ⟨t173, A30, H⟩ := H
 replace H : ((slices_DeleteFunc_Item_g84.f t173 a1).bind fun t176 => (some t176)) = some r := H
 have A3 := Aside0.mk A30
 clear A30
 replace H := Option.bind_eq_some_iff.mp H
 obtain ⟨t176, A40, H⟩ := H
 replace H : (some t176) = some r := H
 have A4 := Aside0.mk A40
 clear A40
 obtain rfl := Option.some.inj H
 go_enter Try.func18, Try.ntmps18
 go_wp2_with (first | ((with_reducible refine gate_dst (N := 2) rfl ?_); refine box_event ?hg (N := 2) ?hd (cs := #[.slice A0_0 l0_0.length c0_0]) (t := 28) ?hr ?_; (case hd => rfl); (case hg => rfl); (case hr => first | (go_simp; done) | (go_simp; rfl)); intro gb170 hg w5 hbox hb; have n0_ := Aside0.mk (below_step tq_0 hb); have n1_ := Aside0.mk (hbox); have n2_ := Aside0.mk (gb_ hg tq_0); have n3_ := Aside0.mk (gb_ hg tq_0); clear HB; have HB := n0_; have BK170 := n1_; have GW170 := n2_; have GE170 := n3_; clear n0_ n1_ n2_ n3_; clear hb hbox hg) | ((with_reducible refine gate_dst (N := 3) rfl ?_); refine box_event ?hg (N := 3) ?hd (cs := #[.string a1]) (t := 9) ?hr ?_; (case hd => rfl); (case hg => rfl); (case hr => first | (go_simp; done) | (go_simp; rfl)); intro gb171 hg w6 hbox hb; have n0_ := Aside0.mk (blk_below tq_37 hb); have n1_ := Aside0.mk (below_step tq_67 hb); have n2_ := Aside0.mk (hbox); have n3_ := Aside0.mk (gb_ hg tq_67); have n4_ := Aside0.mk (gb_ hg tq_67); have n5_ := Aside0.mk (ltne_ hg (blk_lt tq_37)); have n6_ := Aside0.mk (gtne_ hg (blk_lt tq_37)); clear BK170 HB; have BK170 := n0_; have HB := n1_; have BK171 := n2_; have GW171 := n3_; have GE171 := n4_; have NB170_171 := n5_; have NB171_170 := n6_; clear n0_ n1_ n2_ n3_ n4_ n5_ n6_; clear hb hbox hg) | ((with_reducible refine gate_dst (N := 4) rfl ?_); refine box_event ?hg (N := 4) ?hd (cs := #[.slice none 0 0]) (t := 28) ?hr ?_; (case hd => rfl); (case hg => rfl); (case hr => first | (go_simp; done) | (go_simp; rfl)); intro gb172 hg w7 hbox hb; have n0_ := Aside0.mk (blk_below tq_37 hb); have n1_ := Aside0.mk (blk_below tq_52 hb); have n2_ := Aside0.mk (below_step tq_60 hb); have n3_ := Aside0.mk (hbox); have n4_ := Aside0.mk (gb_ hg tq_60); have n5_ := Aside0.mk (gb_ hg tq_60); have n6_ := Aside0.mk (ltne_ hg (blk_lt tq_37)); have n7_ := Aside0.mk (gtne_ hg (blk_lt tq_37)); have n8_ := Aside0.mk (ltne_ hg (blk_lt tq_52)); have n9_ := Aside0.mk (gtne_ hg (blk_lt tq_52)); clear BK170 BK171 HB; have BK170 := n0_; have BK171 := n1_; have HB := n2_; have BK172 := n3_; have GW172 := n4_; have GE172 := n5_; have NB170_172 := n6_; have NB172_170 := n7_; have NB171_172 := n8_; have NB172_171 := n9_; clear n0_ n1_ n2_ n3_ n4_ n5_ n6_ n7_ n8_ n9_; clear hb hbox hg; have hnb8 := NB170_171.out; have hnc8 := NB171_170.out; have hnb9 := NB170_172.out; have hnc9 := NB172_170.out; have hcz10_0 := bc_ BK170.out 0; have hfz10_0 := blk_frozen BK170.out 0) | ((with_reducible refine gate_callee (f := 83) rfl ?_); refine goesL_ (some 7) rfl rfl Try.func83 (by kernel_rfl) rfl #[.slice A0_0 l0_0.length c0_0] rfl tq_4 ?_; (with_reducible refine (slices_Clone_Item.calls _ _ l0_0 t173 _ ?side1 ?side2 A3.out).mono ?_); (case side1 => exact tq_19); (case side2 => exact HC0_0.out); rintro e w11 ⟨v174, rfl, ho0, hb⟩; refine ⟨_, rfl, ?_⟩; have n0_ := Aside0.mk (Kd.R_lower ho0 (below_size tq_92)); have n1_ := Aside0.mk (blk_below tq_37 hb); have n2_ := Aside0.mk (blk_below tq_52 hb); have n3_ := Aside0.mk (blk_below (by (with_reducible repeat (first | refine blk_drewN ?_ _ | refine blk_drew ?_ | refine blk_alloc ?_ _)); exact BK172.out) hb); have n4_ := Aside0.mk (below_step tq_92 hb); clear BK170 BK171 BK172 HB; have HO175 := n0_; have BK170 := n1_; have BK171 := n2_; have BK172 := n3_; have HB := n4_; clear n0_ n1_ n2_ n3_ n4_; (try clear hb); (try clear hb2); (try clear hk); (try clear hi); (try clear ho0); obtain ⟨Ao12, co12, eo12⟩ := Kd.R_slice HO175.out; subst eo12) | ((with_reducible refine gate_callee (f := 82) rfl ?_); refine goesL_ (some 9) rfl rfl Try.func82 (by kernel_rfl) rfl #[.slice Ao12 t173.length co12, .func (.func 84) #[] #[.pointer (some ⟨gb171, 0, none⟩)]] rfl tq_4 ?_; (with_reducible refine (slices_DeleteFunc_Item_g84.calls (fun k_ => some k_ = (.slice Ao12 t173.length co12 : Value).ownBlock) (.slice Ao12 t173.length co12) t173 gb171 a1 t176 w _ ?side1 ?side2 ?side3 A4.out).mono ?_); (case side1 => repeat (first | (with_reducible first | exact HB.out | apply below_alloc | apply pw_below_drewN | apply below_drew1 | refine below_set ?_ GE170.out | refine below_set ?_ GE171.out | refine below_set ?_ GE172.out) | exact HB.out)); (case side2 => exact Kd.R_tight rfl HO175.out); (case side3 => (with_reducible repeat (first | refine blk_drewN ?_ _ | refine blk_drew ?_ | refine blk_alloc ?_ _)); exact BK171.out); rintro e w13 ⟨v177, rfl, ho0, hb, hkp⟩; refine ⟨_, rfl, ?_⟩; have n0_ := Aside0.mk (blk_kept tq_37 hkp (fun hs_ => (fun e_ => (Kd.R_ne HO175.out BK170.out (by decide)) e_) hs_)); have n1_ := Aside0.mk (blk_kept tq_52 hkp (fun hs_ => (fun e_ => (Kd.R_ne HO175.out BK171.out (by decide)) e_) hs_)); have n2_ := Aside0.mk (blk_kept (by (with_reducible repeat (first | refine blk_drewN ?_ _ | refine blk_drew ?_ | refine blk_alloc ?_ _)); exact BK172.out) hkp (fun hs_ => (fun e_ => (Kd.R_ne HO175.out BK172.out (by decide)) e_) hs_)); have n3_ := Aside0.mk (Kd.R_mono (ok' := fun k_ => True) ho0 (fun k_ hk_ => trivial)); have n4_ := Aside0.mk (hb); clear BK170 BK171 BK172 HB HO175; have BK170 := n0_; have BK171 := n1_; have BK172 := n2_; have HO178 := n3_; have HB := n4_; clear n0_ n1_ n2_ n3_ n4_; (try clear hb); (try clear hkp); (try clear ho0); obtain ⟨Ao14, co14, eo14⟩ := Kd.R_slice HO178.out; subst eo14; have hnb15 := NB172_171.out; have hnc15 := NB171_172.out; have hcz16_0 := bc_ BK172.out 0; have hfz16_0 := blk_frozen BK172.out 0))
 refine bodyPost_ret (results_cell_row rfl _ _ gb172 28 #[.slice Ao14 t176.length co14] (0, 0) _ rfl (by (with_reducible repeat (first | refine blk_drewN ?_ _ | refine blk_drew ?_ | refine blk_alloc ?_ _)); refine blk_put (cs := #[.slice none 0 0]) ?_ 0 _ rfl; (with_reducible repeat (first | refine blk_drewN ?_ _ | refine blk_drew ?_ | refine blk_alloc ?_ _)); exact BK172.out) Try.underlying28 rfl (by kernel_rfl)) rfl ?_
 exact ⟨_, by first | rfl | (simp [errW_none, errW_some] <;> rfl) | (simp [*, errW_none, errW_some] <;> rfl), by (with_reducible repeat (first | apply Kd.R_alloc | apply Kd.R_drewN | apply Kd.R_drew)); exact Kd.R_mono (Kd.R_far (p := ⟨gb172, 0, none⟩) (Kd.R_types HO178.out BK172.out (by decide)) (fun _ hk => hk.2) (.slice Ao14 t176.length co14)) (fun _ hk => trivial), by repeat (first | (with_reducible first | exact HB.out | apply below_alloc | apply pw_below_drewN | apply below_drew1 | refine below_set ?_ GE170.out | refine below_set ?_ GE171.out | refine below_set ?_ GE172.out) | exact HB.out)⟩

/-! ### slices_Insert_Item: function 90 -/
set_option maxHeartbeats 8000000 in
set_option maxRecDepth 100000 in
theorem ins90_end (P0_ : Nat → Prop) (u9000_ : Value) (l0 : List S38) (P2_ : Nat → Prop) (vb vc : Nat) (y : S38) (w0 w : World) (hB : Below w0.heap.size w0 w) (ho0 : Kd.R k38 38 w w0.heap.size P0_ u9000_ l0) (ho2 : Kd.R k38 38 w w0.heap.size P2_ (.slice (some ⟨vb, 0, none⟩) 1 vc) [y]) (hbig : (l0.length + 1) * 40 ≤ 140737488355328) :
  Calls Try.prog 90 #[u9000_, .int .i64 l0.length, .slice (some ⟨vb, 0, none⟩) 1 vc] w fun e w' => ∃ v0_ : Value, e = .returned v0_ ∧ Kd.R k38 38 w' w0.heap.size (fun k_ => ((P0_ k_ ∨ P2_ k_) ∨ w.heap.size ≤ k_)) v0_ (l0 ++ [y]) ∧ Below w0.heap.size w0 w' ∧ Kept w w' (fun k_ => P0_ k_ ∨ P2_ k_) := by
 have HRy := Aside0.mk (Kd.R_reads' ho2).2.2
 have HO := Aside0.mk (Kd.R_mono (ok' := fun k_ => ((P0_ k_ ∨ P2_ k_) ∨ w.heap.size ≤ k_)) ho0 (fun k h => .inl (.inl h)))
 have HG := Aside0.mk ho0.1
 have HB := Aside0.mk hB
 have HL := Aside0.mk hbig
 rcases Flat.R_form0 ho0 with ⟨rfl, hn⟩ | ⟨g, c, rfl, hnc, hcm⟩
 ·obtain rfl := List.eq_nil_of_length_eq_zero hn
  clear ho0 ho2 hB hbig hn
  go_enter Try.func90, Try.ntmps90
  go_wp2_with ((with_reducible refine gate_builtin (b := .append) (xs := #[.tmp 23, .tmp 24]) rfl ?_); at_builtin; refine Kd.R_append_rows k38 (w0 := w0) w0.heap.size rfl (.tmp 23) (.tmp 24) 26 38 (.agg #[(.string ⟨#[]⟩), (.bool false), (.string ⟨#[]⟩)]) 40 rfl Try.underlying26 info38 rfl (by decide) (by omega) _ [] [y] _ _ _ _ (fun _ => False) rfl rfl HO.out HRy.out ?aM (fun _ h => h.elim) (fun k h => .inr h) HB.out HB.out.size HL.out ?_; (case aM => intro x cs h; have h := k38_open h; subst h; exact k38_mkM _ _ _ x); intro v1 w1 hR hB1 hg hat)
  go_ret
  exact ⟨_, rfl, hR, hB1, Kept.of_grown hg (Kept.refl _ _) (fun k hk => .inl (.inl (HG.out k hk)))⟩
 ·clear ho0 ho2 hB hbig
  go_enter Try.func90, Try.ntmps90
  go_wp2_with ((with_reducible refine gate_builtin (b := .append) (xs := #[.tmp 23, .tmp 24]) rfl ?_); at_builtin; refine Kd.R_append_rows k38 (w0 := w0) w0.heap.size rfl (.tmp 23) (.tmp 24) 26 38 (.agg #[(.string ⟨#[]⟩), (.bool false), (.string ⟨#[]⟩)]) 40 rfl Try.underlying26 info38 rfl (by decide) (by omega) _ l0 [y] _ _ _ _ (fun _ => False) rfl rfl HO.out HRy.out ?aM (fun _ h => h.elim) (fun k h => .inr h) HB.out HB.out.size HL.out ?_; (case aM => intro x cs h; have h := k38_open h; subst h; exact k38_mkM _ _ _ x); intro v1 w1 hR hB1 hg hat)
  all_goals (go_ret; exact ⟨_, rfl, hR, hB1, Kept.of_grown hg (Kept.refl _ _) (fun k hk => .inl (.inl (HG.out k hk)))⟩)
set_option maxHeartbeats 8000000 in
set_option maxRecDepth 100000 in
theorem ins90_room (g c i vb vc n : Nat) (l0 : List S38) (y : S38) (w0 w : World) (P0_ P2_ : Nat → Prop) (hn : l0.length = n) (hi : i < n) (hroom : n + 1 ≤ c) (hvb : vb ≠ g) (hB : Below w0.heap.size w0 w) (ho0 : Kd.R k38 38 w w0.heap.size P0_ (.slice (some ⟨g, 0, none⟩) n c) l0) (ho2 : Kd.R k38 38 w w0.heap.size P2_ (.slice (some ⟨vb, 0, none⟩) 1 vc) [y]) :
  Calls Try.prog 90 #[.slice (some ⟨g, 0, none⟩) n c, .int .i64 i, .slice (some ⟨vb, 0, none⟩) 1 vc] w fun e w' => ∃ v0_ : Value, e = .returned v0_ ∧ Kd.R k38 38 w' w0.heap.size (fun k_ => ((P0_ k_ ∨ P2_ k_) ∨ w.heap.size ≤ k_)) v0_ (l0.take i ++ [y] ++ l0.drop i) ∧ Below w0.heap.size w0 w' ∧ Kept w w' (fun k_ => P0_ k_ ∨ P2_ k_) := by
 obtain ⟨hbg, hok, _, hnc, hcm, cur, hh, hcs, ht⟩ := Flat.R_open flat38 ho0
 obtain ⟨hbv, _, _, hvc, hvcm, vcur, hvh, hvcs, hvt⟩ := Flat.R_open flat38 ho2
 change cur.size = c * 3 at hcs
 change vcur.size = vc * 3 at hvcs
 change cur.toList.take (n * 3) = _ at ht
 change vcur.toList.take (1 * 3) = enc38 y ++ [] at hvt
 rw [List.append_nil] at hvt
 have hc63 : c ≤ 9223372036854775807 := by simp only [maxLen] at hcm; omega
 have mixed : Try.prog.follows .mixedOrders = true := by kernel_rfl
 have hsz : (Try.prog.info? 38).map (·.size) = some 3 := by
  obtain ⟨i0, hi0, h0, h1, h2⟩ := info_parts info38
  rw [hi0]; simp [h1]
 have hYl : (enc38 y).length = 3 := rfl
 have hDl : ((l0.drop i).flatMap enc38).length = (n - i) * 3 := by rw [Flat.flat_len flat38.len, List.length_drop, hn]; rfl
 have hDe := Flat.flat_drop (enc := enc38) (sz := 3) flat38.len l0 i (by omega)
 have hone : ∀ (xs : List S38), ∀ v ∈ xs.flatMap enc38, v.oneCell' = true := fun xs v hv => by
  obtain ⟨x, _, hx⟩ := List.mem_flatMap.1 hv
  exact flat38.one x v hx
 have hcell : ∀ (W : World), W.heap[g]? = some (.cells cur 38 (0, 0)) → ∀ j v, ((l0.drop i).flatMap enc38)[j]? = some v → W.cell? ((⟨g, i * 3, none⟩ : Addr).add j) = some v := fun W hW j v hj => by
  rw [Addr.add_lit, blk_cell hW, ← Array.getElem?_toList]
  rw [hDe, ← ht, List.getElem?_drop, List.getElem?_take] at hj
  split at hj
  ·exact hj
  ·cases hj
 have hsome : ∀ j, j < c * 3 → (w.cell? ⟨g, j, none⟩).isSome = true := fun j hj => by
  rw [blk_cell hh]; simp; omega
 have hfz : ∀ j, w.frozen? ⟨g, j, none⟩ = false := fun j => blk_frozen hh j
 have hvcell : ∀ (W : World), W.heap[vb]? = some (.cells vcur 38 (0, 0)) → ∀ j v, (enc38 y)[j]? = some v → W.cell? ((⟨vb, 0, none⟩ : Addr).add j) = some v := fun W hW j v hj => by
  rw [Addr.add_lit, Nat.zero_add, blk_cell hW, ← Array.getElem?_toList]
  rw [← hvt, List.getElem?_take] at hj
  split at hj
  ·exact hj
  ·cases hj
 have hov : ∀ lb cb, (callFunc 168 #[.slice (some ⟨vb, 0, none⟩) 1 vc, .slice (some ⟨g, (i + 1) * 3, none⟩) lb cb]).run Try.prog w = .ok (.value (.bool false)) w := fun lb cb => by
  rw [run_callFunc_extern Try.func168 (by kernel_rfl) (by kernel_rfl) (by kernel_rfl) (e := Extern.SlicesOverlaps.overlaps #[26, 26] #[4]) (by kernel_rfl),
   Lib.run_overlaps_apart w 26 4 38 Try.underlying26 3 Try.sizeOf38 ⟨vb, 0, none⟩ ⟨g, (i + 1) * 3, none⟩ 1 vc lb cb hvb 38 38 vcur.size cur.size (by simp [World.shape?, hvh]) (by simp [World.shape?, hh]) (by omega) (blk_frozen hvh _) (blk_frozen hvh _)]
  rfl
 have hz1 : ¬ ((1 : Int) = 0) := by omega
 have hz2 : ¬ ((i : Int) = (n : Int)) := by omega
 have hw1 : IntKind.i64.wrap ((i : Int) + (1 : Int)) = (i : Int) + (1 : Int) := by rw [IntKind.wrap_i64]; omega
 have hw2 : IntKind.i64.wrap ((n : Int) + (1 : Int)) = (n : Int) + (1 : Int) := by rw [IntKind.wrap_i64]; omega
 have hb1 : (0 : Int) ≤ (i : Int) + (1 : Int) := by omega
 have hin : i ≤ n := by omega
 have htn : ((i : Int) + (1 : Int)).toNat = i + 1 := by omega
 have hb2 : ¬ (c = i + 1) := by omega
 have hb3 : (i : Int) ≤ (n : Int) + (1 : Int) := by omega
 have hb4 : ¬ (c = i) := by omega
 have hcp1 : ∀ ty dc sc, (Builtin.copy_ #[26, 26] ty #[.slice (some ⟨g, (i + 1) * 3, none⟩) (n - i) dc, .slice (some ⟨g, i * 3, none⟩) (n + 1 - i) sc]).run Try.prog w.drew = .ok (goInt ((n - i : Nat) : Int)) (w.drew.setCells g ((i + 1) * 3) ((l0.drop i).flatMap enc38)) := fun ty dc sc =>
  Flat.run_copy_k w.drew 26 26 ty 38 g ((i + 1) * 3) (n - i) dc ⟨g, i * 3, none⟩ (n + 1 - i) sc 3 (n - i) _ Try.underlying26 hsz (by simp only [Nat.min_def]; split <;> omega) hDl
   (hcell w.drew hh) (fun j hj => hsome _ (by omega)) (fun j hj => hfz _) (hone _)
 obtain ⟨W1, hW1⟩ : ∃ W1, W1 = w.drew.setCells g ((i + 1) * 3) ((l0.drop i).flatMap enc38) := ⟨_, rfl⟩
 obtain ⟨cur1, h1, s1, _⟩ := setCells_row ((l0.drop i).flatMap enc38) ((i + 1) * 3) w.drew cur hh (by rw [hDl]; omega)
 rw [← hW1] at h1
 have hv1 : W1.heap[vb]? = some (.cells vcur 38 (0, 0)) := by rw [hW1, setCells_far _ _ _ hvb]; exact hvh
 have hcp2 : ∀ (W : World), (∀ x, W.cell? x = W1.cell? x) → (∀ x, W.frozen? x = W1.frozen? x) → ∀ ty dc, (Builtin.copy_ #[26, 26] ty #[.slice (some ⟨g, i * 3, none⟩) (n + 1 - i) dc, .slice (some ⟨vb, 0, none⟩) 1 vc]).run Try.prog W = .ok (goInt ((1 : Nat) : Int)) (W.setCells g (i * 3) (enc38 y)) := fun W hWc hWf ty dc =>
  Flat.run_copy_k W 26 26 ty 38 g (i * 3) (n + 1 - i) dc ⟨vb, 0, none⟩ 1 vc 3 1 _ Try.underlying26 hsz (by simp only [Nat.min_def]; split <;> omega) hYl
   (fun j v hj => by rw [hWc]; exact hvcell W1 hv1 j v hj) (fun j hj => by rw [hWc, blk_cell h1]; rw [hYl] at hj; simp; omega) (fun j hj => by rw [hWf]; exact blk_frozen h1 _) (flat38.one y)
 have HI := Aside0.mk (Flat.ins_room flat38 hn (W := w.drew) hh hcs ht i (by omega) hroom y)
 have HW := Aside0.mk hW1
 have HH := Aside0.mk (And.intro hB (And.intro hbg (And.intro hok (And.intro hcm hn))))
 rw [← hW1] at hcp1
 clear hh hvh ht hvt hcell hvcell hsome hfz ho0 ho2 hone hDe h1 hv1 hW1 hsz hB
 go_enter Try.func90, Try.ntmps90
 go_wp2_with (simp only [hov])
 go_region_law_o (refine step_copy_runI rfl _ _ 26 26 rfl _ _ (by simp [Act.eval, Act.put]) (by simp [Act.eval, Act.put]) (hcp1 _ _ _) ?_)
 go_wp2_with (at_builtin; refine wpList_copy_runI _ rfl _ _ 26 26 rfl _ _ rfl rfl (hcp2 _ (fun _ => rfl) (fun _ => rfl) _ _) ?_)
 go_ret
 obtain ⟨cur2, h2, s2, t2⟩ := HI.out
 obtain ⟨hB, hbg, hok, hcm, hn⟩ := HH.out
 rw [HW.out]
 refine ⟨_, rfl, Flat.R_shut flat38 hbg (.inl (.inl hok)) (by simp [List.length_take, List.length_drop]; omega) hroom hcm h2 s2 t2, ?_, ?_⟩
 ·exact Flat.below_cells (Flat.below_cells hB.drew hbg _ _) hbg _ _
 ·exact Flat.kept_cells (Flat.kept_cells (Kept.drew (Kept.refl _ _)) (.inl (.inl hok)) _ _) (.inl (.inl hok)) _ _
set_option maxHeartbeats 8000000 in
set_option maxRecDepth 100000 in
theorem ins90_grow (g c i vb vc n : Nat) (l0 : List S38) (y : S38) (w0 w : World) (P0_ P2_ : Nat → Prop) (hn : l0.length = n) (hi : i < n) (hroom : c < n + 1) (hbig : (n + 1) * 40 ≤ 140737488355328) (hB : Below w0.heap.size w0 w) (ho0 : Kd.R k38 38 w w0.heap.size P0_ (.slice (some ⟨g, 0, none⟩) n c) l0) (ho2 : Kd.R k38 38 w w0.heap.size P2_ (.slice (some ⟨vb, 0, none⟩) 1 vc) [y]) :
  Calls Try.prog 90 #[.slice (some ⟨g, 0, none⟩) n c, .int .i64 i, .slice (some ⟨vb, 0, none⟩) 1 vc] w fun e w' => ∃ v0_ : Value, e = .returned v0_ ∧ Kd.R k38 38 w' w0.heap.size (fun k_ => ((P0_ k_ ∨ P2_ k_) ∨ w.heap.size ≤ k_)) v0_ (l0.take i ++ [y] ++ l0.drop i) ∧ Below w0.heap.size w0 w' ∧ Kept w w' (fun k_ => P0_ k_ ∨ P2_ k_) := by
 obtain ⟨hbg, hok, _, hnc, hcm, cur, hh, hcs, ht⟩ := Flat.R_open flat38 ho0
 obtain ⟨hbv, _, _, hvc, hvcm, vcur, hvh, hvcs, hvt⟩ := Flat.R_open flat38 ho2
 change cur.size = c * 3 at hcs
 change vcur.size = vc * 3 at hvcs
 change cur.toList.take (n * 3) = _ at ht
 change vcur.toList.take (1 * 3) = enc38 y ++ [] at hvt
 rw [List.append_nil] at hvt
 have hc63 : c ≤ 9223372036854775807 := by simp only [maxLen] at hcm; omega
 have mixed : Try.prog.follows .mixedOrders = true := by kernel_rfl
 obtain ⟨i0, hi0, hz0, hzs, hzb⟩ := info_parts info38
 have hsz : (Try.prog.info? 38).map (·.size) = some 3 := by rw [hi0]; simp [hzs]
 have hYl : (enc38 y).length = 3 := rfl
 have hDl : ((l0.drop i).flatMap enc38).length = (n - i) * 3 := by rw [Flat.flat_len flat38.len, List.length_drop, hn]; rfl
 have hDe := Flat.flat_drop (enc := enc38) (sz := 3) flat38.len l0 i (by omega)
 have hTe := Flat.flat_take (enc := enc38) (sz := 3) flat38.len l0 i (by omega)
 have hTl : ((l0.take i).flatMap enc38).length = i * 3 := by rw [Flat.flat_len flat38.len, List.length_take, hn, Nat.min_eq_left (by omega)]; rfl
 have hone : ∀ (xs : List S38), ∀ v ∈ xs.flatMap enc38, v.oneCell' = true := fun xs v hv => by
  obtain ⟨x, _, hx⟩ := List.mem_flatMap.1 hv
  exact flat38.one x v hx
 have hcell : ∀ (W : World), W.heap[g]? = some (.cells cur 38 (0, 0)) → ∀ j v, ((l0.drop i).flatMap enc38)[j]? = some v → W.cell? ((⟨g, i * 3, none⟩ : Addr).add j) = some v := fun W hW j v hj => by
  rw [Addr.add_lit, blk_cell hW, ← Array.getElem?_toList]
  rw [hDe, ← ht, List.getElem?_drop, List.getElem?_take] at hj
  split at hj
  ·exact hj
  ·cases hj
 have hcellT : ∀ j v, ((l0.take i).flatMap enc38)[j]? = some v → w.cell? ((⟨g, 0, none⟩ : Addr).add j) = some v := fun j v hj => by
  rw [Addr.add_lit, Nat.zero_add, blk_cell hh, ← Array.getElem?_toList]
  rw [hTe, ← ht, List.getElem?_take] at hj
  split at hj
  ·rw [List.getElem?_take] at hj
   split at hj
   ·exact hj
   ·cases hj
  ·cases hj
 have hvcell : ∀ (W : World), W.heap[vb]? = some (.cells vcur 38 (0, 0)) → ∀ j v, (enc38 y)[j]? = some v → W.cell? ((⟨vb, 0, none⟩ : Addr).add j) = some v := fun W hW j v hj => by
  rw [Addr.add_lit, Nat.zero_add, blk_cell hW, ← Array.getElem?_toList]
  rw [← hvt, List.getElem?_take] at hj
  split at hj
  ·exact hj
  ·cases hj
 have hbw : g < w.heap.size := blk_lt hh
 have hvw : vb < w.heap.size := blk_lt hvh
 have hkk : (n : Int) + (1 : Int) - (i : Int) = ((n + 1 - i : Nat) : Int) := by omega
 have hik : i + (n + 1 - i) = n + 1 := by omega
 have hold : (Builtin.firstCells i0.size i (.slice (some ⟨g, 0, none⟩) i c)).run Try.prog w.drew = .ok ((l0.take i).flatMap enc38).toArray w.drew := by
  rw [hzs]
  exact run_firstCells_some w.drew 3 i ⟨g, 0, none⟩ i c _ hTl (fun j v hj => hcellT j v hj)
 have hrz : ∀ ty, (Builtin.append_ #[26, 3] ty #[.slice (some ⟨g, 0, none⟩) i c, .int .i64 ((n : Int) + (1 : Int) - (i : Int))]).run Try.prog w =
   .ok (.slice (some ⟨w.heap.size, 0, none⟩) (n + 1) (grownCap w (n + 1) c 38)) (w.drew.alloc (.cells (((l0.take i).flatMap enc38).toArray ++ Builtin.zeroCells ((.agg #[(.string ⟨#[]⟩), (.bool false), (.string ⟨#[]⟩)]) : Value).cells (n + 1 - i) ++ Builtin.zeroCells ((.agg #[(.string ⟨#[]⟩), (.bool false), (.string ⟨#[]⟩)]) : Value).cells (grownCap w (n + 1) c 38 - (n + 1))) 38)) := fun ty => by
  have h := Lib.run_append_grow_zeros w 26 3 ty 38 i0 _ .i64 .i64 Try.underlying26 Try.underlying3 hi0 hz0 (some ⟨g, 0, none⟩) i c _ hold (n + 1 - i) (by omega) (by omega) (by omega) (by omega) (by rw [hzb]; omega) (by rw [hzb, hik]; exact growslice_fits hroom hbig)
  rw [hik] at h
  rw [hkk]
  exact h
 obtain ⟨G, hG⟩ : ∃ G, G = grownCap w (n + 1) c 38 := ⟨_, rfl⟩
 obtain ⟨ROW, hROW⟩ : ∃ ROW : Array Value, ROW = ((l0.take i).flatMap enc38).toArray ++ Builtin.zeroCells ((.agg #[(.string ⟨#[]⟩), (.bool false), (.string ⟨#[]⟩)]) : Value).cells (n + 1 - i) ++ Builtin.zeroCells ((.agg #[(.string ⟨#[]⟩), (.bool false), (.string ⟨#[]⟩)]) : Value).cells (G - (n + 1)) := ⟨_, rfl⟩
 rw [← hG] at hrz
 rw [← hROW] at hrz
 have hGn : n + 1 ≤ G := by rw [hG]; exact grownCap_ge w _ _ _
 have hGm : G ≤ maxLen := by rw [hG]; exact grownCap_le_maxLen w (n + 1) c 38 (by unfold maxLen; omega)
 have hG63 : G ≤ 9223372036854775807 := by unfold maxLen at hGm; omega
 have hRs : ROW.size = G * 3 := by
  rw [hROW]
  simp [Builtin.zeroCells, Value.cells, hTl]
  omega
 have hRt : ROW.toList.take (i * 3) = (l0.take i).flatMap enc38 := by
  rw [hROW]
  simp only [Array.toList_append, List.append_assoc]
  rw [List.take_left' (by rw [← hTl])]
 obtain ⟨W1, hW1⟩ : ∃ W1, W1 = w.drew.alloc (.cells ROW 38) := ⟨_, rfl⟩
 rw [← hW1] at hrz
 have hN : W1.heap[w.heap.size]? = some (.cells ROW 38 (0, 0)) := by rw [hW1]; exact heap_alloc_new w.drew _
 have hOg : W1.heap[g]? = some (.cells cur 38 (0, 0)) := by rw [hW1]; exact blk_alloc (w := w.drew) hh _
 have hOv : W1.heap[vb]? = some (.cells vcur 38 (0, 0)) := by rw [hW1]; exact blk_alloc (w := w.drew) hvh _
 have hcpA : ∀ (W : World), (∀ x, W.cell? x = W1.cell? x) → (∀ x, W.frozen? x = W1.frozen? x) → ∀ ty dc, (Builtin.copy_ #[26, 26] ty #[.slice (some ⟨w.heap.size, i * 3, none⟩) (n + 1 - i) dc, .slice (some ⟨vb, 0, none⟩) 1 vc]).run Try.prog W = .ok (goInt ((1 : Nat) : Int)) (W.setCells w.heap.size (i * 3) (enc38 y)) := fun W hWc hWf ty dc =>
  Flat.run_copy_k W 26 26 ty 38 w.heap.size (i * 3) (n + 1 - i) dc ⟨vb, 0, none⟩ 1 vc 3 1 _ Try.underlying26 hsz (by simp only [Nat.min_def]; split <;> omega) hYl
   (fun j v hj => by rw [hWc]; exact hvcell W1 hOv j v hj) (fun j hj => by rw [hWc, blk_cell hN]; rw [hYl] at hj; simp; omega) (fun j hj => by rw [hWf]; exact blk_frozen hN _) (flat38.one y)
 obtain ⟨cur1, h1, s1, _⟩ := setCells_row (enc38 y) (i * 3) W1 ROW hN (by rw [hYl]; omega)
 have hbN : g ≠ w.heap.size := by omega
 have hO1 : (W1.setCells w.heap.size (i * 3) (enc38 y)).heap[g]? = some (.cells cur 38 (0, 0)) := by rw [setCells_far _ _ _ hbN]; exact hOg
 have hcpB : ∀ (W : World), (∀ x, W.cell? x = (W1.setCells w.heap.size (i * 3) (enc38 y)).cell? x) → (∀ x, W.frozen? x = (W1.setCells w.heap.size (i * 3) (enc38 y)).frozen? x) → ∀ ty dc sc, (Builtin.copy_ #[26, 26] ty #[.slice (some ⟨w.heap.size, (i + 1) * 3, none⟩) (n - i) dc, .slice (some ⟨g, i * 3, none⟩) (n - i) sc]).run Try.prog W = .ok (goInt ((n - i : Nat) : Int)) (W.setCells w.heap.size ((i + 1) * 3) ((l0.drop i).flatMap enc38)) := fun W hWc hWf ty dc sc =>
  Flat.run_copy_k W 26 26 ty 38 w.heap.size ((i + 1) * 3) (n - i) dc ⟨g, i * 3, none⟩ (n - i) sc 3 (n - i) _ Try.underlying26 hsz (by simp only [Nat.min_def]; split <;> omega) hDl
   (fun j v hj => by rw [hWc]; exact hcell _ hO1 j v hj) (fun j hj => by rw [hWc, blk_cell h1]; rw [hDl] at hj; simp; omega) (fun j hj => by rw [hWf]; exact blk_frozen h1 _) (hone _)
 have HI := Aside0.mk (Flat.ins_grow flat38 hn (W := W1) hN hRs i (by omega) hRt hGn y)
 have hGi : ¬ (G = i) := by omega
 have hGim : ¬ (G = i + 1) := by omega
 have hci : ¬ (c = i) := by omega
 subst hW1
 have hE1 : ∀ x, ((w.alloc (.cells ROW 38)).drew).cell? x = (w.drew.alloc (.cells ROW 38)).cell? x := fun x => rfl
 have hE2 : ∀ x, ((w.alloc (.cells ROW 38)).drew).frozen? x = (w.drew.alloc (.cells ROW 38)).frozen? x := fun x => rfl
 have hF1 : ∀ x, (((w.alloc (.cells ROW 38)).drew.setCells w.heap.size (i * 3) (enc38 y)).drew).cell? x = ((w.drew.alloc (.cells ROW 38)).setCells w.heap.size (i * 3) (enc38 y)).cell? x := fun x => rfl
 have hF2 : ∀ x, (((w.alloc (.cells ROW 38)).drew.setCells w.heap.size (i * 3) (enc38 y)).drew).frozen? x = ((w.drew.alloc (.cells ROW 38)).setCells w.heap.size (i * 3) (enc38 y)).frozen? x := fun x => rfl
 have hz1 : ¬ ((1 : Int) = 0) := by omega
 have hz2 : ¬ ((i : Int) = (n : Int)) := by omega
 have hz3 : (c : Int) < (n : Int) + (1 : Int) := by omega
 have hw1 : IntKind.i64.wrap ((i : Int) + (1 : Int)) = (i : Int) + (1 : Int) := by rw [IntKind.wrap_i64]; omega
 have hw2 : IntKind.i64.wrap ((n : Int) + (1 : Int)) = (n : Int) + (1 : Int) := by rw [IntKind.wrap_i64]; omega
 have hb1 : (0 : Int) ≤ (i : Int) + (1 : Int) := by omega
 have hin : i ≤ n := by omega
 have htn : ((i : Int) + (1 : Int)).toNat = i + 1 := by omega
 have hb3 : (i : Int) ≤ (n : Int) := by omega
 have HH := Aside0.mk (And.intro hB (And.intro hGm hn))
 clear hkk hik hold hROW hG hRt hRs hN hOg hOv h1 hO1 s1 hcell hcellT hvcell hone hDe hTe hTl hh hvh ht hvt hsz ho0 ho2 hB
 go_enter Try.func90, Try.ntmps90
 go_wp2_with (first
  | (at_builtin; refine Lib.wpList_append_run _ rfl _ _ _ _ rfl _ _ rfl rfl _ _ (hrz _) ?_)
  | (at_builtin; refine wpList_copy_runI _ rfl _ _ 26 26 rfl _ _ rfl rfl (hcpA _ hE1 hE2 _ _) ?_)
  | (at_builtin; refine wpList_copy_runI _ rfl _ _ 26 26 rfl _ _ rfl rfl (hcpB _ (fun _ => rfl) (fun _ => rfl) _ _ _) ?_))
 go_region_law_o (refine step_copy_runI rfl _ _ 26 26 rfl (.slice (some ⟨w.heap.size, (i + 1) * 3, none⟩) (n - i) (G - (i + 1))) (.slice (some ⟨g, i * 3, none⟩) (n - i) (c - i)) (by simp [Act.eval, Act.put]) (by simp [Act.eval, Act.put]) (hcpB _ hF1 hF2 3 (G - (i + 1)) (c - i)) ?_)
 go_wp2
 go_ret
 obtain ⟨cur2, h2, s2, t2⟩ := HI.out
 obtain ⟨hB, hGm, hn⟩ := HH.out
 have hE : ((w.alloc (.cells ROW 38)).drew.setCells w.heap.size (i * 3) (enc38 y)).drew.setCells w.heap.size ((i + 1) * 3) ((l0.drop i).flatMap enc38) = (((w.drew.alloc (.cells ROW 38)).setCells w.heap.size (i * 3) (enc38 y)).setCells w.heap.size ((i + 1) * 3) ((l0.drop i).flatMap enc38)).drew := (drew_setCells _ _ _ _).symm
 rw [hE]
 refine ⟨_, rfl, Kd.R_drew (Flat.R_shut flat38 hB.size (.inr (Nat.le_refl _)) (by simp [List.length_take, List.length_drop]; omega) (by omega) hGm h2 s2 t2), ?_, ?_⟩
 ·exact (Flat.below_cells (Flat.below_cells (hB.drew.alloc hB.size _) hB.size _ _) hB.size _ _).drew
 ·exact Kept.drew (Flat.kept_cells (Flat.kept_cells (Kept.alloc (Kept.drew (Kept.refl _ _)) _) (.inr (Nat.le_refl _)) _ _) (.inr (Nat.le_refl _)) _ _)
theorem ins90 (P0_ : Nat → Prop) (u9000_ : Value) (l0 : List S38) (i : Nat) (P2_ : Nat → Prop) (u9001_ : Value) (y : S38) (w0 w : World) (hB : Below w0.heap.size w0 w) (ho0 : Kd.R k38 38 w w0.heap.size P0_ u9000_ l0) (hp0_2 : ∀ k_, P0_ k_ → ¬ P2_ k_) (ho2 : Kd.R k38 38 w w0.heap.size P2_ u9001_ [y]) (hi : i ≤ l0.length) (hbig : (l0.length + 1) * 40 ≤ 140737488355328) :
  Calls Try.prog 90 #[u9000_, .int .i64 i, u9001_] w fun e w' => ∃ v0_ : Value, e = .returned v0_ ∧ Kd.R k38 38 w' w0.heap.size (fun k_ => ((P0_ k_ ∨ P2_ k_) ∨ w.heap.size ≤ k_)) v0_ (l0.take i ++ [y] ++ l0.drop i) ∧ Below w0.heap.size w0 w' ∧ Kept w w' (fun k_ => P0_ k_ ∨ P2_ k_) := by
 obtain ⟨vb, vc, hv, _, _, _⟩ := Kd.R_form ho2 (by simp)
 have hv2 : u9001_ = .slice (some ⟨vb, 0, none⟩) 1 vc := hv
 subst hv2
 by_cases hin : i = l0.length
 ·subst hin
  rw [List.take_length, List.drop_length, List.append_nil]
  exact ins90_end P0_ u9000_ l0 P2_ vb vc y w0 w hB ho0 ho2 hbig
 ·rcases Flat.R_form0 ho0 with ⟨_, hn⟩ | ⟨g, c, rfl, hnc, hcm⟩
  ·omega
  by_cases hroom : l0.length + 1 ≤ c
  ·exact ins90_room g c i vb vc l0.length l0 y w0 w P0_ P2_ rfl (by omega) hroom (fun e => hp0_2 g (ho0.1 g rfl) (e ▸ ho2.1 vb rfl)) hB ho0 ho2
  ·exact ins90_grow g c i vb vc l0.length l0 y w0 w P0_ P2_ rfl (by omega) (by omega) hbig hB ho0 ho2
def slices_Insert_Item.f (l0 : List S38) (a1 : Int) (l2 : List S38) : Option (List S38) := if (0 ≤ a1 ∧ a1 ≤ (l0.length : Int)) ∧ l2.length = 1 ∧ (l0.length + 1) * 40 ≤ 140737488355328 then some (l0.take a1.toNat ++ l2 ++ l0.drop a1.toNat) else none
theorem slices_Insert_Item.calls (P0_ : Nat → Prop) (u9000_ : Value) (l0 : List S38) (a1 : Int) (P2_ : Nat → Prop) (u9001_ : Value) (l2 : List S38) (r : List S38) (w0 w : World) (hB : Below w0.heap.size w0 w) (ho0 : Kd.R k38 38 w w0.heap.size P0_ u9000_ l0) (hp0_2 : ∀ k_, P0_ k_ → ¬ P2_ k_) (ho2 : Kd.R k38 38 w w0.heap.size P2_ u9001_ l2) (hp2_0 : ∀ k_, P2_ k_ → ¬ P0_ k_) (h : slices_Insert_Item.f l0 a1 l2 = some r) :
  Calls Try.prog 90 #[u9000_, .int .i64 a1, u9001_] w fun e w' => ∃ v0_ : Value, e = .returned v0_ ∧ Kd.R k38 38 w' w0.heap.size (fun k_ => ((P0_ k_ ∨ P2_ k_) ∨ w.heap.size ≤ k_)) v0_ r ∧ Below w0.heap.size w0 w' ∧ Kept w w' (fun k_ => P0_ k_ ∨ P2_ k_) := by
 unfold slices_Insert_Item.f at h
 split at h
 case isFalse => cases h
 case isTrue hc =>
 obtain ⟨⟨h0, h1⟩, h2, h3⟩ := hc
 obtain rfl := Option.some.inj h
 obtain ⟨y, rfl⟩ := List.length_eq_one_iff.1 h2
 obtain ⟨c, rfl⟩ := Int.eq_ofNat_of_zero_le h0
 exact ins90 P0_ u9000_ l0 c P2_ u9001_ y w0 w hB ho0 hp0_2 ho2 (by omega) h3

/-! ### impl_PutItem: function 25 -/
def impl_PutItem.f (l0_0 : List (S38)) (a1_0 : ByteArray) (a1_1 : Bool) (a1_2 : ByteArray) : Option ((List (S38))) := (impl_DropItem.f l0_0 a1_0).bind fun t182 => ((slices_IndexFunc_Item_g89.f t182 a1_0 a1_1 a1_2).bind fun t186 => (if t186 < 0 then ((slices_Insert_Item.f t182 (t182.length : Int) (([(⟨a1_0, a1_1, a1_2⟩ : S38)] : List (S38)))).bind fun t190 => (some t190)) else ((slices_Insert_Item.f t182 t186 (([(⟨a1_0, a1_1, a1_2⟩ : S38)] : List (S38)))).bind fun t196 => (some t196))))
set_option maxHeartbeats 8000000 in
set_option maxRecDepth 100000 in
theorem impl_PutItem.calls (A0_0 : Option Addr) (c0_0 : Nat) (l0_0 : List (S38)) (a1_0 : ByteArray) (a1_1 : Bool) (a1_2 : ByteArray) (r : List (S38)) (w : World) (hr0_0 : Kd.C k38 w A0_0 l0_0.length l0_0) (hc0_0 : l0_0.length ≤ c0_0) (h : impl_PutItem.f l0_0 a1_0 a1_1 a1_2 = some r) :
  Calls Try.prog 25 #[.agg #[.slice A0_0 l0_0.length c0_0], .agg #[.string a1_0, .bool a1_1, .string a1_2]] w fun e w' => ∃ v0_ : Value, e = .returned (.agg #[v0_]) ∧ Kd.R k38 38 w' w.heap.size (fun _ => True) v0_ r ∧ Below w.heap.size w w' := by
 have hu28 := Try.underlying28
 have hu38 := Try.underlying38
 have HR0_0 := Aside0.mk hr0_0
 have HC0_0 := Aside0.mk hc0_0
 clear hr0_0 hc0_0
 have HB := Aside0.mk (Below.refl w.heap.size w)
 have H : ((impl_DropItem.f l0_0 a1_0).bind fun t182 => ((slices_IndexFunc_Item_g89.f t182 a1_0 a1_1 a1_2).bind fun t186 => (if t186 < 0 then ((slices_Insert_Item.f t182 (t182.length : Int) (([(⟨a1_0, a1_1, a1_2⟩ : S38)] : List (S38)))).bind fun t190 => (some t190)) else ((slices_Insert_Item.f t182 t186 (([(⟨a1_0, a1_1, a1_2⟩ : S38)] : List (S38)))).bind fun t196 => (some t196))))) = some r := h
 clear h
 replace H := Option.bind_eq_some_iff.mp H
 obtain ⟨t182, A30, H⟩ := H
 replace H : ((slices_IndexFunc_Item_g89.f t182 a1_0 a1_1 a1_2).bind fun t186 => (if t186 < 0 then ((slices_Insert_Item.f t182 (t182.length : Int) (([(⟨a1_0, a1_1, a1_2⟩ : S38)] : List (S38)))).bind fun t190 => (some t190)) else ((slices_Insert_Item.f t182 t186 (([(⟨a1_0, a1_1, a1_2⟩ : S38)] : List (S38)))).bind fun t196 => (some t196)))) = some r := H
 have A3 := Aside0.mk A30
 clear A30
 replace H := Option.bind_eq_some_iff.mp H
 obtain ⟨t186, A40, H⟩ := H
 replace H : (if t186 < 0 then ((slices_Insert_Item.f t182 (t182.length : Int) (([(⟨a1_0, a1_1, a1_2⟩ : S38)] : List (S38)))).bind fun t190 => (some t190)) else ((slices_Insert_Item.f t182 t186 (([(⟨a1_0, a1_1, a1_2⟩ : S38)] : List (S38)))).bind fun t196 => (some t196))) = some r := H
 have A4 := Aside0.mk A40
 clear A40
 by_cases c5 : t186 < 0
 ·rw [if_pos c5] at H
  have c5b0 : decide (t186 < 0) = true := decide_eq_true c5
  clear c5
  obtain ⟨y187, hy187⟩ : ∃ y_ : List (S38), y_ = (([(⟨a1_0, a1_1, a1_2⟩ : S38)] : List (S38))) := ⟨_, rfl⟩
  replace H : ((slices_Insert_Item.f t182 (t182.length : Int) y187).bind fun t190 => (some t190)) = some r := by first | (rw [hy187]; with_reducible exact H) | (have H2_ := (Option.bind_some _ _).symm.trans H; rw [hy187]; with_reducible exact H2_) | (have H2_ := (Option.bind_some _ _).symm.trans H; with_reducible exact H2_) | with_reducible exact H | (rw [hy187]; exact H) | exact H
  have Ny187 := Aside0.mk hy187
  clear hy187
  replace H := Option.bind_eq_some_iff.mp H
  obtain ⟨t190, A60, H⟩ := H
  replace H : (some t190) = some r := H
  have A6 := Aside0.mk A60
  clear A60
  obtain rfl := Option.some.inj H
  go_enter Try.func25, Try.ntmps25
  go_wp2_with (first | ((with_reducible refine gate_dst (N := 2) rfl ?_); refine box_event ?hg (N := 2) ?hd (cs := #[.slice A0_0 l0_0.length c0_0]) (t := 28) ?hr ?_; (case hd => rfl); (case hg => rfl); (case hr => first | (go_simp; done) | (go_simp; rfl)); intro gb179 hg w7 hbox hb; have n0_ := Aside0.mk (below_step tq_0 hb); have n1_ := Aside0.mk (hbox); have n2_ := Aside0.mk (gb_ hg tq_0); have n3_ := Aside0.mk (gb_ hg tq_0); clear HB; have HB := n0_; have BK179 := n1_; have GW179 := n2_; have GE179 := n3_; clear n0_ n1_ n2_ n3_; clear hb hbox hg) | ((with_reducible refine gate_dst (N := 3) rfl ?_); refine box_event ?hg (N := 3) ?hd (cs := #[.string a1_0, .bool a1_1, .string a1_2]) (t := 38) ?hr ?_; (case hd => rfl); (case hg => rfl); (case hr => first | (go_simp; done) | (go_simp; rfl)); intro gb180 hg w8 hbox hb; have n0_ := Aside0.mk (blk_below tq_17 hb); have n1_ := Aside0.mk (below_step tq_35 hb); have n2_ := Aside0.mk (hbox); have n3_ := Aside0.mk (gb_ hg tq_35); have n4_ := Aside0.mk (gb_ hg tq_35); have n5_ := Aside0.mk (ltne_ hg (blk_lt tq_17)); have n6_ := Aside0.mk (gtne_ hg (blk_lt tq_17)); clear BK179 HB; have BK179 := n0_; have HB := n1_; have BK180 := n2_; have GW180 := n3_; have GE180 := n4_; have NB179_180 := n5_; have NB180_179 := n6_; clear n0_ n1_ n2_ n3_ n4_ n5_ n6_; clear hb hbox hg) | ((with_reducible refine gate_dst (N := 4) rfl ?_); refine box_event ?hg (N := 4) ?hd (cs := #[.slice none 0 0]) (t := 28) ?hr ?_; (case hd => rfl); (case hg => rfl); (case hr => first | (go_simp; done) | (go_simp; rfl)); intro gb181 hg w9 hbox hb; have n0_ := Aside0.mk (blk_below tq_17 hb); have n1_ := Aside0.mk (blk_below tq_16 hb); have n2_ := Aside0.mk (below_step tq_33 hb); have n3_ := Aside0.mk (hbox); have n4_ := Aside0.mk (gb_ hg tq_33); have n5_ := Aside0.mk (gb_ hg tq_33); have n6_ := Aside0.mk (ltne_ hg (blk_lt tq_17)); have n7_ := Aside0.mk (gtne_ hg (blk_lt tq_17)); have n8_ := Aside0.mk (ltne_ hg (blk_lt tq_16)); have n9_ := Aside0.mk (gtne_ hg (blk_lt tq_16)); clear BK179 BK180 HB; have BK179 := n0_; have BK180 := n1_; have HB := n2_; have BK181 := n3_; have GW181 := n4_; have GE181 := n5_; have NB179_181 := n6_; have NB181_179 := n7_; have NB180_181 := n8_; have NB181_180 := n9_; clear n0_ n1_ n2_ n3_ n4_ n5_ n6_ n7_ n8_ n9_; clear hb hbox hg; have hnb10 := NB179_180.out; have hnc10 := NB180_179.out; have hnb11 := NB179_181.out; have hnc11 := NB181_179.out; have hcz12_0 := bc_ BK179.out 0; have hfz12_0 := blk_frozen BK179.out 0; have hnb13 := NB180_181.out; have hnc13 := NB181_180.out; have hcz14_0 := bc_ BK180.out 0; have hcz14_1 := bc_ BK180.out 1; have hcz14_2 := bc_ BK180.out 2; have hfz14_0 := blk_frozen BK180.out 0; have hfz14_1 := blk_frozen BK180.out 1; have hfz14_2 := blk_frozen BK180.out 2) | ((with_reducible refine gate_callee (f := 18) rfl ?_); refine goesL_ (some 10) rfl rfl Try.func18 (by kernel_rfl) rfl #[.agg #[.slice A0_0 l0_0.length c0_0], .string a1_0] rfl tq_4 ?_; (with_reducible refine (impl_DropItem.calls _ _ l0_0 a1_0 t182 _ ?side1 ?side2 A3.out).mono ?_); (case side1 => exact tq_19); (case side2 => exact HC0_0.out); rintro e w15 ⟨v183, rfl, ho0, hb⟩; refine ⟨_, rfl, ?_⟩; have n0_ := Aside0.mk (Kd.R_lower (Kd.R_newB ho0 (g := gb180) (o := .cells #[.string a1_0, .bool a1_1, .string a1_2] 38 (0, 0)) tq_16) (below_size tq_21)); have n1_ := Aside0.mk (blk_below tq_17 hb); have n2_ := Aside0.mk (blk_below tq_16 hb); have n3_ := Aside0.mk (blk_below tq_29 hb); have n4_ := Aside0.mk (below_step tq_21 hb); clear BK179 BK180 BK181 HB; have HO184 := n0_; have BK179 := n1_; have BK180 := n2_; have BK181 := n3_; have HB := n4_; clear n0_ n1_ n2_ n3_ n4_; (try clear hb); (try clear hb2); (try clear hk); (try clear hi); (try clear ho0)) | ((with_reducible refine gate_dst (N := 5) rfl ?_); refine box_event ?hg (N := 5) ?hd (cs := #[.slice none 0 0]) (t := 28) ?hr ?_; (case hd => rfl); (case hg => rfl); (case hr => first | (go_simp; done) | (go_simp; rfl)); intro gb185 hg w16 hbox hb; have n0_ := Aside0.mk (Kd.R_below tq_44 hb); have n1_ := Aside0.mk (blk_below tq_17 hb); have n2_ := Aside0.mk (blk_below tq_16 hb); have n3_ := Aside0.mk (blk_below tq_29 hb); have n4_ := Aside0.mk (below_step tq_21 hb); have n5_ := Aside0.mk (hbox); have n6_ := Aside0.mk (gb_ hg tq_21); have n7_ := Aside0.mk (gb_ hg tq_21); have n8_ := Aside0.mk (ltne_ hg (blk_lt tq_17)); have n9_ := Aside0.mk (gtne_ hg (blk_lt tq_17)); have n10_ := Aside0.mk (ltne_ hg (blk_lt tq_16)); have n11_ := Aside0.mk (gtne_ hg (blk_lt tq_16)); have n12_ := Aside0.mk (ltne_ hg (blk_lt tq_29)); have n13_ := Aside0.mk (gtne_ hg (blk_lt tq_29)); clear HO184 BK179 BK180 BK181 HB; have HO184 := n0_; have BK179 := n1_; have BK180 := n2_; have BK181 := n3_; have HB := n4_; have BK185 := n5_; have GW185 := n6_; have GE185 := n7_; have NB179_185 := n8_; have NB185_179 := n9_; have NB180_185 := n10_; have NB185_180 := n11_; have NB181_185 := n12_; have NB185_181 := n13_; clear n0_ n1_ n2_ n3_ n4_ n5_ n6_ n7_ n8_ n9_ n10_ n11_ n12_ n13_; clear hb hbox hg; obtain ⟨Ao17, co17, eo17⟩ := Kd.R_slice HO184.out; subst eo17; have hnb18 := NB185_179.out; have hnc18 := NB179_185.out; have hnb19 := NB185_180.out; have hnc19 := NB180_185.out; have hnb20 := NB185_181.out; have hnc20 := NB181_185.out; have hcz21_0 := bc_ BK185.out 0; have hfz21_0 := blk_frozen BK185.out 0) | ((with_reducible refine gate_callee (f := 88) rfl ?_); refine goesL_ (some 14) rfl rfl Try.func88 (by kernel_rfl) rfl #[.slice Ao17 t182.length co17, .func (.func 89) #[] #[.pointer (some ⟨gb180, 0, none⟩)]] rfl tq_4 ?_; (with_reducible refine (slices_IndexFunc_Item_g89.calls _ _ t182 gb180 a1_0 a1_1 a1_2 t186 _ ?side1 ?side2 ?side3 A4.out).mono ?_); (case side1 => refine (Kd.R_reads' (e := 38) (base := w.heap.size) (ok := fun k_ => (True ∧ k_ ≠ gb180)) (n := t182.length) (c := co17) ?_).2.2; exact tq_86); (case side2 => exact (Kd.R_reads' HO184.out).2.1); (case side3 => (with_reducible repeat (first | refine blk_drewN ?_ _ | refine blk_drew ?_ | refine blk_alloc ?_ _)); refine blk_far ?_ NB180_185.out _; (with_reducible repeat (first | refine blk_drewN ?_ _ | refine blk_drew ?_ | refine blk_alloc ?_ _)); exact BK180.out); rintro e w22 ⟨rfl, hb⟩; refine ⟨_, rfl, ?_⟩; have n0_ := Aside0.mk (Kd.R_below tq_86 hb); have n1_ := Aside0.mk (blk_below (g := gb179) (o := .cells #[.slice A0_0 l0_0.length c0_0] 28 (0, 0)) tq_89 hb); have n2_ := Aside0.mk (blk_below (g := gb180) (o := .cells #[.string a1_0, .bool a1_1, .string a1_2] 38 (0, 0)) tq_88 hb); have n3_ := Aside0.mk (blk_below (g := gb181) (o := .cells #[.slice none 0 0] 28 (0, 0)) tq_87 hb); have n4_ := Aside0.mk (blk_below (g := gb185) (o := .cells #[.slice Ao17 t182.length co17] 28 (0, 0)) tq_78 hb); have n5_ := Aside0.mk (below_step tq_28 hb); clear HO184 BK179 BK180 BK181 BK185 HB; have HO184 := n0_; have BK179 := n1_; have BK180 := n2_; have BK181 := n3_; have BK185 := n4_; have HB := n5_; clear n0_ n1_ n2_ n3_ n4_ n5_; (try clear hb); (try clear hb2); (try clear hk); (try clear hi); have hcz23_0 := bc_ BK185.out 0; have hfz23_0 := blk_frozen BK185.out 0; have hcz24_0 := bc_ BK180.out 0; have hcz24_1 := bc_ BK180.out 1; have hcz24_2 := bc_ BK180.out 2; have hfz24_0 := blk_frozen BK180.out 0; have hfz24_1 := blk_frozen BK180.out 1; have hfz24_2 := blk_frozen BK180.out 2) | ((with_reducible refine gate_dst (N := 24) rfl ?_); refine Kd.R_lit k38 _ 38 ?hg (N := 24) ?hd (xs := ([(⟨a1_0, a1_1, a1_2⟩ : S38)] : List (S38))) (inner := [.string a1_0, .bool a1_1, .string a1_2]) (ok := fun _ => True) (okp := fun _ => True) ?hr ?hp (fun _ hk => hk) trivial (Below.refl _ _) (Nat.le_refl _) (by simp) ?_; (case hd => rfl); (case hg => rfl); (case hr => first | (go_simp; done) | (go_simp; rfl)); (case hp => exact tq_99); intro v188 w25 ho26 hb hg_ hnew_; clear hg_ hnew_; (first | rw [← Ny187.out] at ho26 | (simp only [Int.reduceToNat] at ho26; rw [← Ny187.out] at ho26)); have n0_ := Aside0.mk (Kd.R_elder' tq_44 (Kd.R_base ho26) hb); have n1_ := Aside0.mk (Kd.R_lower (Kd.R_newB (Kd.R_new' ho26 (Kd.R_lt tq_44)) (g := gb180) (o := .cells #[.string a1_0, .bool a1_1, .string a1_2] 38 (0, 0)) tq_16) (below_size tq_28)); have n2_ := Aside0.mk (blk_below tq_17 hb); have n3_ := Aside0.mk (blk_below tq_16 hb); have n4_ := Aside0.mk (blk_below tq_29 hb); have n5_ := Aside0.mk (blk_below tq_64 hb); have n6_ := Aside0.mk (below_step tq_28 hb); clear HO184 BK179 BK180 BK181 BK185 HB; have HO184 := n0_; have HO189 := n1_; have BK179 := n2_; have BK180 := n3_; have BK181 := n4_; have BK185 := n5_; have HB := n6_; clear n0_ n1_ n2_ n3_ n4_ n5_ n6_; clear hb ho26; obtain ⟨Ao27, co27, eo27⟩ := Kd.R_slice HO189.out; subst eo27) | ((with_reducible refine gate_callee (f := 90) rfl ?_); refine goesL_ (some 25) rfl rfl Try.func90 (by kernel_rfl) rfl #[.slice Ao17 t182.length co17, .int .i64 (t182.length : Int), .slice Ao27 y187.length co27] rfl tq_4 ?_; (with_reducible refine (slices_Insert_Item.calls (fun k_ => some k_ = (.slice Ao17 t182.length co17 : Value).ownBlock) (.slice Ao17 t182.length co17) t182 (t182.length : Int) (fun k_ => some k_ = (.slice Ao27 y187.length co27 : Value).ownBlock) (.slice Ao27 y187.length co27) y187 t190 w _ ?side1 ?side2 ?side3 ?side4 ?side5 A6.out).mono ?_); (case side1 => exact tq_90); (case side2 => exact Kd.R_tight rfl HO184.out); (case side3 => exact fun k_ e_ => (HO184.out.1 k_ e_.symm).2); (case side4 => exact Kd.R_tight rfl HO189.out); (case side5 => exact fun k_ e_ => (HO189.out.1 k_ e_.symm).1.2); rintro e w28 ⟨v191, rfl, ho0, hb, hkp⟩; refine ⟨_, rfl, ?_⟩; have n0_ := Aside0.mk (blk_kept tq_17 hkp (fun hs_ => Or.elim hs_ (fun e_ => (fun e_ => (Kd.R_ne HO184.out BK179.out (by decide)) e_) e_) (fun e_ => (fun e_ => (Kd.R_ne HO189.out BK179.out (by decide)) e_) e_))); have n1_ := Aside0.mk (blk_kept tq_16 hkp (fun hs_ => Or.elim hs_ (fun e_ => (fun e_ => (Kd.R_away HO184.out (fun _ hk => hk.1.2)) e_) e_) (fun e_ => (fun e_ => (Kd.R_away HO189.out (fun _ hk => hk.2)) e_) e_))); have n2_ := Aside0.mk (blk_kept tq_29 hkp (fun hs_ => Or.elim hs_ (fun e_ => (fun e_ => (Kd.R_ne HO184.out BK181.out (by decide)) e_) e_) (fun e_ => (fun e_ => (Kd.R_ne HO189.out BK181.out (by decide)) e_) e_))); have n3_ := Aside0.mk (blk_kept tq_64 hkp (fun hs_ => Or.elim hs_ (fun e_ => (fun e_ => (Kd.R_ne HO184.out BK185.out (by decide)) e_) e_) (fun e_ => (fun e_ => (Kd.R_ne HO189.out BK185.out (by decide)) e_) e_))); have n4_ := Aside0.mk (Kd.R_mono (ok' := fun k_ => k_ ≠ gb180) ho0 (fun k_ hk_ => Or.elim hk_ (fun hs_ => Or.elim hs_ (fun hs_ => fun e_ => (Kd.R_away HO184.out (fun _ hk => hk.1.2)) (by rw [← e_]; exact hs_)) (fun hs_ => fun e_ => (Kd.R_away HO189.out (fun _ hk => hk.2)) (by rw [← e_]; exact hs_))) (fun hn_ => (Kd.freshB (g := gb180) (o := .cells #[.string a1_0, .bool a1_1, .string a1_2] 38 (0, 0)) tq_16 k_ hn_)))); have n5_ := Aside0.mk (hb); clear BK179 BK180 BK181 BK185 HB HO184 HO189; have BK179 := n0_; have BK180 := n1_; have BK181 := n2_; have BK185 := n3_; have HO192 := n4_; have HB := n5_; clear n0_ n1_ n2_ n3_ n4_ n5_; (try clear hb); (try clear hkp); (try clear ho0); obtain ⟨Ao29, co29, eo29⟩ := Kd.R_slice HO192.out; subst eo29; have hcz30_0 := bc_ BK185.out 0; have hfz30_0 := blk_frozen BK185.out 0; have hcz31_0 := bc_ BK181.out 0; have hfz31_0 := blk_frozen BK181.out 0))
  refine bodyPost_ret (results_cell_row rfl _ _ gb181 28 #[.slice Ao29 t190.length co29] (0, 0) _ rfl tq_56 Try.underlying28 rfl (by kernel_rfl)) rfl ?_
  exact ⟨_, by first | rfl | (simp [errW_none, errW_some] <;> rfl) | (simp [*, errW_none, errW_some] <;> rfl), by (with_reducible repeat (first | apply Kd.R_alloc | apply Kd.R_drewN | apply Kd.R_drew)); exact Kd.R_mono (Kd.R_far (p := ⟨gb181, 0, none⟩) (Kd.R_far (p := ⟨gb185, 0, none⟩) (Kd.R_types (Kd.R_types HO192.out BK185.out (by decide)) BK181.out (by decide)) (fun _ hk => hk.1.2) (.slice Ao29 t190.length co29)) (fun _ hk => hk.2) (.slice Ao29 t190.length co29)) (fun _ hk => trivial), by repeat (first | (with_reducible first | exact HB.out | apply below_alloc | apply pw_below_drewN | apply below_drew1 | refine below_set ?_ GE179.out | refine below_set ?_ GE180.out | refine below_set ?_ GE181.out | refine below_set ?_ GE185.out) | exact HB.out)⟩
 ·rw [if_neg c5] at H
  have c5b0 : decide (t186 < 0) = false := decide_eq_false c5
  clear c5
  obtain ⟨y193, hy193⟩ : ∃ y_ : List (S38), y_ = (([(⟨a1_0, a1_1, a1_2⟩ : S38)] : List (S38))) := ⟨_, rfl⟩
  replace H : ((slices_Insert_Item.f t182 t186 y193).bind fun t196 => (some t196)) = some r := by first | (rw [hy193]; with_reducible exact H) | (have H2_ := (Option.bind_some _ _).symm.trans H; rw [hy193]; with_reducible exact H2_) | (have H2_ := (Option.bind_some _ _).symm.trans H; with_reducible exact H2_) | with_reducible exact H | (rw [hy193]; exact H) | exact H
  have Ny193 := Aside0.mk hy193
  clear hy193
  replace H := Option.bind_eq_some_iff.mp H
  obtain ⟨t196, A320, H⟩ := H
  replace H : (some t196) = some r := H
  have A32 := Aside0.mk A320
  clear A320
  obtain rfl := Option.some.inj H
  go_enter Try.func25, Try.ntmps25
  go_wp2_with (first | ((with_reducible refine gate_dst (N := 2) rfl ?_); refine box_event ?hg (N := 2) ?hd (cs := #[.slice A0_0 l0_0.length c0_0]) (t := 28) ?hr ?_; (case hd => rfl); (case hg => rfl); (case hr => first | (go_simp; done) | (go_simp; rfl)); intro gb179 hg w33 hbox hb; have n0_ := Aside0.mk (below_step tq_0 hb); have n1_ := Aside0.mk (hbox); have n2_ := Aside0.mk (gb_ hg tq_0); have n3_ := Aside0.mk (gb_ hg tq_0); clear HB; have HB := n0_; have BK179 := n1_; have GW179 := n2_; have GE179 := n3_; clear n0_ n1_ n2_ n3_; clear hb hbox hg) | ((with_reducible refine gate_dst (N := 3) rfl ?_); refine box_event ?hg (N := 3) ?hd (cs := #[.string a1_0, .bool a1_1, .string a1_2]) (t := 38) ?hr ?_; (case hd => rfl); (case hg => rfl); (case hr => first | (go_simp; done) | (go_simp; rfl)); intro gb180 hg w34 hbox hb; have n0_ := Aside0.mk (blk_below tq_17 hb); have n1_ := Aside0.mk (below_step tq_35 hb); have n2_ := Aside0.mk (hbox); have n3_ := Aside0.mk (gb_ hg tq_35); have n4_ := Aside0.mk (gb_ hg tq_35); have n5_ := Aside0.mk (ltne_ hg (blk_lt tq_17)); have n6_ := Aside0.mk (gtne_ hg (blk_lt tq_17)); clear BK179 HB; have BK179 := n0_; have HB := n1_; have BK180 := n2_; have GW180 := n3_; have GE180 := n4_; have NB179_180 := n5_; have NB180_179 := n6_; clear n0_ n1_ n2_ n3_ n4_ n5_ n6_; clear hb hbox hg) | ((with_reducible refine gate_dst (N := 4) rfl ?_); refine box_event ?hg (N := 4) ?hd (cs := #[.slice none 0 0]) (t := 28) ?hr ?_; (case hd => rfl); (case hg => rfl); (case hr => first | (go_simp; done) | (go_simp; rfl)); intro gb181 hg w35 hbox hb; have n0_ := Aside0.mk (blk_below tq_17 hb); have n1_ := Aside0.mk (blk_below tq_16 hb); have n2_ := Aside0.mk (below_step tq_33 hb); have n3_ := Aside0.mk (hbox); have n4_ := Aside0.mk (gb_ hg tq_33); have n5_ := Aside0.mk (gb_ hg tq_33); have n6_ := Aside0.mk (ltne_ hg (blk_lt tq_17)); have n7_ := Aside0.mk (gtne_ hg (blk_lt tq_17)); have n8_ := Aside0.mk (ltne_ hg (blk_lt tq_16)); have n9_ := Aside0.mk (gtne_ hg (blk_lt tq_16)); clear BK179 BK180 HB; have BK179 := n0_; have BK180 := n1_; have HB := n2_; have BK181 := n3_; have GW181 := n4_; have GE181 := n5_; have NB179_181 := n6_; have NB181_179 := n7_; have NB180_181 := n8_; have NB181_180 := n9_; clear n0_ n1_ n2_ n3_ n4_ n5_ n6_ n7_ n8_ n9_; clear hb hbox hg; have hnb36 := NB179_180.out; have hnc36 := NB180_179.out; have hnb37 := NB179_181.out; have hnc37 := NB181_179.out; have hcz38_0 := bc_ BK179.out 0; have hfz38_0 := blk_frozen BK179.out 0; have hnb39 := NB180_181.out; have hnc39 := NB181_180.out; have hcz40_0 := bc_ BK180.out 0; have hcz40_1 := bc_ BK180.out 1; have hcz40_2 := bc_ BK180.out 2; have hfz40_0 := blk_frozen BK180.out 0; have hfz40_1 := blk_frozen BK180.out 1; have hfz40_2 := blk_frozen BK180.out 2) | ((with_reducible refine gate_callee (f := 18) rfl ?_); refine goesL_ (some 10) rfl rfl Try.func18 (by kernel_rfl) rfl #[.agg #[.slice A0_0 l0_0.length c0_0], .string a1_0] rfl tq_4 ?_; (with_reducible refine (impl_DropItem.calls _ _ l0_0 a1_0 t182 _ ?side1 ?side2 A3.out).mono ?_); (case side1 => exact tq_19); (case side2 => exact HC0_0.out); rintro e w41 ⟨v183, rfl, ho0, hb⟩; refine ⟨_, rfl, ?_⟩; have n0_ := Aside0.mk (Kd.R_lower (Kd.R_newB ho0 (g := gb180) (o := .cells #[.string a1_0, .bool a1_1, .string a1_2] 38 (0, 0)) tq_16) (below_size tq_21)); have n1_ := Aside0.mk (blk_below tq_17 hb); have n2_ := Aside0.mk (blk_below tq_16 hb); have n3_ := Aside0.mk (blk_below tq_29 hb); have n4_ := Aside0.mk (below_step tq_21 hb); clear BK179 BK180 BK181 HB; have HO184 := n0_; have BK179 := n1_; have BK180 := n2_; have BK181 := n3_; have HB := n4_; clear n0_ n1_ n2_ n3_ n4_; (try clear hb); (try clear hb2); (try clear hk); (try clear hi); (try clear ho0)) | ((with_reducible refine gate_dst (N := 5) rfl ?_); refine box_event ?hg (N := 5) ?hd (cs := #[.slice none 0 0]) (t := 28) ?hr ?_; (case hd => rfl); (case hg => rfl); (case hr => first | (go_simp; done) | (go_simp; rfl)); intro gb185 hg w42 hbox hb; have n0_ := Aside0.mk (Kd.R_below tq_44 hb); have n1_ := Aside0.mk (blk_below tq_17 hb); have n2_ := Aside0.mk (blk_below tq_16 hb); have n3_ := Aside0.mk (blk_below tq_29 hb); have n4_ := Aside0.mk (below_step tq_21 hb); have n5_ := Aside0.mk (hbox); have n6_ := Aside0.mk (gb_ hg tq_21); have n7_ := Aside0.mk (gb_ hg tq_21); have n8_ := Aside0.mk (ltne_ hg (blk_lt tq_17)); have n9_ := Aside0.mk (gtne_ hg (blk_lt tq_17)); have n10_ := Aside0.mk (ltne_ hg (blk_lt tq_16)); have n11_ := Aside0.mk (gtne_ hg (blk_lt tq_16)); have n12_ := Aside0.mk (ltne_ hg (blk_lt tq_29)); have n13_ := Aside0.mk (gtne_ hg (blk_lt tq_29)); clear HO184 BK179 BK180 BK181 HB; have HO184 := n0_; have BK179 := n1_; have BK180 := n2_; have BK181 := n3_; have HB := n4_; have BK185 := n5_; have GW185 := n6_; have GE185 := n7_; have NB179_185 := n8_; have NB185_179 := n9_; have NB180_185 := n10_; have NB185_180 := n11_; have NB181_185 := n12_; have NB185_181 := n13_; clear n0_ n1_ n2_ n3_ n4_ n5_ n6_ n7_ n8_ n9_ n10_ n11_ n12_ n13_; clear hb hbox hg; obtain ⟨Ao43, co43, eo43⟩ := Kd.R_slice HO184.out; subst eo43; have hnb44 := NB185_179.out; have hnc44 := NB179_185.out; have hnb45 := NB185_180.out; have hnc45 := NB180_185.out; have hnb46 := NB185_181.out; have hnc46 := NB181_185.out; have hcz47_0 := bc_ BK185.out 0; have hfz47_0 := blk_frozen BK185.out 0) | ((with_reducible refine gate_callee (f := 88) rfl ?_); refine goesL_ (some 14) rfl rfl Try.func88 (by kernel_rfl) rfl #[.slice Ao43 t182.length co43, .func (.func 89) #[] #[.pointer (some ⟨gb180, 0, none⟩)]] rfl tq_4 ?_; (with_reducible refine (slices_IndexFunc_Item_g89.calls _ _ t182 gb180 a1_0 a1_1 a1_2 t186 _ ?side1 ?side2 ?side3 A4.out).mono ?_); (case side1 => refine (Kd.R_reads' (e := 38) (base := w.heap.size) (ok := fun k_ => (True ∧ k_ ≠ gb180)) (n := t182.length) (c := co43) ?_).2.2; exact tq_85); (case side2 => exact (Kd.R_reads' HO184.out).2.1); (case side3 => (with_reducible repeat (first | refine blk_drewN ?_ _ | refine blk_drew ?_ | refine blk_alloc ?_ _)); refine blk_far ?_ NB180_185.out _; (with_reducible repeat (first | refine blk_drewN ?_ _ | refine blk_drew ?_ | refine blk_alloc ?_ _)); exact BK180.out); rintro e w48 ⟨rfl, hb⟩; refine ⟨_, rfl, ?_⟩; have n0_ := Aside0.mk (Kd.R_below tq_85 hb); have n1_ := Aside0.mk (blk_below (g := gb179) (o := .cells #[.slice A0_0 l0_0.length c0_0] 28 (0, 0)) tq_89 hb); have n2_ := Aside0.mk (blk_below (g := gb180) (o := .cells #[.string a1_0, .bool a1_1, .string a1_2] 38 (0, 0)) tq_88 hb); have n3_ := Aside0.mk (blk_below (g := gb181) (o := .cells #[.slice none 0 0] 28 (0, 0)) tq_87 hb); have n4_ := Aside0.mk (blk_below (g := gb185) (o := .cells #[.slice Ao43 t182.length co43] 28 (0, 0)) tq_78 hb); have n5_ := Aside0.mk (below_step tq_28 hb); clear HO184 BK179 BK180 BK181 BK185 HB; have HO184 := n0_; have BK179 := n1_; have BK180 := n2_; have BK181 := n3_; have BK185 := n4_; have HB := n5_; clear n0_ n1_ n2_ n3_ n4_ n5_; (try clear hb); (try clear hb2); (try clear hk); (try clear hi); have hcz49_0 := bc_ BK185.out 0; have hfz49_0 := blk_frozen BK185.out 0; have hcz50_0 := bc_ BK180.out 0; have hcz50_1 := bc_ BK180.out 1; have hcz50_2 := bc_ BK180.out 2; have hfz50_0 := blk_frozen BK180.out 0; have hfz50_1 := blk_frozen BK180.out 1; have hfz50_2 := blk_frozen BK180.out 2) | ((with_reducible refine gate_dst (N := 24) rfl ?_); refine Kd.R_lit k38 _ 38 ?hg (N := 24) ?hd (xs := ([(⟨a1_0, a1_1, a1_2⟩ : S38)] : List (S38))) (inner := [.string a1_0, .bool a1_1, .string a1_2]) (ok := fun _ => True) (okp := fun _ => True) ?hr ?hp (fun _ hk => hk) trivial (Below.refl _ _) (Nat.le_refl _) (by simp) ?_; (case hd => rfl); (case hg => rfl); (case hr => first | (go_simp; done) | (go_simp; rfl)); (case hp => exact tq_99); intro v194 w51 ho52 hb hg_ hnew_; clear hg_ hnew_; (first | rw [← Ny193.out] at ho52 | (simp only [Int.reduceToNat] at ho52; rw [← Ny193.out] at ho52)); have n0_ := Aside0.mk (Kd.R_elder' tq_44 (Kd.R_base ho52) hb); have n1_ := Aside0.mk (Kd.R_lower (Kd.R_newB (Kd.R_new' ho52 (Kd.R_lt tq_44)) (g := gb180) (o := .cells #[.string a1_0, .bool a1_1, .string a1_2] 38 (0, 0)) tq_16) (below_size tq_28)); have n2_ := Aside0.mk (blk_below tq_17 hb); have n3_ := Aside0.mk (blk_below tq_16 hb); have n4_ := Aside0.mk (blk_below tq_29 hb); have n5_ := Aside0.mk (blk_below tq_64 hb); have n6_ := Aside0.mk (below_step tq_28 hb); clear HO184 BK179 BK180 BK181 BK185 HB; have HO184 := n0_; have HO195 := n1_; have BK179 := n2_; have BK180 := n3_; have BK181 := n4_; have BK185 := n5_; have HB := n6_; clear n0_ n1_ n2_ n3_ n4_ n5_ n6_; clear hb ho52; obtain ⟨Ao53, co53, eo53⟩ := Kd.R_slice HO195.out; subst eo53) | ((with_reducible refine gate_callee (f := 90) rfl ?_); refine goesL_ (some 25) rfl rfl Try.func90 (by kernel_rfl) rfl #[.slice Ao43 t182.length co43, .int .i64 t186, .slice Ao53 y193.length co53] rfl tq_4 ?_; (with_reducible refine (slices_Insert_Item.calls (fun k_ => some k_ = (.slice Ao43 t182.length co43 : Value).ownBlock) (.slice Ao43 t182.length co43) t182 t186 (fun k_ => some k_ = (.slice Ao53 y193.length co53 : Value).ownBlock) (.slice Ao53 y193.length co53) y193 t196 w _ ?side1 ?side2 ?side3 ?side4 ?side5 A32.out).mono ?_); (case side1 => exact tq_90); (case side2 => exact Kd.R_tight rfl HO184.out); (case side3 => exact fun k_ e_ => (HO184.out.1 k_ e_.symm).2); (case side4 => exact Kd.R_tight rfl HO195.out); (case side5 => exact fun k_ e_ => (HO195.out.1 k_ e_.symm).1.2); rintro e w54 ⟨v197, rfl, ho0, hb, hkp⟩; refine ⟨_, rfl, ?_⟩; have n0_ := Aside0.mk (blk_kept tq_17 hkp (fun hs_ => Or.elim hs_ (fun e_ => (fun e_ => (Kd.R_ne HO184.out BK179.out (by decide)) e_) e_) (fun e_ => (fun e_ => (Kd.R_ne HO195.out BK179.out (by decide)) e_) e_))); have n1_ := Aside0.mk (blk_kept tq_16 hkp (fun hs_ => Or.elim hs_ (fun e_ => (fun e_ => (Kd.R_away HO184.out (fun _ hk => hk.1.2)) e_) e_) (fun e_ => (fun e_ => (Kd.R_away HO195.out (fun _ hk => hk.2)) e_) e_))); have n2_ := Aside0.mk (blk_kept tq_29 hkp (fun hs_ => Or.elim hs_ (fun e_ => (fun e_ => (Kd.R_ne HO184.out BK181.out (by decide)) e_) e_) (fun e_ => (fun e_ => (Kd.R_ne HO195.out BK181.out (by decide)) e_) e_))); have n3_ := Aside0.mk (blk_kept tq_64 hkp (fun hs_ => Or.elim hs_ (fun e_ => (fun e_ => (Kd.R_ne HO184.out BK185.out (by decide)) e_) e_) (fun e_ => (fun e_ => (Kd.R_ne HO195.out BK185.out (by decide)) e_) e_))); have n4_ := Aside0.mk (Kd.R_mono (ok' := fun k_ => k_ ≠ gb180) ho0 (fun k_ hk_ => Or.elim hk_ (fun hs_ => Or.elim hs_ (fun hs_ => fun e_ => (Kd.R_away HO184.out (fun _ hk => hk.1.2)) (by rw [← e_]; exact hs_)) (fun hs_ => fun e_ => (Kd.R_away HO195.out (fun _ hk => hk.2)) (by rw [← e_]; exact hs_))) (fun hn_ => (Kd.freshB (g := gb180) (o := .cells #[.string a1_0, .bool a1_1, .string a1_2] 38 (0, 0)) tq_16 k_ hn_)))); have n5_ := Aside0.mk (hb); clear BK179 BK180 BK181 BK185 HB HO184 HO195; have BK179 := n0_; have BK180 := n1_; have BK181 := n2_; have BK185 := n3_; have HO198 := n4_; have HB := n5_; clear n0_ n1_ n2_ n3_ n4_ n5_; (try clear hb); (try clear hkp); (try clear ho0); obtain ⟨Ao55, co55, eo55⟩ := Kd.R_slice HO198.out; subst eo55; have hcz56_0 := bc_ BK185.out 0; have hfz56_0 := blk_frozen BK185.out 0; have hcz57_0 := bc_ BK181.out 0; have hfz57_0 := blk_frozen BK181.out 0))
  refine bodyPost_ret (results_cell_row rfl _ _ gb181 28 #[.slice Ao55 t196.length co55] (0, 0) _ rfl tq_56 Try.underlying28 rfl (by kernel_rfl)) rfl ?_
  exact ⟨_, by first | rfl | (simp [errW_none, errW_some] <;> rfl) | (simp [*, errW_none, errW_some] <;> rfl), by (with_reducible repeat (first | apply Kd.R_alloc | apply Kd.R_drewN | apply Kd.R_drew)); exact Kd.R_mono (Kd.R_far (p := ⟨gb181, 0, none⟩) (Kd.R_far (p := ⟨gb185, 0, none⟩) (Kd.R_types (Kd.R_types HO198.out BK185.out (by decide)) BK181.out (by decide)) (fun _ hk => hk.1.2) (.slice Ao55 t196.length co55)) (fun _ hk => hk.2) (.slice Ao55 t196.length co55)) (fun _ hk => trivial), by repeat (first | (with_reducible first | exact HB.out | apply below_alloc | apply pw_below_drewN | apply below_drew1 | refine below_set ?_ GE179.out | refine below_set ?_ GE180.out | refine below_set ?_ GE181.out | refine below_set ?_ GE185.out) | exact HB.out)⟩

end Go.Proofs.Ytcdnfkoahajhhaa.PFnExactPutItem
