/- Contracts of Go functions, written by a program of ours over the print of the kit: each says that the call returns what the Lean function beside it computes. Conditions: as each theorem states them. -/
import Derived.Test.YtcdnfkoahajhhaaPkFnEntries
import Derived.Test.YtcdnfkoahajhhaaPFnEntriesx0
import Derived.Test.YtcdnfkoahajhhaaPFnEntriesx3
namespace Go.Proofs.Ytcdnfkoahajhhaa.PFnEntries
open Go.RowKit Go.Proofs.YtcdnfkoahajhhaaW.PrintWords Go.Proofs.YtcdnfkoahajhhaaW.PrintLast Go.Proofs.YtcdnfkoahajhhaaW.PrintMore
attribute [local go_sem] max2_int min2_int max_two min_two max_three min_three max_four min_four   -- for this text's walks alone
set_option linter.unusedVariables false
set_option linter.unusedSimpArgs false

/-! ### slices_DeleteFunc_Entry: function 97 -/
theorem flat59 : Flat.IsFlat k59 enc59 := ⟨fun w base ok x => k59_mkM w base ok x, fun w x cs h => k59_open h⟩
set_option maxHeartbeats 8000000 in
set_option maxRecDepth 100000 in
theorem del97 (p : S59 → Bool) (g : Nat) (lb : Array Value) (eg : ∀ args w, (callFunc g args).run Try.prog w = .ok (.enter g args) w) (gb : Nat) (ob : Obj)
  (hp : ∀ (x : S59) (W : World), W.heap[gb]? = some ob → Calls Try.prog g (#[.agg (enc59 x).toArray] ++ lb) W fun e w' => e = .returned (.bool (p x)) ∧ Below W.heap.size W w')
  (P0_ : Nat → Prop) (u9000_ : Value) (l0 : List S59) (w0 w : World) (hB : Below w0.heap.size w0 w) (ho0 : Kd.R k59 59 w w0.heap.size P0_ u9000_ l0) (hbig : l0.length ≤ 9223372036854775807) (hcl : w.heap[gb]? = some ob) (hne : some gb ≠ u9000_.ownBlock) :
  Calls Try.prog 97 #[u9000_, .func (.func g) #[] lb] w fun e w' => ∃ v0_ : Value, e = .returned v0_ ∧ Kd.R k59 59 w' w0.heap.size (fun k_ => (P0_ k_ ∨ w.heap.size ≤ k_)) v0_ (l0.filter fun y => !p y) ∧ Below w0.heap.size w0 w' ∧ Kept w w' (fun k_ => P0_ k_) := by
 obtain ⟨A, c, rfl, hnc, hC⟩ := Kd.R_reads ho0
 have hIF := idx105 p g lb eg A c l0 w hC hbig (fun W x hW => (hp x W (blk_below hcl hW)).mono fun e w' hq => ⟨hq.1, hW.trans (hq.2.mono hW.size)⟩)
 have HB := Aside0.mk hB
 have HO := Aside0.mk ho0
 have hu59 := Try.underlying59
 rcases Flat.idx_cut p default l0 0 with ⟨e1, hall⟩ | ⟨a, b, c', hl, e1, hb, ha⟩
 ·have e2 : Lib.idxBy (fun _ y => p y) l0 default = -1 := e1
  rw [e2] at hIF
  rw [hall]
  clear e1 e2 hall hC ho0 hp hB hcl hne
  go_enter Try.func97, Try.ntmps97
  go_wp2_with (go_at_call 105; refine hIF.mono ?_; rintro e w1 ⟨rfl, hb⟩)
  go_ret
  exact ⟨_, rfl, Kd.R_mono (Kd.R_below HO.out hb) (fun _ h => .inl h), below_step HB.out hb, Kept.of_below hb _⟩
 ·have e2 : Lib.idxBy (fun _ y => p y) l0 default = ((a.length : Nat) : Int) := e1.trans (by rw [Nat.zero_add])
  rw [e2] at hIF
  have hpos : 0 < l0.length := by rw [hl]; simp; omega
  have hst := Flat.DelInv.start (c := c') hb ha
  rw [← hl] at hst
  obtain ⟨g0, cap, hv, hbg, hlt, cells, hh⟩ := Kd.R_form ho0 hpos
  injection hv with hv1 _ hv2
  subst hv1; subst hv2
  have hgne : gb ≠ g0 := fun e => hne (by rw [e]; rfl)
  have HST := Aside0.mk hst
  have HCL := Aside0.mk hcl
  have HP := Aside0.mk hp
  have HGP := Aside0.mk (ho0.1 g0 rfl)
  have hne1 : (((a.length : Nat) : Int) == -1) = false := beq_eq_false_iff_ne.2 (by omega)
  have hal : a.length < l0.length := by rw [hl]; simp
  have HL := Aside0.mk hal
  clear e1 e2 hl hb ha hp hst hC hcl hB ho0 hh hne
  go_enter Try.func97, Try.ntmps97
  go_wp2_with (go_at_call 105; refine hIF.mono ?_; rintro e w1 ⟨rfl, hb⟩)
  go_loopg [5, 6, 7] l0.length (fun gg s5 s6 _ wr => ∃ (i j : Nat) (l : List S59), s5 = .int .i64 i ∧ s6 = .int .i64 j ∧ l0.length - j ≤ gg ∧ Aside0 (Flat.DelInv p l0 i j l) ∧ Aside0 (Kd.R k59 59 wr w0.heap.size (fun k_ => (P0_ k_ ∨ w.heap.size ≤ k_)) (.slice (some ⟨g0, 0, none⟩) l0.length c) l) ∧ Aside0 (Below w0.heap.size w0 wr) ∧ Aside0 (Kept w wr (fun k_ => P0_ k_)) ∧ Aside0 (wr.heap[gb]? = some ob))
  case atStart => exact ⟨a.length, a.length + 1, l0, rfl, (by have := HL.out; go_num), (by omega), HST, ⟨Kd.R_mono (Kd.R_below HO.out hb) (fun _ h => .inl h)⟩, ⟨below_step HB.out hb⟩, ⟨Kept.of_below hb _⟩, ⟨blk_below HCL.out hb⟩⟩
  case round =>
   obtain ⟨i, j, l, rfl, rfl, hgg, HI, HR, HB1, HK, HC1⟩ := hrel
   have hij := HI.out.lt
   have hjn := HI.out.le
   have hll := HI.out.len
   clear HST HCL HO HB
   by_cases hjl : j < l0.length
   rotate_left
   ·have hjz : ¬ ((j : Int) < (l0.length : Int)) := by omega
    have hje : j = l0.length := by omega
    have hci : ¬ (c = i) := by omega
    have hin : i ≤ l0.length := by omega
    have hcl : ∀ ty, (Builtin.clear_ #[47] ty #[.slice (some ⟨g0, i * 2, none⟩) (l0.length - i) (c - i)]).run Try.prog wr = .ok (.tuple #[]) (wr.setCells g0 (i * 2) ((List.replicate (l0.length - i) z59).flatMap enc59)) := fun ty => Flat.run_clear flat59 (by decide) HR.out 47 ty _ z59 rfl Try.underlying47 Try.zeroValue59 i (l0.length - i) (c - i) (by omega) (by omega)
    go_wp2
    go_ret
    have hS := Flat.R_cells flat59 HR.out i (List.replicate (l0.length - i) z59) (by rw [List.length_replicate]; omega)
    have hT := Kd.R_take (m := i) hS.1 (by simp [List.length_take, List.length_drop]; omega)
    rw [List.append_assoc, List.take_left' (by simp [List.length_take]; omega)] at hT
    have hD := HI.out
    rw [hje] at hD
    rw [hD.done] at hT
    refine ⟨_, rfl, hT, pw_below_grown HB1.out (some g0) HB1.out.size hS.2 (fun k hk => ?_), Kept.of_grown hS.2 HK.out (fun k hk => ?_)⟩
    ·obtain rfl := Option.some.inj hk
     exact hbg
    ·obtain rfl := Option.some.inj hk
     exact .inl HGP.out
   have hjz : (j : Int) < (l0.length : Int) := by omega
   have hx := HI.out.at_ hjl (by omega)
   have hR := HR.out
   obtain ⟨x, hxe⟩ : ∃ x, x = l0[j] := ⟨_, rfl⟩
   have hcj0 : wr.cell? ⟨g0, j * 2, none⟩ = some (.int .i64 x.f0) := by rw [hxe, ← hx]; exact Flat.R_cell flat59 hR j (by omega) 0 _ rfl
   have hcj1 : wr.cell? ⟨g0, j * 2 + 1, none⟩ = some (.string x.f1) := by rw [hxe, ← hx]; exact Flat.R_cell flat59 hR j (by omega) 1 _ rfl
   have hcall : ∀ W', Below wr.heap.size wr W' → W'.heap[wr.heap.size]? = some (.cells #[.int .i64 x.f0, .string x.f1] 59 (0, 0)) → Calls Try.prog g (#[.agg #[.int .i64 x.f0, .string x.f1]] ++ lb) W' fun e w' => e = .returned (.bool (p x)) ∧ Below wr.heap.size wr w' ∧ w'.heap[wr.heap.size]? = some (.cells #[.int .i64 x.f0, .string x.f1] 59 (0, 0)) := fun W' hW hx => (HP.out x W' (blk_below HC1.out hW)).mono fun e w' hq => ⟨hq.1, below_then hW hW.size hq.2, blk_below hx hq.2⟩
   have HXE := Aside0.mk hxe
   clear hxe hx hR
   cases hq : p x with
   | false =>
    rw [hq] at hcall
    go_wp2_with (go_at_fn g; refine (hcall _ ?hbl ?hbx).mono ?_; (case hbl => exact below_alloc (Below.refl _ _) _); (case hbx => exact heap_alloc_new ..); rintro e w1 ⟨rfl, hb1, hbx⟩; have hv0 : w1.cell? ⟨wr.heap.size, 0, none⟩ = some (.int .i64 x.f0) := (blk_cell hbx 0).trans rfl; have hv1 : w1.cell? ⟨wr.heap.size, 1, none⟩ = some (.string x.f1) := (blk_cell hbx 1).trans rfl; have HR1 := Aside0.mk (Kd.R_below HR.out hb1); have HB2 := Aside0.mk hb1; have hi0 := Flat.R_cell flat59 HR1.out i (by omega) 0 _ rfl; have hi1 := Flat.R_cell flat59 HR1.out i (by omega) 1 _ rfl; have hf0 := Flat.R_fz flat59 HR1.out (i * 2); have hf1 := Flat.R_fz flat59 HR1.out (i * 2 + 1); clear hbx hb1; (try simp only [show k59.sz = 2 from rfl, Nat.add_zero] at hi0 hi1))
    go_roundg (l0.length - (j + 1))
    case measure => omega
    case rel =>
     have hS := Flat.R_cells flat59 HR1.out i [x] (by show i + 1 ≤ l.length; omega)
     refine ⟨i + 1, j + 1, l.take i ++ [x] ++ l.drop (i + 1), (by go_num), (by go_num), (by omega), ⟨?_⟩, ⟨hS.1⟩, ⟨pw_below_grown (below_then HB1.out HB1.out.size HB2.out) (some g0) (Nat.le_trans HB1.out.size HB2.out.size) hS.2 (fun k hk => ?_)⟩, ⟨Kept.of_grown hS.2 (Kept.below HK.out HB2.out) (fun k hk => ?_)⟩, ⟨blk_grown (blk_below HC1.out HB2.out) hS.2 (fun e => hgne (Option.some.inj e))⟩⟩
     ·rw [HXE.out]
      exact HI.out.keep hjl (by rw [← HXE.out]; exact hq)
     ·obtain rfl := Option.some.inj hk
      exact hbg
     ·obtain rfl := Option.some.inj hk
      exact .inl HGP.out
   | true =>
    rw [hq] at hcall
    go_wp2_with (go_at_fn g; refine (hcall _ ?hbl ?hbx).mono ?_; (case hbl => exact below_alloc (Below.refl _ _) _); (case hbx => exact heap_alloc_new ..); rintro e w1 ⟨rfl, hb1, hbx⟩; have HB2 := Aside0.mk hb1; clear hbx hb1)
    go_roundg (l0.length - (j + 1))
    case measure => omega
    case rel => exact ⟨i, j + 1, l, rfl, (by go_num), (by omega), ⟨HI.out.skip hjl (by rw [← HXE.out]; exact hq)⟩, ⟨Kd.R_below HR.out HB2.out⟩, ⟨below_step HB1.out HB2.out⟩, ⟨Kept.below HK.out HB2.out⟩, ⟨blk_below HC1.out HB2.out⟩⟩
def slices_DeleteFunc_Entry_g98.f (l0 : List S59) (c0_0 : ByteArray) : Option (List S59) := if l0.length ≤ 9223372036854775807 then some (l0.filter fun y => !clo98.p c0_0 y) else none
theorem slices_DeleteFunc_Entry_g98.calls (P0_ : Nat → Prop) (u9000_ : Value) (l0 : List S59) (gb0 : Nat) (c0_0 : ByteArray) (r : List S59) (w0 w : World) (hB : Below w0.heap.size w0 w) (ho0 : Kd.R k59 59 w w0.heap.size P0_ u9000_ l0) (hcl0 : w.heap[gb0]? = some (.cells #[.string c0_0] 9 (0, 0))) (h : slices_DeleteFunc_Entry_g98.f l0 c0_0 = some r) :
  Calls Try.prog 97 #[u9000_, .func (.func 98) #[] #[.pointer (some ⟨gb0, 0, none⟩)]] w fun e w' => ∃ v0_ : Value, e = .returned v0_ ∧ Kd.R k59 59 w' w0.heap.size (fun k_ => (P0_ k_ ∨ w.heap.size ≤ k_)) v0_ r ∧ Below w0.heap.size w0 w' ∧ Kept w w' (fun k_ => P0_ k_) := by
 unfold slices_DeleteFunc_Entry_g98.f at h
 split at h
 case isFalse => cases h
 case isTrue hl =>
 obtain rfl := Option.some.inj h
 exact del97 (fun y => clo98.p c0_0 y) 98 #[.pointer (some ⟨gb0, 0, none⟩)] (fun args W => enters_ Try.func98 rfl rfl args W) gb0 (.cells #[.string c0_0] 9 (0, 0)) (fun x W hx => clo98 x gb0 c0_0 W hx) P0_ u9000_ l0 w0 w hB ho0 hl hcl0 (Kd.R_ne ho0 hcl0 (by decide))

/-! ### impl_WithoutEntry: function 29 -/
def impl_WithoutEntry.f (a0_0 : Int) (a0_1 : Int) (a0_2 : Int) (a0_3 : ByteArray) (l0_4 : List (S170)) (l0_5 : List (S59)) (a1 : ByteArray) : Option (Int × Int × Int × ByteArray × (List (S170)) × (List (S59))) := (impl_copyInode.f a0_0 a0_1 a0_2 a0_3 l0_4 l0_5).bind fun bt147 => ((slices_DeleteFunc_Entry_g98.f bt147.2.2.2.2.2 a1).bind fun t158 => (some (bt147.1, bt147.2.1, bt147.2.2.1, bt147.2.2.2.1, bt147.2.2.2.2.1, t158)))
set_option maxHeartbeats 8000000 in
set_option maxRecDepth 100000 in
theorem impl_WithoutEntry.calls (a0_0 : Int) (a0_1 : Int) (a0_2 : Int) (a0_3 : ByteArray) (A0_4 : Option Addr) (c0_4 : Nat) (l0_4 : List (S170)) (A0_5 : Option Addr) (c0_5 : Nat) (l0_5 : List (S59)) (a1 : ByteArray) (r1 : Int) (r2 : Int) (r3 : Int) (r4 : ByteArray) (r5 : List (S170)) (r6 : List (S59)) (w : World) (hr0_4 : Kd.C k170 w A0_4 l0_4.length l0_4) (hc0_4 : l0_4.length ≤ c0_4) (hr0_5 : Kd.C k59 w A0_5 l0_5.length l0_5) (hc0_5 : l0_5.length ≤ c0_5) (h : impl_WithoutEntry.f a0_0 a0_1 a0_2 a0_3 l0_4 l0_5 a1 = some (r1, r2, r3, r4, r5, r6)) :
  Calls Try.prog 29 #[.agg #[.int .i64 a0_0, .int .i64 a0_1, .int .i64 a0_2, .string a0_3, .slice A0_4 l0_4.length c0_4, .slice A0_5 l0_5.length c0_5], .string a1] w fun e w' => ∃ v4_ v5_ : Value, e = .returned (.agg #[.int .i64 r1, .int .i64 r2, .int .i64 r3, .string r4, v4_, v5_]) ∧ Kd.R k170 170 w' w.heap.size (fun _ => True) v4_ r5 ∧ Kd.R k59 59 w' w.heap.size (fun _ => True) v5_ r6 ∧ Below w.heap.size w w' := by
 have hu49 := Try.underlying49
 have HR0_4 := Aside0.mk hr0_4
 have HC0_4 := Aside0.mk hc0_4
 clear hr0_4 hc0_4
 have HR0_5 := Aside0.mk hr0_5
 have HC0_5 := Aside0.mk hc0_5
 clear hr0_5 hc0_5
 have HB := Aside0.mk (Below.refl w.heap.size w)
 have H : ((impl_copyInode.f a0_0 a0_1 a0_2 a0_3 l0_4 l0_5).bind fun bt147 => ((slices_DeleteFunc_Entry_g98.f bt147.2.2.2.2.2 a1).bind fun t158 => (some (bt147.1, bt147.2.1, bt147.2.2.1, bt147.2.2.2.1, bt147.2.2.2.2.1, t158)))) = some (r1, r2, r3, r4, r5, r6) := h
 clear h
 replace H := Option.bind_eq_some_iff.mp H
 obtain ⟨⟨t147, t148, t149, t150, t151, t154⟩, A30, H⟩ := H
 replace H : ((slices_DeleteFunc_Entry_g98.f t154 a1).bind fun t158 => (some (t147, t148, t149, t150, t151, t158))) = some (r1, r2, r3, r4, r5, r6) := H
 have A3 := Aside0.mk A30
 clear A30
 replace H := Option.bind_eq_some_iff.mp H
 obtain ⟨t158, A40, H⟩ := H
 replace H : (some (t147, t148, t149, t150, t151, t158)) = some (r1, r2, r3, r4, r5, r6) := H
 have A4 := Aside0.mk A40
 clear A40
 simp only [Option.some.injEq, Prod.mk.injEq] at H
 obtain ⟨rfl, rfl, rfl, rfl, rfl, rfl⟩ := H
 go_enter Try.func29, Try.ntmps29
 go_wp2_with (first | ((with_reducible refine gate_dst (N := 2) rfl ?_); refine box_event ?hg (N := 2) ?hd (cs := #[.int .i64 a0_0, .int .i64 a0_1, .int .i64 a0_2, .string a0_3, .slice A0_4 l0_4.length c0_4, .slice A0_5 l0_5.length c0_5]) (t := 49) ?hr ?_; (case hd => rfl); (case hg => rfl); (case hr => first | (go_simp; done) | (go_simp; rfl)); intro gb144 hg w5 hbox hb; have z_ := p_ (below_step tq_3 hb) <| p_ (hbox) <| p_ (gb_ hg tq_3) <| a_ (gb_ hg tq_3); clear HB; obtain ⟨HB, BK144, GW144, GE144⟩ := z_; clear hb hbox hg) | ((with_reducible refine gate_dst (N := 3) rfl ?_); refine box_event ?hg (N := 3) ?hd (cs := #[.string a1]) (t := 9) ?hr ?_; (case hd => rfl); (case hg => rfl); (case hr => first | (go_simp; done) | (go_simp; rfl)); intro gb145 hg w6 hbox hb; have z_ := p_ (blk_below tq_89 hb) <| p_ (below_step tq_181 hb) <| p_ (hbox) <| p_ (gb_ hg tq_181) <| p_ (gb_ hg tq_181) <| p_ (ltne_ hg (blk_lt tq_89)) <| a_ (gtne_ hg (blk_lt tq_89)); clear BK144 HB; obtain ⟨BK144, HB, BK145, GW145, GE145, NB144_145, NB145_144⟩ := z_; clear hb hbox hg) | ((with_reducible refine gate_dst (N := 4) rfl ?_); refine box_event ?hg (N := 4) ?hd (cs := #[.int .i64 0, .int .i64 0, .int .i64 0, .string (⟨#[]⟩ : ByteArray), .slice none 0 0, .slice none 0 0]) (t := 49) ?hr ?_; (case hd => rfl); (case hg => rfl); (case hr => first | (go_simp; done) | (go_simp; rfl)); intro gb146 hg w7 hbox hb; have z_ := p_ (blk_below tq_89 hb) <| p_ (blk_below tq_126 hb) <| p_ (below_step tq_174 hb) <| p_ (hbox) <| p_ (gb_ hg tq_174) <| p_ (gb_ hg tq_174) <| p_ (ltne_ hg (blk_lt tq_89)) <| p_ (gtne_ hg (blk_lt tq_89)) <| p_ (ltne_ hg (blk_lt tq_126)) <| a_ (gtne_ hg (blk_lt tq_126)); clear BK144 BK145 HB; obtain ⟨BK144, BK145, HB, BK146, GW146, GE146, NB144_146, NB146_144, NB145_146, NB146_145⟩ := z_; clear hb hbox hg; have hnb8 := NB144_145.out; have hnc8 := NB145_144.out; have hnb9 := NB144_146.out; have hnc9 := NB146_144.out; obtain ⟨hcz10_0, hcz10_1, hcz10_2, hcz10_3, hcz10_4, hcz10_5⟩ := bk6_ BK144.out; obtain ⟨hfz10_0, hfz10_1, hfz10_2, hfz10_3, hfz10_4, hfz10_5⟩ := bf6_ BK144.out) | ((with_reducible refine gate_callee (f := 96) rfl ?_); refine goesL_ (some 7) rfl rfl Try.func96 (by kernel_rfl) rfl #[.agg #[.int .i64 a0_0, .int .i64 a0_1, .int .i64 a0_2, .string a0_3, .slice A0_4 l0_4.length c0_4, .slice A0_5 l0_5.length c0_5]] rfl tq_0 ?_; (with_reducible refine (impl_copyInode.calls a0_0 a0_1 a0_2 a0_3 _ _ l0_4 _ _ l0_5 t147 t148 t149 t150 t151 t154 _ ?side1 ?side2 ?side3 ?side4 A3.out).mono ?_); (case side1 => exact tq_68); (case side2 => exact HC0_4.out); (case side3 => exact tq_102); (case side4 => exact HC0_5.out); rintro e w11 ⟨v152, v155, rfl, ho0, ho1, hb⟩; refine ⟨_, rfl, ?_⟩; have z_ := p_ (Kd.R_lower ho0 (below_size tq_92)) <| p_ (Kd.R_lower ho1 (below_size tq_92)) <| p_ (blk_below tq_89 hb) <| p_ (blk_below tq_126 hb) <| p_ (blk_below tq_162 hb) <| a_ (below_step tq_92 hb); clear BK144 BK145 BK146 HB; obtain ⟨HO153, HO156, BK144, BK145, BK146, HB⟩ := z_; (try clear hb); (try clear hb2); (try clear hk); (try clear hi); (try clear ho0); (try clear ho1)) | ((with_reducible refine gate_dst (N := 5) rfl ?_); refine box_event ?hg (N := 5) ?hd (cs := #[.int .i64 0, .int .i64 0, .int .i64 0, .string (⟨#[]⟩ : ByteArray), .slice none 0 0, .slice none 0 0]) (t := 49) ?hr ?_; (case hd => rfl); (case hg => rfl); (case hr => first | (go_simp; done) | (go_simp; rfl)); intro gb157 hg w12 hbox hb; have z_ := p_ (Kd.R_below (by (with_reducible repeat (first | apply Kd.R_alloc | apply Kd.R_drewN | apply Kd.R_drew)); exact HO153.out) hb) <| p_ (Kd.R_below (by (with_reducible repeat (first | apply Kd.R_alloc | apply Kd.R_drewN | apply Kd.R_drew)); exact HO156.out) hb) <| p_ (blk_below tq_89 hb) <| p_ (blk_below tq_126 hb) <| p_ (blk_below tq_162 hb) <| p_ (below_step tq_92 hb) <| p_ (hbox) <| p_ (gb_ hg tq_92) <| p_ (gb_ hg tq_92) <| p_ (ltne_ hg (blk_lt tq_89)) <| p_ (gtne_ hg (blk_lt tq_89)) <| p_ (ltne_ hg (blk_lt tq_126)) <| p_ (gtne_ hg (blk_lt tq_126)) <| p_ (ltne_ hg (blk_lt tq_162)) <| a_ (gtne_ hg (blk_lt tq_162)); clear HO153 HO156 BK144 BK145 BK146 HB; obtain ⟨HO153, HO156, BK144, BK145, BK146, HB, BK157, GW157, GE157, NB144_157, NB157_144, NB145_157, NB157_145, NB146_157, NB157_146⟩ := z_; clear hb hbox hg; have hnb13 := NB157_144.out; have hnc13 := NB144_157.out; have hnb14 := NB157_145.out; have hnc14 := NB145_157.out; have hnb15 := NB157_146.out; have hnc15 := NB146_157.out; obtain ⟨hcz16_0, hcz16_1, hcz16_2, hcz16_3, hcz16_4, hcz16_5⟩ := bk6_ BK157.out; obtain ⟨hfz16_0, hfz16_1, hfz16_2, hfz16_3, hfz16_4, hfz16_5⟩ := bf6_ BK157.out; obtain ⟨Ao17, co17, eo17⟩ := Kd.R_slice HO153.out; subst eo17; obtain ⟨Ao18, co18, eo18⟩ := Kd.R_slice HO156.out; subst eo18) | ((with_reducible refine gate_store (t := 49) (p := 5) rfl ?_); refine store_event (t := 49) (p := 5) (v := ?vo_w19) (w1 := ((((((w12.setCell ⟨gb157, 0, none⟩ (.int .i64 t147)).setCell ⟨gb157, 1, none⟩ (.int .i64 t148)).setCell ⟨gb157, 2, none⟩ (.int .i64 t149)).setCell ⟨gb157, 3, none⟩ (.string t150)).setCell ⟨gb157, 4, none⟩ (.slice Ao17 t151.length co17)).setCell ⟨gb157, 5, none⟩ (.slice Ao18 t154.length co18))) ?hg ?ho ?hn ?hr ?_; (case ho => rfl); (case hg => rfl); (case hn => rfl); (case hr => first | (go_simp; done) | (go_simp; rfl)); intro w19 hw; have z_ := q_ (⟨(by rw [hw]; exact (by (with_reducible repeat (first | apply Kd.R_alloc | apply Kd.R_drewN | apply Kd.R_drew)); exact Kd.R_mono (Kd.R_far (p := ⟨gb157, 5, none⟩) (Kd.R_far (p := ⟨gb157, 4, none⟩) (Kd.R_far (p := ⟨gb157, 3, none⟩) (Kd.R_far (p := ⟨gb157, 2, none⟩) (Kd.R_far (p := ⟨gb157, 1, none⟩) (Kd.R_far (p := ⟨gb157, 0, none⟩) (Kd.R_types HO153.out BK157.out (by decide)) (fun _ hk => hk.2) (.int .i64 t147)) (fun _ hk => hk.2) (.int .i64 t148)) (fun _ hk => hk.2) (.int .i64 t149)) (fun _ hk => hk.2) (.string t150)) (fun _ hk => hk.2) (.slice Ao17 t151.length co17)) (fun _ hk => hk.2) (.slice Ao18 t154.length co18)) (fun _ hk => trivial)))⟩ : Aside0 (Kd.R k170 170 w19 w.heap.size (fun _ => True) (.slice Ao17 t151.length co17) t151)) <| q_ (⟨(by rw [hw]; exact (by (with_reducible repeat (first | apply Kd.R_alloc | apply Kd.R_drewN | apply Kd.R_drew)); exact Kd.R_mono (Kd.R_far (p := ⟨gb157, 5, none⟩) (Kd.R_far (p := ⟨gb157, 4, none⟩) (Kd.R_far (p := ⟨gb157, 3, none⟩) (Kd.R_far (p := ⟨gb157, 2, none⟩) (Kd.R_far (p := ⟨gb157, 1, none⟩) (Kd.R_far (p := ⟨gb157, 0, none⟩) (Kd.R_types HO156.out BK157.out (by decide)) (fun _ hk => hk.2) (.int .i64 t147)) (fun _ hk => hk.2) (.int .i64 t148)) (fun _ hk => hk.2) (.int .i64 t149)) (fun _ hk => hk.2) (.string t150)) (fun _ hk => hk.2) (.slice Ao17 t151.length co17)) (fun _ hk => hk.2) (.slice Ao18 t154.length co18)) (fun _ hk => trivial)))⟩ : Aside0 (Kd.R k59 59 w19 w.heap.size (fun _ => True) (.slice Ao18 t154.length co18) t154)) <| q_ (⟨(by rw [hw]; exact (by (with_reducible repeat (first | refine blk_drewN ?_ _ | refine blk_drew ?_ | refine blk_alloc ?_ _)); refine blk_far ?_ NB144_157.out _; (with_reducible repeat (first | refine blk_drewN ?_ _ | refine blk_drew ?_ | refine blk_alloc ?_ _)); refine blk_far ?_ NB144_157.out _; (with_reducible repeat (first | refine blk_drewN ?_ _ | refine blk_drew ?_ | refine blk_alloc ?_ _)); refine blk_far ?_ NB144_157.out _; (with_reducible repeat (first | refine blk_drewN ?_ _ | refine blk_drew ?_ | refine blk_alloc ?_ _)); refine blk_far ?_ NB144_157.out _; (with_reducible repeat (first | refine blk_drewN ?_ _ | refine blk_drew ?_ | refine blk_alloc ?_ _)); refine blk_far ?_ NB144_157.out _; (with_reducible repeat (first | refine blk_drewN ?_ _ | refine blk_drew ?_ | refine blk_alloc ?_ _)); refine blk_far ?_ NB144_157.out _; (with_reducible repeat (first | refine blk_drewN ?_ _ | refine blk_drew ?_ | refine blk_alloc ?_ _)); exact BK144.out))⟩ : Aside0 (w19.heap[gb144]? = some (.cells #[.int .i64 a0_0, .int .i64 a0_1, .int .i64 a0_2, .string a0_3, .slice A0_4 l0_4.length c0_4, .slice A0_5 l0_5.length c0_5] 49 (0, 0)))) <| q_ (⟨(by rw [hw]; exact (by (with_reducible repeat (first | refine blk_drewN ?_ _ | refine blk_drew ?_ | refine blk_alloc ?_ _)); refine blk_far ?_ NB145_157.out _; (with_reducible repeat (first | refine blk_drewN ?_ _ | refine blk_drew ?_ | refine blk_alloc ?_ _)); refine blk_far ?_ NB145_157.out _; (with_reducible repeat (first | refine blk_drewN ?_ _ | refine blk_drew ?_ | refine blk_alloc ?_ _)); refine blk_far ?_ NB145_157.out _; (with_reducible repeat (first | refine blk_drewN ?_ _ | refine blk_drew ?_ | refine blk_alloc ?_ _)); refine blk_far ?_ NB145_157.out _; (with_reducible repeat (first | refine blk_drewN ?_ _ | refine blk_drew ?_ | refine blk_alloc ?_ _)); refine blk_far ?_ NB145_157.out _; (with_reducible repeat (first | refine blk_drewN ?_ _ | refine blk_drew ?_ | refine blk_alloc ?_ _)); refine blk_far ?_ NB145_157.out _; (with_reducible repeat (first | refine blk_drewN ?_ _ | refine blk_drew ?_ | refine blk_alloc ?_ _)); exact BK145.out))⟩ : Aside0 (w19.heap[gb145]? = some (.cells #[.string a1] 9 (0, 0)))) <| q_ (⟨(by rw [hw]; exact (by (with_reducible repeat (first | refine blk_drewN ?_ _ | refine blk_drew ?_ | refine blk_alloc ?_ _)); refine blk_far ?_ NB146_157.out _; (with_reducible repeat (first | refine blk_drewN ?_ _ | refine blk_drew ?_ | refine blk_alloc ?_ _)); refine blk_far ?_ NB146_157.out _; (with_reducible repeat (first | refine blk_drewN ?_ _ | refine blk_drew ?_ | refine blk_alloc ?_ _)); refine blk_far ?_ NB146_157.out _; (with_reducible repeat (first | refine blk_drewN ?_ _ | refine blk_drew ?_ | refine blk_alloc ?_ _)); refine blk_far ?_ NB146_157.out _; (with_reducible repeat (first | refine blk_drewN ?_ _ | refine blk_drew ?_ | refine blk_alloc ?_ _)); refine blk_far ?_ NB146_157.out _; (with_reducible repeat (first | refine blk_drewN ?_ _ | refine blk_drew ?_ | refine blk_alloc ?_ _)); refine blk_far ?_ NB146_157.out _; (with_reducible repeat (first | refine blk_drewN ?_ _ | refine blk_drew ?_ | refine blk_alloc ?_ _)); exact BK146.out))⟩ : Aside0 (w19.heap[gb146]? = some (.cells #[.int .i64 0, .int .i64 0, .int .i64 0, .string (⟨#[]⟩ : ByteArray), .slice none 0 0, .slice none 0 0] 49 (0, 0)))) <| q_ (⟨(by rw [hw]; exact (by (with_reducible repeat (first | refine blk_drewN ?_ _ | refine blk_drew ?_ | refine blk_alloc ?_ _)); refine blk_put (cs := #[.int .i64 t147, .int .i64 t148, .int .i64 t149, .string t150, .slice Ao17 t151.length co17, .slice none 0 0]) ?_ 5 _ rfl; (with_reducible repeat (first | refine blk_drewN ?_ _ | refine blk_drew ?_ | refine blk_alloc ?_ _)); refine blk_put (cs := #[.int .i64 t147, .int .i64 t148, .int .i64 t149, .string t150, .slice none 0 0, .slice none 0 0]) ?_ 4 _ rfl; (with_reducible repeat (first | refine blk_drewN ?_ _ | refine blk_drew ?_ | refine blk_alloc ?_ _)); refine blk_put (cs := #[.int .i64 t147, .int .i64 t148, .int .i64 t149, .string (⟨#[]⟩ : ByteArray), .slice none 0 0, .slice none 0 0]) ?_ 3 _ rfl; (with_reducible repeat (first | refine blk_drewN ?_ _ | refine blk_drew ?_ | refine blk_alloc ?_ _)); refine blk_put (cs := #[.int .i64 t147, .int .i64 t148, .int .i64 0, .string (⟨#[]⟩ : ByteArray), .slice none 0 0, .slice none 0 0]) ?_ 2 _ rfl; (with_reducible repeat (first | refine blk_drewN ?_ _ | refine blk_drew ?_ | refine blk_alloc ?_ _)); refine blk_put (cs := #[.int .i64 t147, .int .i64 0, .int .i64 0, .string (⟨#[]⟩ : ByteArray), .slice none 0 0, .slice none 0 0]) ?_ 1 _ rfl; (with_reducible repeat (first | refine blk_drewN ?_ _ | refine blk_drew ?_ | refine blk_alloc ?_ _)); refine blk_put (cs := #[.int .i64 0, .int .i64 0, .int .i64 0, .string (⟨#[]⟩ : ByteArray), .slice none 0 0, .slice none 0 0]) ?_ 0 _ rfl; (with_reducible repeat (first | refine blk_drewN ?_ _ | refine blk_drew ?_ | refine blk_alloc ?_ _)); exact BK157.out))⟩ : Aside0 (w19.heap[gb157]? = some (.cells #[.int .i64 t147, .int .i64 t148, .int .i64 t149, .string t150, .slice Ao17 t151.length co17, .slice Ao18 t154.length co18] 49 (0, 0)))) <| (⟨(by rw [hw]; exact tq_189)⟩ : Aside0 (Below w.heap.size w w19)); clear hw HO153 HO156 BK144 BK145 BK146 BK157 HB; obtain ⟨HO153, HO156, BK144, BK145, BK146, BK157, HB⟩ := z_; obtain ⟨hcz20_0, hcz20_1, hcz20_2, hcz20_3, hcz20_4, hcz20_5⟩ := bk6_ BK157.out; obtain ⟨hfz20_0, hfz20_1, hfz20_2, hfz20_3, hfz20_4, hfz20_5⟩ := bf6_ BK157.out) | ((with_reducible refine gate_callee (f := 97) rfl ?_); refine goesL_ (some 11) rfl rfl Try.func97 (by kernel_rfl) rfl #[.slice Ao18 t154.length co18, .func (.func 98) #[] #[.pointer (some ⟨gb145, 0, none⟩)]] rfl tq_0 ?_; (with_reducible refine (slices_DeleteFunc_Entry_g98.calls (fun k_ => some k_ = (.slice Ao18 t154.length co18 : Value).ownBlock) (.slice Ao18 t154.length co18) t154 gb145 a1 t158 w _ ?side1 ?side2 ?side3 A4.out).mono ?_); (case side1 => repeat (first | (with_reducible first | exact HB.out | apply below_alloc | apply pw_below_drewN | apply below_drew1 | refine below_set ?_ GE144.out | refine below_set ?_ GE145.out | refine below_set ?_ GE146.out | refine below_set ?_ GE157.out) | exact HB.out)); (case side2 => exact Kd.R_tight rfl HO156.out); (case side3 => (with_reducible repeat (first | refine blk_drewN ?_ _ | refine blk_drew ?_ | refine blk_alloc ?_ _)); exact BK145.out); rintro e w21 ⟨v159, rfl, ho0, hb, hkp⟩; refine ⟨_, rfl, ?_⟩; have z_ := p_ (blk_kept tq_89 hkp (fun hs_ => (fun e_ => (Kd.R_ne HO156.out BK144.out (by decide)) e_) hs_)) <| p_ (blk_kept tq_126 hkp (fun hs_ => (fun e_ => (Kd.R_ne HO156.out BK145.out (by decide)) e_) hs_)) <| p_ (blk_kept tq_162 hkp (fun hs_ => (fun e_ => (Kd.R_ne HO156.out BK146.out (by decide)) e_) hs_)) <| p_ (Kd.R_mono (ok' := fun k_ => True) (Kd.R_keptB ((Kd.R_apart' HO153.out (Kd.R_typed HO156.out) (by decide))) hkp (fun k_ hk_ hs_ => (hk_.2) hs_)) (fun k_ hk_ => trivial)) <| p_ (blk_kept (by (with_reducible repeat (first | refine blk_drewN ?_ _ | refine blk_drew ?_ | refine blk_alloc ?_ _)); exact BK157.out) hkp (fun hs_ => (fun e_ => (Kd.R_ne HO156.out BK157.out (by decide)) e_) hs_)) <| p_ (Kd.R_mono (ok' := fun k_ => True) ho0 (fun k_ hk_ => trivial)) <| a_ (hb); clear BK144 BK145 BK146 HO153 BK157 HB HO156; obtain ⟨BK144, BK145, BK146, HO153, BK157, HO160, HB⟩ := z_; (try clear hb); (try clear hkp); (try clear ho0); obtain ⟨Ao22, co22, eo22⟩ := Kd.R_slice HO160.out; subst eo22; obtain ⟨hcz23_0, hcz23_1, hcz23_2, hcz23_3, hcz23_4, hcz23_5⟩ := bk6_ BK157.out; obtain ⟨hfz23_0, hfz23_1, hfz23_2, hfz23_3, hfz23_4, hfz23_5⟩ := bf6_ BK157.out; have hnb24 := NB146_145.out; have hnc24 := NB145_146.out; obtain ⟨hcz25_0, hcz25_1, hcz25_2, hcz25_3, hcz25_4, hcz25_5⟩ := bk6_ BK146.out; obtain ⟨hfz25_0, hfz25_1, hfz25_2, hfz25_3, hfz25_4, hfz25_5⟩ := bf6_ BK146.out))
 refine bodyPost_ret (results_cell_row rfl _ _ gb146 49 #[.int .i64 t147, .int .i64 t148, .int .i64 t149, .string t150, .slice Ao17 t151.length co17, .slice Ao22 t158.length co22] (0, 0) _ rfl (by (with_reducible repeat (first | refine blk_drewN ?_ _ | refine blk_drew ?_ | refine blk_alloc ?_ _)); refine blk_put (cs := #[.int .i64 t147, .int .i64 t148, .int .i64 t149, .string t150, .slice Ao17 t151.length co17, .slice none 0 0]) ?_ 5 _ rfl; (with_reducible repeat (first | refine blk_drewN ?_ _ | refine blk_drew ?_ | refine blk_alloc ?_ _)); refine blk_put (cs := #[.int .i64 t147, .int .i64 t148, .int .i64 t149, .string t150, .slice none 0 0, .slice none 0 0]) ?_ 4 _ rfl; (with_reducible repeat (first | refine blk_drewN ?_ _ | refine blk_drew ?_ | refine blk_alloc ?_ _)); refine blk_put (cs := #[.int .i64 t147, .int .i64 t148, .int .i64 t149, .string (⟨#[]⟩ : ByteArray), .slice none 0 0, .slice none 0 0]) ?_ 3 _ rfl; (with_reducible repeat (first | refine blk_drewN ?_ _ | refine blk_drew ?_ | refine blk_alloc ?_ _)); refine blk_put (cs := #[.int .i64 t147, .int .i64 t148, .int .i64 0, .string (⟨#[]⟩ : ByteArray), .slice none 0 0, .slice none 0 0]) ?_ 2 _ rfl; (with_reducible repeat (first | refine blk_drewN ?_ _ | refine blk_drew ?_ | refine blk_alloc ?_ _)); refine blk_put (cs := #[.int .i64 t147, .int .i64 0, .int .i64 0, .string (⟨#[]⟩ : ByteArray), .slice none 0 0, .slice none 0 0]) ?_ 1 _ rfl; (with_reducible repeat (first | refine blk_drewN ?_ _ | refine blk_drew ?_ | refine blk_alloc ?_ _)); refine blk_put (cs := #[.int .i64 0, .int .i64 0, .int .i64 0, .string (⟨#[]⟩ : ByteArray), .slice none 0 0, .slice none 0 0]) ?_ 0 _ rfl; (with_reducible repeat (first | refine blk_drewN ?_ _ | refine blk_drew ?_ | refine blk_alloc ?_ _)); refine blk_far ?_ NB146_157.out _; (with_reducible repeat (first | refine blk_drewN ?_ _ | refine blk_drew ?_ | refine blk_alloc ?_ _)); exact BK146.out) Try.underlying49 rfl (by kernel_rfl)) rfl ?_
 exact ⟨_, _, tq_11, (by (with_reducible repeat (first | apply Kd.R_alloc | apply Kd.R_drewN | apply Kd.R_drew)); exact Kd.R_mono (Kd.R_far (p := ⟨gb146, 5, none⟩) (Kd.R_far (p := ⟨gb146, 4, none⟩) (Kd.R_far (p := ⟨gb146, 3, none⟩) (Kd.R_far (p := ⟨gb146, 2, none⟩) (Kd.R_far (p := ⟨gb146, 1, none⟩) (Kd.R_far (p := ⟨gb146, 0, none⟩) (Kd.R_far (p := ⟨gb157, 5, none⟩) (Kd.R_types (Kd.R_types HO153.out BK157.out (by decide)) BK146.out (by decide)) (fun _ hk => hk.1.2) (.slice Ao22 t158.length co22)) (fun _ hk => hk.2) (.int .i64 t147)) (fun _ hk => hk.2) (.int .i64 t148)) (fun _ hk => hk.2) (.int .i64 t149)) (fun _ hk => hk.2) (.string t150)) (fun _ hk => hk.2) (.slice Ao17 t151.length co17)) (fun _ hk => hk.2) (.slice Ao22 t158.length co22)) (fun _ hk => trivial)), (by (with_reducible repeat (first | apply Kd.R_alloc | apply Kd.R_drewN | apply Kd.R_drew)); exact Kd.R_mono (Kd.R_far (p := ⟨gb146, 5, none⟩) (Kd.R_far (p := ⟨gb146, 4, none⟩) (Kd.R_far (p := ⟨gb146, 3, none⟩) (Kd.R_far (p := ⟨gb146, 2, none⟩) (Kd.R_far (p := ⟨gb146, 1, none⟩) (Kd.R_far (p := ⟨gb146, 0, none⟩) (Kd.R_far (p := ⟨gb157, 5, none⟩) (Kd.R_types (Kd.R_types HO160.out BK157.out (by decide)) BK146.out (by decide)) (fun _ hk => hk.1.2) (.slice Ao22 t158.length co22)) (fun _ hk => hk.2) (.int .i64 t147)) (fun _ hk => hk.2) (.int .i64 t148)) (fun _ hk => hk.2) (.int .i64 t149)) (fun _ hk => hk.2) (.string t150)) (fun _ hk => hk.2) (.slice Ao17 t151.length co17)) (fun _ hk => hk.2) (.slice Ao22 t158.length co22)) (fun _ hk => trivial)), tq_189⟩

end Go.Proofs.Ytcdnfkoahajhhaa.PFnEntries
