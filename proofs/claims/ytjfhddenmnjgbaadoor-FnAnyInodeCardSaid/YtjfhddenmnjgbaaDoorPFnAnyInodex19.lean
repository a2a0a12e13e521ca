/- Contracts of Go functions, written by a program of ours over the print of the kit: each says that the call returns what the Lean function beside it computes. Conditions: as each theorem states them. -/
import Derived.Test.YtjfhddenmnjgbaaDoorPkFnAnyInode
import Derived.Test.YtjfhddenmnjgbaaDoorPFnAnyInodex0
import Derived.Test.YtjfhddenmnjgbaaDoorPFnAnyInodex7
import Derived.Test.YtjfhddenmnjgbaaDoorPFnAnyInodex16
import Derived.Test.YtjfhddenmnjgbaaDoorPFnAnyInodex18
namespace Go.Proofs.YtjfhddenmnjgbaaDoor.PFnAnyInode
open Go.RowKit Go.Proofs.YtjfhddenmnjgbaaDoorW.PrintWords Go.Proofs.YtjfhddenmnjgbaaDoorW.PrintLast Go.Proofs.YtjfhddenmnjgbaaDoorW.PrintMore
attribute [local go_sem] max2_int min2_int max_two min_two max_three min_three max_four min_four setCell_drewN   -- for this text's walks alone
set_option linter.unusedVariables false
set_option linter.unusedSimpArgs false

/-! '[]byte(s)' as a row of the call's own: its block bears a mark behind its last cell, so it is no Kd.R. -/
def BR (e : Nat) (w : World) (base : Nat) (ok : Nat → Prop) (v : Value) (xs : List Int) : Prop :=
 (∀ k, v.ownBlock = some k → ok k) ∧ ∃ g cap cur, v = .slice (some ⟨g, 0, none⟩) xs.length cap ∧ base ≤ g ∧ w.heap[g]? = some (.cells cur e (cur.size, cur.size + 1)) ∧ xs.length ≤ cur.size ∧ ∀ j, j < xs.length → cur[j]? = some (.int .u8 (xs.getD j 0))
section
variable {e : Nat} {w w1 : World} {base b : Nat} {ok ok' : Nat → Prop} {v : Value} {xs : List Int}
theorem BR.lt (h : BR e w base ok v xs) : ∀ k, v.ownBlock = some k → k < w.heap.size := by
 obtain ⟨_, g, cap, cur, rfl, _, hh, _⟩ := h
 intro k hk
 have : g = k := by simpa [Value.ownBlock] using hk
 subst this
 exact (Array.getElem?_eq_some_iff.1 hh).1
theorem BR.step (h : BR e w base ok v xs) (hm : ∀ k, v.ownBlock = some k → k < w.heap.size → w1.heap[k]? = w.heap[k]?) : BR e w1 base ok v xs := by
 have hlt := h.lt
 obtain ⟨h0, g, cap, cur, rfl, hb, hh, hl, hc⟩ := h
 exact ⟨h0, g, cap, cur, rfl, hb, (by rw [hm g (by simp [Value.ownBlock]) (hlt g (by simp [Value.ownBlock]))]; exact hh), hl, hc⟩
theorem BR.lower (h : BR e w base ok v xs) (hb : b ≤ base) : BR e w b ok v xs := by
 obtain ⟨h0, g, cap, cur, hv, hg, r⟩ := h
 exact ⟨h0, g, cap, cur, hv, Nat.le_trans hb hg, r⟩
theorem BR.drew (h : BR e w base ok v xs) : BR e w.drew base ok v xs := h.step (fun _ _ _ => rfl)
theorem BR.slice (h : BR e w base ok v xs) : ∃ A c, v = .slice A xs.length c := by
 obtain ⟨_, g, cap, cur, hv, _⟩ := h
 exact ⟨_, _, hv⟩
theorem BR.at_int {A : Option Addr} {n c : Nat} (h : BR e w base ok (.slice A n c) xs) (i : Int) (h0 : 0 ≤ i) (h1 : i < (xs.length : Int)) : ∃ ad, A = some ad ∧ w.cell? (ad.add i.toNat) = some (.int .u8 (rd xs i)) := by
 obtain ⟨_, g, cap, cur, hv, _, hh, _, hc⟩ := h
 injection hv with hA _ _
 refine ⟨_, hA, ?_⟩
 rw [add_plain, cell_of_row w g _ cur e _ hh]
 exact hc _ (by omega)
theorem BR.own_ne {g0 t : Nat} {cells : Array Value} (h : BR e w base ok v xs) (hb : w.heap[g0]? = some (.cells cells t (0, 0))) (ht : e ≠ t) : some g0 ≠ v.ownBlock := by
 obtain ⟨_, g, cap, cur, rfl, _, hh, _⟩ := h
 intro he
 have : g0 = g := by simpa [Value.ownBlock] using he
 subst this
 rw [hb] at hh
 injection hh with hh
 injection hh with _ h2 _
 exact ht h2.symm
theorem BR.keep (h : BR e w base ok v xs) {g0 : Nat} (hk : KeepBut w w1 g0 none) (hne : some g0 ≠ v.ownBlock) : BR e w1 base ok v xs :=
 h.step (fun k hk1 hlt => hk.2 k hlt (fun he => hne (by rw [hk1, he])) (by simp))
theorem BR.form (h : BR e w base ok v xs) : ∃ g cap, v = .slice (some ⟨g, 0, none⟩) xs.length cap ∧ base ≤ g ∧ g < w.heap.size ∧ 0 ≤ g := by
 have hlt := h.lt
 obtain ⟨_, g, cap, cur, rfl, hb, hh, _⟩ := h
 exact ⟨g, cap, rfl, hb, hlt g (by simp [Value.ownBlock]), Nat.zero_le _⟩
theorem BR.celln {g n cap : Nat} (h : BR e w base ok (.slice (some ⟨g, 0, none⟩) n cap) xs) (i : Int) (h0 : 0 ≤ i) (h1 : i < (xs.length : Int)) : w.cell? ⟨g, i.toNat, none⟩ = some (.int .u8 (rd xs i)) ∧ w.frozen? ⟨g, i.toNat, none⟩ = false := by
 obtain ⟨_, g', cap', cur, hv, _, hh, hl, hc⟩ := h
 injection hv with hA _ _
 injection hA with hA
 injection hA with hA _ _
 subst hA
 refine ⟨(by rw [cell_of_row w g _ cur e _ hh]; exact hc _ (by omega)), ?_⟩
 simp only [World.frozen?, hh, Bool.and_eq_false_iff, decide_eq_false_iff_not]
 left
 omega
theorem BR.putn {g n cap : Nat} (h : BR e w base ok (.slice (some ⟨g, 0, none⟩) n cap) xs) (i : Int) (x : Int) : BR e (w.setCell ⟨g, i.toNat, none⟩ (.int .u8 x)) base ok (.slice (some ⟨g, 0, none⟩) n cap) (xs.set i.toNat x) := by
 obtain ⟨h00, g', cap', cur, hv, hb, hh, hl, hc⟩ := h
 injection hv with hA hn hcap
 injection hA with hA
 injection hA with hA _ _
 subst hA; subst hn; subst hcap
 have hh2 : (w.setCell ⟨g, i.toNat, none⟩ (.int .u8 x)).heap[g]? = some (.cells (cur.setIfInBounds i.toNat (.int .u8 x)) e (cur.size, cur.size + 1)) := by
  simp [World.setCell, Array.getElem?_modify, hh]
 refine ⟨h00, g, cap, cur.setIfInBounds i.toNat (.int .u8 x), (by rw [List.length_set]), hb, (by rw [Array.size_setIfInBounds]; exact hh2), (by rw [List.length_set, Array.size_setIfInBounds]; exact hl), fun j hj => ?_⟩
 rw [List.length_set] at hj
 rw [Array.getElem?_setIfInBounds, List.getD_eq_getElem?_getD, List.getElem?_set]
 by_cases hij : i.toNat = j
 ·rw [if_pos hij, if_pos hij, if_pos (by omega), if_pos (by omega)]
  rfl
 ·rw [if_neg hij, if_neg hij, hc j hj, List.getD_eq_getElem?_getD]
theorem BR.string {P : Program} {src dst e' : TypeId} (h : BR e w base ok v xs) (hs : P.underlying src = some (.slice e')) (he : P.underlying e' = some (.int .u8)) (hd : P.underlying dst = some .string) : (convert src dst v).run P w = .ok (.string (strOfNums xs)) w := by
 obtain ⟨_, g, cap, cur, rfl, _, hh, _, hc⟩ := h
 refine run_convert_bytes_arg w src e' hs he g 0 xs.length cap xs rfl (fun i hi => ?_) dst hd
 rw [Nat.zero_add, cell_of_row w g _ cur e _ hh]
 exact hc i hi
theorem BR.lay {P : Program} {ops : Array Oper} {rest : List Oper} {o : Oper} {a : Act} {Q : Exit → Act → World → Prop} {w0 W : World} (base e : Nat) (hgd : o.guard = none) {N : Tmp} (_hd : o.dst = some N) (t0 t : TypeId) (x : Operand) (ho : o.op = .convert t0 t x) (s : ByteArray) (hx : a.eval x = .string s)
  {u : TypeDesc} (h0 : P.underlying t0 = some u) (ht : P.underlying t = some (.slice e)) (he : P.underlying e = some (.int .u8)) (HB : Below base w0 W) (hbase : base ≤ W.heap.size)
  (h : ∀ v1 w1, BR e w1 base (fun _ => True) v1 (bytesOf s) → Below base w0 w1 → True → True → wpList P ops Q rest (a.put o.dst v1) w1) : wpList P ops Q (o :: rest) a W := by
 have hr := print_bytes (P := P) t0 t e h0 ht he s W
 have hrun : (execOp a.eval o).run P W = .ok (.value (.slice (some ⟨W.heap.size, 0, none⟩) s.size (grownCap W s.size 0 e))) (Lib.bytesWorld W e s) := by simp [execOp, ho, hx, hr]
 refine Kd.event_run hgd hrun (h _ _ ⟨fun _ _ => trivial, W.heap.size, grownCap W s.size 0 e, Lib.bytesCells W e s, (by rw [bytesOf_length]), hbase, Lib.bytesWorld_at_new W e s, ?_, fun j hj => ?_⟩ (bytes_below HB hbase e s) trivial trivial)
 ·rw [bytesOf_length]
  have h1 : (Lib.bytesCells W e s).size = s.data.size + (grownCap W s.size 0 e - s.size) := by simp [Lib.bytesCells]
  have h2 : s.data.size = s.size := rfl
  omega
 ·rw [bytesOf_length] at hj
  have h' : j < s.data.toList.length := by rw [data_length]; exact hj
  have h3 := Lib.bytesWorld_cell W e s j hj
  rw [cell_of_row _ _ _ _ _ _ (Lib.bytesWorld_at_new W e s)] at h3
  rw [h3]
  simp [bytesOf, List.getD_eq_getElem?_getD, List.getElem?_eq_getElem h']
theorem BR.st {w0 : World} {g : Nat} {f0 : List Int} {f1 f2 : Int} (h : IsS83 w0 w g f0 f1 f2) (ho : BR e w base ok v xs) (ht : e ≠ 83) : some g ≠ v.ownBlock := by
 obtain ⟨_, _, hb, _⟩ := h
 exact ho.own_ne hb ht
end

/-! ### spec_l09Turned: function 64 -/
def spec_l09Turned.f (s0_0 : List Int) (s0_1 : Int) (s0_2 : Int) (a1 : ByteArray) : Option (ByteArray × Int × Int) := if (a1.size : Int) = 0 then (some ((⟨#[120]⟩ : ByteArray), s0_1, s0_2)) else ((some (bytesOf a1 : List Int)).bind fun y435 => ((spec_l01Below.f s0_0 s0_1 s0_2 (y435.length : Int)).bind fun bt438 => (if 0 ≤ bt438.1 then (if bt438.1 < (y435.length : Int) then ((spec_l01Below.f s0_0 bt438.2.1 bt438.2.2 255).bind fun bt442 => (some (strOfNums (y435.set (bt438.1 : Int).toNat (Go.bits .xor .u8 (rd y435 bt438.1) ((wrap64 (1 + bt442.1)) % 256))), bt442.2.1, bt442.2.2))) else (none)) else (none))))
def spec_l09Turned.T4 : Bool × List (List Nat × List Nat) := (true, [([], []), ([], []), ([], []), ([2], [2]), ([1, 3], [1, 3]), ([0, 4], [0, 4]), ([5], [5]), ([], []), ([7, 4], [7]), ([8], [8]), ([9], [9]), ([6, 10], [6, 10]), ([0, 4, 0, 1, 2, 3, 4, 5, 6, 7, 8, 9, 10, 11], [0, 4]), ([12, 11, 8, 0, 1, 2, 3, 4, 5, 6, 7, 8, 9, 10, 11], [11, 12])])
def spec_l09Turned.B4 : List Nat := [0, 0, 0, 4, 14, 31, 63, 0, 158, 414, 926, 2047, 4095, 8191]
theorem spec_l09Turned.tab4 : rtab .any (opsOf Tryd.f64 4) = spec_l09Turned.T4 := by kernel_rfl
theorem spec_l09Turned.bits4 : waitsOk spec_l09Turned.T4.2 spec_l09Turned.B4 = true := by kernel_rfl
set_option maxHeartbeats 8000000 in
set_option maxRecDepth 100000 in
theorem spec_l09Turned.calls (g : Nat) (s0_0 : List Int) (s0_1 : Int) (s0_2 : Int) (a1 : ByteArray) (r1 : ByteArray) (r2 : Int) (r3 : Int) (w0 w : World) (hI : IsS83 w0 w g s0_0 s0_1 s0_2) (hB : Below w0.heap.size w0 w) (h : spec_l09Turned.f s0_0 s0_1 s0_2 a1 = some (r1, r2, r3)) :
  Calls Tryd.prog 64 #[.pointer (some ⟨g, 0, none⟩), .string a1] w fun e w' => e = .returned (.string r1) ∧ IsS83 w0 w' g s0_0 r2 r3 ∧ Below w0.heap.size w0 w' ∧ KeepBut w w' g none := by
 have HI0 := Aside0.mk hI
 have HK := Aside0.mk (KeepBut.refl w g none)
 have HL := Aside0.mk hB.size
 clear hI
 have HW0 := Aside0.mk hB.size
 have HB := Aside0.mk hB
 clear hB
 unfold spec_l09Turned.f at h
 have H := h
 clear h
 by_cases c3 : (a1.size : Int) = 0
 ·rw [if_pos c3] at H
  have c3b0 := beq_iff_eq.mpr c3
  have c3b1 := bne_eq_false_iff_eq.mpr c3
  clear c3
  simp only [Option.some.injEq, Prod.mk.injEq] at H
  obtain ⟨rfl, rfl, rfl⟩ := H
  go_enter Tryd.func64, Tryd.ntmps64
  go_wp2
  go_ret
  exact ⟨tq_2, tq_8, tq_14, tq_7⟩
 rw [if_neg c3] at H
 have c3b0 := beq_eq_false_iff_ne.mpr c3
 have c3b1 := bne_iff_ne.mpr c3
 obtain ⟨y435, Ny435, H⟩ := bs_ H
 obtain ⟨⟨t438, t439, t440⟩, A4, H⟩ := bd_ H
 try dsimp -simprocs only at H
 obtain ⟨c5, H⟩ := fc_ H
 have c5b0 := decide_eq_true c5
 clear c5
 obtain ⟨c6, H⟩ := fc_ H
 have c6b0 := decide_eq_true c6
 clear c6
 obtain ⟨⟨t442, t443, t444⟩, A7, H⟩ := bd_ H
 try dsimp -simprocs only at H
 obtain ⟨y445, hy445⟩ : ∃ y_ : List Int, y_ = (y435.set (t438 : Int).toNat (Go.bits .xor .u8 (rd y435 t438) ((wrap64 (1 + t442)) % 256))) := ⟨_, rfl⟩
 replace H : (some (strOfNums y445, t443, t444)) = some (r1, r2, r3) := by first | (rw [hy445]; with_reducible exact H) | (have H2_ := (Option.bind_some _ _).symm.trans H; rw [hy445]; with_reducible exact H2_) | (have H2_ := (Option.bind_some _ _).symm.trans H; with_reducible exact H2_) | with_reducible exact H | (rw [hy445]; exact H) | exact H
 have Ny445 := Aside0.mk hy445
 clear hy445
 simp only [Option.some.injEq, Prod.mk.injEq] at H
 obtain ⟨rfl, rfl, rfl⟩ := H
 go_enter Tryd.func64, Tryd.ntmps64
 try go_wp2_with (first | ((with_reducible refine gate_dst (N := 10) rfl ?_); refine BR.lay _ 5 rfl (N := 10) rfl 9 35 _ rfl a1 rfl Tryd.underlying9 Tryd.underlying35 Tryd.underlying5 (Below.refl _ _) (Nat.le_refl _) ?_; intro v436 w9 ho10 hb hg_ hnew_; clear hg_ hnew_; (first | rw [← Ny435.out] at ho10 | (simp only [Int.reduceToNat] at ho10; rw [← Ny435.out] at ho10)); have z_ := p_ (BR.lower ho10 (keep_size (w := w) (g := g) (row := none) tq_7)) <| p_ (IsS83.below tq_8 hb) <| p_ (KeepBut.trans tq_7 (KeepBut.of_below hb g none) (.inl rfl)) <| a_ (below_step tq_14 hb); clear HI0 HK HB; obtain ⟨HO437, HI0, HK, HB⟩ := z_; clear hb ho10))
 have z_ := p_ (BR.drew HO437.out) <| p_ (IsS83.drew HI0.out) <| p_ (keep_drew HK.out) <| a_ (below_drew1 HB.out)
 clear HO437 HI0 HK HB
 obtain ⟨HO437, HI0, HK, HB⟩ := z_
 obtain ⟨Ao12, co12, eo12⟩ := BR.slice HO437.out
 (first | subst eo12 | (injection eo12 with f1_ f2_ f3_; have f4_ := f1_.symm; have f5_ := f3_.symm; clear f1_ f2_ f3_; subst f4_; subst f5_))
 have p441 : 0 ≤ (t438 : Int) := of_decide_eq_true tq_1
 have q441 : t438 < (y435.length : Int) := of_decide_eq_true tq_1
 obtain ⟨ad441, e441, hx441_0⟩ := BR.at_int HO437.out t438 p441 q441
 cases e441
 replace p441 := eq_true p441
 replace q441 := eq_true q441
 refine start_ (n := 14) (S := fun w' => w'.cell? (ad441.add (t438).toNat) = some (.int .u8 (rd y435 t438))) (ds := [13]) bq_151 (by kernel_rfl) rfl rfl (hx441_0) (fun hHeld => ?_); refine with_tabW spec_l09Turned.tab4 spec_l09Turned.bits4 (fun HT_ HW_ => ?_)
 generalize w9.drew = w11 at HO437 HI0 HK HB hx441_0 hHeld ⊢
 refine yr_ 0 11 bq_152 HT_ ?_
 refine yr_ 1 12 #[true, true, false, false, false, false, false, false, false, false, false, false, false, false] HT_ ?_
 refine yr_ 2 13 #[true, true, true, false, false, false, false, false, false, false, false, false, false, false] HT_ ?_
 refine yr_ 3 14 #[true, true, true, true, false, false, false, false, false, false, false, false, false, false] HT_ ?_
 refine yr_ 7 18 #[true, true, true, true, false, false, false, true, false, false, false, false, false, false] HT_ ?_
 refine one_ (i := 4) (N := some 15) #[true, true, true, true, true, false, false, true, false, false, false, false, false, false] rfl rfl (one_of HT_.out (by kernel_rfl)) (by decide) (fun K hK => ?_)
 refine goes_ Tryd.func63 (by kernel_rfl) rfl #[.pointer (some ⟨g, 0, none⟩), .int .i64 (y435.length : Int)] (by rfl) rfl rfl tq_0 ?_
 with_reducible refine (spec_l01Below.calls g s0_0 s0_1 s0_2 (y435.length : Int) t438 t439 t440 w0 _ ?side1 ?side2 A4.out).mono ?_
 (case side1 => exact tq_20)
 (case side2 => exact tq_19)
 rintro e w13 ⟨rfl, hi, hb, hk⟩
 have HS0_ := keep_cell hk (hHeld) tq_70
 refine ⟨_, rfl, ?_⟩
 have z_ := p_ (BR.keep HO437.out hk (BR.st HI0.out HO437.out (by decide))) <| p_ (KeepBut.trans tq_7 hk (.inl rfl)) <| p_ (hb) <| a_ (hi)
 clear HO437 HK HB HI0
 obtain ⟨HO437, HK, HB, HI0⟩ := z_
 (try clear hb)
 (try clear hk)
 (try clear hi)
 refine hK.out _ _ (HS0_) (fun hHeld => ?_)
 clear hK K
 refine nm_ (some 15) ?_
 refine yr_ 5 16 #[true, true, true, true, true, true, false, true, false, false, false, false, false, false] HT_ ?_
 refine take_ (i := 6) (N := some 17) (v := ?_) (a' := ?_) #[true, true, true, true, true, true, true, true, false, false, false, false, false, false] rfl rfl (take_ofW HT_.out HW_.out (by kernel_rfl)) (fun _ _ _ h => h) (Or.inl ⟨(by rfl), ?_⟩) hHeld ?_ ?_
 rotate_left
 ·intro w' s0
  go_simp
  with_reducible rfl
 rotate_left
 ·simp only [Act.put, List.setIfInBounds_toArray, List.set_cons_zero, List.set_cons_succ, i64_w, i32_w]
  rfl
 refine one_ (i := 8) (N := some 19) bq_153 rfl rfl (one_of HT_.out (by kernel_rfl)) (by decide) (fun K hK => ?_)
 refine goes_ Tryd.func63 (by kernel_rfl) rfl #[.pointer (some ⟨g, 0, none⟩), .int .i64 255] (by rfl) rfl rfl tq_0 ?_
 with_reducible refine (spec_l01Below.calls g s0_0 t439 t440 255 t442 t443 t444 w0 _ ?side1 ?side2 A7.out).mono ?_
 (case side1 => exact tq_20)
 (case side2 => exact tq_19)
 rintro e w14 ⟨rfl, hi, hb, hk⟩
 have HS0_ := keep_cell hk (hHeld) tq_70
 refine ⟨_, rfl, ?_⟩
 have z_ := p_ (BR.keep HO437.out hk (BR.st HI0.out HO437.out (by decide))) <| p_ (KeepBut.trans tq_7 hk (.inl rfl)) <| p_ (hb) <| a_ (hi)
 clear HO437 HK HB HI0
 obtain ⟨HO437, HK, HB, HI0⟩ := z_
 (try clear hb)
 (try clear hk)
 (try clear hi)
 have p8 : 0 ≤ (t438 : Int) := of_decide_eq_true tq_1
 have q8 : (t438 : Int) < ((y435.length : Int) : Int) := of_decide_eq_true tq_1
 obtain ⟨go8, co8, eo8, gb8, gl8, HG8⟩ := BR.form HO437.out
 (first | cases eo8 | (injection eo8 with ea_ en_ ec_; (first | subst ea_ | (injection ea_ with ea_; subst ea_)); subst ec_; clear en_))
 have GB8 := Aside0.mk gb8
 have GG8 := Aside0.mk HG8
 clear gb8 gl8 HG8
 (first | simp only [add_plain] at hx441_0 | skip)
 obtain ⟨hx8_0, hf8_0⟩ := BR.celln HO437.out (t438 : Int) p8 q8
 replace p8 := eq_true p8
 replace q8 := eq_true q8
 have HN0_go8 := Aside0.mk (show g ≠ go8 from by have h_ := BR.st HI0.out HO437.out (by decide); intro e_; exact h_ (by rw [e_]; rfl))
 have HP15 := BR.putn HO437.out (t438 : Int) (Go.bits .xor .u8 (rd y435 t438) ((wrap64 (1 + t442)) % 256))
 rw [← Ny445.out] at HP15
 have HQ15 := Aside0.mk HP15
 clear HP15
 refine hK.out _ _ (HS0_) (fun hHeld => ?_)
 clear hK K
 refine nm_ (some 19) ?_
 refine yr_ 9 20 bq_154 HT_ ?_
 refine yr_ 10 21 bq_155 HT_ ?_
 refine yr_ 11 22 bq_156 HT_ ?_
 refine yr_ 12 23 bq_157 HT_ ?_
 refine last_ (i := 13) (N := none) bq_158 rfl rfl (one_of HT_.out (by kernel_rfl)) (by decide) (fun K hK => ?_)
 refine skip_ (w1 := ?_) (by rfl) rfl ?_ ?_
 rotate_left
 ·go_simp
  rfl
 refine hK.out _ _ ?_
 clear hK K
 refine done_ (done_of HT_.out (by kernel_rfl)) ?_
 have hcv16 := BR.string (P := Tryd.prog) HQ15.out Tryd.underlying35 Tryd.underlying5 Tryd.underlying9
 try go_wp2
 rw [hcv16]
 go_wp2
 go_ret
 exact ⟨tq_2, (by repeat (first | (with_reducible first | exact HI0.out | apply IsS83.alloc | apply IsS83.drewN | apply IsS83.drew | apply IsS83.set_1 | apply IsS83.set_2 | refine IsS83.far ?_ HN0_go8.out _) | exact HI0.out)), (by repeat (first | (with_reducible first | exact HB.out | apply below_alloc | apply pw_below_drewN | apply below_drew1 | refine below_set ?_ (Nat.le_trans HL.out GB8.out) | refine below_set ?_ (IsS83.ge HI0.out)) | exact HB.out)), (by repeat (first | (with_reducible first | exact HK.out | apply KeepBut.set_ | apply keep_drewN | apply keep_drew | apply keep_alloc | refine keep_far ?_ GB8.out _) | exact HK.out))⟩

/-! ### spec_DrawReadInode: function 27 -/
def spec_DrawReadInode.f (k : Nat) (l0 : List Int) : Option (List ByteArray) := (spec_l01New.f k l0).bind fun bt446 => ((spec_l12Inode.f k bt446.1 bt446.2.1 bt446.2.2).bind fun bt450 => ((spec_InodeWords.f k bt450.1 bt450.2.1 bt450.2.2.1 bt450.2.2.2.1 bt450.2.2.2.2.1 bt450.2.2.2.2.2.1).bind fun t462 => ((spec_l01Below.f bt446.1 bt450.2.2.2.2.2.2.1 bt450.2.2.2.2.2.2.2 4).bind fun bt465 => (if bt465.1 = 0 then ((spec_l01Below.f bt446.1 bt465.2.1 bt465.2.2 8).bind fun bt468 => (if 0 ≤ bt468.1 then (if bt468.1 < (t462.length : Int) then ((spec_l09Turned.f bt446.1 bt468.2.1 bt468.2.2 (rdOf ByteArray.empty t462 bt468.1)).bind fun bt472 => (some (t462.set (bt468.1 : Int).toNat bt472.1))) else (none)) else (none))) else (if bt465.1 = 1 then (if 0 < (t462.length : Int) then (if t462.length < 8796093022208 then (some (t462 ++ [rdOf ByteArray.empty t462 0])) else (none)) else (none)) else (some t462))))))
theorem spec_DrawReadInode.mono : ∀ a0 k, LeO (spec_DrawReadInode.f k a0) (spec_DrawReadInode.f (k + 1) a0) := by
 intro a0 k
 unfold spec_DrawReadInode.f
 repeat' first
   | (with_reducible exact spec_InodeWords.mono ..)
   | (with_reducible exact spec_l01New.mono ..)
   | (with_reducible exact spec_l12Inode.mono ..)
   | (with_reducible exact LeO.refl _)
   | (with_reducible exact LeO.none _)
   | (with_reducible refine LeO.ite ?_ ?_)
   | (with_reducible refine LeO.bind ?_ (fun _ => ?_))
   | exact spec_InodeWords.mono ..
   | exact spec_l01New.mono ..
   | exact spec_l12Inode.mono ..
   | exact LeO.none _
   | refine LeO.ite ?_ ?_
   | refine LeO.bind ?_ (fun _ => ?_)
set_option maxHeartbeats 8000000 in
set_option maxRecDepth 100000 in
theorem spec_DrawReadInode.calls (k : Nat) (A0 : Option Addr) (c0 : Nat) (l0 : List Int) (r : List ByteArray) (w : World) (hr0 : Kd.C (Kd.int .u8) w A0 l0.length l0) (hc0 : l0.length ≤ c0) (h : spec_DrawReadInode.f k l0 = some r) :
  Calls Tryd.prog 27 #[.slice A0 l0.length c0] w fun e w' => ∃ v0_ : Value, e = .returned (v0_) ∧ Kd.R Kd.string 9 w' w.heap.size (fun _ => True) v0_ r ∧ Below w.heap.size w w' := by
 have HR0 := Aside0.mk hr0
 have HC0 := Aside0.mk hc0
 clear hr0 hc0
 have HB := Aside0.mk (Below.refl w.heap.size w)
 unfold spec_DrawReadInode.f at h
 have H := h
 clear h
 obtain ⟨⟨t446, t447, t448⟩, A2, H⟩ := bd_ H
 try dsimp -simprocs only at H
 obtain ⟨⟨t450, t451, t452, t453, t454, t457, t460, t461⟩, A3, H⟩ := bd_ H
 try dsimp -simprocs only at H
 obtain ⟨t462, A4, H⟩ := bd_ H
 obtain ⟨⟨t465, t466, t467⟩, A5, H⟩ := bd_ H
 try dsimp -simprocs only at H
 by_cases c6 : t465 = 0
 ·rw [if_pos c6] at H
  have c6b0 := beq_iff_eq.mpr c6
  have c6b1 := bne_eq_false_iff_eq.mpr c6
  clear c6
  obtain ⟨⟨t468, t469, t470⟩, A7, H⟩ := bd_ H
  try dsimp -simprocs only at H
  obtain ⟨c8, H⟩ := fc_ H
  have c8b0 := decide_eq_true c8
  clear c8
  obtain ⟨c9, H⟩ := fc_ H
  have c9b0 := decide_eq_true c9
  clear c9
  obtain ⟨⟨t472, t473, t474⟩, A10, H⟩ := bd_ H
  try dsimp -simprocs only at H
  obtain ⟨y475, hy475⟩ : ∃ y_ : List ByteArray, y_ = (t462.set (t468 : Int).toNat t472) := ⟨_, rfl⟩
  replace H : (some y475) = some r := by first | (rw [hy475]; with_reducible exact H) | (have H2_ := (Option.bind_some _ _).symm.trans H; rw [hy475]; with_reducible exact H2_) | (have H2_ := (Option.bind_some _ _).symm.trans H; with_reducible exact H2_) | with_reducible exact H | (rw [hy475]; exact H) | exact H
  have Ny475 := Aside0.mk hy475
  clear hy475
  obtain rfl := Option.some.inj H
  go_enter Tryd.func27, Tryd.ntmps27
  go_wp2_with (first | ((with_reducible refine gate_callee (f := 49) rfl ?_); refine goesL_ (some 7) rfl rfl Tryd.func49 (by kernel_rfl) rfl #[.slice A0 l0.length c0] rfl tq_0 ?_; (with_reducible refine (spec_l01New.calls k _ _ l0 t446 t447 t448 w _ ?side1 ?side2 ?side3 A2.out).mono ?_); (case side1 => exact tq_71); (case side2 => exact HR0.out); (case side3 => exact HC0.out); rintro e w12 ⟨g449, rfl, hi, hb, hb2⟩; refine ⟨_, rfl, ?_⟩; have z_ := p_ (hb) <| a_ (hi); clear HB; obtain ⟨HB, HI449⟩ := z_; (try clear hb); (try clear hb2); (try clear hi)) | ((with_reducible refine gate_callee (f := 62) rfl ?_); refine goesL_ (some 9) rfl rfl Tryd.func62 (by kernel_rfl) rfl #[.pointer (some ⟨g449, 0, none⟩)] rfl tq_0 ?_; (with_reducible refine (spec_l12Inode.calls k g449 t446 t447 t448 t450 t451 t452 t453 t454 t457 t460 t461 w _ ?side1 ?side2 A3.out).mono ?_); (case side1 => exact tq_25); (case side2 => exact tq_24); rintro e w13 ⟨v455, v458, rfl, ho0, ho1, hi, hb, hk⟩; refine ⟨_, rfl, ?_⟩; have z_ := p_ (Kd.R_lower ho0 (below_size tq_15)) <| p_ (Kd.R_lower ho1 (below_size tq_15)) <| p_ (hb) <| a_ (hi); clear HB HI449; obtain ⟨HO456, HO459, HB, HI449⟩ := z_; (try clear hb); (try clear hb2); (try clear hk); (try clear hi); (try clear ho0); (try clear ho1); obtain ⟨Ao14, co14, eo14⟩ := Kd.R_slice HO456.out; subst eo14; obtain ⟨Ao15, co15, eo15⟩ := Kd.R_slice HO459.out; subst eo15) | ((with_reducible refine gate_callee (f := 34) rfl ?_); refine goesL_ (some 10) rfl rfl Tryd.func34 (by kernel_rfl) rfl #[.agg #[.int .i64 t450, .int .i64 t451, .int .i64 t452, .string t453, .slice Ao14 t454.length co14, .slice Ao15 t457.length co15]] rfl tq_0 ?_; (with_reducible refine (spec_InodeWords.calls k t450 t451 t452 t453 _ _ t454 _ _ t457 t462 _ ?side1 ?side2 ?side3 ?side4 A4.out).mono ?_); (case side1 => exact tq_66); (case side2 => exact (Kd.R_reads' HO456.out).2.1); (case side3 => exact tq_65); (case side4 => exact (Kd.R_reads' HO459.out).2.1); rintro e w16 ⟨v463, rfl, ho0, hb⟩; refine ⟨_, rfl, ?_⟩; have z_ := p_ (Kd.R_below (raR_ HO456) hb) <| p_ (Kd.R_below (raR_ HO459) hb) <| p_ (Kd.R_lower ho0 (below_size tq_15)) <| p_ (IsS83.below tq_13 hb) <| a_ (below_step tq_15 hb); clear HO456 HO459 HI449 HB; obtain ⟨HO456, HO459, HO464, HI449, HB⟩ := z_; (try clear hb); (try clear hk); (try clear hi); (try clear ho0)) | ((with_reducible refine gate_callee (f := 63) rfl ?_); refine goesL_ (some 12) rfl rfl Tryd.func63 (by kernel_rfl) rfl #[.pointer (some ⟨g449, 0, none⟩), .int .i64 4] rfl tq_0 ?_; (with_reducible refine (spec_l01Below.calls g449 t446 t460 t461 4 t465 t466 t467 w _ ?side1 ?side2 A5.out).mono ?_); (case side1 => exact tq_25); (case side2 => exact tq_24); rintro e w17 ⟨rfl, hi, hb, hk⟩; refine ⟨_, rfl, ?_⟩; have z_ := p_ (Kd.R_mono (Kd.R_keep (IsS83.apart (show IsS83 w _ g449 t446 t460 t461 from tq_13) (raR_ HO456) (by decide)) hk (fun _ h => h.2)) (fun _ h => h.1)) <| p_ (Kd.R_mono (Kd.R_keep (IsS83.apart (show IsS83 w _ g449 t446 t460 t461 from tq_13) (raR_ HO459) (by decide)) hk (fun _ h => h.2)) (fun _ h => h.1)) <| p_ (Kd.R_mono (Kd.R_keep (IsS83.apart (show IsS83 w _ g449 t446 t460 t461 from tq_13) (raR_ HO464) (by decide)) hk (fun _ h => h.2)) (fun _ h => h.1)) <| p_ (hb) <| a_ (hi); clear HO456 HO459 HO464 HB HI449; obtain ⟨HO456, HO459, HO464, HB, HI449⟩ := z_; (try clear hb); (try clear hk); (try clear hi)) | ((with_reducible refine gate_callee (f := 63) rfl ?_); refine goesL_ (some 16) rfl rfl Tryd.func63 (by kernel_rfl) rfl #[.pointer (some ⟨g449, 0, none⟩), .int .i64 8] rfl tq_0 ?_; (with_reducible refine (spec_l01Below.calls g449 t446 t466 t467 8 t468 t469 t470 w _ ?side1 ?side2 A7.out).mono ?_); (case side1 => exact tq_25); (case side2 => exact tq_24); rintro e w18 ⟨rfl, hi, hb, hk⟩; refine ⟨_, rfl, ?_⟩; have z_ := p_ (Kd.R_mono (Kd.R_keep (IsS83.apart (show IsS83 w _ g449 t446 t466 t467 from tq_13) (raR_ HO456) (by decide)) hk (fun _ h => h.2)) (fun _ h => h.1)) <| p_ (Kd.R_mono (Kd.R_keep (IsS83.apart (show IsS83 w _ g449 t446 t466 t467 from tq_13) (raR_ HO459) (by decide)) hk (fun _ h => h.2)) (fun _ h => h.1)) <| p_ (Kd.R_mono (Kd.R_keep (IsS83.apart (show IsS83 w _ g449 t446 t466 t467 from tq_13) (raR_ HO464) (by decide)) hk (fun _ h => h.2)) (fun _ h => h.1)) <| p_ (hb) <| a_ (hi); clear HO456 HO459 HO464 HB HI449; obtain ⟨HO456, HO459, HO464, HB, HI449⟩ := z_; (try clear hb); (try clear hk); (try clear hi); obtain ⟨Ao19, co19, eo19⟩ := Kd.R_slice HO464.out; subst eo19; have p471 : 0 ≤ (t468 : Int) := of_decide_eq_true tq_1; have q471 : t468 < (t462.length : Int) := of_decide_eq_true tq_1; obtain ⟨ad471, e471, hx471_0⟩ := Kd.at_string (Kd.R_reads' HO464.out).2.2 t468 p471 q471; cases e471; replace p471 := eq_true p471; replace q471 := eq_true q471) | ((with_reducible refine gate_callee (f := 64) rfl ?_); refine goesL_ (some 24) rfl rfl Tryd.func64 (by kernel_rfl) rfl #[.pointer (some ⟨g449, 0, none⟩), .string (rdOf ByteArray.empty t462 t468)] rfl tq_0 ?_; (with_reducible refine (spec_l09Turned.calls g449 t446 t469 t470 (rdOf ByteArray.empty t462 t468) t472 t473 t474 w _ ?side1 ?side2 A10.out).mono ?_); (case side1 => exact tq_25); (case side2 => exact tq_24); rintro e w20 ⟨rfl, hi, hb, hk⟩; refine ⟨_, rfl, ?_⟩; have z_ := p_ (Kd.R_mono (Kd.R_keep (IsS83.apart (show IsS83 w _ g449 t446 t469 t470 from tq_13) (raR_ HO456) (by decide)) hk (fun _ h => h.2)) (fun _ h => h.1)) <| p_ (Kd.R_mono (Kd.R_keep (IsS83.apart (show IsS83 w _ g449 t446 t469 t470 from tq_13) (raR_ HO459) (by decide)) hk (fun _ h => h.2)) (fun _ h => h.1)) <| p_ (Kd.R_mono (Kd.R_keep (IsS83.apart (show IsS83 w _ g449 t446 t469 t470 from tq_13) (raR_ HO464) (by decide)) hk (fun _ h => h.2)) (fun _ h => h.1)) <| p_ (hb) <| a_ (hi); clear HO456 HO459 HO464 HB HI449; obtain ⟨HO456, HO459, HO464, HB, HI449⟩ := z_; (try clear hb); (try clear hk); (try clear hi); have p11 : 0 ≤ (t468 : Int) := of_decide_eq_true tq_1; have q11 : (t468 : Int) < ((t462.length : Int) : Int) := of_decide_eq_true tq_1; obtain ⟨go11, co11, eo11, gb11, gl11, cl11, HG11⟩ := Kd.R_form HO464.out (by omega); (first | cases eo11 | (injection eo11 with ea_ en_ ec_; (first | subst ea_ | (injection ea_ with ea_; subst ea_)); subst ec_; clear en_)); have GB11 := Aside0.mk gb11; have GG11 := Aside0.mk HG11; clear gb11 gl11 HG11; (first | simp only [add_plain] at hx471_0 | skip); obtain ⟨hx11_0, hf11_0⟩ := Kd.R_celln (⟨#[]⟩ : ByteArray) HO464.out (t468 : Int) p11 q11; replace p11 := eq_true p11; replace q11 := eq_true q11; obtain ⟨hy21_, hz21_⟩ := Kd.R_celln (⟨#[]⟩ : ByteArray) HO464.out (t468 : Int) (of_decide_eq_true tq_1) (of_decide_eq_true tq_1); have HP21 := Kd.R_putg HO464.out (t468 : Int) t472) | ((with_reducible refine gate_store (t := 9) (p := 25) rfl ?_); refine store_event (t := 9) (p := 25) (v := ?vo_w22) (w1 := (w20.setCell ⟨go11, (t468 : Int).toNat, none⟩ (.string t472))) ?hg ?ho ?hn ?hr ?_; (case ho => rfl); (case hg => rfl); (case hn => rfl); (case hr => first | (go_simp; done) | (go_simp; rfl)); intro w22 hw; have hg : w20.grownBy w22 (some go11) := (by rw [hw]; exact HP21.2); have hp_ : Kd.R Kd.string 9 w22 w.heap.size (fun _ => True) (.slice (some ⟨go11, 0, none⟩) t462.length co19) y475 := (by rw [hw, Ny475.out]; exact HP21.1); clear HP21; have z_ := p_ (IsS83.grown tq_13 hg (IsS83.own_ne HI449.out HO464.out (by decide))) <| p_ (Kd.R_over' (v := (.slice (some ⟨go11, 0, none⟩) t462.length co19)) (raR_ HO456) (Kd.R_typed HO464.out) (by decide) hg) <| p_ (Kd.R_over' (v := (.slice (some ⟨go11, 0, none⟩) t462.length co19)) (raR_ HO459) (Kd.R_typed HO464.out) (by decide) hg) <| p_ (hp_) <| a_ ((by rw [hw]; exact below_set (HB.out) GB11.out : Below w.heap.size w w22)); clear HI449 HO456 HO459 HO464 HB; obtain ⟨HI449, HO456, HO459, HO464, HB⟩ := z_; clear hg hw hp_))
  go_ret
  exact ⟨_, tq_2, (raR_ HO464), tq_15⟩
 rw [if_neg c6] at H
 have c6b0 := beq_eq_false_iff_ne.mpr c6
 have c6b1 := bne_iff_ne.mpr c6
 by_cases c23 : t465 = 1
 rotate_left
 ·rw [if_neg c23] at H
  have c23b0 := beq_eq_false_iff_ne.mpr c23
  have c23b1 := bne_iff_ne.mpr c23
  obtain rfl := Option.some.inj H
  go_enter Tryd.func27, Tryd.ntmps27
  go_wp2_with (first | ((with_reducible refine gate_callee (f := 49) rfl ?_); refine goesL_ (some 7) rfl rfl Tryd.func49 (by kernel_rfl) rfl #[.slice A0 l0.length c0] rfl tq_0 ?_; (with_reducible refine (spec_l01New.calls k _ _ l0 t446 t447 t448 w _ ?side1 ?side2 ?side3 A2.out).mono ?_); (case side1 => exact tq_71); (case side2 => exact HR0.out); (case side3 => exact HC0.out); rintro e w34 ⟨g449, rfl, hi, hb, hb2⟩; refine ⟨_, rfl, ?_⟩; have z_ := p_ (hb) <| a_ (hi); clear HB; obtain ⟨HB, HI449⟩ := z_; (try clear hb); (try clear hb2); (try clear hk); (try clear hi)) | ((with_reducible refine gate_callee (f := 62) rfl ?_); refine goesL_ (some 9) rfl rfl Tryd.func62 (by kernel_rfl) rfl #[.pointer (some ⟨g449, 0, none⟩)] rfl tq_0 ?_; (with_reducible refine (spec_l12Inode.calls k g449 t446 t447 t448 t450 t451 t452 t453 t454 t457 t460 t461 w _ ?side1 ?side2 A3.out).mono ?_); (case side1 => exact tq_25); (case side2 => exact tq_24); rintro e w35 ⟨v455, v458, rfl, ho0, ho1, hi, hb, hk⟩; refine ⟨_, rfl, ?_⟩; have z_ := p_ (Kd.R_lower ho0 (below_size tq_15)) <| p_ (Kd.R_lower ho1 (below_size tq_15)) <| p_ (hb) <| a_ (hi); clear HB HI449; obtain ⟨HO456, HO459, HB, HI449⟩ := z_; (try clear hb); (try clear hb2); (try clear hk); (try clear hi); (try clear ho0); (try clear ho1); obtain ⟨Ao36, co36, eo36⟩ := Kd.R_slice HO456.out; subst eo36; obtain ⟨Ao37, co37, eo37⟩ := Kd.R_slice HO459.out; subst eo37) | ((with_reducible refine gate_callee (f := 34) rfl ?_); refine goesL_ (some 10) rfl rfl Tryd.func34 (by kernel_rfl) rfl #[.agg #[.int .i64 t450, .int .i64 t451, .int .i64 t452, .string t453, .slice Ao36 t454.length co36, .slice Ao37 t457.length co37]] rfl tq_0 ?_; (with_reducible refine (spec_InodeWords.calls k t450 t451 t452 t453 _ _ t454 _ _ t457 t462 _ ?side1 ?side2 ?side3 ?side4 A4.out).mono ?_); (case side1 => exact tq_66); (case side2 => exact (Kd.R_reads' HO456.out).2.1); (case side3 => exact tq_65); (case side4 => exact (Kd.R_reads' HO459.out).2.1); rintro e w38 ⟨v463, rfl, ho0, hb⟩; refine ⟨_, rfl, ?_⟩; have z_ := p_ (Kd.R_below (raR_ HO456) hb) <| p_ (Kd.R_below (raR_ HO459) hb) <| p_ (Kd.R_lower ho0 (below_size tq_15)) <| p_ (IsS83.below tq_13 hb) <| a_ (below_step tq_15 hb); clear HO456 HO459 HI449 HB; obtain ⟨HO456, HO459, HO464, HI449, HB⟩ := z_; (try clear hb); (try clear hk); (try clear hi); (try clear ho0)) | ((with_reducible refine gate_callee (f := 63) rfl ?_); refine goesL_ (some 12) rfl rfl Tryd.func63 (by kernel_rfl) rfl #[.pointer (some ⟨g449, 0, none⟩), .int .i64 4] rfl tq_0 ?_; (with_reducible refine (spec_l01Below.calls g449 t446 t460 t461 4 t465 t466 t467 w _ ?side1 ?side2 A5.out).mono ?_); (case side1 => exact tq_25); (case side2 => exact tq_24); rintro e w39 ⟨rfl, hi, hb, hk⟩; refine ⟨_, rfl, ?_⟩; have z_ := p_ (Kd.R_mono (Kd.R_keep (IsS83.apart (show IsS83 w _ g449 t446 t460 t461 from tq_13) (raR_ HO456) (by decide)) hk (fun _ h => h.2)) (fun _ h => h.1)) <| p_ (Kd.R_mono (Kd.R_keep (IsS83.apart (show IsS83 w _ g449 t446 t460 t461 from tq_13) (raR_ HO459) (by decide)) hk (fun _ h => h.2)) (fun _ h => h.1)) <| p_ (Kd.R_mono (Kd.R_keep (IsS83.apart (show IsS83 w _ g449 t446 t460 t461 from tq_13) (raR_ HO464) (by decide)) hk (fun _ h => h.2)) (fun _ h => h.1)) <| p_ (hb) <| a_ (hi); clear HO456 HO459 HO464 HB HI449; obtain ⟨HO456, HO459, HO464, HB, HI449⟩ := z_; (try clear hb); (try clear hk); (try clear hi)))
  go_ret
  exact ⟨_, tq_2, (raR_ HO464), tq_15⟩
 rw [if_pos c23] at H
 have c23b0 := beq_iff_eq.mpr c23
 have c23b1 := bne_eq_false_iff_eq.mpr c23
 clear c23
 obtain ⟨c24, H⟩ := fc_ H
 have c24b0 := decide_eq_true c24
 have c24b1 : decide (0 < t462.length) = true := decide_eq_true (by omega)
 clear c24
 obtain ⟨c25, H⟩ := fc_ H
 have LMc25 := Aside0.mk c25
 clear c25
 obtain ⟨y477, hy477⟩ : ∃ y_ : List ByteArray, y_ = (t462 ++ [rdOf ByteArray.empty t462 0]) := ⟨_, rfl⟩
 replace H : (some y477) = some r := by first | (rw [hy477]; with_reducible exact H) | (have H2_ := (Option.bind_some _ _).symm.trans H; rw [hy477]; with_reducible exact H2_) | (have H2_ := (Option.bind_some _ _).symm.trans H; with_reducible exact H2_) | with_reducible exact H | (rw [hy477]; exact H) | exact H
 have Ny477 := Aside0.mk hy477
 clear hy477
 obtain rfl := Option.some.inj H
 go_enter Tryd.func27, Tryd.ntmps27
 go_wp2_with (first | ((with_reducible refine gate_callee (f := 49) rfl ?_); refine goesL_ (some 7) rfl rfl Tryd.func49 (by kernel_rfl) rfl #[.slice A0 l0.length c0] rfl tq_0 ?_; (with_reducible refine (spec_l01New.calls k _ _ l0 t446 t447 t448 w _ ?side1 ?side2 ?side3 A2.out).mono ?_); (case side1 => exact tq_71); (case side2 => exact HR0.out); (case side3 => exact HC0.out); rintro e w26 ⟨g449, rfl, hi, hb, hb2⟩; refine ⟨_, rfl, ?_⟩; have z_ := p_ (hb) <| a_ (hi); clear HB; obtain ⟨HB, HI449⟩ := z_; (try clear hb); (try clear hb2); (try clear hi)) | ((with_reducible refine gate_callee (f := 62) rfl ?_); refine goesL_ (some 9) rfl rfl Tryd.func62 (by kernel_rfl) rfl #[.pointer (some ⟨g449, 0, none⟩)] rfl tq_0 ?_; (with_reducible refine (spec_l12Inode.calls k g449 t446 t447 t448 t450 t451 t452 t453 t454 t457 t460 t461 w _ ?side1 ?side2 A3.out).mono ?_); (case side1 => exact tq_25); (case side2 => exact tq_24); rintro e w27 ⟨v455, v458, rfl, ho0, ho1, hi, hb, hk⟩; refine ⟨_, rfl, ?_⟩; have z_ := p_ (Kd.R_lower ho0 (below_size tq_15)) <| p_ (Kd.R_lower ho1 (below_size tq_15)) <| p_ (hb) <| a_ (hi); clear HB HI449; obtain ⟨HO456, HO459, HB, HI449⟩ := z_; (try clear hb); (try clear hb2); (try clear hk); (try clear hi); (try clear ho0); (try clear ho1); obtain ⟨Ao28, co28, eo28⟩ := Kd.R_slice HO456.out; subst eo28; obtain ⟨Ao29, co29, eo29⟩ := Kd.R_slice HO459.out; subst eo29) | ((with_reducible refine gate_callee (f := 34) rfl ?_); refine goesL_ (some 10) rfl rfl Tryd.func34 (by kernel_rfl) rfl #[.agg #[.int .i64 t450, .int .i64 t451, .int .i64 t452, .string t453, .slice Ao28 t454.length co28, .slice Ao29 t457.length co29]] rfl tq_0 ?_; (with_reducible refine (spec_InodeWords.calls k t450 t451 t452 t453 _ _ t454 _ _ t457 t462 _ ?side1 ?side2 ?side3 ?side4 A4.out).mono ?_); (case side1 => exact tq_66); (case side2 => exact (Kd.R_reads' HO456.out).2.1); (case side3 => exact tq_65); (case side4 => exact (Kd.R_reads' HO459.out).2.1); rintro e w30 ⟨v463, rfl, ho0, hb⟩; refine ⟨_, rfl, ?_⟩; have z_ := p_ (Kd.R_below (raR_ HO456) hb) <| p_ (Kd.R_below (raR_ HO459) hb) <| p_ (Kd.R_lower ho0 (below_size tq_15)) <| p_ (IsS83.below tq_13 hb) <| a_ (below_step tq_15 hb); clear HO456 HO459 HI449 HB; obtain ⟨HO456, HO459, HO464, HI449, HB⟩ := z_; (try clear hb); (try clear hk); (try clear hi); (try clear ho0)) | ((with_reducible refine gate_callee (f := 63) rfl ?_); refine goesL_ (some 12) rfl rfl Tryd.func63 (by kernel_rfl) rfl #[.pointer (some ⟨g449, 0, none⟩), .int .i64 4] rfl tq_0 ?_; (with_reducible refine (spec_l01Below.calls g449 t446 t460 t461 4 t465 t466 t467 w _ ?side1 ?side2 A5.out).mono ?_); (case side1 => exact tq_25); (case side2 => exact tq_24); rintro e w31 ⟨rfl, hi, hb, hk⟩; refine ⟨_, rfl, ?_⟩; have z_ := p_ (Kd.R_mono (Kd.R_keep (IsS83.apart (show IsS83 w _ g449 t446 t460 t461 from tq_13) (raR_ HO456) (by decide)) hk (fun _ h => h.2)) (fun _ h => h.1)) <| p_ (Kd.R_mono (Kd.R_keep (IsS83.apart (show IsS83 w _ g449 t446 t460 t461 from tq_13) (raR_ HO459) (by decide)) hk (fun _ h => h.2)) (fun _ h => h.1)) <| p_ (Kd.R_mono (Kd.R_keep (IsS83.apart (show IsS83 w _ g449 t446 t460 t461 from tq_13) (raR_ HO464) (by decide)) hk (fun _ h => h.2)) (fun _ h => h.1)) <| p_ (hb) <| a_ (hi); clear HO456 HO459 HO464 HB HI449; obtain ⟨HO456, HO459, HO464, HB, HI449⟩ := z_; (try clear hb); (try clear hk); (try clear hi); obtain ⟨Ao32, co32, eo32⟩ := Kd.R_slice HO464.out; subst eo32; have p476 : 0 ≤ (0 : Int) := (by omega); have q476 : 0 < (t462.length : Int) := of_decide_eq_true tq_1; obtain ⟨ad476, e476, hx476_0⟩ := Kd.at_string (Kd.R_reads' HO464.out).2.2 0 p476 q476; cases e476; have qi476 : (0 < t462.length) = True := eq_true (by omega); (try rw [show ((0 : Int)).toNat = 0 from rfl] at hx476_0); (try rw [Addr.add_zero'] at hx476_0); replace p476 := eq_true p476; replace q476 := eq_true q476) | ((with_reducible refine gate_builtin (b := .append) (xs := #[.tmp 28, .tmp 32]) rfl ?_); at_builtin; refine Kd.R_append Kd.string (w0 := w) w.heap.size rfl (.tmp 28) (.tmp 32) 22 9 (.string ⟨#[]⟩) 16 rfl Tryd.underlying22 info9 rfl (by decide) (by omega) (.slice (some ad476) t462.length co32) t462 (rdOf ByteArray.empty t462 0) [.string (rdOf ByteArray.empty t462 0)] (fun _ => True) (fun _ => False) rfl rfl ?aP (fun _ hk => hk.elim) ?aF ?aO ?aB ?aS ?aL ?_; (case aP => exact rfl); (case aB => exact tq_15); (case aF => exact (fun _ _ => trivial)); (case aO => exact (raR_ HO464)); (case aS => exact (below_size tq_15)); (case aL => have := LMc25.out; omega); intro v478 w33 ho hb hg hat; rw [← Ny477.out] at ho; have z_ := p_ (IsS83.grown tq_13 hg (IsS83.own_ne HI449.out HO464.out (by decide))) <| p_ (Kd.R_over' (raR_ HO456) (Kd.R_typed (raR_ HO464)) (by decide) hg) <| p_ (Kd.R_over' (raR_ HO459) (Kd.R_typed (raR_ HO464)) (by decide) hg) <| p_ (hb) <| a_ (ho); clear HI449 HO456 HO459 HB HO464; obtain ⟨HI449, HO456, HO459, HB, HO479⟩ := z_; clear ho hb hg hat))
 go_ret
 exact ⟨_, tq_2, (raR_ HO479), tq_15⟩

/-! ### laws_sameTexts: function 28 -/
def laws_sameTexts.l0 : Nat → List ByteArray → List ByteArray → Int → Option (Bool)
 | 0, _, _, _ => none
 | k + 1, x0, x1, x5 => if x5 < (x0.length : Int) then (if 0 ≤ x5 then (if x5 < (x1.length : Int) then (if (rdOf ByteArray.empty x0 x5).toList = (rdOf ByteArray.empty x1 x5).toList then (laws_sameTexts.l0 k x0 x1 (wrap64 (x5 + 1))) else (some false)) else (none)) else (none)) else (some true)
def laws_sameTexts.f (k : Nat) (l0 : List ByteArray) (l1 : List ByteArray) : Option (Bool) := if (l0.length : Int) = (l1.length : Int) then (laws_sameTexts.l0 k l0 l1 0) else (some false)
theorem laws_sameTexts.mono_l : ∀ k, (∀ y0 y1 y2, LeO (laws_sameTexts.l0 k y0 y1 y2) (laws_sameTexts.l0 (k + 1) y0 y1 y2))
 | 0 => fun _ _ _ r h => by simp [laws_sameTexts.l0] at h
 | k + 1 => by
  have ih0 := laws_sameTexts.mono_l k
  ·intro y0 y1 y2
   unfold laws_sameTexts.l0
   exact mo_1
theorem laws_sameTexts.mono : ∀ a0 a1 k, LeO (laws_sameTexts.f k a0 a1) (laws_sameTexts.f (k + 1) a0 a1) := by
 intro a0 a1 k
 have ih0 := laws_sameTexts.mono_l k
 unfold laws_sameTexts.f
 repeat' first
   | (with_reducible exact ih0 ..)
   | (with_reducible exact LeO.refl _)
   | (with_reducible exact LeO.none _)
   | (with_reducible refine LeO.ite ?_ ?_)
   | (with_reducible refine LeO.bind ?_ (fun _ => ?_))
   | exact ih0 ..
   | exact LeO.none _
   | refine LeO.ite ?_ ?_
   | refine LeO.bind ?_ (fun _ => ?_)
set_option maxHeartbeats 8000000 in
set_option maxRecDepth 100000 in
theorem laws_sameTexts.calls (k : Nat) (A0 : Option Addr) (c0 : Nat) (l0 : List ByteArray) (A1 : Option Addr) (c1 : Nat) (l1 : List ByteArray) (r : Bool) (w : World) (hr0 : Kd.C Kd.string w A0 l0.length l0) (hc0 : l0.length ≤ c0) (hr1 : Kd.C Kd.string w A1 l1.length l1) (hc1 : l1.length ≤ c1) (h : laws_sameTexts.f k l0 l1 = some r) :
  Calls Tryd.prog 28 #[.slice A0 l0.length c0, .slice A1 l1.length c1] w fun e w' => e = .returned (.bool r) ∧ Drawn0 w w' := by
 have HR0 := Aside0.mk hr0
 have HC0 := Aside0.mk hc0
 clear hr0 hc0
 have HR1 := Aside0.mk hr1
 have HC1 := Aside0.mk hc1
 clear hr1 hc1
 unfold laws_sameTexts.f at h
 have H := h
 clear h
 by_cases c3 : (l0.length : Int) = (l1.length : Int)
 rotate_left
 ·rw [if_neg c3] at H
  have c3b0 := beq_eq_false_iff_ne.mpr c3
  have c3b1 := bne_iff_ne.mpr c3
  have c3b2 : (l0.length == l1.length) = false := by first | simpa using c3 | (simp at c3 ⊢; omega)
  obtain rfl := Option.some.inj H
  go_enter Tryd.func28, Tryd.ntmps28
  go_wp2
  repeat (go_quiet (fail); try go_wp2)
  go_ret
  exact ⟨tq_4, tq_11⟩
 rw [if_pos c3] at H
 have c3b0 := beq_iff_eq.mpr c3
 have c3b1 := bne_eq_false_iff_eq.mpr c3
 have c3b2 : (l0.length == l1.length) = true := by first | simpa using c3 | (simp at c3 ⊢; omega)
 clear c3
 have H' := Aside0.mk H
 clear H
 go_enter Tryd.func28, Tryd.ntmps28
 go_wp2
 repeat (go_quiet (fail); try go_wp2)
 go_loopg [5] k (fun kq v5 w' => ∃ (x5_1 : Int), v5 = .int .i64 x5_1 ∧ Aside0 (laws_sameTexts.l0 kq l0 l1 x5_1 = some r) ∧ Aside0 (kq ≤ k) ∧ Drawn0 w w')
 case atStart => exact ⟨(0), tq_4, H', ⟨Nat.le_refl _⟩, tq_11⟩
 case round =>
 clear H'
 try clear c1; try clear c2; try clear p2; try clear c3; try clear c3b0; try clear c3b1; try clear c3b2
 obtain ⟨x5_1, rfl, HA, HK1, ⟨m1, rfl⟩⟩ := hrel
 cases gk with
 | zero => exact absurd HA.out (by simp [laws_sameTexts.l0])
 | succ k1 =>
 have H := HA.out
 clear HA
 simp only [laws_sameTexts.l0] at H
 by_cases c4 : x5_1 < (l0.length : Int)
 rotate_left
 ·rw [if_neg c4] at H
  have c4b0 := decide_eq_false c4
  clear c4
  obtain rfl := Option.some.inj H
  go_wp2
  repeat (go_quiet (fail); try go_wp2)
  go_ret
  exact ⟨tq_4, tq_11⟩
 rw [if_pos c4] at H
 have c4b0 := decide_eq_true c4
 clear c4
 obtain ⟨c5, H⟩ := fc_ H
 have c5b0 := decide_eq_true c5
 clear c5
 obtain ⟨c6, H⟩ := fc_ H
 have c6b0 := decide_eq_true c6
 clear c6
 by_cases c7 : (rdOf ByteArray.empty l0 x5_1).toList = (rdOf ByteArray.empty l1 x5_1).toList
 rotate_left
 ·rw [if_neg c7] at H
  have c7b0 := beq_eq_false_iff_ne.mpr c7
  have c7b1 := bne_iff_ne.mpr c7
  obtain rfl := Option.some.inj H
  have p480 : 0 ≤ (x5_1 : Int) := of_decide_eq_true tq_1
  have q480 : x5_1 < (l0.length : Int) := of_decide_eq_true tq_1
  obtain ⟨ad480, e480, hx480_0⟩ := Kd.at_string HR0.out x5_1 p480 q480
  cases e480
  replace p480 := eq_true p480
  replace q480 := eq_true q480
  have p481 : 0 ≤ (x5_1 : Int) := of_decide_eq_true tq_1
  have q481 : x5_1 < (l1.length : Int) := of_decide_eq_true tq_1
  obtain ⟨ad481, e481, hx481_0⟩ := Kd.at_string HR1.out x5_1 p481 q481
  cases e481
  replace p481 := eq_true p481
  replace q481 := eq_true q481
  go_wp2
  repeat (go_quiet (fail); try go_wp2)
  go_ret
  exact ⟨tq_4, tq_11⟩
 rw [if_pos c7] at H
 have c7b0 := beq_iff_eq.mpr c7
 have c7b1 := bne_eq_false_iff_eq.mpr c7
 clear c7
 have H' := Aside0.mk H
 clear H
 have p480 : 0 ≤ (x5_1 : Int) := of_decide_eq_true tq_1
 have q480 : x5_1 < (l0.length : Int) := of_decide_eq_true tq_1
 obtain ⟨ad480, e480, hx480_0⟩ := Kd.at_string HR0.out x5_1 p480 q480
 cases e480
 replace p480 := eq_true p480
 replace q480 := eq_true q480
 have p481 : 0 ≤ (x5_1 : Int) := of_decide_eq_true tq_1
 have q481 : x5_1 < (l1.length : Int) := of_decide_eq_true tq_1
 obtain ⟨ad481, e481, hx481_0⟩ := Kd.at_string HR1.out x5_1 p481 q481
 cases e481
 replace p481 := eq_true p481
 replace q481 := eq_true q481
 go_wp2
 repeat (go_quiet (fail); try go_wp2)
 go_roundg k1
 case measure => have := HK1.out; omega
 case rel => exact ⟨(wrap64 (x5_1 + 1)), tq_4, H', ⟨tq_56⟩, tq_11⟩

end Go.Proofs.YtjfhddenmnjgbaaDoor.PFnAnyInode
