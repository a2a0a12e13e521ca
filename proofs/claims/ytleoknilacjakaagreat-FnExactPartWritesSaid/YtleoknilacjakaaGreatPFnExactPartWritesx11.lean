/- Contracts of Go functions, written by a program of ours over the print of the kit: each says that the call returns what the Lean function beside it computes. Conditions: as each theorem states them. -/
import Derived.Test.YtleoknilacjakaaGreatPkFnExactPartWrites
import Derived.Test.YtleoknilacjakaaGreatPFnExactPartWritesx0
import Derived.Test.YtleoknilacjakaaGreatPFnExactPartWritesx10
namespace Go.Proofs.YtleoknilacjakaaGreat.PFnExactPartWrites
open Go.RowKit Go.Proofs.YtleoknilacjakaaGreatW.PrintWords Go.Proofs.YtleoknilacjakaaGreatW.PrintLast Go.Proofs.YtleoknilacjakaaGreatW.PrintMore
attribute [local go_sem] max2_int min2_int max_two min_two max_three min_three max_four min_four   -- for this text's walks alone
set_option linter.unusedVariables false
set_option linter.unusedSimpArgs false

/-! ### laws_toRecS: function 71 -/
def laws_toRecS.l0 : Nat → List (S107) → List (S89) → Int → Option ((List (S89)))
 | 0, _, _, _ => none
 | k + 1, x0, x3, x4 => if x4 < (x0.length : Int) then (if 0 ≤ x4 then ((laws_toRec.f ((rd_T107 x0 x4).f0) ((rd_T107 x0 x4).f1) ((rd_T107 x0 x4).f2)).bind fun bt313 => (if x4 < (x3.length : Int) then (laws_toRecS.l0 k x0 (x3.set (x4 : Int).toNat (⟨bt313.1, bt313.2.1, bt313.2.2⟩ : S89)) (wrap64 (x4 + 1))) else (none))) else (none)) else (some x3)
def laws_toRecS.f (k : Nat) (l0 : List (S107)) : Option ((List (S89))) := if 0 ≤ (l0.length : Int) then (if ((l0.length : Int) : Int).toNat ≤ 8796093022208 then (laws_toRecS.l0 k l0 (List.replicate ((l0.length : Int) : Int).toNat z89) 0) else (none)) else (none)
set_option maxHeartbeats 8000000 in
set_option maxRecDepth 100000 in
theorem laws_toRecS.calls (k : Nat) (A0 : Option Addr) (c0 : Nat) (l0 : List (S107)) (r : List (S89)) (w : World) (hr0 : Kd.C k107 w A0 l0.length l0) (hc0 : l0.length ≤ c0) (h : laws_toRecS.f k l0 = some r) :
  Calls Tryz.prog 71 #[.slice A0 l0.length c0] w fun e w' => ∃ v0_ : Value, e = .returned (v0_) ∧ Kd.R k89 89 w' w.heap.size (fun _ => True) v0_ r ∧ Below w.heap.size w w' := by
 have hu107 := Tryz.underlying107
 have hu89 := Tryz.underlying89
 have HR0 := Aside0.mk hr0
 have br := Aside0.mk hc0
 clear hr0 hc0
 have HB := Aside0.mk (Below.refl w.heap.size w)
 unfold laws_toRecS.f at h
 have H := h
 clear h
 obtain ⟨c2, H⟩ := fc_ H
 have b5 := eq_true c2
 have b6 := decide_eq_true c2
 clear c2
 obtain ⟨c3, H⟩ := fc_ H
 have b7 := eq_true c3
 have b8 := decide_eq_true c3
 clear c3
 obtain ⟨aw, hy309⟩ : ∃ y_ : List (S89), y_ = (List.replicate ((l0.length : Int) : Int).toNat z89) := ⟨_, rfl⟩
 replace H : (laws_toRecS.l0 k l0 aw 0) = some r := by first | (rw [hy309]; with_reducible exact H) | (have H2_ := (Option.bind_some _ _).symm.trans H; rw [hy309]; with_reducible exact H2_) | (have H2_ := (Option.bind_some _ _).symm.trans H; with_reducible exact H2_) | with_reducible exact H | (rw [hy309]; exact H) | exact H
 have Ny309 := Aside0.mk hy309
 clear hy309
 have H' := Aside0.mk H
 clear H
 go_enter Tryz.func71, Tryz.ntmps71
 go_wp2_with (first | ((with_reducible refine gate_dst (N := 7) rfl ?_); refine Kd.R_make k89 _ 89 rfl (N := 7) rfl 66 _ _ rfl (l0.length : Int) rfl rfl Tryz.underlying66 (.agg #[(.int .i64 0), (.int .i64 0), (.string ⟨#[]⟩)]) 32 info89 rfl (by decide) (by omega) z89 (ok := fun _ => True) (okp := fun _ => True) (k89_mkM _ _ _ z89 ) (fun _ hk => hk) trivial (of_decide_eq_true tq_2) (Nat.le_trans (Nat.mul_le_mul_right _ (of_decide_eq_true tq_2 : (l0.length : Int).toNat ≤ 8796093022208)) (by omega)) (Below.refl _ _) (Nat.le_refl _) ?_; intro v310 w4 ho5 hb hg_ hnew_; clear hg_ hnew_; (first | rw [← Ny309.out] at ho5 | (simp only [Int.reduceToNat] at ho5; rw [← Ny309.out] at ho5)); have z_ := p_ (Kd.R_lower ho5 (below_size th_)) <| a_ (below_step th_ hb); clear HB; obtain ⟨HO311, HB⟩ := z_; clear hb ho5))
 go_loopg [4] k (fun kq v4 w' => ∃ (a6 : List (S89)) (a5 : Int), v4 = .int .i64 a5 ∧ Aside0 (laws_toRecS.l0 kq l0 a6 a5 = some r) ∧ Aside0 (kq ≤ k) ∧ Aside0 (Kd.R k89 89 w' w.heap.size (fun _ => True) v310 a6) ∧ Aside0 (Below w.heap.size w w'))
 case atStart => exact ⟨(aw), (0), tq_3, H', ⟨Nat.le_refl _⟩, ⟨(raR_ HO311)⟩, ⟨th_⟩⟩
 case round =>
 clear H'
 try clear c2; try clear b5; try clear b6; try clear p2; try clear c3; try clear b7; try clear b8
 obtain ⟨a6, a5, rfl, HA, HK1, a7, HB⟩ := hrel
 cases gk with
 | zero => exact absurd HA.out (by simp [laws_toRecS.l0])
 | succ k1 =>
 have H := HA.out
 clear HA
 simp only [laws_toRecS.l0] at H
 by_cases c6 : a5 < (l0.length : Int)
 rotate_left
 ·rw [if_neg c6] at H
  have b9 := decide_eq_false c6
  clear c6
  obtain rfl := Option.some.inj H
  go_wp2
  go_ret
  exact ⟨_, tq_1, (raR_ a7), th_⟩
 rw [if_pos c6] at H
 have b9 := decide_eq_true c6
 clear c6
 obtain ⟨c7, H⟩ := fc_ H
 have bl := decide_eq_true c7
 clear c7
 obtain ⟨⟨ah, ai, aj⟩, A8, H⟩ := bd_ H
 try dsimp -simprocs only at H
 obtain ⟨c9, H⟩ := fc_ H
 have bm := decide_eq_true c9
 clear c9
 obtain ⟨am, hy316⟩ : ∃ y_ : List (S89), y_ = (a6.set (a5 : Int).toNat (⟨ah, ai, aj⟩ : S89)) := ⟨_, rfl⟩
 replace H : (laws_toRecS.l0 k1 l0 am (wrap64 (a5 + 1))) = some r := by first | (rw [hy316]; with_reducible exact H) | (have H2_ := (Option.bind_some _ _).symm.trans H; rw [hy316]; with_reducible exact H2_) | (have H2_ := (Option.bind_some _ _).symm.trans H; with_reducible exact H2_) | with_reducible exact H | (rw [hy316]; exact H) | exact H
 have Ny316 := Aside0.mk hy316
 clear hy316
 have H' := Aside0.mk H
 clear H
 have p312 : 0 ≤ (a5 : Int) := of_decide_eq_true tq_2
 have q312 : a5 < (l0.length : Int) := of_decide_eq_true tq_2
 obtain ⟨bj, ba, aa, ab, ac⟩ := at_T107 HR0.out a5 p312 q312
 cases ba
 replace aa := hx_ HB.out aa
 replace ab := hx_ HB.out ab
 replace ac := hx_ HB.out ac
 replace p312 := eq_true p312
 replace q312 := eq_true q312
 go_wp2_with (first | ((with_reducible refine gate_callee (f := 94) rfl ?_); refine goesL_ (some 20) rfl rfl Tryz.func94 (by kernel_rfl) rfl #[.agg #[.int .i64 ((rd_T107 l0 a5).f0), .int .i64 ((rd_T107 l0 a5).f1), .string ((rd_T107 l0 a5).f2)]] rfl tq_0 ?_; (with_reducible refine (laws_toRec.calls ((rd_T107 l0 a5).f0) ((rd_T107 l0 a5).f1) ((rd_T107 l0 a5).f2) ah ai aj _ A8.out).mono ?_); rintro e ak ⟨rfl, hb⟩; refine ⟨_, rfl, ?_⟩; have z_ := p_ (Kd.R_below (raR_ a7) hb) <| a_ (below_step th_ hb); clear a7 HB; obtain ⟨a7, HB⟩ := z_; (try clear hb); have p10 : 0 ≤ (a5 : Int) := of_decide_eq_true tq_2; have q10 : (a5 : Int) < ((a6.length : Int) : Int) := of_decide_eq_true tq_2; obtain ⟨a8, ax, ay, az, bb, bn, b0⟩ := Kd.R_form a7.out (by omega); (first | cases ay | (injection ay with ea_ en_ ec_; (first | subst ea_ | (injection ea_ with ea_; subst ea_)); subst ec_; clear en_)); have an := Aside0.mk az; have bo := Aside0.mk b0; clear az bb b0; obtain ⟨bp, b1, b2, ae, af⟩ := Kd.R_elem a7.out z89 (a5 : Int) p10 q10; obtain rfl := k89_openM b2; have bc : ak.cell? ⟨a8, (a5 : Int).toNat * 3, none⟩ = some (.int .i64 ((rd_T89 a6 a5).f0)) := ae 0 _ rfl; have bd : ak.cell? ⟨a8, (a5 : Int).toNat * 3 + 1, none⟩ = some (.int .i64 ((rd_T89 a6 a5).f1)) := ae 1 _ rfl; have be : ak.cell? ⟨a8, (a5 : Int).toNat * 3 + 2, none⟩ = some (.string ((rd_T89 a6 a5).f2)) := ae 2 _ rfl; have bf : ak.frozen? ⟨a8, (a5 : Int).toNat * 3, none⟩ = false := af 0; have bg : ak.frozen? ⟨a8, (a5 : Int).toNat * 3 + 1, none⟩ = false := af 1; have bh : ak.frozen? ⟨a8, (a5 : Int).toNat * 3 + 2, none⟩ = false := af 2; clear b1 ae af b2; replace p10 := eq_true p10; replace q10 := eq_true q10; have b3 := Aside0.mk (show Kd.R k89 89 ak w.heap.size (fun _ => True) (.slice (some ⟨a8, 0, none⟩) a6.length ax) a6 from (raR_ a7)); obtain ⟨bq, al, b4, a9, ag⟩ := Kd.R_elem b3.out z89 (a5 : Int) (of_decide_eq_true tq_2) (by have h_ : (a5 : Int) < ((a6.length : Int) : Int) := of_decide_eq_true tq_2; first | exact h_ | (have e_ := (Kd.R_reads' a7.out).1; omega) | simpa using h_); obtain rfl := k89_openM b4; have HP12 := Kd.R_seg b3.out (a5 : Int) (of_decide_eq_true tq_2) (by have h_ : (a5 : Int) < ((a6.length : Int) : Int) := of_decide_eq_true tq_2; first | exact h_ | (have e_ := (Kd.R_reads' a7.out).1; omega) | simpa using h_) (seg := [.int .i64 ah, .int .i64 ai, .string aj]) (j := 0) al a9 (show 3 ≤ 3 from by decide) (x' := (⟨ah, ai, aj⟩ : S89)) (k89_mkM _ _ _ (⟨ah, ai, aj⟩ : S89) ) (fun _ hk => hk); have ao := a9 0 _ rfl; (try simp only [show (k89).sz = 3 from rfl, Nat.mul_one, Nat.add_zero] at ao); have ap := ag 0; (try simp only [show (k89).sz = 3 from rfl, Nat.mul_one, Nat.add_zero] at ap); have aq := a9 1 _ rfl; (try simp only [show (k89).sz = 3 from rfl, Nat.mul_one, Nat.add_zero] at aq); have ar := ag 1; (try simp only [show (k89).sz = 3 from rfl, Nat.mul_one, Nat.add_zero] at ar); have au := a9 2 _ rfl; (try simp only [show (k89).sz = 3 from rfl, Nat.mul_one, Nat.add_zero] at au); have av := ag 2; (try simp only [show (k89).sz = 3 from rfl, Nat.mul_one, Nat.add_zero] at av); clear al a9 ag b4) | ((with_reducible refine gate_store (t := 89) (p := 21) rfl ?_); refine store_event (t := 89) (p := 21) (v := ?vo_w13) (w1 := (((ak.setCell ⟨a8, (a5 : Int).toNat * 3, none⟩ (.int .i64 ah)).setCell ⟨a8, (a5 : Int).toNat * 3 + 1, none⟩ (.int .i64 ai)).setCell ⟨a8, (a5 : Int).toNat * 3 + 2, none⟩ (.string aj))) ?hg ?ho ?hn ?hr ?_; (case ho => rfl); (case hg => rfl); (case hn => rfl); (case hr => first | (go_simp; done) | (go_simp; rfl)); intro bi hw; have hg : ak.grownBy bi (some a8) := (by rw [hw]; exact HP12.2); have hp_ : Kd.R k89 89 bi w.heap.size (fun _ => True) (.slice (some ⟨a8, 0, none⟩) a6.length ax) am := (by rw [hw, Ny316.out]; exact HP12.1); clear HP12; have z_ := p_ (hp_) <| a_ ((by rw [hw]; exact below_set (below_set (below_set (HB.out) an.out) an.out) an.out : Below w.heap.size w bi)); clear a7 HB; obtain ⟨a7, HB⟩ := z_; clear hg hw hp_))
 go_roundg k1
 case measure => have := HK1.out; omega
 case rel => exact ⟨(am), (wrap64 (a5 + 1)), tq_3, H', ⟨tq_15⟩, ⟨(raR_ a7)⟩, ⟨th_⟩⟩

/-! ### laws_toEntry: function 95 -/
def laws_toEntry.f (a0_0 : Int) (a0_1 : ByteArray) : Option (Int × ByteArray) := some (a0_0, a0_1)
set_option maxHeartbeats 8000000 in
set_option maxRecDepth 100000 in
theorem laws_toEntry.calls (ae : Int) (af : ByteArray) (r1 : Int) (r2 : ByteArray) (w : World) (h : laws_toEntry.f ae af = some (r1, r2)) :
  Calls Tryz.prog 95 #[.agg #[.int .i64 ae, .string af]] w fun e w' => e = .returned (.agg #[.int .i64 r1, .string r2]) ∧ Below w.heap.size w w' := by
 have hu109 := Tryz.underlying109
 have hu72 := Tryz.underlying72
 have HB := Aside0.mk (Below.refl w.heap.size w)
 unfold laws_toEntry.f at h
 have H := h
 clear h
 simp only [Option.some.injEq, Prod.mk.injEq] at H
 obtain ⟨rfl, rfl⟩ := H
 go_enter Tryz.func95, Tryz.ntmps95
 go_wp2_with (first | ((with_reducible refine gate_dst (N := 1) rfl ?_); refine be_ 1 (cs := #[.int .i64 ae, .string af]) 109 ?_; intro am hg w2 hbox hb; have z_ := bx0_ th_ hb hbox hg; clear HB; obtain ⟨HB, a5, an, ao⟩ := z_; clear hb hbox hg) | ((with_reducible refine gate_dst (N := 2) rfl ?_); refine be_ 2 (cs := #[.int .i64 0, .string (⟨#[]⟩ : ByteArray)]) 72 ?_; intro ag hg w3 hbox hb; have z_ := bx1_ (kb_ a5) th_ hb hbox hg; clear a5 HB; obtain ⟨a5, HB, a6, ap, aq, a7, a8⟩ := z_; clear hb hbox hg) | ((with_reducible refine gate_dst (N := 3) rfl ?_); refine be_ 3 (cs := #[.int .i64 0, .string (⟨#[]⟩ : ByteArray)]) 72 ?_; intro ar hg w4 hbox hb; have z_ := bx2_ (kb_ a5) (kb_ a6) th_ hb hbox hg; clear a5 a6 HB; obtain ⟨a5, a6, HB, ah, au, av, a9, aa, ab, ac⟩ := z_; clear hb hbox hg; obtain ⟨ai, aj, ak, al⟩ := an4_ a7 a8 a9 aa; have ax := bb2_ a5.out; obtain ⟨hnb8, hnc8⟩ := an2_ ac ab; have ay := bb2_ ah.out; have aw := bb2_ a6.out))
 refine bodyPost_ret (results_cell_row rfl _ _ ag 72 #[.int .i64 ae, .string af] (0, 0) _ rfl tb_ Tryz.underlying72 rfl (by kernel_rfl)) rfl ?_
 exact ⟨tq_1, th_⟩

/-! ### laws_toEntryS: function 72 -/
def laws_toEntryS.l0 : Nat → List (S109) → List (S72) → Int → Option ((List (S72)))
 | 0, _, _, _ => none
 | k + 1, x0, x3, x4 => if x4 < (x0.length : Int) then (if 0 ≤ x4 then ((laws_toEntry.f ((rd_T109 x0 x4).f0) ((rd_T109 x0 x4).f1)).bind fun bt324 => (if x4 < (x3.length : Int) then (laws_toEntryS.l0 k x0 (x3.set (x4 : Int).toNat (⟨bt324.1, bt324.2⟩ : S72)) (wrap64 (x4 + 1))) else (none))) else (none)) else (some x3)
def laws_toEntryS.f (k : Nat) (l0 : List (S109)) : Option ((List (S72))) := if 0 ≤ (l0.length : Int) then (if ((l0.length : Int) : Int).toNat ≤ 11728124029610 then (laws_toEntryS.l0 k l0 (List.replicate ((l0.length : Int) : Int).toNat z72) 0) else (none)) else (none)
set_option maxHeartbeats 8000000 in
set_option maxRecDepth 100000 in
theorem laws_toEntryS.calls (k : Nat) (A0 : Option Addr) (c0 : Nat) (l0 : List (S109)) (r : List (S72)) (w : World) (hr0 : Kd.C k109 w A0 l0.length l0) (hc0 : l0.length ≤ c0) (h : laws_toEntryS.f k l0 = some r) :
  Calls Tryz.prog 72 #[.slice A0 l0.length c0] w fun e w' => ∃ v0_ : Value, e = .returned (v0_) ∧ Kd.R k72 72 w' w.heap.size (fun _ => True) v0_ r ∧ Below w.heap.size w w' := by
 have hu109 := Tryz.underlying109
 have hu72 := Tryz.underlying72
 have HR0 := Aside0.mk hr0
 have bl := Aside0.mk hc0
 clear hr0 hc0
 have HB := Aside0.mk (Below.refl w.heap.size w)
 unfold laws_toEntryS.f at h
 have H := h
 clear h
 obtain ⟨c2, H⟩ := fc_ H
 have b1 := eq_true c2
 have b2 := decide_eq_true c2
 clear c2
 obtain ⟨c3, H⟩ := fc_ H
 have b3 := eq_true c3
 have b4 := decide_eq_true c3
 clear c3
 obtain ⟨ap, hy320⟩ : ∃ y_ : List (S72), y_ = (List.replicate ((l0.length : Int) : Int).toNat z72) := ⟨_, rfl⟩
 replace H : (laws_toEntryS.l0 k l0 ap 0) = some r := by first | (rw [hy320]; with_reducible exact H) | (have H2_ := (Option.bind_some _ _).symm.trans H; rw [hy320]; with_reducible exact H2_) | (have H2_ := (Option.bind_some _ _).symm.trans H; with_reducible exact H2_) | with_reducible exact H | (rw [hy320]; exact H) | exact H
 have Ny320 := Aside0.mk hy320
 clear hy320
 have H' := Aside0.mk H
 clear H
 go_enter Tryz.func72, Tryz.ntmps72
 go_wp2_with (first | ((with_reducible refine gate_dst (N := 7) rfl ?_); refine Kd.R_make k72 _ 72 rfl (N := 7) rfl 67 _ _ rfl (l0.length : Int) rfl rfl Tryz.underlying67 (.agg #[(.int .i64 0), (.string ⟨#[]⟩)]) 24 info72 rfl (by decide) (by omega) z72 (ok := fun _ => True) (okp := fun _ => True) (k72_mkM _ _ _ z72 ) (fun _ hk => hk) trivial (of_decide_eq_true tq_2) (Nat.le_trans (Nat.mul_le_mul_right _ (of_decide_eq_true tq_2 : (l0.length : Int).toNat ≤ 11728124029610)) (by omega)) (Below.refl _ _) (Nat.le_refl _) ?_; intro v321 w4 ho5 hb hg_ hnew_; clear hg_ hnew_; (first | rw [← Ny320.out] at ho5 | (simp only [Int.reduceToNat] at ho5; rw [← Ny320.out] at ho5)); have z_ := p_ (Kd.R_lower ho5 (below_size th_)) <| a_ (below_step th_ hb); clear HB; obtain ⟨HO322, HB⟩ := z_; clear hb ho5))
 go_loopg [4] k (fun kq v4 w' => ∃ (a6 : List (S72)) (a5 : Int), v4 = .int .i64 a5 ∧ Aside0 (laws_toEntryS.l0 kq l0 a6 a5 = some r) ∧ Aside0 (kq ≤ k) ∧ Aside0 (Kd.R k72 72 w' w.heap.size (fun _ => True) v321 a6) ∧ Aside0 (Below w.heap.size w w'))
 case atStart => exact ⟨(ap), (0), tq_3, H', ⟨Nat.le_refl _⟩, ⟨(raR_ HO322)⟩, ⟨th_⟩⟩
 case round =>
 clear H'
 try clear c2; try clear b1; try clear b2; try clear p2; try clear c3; try clear b3; try clear b4
 obtain ⟨a6, a5, rfl, HA, HK1, a7, HB⟩ := hrel
 cases gk with
 | zero => exact absurd HA.out (by simp [laws_toEntryS.l0])
 | succ k1 =>
 have H := HA.out
 clear HA
 simp only [laws_toEntryS.l0] at H
 by_cases c6 : a5 < (l0.length : Int)
 rotate_left
 ·rw [if_neg c6] at H
  have b5 := decide_eq_false c6
  clear c6
  obtain rfl := Option.some.inj H
  go_wp2
  go_ret
  exact ⟨_, tq_1, (raR_ a7), th_⟩
 rw [if_pos c6] at H
 have b5 := decide_eq_true c6
 clear c6
 obtain ⟨c7, H⟩ := fc_ H
 have be := decide_eq_true c7
 clear c7
 obtain ⟨⟨ac, ae⟩, A8, H⟩ := bd_ H
 try dsimp -simprocs only at H
 obtain ⟨c9, H⟩ := fc_ H
 have bf := decide_eq_true c9
 clear c9
 obtain ⟨aj, hy326⟩ : ∃ y_ : List (S72), y_ = (a6.set (a5 : Int).toNat (⟨ac, ae⟩ : S72)) := ⟨_, rfl⟩
 replace H : (laws_toEntryS.l0 k1 l0 aj (wrap64 (a5 + 1))) = some r := by first | (rw [hy326]; with_reducible exact H) | (have H2_ := (Option.bind_some _ _).symm.trans H; rw [hy326]; with_reducible exact H2_) | (have H2_ := (Option.bind_some _ _).symm.trans H; with_reducible exact H2_) | with_reducible exact H | (rw [hy326]; exact H) | exact H
 have Ny326 := Aside0.mk hy326
 clear hy326
 have H' := Aside0.mk H
 clear H
 have p323 : 0 ≤ (a5 : Int) := of_decide_eq_true tq_2
 have q323 : a5 < (l0.length : Int) := of_decide_eq_true tq_2
 obtain ⟨bd, b6, a9, aa⟩ := at_T109 HR0.out a5 p323 q323
 cases b6
 replace a9 := hx_ HB.out a9
 replace aa := hx_ HB.out aa
 replace p323 := eq_true p323
 replace q323 := eq_true q323
 go_wp2_with (first | ((with_reducible refine gate_callee (f := 95) rfl ?_); refine goesL_ (some 20) rfl rfl Tryz.func95 (by kernel_rfl) rfl #[.agg #[.int .i64 ((rd_T109 l0 a5).f0), .string ((rd_T109 l0 a5).f1)]] rfl tq_0 ?_; (with_reducible refine (laws_toEntry.calls ((rd_T109 l0 a5).f0) ((rd_T109 l0 a5).f1) ac ae _ A8.out).mono ?_); rintro e ak ⟨rfl, hb⟩; refine ⟨_, rfl, ?_⟩; have z_ := p_ (Kd.R_below (raR_ a7) hb) <| a_ (below_step th_ hb); clear a7 HB; obtain ⟨a7, HB⟩ := z_; (try clear hb); have p10 : 0 ≤ (a5 : Int) := of_decide_eq_true tq_2; have q10 : (a5 : Int) < ((a6.length : Int) : Int) := of_decide_eq_true tq_2; obtain ⟨a8, aq, ar, au, b7, bg, av⟩ := Kd.R_form a7.out (by omega); (first | cases ar | (injection ar with ea_ en_ ec_; (first | subst ea_ | (injection ea_ with ea_; subst ea_)); subst ec_; clear en_)); have aw := Aside0.mk au; have bh := Aside0.mk av; clear au b7 av; obtain ⟨bi, ax, ay, af, ag⟩ := Kd.R_elem a7.out z72 (a5 : Int) p10 q10; obtain rfl := k72_openM ay; have b8 : ak.cell? ⟨a8, (a5 : Int).toNat * 2, none⟩ = some (.int .i64 ((rd_T72 a6 a5).f0)) := af 0 _ rfl; have b9 : ak.cell? ⟨a8, (a5 : Int).toNat * 2 + 1, none⟩ = some (.string ((rd_T72 a6 a5).f1)) := af 1 _ rfl; have ba : ak.frozen? ⟨a8, (a5 : Int).toNat * 2, none⟩ = false := ag 0; have bb : ak.frozen? ⟨a8, (a5 : Int).toNat * 2 + 1, none⟩ = false := ag 1; clear ax af ag ay; replace p10 := eq_true p10; replace q10 := eq_true q10; have az := Aside0.mk (show Kd.R k72 72 ak w.heap.size (fun _ => True) (.slice (some ⟨a8, 0, none⟩) a6.length aq) a6 from (raR_ a7)); obtain ⟨bj, ai, b0, ab, ah⟩ := Kd.R_elem az.out z72 (a5 : Int) (of_decide_eq_true tq_2) (by have h_ : (a5 : Int) < ((a6.length : Int) : Int) := of_decide_eq_true tq_2; first | exact h_ | (have e_ := (Kd.R_reads' a7.out).1; omega) | simpa using h_); obtain rfl := k72_openM b0; have HP12 := Kd.R_seg az.out (a5 : Int) (of_decide_eq_true tq_2) (by have h_ : (a5 : Int) < ((a6.length : Int) : Int) := of_decide_eq_true tq_2; first | exact h_ | (have e_ := (Kd.R_reads' a7.out).1; omega) | simpa using h_) (seg := [.int .i64 ac, .string ae]) (j := 0) ai ab (show 2 ≤ 2 from by decide) (x' := (⟨ac, ae⟩ : S72)) (k72_mkM _ _ _ (⟨ac, ae⟩ : S72) ) (fun _ hk => hk); have al := ab 0 _ rfl; (try simp only [show (k72).sz = 2 from rfl, Nat.mul_one, Nat.add_zero] at al); have am := ah 0; (try simp only [show (k72).sz = 2 from rfl, Nat.mul_one, Nat.add_zero] at am); have an := ab 1 _ rfl; (try simp only [show (k72).sz = 2 from rfl, Nat.mul_one, Nat.add_zero] at an); have ao := ah 1; (try simp only [show (k72).sz = 2 from rfl, Nat.mul_one, Nat.add_zero] at ao); clear ai ab ah b0) | ((with_reducible refine gate_store (t := 72) (p := 21) rfl ?_); refine store_event (t := 72) (p := 21) (v := ?vo_w13) (w1 := ((ak.setCell ⟨a8, (a5 : Int).toNat * 2, none⟩ (.int .i64 ac)).setCell ⟨a8, (a5 : Int).toNat * 2 + 1, none⟩ (.string ae))) ?hg ?ho ?hn ?hr ?_; (case ho => rfl); (case hg => rfl); (case hn => rfl); (case hr => first | (go_simp; done) | (go_simp; rfl)); intro bc hw; have hg : ak.grownBy bc (some a8) := (by rw [hw]; exact HP12.2); have hp_ : Kd.R k72 72 bc w.heap.size (fun _ => True) (.slice (some ⟨a8, 0, none⟩) a6.length aq) aj := (by rw [hw, Ny326.out]; exact HP12.1); clear HP12; have z_ := p_ (hp_) <| a_ ((by rw [hw]; exact below_set (below_set (HB.out) aw.out) aw.out : Below w.heap.size w bc)); clear a7 HB; obtain ⟨a7, HB⟩ := z_; clear hg hw hp_))
 go_roundg k1
 case measure => have := HK1.out; omega
 case rel => exact ⟨(aj), (wrap64 (a5 + 1)), tq_3, H', ⟨tq_15⟩, ⟨(raR_ a7)⟩, ⟨th_⟩⟩

/-! ### laws_toInode: function 47 -/
def laws_toInode.f (k : Nat) (a0_0 : Int) (a0_1 : Int) (a0_2 : Int) (a0_3 : ByteArray) (l0_4 : List (S107)) (l0_5 : List (S109)) : Option (Int × Int × Int × ByteArray × (List (S89)) × (List (S72))) := (laws_toRecS.f k l0_4).bind fun t330 => ((laws_toEntryS.f k l0_5).bind fun t333 => (some (a0_0, a0_1, a0_2, a0_3, t330, t333)))
set_option maxHeartbeats 8000000 in
set_option maxRecDepth 100000 in
theorem laws_toInode.calls (k : Nat) (aa : Int) (ab : Int) (ac : Int) (af : ByteArray) (ag : Option Addr) (ah : Nat) (l0_4 : List (S107)) (ai : Option Addr) (aj : Nat) (ae : List (S109)) (r1 : Int) (r2 : Int) (r3 : Int) (r4 : ByteArray) (r5 : List (S89)) (r6 : List (S72)) (w : World) (ap : Kd.C k107 w ag l0_4.length l0_4) (aq : l0_4.length ≤ ah) (ar : Kd.C k109 w ai ae.length ae) (au : ae.length ≤ aj) (h : laws_toInode.f k aa ab ac af l0_4 ae = some (r1, r2, r3, r4, r5, r6)) :
  Calls Tryz.prog 47 #[.agg #[.int .i64 aa, .int .i64 ab, .int .i64 ac, .string af, .slice ag l0_4.length ah, .slice ai ae.length aj]] w fun e w' => ∃ v4_ v5_ : Value, e = .returned (.agg #[.int .i64 r1, .int .i64 r2, .int .i64 r3, .string r4, v4_, v5_]) ∧ Kd.R k89 89 w' w.heap.size (fun _ => True) v4_ r5 ∧ Kd.R k72 72 w' w.heap.size (fun _ => True) v5_ r6 ∧ Below w.heap.size w w' := by
 have hu62 := Tryz.underlying62
 have hu69 := Tryz.underlying69
 have HR0_4 := Aside0.mk ap
 have ay := Aside0.mk aq
 clear ap aq
 have HR0_5 := Aside0.mk ar
 have az := Aside0.mk au
 clear ar au
 have HB := Aside0.mk (Below.refl w.heap.size w)
 unfold laws_toInode.f at h
 have H := h
 clear h
 obtain ⟨ax, A2, H⟩ := bd_ H
 obtain ⟨b0, A3, H⟩ := bd_ H
 simp only [Option.some.injEq, Prod.mk.injEq] at H
 obtain ⟨rfl, rfl, rfl, rfl, rfl, rfl⟩ := H
 go_enter Tryz.func47, Tryz.ntmps47
 go_wp2_with (first | ((with_reducible refine gate_dst (N := 1) rfl ?_); refine be_ 1 (cs := #[.int .i64 aa, .int .i64 ab, .int .i64 ac, .string af, .slice ag l0_4.length ah, .slice ai ae.length aj]) 62 ?_; intro av hg w4 hbox hb; have z_ := bx0_ th_ hb hbox hg; clear HB; obtain ⟨HB, a7, b5, b6⟩ := z_; clear hb hbox hg) | ((with_reducible refine gate_dst (N := 2) rfl ?_); refine be_ 2 (cs := #[.int .i64 0, .int .i64 0, .int .i64 0, .string (⟨#[]⟩ : ByteArray), .slice none 0 0, .slice none 0 0]) 69 ?_; intro ao hg w5 hbox hb; have z_ := bx1_ (kb_ a7) th_ hb hbox hg; clear a7 HB; obtain ⟨a7, HB, a8, b7, b8, ak, al⟩ := z_; clear hb hbox hg) | ((with_reducible refine gate_dst (N := 3) rfl ?_); refine be_ 3 (cs := #[.int .i64 0, .int .i64 0, .int .i64 0, .string (⟨#[]⟩ : ByteArray), .slice none 0 0, .slice none 0 0]) 69 ?_; intro aw hg w6 hbox hb; have z_ := bx2_ (kb_ a7) (kb_ a8) th_ hb hbox hg; clear a7 a8 HB; obtain ⟨a7, a8, HB, a9, b9, ba, a5, am, a6, an⟩ := z_; clear hb hbox hg; obtain ⟨hnb7, hnc7, hnb8, hnc8⟩ := an4_ ak al a5 am; have bg := bb6_ a7.out; obtain ⟨hnb10, hnc10⟩ := an2_ an a6; have bb := bb6_ a9.out) | ((with_reducible refine gate_callee (f := 71) rfl ?_); refine goesL_ (some 18) rfl rfl Tryz.func71 (by kernel_rfl) rfl #[.slice ag l0_4.length ah] rfl tq_0 ?_; (with_reducible refine (laws_toRecS.calls k _ _ l0_4 ax _ ?side1 ?side2 A2.out).mono ?_); (case side1 => exact Kd.C_below HR0_4.out th_); (case side2 => exact ay.out); rintro e bh ⟨v331, rfl, ho0, hb⟩; refine ⟨_, rfl, ?_⟩; have z_ := p_ (Kd.R_lower ho0 (below_size th_)) <| p_ (blk_below (g := av) (o := .cells #[.int .i64 aa, .int .i64 ab, .int .i64 ac, .string af, .slice ag l0_4.length ah, .slice ai ae.length aj] 62 (0, 0)) (by (with_reducible repeat (first | refine blk_drewN ?_ _ | refine blk_drew ?_ | refine blk_alloc ?_ _)); refine blk_far ?_ a5.out _; (with_reducible repeat (first | refine blk_drewN ?_ _ | refine blk_drew ?_ | refine blk_alloc ?_ _)); refine blk_far ?_ a5.out _; (with_reducible repeat (first | refine blk_drewN ?_ _ | refine blk_drew ?_ | refine blk_alloc ?_ _)); refine blk_far ?_ a5.out _; (with_reducible repeat (first | refine blk_drewN ?_ _ | refine blk_drew ?_ | refine blk_alloc ?_ _)); refine blk_far ?_ a5.out _; (with_reducible repeat (first | refine blk_drewN ?_ _ | refine blk_drew ?_ | refine blk_alloc ?_ _)); exact a7.out) hb) <| p_ (blk_below (g := ao) (o := .cells #[.int .i64 0, .int .i64 0, .int .i64 0, .string (⟨#[]⟩ : ByteArray), .slice none 0 0, .slice none 0 0] 69 (0, 0)) (by (with_reducible repeat (first | refine blk_drewN ?_ _ | refine blk_drew ?_ | refine blk_alloc ?_ _)); refine blk_far ?_ a6.out _; (with_reducible repeat (first | refine blk_drewN ?_ _ | refine blk_drew ?_ | refine blk_alloc ?_ _)); refine blk_far ?_ a6.out _; (with_reducible repeat (first | refine blk_drewN ?_ _ | refine blk_drew ?_ | refine blk_alloc ?_ _)); refine blk_far ?_ a6.out _; (with_reducible repeat (first | refine blk_drewN ?_ _ | refine blk_drew ?_ | refine blk_alloc ?_ _)); refine blk_far ?_ a6.out _; (with_reducible repeat (first | refine blk_drewN ?_ _ | refine blk_drew ?_ | refine blk_alloc ?_ _)); exact a8.out) hb) <| p_ (blk_below (g := aw) (o := .cells #[.int .i64 aa, .int .i64 ab, .int .i64 ac, .string af, .slice none 0 0, .slice none 0 0] 69 (0, 0)) (by (with_reducible repeat (first | refine blk_drewN ?_ _ | refine blk_drew ?_ | refine blk_alloc ?_ _)); refine blk_put (cs := #[.int .i64 aa, .int .i64 ab, .int .i64 ac, .string (⟨#[]⟩ : ByteArray), .slice none 0 0, .slice none 0 0]) ?_ 3 _ rfl; (with_reducible repeat (first | refine blk_drewN ?_ _ | refine blk_drew ?_ | refine blk_alloc ?_ _)); refine blk_put (cs := #[.int .i64 aa, .int .i64 ab, .int .i64 0, .string (⟨#[]⟩ : ByteArray), .slice none 0 0, .slice none 0 0]) ?_ 2 _ rfl; (with_reducible repeat (first | refine blk_drewN ?_ _ | refine blk_drew ?_ | refine blk_alloc ?_ _)); refine blk_put (cs := #[.int .i64 aa, .int .i64 0, .int .i64 0, .string (⟨#[]⟩ : ByteArray), .slice none 0 0, .slice none 0 0]) ?_ 1 _ rfl; (with_reducible repeat (first | refine blk_drewN ?_ _ | refine blk_drew ?_ | refine blk_alloc ?_ _)); refine blk_put (cs := #[.int .i64 0, .int .i64 0, .int .i64 0, .string (⟨#[]⟩ : ByteArray), .slice none 0 0, .slice none 0 0]) ?_ 0 _ rfl; (with_reducible repeat (first | refine blk_drewN ?_ _ | refine blk_drew ?_ | refine blk_alloc ?_ _)); exact a9.out) hb) <| a_ (below_step th_ hb); clear a7 a8 a9 HB; obtain ⟨HO332, a7, a8, a9, HB⟩ := z_; (try clear hb); obtain ⟨Ao13, b1, b2⟩ := Kd.R_slice HO332.out; subst b2; have bc := bb6_ a9.out; have bd := bb6_ a7.out) | ((with_reducible refine gate_callee (f := 72) rfl ?_); refine goesL_ (some 22) rfl rfl Tryz.func72 (by kernel_rfl) rfl #[.slice ai ae.length aj] rfl tq_0 ?_; (with_reducible refine (laws_toEntryS.calls k _ _ ae b0 _ ?side1 ?side2 A3.out).mono ?_); (case side1 => exact Kd.C_below HR0_5.out th_); (case side2 => exact az.out); rintro e bi ⟨v334, rfl, ho0, hb⟩; refine ⟨_, rfl, ?_⟩; have z_ := p_ (Kd.R_below (by (with_reducible repeat (first | apply Kd.R_alloc | apply Kd.R_drewN | apply Kd.R_drew)); exact (Kd.R_mono (rR_ (Kd.R_types HO332.out a9.out (by decide))) (fun _ h_ => h_.1))) hb) <| p_ (Kd.R_lower ho0 (below_size th_)) <| p_ (blk_below (g := av) (o := .cells #[.int .i64 aa, .int .i64 ab, .int .i64 ac, .string af, .slice ag l0_4.length ah, .slice ai ae.length aj] 62 (0, 0)) (by (with_reducible repeat (first | refine blk_drewN ?_ _ | refine blk_drew ?_ | refine blk_alloc ?_ _)); refine blk_far ?_ a5.out _; (with_reducible repeat (first | refine blk_drewN ?_ _ | refine blk_drew ?_ | refine blk_alloc ?_ _)); exact a7.out) hb) <| p_ (blk_below (g := ao) (o := .cells #[.int .i64 0, .int .i64 0, .int .i64 0, .string (⟨#[]⟩ : ByteArray), .slice none 0 0, .slice none 0 0] 69 (0, 0)) (by (with_reducible repeat (first | refine blk_drewN ?_ _ | refine blk_drew ?_ | refine blk_alloc ?_ _)); refine blk_far ?_ a6.out _; (with_reducible repeat (first | refine blk_drewN ?_ _ | refine blk_drew ?_ | refine blk_alloc ?_ _)); exact a8.out) hb) <| p_ (blk_below (g := aw) (o := .cells #[.int .i64 aa, .int .i64 ab, .int .i64 ac, .string af, .slice Ao13 ax.length b1, .slice none 0 0] 69 (0, 0)) (by (with_reducible repeat (first | refine blk_drewN ?_ _ | refine blk_drew ?_ | refine blk_alloc ?_ _)); refine blk_put (cs := #[.int .i64 aa, .int .i64 ab, .int .i64 ac, .string af, .slice none 0 0, .slice none 0 0]) ?_ 4 _ rfl; (with_reducible repeat (first | refine blk_drewN ?_ _ | refine blk_drew ?_ | refine blk_alloc ?_ _)); exact a9.out) hb) <| a_ (below_step th_ hb); clear HO332 a7 a8 a9 HB; obtain ⟨HO332, HO335, a7, a8, a9, HB⟩ := z_; (try clear hb); (try clear hk); (try clear ho0); obtain ⟨Ao17, b3, b4⟩ := Kd.R_slice HO335.out; subst b4; have be := bb6_ a9.out; have bf := bb6_ a8.out))
 refine bodyPost_ret (results_cell_row rfl _ _ ao 69 #[.int .i64 aa, .int .i64 ab, .int .i64 ac, .string af, .slice Ao13 ax.length b1, .slice Ao17 b0.length b3] (0, 0) _ rfl tb_ Tryz.underlying69 rfl (by kernel_rfl)) rfl ?_
 exact ⟨_, _, tq_1, (by (with_reducible repeat (first | apply Kd.R_alloc | apply Kd.R_drewN | apply Kd.R_drew)); exact Kd.R_mono (rR_ (rR_ (rR_ (rR_ (rR_ (rR_ (rR_ (Kd.R_types (Kd.R_types HO332.out a9.out (by decide)) a8.out (by decide)) (fun _ hk => hk.1.2)))))))) (fun _ hk => trivial)), (by (with_reducible repeat (first | apply Kd.R_alloc | apply Kd.R_drewN | apply Kd.R_drew)); exact Kd.R_mono (rR_ (rR_ (rR_ (rR_ (rR_ (rR_ (rR_ (Kd.R_types (Kd.R_types HO335.out a9.out (by decide)) a8.out (by decide)) (fun _ hk => hk.1.2)))))))) (fun _ hk => trivial)), th_⟩

/-! ### laws_toInodeS: function 23 -/
def laws_toInodeS.l0 : Nat → List (S62) → List (S69) → Int → Option ((List (S69)))
 | 0, _, _, _ => none
 | k + 1, x0, x3, x4 => if x4 < (x0.length : Int) then (if 0 ≤ x4 then ((laws_toInode.f k ((rd_T62 x0 x4).f0) ((rd_T62 x0 x4).f1) ((rd_T62 x0 x4).f2) ((rd_T62 x0 x4).f3) ((rd_T62 x0 x4).f4) ((rd_T62 x0 x4).f5)).bind fun bt340 => (if x4 < (x3.length : Int) then (laws_toInodeS.l0 k x0 (x3.set (x4 : Int).toNat (⟨bt340.1, bt340.2.1, bt340.2.2.1, bt340.2.2.2.1, bt340.2.2.2.2.1, bt340.2.2.2.2.2⟩ : S69)) (wrap64 (x4 + 1))) else (none))) else (none)) else (some x3)
def laws_toInodeS.f (k : Nat) (l0 : List (S62)) : Option ((List (S69))) := if 0 ≤ (l0.length : Int) then (if ((l0.length : Int) : Int).toNat ≤ 3198579280802 then (laws_toInodeS.l0 k l0 (List.replicate ((l0.length : Int) : Int).toNat z69) 0) else (none)) else (none)
set_option maxHeartbeats 8000000 in
set_option maxRecDepth 100000 in
theorem laws_toInodeS.calls (k : Nat) (A0 : Option Addr) (c0 : Nat) (l0 : List (S62)) (r : List (S69)) (w : World) (hr0 : Kd.C k62 w A0 l0.length l0) (hc0 : l0.length ≤ c0) (h : laws_toInodeS.f k l0 = some r) :
  Calls Tryz.prog 23 #[.slice A0 l0.length c0] w fun e w' => ∃ v0_ : Value, e = .returned (v0_) ∧ Kd.S k69 69 w' w.heap.size (fun _ => True) v0_ r ∧ Below w.heap.size w w' := by
 have hu62 := Tryz.underlying62
 have hu69 := Tryz.underlying69
 have HR0 := Aside0.mk hr0
 have cy := Aside0.mk hc0
 clear hr0 hc0
 have HB := Aside0.mk (Below.refl w.heap.size w)
 unfold laws_toInodeS.f at h
 have H := h
 clear h
 obtain ⟨c2, H⟩ := fc_ H
 have bu := eq_true c2
 have bv := decide_eq_true c2
 clear c2
 obtain ⟨c3, H⟩ := fc_ H
 have bw := eq_true c3
 have bx := decide_eq_true c3
 clear c3
 obtain ⟨bj, hy336⟩ : ∃ y_ : List (S69), y_ = (List.replicate ((l0.length : Int) : Int).toNat z69) := ⟨_, rfl⟩
 replace H : (laws_toInodeS.l0 k l0 bj 0) = some r := by first | (rw [hy336]; with_reducible exact H) | (have H2_ := (Option.bind_some _ _).symm.trans H; rw [hy336]; with_reducible exact H2_) | (have H2_ := (Option.bind_some _ _).symm.trans H; with_reducible exact H2_) | with_reducible exact H | (rw [hy336]; exact H) | exact H
 have Ny336 := Aside0.mk hy336
 clear hy336
 have H' := Aside0.mk H
 clear H
 go_enter Tryz.func23, Tryz.ntmps23
 go_wp2_with (first | ((with_reducible refine gate_dst (N := 7) rfl ?_); refine Kd.S_make k69 _ 69 rfl (N := 7) rfl 33 _ _ rfl (l0.length : Int) rfl rfl Tryz.underlying33 (.agg #[(.int .i64 0), (.int .i64 0), (.int .i64 0), (.string ⟨#[]⟩), (.slice none 0 0), (.slice none 0 0)]) 88 info69 rfl (by decide) (by omega) z69 (ok := fun _ => True) (okp := fun _ => True) (k69_mkM _ _ _ z69 (Kd.R_nil _ _ _ _ _) (Kd.R_nil _ _ _ _ _)) (fun _ hk => hk) trivial (of_decide_eq_true tq_2) (Nat.le_trans (Nat.mul_le_mul_right _ (of_decide_eq_true tq_2 : (l0.length : Int).toNat ≤ 3198579280802)) (by omega)) (Below.refl _ _) (Nat.le_refl _) ?_; intro v337 w4 ho5 hb hg_ hnew_; clear hg_ hnew_; (first | rw [← Ny336.out] at ho5 | (simp only [Int.reduceToNat] at ho5; rw [← Ny336.out] at ho5)); have z_ := p_ (Kd.S_lower ho5 (below_size th_)) <| a_ (below_step th_ hb); clear HB; obtain ⟨HO338, HB⟩ := z_; clear hb ho5))
 go_loopg [4] k (fun kq v4 w' => ∃ (a8 : List (S69)) (a5 : Int), v4 = .int .i64 a5 ∧ Aside0 (laws_toInodeS.l0 kq l0 a8 a5 = some r) ∧ Aside0 (kq ≤ k) ∧ Aside0 (Kd.S k69 69 w' w.heap.size (fun _ => True) v337 a8) ∧ Aside0 (Below w.heap.size w w'))
 case atStart => exact ⟨(bj), (0), tq_3, H', ⟨Nat.le_refl _⟩, ⟨(raS_ HO338)⟩, ⟨th_⟩⟩
 case round =>
 clear H'
 try clear c2; try clear bu; try clear bv; try clear p2; try clear c3; try clear bw; try clear bx
 obtain ⟨a8, a5, rfl, HA, HK1, a7, HB⟩ := hrel
 cases gk with
 | zero => exact absurd HA.out (by simp [laws_toInodeS.l0])
 | succ k1 =>
 have H := HA.out
 clear HA
 simp only [laws_toInodeS.l0] at H
 by_cases c6 : a5 < (l0.length : Int)
 rotate_left
 ·rw [if_neg c6] at H
  have bz := decide_eq_false c6
  clear c6
  obtain rfl := Option.some.inj H
  go_wp2
  go_ret
  exact ⟨_, tq_1, (raS_ a7), th_⟩
 rw [if_pos c6] at H
 have bz := decide_eq_true c6
 clear c6
 obtain ⟨c7, H⟩ := fc_ H
 have cr := decide_eq_true c7
 clear c7
 obtain ⟨⟨ap, aq, ar, au, aw, ax⟩, A8, H⟩ := bd_ H
 try dsimp -simprocs only at H
 obtain ⟨c9, H⟩ := fc_ H
 have ct := decide_eq_true c9
 clear c9
 obtain ⟨b2, hy350⟩ : ∃ y_ : List (S69), y_ = (a8.set (a5 : Int).toNat (⟨ap, aq, ar, au, aw, ax⟩ : S69)) := ⟨_, rfl⟩
 replace H : (laws_toInodeS.l0 k1 l0 b2 (wrap64 (a5 + 1))) = some r := by first | (rw [hy350]; with_reducible exact H) | (have H2_ := (Option.bind_some _ _).symm.trans H; rw [hy350]; with_reducible exact H2_) | (have H2_ := (Option.bind_some _ _).symm.trans H; with_reducible exact H2_) | with_reducible exact H | (rw [hy350]; exact H) | exact H
 have Ny350 := Aside0.mk hy350
 clear hy350
 have H' := Aside0.mk H
 clear H
 have p339 : 0 ≤ (a5 : Int) := of_decide_eq_true tq_2
 have q339 : a5 < (l0.length : Int) := of_decide_eq_true tq_2
 obtain ⟨cq, b3, b4, b5, b6, ca, af, ag, ah, ai, aj, ak, al, am, an, ao⟩ := at_T62 HR0.out a5 p339 q339
 cases ca
 replace af := hx_ HB.out af
 replace ag := hx_ HB.out ag
 replace ah := hx_ HB.out ah
 replace ai := hx_ HB.out ai
 replace aj := hx_ HB.out aj
 replace ak := hx_ HB.out ak
 have ay := Aside0.mk am
 have az := Aside0.mk al
 clear am al
 have b0 := Aside0.mk ao
 have b1 := Aside0.mk an
 clear ao an
 replace p339 := eq_true p339
 replace q339 := eq_true q339
 go_wp2_with (first | ((with_reducible refine gate_callee (f := 47) rfl ?_); refine goesL_ (some 20) rfl rfl Tryz.func47 (by kernel_rfl) rfl #[.agg #[.int .i64 ((rd_T62 l0 a5).f0), .int .i64 ((rd_T62 l0 a5).f1), .int .i64 ((rd_T62 l0 a5).f2), .string ((rd_T62 l0 a5).f3), .slice b3 ((rd_T62 l0 a5).f4).length b4, .slice b5 ((rd_T62 l0 a5).f5).length b6]] rfl tq_0 ?_; (with_reducible refine (laws_toInode.calls k1 ((rd_T62 l0 a5).f0) ((rd_T62 l0 a5).f1) ((rd_T62 l0 a5).f2) ((rd_T62 l0 a5).f3) _ _ ((rd_T62 l0 a5).f4) _ _ ((rd_T62 l0 a5).f5) ap aq ar au aw ax _ ?side1 ?side2 ?side3 ?side4 A8.out).mono ?_); (case side1 => repeat (first | exact (Kd.C_below ay.out HB.out) | (with_reducible refine Kd.C_alloc ?_ _) | (with_reducible refine Kd.C_drewN ?_ _) | (with_reducible refine Kd.C_drew ?_))); (case side2 => exact az.out); (case side3 => repeat (first | exact (Kd.C_below b0.out HB.out) | (with_reducible refine Kd.C_alloc ?_ _) | (with_reducible refine Kd.C_drewN ?_ _) | (with_reducible refine Kd.C_drew ?_))); (case side4 => exact b1.out); rintro e ae ⟨v345, v348, rfl, ho0, ho1, hb⟩; refine ⟨_, rfl, ?_⟩; have z_ := p_ (Kd.S_mono (Kd.S_told (Kd.S_told (Kd.S_old (raS_ a7) hb) (Kd.R_base ho0)) (Kd.R_base ho1)) (fun _ h_ => h_.1)) <| p_ (Kd.R_lower ho0 (below_size th_)) <| p_ (Kd.R_lower ho1 (below_size th_)) <| a_ (below_step th_ hb); clear a7 HB; obtain ⟨a7, HO346, HO349, HB⟩ := z_; (try clear hb); (try clear ho0); (try clear ho1); have p10 : 0 ≤ (a5 : Int) := of_decide_eq_true tq_2; have q10 : (a5 : Int) < ((a8.length : Int) : Int) := of_decide_eq_true tq_2; obtain ⟨a6, bl, bm, bn, cb, cu, bo⟩ := Kd.S_form a7.out (by omega); (first | cases bm | (injection bm with ea_ en_ ec_; (first | subst ea_ | (injection ea_ with ea_; subst ea_)); subst ec_; clear en_)); have av := Aside0.mk bn; have cv := Aside0.mk bo; clear bn cb bo; obtain ⟨_, cw, bp, bq, a9, aa, _, _⟩ := Kd.S_elem a7.out z69 (a5 : Int) p10 q10; obtain ⟨ve10_4, ve10_5, rfl, ge10_4, ge10_5⟩ := k69_openM bq; have cc : ae.cell? ⟨a6, (a5 : Int).toNat * 6, none⟩ = some (.int .i64 ((rd_T69 a8 a5).f0)) := a9 0 _ rfl; have cd : ae.cell? ⟨a6, (a5 : Int).toNat * 6 + 1, none⟩ = some (.int .i64 ((rd_T69 a8 a5).f1)) := a9 1 _ rfl; have ce : ae.cell? ⟨a6, (a5 : Int).toNat * 6 + 2, none⟩ = some (.int .i64 ((rd_T69 a8 a5).f2)) := a9 2 _ rfl; have cf : ae.cell? ⟨a6, (a5 : Int).toNat * 6 + 3, none⟩ = some (.string ((rd_T69 a8 a5).f3)) := a9 3 _ rfl; have cg : ae.cell? ⟨a6, (a5 : Int).toNat * 6 + 4, none⟩ = some (ve10_4) := a9 4 _ rfl; have ch : ae.cell? ⟨a6, (a5 : Int).toNat * 6 + 5, none⟩ = some (ve10_5) := a9 5 _ rfl; have ci : ae.frozen? ⟨a6, (a5 : Int).toNat * 6, none⟩ = false := aa 0; have cj : ae.frozen? ⟨a6, (a5 : Int).toNat * 6 + 1, none⟩ = false := aa 1; have ck : ae.frozen? ⟨a6, (a5 : Int).toNat * 6 + 2, none⟩ = false := aa 2; have cl : ae.frozen? ⟨a6, (a5 : Int).toNat * 6 + 3, none⟩ = false := aa 3; have cm : ae.frozen? ⟨a6, (a5 : Int).toNat * 6 + 4, none⟩ = false := aa 4; have cn : ae.frozen? ⟨a6, (a5 : Int).toNat * 6 + 5, none⟩ = false := aa 5; clear bp a9 aa bq; replace p10 := eq_true p10; replace q10 := eq_true q10; have n_ := Aside0.mk (Kd.S_mono (ok' := (fun k_ => some k_ ≠ (v345 : Value).ownBlock ∧ some k_ ≠ (v348 : Value).ownBlock)) a7.out (fun k_ hk => ⟨hk.1.2, hk.2⟩)); clear a7; have a7 := n_; clear n_; have co := Aside0.mk (show Kd.S k69 69 ae w.heap.size (fun k_ => ((fun _ => True)) k_ ∧ ¬ ((fun k_ => some k_ = (v345 : Value).ownBlock ∨ some k_ = (v348 : Value).ownBlock)) k_) (.slice (some ⟨a6, 0, none⟩) a8.length bl) a8 from (by (with_reducible repeat (first | apply Kd.S_alloc | apply Kd.S_drewN | apply Kd.S_drew)); exact Kd.S_mono a7.out (fun k_ hk => ⟨trivial, fun e_ => e_.elim (fun h_ => hk.1 h_) (fun h_ => hk.2 h_)⟩))); obtain ⟨oki12, cx, br, bs, ab, ac, hoki12, hH12⟩ := Kd.S_elem co.out z69 (a5 : Int) (of_decide_eq_true tq_2) (by have h_ : (a5 : Int) < ((a8.length : Int) : Int) := of_decide_eq_true tq_2; first | exact h_ | (have e_ := (Kd.S_reads' a7.out).1; omega) | simpa using h_); obtain ⟨ve12_4, ve12_5, rfl, ge12_4, ge12_5⟩ := k69_openM bs; have HP12 := Kd.S_seg hH12 (of_decide_eq_true tq_2) (by have h_ : (a5 : Int) < ((a8.length : Int) : Int) := of_decide_eq_true tq_2; first | exact h_ | (have e_ := (Kd.S_reads' a7.out).1; omega) | simpa using h_) (seg := [.int .i64 ap, .int .i64 aq, .int .i64 ar, .string au, v345, v348]) (j := 0) (show 6 ≤ 6 from by decide) (x' := (⟨ap, aq, ar, au, aw, ax⟩ : S69)) (k69_mkM _ _ _ (⟨ap, aq, ar, au, aw, ax⟩ : S69) (Kd.R_mono (Kd.R_tight rfl (Kd.R_mono (ok' := fun k_ => ((fun _ => True)) k_ ∧ k_ ≠ a6) (Kd.R_apart' (HO346.out) (Kd.S_typed a7.out) (by decide)) (fun k_ hk => ⟨trivial, fun e_ => (hk.2) (by rw [e_]; rfl)⟩))) (fun _ h_ => Or.inr (Or.inl h_))) (Kd.R_mono (Kd.R_tight rfl (Kd.R_mono (ok' := fun k_ => ((fun _ => True)) k_ ∧ k_ ≠ a6) (Kd.R_apart' (HO349.out) (Kd.S_typed a7.out) (by decide)) (fun k_ hk => ⟨trivial, fun e_ => (hk.2) (by rw [e_]; rfl)⟩))) (fun _ h_ => Or.inr (Or.inr (h_))))) (fun _ hk => hk) (fun k_ hk_ => hk_.elim (fun h_ => ((Kd.R_mono (ok' := fun k_ => ((fun _ => True)) k_ ∧ k_ ≠ a6) (Kd.R_apart' (HO346.out) (Kd.S_typed a7.out) (by decide)) (fun k_ hk => ⟨trivial, fun e_ => (hk.2) (by rw [e_]; rfl)⟩))).1 k_ h_.symm) (fun h_ => ((Kd.R_mono (ok' := fun k_ => ((fun _ => True)) k_ ∧ k_ ≠ a6) (Kd.R_apart' (HO349.out) (Kd.S_typed a7.out) (by decide)) (fun k_ hk => ⟨trivial, fun e_ => (hk.2) (by rw [e_]; rfl)⟩))).1 k_ h_.symm)); have b7 := ab 0 _ rfl; (try simp only [show (k69).sz = 6 from rfl, Nat.mul_one, Nat.add_zero] at b7); have b8 := ac 0; (try simp only [show (k69).sz = 6 from rfl, Nat.mul_one, Nat.add_zero] at b8); have b9 := ab 1 _ rfl; (try simp only [show (k69).sz = 6 from rfl, Nat.mul_one, Nat.add_zero] at b9); have ba := ac 1; (try simp only [show (k69).sz = 6 from rfl, Nat.mul_one, Nat.add_zero] at ba); have bb := ab 2 _ rfl; (try simp only [show (k69).sz = 6 from rfl, Nat.mul_one, Nat.add_zero] at bb); have bc := ac 2; (try simp only [show (k69).sz = 6 from rfl, Nat.mul_one, Nat.add_zero] at bc); have bd := ab 3 _ rfl; (try simp only [show (k69).sz = 6 from rfl, Nat.mul_one, Nat.add_zero] at bd); have be := ac 3; (try simp only [show (k69).sz = 6 from rfl, Nat.mul_one, Nat.add_zero] at be); have bf := ab 4 _ rfl; (try simp only [show (k69).sz = 6 from rfl, Nat.mul_one, Nat.add_zero] at bf); have bg := ac 4; (try simp only [show (k69).sz = 6 from rfl, Nat.mul_one, Nat.add_zero] at bg); have bh := ab 5 _ rfl; (try simp only [show (k69).sz = 6 from rfl, Nat.mul_one, Nat.add_zero] at bh); have bi := ac 5; (try simp only [show (k69).sz = 6 from rfl, Nat.mul_one, Nat.add_zero] at bi); clear br ab ac bs hoki12 hH12) | ((with_reducible refine gate_store (t := 69) (p := 21) rfl ?_); refine store_event (t := 69) (p := 21) (v := ?vo_w13) (w1 := ((((((ae.setCell ⟨a6, (a5 : Int).toNat * 6, none⟩ (.int .i64 ap)).setCell ⟨a6, (a5 : Int).toNat * 6 + 1, none⟩ (.int .i64 aq)).setCell ⟨a6, (a5 : Int).toNat * 6 + 2, none⟩ (.int .i64 ar)).setCell ⟨a6, (a5 : Int).toNat * 6 + 3, none⟩ (.string au)).setCell ⟨a6, (a5 : Int).toNat * 6 + 4, none⟩ (v345)).setCell ⟨a6, (a5 : Int).toNat * 6 + 5, none⟩ (v348))) ?hg ?ho ?hn ?hr ?_; (case ho => rfl); (case hg => rfl); (case hn => rfl); (case hr => first | (go_simp; done) | (go_simp; rfl) | (have r0_ : ∀ (a_ : Addr) (m_ : Mode) (W_ : World), (store a_ v345 m_).run Tryz.prog W_ = stored Tryz.prog W_ a_ v345 m_ := fun a_ m_ W_ => run_store Tryz.prog W_ a_ v345 m_ (by obtain ⟨_, _, e_⟩ := Kd.R_slice HO346.out; rw [e_]; rfl); have r1_ : ∀ (a_ : Addr) (m_ : Mode) (W_ : World), (store a_ v348 m_).run Tryz.prog W_ = stored Tryz.prog W_ a_ v348 m_ := fun a_ m_ W_ => run_store Tryz.prog W_ a_ v348 m_ (by obtain ⟨_, _, e_⟩ := Kd.R_slice HO349.out; rw [e_]; rfl); go_simp; done) | (have r0_ : ∀ (a_ : Addr) (m_ : Mode) (W_ : World), (store a_ v345 m_).run Tryz.prog W_ = stored Tryz.prog W_ a_ v345 m_ := fun a_ m_ W_ => run_store Tryz.prog W_ a_ v345 m_ (by obtain ⟨_, _, e_⟩ := Kd.R_slice HO346.out; rw [e_]; rfl); have r1_ : ∀ (a_ : Addr) (m_ : Mode) (W_ : World), (store a_ v348 m_).run Tryz.prog W_ = stored Tryz.prog W_ a_ v348 m_ := fun a_ m_ W_ => run_store Tryz.prog W_ a_ v348 m_ (by obtain ⟨_, _, e_⟩ := Kd.R_slice HO349.out; rw [e_]; rfl); go_simp; rfl)); intro cp hw; have hg : ae.grownBy cp (some a6) := (by rw [hw]; exact HP12.2); have hp_ : Kd.S k69 69 cp w.heap.size (fun _ => True) (.slice (some ⟨a6, 0, none⟩) a8.length bl) b2 := (by rw [hw, Ny350.out]; exact HP12.1); clear HP12; have z_ := p_ (hp_) <| a_ ((by rw [hw]; exact below_set (below_set (below_set (below_set (below_set (below_set (HB.out) av.out) av.out) av.out) av.out) av.out) av.out : Below w.heap.size w cp)); clear a7 HB HO346 HO349; obtain ⟨a7, HB⟩ := z_; clear hg hw hp_))
 go_roundg k1
 case measure => have := HK1.out; omega
 case rel => exact ⟨(b2), (wrap64 (a5 + 1)), tq_3, H', ⟨tq_15⟩, ⟨(raS_ a7)⟩, ⟨th_⟩⟩

/-! ### laws_toPart: function 8 -/
def laws_toPart.f (k : Nat) (a0_0 : Int) (l0_1 : List Int) (l0_2 : List (S62)) : Option (Int × List Int × (List (S69))) := (laws_toIntS.f k l0_1).bind fun t354 => ((laws_toInodeS.f k l0_2).bind fun t357 => (some (a0_0, t354, t357)))
set_option maxHeartbeats 8000000 in
set_option maxRecDepth 100000 in
theorem laws_toPart.calls (k : Nat) (a8 : Int) (a9 : Option Addr) (aa : Nat) (a6 : List Int) (ab : Option Addr) (ac : Nat) (a7 : List (S62)) (r1 : Int) (r2 : List Int) (r3 : List (S69)) (w : World) (aj : Kd.C (Kd.int .i64) w a9 a6.length a6) (ak : a6.length ≤ aa) (al : Kd.C k62 w ab a7.length a7) (am : a7.length ≤ ac) (h : laws_toPart.f k a8 a6 a7 = some (r1, r2, r3)) :
  Calls Tryz.prog 8 #[.agg #[.int .i64 a8, .slice a9 a6.length aa, .slice ab a7.length ac]] w fun e w' => ∃ v1_ v2_ : Value, e = .returned (.agg #[.int .i64 r1, v1_, v2_]) ∧ Kd.R (Kd.int .i64) 3 w' w.heap.size (fun _ => True) v1_ r2 ∧ Kd.S k69 69 w' w.heap.size (fun _ => True) v2_ r3 ∧ Below w.heap.size w w' := by
 have hu27 := Tryz.underlying27
 have hu35 := Tryz.underlying35
 have HR0_1 := Aside0.mk aj
 have aq := Aside0.mk ak
 clear aj ak
 have HR0_2 := Aside0.mk al
 have ar := Aside0.mk am
 clear al am
 have HB := Aside0.mk (Below.refl w.heap.size w)
 unfold laws_toPart.f at h
 have H := h
 clear h
 obtain ⟨ap, A2, H⟩ := bd_ H
 obtain ⟨au, A3, H⟩ := bd_ H
 simp only [Option.some.injEq, Prod.mk.injEq] at H
 obtain ⟨rfl, rfl, rfl⟩ := H
 go_enter Tryz.func8, Tryz.ntmps8
 go_wp2_with (first | ((with_reducible refine gate_dst (N := 1) rfl ?_); refine be_ 1 (cs := #[.int .i64 a8, .slice a9 a6.length aa, .slice ab a7.length ac]) 27 ?_; intro an hg w4 hbox hb; have z_ := bx0_ th_ hb hbox hg; clear HB; obtain ⟨HB, BK351, az, b0⟩ := z_; clear hb hbox hg) | ((with_reducible refine gate_dst (N := 2) rfl ?_); refine be_ 2 (cs := #[.int .i64 0, .slice none 0 0, .slice none 0 0]) 35 ?_; intro ai hg w5 hbox hb; have z_ := bx1_ (kb_ BK351) th_ hb hbox hg; clear BK351 HB; obtain ⟨BK351, HB, BK352, b1, b2, ae, af⟩ := z_; clear hb hbox hg) | ((with_reducible refine gate_dst (N := 3) rfl ?_); refine be_ 3 (cs := #[.int .i64 0, .slice none 0 0, .slice none 0 0]) 35 ?_; intro ao hg w6 hbox hb; have z_ := bx2_ (kb_ BK351) (kb_ BK352) th_ hb hbox hg; clear BK351 BK352 HB; obtain ⟨BK351, BK352, HB, a5, b3, b4, NB351_353, ag, NB352_353, ah⟩ := z_; clear hb hbox hg; obtain ⟨hnb7, hnc7, hnb8, hnc8⟩ := an4_ ae af NB351_353 ag; have ba := bb3_ BK351.out; obtain ⟨hnb10, hnc10⟩ := an2_ ah NB352_353; have b5 := bb3_ a5.out) | ((with_reducible refine gate_callee (f := 22) rfl ?_); refine goesL_ (some 9) rfl rfl Tryz.func22 (by kernel_rfl) rfl #[.slice a9 a6.length aa] rfl tq_0 ?_; (with_reducible refine (laws_toIntS.calls k _ _ a6 ap _ ?side1 ?side2 A2.out).mono ?_); (case side1 => exact Kd.C_below HR0_1.out th_); (case side2 => exact aq.out); rintro e bb ⟨v355, rfl, ho0, hb⟩; refine ⟨_, rfl, ?_⟩; have z_ := p_ (Kd.R_lower ho0 (below_size th_)) <| p_ (blk_below (g := an) (o := .cells #[.int .i64 a8, .slice a9 a6.length aa, .slice ab a7.length ac] 27 (0, 0)) tq_31 hb) <| p_ (blk_below (g := ai) (o := .cells #[.int .i64 0, .slice none 0 0, .slice none 0 0] 35 (0, 0)) tq_30 hb) <| p_ (blk_below (g := ao) (o := .cells #[.int .i64 a8, .slice none 0 0, .slice none 0 0] 35 (0, 0)) (by (with_reducible repeat (first | refine blk_drewN ?_ _ | refine blk_drew ?_ | refine blk_alloc ?_ _)); refine blk_put (cs := #[.int .i64 0, .slice none 0 0, .slice none 0 0]) ?_ 0 _ rfl; (with_reducible repeat (first | refine blk_drewN ?_ _ | refine blk_drew ?_ | refine blk_alloc ?_ _)); exact a5.out) hb) <| a_ (below_step th_ hb); clear BK351 BK352 a5 HB; obtain ⟨HO356, BK351, BK352, a5, HB⟩ := z_; (try clear hb); (try clear ho0); obtain ⟨Ao13, av, aw⟩ := Kd.R_slice HO356.out; subst aw; have b6 := bb3_ a5.out; have b7 := bb3_ BK351.out) | ((with_reducible refine gate_callee (f := 23) rfl ?_); refine goesL_ (some 13) rfl rfl Tryz.func23 (by kernel_rfl) rfl #[.slice ab a7.length ac] rfl tq_0 ?_; (with_reducible refine (laws_toInodeS.calls k _ _ a7 au _ ?side1 ?side2 A3.out).mono ?_); (case side1 => exact Kd.C_below HR0_2.out th_); (case side2 => exact ar.out); rintro e bc ⟨v358, rfl, ho0, hb⟩; refine ⟨_, rfl, ?_⟩; have z_ := p_ (Kd.R_below (by (with_reducible repeat (first | apply Kd.R_alloc | apply Kd.R_drewN | apply Kd.R_drew)); exact (Kd.R_mono (rR_ (Kd.R_types HO356.out a5.out (by decide))) (fun _ h_ => h_.1))) hb) <| p_ (Kd.S_lower ho0 (below_size th_)) <| p_ (blk_below (g := an) (o := .cells #[.int .i64 a8, .slice a9 a6.length aa, .slice ab a7.length ac] 27 (0, 0)) tq_31 hb) <| p_ (blk_below (g := ai) (o := .cells #[.int .i64 0, .slice none 0 0, .slice none 0 0] 35 (0, 0)) tq_30 hb) <| p_ (blk_below (g := ao) (o := .cells #[.int .i64 a8, .slice Ao13 ap.length av, .slice none 0 0] 35 (0, 0)) (by (with_reducible repeat (first | refine blk_drewN ?_ _ | refine blk_drew ?_ | refine blk_alloc ?_ _)); refine blk_put (cs := #[.int .i64 a8, .slice none 0 0, .slice none 0 0]) ?_ 1 _ rfl; (with_reducible repeat (first | refine blk_drewN ?_ _ | refine blk_drew ?_ | refine blk_alloc ?_ _)); exact a5.out) hb) <| a_ (below_step th_ hb); clear HO356 BK351 BK352 a5 HB; obtain ⟨HO356, HO359, BK351, BK352, a5, HB⟩ := z_; (try clear hb); (try clear hk); (try clear ho0); obtain ⟨Ao17, ax, ay⟩ := Kd.S_slice HO359.out; subst ay; have b8 := bb3_ a5.out; have b9 := bb3_ BK352.out))
 refine bodyPost_ret (results_cell_row rfl _ _ ai 35 #[.int .i64 a8, .slice Ao13 ap.length av, .slice Ao17 au.length ax] (0, 0) _ rfl tb_ Tryz.underlying35 rfl (by kernel_rfl)) rfl ?_
 exact ⟨_, _, tq_1, (by (with_reducible repeat (first | apply Kd.R_alloc | apply Kd.R_drewN | apply Kd.R_drew)); exact Kd.R_mono (rR_ (rR_ (rR_ (rR_ (Kd.R_types (Kd.R_types HO356.out a5.out (by decide)) BK352.out (by decide)) (fun _ hk => hk.1.2))))) (fun _ hk => trivial)), (by (with_reducible repeat (first | apply Kd.S_alloc | apply Kd.S_drewN | apply Kd.S_drew)); exact Kd.S_mono (rS_ (rS_ (rS_ (rS_ (Kd.S_types (Kd.S_types HO359.out a5.out (by decide)) BK352.out (by decide)) (fun _ hk => hk.1.2))))) (fun _ hk => trivial)), th_⟩

/-! ### impl_within: function 49 -/
def impl_within.f (a0 : Int) (a1 : Int) (a2 : Int) : Option (Bool) := if a0 ≥ a1 then (some (decide (a0 ≤ a2))) else (some false)
set_option maxHeartbeats 8000000 in
set_option maxRecDepth 100000 in
theorem impl_within.calls (a0 : Int) (a1 : Int) (a2 : Int) (r : Bool) (w : World) (h : impl_within.f a0 a1 a2 = some r) :
  Calls Tryz.prog 49 #[.int .i64 a0, .int .i64 a1, .int .i64 a2] w fun e w' => e = .returned (.bool r) ∧ Drawn0 w w' := by
 unfold impl_within.f at h
 have H := h
 clear h
 by_cases c4 : a0 ≥ a1
 ·rw [if_pos c4] at H
  have a5 := decide_eq_true c4
  clear c4
  obtain rfl := Option.some.inj H
  go_enter Tryz.func49, Tryz.ntmps49
  go_wp2
  go_ret
  exact ⟨tq_3, tq_7⟩
 rw [if_neg c4] at H
 have a5 := decide_eq_false c4
 clear c4
 obtain rfl := Option.some.inj H
 go_enter Tryz.func49, Tryz.ntmps49
 go_wp2
 go_ret
 exact ⟨tq_3, tq_7⟩

/-! ### impl_GeoOk: function 48 -/
def impl_GeoOk.f (a0_0 : Int) (a0_1 : Int) (a0_2 : Int) (a0_3 : Int) : Option (Bool) := (impl_within.f a0_0 1 3).bind fun t361 => (if t361 = true then ((impl_within.f a0_1 5 12).bind fun t362 => (if t362 = true then ((impl_within.f a0_2 2 6).bind fun t363 => (if t363 = true then ((impl_within.f a0_3 1 (wrap64 (a0_1 - 4))).bind fun t364 => (some t364)) else (some false))) else (some false))) else (some false))
set_option maxHeartbeats 8000000 in
set_option maxRecDepth 100000 in
theorem impl_GeoOk.calls (a5 : Int) (a7 : Int) (a8 : Int) (a9 : Int) (r : Bool) (w : World) (h : impl_GeoOk.f a5 a7 a8 a9 = some r) :
  Calls Tryz.prog 48 #[.agg #[.int .i64 a5, .int .i64 a7, .int .i64 a8, .int .i64 a9]] w fun e w' => e = .returned (.bool r) ∧ Below w.heap.size w w' := by
 have hu31 := Tryz.underlying31
 have HB := Aside0.mk (Below.refl w.heap.size w)
 unfold impl_GeoOk.f at h
 have H := h
 clear h
 obtain ⟨ae, A2, H⟩ := bd_ H
 by_cases c3 : ae = true
 rotate_left
 ·replace c3 := Bool.eq_false_iff.mpr c3
  subst c3
  rw [if_neg nf_] at H
  obtain rfl := Option.some.inj H
  go_enter Tryz.func48, Tryz.ntmps48
  go_wp2_with (first | ((with_reducible refine gate_dst (N := 1) rfl ?_); refine be_ 1 (cs := #[.int .i64 a5, .int .i64 a7, .int .i64 a8, .int .i64 a9]) 31 ?_; intro aa hg am hbox hb; have z_ := bx0_ th_ hb hbox hg; clear HB; obtain ⟨HB, a6, ab, ac⟩ := z_; clear hb hbox hg; have ai := bb4_ a6.out) | ((with_reducible refine gate_callee (f := 49) rfl ?_); refine goesL_ (some 5) rfl rfl Tryz.func49 (by kernel_rfl) rfl #[.int .i64 a5, .int .i64 1, .int .i64 3] rfl tq_0 ?_; (with_reducible refine (impl_within.calls a5 1 3 false _ A2.out).mono ?_); rintro e w' ⟨rfl, ⟨nd, rfl⟩⟩; refine ⟨_, rfl, ?_⟩))
  go_ret
  exact ⟨tq_1, th_⟩
 subst c3
 rw [if_pos rfl] at H
 obtain ⟨af, A4, H⟩ := bd_ H
 by_cases c5 : af = true
 rotate_left
 ·replace c5 := Bool.eq_false_iff.mpr c5
  subst c5
  rw [if_neg nf_] at H
  obtain rfl := Option.some.inj H
  go_enter Tryz.func48, Tryz.ntmps48
  go_wp2_with (first | ((with_reducible refine gate_dst (N := 1) rfl ?_); refine be_ 1 (cs := #[.int .i64 a5, .int .i64 a7, .int .i64 a8, .int .i64 a9]) 31 ?_; intro aa hg an hbox hb; have z_ := bx0_ th_ hb hbox hg; clear HB; obtain ⟨HB, a6, ab, ac⟩ := z_; clear hb hbox hg; have aj := bb4_ a6.out) | ((with_reducible refine gate_callee (f := 49) rfl ?_); refine goesL_ (some 5) rfl rfl Tryz.func49 (by kernel_rfl) rfl #[.int .i64 a5, .int .i64 1, .int .i64 3] rfl tq_0 ?_; (with_reducible refine (impl_within.calls a5 1 3 true _ A2.out).mono ?_); rintro e w' ⟨rfl, ⟨nd, rfl⟩⟩; refine ⟨_, rfl, ?_⟩) | (go_at_call 49; (with_reducible refine (impl_within.calls a7 5 12 false _ A4.out).mono ?_); rintro e w' ⟨rfl, ⟨nd, rfl⟩⟩))
  go_ret
  exact ⟨tq_1, th_⟩
 subst c5
 rw [if_pos rfl] at H
 obtain ⟨ag, A6, H⟩ := bd_ H
 by_cases c7 : ag = true
 rotate_left
 ·replace c7 := Bool.eq_false_iff.mpr c7
  subst c7
  rw [if_neg nf_] at H
  obtain rfl := Option.some.inj H
  go_enter Tryz.func48, Tryz.ntmps48
  go_wp2_with (first | ((with_reducible refine gate_dst (N := 1) rfl ?_); refine be_ 1 (cs := #[.int .i64 a5, .int .i64 a7, .int .i64 a8, .int .i64 a9]) 31 ?_; intro aa hg ao hbox hb; have z_ := bx0_ th_ hb hbox hg; clear HB; obtain ⟨HB, a6, ab, ac⟩ := z_; clear hb hbox hg; have ak := bb4_ a6.out) | ((with_reducible refine gate_callee (f := 49) rfl ?_); refine goesL_ (some 5) rfl rfl Tryz.func49 (by kernel_rfl) rfl #[.int .i64 a5, .int .i64 1, .int .i64 3] rfl tq_0 ?_; (with_reducible refine (impl_within.calls a5 1 3 true _ A2.out).mono ?_); rintro e w' ⟨rfl, ⟨nd, rfl⟩⟩; refine ⟨_, rfl, ?_⟩) | (go_at_call 49; (with_reducible refine (impl_within.calls a7 5 12 true _ A4.out).mono ?_); rintro e w' ⟨rfl, ⟨nd, rfl⟩⟩) | (go_at_call 49; (with_reducible refine (impl_within.calls a8 2 6 false _ A6.out).mono ?_); rintro e w' ⟨rfl, ⟨nd, rfl⟩⟩))
  go_ret
  exact ⟨tq_1, th_⟩
 subst c7
 rw [if_pos rfl] at H
 obtain ⟨ah, A8, H⟩ := bd_ H
 obtain rfl := Option.some.inj H
 go_enter Tryz.func48, Tryz.ntmps48
 go_wp2_with (first | ((with_reducible refine gate_dst (N := 1) rfl ?_); refine be_ 1 (cs := #[.int .i64 a5, .int .i64 a7, .int .i64 a8, .int .i64 a9]) 31 ?_; intro aa hg w9 hbox hb; have z_ := bx0_ th_ hb hbox hg; clear HB; obtain ⟨HB, a6, ab, ac⟩ := z_; clear hb hbox hg; have al := bb4_ a6.out) | ((with_reducible refine gate_callee (f := 49) rfl ?_); refine goesL_ (some 5) rfl rfl Tryz.func49 (by kernel_rfl) rfl #[.int .i64 a5, .int .i64 1, .int .i64 3] rfl tq_0 ?_; (with_reducible refine (impl_within.calls a5 1 3 true _ A2.out).mono ?_); rintro e w' ⟨rfl, ⟨nd, rfl⟩⟩; refine ⟨_, rfl, ?_⟩) | (go_at_call 49; (with_reducible refine (impl_within.calls a7 5 12 true _ A4.out).mono ?_); rintro e w' ⟨rfl, ⟨nd, rfl⟩⟩) | (go_at_call 49; (with_reducible refine (impl_within.calls a8 2 6 true _ A6.out).mono ?_); rintro e w' ⟨rfl, ⟨nd, rfl⟩⟩) | (go_at_call 49; (with_reducible refine (impl_within.calls a9 1 (wrap64 (a7 - 4)) ah _ A8.out).mono ?_); rintro e w' ⟨rfl, ⟨nd, rfl⟩⟩))
 go_ret
 exact ⟨tq_1, th_⟩

/-! ### impl_StatesOk_1: function 74 -/
def impl_StatesOk_1.f (a0 : Int) : Option (Bool) := (impl_within.f a0 0 2).bind fun t365 => (some (!t365))
set_option maxHeartbeats 8000000 in
set_option maxRecDepth 100000 in
theorem impl_StatesOk_1.calls (a0 : Int) (r : Bool) (w : World) (h : impl_StatesOk_1.f a0 = some r) :
  Calls Tryz.prog 74 #[.int .i64 a0] w fun e w' => e = .returned (.bool r) ∧ Drawn0 w w' := by
 unfold impl_StatesOk_1.f at h
 have H := h
 clear h
 obtain ⟨a5, A2, H⟩ := bd_ H
 obtain rfl := Option.some.inj H
 go_enter Tryz.func74, Tryz.ntmps74
 go_wp2_with (first | ((with_reducible refine gate_callee (f := 49) rfl ?_); refine goesL_ (some 4) rfl rfl Tryz.func49 (by kernel_rfl) rfl #[.int .i64 a0, .int .i64 0, .int .i64 2] rfl tq_0 ?_; (with_reducible refine (impl_within.calls a0 0 2 a5 _ A2.out).mono ?_); rintro e w' ⟨rfl, ⟨nd, rfl⟩⟩; refine ⟨_, rfl, ?_⟩))
 go_ret
 exact ⟨tq_3, tq_7⟩

/-! ### slices_IndexFunc_int: function 96 -/
def slices_IndexFunc_int.l0 : Nat → List Int → Int → Int → Option (Int)
 | 0, _, _, _ => none
 | k + 1, x0, x7, x8 => if x8 < x7 then (if 0 ≤ x8 then (if x8 < (x0.length : Int) then ((impl_StatesOk_1.f (rd x0 x8)).bind fun t367 => (if t367 = true then (some x8) else (slices_IndexFunc_int.l0 k x0 x7 (wrap64 (x8 + 1))))) else (none)) else (none)) else (some (-1))
def slices_IndexFunc_int.f (k : Nat) (l0 : List Int) (a1 : Unit) : Option (Int) := slices_IndexFunc_int.l0 k l0 (l0.length : Int) 0
set_option maxHeartbeats 8000000 in
set_option maxRecDepth 100000 in
theorem slices_IndexFunc_int.calls (k : Nat) (A0 : Option Addr) (c0 : Nat) (l0 : List Int) (a1 : Unit) (r : Int) (w : World) (hr0 : Kd.C (Kd.int .i64) w A0 l0.length l0) (hc0 : l0.length ≤ c0) (h : slices_IndexFunc_int.f k l0 a1 = some r) :
  Calls Tryz.prog 96 #[.slice A0 l0.length c0, .func (.func 74) #[] #[]] w fun e w' => e = .returned (.int .i64 r) ∧ Drawn0 w w' := by
 have HR0 := Aside0.mk hr0
 have ae := Aside0.mk hc0
 clear hr0 hc0
 unfold slices_IndexFunc_int.f at h
 have H := h
 clear h
 have H' := Aside0.mk H
 clear H
 go_enter Tryz.func96, Tryz.ntmps96
 go_wp2
 go_loopg [8] k (fun kq v8 w' => ∃ (x8_1 : Int), v8 = .int .i64 x8_1 ∧ Aside0 (slices_IndexFunc_int.l0 kq l0 (l0.length : Int) x8_1 = some r) ∧ Aside0 (kq ≤ k) ∧ Drawn0 w w')
 case atStart => exact ⟨(0), tq_3, H', ⟨Nat.le_refl _⟩, tq_7⟩
 case round =>
 clear H'
 try clear p2
 obtain ⟨x8_1, rfl, HA, HK1, ⟨m1, rfl⟩⟩ := hrel
 cases gk with
 | zero => exact absurd HA.out (by simp [slices_IndexFunc_int.l0])
 | succ k1 =>
 have H := HA.out
 clear HA
 simp only [slices_IndexFunc_int.l0] at H
 by_cases c3 : x8_1 < (l0.length : Int)
 rotate_left
 ·rw [if_neg c3] at H
  have a7 := decide_eq_false c3
  clear c3
  obtain rfl := Option.some.inj H
  go_wp2
  go_ret
  exact ⟨tq_3, tq_7⟩
 rw [if_pos c3] at H
 have a7 := decide_eq_true c3
 clear c3
 obtain ⟨c4, H⟩ := fc_ H
 have ab := decide_eq_true c4
 clear c4
 obtain ⟨c5, H⟩ := fc_ H
 have ac := decide_eq_true c5
 clear c5
 obtain ⟨a6, A6, H⟩ := bd_ H
 have a9 := Aside0.mk H
 clear H
 have p366 : 0 ≤ (x8_1 : Int) := of_decide_eq_true tq_2
 have q366 : x8_1 < (l0.length : Int) := of_decide_eq_true tq_2
 obtain ⟨aa, a8, a5⟩ := Kd.at_int HR0.out x8_1 p366 q366
 cases a8
 replace p366 := eq_true p366
 replace q366 := eq_true q366
 go_upto_if 16 with (first | (go_at_call 74; (with_reducible refine (impl_StatesOk_1.calls (rd l0 x8_1) a6 _ A6.out).mono ?_); rintro e w' ⟨rfl, ⟨nd, rfl⟩⟩))
 (try simp only [Act.put, List.setIfInBounds_toArray, List.set_cons_zero, List.set_cons_succ])
 (try clear a5)
 have H := a9.out
 clear a9
 by_cases c8 : a6 = true
 ·subst c8
  rw [if_pos rfl] at H
  obtain rfl := Option.some.inj H
  go_wp2
  go_ret
  exact ⟨tq_3, tq_7⟩
 replace c8 := Bool.eq_false_iff.mpr c8
 subst c8
 rw [if_neg nf_] at H
 have H' := Aside0.mk H
 clear H
 go_wp2
 go_roundg k1
 case measure => have := HK1.out; omega
 case rel => exact ⟨(wrap64 (x8_1 + 1)), tq_3, H', ⟨tq_15⟩, tq_7⟩

/-! ### slices_ContainsFunc_int: function 73 -/
def slices_ContainsFunc_int.f (k : Nat) (l0 : List Int) (a1 : Unit) : Option (Bool) := (slices_IndexFunc_int.f k l0 a1).bind fun t368 => (some (decide (t368 ≥ 0)))
set_option maxHeartbeats 8000000 in
set_option maxRecDepth 100000 in
theorem slices_ContainsFunc_int.calls (k : Nat) (A0 : Option Addr) (c0 : Nat) (l0 : List Int) (a1 : Unit) (r : Bool) (w : World) (hr0 : Kd.C (Kd.int .i64) w A0 l0.length l0) (hc0 : l0.length ≤ c0) (h : slices_ContainsFunc_int.f k l0 a1 = some r) :
  Calls Tryz.prog 73 #[.slice A0 l0.length c0, .func (.func 74) #[] #[]] w fun e w' => e = .returned (.bool r) ∧ Drawn0 w w' := by
 have HR0 := Aside0.mk hr0
 have a6 := Aside0.mk hc0
 clear hr0 hc0
 unfold slices_ContainsFunc_int.f at h
 have H := h
 clear h
 obtain ⟨a5, A3, H⟩ := bd_ H
 obtain rfl := Option.some.inj H
 go_enter Tryz.func73, Tryz.ntmps73
 go_wp2_with (first | ((with_reducible refine gate_callee (f := 96) rfl ?_); refine goesL_ (some 7) rfl rfl Tryz.func96 (by kernel_rfl) rfl #[.slice A0 l0.length c0, .func (.func 74) #[] #[]] rfl tq_0 ?_; (with_reducible refine (slices_IndexFunc_int.calls k _ _ l0 a1 a5 _ ?side1 ?side2 A3.out).mono ?_); (case side1 => exact tq_19); (case side2 => exact a6.out); rintro e w' ⟨rfl, ⟨nd, rfl⟩⟩; refine ⟨_, rfl, ?_⟩))
 go_ret
 exact ⟨tq_3, tq_7⟩

/-! ### impl_StatesOk: function 50 -/
def impl_StatesOk.f (k : Nat) (l0 : List Int) (a1 : Int) : Option (Bool) := (impl_within.f a1 1 12).bind fun t369 => (if t369 = true then (if (l0.length : Int) = a1 then ((slices_ContainsFunc_int.f k l0 ()).bind fun t370 => (some (!t370))) else (some false)) else (some false))
set_option maxHeartbeats 8000000 in
set_option maxRecDepth 100000 in
theorem impl_StatesOk.calls (k : Nat) (A0 : Option Addr) (c0 : Nat) (l0 : List Int) (a1 : Int) (r : Bool) (w : World) (hr0 : Kd.C (Kd.int .i64) w A0 l0.length l0) (hc0 : l0.length ≤ c0) (h : impl_StatesOk.f k l0 a1 = some r) :
  Calls Tryz.prog 50 #[.slice A0 l0.length c0, .int .i64 a1] w fun e w' => e = .returned (.bool r) ∧ Drawn0 w w' := by
 have HR0 := Aside0.mk hr0
 have a9 := Aside0.mk hc0
 clear hr0 hc0
 unfold impl_StatesOk.f at h
 have H := h
 clear h
 obtain ⟨a5, A3, H⟩ := bd_ H
 by_cases c4 : a5 = true
 rotate_left
 ·replace c4 := Bool.eq_false_iff.mpr c4
  subst c4
  rw [if_neg nf_] at H
  obtain rfl := Option.some.inj H
  go_enter Tryz.func50, Tryz.ntmps50
  go_wp2_with (first | ((with_reducible refine gate_callee (f := 49) rfl ?_); refine goesL_ (some 6) rfl rfl Tryz.func49 (by kernel_rfl) rfl #[.int .i64 a1, .int .i64 1, .int .i64 12] rfl tq_0 ?_; (with_reducible refine (impl_within.calls a1 1 12 false _ A3.out).mono ?_); rintro e w' ⟨rfl, ⟨nd, rfl⟩⟩; refine ⟨_, rfl, ?_⟩))
  go_ret
  exact ⟨tq_3, tq_7⟩
 subst c4
 rw [if_pos rfl] at H
 by_cases c5 : (l0.length : Int) = a1
 rotate_left
 ·rw [if_neg c5] at H
  have a6 := beq_eq_false_iff_ne.mpr c5
  have a7 := bne_iff_ne.mpr c5
  obtain rfl := Option.some.inj H
  go_enter Tryz.func50, Tryz.ntmps50
  go_wp2_with (first | ((with_reducible refine gate_callee (f := 49) rfl ?_); refine goesL_ (some 6) rfl rfl Tryz.func49 (by kernel_rfl) rfl #[.int .i64 a1, .int .i64 1, .int .i64 12] rfl tq_0 ?_; (with_reducible refine (impl_within.calls a1 1 12 true _ A3.out).mono ?_); rintro e w' ⟨rfl, ⟨nd, rfl⟩⟩; refine ⟨_, rfl, ?_⟩))
  go_ret
  exact ⟨tq_3, tq_7⟩
 rw [if_pos c5] at H
 have a6 := beq_iff_eq.mpr c5
 have a7 := bne_eq_false_iff_eq.mpr c5
 clear c5
 obtain ⟨a8, A6, H⟩ := bd_ H
 obtain rfl := Option.some.inj H
 go_enter Tryz.func50, Tryz.ntmps50
 go_wp2_with (first | ((with_reducible refine gate_callee (f := 49) rfl ?_); refine goesL_ (some 6) rfl rfl Tryz.func49 (by kernel_rfl) rfl #[.int .i64 a1, .int .i64 1, .int .i64 12] rfl tq_0 ?_; (with_reducible refine (impl_within.calls a1 1 12 true _ A3.out).mono ?_); rintro e w' ⟨rfl, ⟨nd, rfl⟩⟩; refine ⟨_, rfl, ?_⟩) | (go_at_call 73; (with_reducible refine (slices_ContainsFunc_int.calls k _ _ l0 () a8 _ ?side1 ?side2 A6.out).mono ?_); (case side1 => exact tq_19); (case side2 => exact a9.out); rintro e w' ⟨rfl, ⟨nd, rfl⟩⟩))
 go_ret
 exact ⟨tq_3, tq_7⟩

end Go.Proofs.YtleoknilacjakaaGreat.PFnExactPartWrites
