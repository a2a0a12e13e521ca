/- Contracts of Go functions: each call returns what the Lean function beside it computes. Conditions: as each theorem states them. -/
import Derived.Test.YtleoknilacjakaaGreatPkFnExactChanged
import Derived.Test.YtleoknilacjakaaGreatPFnExactChangedx1
import Derived.Test.YtleoknilacjakaaGreatPFnExactChangedx2
namespace Go.Proofs.YtleoknilacjakaaGreat.PFnExactChanged
open Go.RowKit Go.Proofs.YtleoknilacjakaaGreatW.PrintWords Go.Proofs.YtleoknilacjakaaGreatW.PrintLast Go.Proofs.YtleoknilacjakaaGreatW.PrintMore
attribute [local go_sem] max2_int min2_int max_two min_two max_three min_three max_four min_four   -- for this text's walks alone
set_option linter.unusedVariables false
set_option linter.unusedSimpArgs false

/-! ### laws_toRecS: function 71 -/
def laws_toRecS.l0 : Nat → List (S107) → List (S89) → Int → Option ((List (S89)))
 | 0, _, _, _ => none
 | k + 1, x0, x3, x4 => if x4 < (x0.length : Int) then (if 0 ≤ x4 then ((laws_toRec.f ((rd_T107 x0 x4).f0) ((rd_T107 x0 x4).f1) ((rd_T107 x0 x4).f2)).bind fun a5 => (if x4 < (x3.length : Int) then (laws_toRecS.l0 k x0 (x3.set (x4 : Int).toNat (⟨a5.1, a5.2.1, a5.2.2⟩ : S89)) (wrap64 (x4 + 1))) else (none))) else (none)) else (some x3)
def laws_toRecS.f (k : Nat) (l0 : List (S107)) : Option ((List (S89))) := if 0 ≤ (l0.length : Int) then (if ((l0.length : Int) : Int).toNat ≤ 8796093022208 then (laws_toRecS.l0 k l0 (List.replicate ((l0.length : Int) : Int).toNat z89) 0) else (none)) else (none)
set_option maxHeartbeats 8000000 in
set_option maxRecDepth 100000 in
theorem laws_toRecS.calls (k : Nat) (A0 : Option Addr) (c0 : Nat) (l0 : List (S107)) (r : List (S89)) (w : World) (hr0 : Kd.C k107 w A0 l0.length l0) (hc0 : l0.length ≤ c0) (h : laws_toRecS.f k l0 = some r) :
  Calls Tryz.prog 71 #[.slice A0 l0.length c0] w fun e w' => ∃ v0_ : Value, e = .returned (v0_) ∧ Kd.R k89 89 w' w.heap.size (fun _ => True) v0_ r ∧ Below w.heap.size w w' := by
 have hu107 := Tryz.underlying107
 have hu89 := Tryz.underlying89
 have HR0 := Aside0.mk hr0
 have br := Aside0.mk hc0
 clear hr0 hc0
 have HB := Aside0.mk (Below.refl w.heap.size w)
 unfold laws_toRecS.f at h
 have H := h
 clear h
 obtain ⟨c2, H⟩ := fc_ H
 have b5 := eq_true c2
 have b6 := decide_eq_true c2
 clear c2
 obtain ⟨c3, H⟩ := fc_ H
 have b7 := eq_true c3
 have b8 := decide_eq_true c3
 clear c3
 obtain ⟨aw, hy126⟩ : ∃ y_ : List (S89), y_ = (List.replicate ((l0.length : Int) : Int).toNat z89) := ⟨_, rfl⟩
 replace H : (laws_toRecS.l0 k l0 aw 0) = some r := by first | (rw [hy126]; with_reducible exact H) | (have H2_ := (Option.bind_some _ _).symm.trans H; rw [hy126]; with_reducible exact H2_) | (have H2_ := (Option.bind_some _ _).symm.trans H; with_reducible exact H2_) | with_reducible exact H | (rw [hy126]; exact H) | exact H
 have Ny126 := Aside0.mk hy126
 clear hy126
 have H' := Aside0.mk H
 clear H
 go_enter Tryz.func71, Tryz.ntmps71
 go_wp2_with (first | ((with_reducible refine gate_dst (N := 7) rfl ?_); refine Kd.R_make k89 _ 89 rfl (N := 7) rfl 66 _ _ rfl (l0.length : Int) rfl rfl Tryz.underlying66 (.agg #[(.int .i64 0), (.int .i64 0), (.string ⟨#[]⟩)]) 32 info89 rfl (by decide) (by omega) z89 (ok := fun _ => True) (okp := fun _ => True) (k89_mkM _ _ _ z89 ) (fun _ hk => hk) trivial (of_decide_eq_true tq_2) (Nat.le_trans (Nat.mul_le_mul_right _ (of_decide_eq_true tq_2 : (l0.length : Int).toNat ≤ 8796093022208)) (by omega)) (Below.refl _ _) (Nat.le_refl _) ?_; intro v127 w4 ho5 hb hg_ hnew_; clear hg_ hnew_; (first | rw [← Ny126.out] at ho5 | (simp only [Int.reduceToNat] at ho5; rw [← Ny126.out] at ho5)); have z_ := p_ (Kd.R_lower ho5 (below_size th_)) <| a_ (below_step th_ hb); clear HB; obtain ⟨HO128, HB⟩ := z_; clear hb ho5))
 go_loopg [4] k (fun kq v4 w' => ∃ (a6 : List (S89)) (a5 : Int), v4 = .int .i64 a5 ∧ Aside0 (laws_toRecS.l0 kq l0 a6 a5 = some r) ∧ Aside0 (kq ≤ k) ∧ Aside0 (Kd.R k89 89 w' w.heap.size (fun _ => True) v127 a6) ∧ Aside0 (Below w.heap.size w w'))
 case atStart => exact ⟨(aw), (0), tq_3, H', ⟨Nat.le_refl _⟩, ⟨(raR_ HO128)⟩, ⟨th_⟩⟩
 case round =>
 clear H'
 try clear c2; try clear b5; try clear b6; try clear p2; try clear c3; try clear b7; try clear b8
 obtain ⟨a6, a5, rfl, HA, HK1, a7, HB⟩ := hrel
 cases gk with
 | zero => exact absurd HA.out (by simp [laws_toRecS.l0])
 | succ k1 =>
 have H := HA.out
 clear HA
 simp only [laws_toRecS.l0] at H
 by_cases c6 : a5 < (l0.length : Int)
 rotate_left
 ·rw [if_neg c6] at H
  have b9 := decide_eq_false c6
  clear c6
  obtain rfl := Option.some.inj H
  go_wp2
  go_ret
  exact ⟨_, tq_1, (raR_ a7), th_⟩
 rw [if_pos c6] at H
 have b9 := decide_eq_true c6
 clear c6
 obtain ⟨c7, H⟩ := fc_ H
 have bl := decide_eq_true c7
 clear c7
 obtain ⟨⟨ah, ai, aj⟩, A8, H⟩ := bd_ H
 try dsimp -simprocs only at H
 obtain ⟨c9, H⟩ := fc_ H
 have bm := decide_eq_true c9
 clear c9
 obtain ⟨am, hy133⟩ : ∃ y_ : List (S89), y_ = (a6.set (a5 : Int).toNat (⟨ah, ai, aj⟩ : S89)) := ⟨_, rfl⟩
 replace H : (laws_toRecS.l0 k1 l0 am (wrap64 (a5 + 1))) = some r := by first | (rw [hy133]; with_reducible exact H) | (have H2_ := (Option.bind_some _ _).symm.trans H; rw [hy133]; with_reducible exact H2_) | (have H2_ := (Option.bind_some _ _).symm.trans H; with_reducible exact H2_) | with_reducible exact H | (rw [hy133]; exact H) | exact H
 have Ny133 := Aside0.mk hy133
 clear hy133
 have H' := Aside0.mk H
 clear H
 have p129 : 0 ≤ (a5 : Int) := of_decide_eq_true tq_2
 have q129 : a5 < (l0.length : Int) := of_decide_eq_true tq_2
 obtain ⟨bj, ba, aa, ab, ac⟩ := at_T107 HR0.out a5 p129 q129
 cases ba
 replace aa := hx_ HB.out aa
 replace ab := hx_ HB.out ab
 replace ac := hx_ HB.out ac
 replace p129 := eq_true p129
 replace q129 := eq_true q129
 go_wp2_with (first | ((with_reducible refine gate_callee (f := 94) rfl ?_); refine goesL_ (some 20) rfl rfl Tryz.func94 (by kernel_rfl) rfl #[.agg #[.int .i64 ((rd_T107 l0 a5).f0), .int .i64 ((rd_T107 l0 a5).f1), .string ((rd_T107 l0 a5).f2)]] rfl tq_0 ?_; (with_reducible refine (laws_toRec.calls ((rd_T107 l0 a5).f0) ((rd_T107 l0 a5).f1) ((rd_T107 l0 a5).f2) ah ai aj _ A8.out).mono ?_); rintro e ak ⟨rfl, hb⟩; refine ⟨_, rfl, ?_⟩; have z_ := p_ (Kd.R_below (raR_ a7) hb) <| a_ (below_step th_ hb); clear a7 HB; obtain ⟨a7, HB⟩ := z_; (try clear hb); have p10 : 0 ≤ (a5 : Int) := of_decide_eq_true tq_2; have q10 : (a5 : Int) < ((a6.length : Int) : Int) := of_decide_eq_true tq_2; obtain ⟨a8, ax, ay, az, bb, bn, b0⟩ := Kd.R_form a7.out (by omega); (first | cases ay | (injection ay with ea_ en_ ec_; (first | subst ea_ | (injection ea_ with ea_; subst ea_)); subst ec_; clear en_)); have an := Aside0.mk az; have bo := Aside0.mk b0; clear az bb b0; obtain ⟨bp, b1, b2, ae, af⟩ := Kd.R_elem a7.out z89 (a5 : Int) p10 q10; obtain rfl := k89_openM b2; have bc : ak.cell? ⟨a8, (a5 : Int).toNat * 3, none⟩ = some (.int .i64 ((rd_T89 a6 a5).f0)) := ae 0 _ rfl; have bd : ak.cell? ⟨a8, (a5 : Int).toNat * 3 + 1, none⟩ = some (.int .i64 ((rd_T89 a6 a5).f1)) := ae 1 _ rfl; have be : ak.cell? ⟨a8, (a5 : Int).toNat * 3 + 2, none⟩ = some (.string ((rd_T89 a6 a5).f2)) := ae 2 _ rfl; have bf : ak.frozen? ⟨a8, (a5 : Int).toNat * 3, none⟩ = false := af 0; have bg : ak.frozen? ⟨a8, (a5 : Int).toNat * 3 + 1, none⟩ = false := af 1; have bh : ak.frozen? ⟨a8, (a5 : Int).toNat * 3 + 2, none⟩ = false := af 2; clear b1 ae af b2; replace p10 := eq_true p10; replace q10 := eq_true q10; have b3 := Aside0.mk (show Kd.R k89 89 ak w.heap.size (fun _ => True) (.slice (some ⟨a8, 0, none⟩) a6.length ax) a6 from (raR_ a7)); obtain ⟨bq, al, b4, a9, ag⟩ := Kd.R_elem b3.out z89 (a5 : Int) (of_decide_eq_true tq_2) (by have h_ : (a5 : Int) < ((a6.length : Int) : Int) := of_decide_eq_true tq_2; first | exact h_ | (have e_ := (Kd.R_reads' a7.out).1; omega) | simpa using h_); obtain rfl := k89_openM b4; have HP12 := Kd.R_seg b3.out (a5 : Int) (of_decide_eq_true tq_2) (by have h_ : (a5 : Int) < ((a6.length : Int) : Int) := of_decide_eq_true tq_2; first | exact h_ | (have e_ := (Kd.R_reads' a7.out).1; omega) | simpa using h_) (seg := [.int .i64 ah, .int .i64 ai, .string aj]) (j := 0) al a9 (show 3 ≤ 3 from by decide) (x' := (⟨ah, ai, aj⟩ : S89)) (k89_mkM _ _ _ (⟨ah, ai, aj⟩ : S89) ) (fun _ hk => hk); have ao := a9 0 _ rfl; (try simp only [show (k89).sz = 3 from rfl, Nat.mul_one, Nat.add_zero] at ao); have ap := ag 0; (try simp only [show (k89).sz = 3 from rfl, Nat.mul_one, Nat.add_zero] at ap); have aq := a9 1 _ rfl; (try simp only [show (k89).sz = 3 from rfl, Nat.mul_one, Nat.add_zero] at aq); have ar := ag 1; (try simp only [show (k89).sz = 3 from rfl, Nat.mul_one, Nat.add_zero] at ar); have au := a9 2 _ rfl; (try simp only [show (k89).sz = 3 from rfl, Nat.mul_one, Nat.add_zero] at au); have av := ag 2; (try simp only [show (k89).sz = 3 from rfl, Nat.mul_one, Nat.add_zero] at av); clear al a9 ag b4) | ((with_reducible refine gate_store (t := 89) (p := 21) rfl ?_); refine store_event (t := 89) (p := 21) (v := ?vo_w13) (w1 := (((ak.setCell ⟨a8, (a5 : Int).toNat * 3, none⟩ (.int .i64 ah)).setCell ⟨a8, (a5 : Int).toNat * 3 + 1, none⟩ (.int .i64 ai)).setCell ⟨a8, (a5 : Int).toNat * 3 + 2, none⟩ (.string aj))) ?hg ?ho ?hn ?hr ?_; (case ho => rfl); (case hg => rfl); (case hn => rfl); (case hr => first | (go_simp; done) | (go_simp; rfl)); intro bi hw; have hg : ak.grownBy bi (some a8) := (by rw [hw]; exact HP12.2); have hp_ : Kd.R k89 89 bi w.heap.size (fun _ => True) (.slice (some ⟨a8, 0, none⟩) a6.length ax) am := (by rw [hw, Ny133.out]; exact HP12.1); clear HP12; have z_ := p_ (hp_) <| a_ ((by rw [hw]; exact below_set (below_set (below_set (HB.out) an.out) an.out) an.out : Below w.heap.size w bi)); clear a7 HB; obtain ⟨a7, HB⟩ := z_; clear hg hw hp_))
 go_roundg k1
 case measure => have := HK1.out; omega
 case rel => exact ⟨(am), (wrap64 (a5 + 1)), tq_3, H', ⟨tq_22⟩, ⟨(raR_ a7)⟩, ⟨th_⟩⟩

/-! ### laws_toEntry: function 95 -/
def laws_toEntry.f (a5 : Int) (a6 : ByteArray) : Option (Int × ByteArray) := some (a5, a6)
set_option maxHeartbeats 8000000 in
set_option maxRecDepth 100000 in
theorem laws_toEntry.calls (ae : Int) (af : ByteArray) (r1 : Int) (r2 : ByteArray) (w : World) (h : laws_toEntry.f ae af = some (r1, r2)) :
  Calls Tryz.prog 95 #[.agg #[.int .i64 ae, .string af]] w fun e w' => e = .returned (.agg #[.int .i64 r1, .string r2]) ∧ Below w.heap.size w w' := by
 have hu109 := Tryz.underlying109
 have hu72 := Tryz.underlying72
 have HB := Aside0.mk (Below.refl w.heap.size w)
 unfold laws_toEntry.f at h
 have H := h
 clear h
 simp only [Option.some.injEq, Prod.mk.injEq] at H
 obtain ⟨rfl, rfl⟩ := H
 go_enter Tryz.func95, Tryz.ntmps95
 go_wp2_with (first | ((with_reducible refine gate_dst (N := 1) rfl ?_); refine be_ 1 (cs := #[.int .i64 ae, .string af]) 109 ?_; intro ak hg w2 hbox hb; have z_ := bx0_ th_ hb hbox hg; clear HB; obtain ⟨HB, a5, al, am⟩ := z_; clear hb hbox hg) | ((with_reducible refine gate_dst (N := 2) rfl ?_); refine be_ 2 (cs := #[.int .i64 0, .string (⟨#[]⟩ : ByteArray)]) 72 ?_; intro ag hg w3 hbox hb; have z_ := bx1_ (kb_ a5) th_ hb hbox hg; clear a5 HB; obtain ⟨a5, HB, a6, an, ao, a7, a8⟩ := z_; clear hb hbox hg) | ((with_reducible refine gate_dst (N := 3) rfl ?_); refine be_ 3 (cs := #[.int .i64 0, .string (⟨#[]⟩ : ByteArray)]) 72 ?_; intro ap hg w4 hbox hb; have z_ := bx2_ (kb_ a5) (kb_ a6) th_ hb hbox hg; clear a5 a6 HB; obtain ⟨a5, a6, HB, ah, aq, ar, a9, aa, ab, ac⟩ := z_; clear hb hbox hg; obtain ⟨ai, aj, hnb6, hnc6⟩ := an4_ a7 a8 a9 aa; have av := bb2_ a5.out; obtain ⟨hnb8, hnc8⟩ := an2_ ac ab; have aw := bb2_ ah.out; have au := bb2_ a6.out))
 refine bodyPost_ret (results_cell_row rfl _ _ ag 72 #[.int .i64 ae, .string af] (0, 0) _ rfl tb_ Tryz.underlying72 rfl (by kernel_rfl)) rfl ?_
 exact ⟨tq_1, th_⟩

/-! ### laws_toEntryS: function 72 -/
def laws_toEntryS.l0 : Nat → List (S109) → List (S72) → Int → Option ((List (S72)))
 | 0, _, _, _ => none
 | k + 1, x0, x3, x4 => if x4 < (x0.length : Int) then (if 0 ≤ x4 then ((laws_toEntry.f ((rd_T109 x0 x4).f0) ((rd_T109 x0 x4).f1)).bind fun a5 => (if x4 < (x3.length : Int) then (laws_toEntryS.l0 k x0 (x3.set (x4 : Int).toNat (⟨a5.1, a5.2⟩ : S72)) (wrap64 (x4 + 1))) else (none))) else (none)) else (some x3)
def laws_toEntryS.f (k : Nat) (l0 : List (S109)) : Option ((List (S72))) := if 0 ≤ (l0.length : Int) then (if ((l0.length : Int) : Int).toNat ≤ 11728124029610 then (laws_toEntryS.l0 k l0 (List.replicate ((l0.length : Int) : Int).toNat z72) 0) else (none)) else (none)
set_option maxHeartbeats 8000000 in
set_option maxRecDepth 100000 in
theorem laws_toEntryS.calls (k : Nat) (A0 : Option Addr) (c0 : Nat) (l0 : List (S109)) (r : List (S72)) (w : World) (hr0 : Kd.C k109 w A0 l0.length l0) (hc0 : l0.length ≤ c0) (h : laws_toEntryS.f k l0 = some r) :
  Calls Tryz.prog 72 #[.slice A0 l0.length c0] w fun e w' => ∃ v0_ : Value, e = .returned (v0_) ∧ Kd.R k72 72 w' w.heap.size (fun _ => True) v0_ r ∧ Below w.heap.size w w' := by
 have hu109 := Tryz.underlying109
 have hu72 := Tryz.underlying72
 have HR0 := Aside0.mk hr0
 have bl := Aside0.mk hc0
 clear hr0 hc0
 have HB := Aside0.mk (Below.refl w.heap.size w)
 unfold laws_toEntryS.f at h
 have H := h
 clear h
 obtain ⟨c2, H⟩ := fc_ H
 have b1 := eq_true c2
 have b2 := decide_eq_true c2
 clear c2
 obtain ⟨c3, H⟩ := fc_ H
 have b3 := eq_true c3
 have b4 := decide_eq_true c3
 clear c3
 obtain ⟨ap, hy137⟩ : ∃ y_ : List (S72), y_ = (List.replicate ((l0.length : Int) : Int).toNat z72) := ⟨_, rfl⟩
 replace H : (laws_toEntryS.l0 k l0 ap 0) = some r := by first | (rw [hy137]; with_reducible exact H) | (have H2_ := (Option.bind_some _ _).symm.trans H; rw [hy137]; with_reducible exact H2_) | (have H2_ := (Option.bind_some _ _).symm.trans H; with_reducible exact H2_) | with_reducible exact H | (rw [hy137]; exact H) | exact H
 have Ny137 := Aside0.mk hy137
 clear hy137
 have H' := Aside0.mk H
 clear H
 go_enter Tryz.func72, Tryz.ntmps72
 go_wp2_with (first | ((with_reducible refine gate_dst (N := 7) rfl ?_); refine Kd.R_make k72 _ 72 rfl (N := 7) rfl 67 _ _ rfl (l0.length : Int) rfl rfl Tryz.underlying67 (.agg #[(.int .i64 0), (.string ⟨#[]⟩)]) 24 info72 rfl (by decide) (by omega) z72 (ok := fun _ => True) (okp := fun _ => True) (k72_mkM _ _ _ z72 ) (fun _ hk => hk) trivial (of_decide_eq_true tq_2) (Nat.le_trans (Nat.mul_le_mul_right _ (of_decide_eq_true tq_2 : (l0.length : Int).toNat ≤ 11728124029610)) (by omega)) (Below.refl _ _) (Nat.le_refl _) ?_; intro v138 w4 ho5 hb hg_ hnew_; clear hg_ hnew_; (first | rw [← Ny137.out] at ho5 | (simp only [Int.reduceToNat] at ho5; rw [← Ny137.out] at ho5)); have z_ := p_ (Kd.R_lower ho5 (below_size th_)) <| a_ (below_step th_ hb); clear HB; obtain ⟨HO139, HB⟩ := z_; clear hb ho5))
 go_loopg [4] k (fun kq v4 w' => ∃ (a6 : List (S72)) (a5 : Int), v4 = .int .i64 a5 ∧ Aside0 (laws_toEntryS.l0 kq l0 a6 a5 = some r) ∧ Aside0 (kq ≤ k) ∧ Aside0 (Kd.R k72 72 w' w.heap.size (fun _ => True) v138 a6) ∧ Aside0 (Below w.heap.size w w'))
 case atStart => exact ⟨(ap), (0), tq_3, H', ⟨Nat.le_refl _⟩, ⟨(raR_ HO139)⟩, ⟨th_⟩⟩
 case round =>
 clear H'
 try clear c2; try clear b1; try clear b2; try clear p2; try clear c3; try clear b3; try clear b4
 obtain ⟨a6, a5, rfl, HA, HK1, a7, HB⟩ := hrel
 cases gk with
 | zero => exact absurd HA.out (by simp [laws_toEntryS.l0])
 | succ k1 =>
 have H := HA.out
 clear HA
 simp only [laws_toEntryS.l0] at H
 by_cases c6 : a5 < (l0.length : Int)
 rotate_left
 ·rw [if_neg c6] at H
  have b5 := decide_eq_false c6
  clear c6
  obtain rfl := Option.some.inj H
  go_wp2
  go_ret
  exact ⟨_, tq_1, (raR_ a7), th_⟩
 rw [if_pos c6] at H
 have b5 := decide_eq_true c6
 clear c6
 obtain ⟨c7, H⟩ := fc_ H
 have be := decide_eq_true c7
 clear c7
 obtain ⟨⟨ac, ae⟩, A8, H⟩ := bd_ H
 try dsimp -simprocs only at H
 obtain ⟨c9, H⟩ := fc_ H
 have bf := decide_eq_true c9
 clear c9
 obtain ⟨aj, hy143⟩ : ∃ y_ : List (S72), y_ = (a6.set (a5 : Int).toNat (⟨ac, ae⟩ : S72)) := ⟨_, rfl⟩
 replace H : (laws_toEntryS.l0 k1 l0 aj (wrap64 (a5 + 1))) = some r := by first | (rw [hy143]; with_reducible exact H) | (have H2_ := (Option.bind_some _ _).symm.trans H; rw [hy143]; with_reducible exact H2_) | (have H2_ := (Option.bind_some _ _).symm.trans H; with_reducible exact H2_) | with_reducible exact H | (rw [hy143]; exact H) | exact H
 have Ny143 := Aside0.mk hy143
 clear hy143
 have H' := Aside0.mk H
 clear H
 have p140 : 0 ≤ (a5 : Int) := of_decide_eq_true tq_2
 have q140 : a5 < (l0.length : Int) := of_decide_eq_true tq_2
 obtain ⟨bd, b6, a9, aa⟩ := at_T109 HR0.out a5 p140 q140
 cases b6
 replace a9 := hx_ HB.out a9
 replace aa := hx_ HB.out aa
 replace p140 := eq_true p140
 replace q140 := eq_true q140
 go_wp2_with (first | ((with_reducible refine gate_callee (f := 95) rfl ?_); refine goesL_ (some 20) rfl rfl Tryz.func95 (by kernel_rfl) rfl #[.agg #[.int .i64 ((rd_T109 l0 a5).f0), .string ((rd_T109 l0 a5).f1)]] rfl tq_0 ?_; (with_reducible refine (laws_toEntry.calls ((rd_T109 l0 a5).f0) ((rd_T109 l0 a5).f1) ac ae _ A8.out).mono ?_); rintro e ak ⟨rfl, hb⟩; refine ⟨_, rfl, ?_⟩; have z_ := p_ (Kd.R_below (raR_ a7) hb) <| a_ (below_step th_ hb); clear a7 HB; obtain ⟨a7, HB⟩ := z_; (try clear hb); have p10 : 0 ≤ (a5 : Int) := of_decide_eq_true tq_2; have q10 : (a5 : Int) < ((a6.length : Int) : Int) := of_decide_eq_true tq_2; obtain ⟨a8, aq, ar, au, b7, bg, av⟩ := Kd.R_form a7.out (by omega); (first | cases ar | (injection ar with ea_ en_ ec_; (first | subst ea_ | (injection ea_ with ea_; subst ea_)); subst ec_; clear en_)); have aw := Aside0.mk au; have bh := Aside0.mk av; clear au b7 av; obtain ⟨bi, ax, ay, af, ag⟩ := Kd.R_elem a7.out z72 (a5 : Int) p10 q10; obtain rfl := k72_openM ay; have b8 : ak.cell? ⟨a8, (a5 : Int).toNat * 2, none⟩ = some (.int .i64 ((rd_T72 a6 a5).f0)) := af 0 _ rfl; have b9 : ak.cell? ⟨a8, (a5 : Int).toNat * 2 + 1, none⟩ = some (.string ((rd_T72 a6 a5).f1)) := af 1 _ rfl; have ba : ak.frozen? ⟨a8, (a5 : Int).toNat * 2, none⟩ = false := ag 0; have bb : ak.frozen? ⟨a8, (a5 : Int).toNat * 2 + 1, none⟩ = false := ag 1; clear ax af ag ay; replace p10 := eq_true p10; replace q10 := eq_true q10; have az := Aside0.mk (show Kd.R k72 72 ak w.heap.size (fun _ => True) (.slice (some ⟨a8, 0, none⟩) a6.length aq) a6 from (raR_ a7)); obtain ⟨bj, ai, b0, ab, ah⟩ := Kd.R_elem az.out z72 (a5 : Int) (of_decide_eq_true tq_2) (by have h_ : (a5 : Int) < ((a6.length : Int) : Int) := of_decide_eq_true tq_2; first | exact h_ | (have e_ := (Kd.R_reads' a7.out).1; omega) | simpa using h_); obtain rfl := k72_openM b0; have HP12 := Kd.R_seg az.out (a5 : Int) (of_decide_eq_true tq_2) (by have h_ : (a5 : Int) < ((a6.length : Int) : Int) := of_decide_eq_true tq_2; first | exact h_ | (have e_ := (Kd.R_reads' a7.out).1; omega) | simpa using h_) (seg := [.int .i64 ac, .string ae]) (j := 0) ai ab (show 2 ≤ 2 from by decide) (x' := (⟨ac, ae⟩ : S72)) (k72_mkM _ _ _ (⟨ac, ae⟩ : S72) ) (fun _ hk => hk); have al := ab 0 _ rfl; (try simp only [show (k72).sz = 2 from rfl, Nat.mul_one, Nat.add_zero] at al); have am := ah 0; (try simp only [show (k72).sz = 2 from rfl, Nat.mul_one, Nat.add_zero] at am); have an := ab 1 _ rfl; (try simp only [show (k72).sz = 2 from rfl, Nat.mul_one, Nat.add_zero] at an); have ao := ah 1; (try simp only [show (k72).sz = 2 from rfl, Nat.mul_one, Nat.add_zero] at ao); clear ai ab ah b0) | ((with_reducible refine gate_store (t := 72) (p := 21) rfl ?_); refine store_event (t := 72) (p := 21) (v := ?vo_w13) (w1 := ((ak.setCell ⟨a8, (a5 : Int).toNat * 2, none⟩ (.int .i64 ac)).setCell ⟨a8, (a5 : Int).toNat * 2 + 1, none⟩ (.string ae))) ?hg ?ho ?hn ?hr ?_; (case ho => rfl); (case hg => rfl); (case hn => rfl); (case hr => first | (go_simp; done) | (go_simp; rfl)); intro bc hw; have hg : ak.grownBy bc (some a8) := (by rw [hw]; exact HP12.2); have hp_ : Kd.R k72 72 bc w.heap.size (fun _ => True) (.slice (some ⟨a8, 0, none⟩) a6.length aq) aj := (by rw [hw, Ny143.out]; exact HP12.1); clear HP12; have z_ := p_ (hp_) <| a_ ((by rw [hw]; exact below_set (below_set (HB.out) aw.out) aw.out : Below w.heap.size w bc)); clear a7 HB; obtain ⟨a7, HB⟩ := z_; clear hg hw hp_))
 go_roundg k1
 case measure => have := HK1.out; omega
 case rel => exact ⟨(aj), (wrap64 (a5 + 1)), tq_3, H', ⟨tq_22⟩, ⟨(raR_ a7)⟩, ⟨th_⟩⟩

/-! ### laws_toInode: function 47 -/
def laws_toInode.f (k : Nat) (a5 : Int) (a6 : Int) (a7 : Int) (a8 : ByteArray) (a9 : List (S107)) (aa : List (S109)) : Option (Int × Int × Int × ByteArray × (List (S89)) × (List (S72))) := (laws_toRecS.f k a9).bind fun ab => ((laws_toEntryS.f k aa).bind fun ac => (some (a5, a6, a7, a8, ab, ac)))
set_option maxHeartbeats 8000000 in
set_option maxRecDepth 100000 in
theorem laws_toInode.calls (k : Nat) (aa : Int) (ab : Int) (ac : Int) (af : ByteArray) (ag : Option Addr) (ah : Nat) (l0_4 : List (S107)) (ai : Option Addr) (aj : Nat) (ae : List (S109)) (r1 : Int) (r2 : Int) (r3 : Int) (r4 : ByteArray) (r5 : List (S89)) (r6 : List (S72)) (w : World) (ap : Kd.C k107 w ag l0_4.length l0_4) (aq : l0_4.length ≤ ah) (ar : Kd.C k109 w ai ae.length ae) (au : ae.length ≤ aj) (h : laws_toInode.f k aa ab ac af l0_4 ae = some (r1, r2, r3, r4, r5, r6)) :
  Calls Tryz.prog 47 #[.agg #[.int .i64 aa, .int .i64 ab, .int .i64 ac, .string af, .slice ag l0_4.length ah, .slice ai ae.length aj]] w fun e w' => ∃ v4_ v5_ : Value, e = .returned (.agg #[.int .i64 r1, .int .i64 r2, .int .i64 r3, .string r4, v4_, v5_]) ∧ Kd.R k89 89 w' w.heap.size (fun _ => True) v4_ r5 ∧ Kd.R k72 72 w' w.heap.size (fun _ => True) v5_ r6 ∧ Below w.heap.size w w' := by
 have hu62 := Tryz.underlying62
 have hu69 := Tryz.underlying69
 have HR0_4 := Aside0.mk ap
 have ay := Aside0.mk aq
 clear ap aq
 have HR0_5 := Aside0.mk ar
 have az := Aside0.mk au
 clear ar au
 have HB := Aside0.mk (Below.refl w.heap.size w)
 unfold laws_toInode.f at h
 have H := h
 clear h
 obtain ⟨ax, A2, H⟩ := bd_ H
 obtain ⟨b0, A3, H⟩ := bd_ H
 simp only [Option.some.injEq, Prod.mk.injEq] at H
 obtain ⟨rfl, rfl, rfl, rfl, rfl, rfl⟩ := H
 go_enter Tryz.func47, Tryz.ntmps47
 go_wp2_with (first | ((with_reducible refine gate_dst (N := 1) rfl ?_); refine be_ 1 (cs := #[.int .i64 aa, .int .i64 ab, .int .i64 ac, .string af, .slice ag l0_4.length ah, .slice ai ae.length aj]) 62 ?_; intro av hg w4 hbox hb; have z_ := bx0_ th_ hb hbox hg; clear HB; obtain ⟨HB, a7, b5, b6⟩ := z_; clear hb hbox hg) | ((with_reducible refine gate_dst (N := 2) rfl ?_); refine be_ 2 (cs := #[.int .i64 0, .int .i64 0, .int .i64 0, .string (⟨#[]⟩ : ByteArray), .slice none 0 0, .slice none 0 0]) 69 ?_; intro ao hg w5 hbox hb; have z_ := bx1_ (kb_ a7) th_ hb hbox hg; clear a7 HB; obtain ⟨a7, HB, a8, b7, b8, ak, al⟩ := z_; clear hb hbox hg) | ((with_reducible refine gate_dst (N := 3) rfl ?_); refine be_ 3 (cs := #[.int .i64 0, .int .i64 0, .int .i64 0, .string (⟨#[]⟩ : ByteArray), .slice none 0 0, .slice none 0 0]) 69 ?_; intro aw hg w6 hbox hb; have z_ := bx2_ (kb_ a7) (kb_ a8) th_ hb hbox hg; clear a7 a8 HB; obtain ⟨a7, a8, HB, a9, b9, ba, a5, am, a6, an⟩ := z_; clear hb hbox hg; obtain ⟨hnb7, hnc7, hnb8, hnc8⟩ := an4_ ak al a5 am; have bg := bb6_ a7.out; obtain ⟨hnb10, hnc10⟩ := an2_ an a6; have bb := bb6_ a9.out) | ((with_reducible refine gate_callee (f := 71) rfl ?_); refine goesL_ (some 18) rfl rfl Tryz.func71 (by kernel_rfl) rfl #[.slice ag l0_4.length ah] rfl tq_0 ?_; (with_reducible refine (laws_toRecS.calls k _ _ l0_4 ax _ ?side1 ?side2 A2.out).mono ?_); (case side1 => exact Kd.C_below HR0_4.out th_); (case side2 => exact ay.out); rintro e bh ⟨v148, rfl, ho0, hb⟩; refine ⟨_, rfl, ?_⟩; have z_ := p_ (Kd.R_lower ho0 (below_size th_)) <| p_ (blk_below (g := av) (o := .cells #[.int .i64 aa, .int .i64 ab, .int .i64 ac, .string af, .slice ag l0_4.length ah, .slice ai ae.length aj] 62 (0, 0)) (by (with_reducible repeat (first | refine blk_drewN ?_ _ | refine blk_drew ?_ | refine blk_alloc ?_ _)); refine blk_far ?_ a5.out _; (with_reducible repeat (first | refine blk_drewN ?_ _ | refine blk_drew ?_ | refine blk_alloc ?_ _)); refine blk_far ?_ a5.out _; (with_reducible repeat (first | refine blk_drewN ?_ _ | refine blk_drew ?_ | refine blk_alloc ?_ _)); refine blk_far ?_ a5.out _; (with_reducible repeat (first | refine blk_drewN ?_ _ | refine blk_drew ?_ | refine blk_alloc ?_ _)); refine blk_far ?_ a5.out _; (with_reducible repeat (first | refine blk_drewN ?_ _ | refine blk_drew ?_ | refine blk_alloc ?_ _)); exact a7.out) hb) <| p_ (blk_below (g := ao) (o := .cells #[.int .i64 0, .int .i64 0, .int .i64 0, .string (⟨#[]⟩ : ByteArray), .slice none 0 0, .slice none 0 0] 69 (0, 0)) (by (with_reducible repeat (first | refine blk_drewN ?_ _ | refine blk_drew ?_ | refine blk_alloc ?_ _)); refine blk_far ?_ a6.out _; (with_reducible repeat (first | refine blk_drewN ?_ _ | refine blk_drew ?_ | refine blk_alloc ?_ _)); refine blk_far ?_ a6.out _; (with_reducible repeat (first | refine blk_drewN ?_ _ | refine blk_drew ?_ | refine blk_alloc ?_ _)); refine blk_far ?_ a6.out _; (with_reducible repeat (first | refine blk_drewN ?_ _ | refine blk_drew ?_ | refine blk_alloc ?_ _)); refine blk_far ?_ a6.out _; (with_reducible repeat (first | refine blk_drewN ?_ _ | refine blk_drew ?_ | refine blk_alloc ?_ _)); exact a8.out) hb) <| p_ (blk_below (g := aw) (o := .cells #[.int .i64 aa, .int .i64 ab, .int .i64 ac, .string af, .slice none 0 0, .slice none 0 0] 69 (0, 0)) (by (with_reducible repeat (first | refine blk_drewN ?_ _ | refine blk_drew ?_ | refine blk_alloc ?_ _)); refine blk_put (cs := #[.int .i64 aa, .int .i64 ab, .int .i64 ac, .string (⟨#[]⟩ : ByteArray), .slice none 0 0, .slice none 0 0]) ?_ 3 _ rfl; (with_reducible repeat (first | refine blk_drewN ?_ _ | refine blk_drew ?_ | refine blk_alloc ?_ _)); refine blk_put (cs := #[.int .i64 aa, .int .i64 ab, .int .i64 0, .string (⟨#[]⟩ : ByteArray), .slice none 0 0, .slice none 0 0]) ?_ 2 _ rfl; (with_reducible repeat (first | refine blk_drewN ?_ _ | refine blk_drew ?_ | refine blk_alloc ?_ _)); refine blk_put (cs := #[.int .i64 aa, .int .i64 0, .int .i64 0, .string (⟨#[]⟩ : ByteArray), .slice none 0 0, .slice none 0 0]) ?_ 1 _ rfl; (with_reducible repeat (first | refine blk_drewN ?_ _ | refine blk_drew ?_ | refine blk_alloc ?_ _)); refine blk_put (cs := #[.int .i64 0, .int .i64 0, .int .i64 0, .string (⟨#[]⟩ : ByteArray), .slice none 0 0, .slice none 0 0]) ?_ 0 _ rfl; (with_reducible repeat (first | refine blk_drewN ?_ _ | refine blk_drew ?_ | refine blk_alloc ?_ _)); exact a9.out) hb) <| a_ (below_step th_ hb); clear a7 a8 a9 HB; obtain ⟨HO149, a7, a8, a9, HB⟩ := z_; (try clear hb); obtain ⟨Ao13, b1, b2⟩ := Kd.R_slice HO149.out; subst b2; have bc := bb6_ a9.out; have bd := bb6_ a7.out) | ((with_reducible refine gate_callee (f := 72) rfl ?_); refine goesL_ (some 22) rfl rfl Tryz.func72 (by kernel_rfl) rfl #[.slice ai ae.length aj] rfl tq_0 ?_; (with_reducible refine (laws_toEntryS.calls k _ _ ae b0 _ ?side1 ?side2 A3.out).mono ?_); (case side1 => exact Kd.C_below HR0_5.out th_); (case side2 => exact az.out); rintro e bi ⟨v151, rfl, ho0, hb⟩; refine ⟨_, rfl, ?_⟩; have z_ := p_ (Kd.R_below (by (with_reducible repeat (first | apply Kd.R_alloc | apply Kd.R_drewN | apply Kd.R_drew)); exact (Kd.R_mono (rR_ (Kd.R_types HO149.out a9.out (by decide))) (fun _ h_ => h_.1))) hb) <| p_ (Kd.R_lower ho0 (below_size th_)) <| p_ (blk_below (g := av) (o := .cells #[.int .i64 aa, .int .i64 ab, .int .i64 ac, .string af, .slice ag l0_4.length ah, .slice ai ae.length aj] 62 (0, 0)) (by (with_reducible repeat (first | refine blk_drewN ?_ _ | refine blk_drew ?_ | refine blk_alloc ?_ _)); refine blk_far ?_ a5.out _; (with_reducible repeat (first | refine blk_drewN ?_ _ | refine blk_drew ?_ | refine blk_alloc ?_ _)); exact a7.out) hb) <| p_ (blk_below (g := ao) (o := .cells #[.int .i64 0, .int .i64 0, .int .i64 0, .string (⟨#[]⟩ : ByteArray), .slice none 0 0, .slice none 0 0] 69 (0, 0)) (by (with_reducible repeat (first | refine blk_drewN ?_ _ | refine blk_drew ?_ | refine blk_alloc ?_ _)); refine blk_far ?_ a6.out _; (with_reducible repeat (first | refine blk_drewN ?_ _ | refine blk_drew ?_ | refine blk_alloc ?_ _)); exact a8.out) hb) <| p_ (blk_below (g := aw) (o := .cells #[.int .i64 aa, .int .i64 ab, .int .i64 ac, .string af, .slice Ao13 ax.length b1, .slice none 0 0] 69 (0, 0)) (by (with_reducible repeat (first | refine blk_drewN ?_ _ | refine blk_drew ?_ | refine blk_alloc ?_ _)); refine blk_put (cs := #[.int .i64 aa, .int .i64 ab, .int .i64 ac, .string af, .slice none 0 0, .slice none 0 0]) ?_ 4 _ rfl; (with_reducible repeat (first | refine blk_drewN ?_ _ | refine blk_drew ?_ | refine blk_alloc ?_ _)); exact a9.out) hb) <| a_ (below_step th_ hb); clear HO149 a7 a8 a9 HB; obtain ⟨HO149, HO152, a7, a8, a9, HB⟩ := z_; (try clear hb); (try clear hk); (try clear ho0); obtain ⟨Ao17, b3, b4⟩ := Kd.R_slice HO152.out; subst b4; have be := bb6_ a9.out; have bf := bb6_ a8.out))
 refine bodyPost_ret (results_cell_row rfl _ _ ao 69 #[.int .i64 aa, .int .i64 ab, .int .i64 ac, .string af, .slice Ao13 ax.length b1, .slice Ao17 b0.length b3] (0, 0) _ rfl tb_ Tryz.underlying69 rfl (by kernel_rfl)) rfl ?_
 exact ⟨_, _, tq_1, (by (with_reducible repeat (first | apply Kd.R_alloc | apply Kd.R_drewN | apply Kd.R_drew)); exact Kd.R_mono (rR_ (rR_ (rR_ (rR_ (rR_ (rR_ (rR_ (Kd.R_types (Kd.R_types HO149.out a9.out (by decide)) a8.out (by decide)) (fun _ hk => hk.1.2)))))))) (fun _ hk => trivial)), (by (with_reducible repeat (first | apply Kd.R_alloc | apply Kd.R_drewN | apply Kd.R_drew)); exact Kd.R_mono (rR_ (rR_ (rR_ (rR_ (rR_ (rR_ (rR_ (Kd.R_types (Kd.R_types HO152.out a9.out (by decide)) a8.out (by decide)) (fun _ hk => hk.1.2)))))))) (fun _ hk => trivial)), th_⟩

/-! ### laws_toInodeS: function 23 -/
def laws_toInodeS.l0 : Nat → List (S62) → List (S69) → Int → Option ((List (S69)))
 | 0, _, _, _ => none
 | k + 1, x0, x3, x4 => if x4 < (x0.length : Int) then (if 0 ≤ x4 then ((laws_toInode.f k ((rd_T62 x0 x4).f0) ((rd_T62 x0 x4).f1) ((rd_T62 x0 x4).f2) ((rd_T62 x0 x4).f3) ((rd_T62 x0 x4).f4) ((rd_T62 x0 x4).f5)).bind fun a5 => (if x4 < (x3.length : Int) then (laws_toInodeS.l0 k x0 (x3.set (x4 : Int).toNat (⟨a5.1, a5.2.1, a5.2.2.1, a5.2.2.2.1, a5.2.2.2.2.1, a5.2.2.2.2.2⟩ : S69)) (wrap64 (x4 + 1))) else (none))) else (none)) else (some x3)
def laws_toInodeS.f (k : Nat) (l0 : List (S62)) : Option ((List (S69))) := if 0 ≤ (l0.length : Int) then (if ((l0.length : Int) : Int).toNat ≤ 3198579280802 then (laws_toInodeS.l0 k l0 (List.replicate ((l0.length : Int) : Int).toNat z69) 0) else (none)) else (none)
set_option maxHeartbeats 8000000 in
set_option maxRecDepth 100000 in
theorem laws_toInodeS.calls (k : Nat) (A0 : Option Addr) (c0 : Nat) (l0 : List (S62)) (r : List (S69)) (w : World) (hr0 : Kd.C k62 w A0 l0.length l0) (hc0 : l0.length ≤ c0) (h : laws_toInodeS.f k l0 = some r) :
  Calls Tryz.prog 23 #[.slice A0 l0.length c0] w fun e w' => ∃ v0_ : Value, e = .returned (v0_) ∧ Kd.S k69 69 w' w.heap.size (fun _ => True) v0_ r ∧ Below w.heap.size w w' := by
 have hu62 := Tryz.underlying62
 have hu69 := Tryz.underlying69
 have HR0 := Aside0.mk hr0
 have cy := Aside0.mk hc0
 clear hr0 hc0
 have HB := Aside0.mk (Below.refl w.heap.size w)
 unfold laws_toInodeS.f at h
 have H := h
 clear h
 obtain ⟨c2, H⟩ := fc_ H
 have bu := eq_true c2
 have bv := decide_eq_true c2
 clear c2
 obtain ⟨c3, H⟩ := fc_ H
 have bw := eq_true c3
 have bx := decide_eq_true c3
 clear c3
 obtain ⟨bj, hy153⟩ : ∃ y_ : List (S69), y_ = (List.replicate ((l0.length : Int) : Int).toNat z69) := ⟨_, rfl⟩
 replace H : (laws_toInodeS.l0 k l0 bj 0) = some r := by first | (rw [hy153]; with_reducible exact H) | (have H2_ := (Option.bind_some _ _).symm.trans H; rw [hy153]; with_reducible exact H2_) | (have H2_ := (Option.bind_some _ _).symm.trans H; with_reducible exact H2_) | with_reducible exact H | (rw [hy153]; exact H) | exact H
 have Ny153 := Aside0.mk hy153
 clear hy153
 have H' := Aside0.mk H
 clear H
 go_enter Tryz.func23, Tryz.ntmps23
 go_wp2_with (first | ((with_reducible refine gate_dst (N := 7) rfl ?_); refine Kd.S_make k69 _ 69 rfl (N := 7) rfl 33 _ _ rfl (l0.length : Int) rfl rfl Tryz.underlying33 (.agg #[(.int .i64 0), (.int .i64 0), (.int .i64 0), (.string ⟨#[]⟩), (.slice none 0 0), (.slice none 0 0)]) 88 info69 rfl (by decide) (by omega) z69 (ok := fun _ => True) (okp := fun _ => True) (k69_mkM _ _ _ z69 (Kd.R_nil _ _ _ _ _) (Kd.R_nil _ _ _ _ _)) (fun _ hk => hk) trivial (of_decide_eq_true tq_2) (Nat.le_trans (Nat.mul_le_mul_right _ (of_decide_eq_true tq_2 : (l0.length : Int).toNat ≤ 3198579280802)) (by omega)) (Below.refl _ _) (Nat.le_refl _) ?_; intro v154 w4 ho5 hb hg_ hnew_; clear hg_ hnew_; (first | rw [← Ny153.out] at ho5 | (simp only [Int.reduceToNat] at ho5; rw [← Ny153.out] at ho5)); have z_ := p_ (Kd.S_lower ho5 (below_size th_)) <| a_ (below_step th_ hb); clear HB; obtain ⟨HO155, HB⟩ := z_; clear hb ho5))
 go_loopg [4] k (fun kq v4 w' => ∃ (a8 : List (S69)) (a5 : Int), v4 = .int .i64 a5 ∧ Aside0 (laws_toInodeS.l0 kq l0 a8 a5 = some r) ∧ Aside0 (kq ≤ k) ∧ Aside0 (Kd.S k69 69 w' w.heap.size (fun _ => True) v154 a8) ∧ Aside0 (Below w.heap.size w w'))
 case atStart => exact ⟨(bj), (0), tq_3, H', ⟨Nat.le_refl _⟩, ⟨(raS_ HO155)⟩, ⟨th_⟩⟩
 case round =>
 clear H'
 try clear c2; try clear bu; try clear bv; try clear p2; try clear c3; try clear bw; try clear bx
 obtain ⟨a8, a5, rfl, HA, HK1, a7, HB⟩ := hrel
 cases gk with
 | zero => exact absurd HA.out (by simp [laws_toInodeS.l0])
 | succ k1 =>
 have H := HA.out
 clear HA
 simp only [laws_toInodeS.l0] at H
 by_cases c6 : a5 < (l0.length : Int)
 rotate_left
 ·rw [if_neg c6] at H
  have bz := decide_eq_false c6
  clear c6
  obtain rfl := Option.some.inj H
  go_wp2
  go_ret
  exact ⟨_, tq_1, (raS_ a7), th_⟩
 rw [if_pos c6] at H
 have bz := decide_eq_true c6
 clear c6
 obtain ⟨c7, H⟩ := fc_ H
 have cr := decide_eq_true c7
 clear c7
 obtain ⟨⟨ap, aq, ar, au, aw, ax⟩, A8, H⟩ := bd_ H
 try dsimp -simprocs only at H
 obtain ⟨c9, H⟩ := fc_ H
 have ct := decide_eq_true c9
 clear c9
 obtain ⟨b2, hy167⟩ : ∃ y_ : List (S69), y_ = (a8.set (a5 : Int).toNat (⟨ap, aq, ar, au, aw, ax⟩ : S69)) := ⟨_, rfl⟩
 replace H : (laws_toInodeS.l0 k1 l0 b2 (wrap64 (a5 + 1))) = some r := by first | (rw [hy167]; with_reducible exact H) | (have H2_ := (Option.bind_some _ _).symm.trans H; rw [hy167]; with_reducible exact H2_) | (have H2_ := (Option.bind_some _ _).symm.trans H; with_reducible exact H2_) | with_reducible exact H | (rw [hy167]; exact H) | exact H
 have Ny167 := Aside0.mk hy167
 clear hy167
 have H' := Aside0.mk H
 clear H
 have p156 : 0 ≤ (a5 : Int) := of_decide_eq_true tq_2
 have q156 : a5 < (l0.length : Int) := of_decide_eq_true tq_2
 obtain ⟨cq, b3, b4, b5, b6, ca, af, ag, ah, ai, aj, ak, al, am, an, ao⟩ := at_T62 HR0.out a5 p156 q156
 cases ca
 replace af := hx_ HB.out af
 replace ag := hx_ HB.out ag
 replace ah := hx_ HB.out ah
 replace ai := hx_ HB.out ai
 replace aj := hx_ HB.out aj
 replace ak := hx_ HB.out ak
 have ay := Aside0.mk am
 have az := Aside0.mk al
 clear am al
 have b0 := Aside0.mk ao
 have b1 := Aside0.mk an
 clear ao an
 replace p156 := eq_true p156
 replace q156 := eq_true q156
 go_wp2_with (first | ((with_reducible refine gate_callee (f := 47) rfl ?_); refine goesL_ (some 20) rfl rfl Tryz.func47 (by kernel_rfl) rfl #[.agg #[.int .i64 ((rd_T62 l0 a5).f0), .int .i64 ((rd_T62 l0 a5).f1), .int .i64 ((rd_T62 l0 a5).f2), .string ((rd_T62 l0 a5).f3), .slice b3 ((rd_T62 l0 a5).f4).length b4, .slice b5 ((rd_T62 l0 a5).f5).length b6]] rfl tq_0 ?_; (with_reducible refine (laws_toInode.calls k1 ((rd_T62 l0 a5).f0) ((rd_T62 l0 a5).f1) ((rd_T62 l0 a5).f2) ((rd_T62 l0 a5).f3) _ _ ((rd_T62 l0 a5).f4) _ _ ((rd_T62 l0 a5).f5) ap aq ar au aw ax _ ?side1 ?side2 ?side3 ?side4 A8.out).mono ?_); (case side1 => repeat (first | exact (Kd.C_below ay.out HB.out) | (with_reducible refine Kd.C_alloc ?_ _) | (with_reducible refine Kd.C_drewN ?_ _) | (with_reducible refine Kd.C_drew ?_))); (case side2 => exact az.out); (case side3 => repeat (first | exact (Kd.C_below b0.out HB.out) | (with_reducible refine Kd.C_alloc ?_ _) | (with_reducible refine Kd.C_drewN ?_ _) | (with_reducible refine Kd.C_drew ?_))); (case side4 => exact b1.out); rintro e ae ⟨v162, v165, rfl, ho0, ho1, hb⟩; refine ⟨_, rfl, ?_⟩; have z_ := p_ (Kd.S_mono (Kd.S_told (Kd.S_told (Kd.S_old (raS_ a7) hb) (Kd.R_base ho0)) (Kd.R_base ho1)) (fun _ h_ => h_.1)) <| p_ (Kd.R_lower ho0 (below_size th_)) <| p_ (Kd.R_lower ho1 (below_size th_)) <| a_ (below_step th_ hb); clear a7 HB; obtain ⟨a7, HO163, HO166, HB⟩ := z_; (try clear hb); (try clear ho0); (try clear ho1); have p10 : 0 ≤ (a5 : Int) := of_decide_eq_true tq_2; have q10 : (a5 : Int) < ((a8.length : Int) : Int) := of_decide_eq_true tq_2; obtain ⟨a6, bl, bm, bn, cb, cu, bo⟩ := Kd.S_form a7.out (by omega); (first | cases bm | (injection bm with ea_ en_ ec_; (first | subst ea_ | (injection ea_ with ea_; subst ea_)); subst ec_; clear en_)); have av := Aside0.mk bn; have cv := Aside0.mk bo; clear bn cb bo; obtain ⟨_, cw, bp, bq, a9, aa, _, _⟩ := Kd.S_elem a7.out z69 (a5 : Int) p10 q10; obtain ⟨ve10_4, ve10_5, rfl, ge10_4, ge10_5⟩ := k69_openM bq; have cc : ae.cell? ⟨a6, (a5 : Int).toNat * 6, none⟩ = some (.int .i64 ((rd_T69 a8 a5).f0)) := a9 0 _ rfl; have cd : ae.cell? ⟨a6, (a5 : Int).toNat * 6 + 1, none⟩ = some (.int .i64 ((rd_T69 a8 a5).f1)) := a9 1 _ rfl; have ce : ae.cell? ⟨a6, (a5 : Int).toNat * 6 + 2, none⟩ = some (.int .i64 ((rd_T69 a8 a5).f2)) := a9 2 _ rfl; have cf : ae.cell? ⟨a6, (a5 : Int).toNat * 6 + 3, none⟩ = some (.string ((rd_T69 a8 a5).f3)) := a9 3 _ rfl; have cg : ae.cell? ⟨a6, (a5 : Int).toNat * 6 + 4, none⟩ = some (ve10_4) := a9 4 _ rfl; have ch : ae.cell? ⟨a6, (a5 : Int).toNat * 6 + 5, none⟩ = some (ve10_5) := a9 5 _ rfl; have ci : ae.frozen? ⟨a6, (a5 : Int).toNat * 6, none⟩ = false := aa 0; have cj : ae.frozen? ⟨a6, (a5 : Int).toNat * 6 + 1, none⟩ = false := aa 1; have ck : ae.frozen? ⟨a6, (a5 : Int).toNat * 6 + 2, none⟩ = false := aa 2; have cl : ae.frozen? ⟨a6, (a5 : Int).toNat * 6 + 3, none⟩ = false := aa 3; have cm : ae.frozen? ⟨a6, (a5 : Int).toNat * 6 + 4, none⟩ = false := aa 4; have cn : ae.frozen? ⟨a6, (a5 : Int).toNat * 6 + 5, none⟩ = false := aa 5; clear bp a9 aa bq; replace p10 := eq_true p10; replace q10 := eq_true q10; have n_ := Aside0.mk (Kd.S_mono (ok' := (fun k_ => some k_ ≠ (v162 : Value).ownBlock ∧ some k_ ≠ (v165 : Value).ownBlock)) a7.out (fun k_ hk => ⟨hk.1.2, hk.2⟩)); clear a7; have a7 := n_; clear n_; have co := Aside0.mk (show Kd.S k69 69 ae w.heap.size (fun k_ => ((fun _ => True)) k_ ∧ ¬ ((fun k_ => some k_ = (v162 : Value).ownBlock ∨ some k_ = (v165 : Value).ownBlock)) k_) (.slice (some ⟨a6, 0, none⟩) a8.length bl) a8 from (by (with_reducible repeat (first | apply Kd.S_alloc | apply Kd.S_drewN | apply Kd.S_drew)); exact Kd.S_mono a7.out (fun k_ hk => ⟨trivial, fun e_ => e_.elim (fun h_ => hk.1 h_) (fun h_ => hk.2 h_)⟩))); obtain ⟨oki12, cx, br, bs, ab, ac, hoki12, hH12⟩ := Kd.S_elem co.out z69 (a5 : Int) (of_decide_eq_true tq_2) (by have h_ : (a5 : Int) < ((a8.length : Int) : Int) := of_decide_eq_true tq_2; first | exact h_ | (have e_ := (Kd.S_reads' a7.out).1; omega) | simpa using h_); obtain ⟨ve12_4, ve12_5, rfl, ge12_4, ge12_5⟩ := k69_openM bs; have HP12 := Kd.S_seg hH12 (of_decide_eq_true tq_2) (by have h_ : (a5 : Int) < ((a8.length : Int) : Int) := of_decide_eq_true tq_2; first | exact h_ | (have e_ := (Kd.S_reads' a7.out).1; omega) | simpa using h_) (seg := [.int .i64 ap, .int .i64 aq, .int .i64 ar, .string au, v162, v165]) (j := 0) (show 6 ≤ 6 from by decide) (x' := (⟨ap, aq, ar, au, aw, ax⟩ : S69)) (k69_mkM _ _ _ (⟨ap, aq, ar, au, aw, ax⟩ : S69) (Kd.R_mono (Kd.R_tight rfl (Kd.R_mono (ok' := fun k_ => ((fun _ => True)) k_ ∧ k_ ≠ a6) (Kd.R_apart' (HO163.out) (Kd.S_typed a7.out) (by decide)) (fun k_ hk => ⟨trivial, fun e_ => (hk.2) (by rw [e_]; rfl)⟩))) (fun _ h_ => Or.inr (Or.inl h_))) (Kd.R_mono (Kd.R_tight rfl (Kd.R_mono (ok' := fun k_ => ((fun _ => True)) k_ ∧ k_ ≠ a6) (Kd.R_apart' (HO166.out) (Kd.S_typed a7.out) (by decide)) (fun k_ hk => ⟨trivial, fun e_ => (hk.2) (by rw [e_]; rfl)⟩))) (fun _ h_ => Or.inr (Or.inr (h_))))) (fun _ hk => hk) (fun k_ hk_ => hk_.elim (fun h_ => ((Kd.R_mono (ok' := fun k_ => ((fun _ => True)) k_ ∧ k_ ≠ a6) (Kd.R_apart' (HO163.out) (Kd.S_typed a7.out) (by decide)) (fun k_ hk => ⟨trivial, fun e_ => (hk.2) (by rw [e_]; rfl)⟩))).1 k_ h_.symm) (fun h_ => ((Kd.R_mono (ok' := fun k_ => ((fun _ => True)) k_ ∧ k_ ≠ a6) (Kd.R_apart' (HO166.out) (Kd.S_typed a7.out) (by decide)) (fun k_ hk => ⟨trivial, fun e_ => (hk.2) (by rw [e_]; rfl)⟩))).1 k_ h_.symm)); have b7 := ab 0 _ rfl; (try simp only [show (k69).sz = 6 from rfl, Nat.mul_one, Nat.add_zero] at b7); have b8 := ac 0; (try simp only [show (k69).sz = 6 from rfl, Nat.mul_one, Nat.add_zero] at b8); have b9 := ab 1 _ rfl; (try simp only [show (k69).sz = 6 from rfl, Nat.mul_one, Nat.add_zero] at b9); have ba := ac 1; (try simp only [show (k69).sz = 6 from rfl, Nat.mul_one, Nat.add_zero] at ba); have bb := ab 2 _ rfl; (try simp only [show (k69).sz = 6 from rfl, Nat.mul_one, Nat.add_zero] at bb); have bc := ac 2; (try simp only [show (k69).sz = 6 from rfl, Nat.mul_one, Nat.add_zero] at bc); have bd := ab 3 _ rfl; (try simp only [show (k69).sz = 6 from rfl, Nat.mul_one, Nat.add_zero] at bd); have be := ac 3; (try simp only [show (k69).sz = 6 from rfl, Nat.mul_one, Nat.add_zero] at be); have bf := ab 4 _ rfl; (try simp only [show (k69).sz = 6 from rfl, Nat.mul_one, Nat.add_zero] at bf); have bg := ac 4; (try simp only [show (k69).sz = 6 from rfl, Nat.mul_one, Nat.add_zero] at bg); have bh := ab 5 _ rfl; (try simp only [show (k69).sz = 6 from rfl, Nat.mul_one, Nat.add_zero] at bh); have bi := ac 5; (try simp only [show (k69).sz = 6 from rfl, Nat.mul_one, Nat.add_zero] at bi); clear br ab ac bs hoki12 hH12) | ((with_reducible refine gate_store (t := 69) (p := 21) rfl ?_); refine store_event (t := 69) (p := 21) (v := ?vo_w13) (w1 := ((((((ae.setCell ⟨a6, (a5 : Int).toNat * 6, none⟩ (.int .i64 ap)).setCell ⟨a6, (a5 : Int).toNat * 6 + 1, none⟩ (.int .i64 aq)).setCell ⟨a6, (a5 : Int).toNat * 6 + 2, none⟩ (.int .i64 ar)).setCell ⟨a6, (a5 : Int).toNat * 6 + 3, none⟩ (.string au)).setCell ⟨a6, (a5 : Int).toNat * 6 + 4, none⟩ (v162)).setCell ⟨a6, (a5 : Int).toNat * 6 + 5, none⟩ (v165))) ?hg ?ho ?hn ?hr ?_; (case ho => rfl); (case hg => rfl); (case hn => rfl); (case hr => first | (go_simp; done) | (go_simp; rfl) | (have r0_ : ∀ (a_ : Addr) (m_ : Mode) (W_ : World), (store a_ v162 m_).run Tryz.prog W_ = stored Tryz.prog W_ a_ v162 m_ := fun a_ m_ W_ => run_store Tryz.prog W_ a_ v162 m_ (by obtain ⟨_, _, e_⟩ := Kd.R_slice HO163.out; rw [e_]; rfl); have r1_ : ∀ (a_ : Addr) (m_ : Mode) (W_ : World), (store a_ v165 m_).run Tryz.prog W_ = stored Tryz.prog W_ a_ v165 m_ := fun a_ m_ W_ => run_store Tryz.prog W_ a_ v165 m_ (by obtain ⟨_, _, e_⟩ := Kd.R_slice HO166.out; rw [e_]; rfl); go_simp; done) | (have r0_ : ∀ (a_ : Addr) (m_ : Mode) (W_ : World), (store a_ v162 m_).run Tryz.prog W_ = stored Tryz.prog W_ a_ v162 m_ := fun a_ m_ W_ => run_store Tryz.prog W_ a_ v162 m_ (by obtain ⟨_, _, e_⟩ := Kd.R_slice HO163.out; rw [e_]; rfl); have r1_ : ∀ (a_ : Addr) (m_ : Mode) (W_ : World), (store a_ v165 m_).run Tryz.prog W_ = stored Tryz.prog W_ a_ v165 m_ := fun a_ m_ W_ => run_store Tryz.prog W_ a_ v165 m_ (by obtain ⟨_, _, e_⟩ := Kd.R_slice HO166.out; rw [e_]; rfl); go_simp; rfl)); intro cp hw; have hg : ae.grownBy cp (some a6) := (by rw [hw]; exact HP12.2); have hp_ : Kd.S k69 69 cp w.heap.size (fun _ => True) (.slice (some ⟨a6, 0, none⟩) a8.length bl) b2 := (by rw [hw, Ny167.out]; exact HP12.1); clear HP12; have z_ := p_ (hp_) <| a_ ((by rw [hw]; exact below_set (below_set (below_set (below_set (below_set (below_set (HB.out) av.out) av.out) av.out) av.out) av.out) av.out : Below w.heap.size w cp)); clear a7 HB HO163 HO166; obtain ⟨a7, HB⟩ := z_; clear hg hw hp_))
 go_roundg k1
 case measure => have := HK1.out; omega
 case rel => exact ⟨(b2), (wrap64 (a5 + 1)), tq_3, H', ⟨tq_22⟩, ⟨(raS_ a7)⟩, ⟨th_⟩⟩

/-! ### laws_toPart: function 8 -/
def laws_toPart.f (k : Nat) (a5 : Int) (a6 : List Int) (a7 : List (S62)) : Option (Int × List Int × (List (S69))) := (laws_toIntS.f k a6).bind fun a8 => ((laws_toInodeS.f k a7).bind fun a9 => (some (a5, a8, a9)))
set_option maxHeartbeats 8000000 in
set_option maxRecDepth 100000 in
theorem laws_toPart.calls (k : Nat) (a8 : Int) (a9 : Option Addr) (aa : Nat) (a6 : List Int) (ab : Option Addr) (ac : Nat) (a7 : List (S62)) (r1 : Int) (r2 : List Int) (r3 : List (S69)) (w : World) (aj : Kd.C (Kd.int .i64) w a9 a6.length a6) (ak : a6.length ≤ aa) (al : Kd.C k62 w ab a7.length a7) (am : a7.length ≤ ac) (h : laws_toPart.f k a8 a6 a7 = some (r1, r2, r3)) :
  Calls Tryz.prog 8 #[.agg #[.int .i64 a8, .slice a9 a6.length aa, .slice ab a7.length ac]] w fun e w' => ∃ v1_ v2_ : Value, e = .returned (.agg #[.int .i64 r1, v1_, v2_]) ∧ Kd.R (Kd.int .i64) 3 w' w.heap.size (fun _ => True) v1_ r2 ∧ Kd.S k69 69 w' w.heap.size (fun _ => True) v2_ r3 ∧ Below w.heap.size w w' := by
 have hu27 := Tryz.underlying27
 have hu35 := Tryz.underlying35
 have HR0_1 := Aside0.mk aj
 have aq := Aside0.mk ak
 clear aj ak
 have HR0_2 := Aside0.mk al
 have ar := Aside0.mk am
 clear al am
 have HB := Aside0.mk (Below.refl w.heap.size w)
 unfold laws_toPart.f at h
 have H := h
 clear h
 obtain ⟨ap, A2, H⟩ := bd_ H
 obtain ⟨au, A3, H⟩ := bd_ H
 simp only [Option.some.injEq, Prod.mk.injEq] at H
 obtain ⟨rfl, rfl, rfl⟩ := H
 go_enter Tryz.func8, Tryz.ntmps8
 go_wp2_with (first | ((with_reducible refine gate_dst (N := 1) rfl ?_); refine be_ 1 (cs := #[.int .i64 a8, .slice a9 a6.length aa, .slice ab a7.length ac]) 27 ?_; intro an hg w4 hbox hb; have z_ := bx0_ th_ hb hbox hg; clear HB; obtain ⟨HB, BK168, az, b0⟩ := z_; clear hb hbox hg) | ((with_reducible refine gate_dst (N := 2) rfl ?_); refine be_ 2 (cs := #[.int .i64 0, .slice none 0 0, .slice none 0 0]) 35 ?_; intro ai hg w5 hbox hb; have z_ := bx1_ (kb_ BK168) th_ hb hbox hg; clear BK168 HB; obtain ⟨BK168, HB, BK169, b1, b2, ae, af⟩ := z_; clear hb hbox hg) | ((with_reducible refine gate_dst (N := 3) rfl ?_); refine be_ 3 (cs := #[.int .i64 0, .slice none 0 0, .slice none 0 0]) 35 ?_; intro ao hg w6 hbox hb; have z_ := bx2_ (kb_ BK168) (kb_ BK169) th_ hb hbox hg; clear BK168 BK169 HB; obtain ⟨BK168, BK169, HB, a5, b3, b4, NB168_170, ag, NB169_170, ah⟩ := z_; clear hb hbox hg; obtain ⟨hnb7, hnc7, hnb8, hnc8⟩ := an4_ ae af NB168_170 ag; have ba := bb3_ BK168.out; obtain ⟨hnb10, hnc10⟩ := an2_ ah NB169_170; have b5 := bb3_ a5.out) | ((with_reducible refine gate_callee (f := 22) rfl ?_); refine goesL_ (some 9) rfl rfl Tryz.func22 (by kernel_rfl) rfl #[.slice a9 a6.length aa] rfl tq_0 ?_; (with_reducible refine (laws_toIntS.calls k _ _ a6 ap _ ?side1 ?side2 A2.out).mono ?_); (case side1 => exact Kd.C_below HR0_1.out th_); (case side2 => exact aq.out); rintro e bb ⟨v172, rfl, ho0, hb⟩; refine ⟨_, rfl, ?_⟩; have z_ := p_ (Kd.R_lower ho0 (below_size th_)) <| p_ (blk_below (g := an) (o := .cells #[.int .i64 a8, .slice a9 a6.length aa, .slice ab a7.length ac] 27 (0, 0)) tq_46 hb) <| p_ (blk_below (g := ai) (o := .cells #[.int .i64 0, .slice none 0 0, .slice none 0 0] 35 (0, 0)) tq_45 hb) <| p_ (blk_below (g := ao) (o := .cells #[.int .i64 a8, .slice none 0 0, .slice none 0 0] 35 (0, 0)) (by (with_reducible repeat (first | refine blk_drewN ?_ _ | refine blk_drew ?_ | refine blk_alloc ?_ _)); refine blk_put (cs := #[.int .i64 0, .slice none 0 0, .slice none 0 0]) ?_ 0 _ rfl; (with_reducible repeat (first | refine blk_drewN ?_ _ | refine blk_drew ?_ | refine blk_alloc ?_ _)); exact a5.out) hb) <| a_ (below_step th_ hb); clear BK168 BK169 a5 HB; obtain ⟨HO173, BK168, BK169, a5, HB⟩ := z_; (try clear hb); (try clear ho0); obtain ⟨Ao13, av, aw⟩ := Kd.R_slice HO173.out; subst aw; have b6 := bb3_ a5.out; have b7 := bb3_ BK168.out) | ((with_reducible refine gate_callee (f := 23) rfl ?_); refine goesL_ (some 13) rfl rfl Tryz.func23 (by kernel_rfl) rfl #[.slice ab a7.length ac] rfl tq_0 ?_; (with_reducible refine (laws_toInodeS.calls k _ _ a7 au _ ?side1 ?side2 A3.out).mono ?_); (case side1 => exact Kd.C_below HR0_2.out th_); (case side2 => exact ar.out); rintro e bc ⟨v175, rfl, ho0, hb⟩; refine ⟨_, rfl, ?_⟩; have z_ := p_ (Kd.R_below (by (with_reducible repeat (first | apply Kd.R_alloc | apply Kd.R_drewN | apply Kd.R_drew)); exact (Kd.R_mono (rR_ (Kd.R_types HO173.out a5.out (by decide))) (fun _ h_ => h_.1))) hb) <| p_ (Kd.S_lower ho0 (below_size th_)) <| p_ (blk_below (g := an) (o := .cells #[.int .i64 a8, .slice a9 a6.length aa, .slice ab a7.length ac] 27 (0, 0)) tq_46 hb) <| p_ (blk_below (g := ai) (o := .cells #[.int .i64 0, .slice none 0 0, .slice none 0 0] 35 (0, 0)) tq_45 hb) <| p_ (blk_below (g := ao) (o := .cells #[.int .i64 a8, .slice Ao13 ap.length av, .slice none 0 0] 35 (0, 0)) (by (with_reducible repeat (first | refine blk_drewN ?_ _ | refine blk_drew ?_ | refine blk_alloc ?_ _)); refine blk_put (cs := #[.int .i64 a8, .slice none 0 0, .slice none 0 0]) ?_ 1 _ rfl; (with_reducible repeat (first | refine blk_drewN ?_ _ | refine blk_drew ?_ | refine blk_alloc ?_ _)); exact a5.out) hb) <| a_ (below_step th_ hb); clear HO173 BK168 BK169 a5 HB; obtain ⟨HO173, HO176, BK168, BK169, a5, HB⟩ := z_; (try clear hb); (try clear hk); (try clear ho0); obtain ⟨Ao17, ax, ay⟩ := Kd.S_slice HO176.out; subst ay; have b8 := bb3_ a5.out; have b9 := bb3_ BK169.out))
 refine bodyPost_ret (results_cell_row rfl _ _ ai 35 #[.int .i64 a8, .slice Ao13 ap.length av, .slice Ao17 au.length ax] (0, 0) _ rfl tb_ Tryz.underlying35 rfl (by kernel_rfl)) rfl ?_
 exact ⟨_, _, tq_1, (by (with_reducible repeat (first | apply Kd.R_alloc | apply Kd.R_drewN | apply Kd.R_drew)); exact Kd.R_mono (rR_ (rR_ (rR_ (rR_ (Kd.R_types (Kd.R_types HO173.out a5.out (by decide)) BK169.out (by decide)) (fun _ hk => hk.1.2))))) (fun _ hk => trivial)), (by (with_reducible repeat (first | apply Kd.S_alloc | apply Kd.S_drewN | apply Kd.S_drew)); exact Kd.S_mono (rS_ (rS_ (rS_ (rS_ (Kd.S_types (Kd.S_types HO176.out a5.out (by decide)) BK169.out (by decide)) (fun _ hk => hk.1.2))))) (fun _ hk => trivial)), th_⟩

/-! ### laws_eqWrite: function 27 -/
def laws_eqWrite.f (a5 : Int) (a6 : ByteArray) (a7 : Int) (a8 : ByteArray) : Option (Bool) := if a5 = a7 then (if a6.toList = a8.toList then (some true) else (some false)) else (some false)
set_option maxHeartbeats 8000000 in
set_option maxRecDepth 100000 in
theorem laws_eqWrite.calls (ac : Int) (ae : ByteArray) (af : Int) (ag : ByteArray) (r : Bool) (w : World) (h : laws_eqWrite.f ac ae af ag = some r) :
  Calls Tryz.prog 27 #[.agg #[.int .i64 ac, .string ae], .agg #[.int .i64 af, .string ag]] w fun e w' => e = .returned (.bool r) ∧ Below w.heap.size w w' := by
 have hu53 := Tryz.underlying53
 have HB := Aside0.mk (Below.refl w.heap.size w)
 unfold laws_eqWrite.f at h
 have H := h
 clear h
 have ao := Aside0.mk H
 clear H
 go_enter Tryz.func27, Tryz.ntmps27
 go_upto_if 9 with (first | ((with_reducible refine gate_dst (N := 2) rfl ?_); refine be_ 2 (cs := #[.int .i64 ac, .string ae]) 53 ?_; intro ap hg w4 hbox hb; have z_ := bx0_ th_ hb hbox hg; clear HB; obtain ⟨HB, a7, aq, ar⟩ := z_; clear hb hbox hg) | ((with_reducible refine gate_dst (N := 3) rfl ?_); refine be_ 3 (cs := #[.int .i64 af, .string ag]) 53 ?_; intro au hg w5 hbox hb; have z_ := bx1_ (kb_ a7) th_ hb hbox hg; clear a7 HB; obtain ⟨a7, HB, ah, av, aw, a5, a6⟩ := z_; clear hb hbox hg; obtain ⟨hnb6, hnc6⟩ := an2_ a5 a6; have ax := bb2_ a7.out; have ay := bb2_ ah.out))
 (try simp only [Act.put, List.setIfInBounds_toArray, List.set_cons_zero, List.set_cons_succ])
 (try clear ax)
 (try clear ay)
 (try clear ax)
 (try clear ay)
 have H := ao.out
 clear ao
 by_cases c9 : ac = af
 rotate_left
 ·rw [if_neg c9] at H
  have a9 := beq_eq_false_iff_ne.mpr c9
  have an := bne_iff_ne.mpr c9
  (first | rw [a9] | (simp only [i64_w, i32_w]; rw [a9]) | skip)
  obtain rfl := Option.some.inj H
  go_wp2
  go_ret
  exact ⟨tq_1, th_⟩
 rw [if_pos c9] at H
 have a9 := beq_iff_eq.mpr c9
 have an := bne_eq_false_iff_eq.mpr c9
 clear c9
 (first | rw [a9] | (simp only [i64_w, i32_w]; rw [a9]) | skip)
 have aj := Aside0.mk H
 clear H
 obtain ⟨aa, ab⟩ := an2_ a5 a6
 have ak := bb2_ a7.out
 have al := bb2_ ah.out
 go_upto_if 14 with (fail)
 (try clear aa ab)
 (try clear ak)
 (try clear al)
 (try clear ak)
 (try clear al)
 have H := aj.out
 clear aj
 by_cases ai : ae.toList = ag.toList
 rotate_left
 ·rw [if_neg ai] at H
  have a8 := beq_eq_false_iff_ne.mpr ai
  have am := bne_iff_ne.mpr ai
  (first | rw [a8] | (simp only [i64_w, i32_w]; rw [a8]) | skip)
  obtain rfl := Option.some.inj H
  go_wp2
  go_ret
  exact ⟨tq_1, th_⟩
 rw [if_pos ai] at H
 have a8 := beq_iff_eq.mpr ai
 have am := bne_eq_false_iff_eq.mpr ai
 clear ai
 (first | rw [a8] | (simp only [i64_w, i32_w]; rw [a8]) | skip)
 obtain rfl := Option.some.inj H
 go_wp2
 go_ret
 exact ⟨tq_1, th_⟩

/-! ### laws_eqWriteS: function 10 -/
def laws_eqWriteS.l0 : Nat → List (S53) → List (S53) → Int → Option (Bool)
 | 0, _, _, _ => none
 | k + 1, x0, x1, x5 => if x5 < (x0.length : Int) then (if 0 ≤ x5 then (if x5 < (x1.length : Int) then ((laws_eqWrite.f ((rd_T53 x0 x5).f0) ((rd_T53 x0 x5).f1) ((rd_T53 x1 x5).f0) ((rd_T53 x1 x5).f1)).bind fun a5 => (if a5 = true then (laws_eqWriteS.l0 k x0 x1 (wrap64 (x5 + 1))) else (some false))) else (none)) else (none)) else (some true)
def laws_eqWriteS.f (k : Nat) (l0 : List (S53)) (l1 : List (S53)) : Option (Bool) := if (l0.length : Int) = (l1.length : Int) then (laws_eqWriteS.l0 k l0 l1 0) else (some false)
def laws_eqWriteS.T6 : Bool × List (List Nat × List Nat) := (true, [([], []), ([], []), ([0, 1], [0, 1]), ([2], [2]), ([], []), ([], []), ([4, 5], [4, 5]), ([6], [6]), ([3, 7], [3, 7]), ([8], [8])])
def laws_eqWriteS.B6 : List Nat := [0, 0, 3, 7, 0, 0, 48, 112, 255, 511]
theorem laws_eqWriteS.tab6 : rtab .any (opsOf Tryz.f10 6) = laws_eqWriteS.T6 := by kernel_rfl
theorem laws_eqWriteS.bits6 : waitsOk laws_eqWriteS.T6.2 laws_eqWriteS.B6 = true := by kernel_rfl
set_option maxHeartbeats 8000000 in
set_option maxRecDepth 100000 in
theorem laws_eqWriteS.calls (k : Nat) (A0 : Option Addr) (c0 : Nat) (l0 : List (S53)) (A1 : Option Addr) (c1 : Nat) (l1 : List (S53)) (r : Bool) (w : World) (hr0 : Kd.C k53 w A0 l0.length l0) (hc0 : l0.length ≤ c0) (hr1 : Kd.C k53 w A1 l1.length l1) (hc1 : l1.length ≤ c1) (h : laws_eqWriteS.f k l0 l1 = some r) :
  Calls Tryz.prog 10 #[.slice A0 l0.length c0, .slice A1 l1.length c1] w fun e w' => e = .returned (.bool r) ∧ Below w.heap.size w w' := by
 have hu53 := Tryz.underlying53
 have HR0 := Aside0.mk hr0
 have ap := Aside0.mk hc0
 clear hr0 hc0
 have am := Aside0.mk hr1
 have aq := Aside0.mk hc1
 clear hr1 hc1
 have HB := Aside0.mk (Below.refl w.heap.size w)
 unfold laws_eqWriteS.f at h
 have H := h
 clear h
 by_cases c3 : (l0.length : Int) = (l1.length : Int)
 rotate_left
 ·rw [if_neg c3] at H
  have ac := beq_eq_false_iff_ne.mpr c3
  have ae := bne_iff_ne.mpr c3
  have af : (l0.length == l1.length) = false := by first | simpa using c3 | (simp at c3 ⊢; omega)
  obtain rfl := Option.some.inj H
  go_enter Tryz.func10, Tryz.ntmps10
  go_wp2
  go_ret
  exact ⟨tq_1, th_⟩
 rw [if_pos c3] at H
 have ac := beq_iff_eq.mpr c3
 have ae := bne_eq_false_iff_eq.mpr c3
 have af : (l0.length == l1.length) = true := by first | simpa using c3 | (simp at c3 ⊢; omega)
 clear c3
 have H' := Aside0.mk H
 clear H
 go_enter Tryz.func10, Tryz.ntmps10
 go_wp2
 go_loopg [5] k (fun kq v5 w' => ∃ (a5 : Int), v5 = .int .i64 a5 ∧ Aside0 (laws_eqWriteS.l0 kq l0 l1 a5 = some r) ∧ Aside0 (kq ≤ k) ∧ Aside0 (Below w.heap.size w w'))
 case atStart => exact ⟨(0), tq_3, H', ⟨Nat.le_refl _⟩, ⟨th_⟩⟩
 case round =>
 clear H'
 try clear c1; try clear p2; try clear c3; try clear ac; try clear ae; try clear af
 obtain ⟨a5, rfl, HA, HK1, HB⟩ := hrel
 cases gk with
 | zero => exact absurd HA.out (by simp [laws_eqWriteS.l0])
 | succ k1 =>
 have H := HA.out
 clear HA
 simp only [laws_eqWriteS.l0] at H
 by_cases c4 : a5 < (l0.length : Int)
 rotate_left
 ·rw [if_neg c4] at H
  have ai := decide_eq_false c4
  clear c4
  obtain rfl := Option.some.inj H
  go_wp2
  go_ret
  exact ⟨tq_1, th_⟩
 rw [if_pos c4] at H
 have ai := decide_eq_true c4
 clear c4
 obtain ⟨c5, H⟩ := fc_ H
 have an := decide_eq_true c5
 clear c5
 obtain ⟨c6, H⟩ := fc_ H
 have ao := decide_eq_true c6
 clear c6
 obtain ⟨ag, A7, H⟩ := bd_ H
 have al := Aside0.mk H
 clear H
 try go_wp2
 have n0_ := Aside0.mk (below_drew1 HB.out)
 clear HB
 have HB := n0_
 clear n0_
 have p179 : 0 ≤ (a5 : Int) := of_decide_eq_true tq_2
 have q179 : a5 < (l0.length : Int) := of_decide_eq_true tq_2
 obtain ⟨aa, aj, a6, a7⟩ := at_T53 HR0.out a5 p179 q179
 have hw179_1 := a7
 have hw179_0 := a6
 cases aj
 replace a6 := hx_ HB.out a6
 replace a7 := hx_ HB.out a7
 replace p179 := eq_true p179
 replace q179 := eq_true q179
 have p180 : 0 ≤ (a5 : Int) := of_decide_eq_true tq_2
 have q180 : a5 < (l1.length : Int) := of_decide_eq_true tq_2
 obtain ⟨ab, ak, a8, a9⟩ := at_T53 am.out a5 p180 q180
 have hw180_1 := a9
 have hw180_0 := a8
 cases ak
 replace a8 := hx_ HB.out a8
 replace a9 := hx_ HB.out a9
 replace p180 := eq_true p180
 replace q180 := eq_true q180
 refine start_ (n := 10) (S := fun w' => w'.cell? (aa.add ((a5).toNat * 2)) = some (.int .i64 ((rd_T53 l0 a5).f0)) ∧ w'.cell? ⟨(aa.add ((a5).toNat * 2)).block, (aa.add ((a5).toNat * 2)).off + 1, none⟩ = some (.string ((rd_T53 l0 a5).f1)) ∧ w'.cell? (ab.add ((a5).toNat * 2)) = some (.int .i64 ((rd_T53 l1 a5).f0)) ∧ w'.cell? ⟨(ab.add ((a5).toNat * 2)).block, (ab.add ((a5).toNat * 2)).off + 1, none⟩ = some (.string ((rd_T53 l1 a5).f1))) (ds := []) bq_5 (by kernel_rfl) rfl rfl ⟨((HB.out.cell (World.block_lt_of_cell? w _ hw179_0)).trans hw179_0), ((HB.out.cell (World.block_lt_of_cell? w _ hw179_1)).trans hw179_1), ((HB.out.cell (World.block_lt_of_cell? w _ hw180_0)).trans hw180_0), ((HB.out.cell (World.block_lt_of_cell? w _ hw180_1)).trans hw180_1)⟩ (fun hHeld => ?_); refine with_tabW laws_eqWriteS.tab6 laws_eqWriteS.bits6 (fun HT_ HW_ => ?_)
 generalize wr.drew = w9 at HB a6 a7 a8 a9 hHeld ⊢
 refine yr_ 0 17 bq_6 HT_ ?_
 refine yr_ 1 18 bq_7 HT_ ?_
 refine yr_ 2 19 bq_8 HT_ ?_
 refine yr_ 4 21 bq_9 HT_ ?_
 refine yr_ 5 22 bq_10 HT_ ?_
 refine yr_ 6 23 bq_11 HT_ ?_
 refine tr_ 3 20 bq_12 HT_ HW_ hHeld ?_
 refine tr_ 7 24 bq_13 HT_ HW_ hHeld ?_
 refine one_ (i := 8) (N := some 25) bq_14 rfl rfl (one_of HT_.out (by kernel_rfl)) (by decide) (fun K hK => ?_)
 refine goes_ Tryz.func27 (by kernel_rfl) rfl #[.agg #[.int .i64 ((rd_T53 l0 a5).f0), .string ((rd_T53 l0 a5).f1)], .agg #[.int .i64 ((rd_T53 l1 a5).f0), .string ((rd_T53 l1 a5).f1)]] (by rfl) rfl rfl tq_0 ?_
 with_reducible refine (laws_eqWrite.calls ((rd_T53 l0 a5).f0) ((rd_T53 l0 a5).f1) ((rd_T53 l1 a5).f0) ((rd_T53 l1 a5).f1) ag _ A7.out).mono ?_
 rintro e ar ⟨rfl, hb⟩
 refine ⟨_, rfl, ?_⟩
 have n0_ := Aside0.mk (below_step th_ hb)
 clear HB
 have HB := n0_
 clear n0_
 (try clear hb)
 refine hK.out _ _ ⟨((HB.out.cell (World.block_lt_of_cell? w _ hw179_0)).trans hw179_0), ((HB.out.cell (World.block_lt_of_cell? w _ hw179_1)).trans hw179_1), ((HB.out.cell (World.block_lt_of_cell? w _ hw180_0)).trans hw180_0), ((HB.out.cell (World.block_lt_of_cell? w _ hw180_1)).trans hw180_1)⟩ (fun hHeld => ?_)
 clear hK K
 refine nm_ (some 25) ?_
 refine yr_ 9 26 bq_15 HT_ ?_
 refine done_ (done_of HT_.out (by kernel_rfl)) ?_
 go_upto_if 26 with (fail)
 (try clear a6 a7)
 (try clear a8 a9)
 have H := al.out
 clear al
 by_cases ah : ag = true
 rotate_left
 ·replace ah := Bool.eq_false_iff.mpr ah
  subst ah
  rw [if_neg nf_] at H
  obtain rfl := Option.some.inj H
  go_wp2
  go_ret
  exact ⟨tq_1, th_⟩
 subst ah
 rw [if_pos rfl] at H
 have H' := Aside0.mk H
 clear H
 go_wp2
 go_roundg k1
 case measure => have := HK1.out; omega
 case rel => exact ⟨(wrap64 (a5 + 1)), tq_3, H', ⟨tq_22⟩, ⟨th_⟩⟩

end Go.Proofs.YtleoknilacjakaaGreat.PFnExactChanged
