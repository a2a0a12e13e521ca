/- Contracts of Go functions: each call returns what the Lean function beside it computes. Conditions: as each theorem states them. -/
import Derived.Test.YtleoknilacjakaaGreatPkFnExactChanged
import Derived.Test.YtleoknilacjakaaGreatPFnExactChangedx1
import Derived.Test.YtleoknilacjakaaGreatPFnExactChangedx5
namespace Go.Proofs.YtleoknilacjakaaGreat.PFnExactChanged
open Go.RowKit Go.Proofs.YtleoknilacjakaaGreatW.PrintWords Go.Proofs.YtleoknilacjakaaGreatW.PrintLast Go.Proofs.YtleoknilacjakaaGreatW.PrintMore
attribute [local go_sem] max2_int min2_int max_two min_two max_three min_three max_four min_four   -- for this text's walks alone
set_option linter.unusedVariables false
set_option linter.unusedSimpArgs false

/-! ### laws_markText: function 32 -/
def laws_markText.l0 : Nat → Int → ByteArray → Option (ByteArray)
 | 0, _, _ => none
 | k + 1, x0, x3 => if x0 > 0 then ((some (([(wrap64 (48 + (Int.tmod x0 10))) % 256] : List Int) : List Int)).bind fun a5 => (if (strOfNums a5).size + x3.size ≤ 9223372036854775807 then (laws_markText.l0 k (wrap64 (Int.tdiv x0 10)) ((strOfNums a5) ++ x3)) else (none))) else (if 1 + x3.size ≤ 9223372036854775807 then (some ((⟨#[109]⟩ : ByteArray) ++ x3)) else (none))
def laws_markText.f (k : Nat) (a0 : Int) : Option (ByteArray) := if a0 ≤ 0 then (some (⟨#[109, 48]⟩ : ByteArray)) else (laws_markText.l0 k a0 (⟨#[]⟩ : ByteArray))
set_option maxHeartbeats 8000000 in
set_option maxRecDepth 100000 in
theorem laws_markText.calls (k : Nat) (a0 : Int) (r : ByteArray) (w : World) (h : laws_markText.f k a0 = some r) :
  Calls Tryz.prog 32 #[.int .i64 a0] w fun e w' => e = .returned (.string r) ∧ Below w.heap.size w w' := by
 have HB := Aside0.mk (Below.refl w.heap.size w)
 unfold laws_markText.f at h
 have H := h
 clear h
 by_cases c2 : a0 ≤ 0
 ·rw [if_pos c2] at H
  have a7 := decide_eq_true c2
  clear c2
  obtain rfl := Option.some.inj H
  go_enter Tryz.func32, Tryz.ntmps32
  go_wp2
  go_ret
  exact ⟨tq_1, th_⟩
 rw [if_neg c2] at H
 have a7 := decide_eq_false c2
 clear c2
 have H' := Aside0.mk H
 clear H
 go_enter Tryz.func32, Tryz.ntmps32
 go_wp2
 go_loopg [0, 3] k (fun kq v0 v3 w' => ∃ (a5 : Int) (a6 : ByteArray), v0 = .int .i64 a5 ∧ v3 = .string a6 ∧ Aside0 (laws_markText.l0 kq a5 a6 = some r) ∧ Aside0 (kq ≤ k) ∧ Aside0 (Below w.heap.size w w'))
 case atStart => exact ⟨(a0), ((⟨#[]⟩ : ByteArray)), tq_3, tq_3, H', ⟨Nat.le_refl _⟩, ⟨th_⟩⟩
 case round =>
 clear H'
 try clear c2; try clear a7; try clear p2
 obtain ⟨a5, a6, rfl, rfl, HA, HK1, HB⟩ := hrel
 cases gk with
 | zero => exact absurd HA.out (by simp [laws_markText.l0])
 | succ k1 =>
 have H := HA.out
 clear HA
 simp only [laws_markText.l0] at H
 by_cases c3 : a5 > 0
 rotate_left
 ·rw [if_neg c3] at H
  have a9 := decide_eq_false c3
  clear c3
  obtain ⟨c8, H⟩ := fc_ H
  have aa := eq_true c8
  have ab := decide_eq_true c8
  try have ac : (9223372036854775807 < 1 + a6.size) = False := eq_false (Nat.not_lt.2 c8)
  obtain rfl := Option.some.inj H
  go_wp2
  go_ret
  exact ⟨tq_1, th_⟩
 rw [if_pos c3] at H
 have a9 := decide_eq_true c3
 clear c3
 obtain ⟨a8, Ny206, H⟩ := bs_ H
 obtain ⟨c4, H⟩ := fc_ H
 have ae := eq_true c4
 have af := decide_eq_true c4
 try have ag : (9223372036854775807 < (strOfNums a8).size + a6.size) = False := eq_false (Nat.not_lt.2 c4)
 have H' := Aside0.mk H
 clear H
 go_wp2_with (first | ((with_reducible refine gate_dst (N := 12) rfl ?_); refine Kd.R_lit (Kd.int .u8) _ 5 ?hg (N := 12) ?hd (xs := ([(wrap64 (48 + (Int.tmod a5 10))) % 256] : List Int)) (inner := [.int .u8 ((wrap64 (48 + (Int.tmod a5 10))) % 256)]) (ok := fun _ => True) (okp := fun _ => True) ?hr ?hp (fun _ hk => hk) trivial (Below.refl _ _) (Nat.le_refl _) (by simp) ?_; (case hd => rfl); (case hg => rfl); (case hr => first | (go_simp; done) | (go_simp; rfl)); (case hp => exact (Reps.one (show Kd.M (Kd.int .u8) _ _ _ ((wrap64 (48 + (Int.tmod a5 10))) % 256) [.int .u8 ((wrap64 (48 + (Int.tmod a5 10))) % 256)] from rfl) (Reps.none _ _))); intro v207 w5 ho6 hb hg_ hnew_; clear hg_ hnew_; (first | rw [← Ny206.out] at ho6 | (simp only [Int.reduceToNat] at ho6; rw [← Ny206.out] at ho6)); have z_ := p_ (Kd.R_lower ho6 (below_size th_)) <| a_ (below_step th_ hb); clear HB; obtain ⟨HO208, HB⟩ := z_; clear hb ho6; have hcv7 := own_string (P := Tryz.prog) Tryz.underlying83 Tryz.underlying5 Tryz.underlying9 (Kd.own_of_R HO208.out)))
 go_roundg k1
 case measure => have := HK1.out; omega
 case rel => exact ⟨(wrap64 (Int.tdiv a5 10)), ((strOfNums a8) ++ a6), tq_3, tq_3, H', ⟨tq_22⟩, ⟨th_⟩⟩

/-! ### laws_markRecS: function 59 -/
def laws_markRecS.l0 : Nat → List (S89) → Int → Int → Option (Int × (List (S89)))
 | 0, _, _, _ => none
 | k + 1, x0, x1, x5 => if x5 < (x0.length : Int) then (if 0 ≤ x5 then ((some (x0.set (x5 : Int).toNat (⟨x1, (rd_T89 x0 x5).f1, (rd_T89 x0 x5).f2⟩ : S89) : List (S89))).bind fun a5 => ((some (a5.set (x5 : Int).toNat (⟨(rd_T89 a5 x5).f0, wrap64 (x1 + 1), (rd_T89 a5 x5).f2⟩ : S89) : List (S89))).bind fun a6 => ((laws_markText.f k (wrap64 ((wrap64 (x1 + 1)) + 1))).bind fun a7 => (laws_markRecS.l0 k (a6.set (x5 : Int).toNat (⟨(rd_T89 a6 x5).f0, (rd_T89 a6 x5).f1, a7⟩ : S89)) (wrap64 ((wrap64 ((wrap64 (x1 + 1)) + 1)) + 1)) (wrap64 (x5 + 1)))))) else (none)) else (some (x1, x0))
def laws_markRecS.f (k : Nat) (l0 : List (S89)) (a1 : Int) : Option (Int × (List (S89))) := laws_markRecS.l0 k l0 a1 0
set_option maxHeartbeats 8000000 in
set_option maxRecDepth 100000 in
theorem laws_markRecS.calls (k : Nat) (P0_ : Nat → Prop) (u9000_ : Value) (l0 : List (S89)) (a1 : Int) (r1 : Int) (r2 : List (S89)) (w0 w : World) (hB : Below w0.heap.size w0 w) (ho0 : Kd.R k89 89 w w0.heap.size P0_ u9000_ l0) (h : laws_markRecS.f k l0 a1 = some (r1, r2)) :
  Calls Tryz.prog 59 #[u9000_, .int .i64 a1] w fun e w' => e = .returned (.int .i64 r1) ∧ Kd.R k89 89 w' w0.heap.size (fun k_ => (P0_ k_ ∨ w.heap.size ≤ k_)) u9000_ r2 ∧ Below w0.heap.size w0 w' ∧ Kept w w' (fun k_ => P0_ k_) := by
 have HO0 := Aside0.mk (show Kd.R k89 89 w w0.heap.size (fun k_ => (P0_ k_ ∨ w.heap.size ≤ k_)) u9000_ l0 from Kd.R_mono ho0 (fun k_ hk => (.inl hk)))
 have HK := Aside0.mk (Kept.refl w (fun k_ => P0_ k_))
 have HW0 := Aside0.mk hB.size
 have HB := Aside0.mk hB
 clear hB
 unfold laws_markRecS.f at h
 have H := h
 clear h
 have H' := Aside0.mk H
 clear H
 go_enter Tryz.func59, Tryz.ntmps59
 go_wp2
 go_loopg [1, 5] k (fun kq v1 v5 w' => ∃ (a6 : List (S89)) (a8 : Int) (a5 : Int), v1 = .int .i64 a8 ∧ v5 = .int .i64 a5 ∧ Aside0 (laws_markRecS.l0 kq a6 a8 a5 = some (r1, r2)) ∧ Aside0 (kq ≤ k) ∧ Aside0 (Kd.R k89 89 w' w0.heap.size (fun k_ => (P0_ k_ ∨ w.heap.size ≤ k_)) u9000_ a6) ∧ Aside0 (Kept w w' (fun k_ => P0_ k_)) ∧ Aside0 (Below w0.heap.size w0 w'))
 case atStart => exact ⟨(l0), (a1), (0), tq_3, tq_3, H', ⟨Nat.le_refl _⟩, ⟨(raR_ HO0)⟩, ⟨tq_4⟩, ⟨th_⟩⟩
 case round =>
 clear H'
 try clear p2
 obtain ⟨a6, a8, a5, rfl, rfl, HA, HK1, HO_0, HK, HB⟩ := hrel
 cases gk with
 | zero => exact absurd HA.out (by simp [laws_markRecS.l0])
 | succ k1 =>
 have H := HA.out
 clear HA
 simp only [laws_markRecS.l0] at H
 have bp := Aside0.mk H
 clear H
 obtain ⟨Ao4, b4, cj⟩ := Kd.R_slice HO_0.out
 subst cj
 go_upto_if 9 with (fail)
 have H := bp.out
 clear bp
 by_cases c5 : a5 < (a6.length : Int)
 rotate_left
 ·rw [if_neg c5] at H
  have ag := decide_eq_false c5
  clear c5
  (first | rw [ag] | (simp only [i64_w, i32_w]; rw [ag]) | skip)
  simp only [Option.some.injEq, Prod.mk.injEq] at H
  obtain ⟨rfl, rfl⟩ := H
  go_wp2
  go_ret
  exact ⟨tq_1, (raR_ HO_0), th_, tq_4⟩
 rw [if_pos c5] at H
 have ag := decide_eq_true c5
 clear c5
 (first | rw [ag] | (simp only [i64_w, i32_w]; rw [ag]) | skip)
 obtain ⟨c6, H⟩ := fc_ H
 have ck := decide_eq_true c6
 clear c6
 obtain ⟨aa, Ny209, H⟩ := bs_ H
 obtain ⟨a9, Ny210, H⟩ := bs_ H
 obtain ⟨ae, A9, H⟩ := bd_ H
 obtain ⟨ax, hy212⟩ : ∃ y_ : List (S89), y_ = (a9.set (a5 : Int).toNat (⟨(rd_T89 a9 a5).f0, (rd_T89 a9 a5).f1, ae⟩ : S89)) := ⟨_, rfl⟩
 replace H : (laws_markRecS.l0 k1 ax (wrap64 ((wrap64 ((wrap64 (a8 + 1)) + 1)) + 1)) (wrap64 (a5 + 1))) = some (r1, r2) := by first | (rw [hy212]; with_reducible exact H) | (have H2_ := (Option.bind_some _ _).symm.trans H; rw [hy212]; with_reducible exact H2_) | (have H2_ := (Option.bind_some _ _).symm.trans H; with_reducible exact H2_) | with_reducible exact H | (rw [hy212]; exact H) | exact H
 have Ny212 := Aside0.mk hy212
 clear hy212
 have H' := Aside0.mk H
 clear H
 have p7 : 0 ≤ (a5 : Int) := of_decide_eq_true tq_2
 have q7 : (a5 : Int) < ((a6.length : Int) : Int) := of_decide_eq_true tq_2
 obtain ⟨a7, cq, bq, br, cl, cr, bs⟩ := Kd.R_form HO_0.out (by omega)
 (first | cases bq | (injection bq with ea_ en_ ec_; (first | subst ea_ | (injection ea_ with ea_; subst ea_)); subst ec_; clear en_))
 have bd := Aside0.mk br
 have ct := Aside0.mk bs
 clear br cl bs
 have HMgo7 := Aside0.mk (show (P0_ a7 ∨ w.heap.size ≤ a7) from (HO_0.out.1 _ rfl))
 obtain ⟨cu, be, bu, ak, al⟩ := Kd.R_elem HO_0.out z89 (a5 : Int) p7 q7
 obtain rfl := k89_openM bu
 have bv : wr.cell? ⟨a7, (a5 : Int).toNat * 3, none⟩ = some (.int .i64 ((rd_T89 a6 a5).f0)) := ak 0 _ rfl
 have bw : wr.cell? ⟨a7, (a5 : Int).toNat * 3 + 1, none⟩ = some (.int .i64 ((rd_T89 a6 a5).f1)) := ak 1 _ rfl
 have bx : wr.cell? ⟨a7, (a5 : Int).toNat * 3 + 2, none⟩ = some (.string ((rd_T89 a6 a5).f2)) := ak 2 _ rfl
 have bz : wr.frozen? ⟨a7, (a5 : Int).toNat * 3, none⟩ = false := al 0
 have ca : wr.frozen? ⟨a7, (a5 : Int).toNat * 3 + 1, none⟩ = false := al 1
 have cb : wr.frozen? ⟨a7, (a5 : Int).toNat * 3 + 2, none⟩ = false := al 2
 clear be ak al bu
 replace p7 := eq_true p7
 replace q7 := eq_true q7
 have b5 := Aside0.mk (show Kd.R k89 89 wr w0.heap.size (fun k_ => (P0_ k_ ∨ w.heap.size ≤ k_)) (.slice (some ⟨a7, 0, none⟩) a6.length b4) a6 from (raR_ HO_0))
 obtain ⟨cm, ap, b6, ah, aq⟩ := Kd.R_elem b5.out z89 (a5 : Int) (of_decide_eq_true tq_2) (by have h_ : (a5 : Int) < ((a6.length : Int) : Int) := of_decide_eq_true tq_2; first | exact h_ | (have e_ := (Kd.R_reads' HO_0.out).1; omega) | simpa using h_)
 obtain rfl := k89_openM b6
 have HP11 := Kd.R_seg b5.out (a5 : Int) (of_decide_eq_true tq_2) (by have h_ : (a5 : Int) < ((a6.length : Int) : Int) := of_decide_eq_true tq_2; first | exact h_ | (have e_ := (Kd.R_reads' HO_0.out).1; omega) | simpa using h_) (seg := [.int .i64 a8]) (j := 0) ap ah (show 1 ≤ 3 from by decide) (x' := (⟨a8, (rd_T89 a6 a5).f1, (rd_T89 a6 a5).f2⟩ : S89)) (k89_mkM _ _ _ (⟨a8, (rd_T89 a6 a5).f1, (rd_T89 a6 a5).f2⟩ : S89) ) (fun _ hk => hk)
 have ay := ah 0 _ rfl
 (try simp only [show (k89).sz = 3 from rfl, Nat.mul_one, Nat.add_zero] at ay)
 have az := aq 0
 (try simp only [show (k89).sz = 3 from rfl, Nat.mul_one, Nat.add_zero] at az)
 clear ap ah aq b6
 go_wp2_with (first | ((with_reducible refine gate_store (t := 3) (p := 16) rfl ?_); refine store_event (t := 3) (p := 16) (v := ?vo_w12) (w1 := (wr.setCell ⟨a7, (a5 : Int).toNat * 3, none⟩ (.int .i64 a8))) ?hg ?ho ?hn ?hr ?_; (case ho => rfl); (case hg => rfl); (case hn => rfl); (case hr => first | (go_simp; done) | (go_simp; rfl)); intro af hw; have hg : wr.grownBy af (some a7) := (by rw [hw]; exact HP11.2); have hp_ : Kd.R k89 89 af w0.heap.size (fun k_ => (P0_ k_ ∨ w.heap.size ≤ k_)) (.slice (some ⟨a7, 0, none⟩) a6.length b4) aa := (by rw [hw, Ny209.out]; exact HP11.1); clear HP11; have z_ := p_ (hp_) <| p_ ((by rw [hw]; exact below_set (HB.out) bd.out : Below w0.heap.size w0 af)) <| a_ (Kept.of_grown (S := (fun k_ => P0_ k_)) hg tq_4 (fun k_ e_ => (HO_0.out.1 k_ e_))); clear HO_0 HB HK; obtain ⟨HO_0, HB, HK⟩ := z_; clear hg hw hp_; have p8 : 0 ≤ (a5 : Int) := of_decide_eq_true tq_2; have q8 : (a5 : Int) < ((a6.length : Int) : Int) := of_decide_eq_true tq_2; obtain ⟨cv, bf, cc, am, an⟩ := Kd.R_elem HO_0.out z89 (a5 : Int) p8 q8; obtain rfl := k89_openM cc; have cd : af.cell? ⟨a7, (a5 : Int).toNat * 3, none⟩ = some (.int .i64 ((rd_T89 aa a5).f0)) := am 0 _ rfl; have ce : af.cell? ⟨a7, (a5 : Int).toNat * 3 + 1, none⟩ = some (.int .i64 ((rd_T89 aa a5).f1)) := am 1 _ rfl; have cf : af.cell? ⟨a7, (a5 : Int).toNat * 3 + 2, none⟩ = some (.string ((rd_T89 aa a5).f2)) := am 2 _ rfl; have cg : af.frozen? ⟨a7, (a5 : Int).toNat * 3, none⟩ = false := an 0; have ch : af.frozen? ⟨a7, (a5 : Int).toNat * 3 + 1, none⟩ = false := an 1; have ci : af.frozen? ⟨a7, (a5 : Int).toNat * 3 + 2, none⟩ = false := an 2; clear bf am an cc; replace p8 := eq_true p8; replace q8 := eq_true q8; have b7 := Aside0.mk (show Kd.R k89 89 af w0.heap.size (fun k_ => (P0_ k_ ∨ w.heap.size ≤ k_)) (.slice (some ⟨a7, 0, none⟩) a6.length b4) aa from (raR_ HO_0)); obtain ⟨cn, ar, b8, ai, au⟩ := Kd.R_elem b7.out z89 (a5 : Int) (of_decide_eq_true tq_2) (by have h_ : (a5 : Int) < ((a6.length : Int) : Int) := of_decide_eq_true tq_2; first | exact h_ | (have e_ := (Kd.R_reads' HO_0.out).1; omega) | simpa using h_); obtain rfl := k89_openM b8; have HP13 := Kd.R_seg b7.out (a5 : Int) (of_decide_eq_true tq_2) (by have h_ : (a5 : Int) < ((a6.length : Int) : Int) := of_decide_eq_true tq_2; first | exact h_ | (have e_ := (Kd.R_reads' HO_0.out).1; omega) | simpa using h_) (seg := [.int .i64 (wrap64 (a8 + 1))]) (j := 1) ar ai (show 2 ≤ 3 from by decide) (x' := (⟨(rd_T89 aa a5).f0, wrap64 (a8 + 1), (rd_T89 aa a5).f2⟩ : S89)) (k89_mkM _ _ _ (⟨(rd_T89 aa a5).f0, wrap64 (a8 + 1), (rd_T89 aa a5).f2⟩ : S89) ) (fun _ hk => hk); have b0 := ai 1 _ rfl; (try simp only [show (k89).sz = 3 from rfl, Nat.mul_one, Nat.add_zero] at b0); have b1 := au 1; (try simp only [show (k89).sz = 3 from rfl, Nat.mul_one, Nat.add_zero] at b1); clear ar ai au b8) | ((with_reducible refine gate_store (t := 3) (p := 23) rfl ?_); refine store_event (t := 3) (p := 23) (v := ?vo_w14) (w1 := (af.setCell ⟨a7, (a5 : Int).toNat * 3 + 1, none⟩ (.int .i64 (wrap64 (a8 + 1))))) ?hg ?ho ?hn ?hr ?_; (case ho => rfl); (case hg => rfl); (case hn => rfl); (case hr => first | (go_simp; done) | (go_simp; rfl)); intro bg hw; have hg : af.grownBy bg (some a7) := (by rw [hw]; exact HP13.2); have hp_ : Kd.R k89 89 bg w0.heap.size (fun k_ => (P0_ k_ ∨ w.heap.size ≤ k_)) (.slice (some ⟨a7, 0, none⟩) a6.length b4) a9 := (by rw [hw, Ny210.out]; exact HP13.1); clear HP13; have z_ := p_ (hp_) <| p_ ((by rw [hw]; exact below_set (HB.out) bd.out : Below w0.heap.size w0 bg)) <| a_ (Kept.of_grown (S := (fun k_ => P0_ k_)) hg tq_4 (fun k_ e_ => (HO_0.out.1 k_ e_))); clear HO_0 HB HK; obtain ⟨HO_0, HB, HK⟩ := z_; clear hg hw hp_) | ((with_reducible refine gate_callee (f := 32) rfl ?_); refine goesL_ (some 29) rfl rfl Tryz.func32 (by kernel_rfl) rfl #[.int .i64 (wrap64 ((wrap64 (a8 + 1)) + 1))] rfl tq_0 ?_; (with_reducible refine (laws_markText.calls k1 (wrap64 ((wrap64 (a8 + 1)) + 1)) ae _ A9.out).mono ?_); rintro e ao ⟨rfl, hb⟩; refine ⟨_, rfl, ?_⟩; have z_ := p_ (Kd.R_below (raR_ HO_0) hb) <| p_ (Kept.below (S := (fun k_ => P0_ k_)) tq_4 hb) <| a_ (below_step th_ hb); clear HO_0 HK HB; obtain ⟨HO_0, HK, HB⟩ := z_; (try clear hb); (try clear hk); have p10 : 0 ≤ (a5 : Int) := of_decide_eq_true tq_2; have q10 : (a5 : Int) < ((a6.length : Int) : Int) := of_decide_eq_true tq_2; obtain ⟨co, b9, ba, ab, ac⟩ := Kd.R_elem HO_0.out z89 (a5 : Int) p10 q10; obtain rfl := k89_openM ba; have bh : ao.cell? ⟨a7, (a5 : Int).toNat * 3, none⟩ = some (.int .i64 ((rd_T89 a9 a5).f0)) := ab 0 _ rfl; have bi : ao.cell? ⟨a7, (a5 : Int).toNat * 3 + 1, none⟩ = some (.int .i64 ((rd_T89 a9 a5).f1)) := ab 1 _ rfl; have bj : ao.cell? ⟨a7, (a5 : Int).toNat * 3 + 2, none⟩ = some (.string ((rd_T89 a9 a5).f2)) := ab 2 _ rfl; have bl : ao.frozen? ⟨a7, (a5 : Int).toNat * 3, none⟩ = false := ac 0; have bm : ao.frozen? ⟨a7, (a5 : Int).toNat * 3 + 1, none⟩ = false := ac 1; have bn : ao.frozen? ⟨a7, (a5 : Int).toNat * 3 + 2, none⟩ = false := ac 2; clear b9 ab ac ba; replace p10 := eq_true p10; replace q10 := eq_true q10; have bb := Aside0.mk (show Kd.R k89 89 ao w0.heap.size (fun k_ => (P0_ k_ ∨ w.heap.size ≤ k_)) (.slice (some ⟨a7, 0, none⟩) a6.length b4) a9 from (raR_ HO_0)); obtain ⟨cp, av, bc, aj, aw⟩ := Kd.R_elem bb.out z89 (a5 : Int) (of_decide_eq_true tq_2) (by have h_ : (a5 : Int) < ((a6.length : Int) : Int) := of_decide_eq_true tq_2; first | exact h_ | (have e_ := (Kd.R_reads' HO_0.out).1; omega) | simpa using h_); obtain rfl := k89_openM bc; have HP16 := Kd.R_seg bb.out (a5 : Int) (of_decide_eq_true tq_2) (by have h_ : (a5 : Int) < ((a6.length : Int) : Int) := of_decide_eq_true tq_2; first | exact h_ | (have e_ := (Kd.R_reads' HO_0.out).1; omega) | simpa using h_) (seg := [.string ae]) (j := 2) av aj (show 3 ≤ 3 from by decide) (x' := (⟨(rd_T89 a9 a5).f0, (rd_T89 a9 a5).f1, ae⟩ : S89)) (k89_mkM _ _ _ (⟨(rd_T89 a9 a5).f0, (rd_T89 a9 a5).f1, ae⟩ : S89) ) (fun _ hk => hk); have b2 := aj 2 _ rfl; (try simp only [show (k89).sz = 3 from rfl, Nat.mul_one, Nat.add_zero] at b2); have b3 := aw 2; (try simp only [show (k89).sz = 3 from rfl, Nat.mul_one, Nat.add_zero] at b3); clear av aj aw bc) | ((with_reducible refine gate_store (t := 9) (p := 31) rfl ?_); refine store_event (t := 9) (p := 31) (v := ?vo_w17) (w1 := (ao.setCell ⟨a7, (a5 : Int).toNat * 3 + 2, none⟩ (.string ae))) ?hg ?ho ?hn ?hr ?_; (case ho => rfl); (case hg => rfl); (case hn => rfl); (case hr => first | (go_simp; done) | (go_simp; rfl)); intro bo hw; have hg : ao.grownBy bo (some a7) := (by rw [hw]; exact HP16.2); have hp_ : Kd.R k89 89 bo w0.heap.size (fun k_ => (P0_ k_ ∨ w.heap.size ≤ k_)) (.slice (some ⟨a7, 0, none⟩) a6.length b4) ax := (by rw [hw, Ny212.out]; exact HP16.1); clear HP16; have z_ := p_ (hp_) <| p_ ((by rw [hw]; exact below_set (HB.out) bd.out : Below w0.heap.size w0 bo)) <| a_ (Kept.of_grown (S := (fun k_ => P0_ k_)) hg tq_4 (fun k_ e_ => (HO_0.out.1 k_ e_))); clear HO_0 HB HK; obtain ⟨HO_0, HB, HK⟩ := z_; clear hg hw hp_))
 go_roundg k1
 case measure => have := HK1.out; omega
 case rel => exact ⟨(ax), (wrap64 ((wrap64 ((wrap64 (a8 + 1)) + 1)) + 1)), (wrap64 (a5 + 1)), tq_3, tq_3, H', ⟨tq_22⟩, ⟨(raR_ HO_0)⟩, ⟨tq_4⟩, ⟨th_⟩⟩

/-! ### laws_markEntryS: function 60 -/
def laws_markEntryS.l0 : Nat → List (S72) → Int → Int → Option (Int × (List (S72)))
 | 0, _, _, _ => none
 | k + 1, x0, x1, x5 => if x5 < (x0.length : Int) then (if 0 ≤ x5 then ((some (x0.set (x5 : Int).toNat (⟨x1, (rd_T72 x0 x5).f1⟩ : S72) : List (S72))).bind fun a5 => ((laws_markText.f k (wrap64 (x1 + 1))).bind fun a6 => (laws_markEntryS.l0 k (a5.set (x5 : Int).toNat (⟨(rd_T72 a5 x5).f0, a6⟩ : S72)) (wrap64 ((wrap64 (x1 + 1)) + 1)) (wrap64 (x5 + 1))))) else (none)) else (some (x1, x0))
def laws_markEntryS.f (k : Nat) (l0 : List (S72)) (a1 : Int) : Option (Int × (List (S72))) := laws_markEntryS.l0 k l0 a1 0
set_option maxHeartbeats 8000000 in
set_option maxRecDepth 100000 in
theorem laws_markEntryS.calls (k : Nat) (P0_ : Nat → Prop) (u9000_ : Value) (l0 : List (S72)) (a1 : Int) (r1 : Int) (r2 : List (S72)) (w0 w : World) (hB : Below w0.heap.size w0 w) (ho0 : Kd.R k72 72 w w0.heap.size P0_ u9000_ l0) (h : laws_markEntryS.f k l0 a1 = some (r1, r2)) :
  Calls Tryz.prog 60 #[u9000_, .int .i64 a1] w fun e w' => e = .returned (.int .i64 r1) ∧ Kd.R k72 72 w' w0.heap.size (fun k_ => (P0_ k_ ∨ w.heap.size ≤ k_)) u9000_ r2 ∧ Below w0.heap.size w0 w' ∧ Kept w w' (fun k_ => P0_ k_) := by
 have HO0 := Aside0.mk (show Kd.R k72 72 w w0.heap.size (fun k_ => (P0_ k_ ∨ w.heap.size ≤ k_)) u9000_ l0 from Kd.R_mono ho0 (fun k_ hk => (.inl hk)))
 have HK := Aside0.mk (Kept.refl w (fun k_ => P0_ k_))
 have HW0 := Aside0.mk hB.size
 have HB := Aside0.mk hB
 clear hB
 unfold laws_markEntryS.f at h
 have H := h
 clear h
 have H' := Aside0.mk H
 clear H
 go_enter Tryz.func60, Tryz.ntmps60
 go_wp2
 go_loopg [1, 5] k (fun kq v1 v5 w' => ∃ (a6 : List (S72)) (a7 : Int) (a5 : Int), v1 = .int .i64 a7 ∧ v5 = .int .i64 a5 ∧ Aside0 (laws_markEntryS.l0 kq a6 a7 a5 = some (r1, r2)) ∧ Aside0 (kq ≤ k) ∧ Aside0 (Kd.R k72 72 w' w0.heap.size (fun k_ => (P0_ k_ ∨ w.heap.size ≤ k_)) u9000_ a6) ∧ Aside0 (Kept w w' (fun k_ => P0_ k_)) ∧ Aside0 (Below w0.heap.size w0 w'))
 case atStart => exact ⟨(l0), (a1), (0), tq_3, tq_3, H', ⟨Nat.le_refl _⟩, ⟨(raR_ HO0)⟩, ⟨tq_4⟩, ⟨th_⟩⟩
 case round =>
 clear H'
 try clear p2
 obtain ⟨a6, a7, a5, rfl, rfl, HA, HK1, HO_0, HK, HB⟩ := hrel
 cases gk with
 | zero => exact absurd HA.out (by simp [laws_markEntryS.l0])
 | succ k1 =>
 have H := HA.out
 clear HA
 simp only [laws_markEntryS.l0] at H
 have b4 := Aside0.mk H
 clear H
 obtain ⟨Ao4, az, bj⟩ := Kd.R_slice HO_0.out
 subst bj
 go_upto_if 9 with (fail)
 have H := b4.out
 clear b4
 by_cases c5 : a5 < (a6.length : Int)
 rotate_left
 ·rw [if_neg c5] at H
  have ab := decide_eq_false c5
  clear c5
  (first | rw [ab] | (simp only [i64_w, i32_w]; rw [ab]) | skip)
  simp only [Option.some.injEq, Prod.mk.injEq] at H
  obtain ⟨rfl, rfl⟩ := H
  go_wp2
  go_ret
  exact ⟨tq_1, (raR_ HO_0), th_, tq_4⟩
 rw [if_pos c5] at H
 have ab := decide_eq_true c5
 clear c5
 (first | rw [ab] | (simp only [i64_w, i32_w]; rw [ab]) | skip)
 obtain ⟨c6, H⟩ := fc_ H
 have bl := decide_eq_true c6
 clear c6
 obtain ⟨a9, Ny213, H⟩ := bs_ H
 obtain ⟨aa, A8, H⟩ := bd_ H
 obtain ⟨aj, hy215⟩ : ∃ y_ : List (S72), y_ = (a9.set (a5 : Int).toNat (⟨(rd_T72 a9 a5).f0, aa⟩ : S72)) := ⟨_, rfl⟩
 replace H : (laws_markEntryS.l0 k1 aj (wrap64 ((wrap64 (a7 + 1)) + 1)) (wrap64 (a5 + 1))) = some (r1, r2) := by first | (rw [hy215]; with_reducible exact H) | (have H2_ := (Option.bind_some _ _).symm.trans H; rw [hy215]; with_reducible exact H2_) | (have H2_ := (Option.bind_some _ _).symm.trans H; with_reducible exact H2_) | with_reducible exact H | (rw [hy215]; exact H) | exact H
 have Ny215 := Aside0.mk hy215
 clear hy215
 have H' := Aside0.mk H
 clear H
 have p7 : 0 ≤ (a5 : Int) := of_decide_eq_true tq_2
 have q7 : (a5 : Int) < ((a6.length : Int) : Int) := of_decide_eq_true tq_2
 obtain ⟨a8, bp, b5, b6, bm, bq, b7⟩ := Kd.R_form HO_0.out (by omega)
 (first | cases b5 | (injection b5 with ea_ en_ ec_; (first | subst ea_ | (injection ea_ with ea_; subst ea_)); subst ec_; clear en_))
 have b8 := Aside0.mk b6
 have br := Aside0.mk b7
 clear b6 bm b7
 have HMgo7 := Aside0.mk (show (P0_ a8 ∨ w.heap.size ≤ a8) from (HO_0.out.1 _ rfl))
 obtain ⟨bs, b0, b9, ak, al⟩ := Kd.R_elem HO_0.out z72 (a5 : Int) p7 q7
 obtain rfl := k72_openM b9
 have ba : wr.cell? ⟨a8, (a5 : Int).toNat * 2, none⟩ = some (.int .i64 ((rd_T72 a6 a5).f0)) := ak 0 _ rfl
 have bb : wr.cell? ⟨a8, (a5 : Int).toNat * 2 + 1, none⟩ = some (.string ((rd_T72 a6 a5).f1)) := ak 1 _ rfl
 have bc : wr.frozen? ⟨a8, (a5 : Int).toNat * 2, none⟩ = false := al 0
 have bd : wr.frozen? ⟨a8, (a5 : Int).toNat * 2 + 1, none⟩ = false := al 1
 clear b0 ak al b9
 replace p7 := eq_true p7
 replace q7 := eq_true q7
 have av := Aside0.mk (show Kd.R k72 72 wr w0.heap.size (fun k_ => (P0_ k_ ∨ w.heap.size ≤ k_)) (.slice (some ⟨a8, 0, none⟩) a6.length az) a6 from (raR_ HO_0))
 obtain ⟨bn, af, aw, ac, ag⟩ := Kd.R_elem av.out z72 (a5 : Int) (of_decide_eq_true tq_2) (by have h_ : (a5 : Int) < ((a6.length : Int) : Int) := of_decide_eq_true tq_2; first | exact h_ | (have e_ := (Kd.R_reads' HO_0.out).1; omega) | simpa using h_)
 obtain rfl := k72_openM aw
 have HP10 := Kd.R_seg av.out (a5 : Int) (of_decide_eq_true tq_2) (by have h_ : (a5 : Int) < ((a6.length : Int) : Int) := of_decide_eq_true tq_2; first | exact h_ | (have e_ := (Kd.R_reads' HO_0.out).1; omega) | simpa using h_) (seg := [.int .i64 a7]) (j := 0) af ac (show 1 ≤ 2 from by decide) (x' := (⟨a7, (rd_T72 a6 a5).f1⟩ : S72)) (k72_mkM _ _ _ (⟨a7, (rd_T72 a6 a5).f1⟩ : S72) ) (fun _ hk => hk)
 have am := ac 0 _ rfl
 (try simp only [show (k72).sz = 2 from rfl, Nat.mul_one, Nat.add_zero] at am)
 have an := ag 0
 (try simp only [show (k72).sz = 2 from rfl, Nat.mul_one, Nat.add_zero] at an)
 clear af ac ag aw
 go_wp2_with (first | ((with_reducible refine gate_store (t := 3) (p := 16) rfl ?_); refine store_event (t := 3) (p := 16) (v := ?vo_w11) (w1 := (wr.setCell ⟨a8, (a5 : Int).toNat * 2, none⟩ (.int .i64 a7))) ?hg ?ho ?hn ?hr ?_; (case ho => rfl); (case hg => rfl); (case hn => rfl); (case hr => first | (go_simp; done) | (go_simp; rfl)); intro b1 hw; have hg : wr.grownBy b1 (some a8) := (by rw [hw]; exact HP10.2); have hp_ : Kd.R k72 72 b1 w0.heap.size (fun k_ => (P0_ k_ ∨ w.heap.size ≤ k_)) (.slice (some ⟨a8, 0, none⟩) a6.length az) a9 := (by rw [hw, Ny213.out]; exact HP10.1); clear HP10; have z_ := p_ (hp_) <| p_ ((by rw [hw]; exact below_set (HB.out) b8.out : Below w0.heap.size w0 b1)) <| a_ (Kept.of_grown (S := (fun k_ => P0_ k_)) hg tq_4 (fun k_ e_ => (HO_0.out.1 k_ e_))); clear HO_0 HB HK; obtain ⟨HO_0, HB, HK⟩ := z_; clear hg hw hp_) | ((with_reducible refine gate_callee (f := 32) rfl ?_); refine goesL_ (some 22) rfl rfl Tryz.func32 (by kernel_rfl) rfl #[.int .i64 (wrap64 (a7 + 1))] rfl tq_0 ?_; (with_reducible refine (laws_markText.calls k1 (wrap64 (a7 + 1)) aa _ A8.out).mono ?_); rintro e ao ⟨rfl, hb⟩; refine ⟨_, rfl, ?_⟩; have z_ := p_ (Kd.R_below (raR_ HO_0) hb) <| p_ (Kept.below (S := (fun k_ => P0_ k_)) tq_4 hb) <| a_ (below_step th_ hb); clear HO_0 HK HB; obtain ⟨HO_0, HK, HB⟩ := z_; (try clear hb); (try clear hk); have p9 : 0 ≤ (a5 : Int) := of_decide_eq_true tq_2; have q9 : (a5 : Int) < ((a6.length : Int) : Int) := of_decide_eq_true tq_2; obtain ⟨bu, b2, be, ap, aq⟩ := Kd.R_elem HO_0.out z72 (a5 : Int) p9 q9; obtain rfl := k72_openM be; have bf : ao.cell? ⟨a8, (a5 : Int).toNat * 2, none⟩ = some (.int .i64 ((rd_T72 a9 a5).f0)) := ap 0 _ rfl; have bg : ao.cell? ⟨a8, (a5 : Int).toNat * 2 + 1, none⟩ = some (.string ((rd_T72 a9 a5).f1)) := ap 1 _ rfl; have bh : ao.frozen? ⟨a8, (a5 : Int).toNat * 2, none⟩ = false := aq 0; have bi : ao.frozen? ⟨a8, (a5 : Int).toNat * 2 + 1, none⟩ = false := aq 1; clear b2 ap aq be; replace p9 := eq_true p9; replace q9 := eq_true q9; have ax := Aside0.mk (show Kd.R k72 72 ao w0.heap.size (fun k_ => (P0_ k_ ∨ w.heap.size ≤ k_)) (.slice (some ⟨a8, 0, none⟩) a6.length az) a9 from (raR_ HO_0)); obtain ⟨bo, ah, ay, ae, ai⟩ := Kd.R_elem ax.out z72 (a5 : Int) (of_decide_eq_true tq_2) (by have h_ : (a5 : Int) < ((a6.length : Int) : Int) := of_decide_eq_true tq_2; first | exact h_ | (have e_ := (Kd.R_reads' HO_0.out).1; omega) | simpa using h_); obtain rfl := k72_openM ay; have HP13 := Kd.R_seg ax.out (a5 : Int) (of_decide_eq_true tq_2) (by have h_ : (a5 : Int) < ((a6.length : Int) : Int) := of_decide_eq_true tq_2; first | exact h_ | (have e_ := (Kd.R_reads' HO_0.out).1; omega) | simpa using h_) (seg := [.string aa]) (j := 1) ah ae (show 2 ≤ 2 from by decide) (x' := (⟨(rd_T72 a9 a5).f0, aa⟩ : S72)) (k72_mkM _ _ _ (⟨(rd_T72 a9 a5).f0, aa⟩ : S72) ) (fun _ hk => hk); have ar := ae 1 _ rfl; (try simp only [show (k72).sz = 2 from rfl, Nat.mul_one, Nat.add_zero] at ar); have au := ai 1; (try simp only [show (k72).sz = 2 from rfl, Nat.mul_one, Nat.add_zero] at au); clear ah ae ai ay) | ((with_reducible refine gate_store (t := 9) (p := 24) rfl ?_); refine store_event (t := 9) (p := 24) (v := ?vo_w14) (w1 := (ao.setCell ⟨a8, (a5 : Int).toNat * 2 + 1, none⟩ (.string aa))) ?hg ?ho ?hn ?hr ?_; (case ho => rfl); (case hg => rfl); (case hn => rfl); (case hr => first | (go_simp; done) | (go_simp; rfl)); intro b3 hw; have hg : ao.grownBy b3 (some a8) := (by rw [hw]; exact HP13.2); have hp_ : Kd.R k72 72 b3 w0.heap.size (fun k_ => (P0_ k_ ∨ w.heap.size ≤ k_)) (.slice (some ⟨a8, 0, none⟩) a6.length az) aj := (by rw [hw, Ny215.out]; exact HP13.1); clear HP13; have z_ := p_ (hp_) <| p_ ((by rw [hw]; exact below_set (HB.out) b8.out : Below w0.heap.size w0 b3)) <| a_ (Kept.of_grown (S := (fun k_ => P0_ k_)) hg tq_4 (fun k_ e_ => (HO_0.out.1 k_ e_))); clear HO_0 HB HK; obtain ⟨HO_0, HB, HK⟩ := z_; clear hg hw hp_))
 go_roundg k1
 case measure => have := HK1.out; omega
 case rel => exact ⟨(aj), (wrap64 ((wrap64 (a7 + 1)) + 1)), (wrap64 (a5 + 1)), tq_3, tq_3, H', ⟨tq_22⟩, ⟨(raR_ HO_0)⟩, ⟨tq_4⟩, ⟨th_⟩⟩

/-! An element's inner rows, lent to a call that writes them. -/
theorem mi_lend {w0 w W : World} {P0_ : Nat → Prop} {g cap n : Nat} {xs : List S69} {i : Int} (HO : Kd.S k69 69 W w0.heap.size (fun k_ => (P0_ k_ ∨ w.heap.size ≤ k_)) (.slice (some ⟨g, 0, none⟩) n cap) xs) (HK : Kept w W (fun k_ => P0_ k_)) (h0 : 0 ≤ i) (h1 : i < (n : Int)) :
  ∃ v4 v5 : Value, W.cell? ⟨g, i.toNat * 6 + 4, none⟩ = some v4 ∧ W.cell? ⟨g, i.toNat * 6 + 5, none⟩ = some v5 ∧
   (Kd.R k89 89 W w0.heap.size (fun k_ => some k_ = v4.ownBlock) v4 (rd_T69 xs i).f4 ∧ ∀ (W' : World) (r : List S89), Kept W W' (fun k_ => some k_ = v4.ownBlock) → Kd.R k89 89 W' w0.heap.size (fun k_ => (some k_ = v4.ownBlock ∨ W.heap.size ≤ k_)) v4 r →
    Kd.S k69 69 W' w0.heap.size (fun k_ => (P0_ k_ ∨ w.heap.size ≤ k_)) (.slice (some ⟨g, 0, none⟩) n cap) (xs.set i.toNat (⟨(rd_T69 xs i).f0, (rd_T69 xs i).f1, (rd_T69 xs i).f2, (rd_T69 xs i).f3, r, (rd_T69 xs i).f5⟩ : S69)) ∧ Kept w W' (fun k_ => P0_ k_)) ∧
   (Kd.R k72 72 W w0.heap.size (fun k_ => some k_ = v5.ownBlock) v5 (rd_T69 xs i).f5 ∧ ∀ (W' : World) (r : List S72), Kept W W' (fun k_ => some k_ = v5.ownBlock) → Kd.R k72 72 W' w0.heap.size (fun k_ => (some k_ = v5.ownBlock ∨ W.heap.size ≤ k_)) v5 r →
    Kd.S k69 69 W' w0.heap.size (fun k_ => (P0_ k_ ∨ w.heap.size ≤ k_)) (.slice (some ⟨g, 0, none⟩) n cap) (xs.set i.toNat (⟨(rd_T69 xs i).f0, (rd_T69 xs i).f1, (rd_T69 xs i).f2, (rd_T69 xs i).f3, (rd_T69 xs i).f4, r⟩ : S69)) ∧ Kept w W' (fun k_ => P0_ k_)) := by
 obtain ⟨oki, c, hcl, hM, hcc, hoki, hH⟩ := Kd.S_lend HO z69 i h0 h1
 obtain ⟨v4, v5, rfl, g4, g5⟩ := k69_openM hM
 have in4 : ∀ k, some k = v4.ownBlock → oki k := fun k e => g4.1 k e.symm
 have in5 : ∀ k, some k = v5.ownBlock → oki k := fun k e => g5.1 k e.symm
 refine ⟨v4, v5, hcc 4 _ rfl, hcc 5 _ rfl, ⟨Kd.R_tight rfl g4, fun W' r hk hr => ?_⟩, ⟨Kd.R_tight rfl g5, fun W' r hk hr => ?_⟩⟩
 ·have hr' : Kd.R k89 89 W' w0.heap.size oki v4 r := Kd.R_mono (Kd.R_tight rfl hr) (fun k e => in4 k e)
  have g5' : Kd.R k72 72 W' w0.heap.size oki v5 _ := Kd.R_mono (Kd.R_step (Kd.R_apart' g5 (Kd.R_typed g4) (by decide)) (fun k hk2 hlt => hk.2 k hlt hk2.2)) (fun _ h => h.1)
  exact ⟨Kd.H_back (Kd.H_kept hH hk (fun k ho hn hs => hn (in4 k hs))) (k69_mkM _ _ _ (⟨_, _, _, _, r, _⟩ : S69) hr' g5') (fun _ h => h), HK.then_ hk (fun k hs => (hoki k (in4 k hs)).1)⟩
 ·have hr' : Kd.R k72 72 W' w0.heap.size oki v5 r := Kd.R_mono (Kd.R_tight rfl hr) (fun k e => in5 k e)
  have g4' : Kd.R k89 89 W' w0.heap.size oki v4 _ := Kd.R_mono (Kd.R_step (Kd.R_apart' g4 (Kd.R_typed g5) (by decide)) (fun k hk2 hlt => hk.2 k hlt hk2.2)) (fun _ h => h.1)
  exact ⟨Kd.H_back (Kd.H_kept hH hk (fun k ho hn hs => hn (in5 k hs))) (k69_mkM _ _ _ (⟨_, _, _, _, _, r⟩ : S69) g4' hr') (fun _ h => h), HK.then_ hk (fun k hs => (hoki k (in5 k hs)).1)⟩
theorem ty_no {W : World} {k t : Nat} {cells : Array Value} (hb : W.heap[k]? = some (.cells cells t (0, 0))) {qs : List Nat} (ht : ∀ q, q ∈ qs → q ≠ t) : ¬ ∃ q, q ∈ qs ∧ ∃ cells, W.heap[k]? = some (.cells cells q (0, 0)) := by
 rintro ⟨q, hq, c2, h2⟩
 rw [hb] at h2
 injection h2 with h2
 injection h2 with _ h3 _
 exact ht q hq h3.symm
theorem R_keptT {α : Type} {d : Kd α} {e b : Nat} {W W' : World} {ok : Nat → Prop} {v : Value} {xs : List α} {S : Nat → Prop} (hE : d.E = []) (h : d.R e W b ok v xs) (hk : Kept W W' S) (hS : ∀ k, some k = v.ownBlock → ¬ S k) : d.R e W' b ok v xs :=
 Kd.R_mono (Kd.R_step (Kd.R_tight hE h) (fun k hk2 hlt => hk.2 k hlt (hS k hk2))) (fun k e => h.1 k e.symm)
theorem mark_elder {α β : Type} {d : Kd α} {dS : Kd β} {e eS b bS X : Nat} {W W' : World} {okS okg R2 : Nat → Prop} {vA vS vG : Value} {xs : List α} {ys : List β} (hA : Kd.S d e W b (fun k => k < X) vA xs) (hS : dS.R eS W bS okS vS ys) (hne : ∀ q, q ∈ e :: d.E → q ≠ eS) (hG : ∀ k, vG.ownBlock = some k → X ≤ k)
  (hk : Kept W W' (fun k => some k = vS.ownBlock ∨ okg k ∧ X ≤ k ∧ R2 k)) : Kd.S d e W' b (fun k => some k ≠ vG.ownBlock) vA xs :=
 Kd.S_mono (Kd.S_step (Kd.S_bound hA) (fun k hk2 hlt => hk.2 k hlt (fun hs => hs.elim (fun h => by
  obtain ⟨c, hc⟩ := Kd.R_typed hS k h.symm
  exact ty_no hc hne hk2.2.2.2) (fun h => absurd hk2.1 (Nat.not_lt.mpr h.2.1))))) (fun k hk2 he => absurd hk2.1 (Nat.not_lt.mpr (hG k he.symm)))
theorem mark_ne {α β : Type} {d : Kd α} {dS : Kd β} {e eS b bS X : Nat} {W : World} {okS : Nat → Prop} {vA vS : Value} {xs : List α} {ys : List β} (hA : Kd.S d e W b (fun k => k < X) vA xs) (hS : dS.R eS W bS okS vS ys) (hne : ∀ q, q ∈ e :: d.E → q ≠ eS) (k : Nat)
  (hk : (some k = vS.ownBlock ∨ X ≤ k) ∨ W.heap.size ≤ k) : some k ≠ vA.ownBlock := by
 intro he
 rcases hk with (h | h) | h
 ·obtain ⟨c, hc⟩ := Kd.R_typed hS k h.symm
  exact ty_no hc hne ⟨e, List.mem_cons_self .., Kd.S_typed hA k he.symm⟩
 ·exact absurd ((Kd.S_R hA).1 k he.symm) (Nat.not_lt.mpr h)
 ·exact absurd (Kd.S_lt hA k he.symm) (Nat.not_lt.mpr h)
theorem mark_back {α : Type} {d : Kd α} {e b b' : Nat} {W W' : World} {ok okp : Nat → Prop} {v : Value} {xs ys : List α} (_h : Kd.S d e W b ok v xs) (hy : Kd.S d e W' b' okp v ys) (hk : ∀ k, okp k → ok k) : Kd.S d e W' b' ok v ys := Kd.S_mono hy hk
theorem keep_base {α : Type} {d : Kd α} {e b b' : Nat} {W : World} {ok : Nat → Prop} {v : Value} {xs : List α} (_h : Kd.S d e W b ok v xs) (hb : b' ≤ b) : b' ≤ b := hb
theorem keepS {α β : Type} {d : Kd α} {dS : Kd β} {e eS b bS : Nat} {W W' : World} {okB okM okS R2 : Nat → Prop} {vB vS : Value} {xs : List α} {ys : List β} (hB : Kd.S d e W b okB vB xs) (hS : dS.R eS W bS okS vS ys) (hne : ∀ q, q ∈ e :: d.E → q ≠ eS) (hd : ∀ k, okB k → ¬ okM k)
  (hk : Kept W W' (fun k => some k = vS.ownBlock ∨ (okM k ∧ R2 k))) : Kd.S d e W' b okB vB xs :=
 Kd.S_mono (Kd.S_step (Kd.S_bound hB) (fun k hk2 hlt => hk.2 k hlt (fun hs => hs.elim (fun h => by
  obtain ⟨c, hc⟩ := Kd.R_typed hS k h.symm
  exact ty_no hc hne hk2.2.2.2) (fun h => hd k hk2.1 h.1)))) (fun k hk2 => hk2.1)
theorem offS {α β : Type} {d : Kd α} {dS : Kd β} {e eS b bS N : Nat} {W : World} {okM okS R2 : Nat → Prop} {vM vS : Value} {xs : List α} {ys : List β} (hM : Kd.S d e W b (fun k => (some k = vS.ownBlock ∨ (okM k ∧ R2 k)) ∨ N ≤ k) vM xs) (hS : dS.R eS W bS okS vS ys) (hne : ∀ q, q ∈ e :: d.E → q ≠ eS) : Kd.S d e W b (fun k => okM k ∨ N ≤ k) vM xs :=
 Kd.S_mono (Kd.S_bound hM) (fun k h => h.1.elim (fun h1 => h1.elim (fun h0 => by
  obtain ⟨c, hc⟩ := Kd.R_typed hS k h0.symm
  exact absurd h.2.2.2 (ty_no hc hne)) (fun h1 => .inl h1.1)) .inr)
theorem neS {α β : Type} {d : Kd α} {dM : Kd β} {e eM b bM : Nat} {W : World} {okB okM : Nat → Prop} {vB vM : Value} {xs : List α} {ys : List β} (hB : Kd.S d e W b okB vB xs) (_hM : Kd.S dM eM W bM okM vM ys) (hd : ∀ k, okM k → ¬ okB k) (k : Nat) (h : okM k ∨ W.heap.size ≤ k) : some k ≠ vB.ownBlock :=
 fun he => h.elim (fun h => hd k h ((Kd.S_R hB).1 k he.symm)) (fun h => absurd (Kd.S_lt hB k he.symm) (Nat.not_lt.mpr h))
theorem neT {α : Type} {d : Kd α} {e b : Nat} {W : World} {okM : Nat → Prop} {vM : Value} {xs : List α} {k : Nat} (hM : Kd.S d e W b okM vM xs) (hd : ¬ okM k) : some k ≠ vM.ownBlock := fun he => hd ((Kd.S_R hM).1 k he.symm)
/-! ### laws_markInodeS: function 31 -/
def laws_markInodeS.l0 : Nat → List (S69) → Int → Int → Option (Int × (List (S69)))
 | 0, _, _, _ => none
 | k + 1, x0, x1, x5 => if x5 < (x0.length : Int) then (if 0 ≤ x5 then ((some (x0.set (x5 : Int).toNat (⟨x1, (rd_T69 x0 x5).f1, (rd_T69 x0 x5).f2, (rd_T69 x0 x5).f3, (rd_T69 x0 x5).f4, (rd_T69 x0 x5).f5⟩ : S69) : List (S69))).bind fun a5 => ((some (a5.set (x5 : Int).toNat (⟨(rd_T69 a5 x5).f0, wrap64 (x1 + 1), (rd_T69 a5 x5).f2, (rd_T69 a5 x5).f3, (rd_T69 a5 x5).f4, (rd_T69 a5 x5).f5⟩ : S69) : List (S69))).bind fun a6 => ((some (a6.set (x5 : Int).toNat (⟨(rd_T69 a6 x5).f0, (rd_T69 a6 x5).f1, wrap64 ((wrap64 (x1 + 1)) + 1), (rd_T69 a6 x5).f3, (rd_T69 a6 x5).f4, (rd_T69 a6 x5).f5⟩ : S69) : List (S69))).bind fun a7 => ((laws_markText.f k (wrap64 ((wrap64 ((wrap64 (x1 + 1)) + 1)) + 1))).bind fun a8 => ((some (a7.set (x5 : Int).toNat (⟨(rd_T69 a7 x5).f0, (rd_T69 a7 x5).f1, (rd_T69 a7 x5).f2, a8, (rd_T69 a7 x5).f4, (rd_T69 a7 x5).f5⟩ : S69) : List (S69))).bind fun ya_ => ((laws_markRecS.f k ((rd_T69 ya_ x5).f4) (wrap64 ((wrap64 ((wrap64 ((wrap64 (x1 + 1)) + 1)) + 1)) + 1))).bind fun tr_ => ((some (ya_.set (x5 : Int).toNat (⟨(rd_T69 ya_ x5).f0, (rd_T69 ya_ x5).f1, (rd_T69 ya_ x5).f2, (rd_T69 ya_ x5).f3, tr_.2, (rd_T69 ya_ x5).f5⟩ : S69) : List (S69))).bind fun yb_ => ((laws_markEntryS.f k ((rd_T69 yb_ x5).f5) tr_.1).bind fun te_ => ((some (yb_.set (x5 : Int).toNat (⟨(rd_T69 yb_ x5).f0, (rd_T69 yb_ x5).f1, (rd_T69 yb_ x5).f2, (rd_T69 yb_ x5).f3, (rd_T69 yb_ x5).f4, te_.2⟩ : S69) : List (S69))).bind fun yc_ => (laws_markInodeS.l0 k yc_ te_.1 (wrap64 (x5 + 1)))))))))))) else (none)) else (some (x1, x0))
def laws_markInodeS.f (k : Nat) (l0 : List (S69)) (a1 : Int) : Option (Int × (List (S69))) := laws_markInodeS.l0 k l0 a1 0
set_option maxHeartbeats 8000000 in
set_option maxRecDepth 100000 in
theorem laws_markInodeS.calls (k : Nat) (P0_ : Nat → Prop) (u9000_ : Value) (l0 : List (S69)) (a1 : Int) (r1 : Int) (r2 : List (S69)) (w0 w : World) (hB : Below w0.heap.size w0 w) (ho0 : Kd.S k69 69 w w0.heap.size P0_ u9000_ l0) (h : laws_markInodeS.f k l0 a1 = some (r1, r2)) :
  Calls Tryz.prog 31 #[u9000_, .int .i64 a1] w fun e w' => e = .returned (.int .i64 r1) ∧ Kd.S k69 69 w' w0.heap.size (fun k_ => (P0_ k_ ∨ w.heap.size ≤ k_)) u9000_ r2 ∧ Below w0.heap.size w0 w' ∧ Kept w w' (fun k_ => P0_ k_) := by
 have HO0 := Aside0.mk (show Kd.S k69 69 w w0.heap.size (fun k_ => (P0_ k_ ∨ w.heap.size ≤ k_)) u9000_ l0 from Kd.S_mono ho0 (fun k_ hk => (.inl hk)))
 have HK := Aside0.mk (Kept.refl w (fun k_ => P0_ k_))
 have HW0 := Aside0.mk hB.size
 have HB := Aside0.mk hB
 clear hB
 unfold laws_markInodeS.f at h
 have H := h
 clear h
 have H' := Aside0.mk H
 clear H
 go_enter Tryz.func31, Tryz.ntmps31
 go_wp2
 go_loopg [1, 5] k (fun kq v1 v5 w' => ∃ (a6 : List (S69)) (a8 : Int) (a5 : Int), v1 = .int .i64 a8 ∧ v5 = .int .i64 a5 ∧ Aside0 (laws_markInodeS.l0 kq a6 a8 a5 = some (r1, r2)) ∧ Aside0 (kq ≤ k) ∧ Aside0 (Kd.S k69 69 w' w0.heap.size (fun k_ => (P0_ k_ ∨ w.heap.size ≤ k_)) u9000_ a6) ∧ Aside0 (Kept w w' (fun k_ => P0_ k_)) ∧ Aside0 (Below w0.heap.size w0 w'))
 case atStart => exact ⟨(l0), (a1), (0), tq_3, tq_3, H', ⟨Nat.le_refl _⟩, ⟨(raS_ HO0)⟩, ⟨tq_4⟩, ⟨th_⟩⟩
 case round =>
 clear H'
 try clear p2
 obtain ⟨a6, a8, a5, rfl, rfl, HA, HK1, HO_0, HK, HB⟩ := hrel
 cases gk with
 | zero => exact absurd HA.out (by simp [laws_markInodeS.l0])
 | succ k1 =>
 have H := HA.out
 clear HA
 simp only [laws_markInodeS.l0] at H
 have cj := Aside0.mk H
 clear H
 obtain ⟨Ao4, aq, dt⟩ := Kd.S_slice HO_0.out
 subst dt
 go_upto_if 9 with (fail)
 have H := cj.out
 clear cj
 by_cases c5 : a5 < (a6.length : Int)
 rotate_left
 ·rw [if_neg c5] at H
  have ao := decide_eq_false c5
  clear c5
  (first | rw [ao] | (simp only [i64_w, i32_w]; rw [ao]) | skip)
  simp only [Option.some.injEq, Prod.mk.injEq] at H
  obtain ⟨rfl, rfl⟩ := H
  go_wp2
  go_ret
  exact ⟨tq_1, (raS_ HO_0), th_, tq_4⟩
 rw [if_pos c5] at H
 have ao := decide_eq_true c5
 clear c5
 (first | rw [ao] | (simp only [i64_w, i32_w]; rw [ao]) | skip)
 obtain ⟨c6, H⟩ := fc_ H
 have du := decide_eq_true c6
 clear c6
 obtain ⟨a9, Ny216, H⟩ := bs_ H
 obtain ⟨aa, Ny217, H⟩ := bs_ H
 obtain ⟨ab, Ny218, H⟩ := bs_ H
 obtain ⟨ap, dv, H⟩ := bd_ H
 obtain ⟨b9, Ny220, H⟩ := bs_ H
 obtain ⟨⟨tr1_, tr2_⟩, AR_, H⟩ := bd_ H
 try dsimp -simprocs only at H
 obtain ⟨yb_, Nyb_, H⟩ := bs_ H
 obtain ⟨⟨te1_, te2_⟩, AE_, H⟩ := bd_ H
 try dsimp -simprocs only at H
 obtain ⟨yc_, Nyc_, H⟩ := bs_ H
 have H' := Aside0.mk H
 clear H
 have p7 : 0 ≤ (a5 : Int) := of_decide_eq_true tq_2
 have q7 : (a5 : Int) < ((a6.length : Int) : Int) := of_decide_eq_true tq_2
 obtain ⟨a7, e2, ck, cl, dw, e3, cm⟩ := Kd.S_form HO_0.out (by omega)
 (first | cases ck | (injection ck with ea_ en_ ec_; (first | subst ea_ | (injection ea_ with ea_; subst ea_)); subst ec_; clear en_))
 have bl := Aside0.mk cl
 have e4 := Aside0.mk cm
 clear cl dw cm
 have HMgo7 := Aside0.mk (show (P0_ a7 ∨ w.heap.size ≤ a7) from ((Kd.S_R HO_0.out).1 _ rfl))
 obtain ⟨_, e5, bm, cn, ah, ai, _, _⟩ := Kd.S_elem HO_0.out z69 (a5 : Int) p7 q7
 obtain ⟨ve7_4, ve7_5, rfl, ge7_4, ge7_5⟩ := k69_openM cn
 have co : wr.cell? ⟨a7, (a5 : Int).toNat * 6, none⟩ = some (.int .i64 ((rd_T69 a6 a5).f0)) := ah 0 _ rfl
 have cp : wr.cell? ⟨a7, (a5 : Int).toNat * 6 + 1, none⟩ = some (.int .i64 ((rd_T69 a6 a5).f1)) := ah 1 _ rfl
 have cq : wr.cell? ⟨a7, (a5 : Int).toNat * 6 + 2, none⟩ = some (.int .i64 ((rd_T69 a6 a5).f2)) := ah 2 _ rfl
 have cr : wr.cell? ⟨a7, (a5 : Int).toNat * 6 + 3, none⟩ = some (.string ((rd_T69 a6 a5).f3)) := ah 3 _ rfl
 have ct : wr.cell? ⟨a7, (a5 : Int).toNat * 6 + 4, none⟩ = some (ve7_4) := ah 4 _ rfl
 have cu : wr.cell? ⟨a7, (a5 : Int).toNat * 6 + 5, none⟩ = some (ve7_5) := ah 5 _ rfl
 have cv : wr.frozen? ⟨a7, (a5 : Int).toNat * 6, none⟩ = false := ai 0
 have cw : wr.frozen? ⟨a7, (a5 : Int).toNat * 6 + 1, none⟩ = false := ai 1
 have cx : wr.frozen? ⟨a7, (a5 : Int).toNat * 6 + 2, none⟩ = false := ai 2
 have cy : wr.frozen? ⟨a7, (a5 : Int).toNat * 6 + 3, none⟩ = false := ai 3
 have cz : wr.frozen? ⟨a7, (a5 : Int).toNat * 6 + 4, none⟩ = false := ai 4
 have d0 : wr.frozen? ⟨a7, (a5 : Int).toNat * 6 + 5, none⟩ = false := ai 5
 clear bm ah ai cn
 replace p7 := eq_true p7
 replace q7 := eq_true q7
 have bn := Aside0.mk (show Kd.S k69 69 wr w0.heap.size (fun k_ => ((fun k_ => (P0_ k_ ∨ w.heap.size ≤ k_))) k_ ∧ ¬ ((fun _ => False)) k_) (.slice (some ⟨a7, 0, none⟩) a6.length aq) a6 from tq_32)
 obtain ⟨oki12, dx, ba, bb, ar, au, hoki12, hH12⟩ := Kd.S_elem bn.out z69 (a5 : Int) (of_decide_eq_true tq_2) (by have h_ : (a5 : Int) < ((a6.length : Int) : Int) := of_decide_eq_true tq_2; first | exact h_ | (have e_ := (Kd.S_reads' HO_0.out).1; omega) | simpa using h_)
 obtain ⟨ve12_4, ve12_5, rfl, ge12_4, ge12_5⟩ := k69_openM bb
 have HP12 := Kd.S_seg hH12 (of_decide_eq_true tq_2) (by have h_ : (a5 : Int) < ((a6.length : Int) : Int) := of_decide_eq_true tq_2; first | exact h_ | (have e_ := (Kd.S_reads' HO_0.out).1; omega) | simpa using h_) (seg := [.int .i64 a8]) (j := 0) (show 1 ≤ 6 from by decide) (x' := (⟨a8, (rd_T69 a6 a5).f1, (rd_T69 a6 a5).f2, (rd_T69 a6 a5).f3, (rd_T69 a6 a5).f4, (rd_T69 a6 a5).f5⟩ : S69)) (k69_mkM _ _ _ (⟨a8, (rd_T69 a6 a5).f1, (rd_T69 a6 a5).f2, (rd_T69 a6 a5).f3, (rd_T69 a6 a5).f4, (rd_T69 a6 a5).f5⟩ : S69) (Kd.R_mono ge12_4 (fun _ h_ => Or.inl h_)) (Kd.R_mono ge12_5 (fun _ h_ => Or.inl h_))) (fun _ hk => hk) (fun k_ hk_ => hk_.elim)
 have b1 := ar 0 _ rfl
 (try simp only [show (k69).sz = 6 from rfl, Nat.mul_one, Nat.add_zero] at b1)
 have b2 := au 0
 (try simp only [show (k69).sz = 6 from rfl, Nat.mul_one, Nat.add_zero] at b2)
 clear ba ar au bb hoki12 hH12
 go_wp2_with (first | ((with_reducible refine gate_store (t := 3) (p := 16) rfl ?_); refine store_event (t := 3) (p := 16) (v := ?vo_w13) (w1 := (wr.setCell ⟨a7, (a5 : Int).toNat * 6, none⟩ (.int .i64 a8))) ?hg ?ho ?hn ?hr ?_; (case ho => rfl); (case hg => rfl); (case hn => rfl); (case hr => first | (go_simp; done) | (go_simp; rfl)); intro af hw; have hg : wr.grownBy af (some a7) := (by rw [hw]; exact HP12.2); have hp_ : Kd.S k69 69 af w0.heap.size (fun k_ => (P0_ k_ ∨ w.heap.size ≤ k_)) (.slice (some ⟨a7, 0, none⟩) a6.length aq) a9 := (by rw [hw, Ny216.out]; exact HP12.1); clear HP12; have z_ := p_ (hp_) <| p_ ((by rw [hw]; exact below_set (HB.out) bl.out : Below w0.heap.size w0 af)) <| a_ (Kept.of_grown (S := (fun k_ => P0_ k_)) hg tq_4 (fun k_ e_ => ((Kd.S_R HO_0.out).1 k_ e_))); clear HO_0 HB HK; obtain ⟨HO_0, HB, HK⟩ := z_; clear hg hw hp_; have p8 : 0 ≤ (a5 : Int) := of_decide_eq_true tq_2; have q8 : (a5 : Int) < ((a6.length : Int) : Int) := of_decide_eq_true tq_2; obtain ⟨_, e6, bo, d1, aj, ak, _, _⟩ := Kd.S_elem HO_0.out z69 (a5 : Int) p8 q8; obtain ⟨ve8_4, ve8_5, rfl, ge8_4, ge8_5⟩ := k69_openM d1; have d2 : af.cell? ⟨a7, (a5 : Int).toNat * 6, none⟩ = some (.int .i64 ((rd_T69 a9 a5).f0)) := aj 0 _ rfl; have d3 : af.cell? ⟨a7, (a5 : Int).toNat * 6 + 1, none⟩ = some (.int .i64 ((rd_T69 a9 a5).f1)) := aj 1 _ rfl; have d4 : af.cell? ⟨a7, (a5 : Int).toNat * 6 + 2, none⟩ = some (.int .i64 ((rd_T69 a9 a5).f2)) := aj 2 _ rfl; have d5 : af.cell? ⟨a7, (a5 : Int).toNat * 6 + 3, none⟩ = some (.string ((rd_T69 a9 a5).f3)) := aj 3 _ rfl; have d6 : af.cell? ⟨a7, (a5 : Int).toNat * 6 + 4, none⟩ = some (ve8_4) := aj 4 _ rfl; have d7 : af.cell? ⟨a7, (a5 : Int).toNat * 6 + 5, none⟩ = some (ve8_5) := aj 5 _ rfl; have d8 : af.frozen? ⟨a7, (a5 : Int).toNat * 6, none⟩ = false := ak 0; have d9 : af.frozen? ⟨a7, (a5 : Int).toNat * 6 + 1, none⟩ = false := ak 1; have da : af.frozen? ⟨a7, (a5 : Int).toNat * 6 + 2, none⟩ = false := ak 2; have db : af.frozen? ⟨a7, (a5 : Int).toNat * 6 + 3, none⟩ = false := ak 3; have dc : af.frozen? ⟨a7, (a5 : Int).toNat * 6 + 4, none⟩ = false := ak 4; have dd : af.frozen? ⟨a7, (a5 : Int).toNat * 6 + 5, none⟩ = false := ak 5; clear bo aj ak d1; replace p8 := eq_true p8; replace q8 := eq_true q8; have bp := Aside0.mk (show Kd.S k69 69 af w0.heap.size (fun k_ => ((fun k_ => (P0_ k_ ∨ w.heap.size ≤ k_))) k_ ∧ ¬ ((fun _ => False)) k_) (.slice (some ⟨a7, 0, none⟩) a6.length aq) a9 from tq_32); obtain ⟨oki14, dy, bc, bd, av, aw, hoki14, hH14⟩ := Kd.S_elem bp.out z69 (a5 : Int) (of_decide_eq_true tq_2) (by have h_ : (a5 : Int) < ((a6.length : Int) : Int) := of_decide_eq_true tq_2; first | exact h_ | (have e_ := (Kd.S_reads' HO_0.out).1; omega) | simpa using h_); obtain ⟨ve14_4, ve14_5, rfl, ge14_4, ge14_5⟩ := k69_openM bd; have HP14 := Kd.S_seg hH14 (of_decide_eq_true tq_2) (by have h_ : (a5 : Int) < ((a6.length : Int) : Int) := of_decide_eq_true tq_2; first | exact h_ | (have e_ := (Kd.S_reads' HO_0.out).1; omega) | simpa using h_) (seg := [.int .i64 (wrap64 (a8 + 1))]) (j := 1) (show 2 ≤ 6 from by decide) (x' := (⟨(rd_T69 a9 a5).f0, wrap64 (a8 + 1), (rd_T69 a9 a5).f2, (rd_T69 a9 a5).f3, (rd_T69 a9 a5).f4, (rd_T69 a9 a5).f5⟩ : S69)) (k69_mkM _ _ _ (⟨(rd_T69 a9 a5).f0, wrap64 (a8 + 1), (rd_T69 a9 a5).f2, (rd_T69 a9 a5).f3, (rd_T69 a9 a5).f4, (rd_T69 a9 a5).f5⟩ : S69) (Kd.R_mono ge14_4 (fun _ h_ => Or.inl h_)) (Kd.R_mono ge14_5 (fun _ h_ => Or.inl h_))) (fun _ hk => hk) (fun k_ hk_ => hk_.elim); have b3 := av 1 _ rfl; (try simp only [show (k69).sz = 6 from rfl, Nat.mul_one, Nat.add_zero] at b3); have b4 := aw 1; (try simp only [show (k69).sz = 6 from rfl, Nat.mul_one, Nat.add_zero] at b4); clear bc av aw bd hoki14 hH14) | ((with_reducible refine gate_store (t := 3) (p := 23) rfl ?_); refine store_event (t := 3) (p := 23) (v := ?vo_w15) (w1 := (af.setCell ⟨a7, (a5 : Int).toNat * 6 + 1, none⟩ (.int .i64 (wrap64 (a8 + 1))))) ?hg ?ho ?hn ?hr ?_; (case ho => rfl); (case hg => rfl); (case hn => rfl); (case hr => first | (go_simp; done) | (go_simp; rfl)); intro ag hw; have hg : af.grownBy ag (some a7) := (by rw [hw]; exact HP14.2); have hp_ : Kd.S k69 69 ag w0.heap.size (fun k_ => (P0_ k_ ∨ w.heap.size ≤ k_)) (.slice (some ⟨a7, 0, none⟩) a6.length aq) aa := (by rw [hw, Ny217.out]; exact HP14.1); clear HP14; have z_ := p_ (hp_) <| p_ ((by rw [hw]; exact below_set (HB.out) bl.out : Below w0.heap.size w0 ag)) <| a_ (Kept.of_grown (S := (fun k_ => P0_ k_)) hg tq_4 (fun k_ e_ => ((Kd.S_R HO_0.out).1 k_ e_))); clear HO_0 HB HK; obtain ⟨HO_0, HB, HK⟩ := z_; clear hg hw hp_; have p9 : 0 ≤ (a5 : Int) := of_decide_eq_true tq_2; have q9 : (a5 : Int) < ((a6.length : Int) : Int) := of_decide_eq_true tq_2; obtain ⟨_, e7, bq, de, al, am, _, _⟩ := Kd.S_elem HO_0.out z69 (a5 : Int) p9 q9; obtain ⟨ve9_4, ve9_5, rfl, ge9_4, ge9_5⟩ := k69_openM de; have df : ag.cell? ⟨a7, (a5 : Int).toNat * 6, none⟩ = some (.int .i64 ((rd_T69 aa a5).f0)) := al 0 _ rfl; have dg : ag.cell? ⟨a7, (a5 : Int).toNat * 6 + 1, none⟩ = some (.int .i64 ((rd_T69 aa a5).f1)) := al 1 _ rfl; have dh : ag.cell? ⟨a7, (a5 : Int).toNat * 6 + 2, none⟩ = some (.int .i64 ((rd_T69 aa a5).f2)) := al 2 _ rfl; have di : ag.cell? ⟨a7, (a5 : Int).toNat * 6 + 3, none⟩ = some (.string ((rd_T69 aa a5).f3)) := al 3 _ rfl; have dj : ag.cell? ⟨a7, (a5 : Int).toNat * 6 + 4, none⟩ = some (ve9_4) := al 4 _ rfl; have dk : ag.cell? ⟨a7, (a5 : Int).toNat * 6 + 5, none⟩ = some (ve9_5) := al 5 _ rfl; have dl : ag.frozen? ⟨a7, (a5 : Int).toNat * 6, none⟩ = false := am 0; have dm : ag.frozen? ⟨a7, (a5 : Int).toNat * 6 + 1, none⟩ = false := am 1; have dn : ag.frozen? ⟨a7, (a5 : Int).toNat * 6 + 2, none⟩ = false := am 2; have dp : ag.frozen? ⟨a7, (a5 : Int).toNat * 6 + 3, none⟩ = false := am 3; have dq : ag.frozen? ⟨a7, (a5 : Int).toNat * 6 + 4, none⟩ = false := am 4; have dr : ag.frozen? ⟨a7, (a5 : Int).toNat * 6 + 5, none⟩ = false := am 5; clear bq al am de; replace p9 := eq_true p9; replace q9 := eq_true q9; have br := Aside0.mk (show Kd.S k69 69 ag w0.heap.size (fun k_ => ((fun k_ => (P0_ k_ ∨ w.heap.size ≤ k_))) k_ ∧ ¬ ((fun _ => False)) k_) (.slice (some ⟨a7, 0, none⟩) a6.length aq) aa from tq_32); obtain ⟨oki16, dz, be, bf, ax, ay, hoki16, hH16⟩ := Kd.S_elem br.out z69 (a5 : Int) (of_decide_eq_true tq_2) (by have h_ : (a5 : Int) < ((a6.length : Int) : Int) := of_decide_eq_true tq_2; first | exact h_ | (have e_ := (Kd.S_reads' HO_0.out).1; omega) | simpa using h_); obtain ⟨ve16_4, ve16_5, rfl, ge16_4, ge16_5⟩ := k69_openM bf; have HP16 := Kd.S_seg hH16 (of_decide_eq_true tq_2) (by have h_ : (a5 : Int) < ((a6.length : Int) : Int) := of_decide_eq_true tq_2; first | exact h_ | (have e_ := (Kd.S_reads' HO_0.out).1; omega) | simpa using h_) (seg := [.int .i64 (wrap64 ((wrap64 (a8 + 1)) + 1))]) (j := 2) (show 3 ≤ 6 from by decide) (x' := (⟨(rd_T69 aa a5).f0, (rd_T69 aa a5).f1, wrap64 ((wrap64 (a8 + 1)) + 1), (rd_T69 aa a5).f3, (rd_T69 aa a5).f4, (rd_T69 aa a5).f5⟩ : S69)) (k69_mkM _ _ _ (⟨(rd_T69 aa a5).f0, (rd_T69 aa a5).f1, wrap64 ((wrap64 (a8 + 1)) + 1), (rd_T69 aa a5).f3, (rd_T69 aa a5).f4, (rd_T69 aa a5).f5⟩ : S69) (Kd.R_mono ge16_4 (fun _ h_ => Or.inl h_)) (Kd.R_mono ge16_5 (fun _ h_ => Or.inl h_))) (fun _ hk => hk) (fun k_ hk_ => hk_.elim); have b5 := ax 2 _ rfl; (try simp only [show (k69).sz = 6 from rfl, Nat.mul_one, Nat.add_zero] at b5); have b6 := ay 2; (try simp only [show (k69).sz = 6 from rfl, Nat.mul_one, Nat.add_zero] at b6); clear be ax ay bf hoki16 hH16) | ((with_reducible refine gate_store (t := 3) (p := 30) rfl ?_); refine store_event (t := 3) (p := 30) (v := ?vo_w17) (w1 := (ag.setCell ⟨a7, (a5 : Int).toNat * 6 + 2, none⟩ (.int .i64 (wrap64 ((wrap64 (a8 + 1)) + 1))))) ?hg ?ho ?hn ?hr ?_; (case ho => rfl); (case hg => rfl); (case hn => rfl); (case hr => first | (go_simp; done) | (go_simp; rfl)); intro bs hw; have hg : ag.grownBy bs (some a7) := (by rw [hw]; exact HP16.2); have hp_ : Kd.S k69 69 bs w0.heap.size (fun k_ => (P0_ k_ ∨ w.heap.size ≤ k_)) (.slice (some ⟨a7, 0, none⟩) a6.length aq) ab := (by rw [hw, Ny218.out]; exact HP16.1); clear HP16; have z_ := p_ (hp_) <| p_ ((by rw [hw]; exact below_set (HB.out) bl.out : Below w0.heap.size w0 bs)) <| a_ (Kept.of_grown (S := (fun k_ => P0_ k_)) hg tq_4 (fun k_ e_ => ((Kd.S_R HO_0.out).1 k_ e_))); clear HO_0 HB HK; obtain ⟨HO_0, HB, HK⟩ := z_; clear hg hw hp_) | ((with_reducible refine gate_callee (f := 32) rfl ?_); refine goesL_ (some 36) rfl rfl Tryz.func32 (by kernel_rfl) rfl #[.int .i64 (wrap64 ((wrap64 ((wrap64 (a8 + 1)) + 1)) + 1))] rfl tq_0 ?_; (with_reducible refine (laws_markText.calls k1 (wrap64 ((wrap64 ((wrap64 (a8 + 1)) + 1)) + 1)) ap _ dv.out).mono ?_); rintro e an ⟨rfl, hb⟩; refine ⟨_, rfl, ?_⟩; have z_ := p_ (Kd.S_below (raS_ HO_0) hb) <| p_ (Kept.below (S := (fun k_ => P0_ k_)) tq_4 hb) <| a_ (below_step th_ hb); clear HO_0 HK HB; obtain ⟨HO_0, HK, HB⟩ := z_; (try clear hb); (try clear hk); have p11 : 0 ≤ (a5 : Int) := of_decide_eq_true tq_2; have q11 : (a5 : Int) < ((a6.length : Int) : Int) := of_decide_eq_true tq_2; obtain ⟨_, e0, bg, bh, ac, ae, _, _⟩ := Kd.S_elem HO_0.out z69 (a5 : Int) p11 q11; obtain ⟨ve11_4, ve11_5, rfl, ge11_4, ge11_5⟩ := k69_openM bh; have bu : an.cell? ⟨a7, (a5 : Int).toNat * 6, none⟩ = some (.int .i64 ((rd_T69 ab a5).f0)) := ac 0 _ rfl; have bv : an.cell? ⟨a7, (a5 : Int).toNat * 6 + 1, none⟩ = some (.int .i64 ((rd_T69 ab a5).f1)) := ac 1 _ rfl; have bw : an.cell? ⟨a7, (a5 : Int).toNat * 6 + 2, none⟩ = some (.int .i64 ((rd_T69 ab a5).f2)) := ac 2 _ rfl; have bx : an.cell? ⟨a7, (a5 : Int).toNat * 6 + 3, none⟩ = some (.string ((rd_T69 ab a5).f3)) := ac 3 _ rfl; have bz : an.cell? ⟨a7, (a5 : Int).toNat * 6 + 4, none⟩ = some (ve11_4) := ac 4 _ rfl; have ca : an.cell? ⟨a7, (a5 : Int).toNat * 6 + 5, none⟩ = some (ve11_5) := ac 5 _ rfl; have cb : an.frozen? ⟨a7, (a5 : Int).toNat * 6, none⟩ = false := ae 0; have cc : an.frozen? ⟨a7, (a5 : Int).toNat * 6 + 1, none⟩ = false := ae 1; have cd : an.frozen? ⟨a7, (a5 : Int).toNat * 6 + 2, none⟩ = false := ae 2; have ce : an.frozen? ⟨a7, (a5 : Int).toNat * 6 + 3, none⟩ = false := ae 3; have cf : an.frozen? ⟨a7, (a5 : Int).toNat * 6 + 4, none⟩ = false := ae 4; have cg : an.frozen? ⟨a7, (a5 : Int).toNat * 6 + 5, none⟩ = false := ae 5; clear bg ac ae bh; replace p11 := eq_true p11; replace q11 := eq_true q11; have ch := Aside0.mk (show Kd.S k69 69 an w0.heap.size (fun k_ => ((fun k_ => (P0_ k_ ∨ w.heap.size ≤ k_))) k_ ∧ ¬ ((fun _ => False)) k_) (.slice (some ⟨a7, 0, none⟩) a6.length aq) ab from tq_32); obtain ⟨oki19, e1, bi, bj, az, b0, hoki19, hH19⟩ := Kd.S_elem ch.out z69 (a5 : Int) (of_decide_eq_true tq_2) (by have h_ : (a5 : Int) < ((a6.length : Int) : Int) := of_decide_eq_true tq_2; first | exact h_ | (have e_ := (Kd.S_reads' HO_0.out).1; omega) | simpa using h_); obtain ⟨ve19_4, ve19_5, rfl, ge19_4, ge19_5⟩ := k69_openM bj; have HP19 := Kd.S_seg hH19 (of_decide_eq_true tq_2) (by have h_ : (a5 : Int) < ((a6.length : Int) : Int) := of_decide_eq_true tq_2; first | exact h_ | (have e_ := (Kd.S_reads' HO_0.out).1; omega) | simpa using h_) (seg := [.string ap]) (j := 3) (show 4 ≤ 6 from by decide) (x' := (⟨(rd_T69 ab a5).f0, (rd_T69 ab a5).f1, (rd_T69 ab a5).f2, ap, (rd_T69 ab a5).f4, (rd_T69 ab a5).f5⟩ : S69)) (k69_mkM _ _ _ (⟨(rd_T69 ab a5).f0, (rd_T69 ab a5).f1, (rd_T69 ab a5).f2, ap, (rd_T69 ab a5).f4, (rd_T69 ab a5).f5⟩ : S69) (Kd.R_mono ge19_4 (fun _ h_ => Or.inl h_)) (Kd.R_mono ge19_5 (fun _ h_ => Or.inl h_))) (fun _ hk => hk) (fun k_ hk_ => hk_.elim); have b7 := az 3 _ rfl; (try simp only [show (k69).sz = 6 from rfl, Nat.mul_one, Nat.add_zero] at b7); have b8 := b0 3; (try simp only [show (k69).sz = 6 from rfl, Nat.mul_one, Nat.add_zero] at b8); clear bi az b0 bj hoki19 hH19) | ((with_reducible refine gate_store (t := 9) (p := 38) rfl ?_); refine store_event (t := 9) (p := 38) (v := ?vo_w20) (w1 := (an.setCell ⟨a7, (a5 : Int).toNat * 6 + 3, none⟩ (.string ap))) ?hg ?ho ?hn ?hr ?_; (case ho => rfl); (case hg => rfl); (case hn => rfl); (case hr => first | (go_simp; done) | (go_simp; rfl)); intro ci hw; have hg : an.grownBy ci (some a7) := (by rw [hw]; exact HP19.2); have hp_ : Kd.S k69 69 ci w0.heap.size (fun k_ => (P0_ k_ ∨ w.heap.size ≤ k_)) (.slice (some ⟨a7, 0, none⟩) a6.length aq) b9 := (by rw [hw, Ny220.out]; exact HP19.1); clear HP19; have z_ := p_ (hp_) <| p_ ((by rw [hw]; exact below_set (HB.out) bl.out : Below w0.heap.size w0 ci)) <| a_ (Kept.of_grown (S := (fun k_ => P0_ k_)) hg tq_4 (fun k_ e_ => ((Kd.S_R HO_0.out).1 k_ e_))); clear HO_0 HB HK; obtain ⟨HO_0, HB, HK⟩ := z_; clear hg hw hp_; obtain ⟨vr_, vs_, hxr_, hxs_, hlr_, _⟩ := mi_lend HO_0.out HK.out (i := a5) (of_decide_eq_true tq_2) (of_decide_eq_true tq_2); have HLr_ := Aside0.mk hlr_; clear hlr_) | ((with_reducible refine gate_callee (f := 59) rfl ?_); refine goesL_ (some 47) rfl rfl Tryz.func59 (by kernel_rfl) rfl #[vr_, .int .i64 (wrap64 ((wrap64 ((wrap64 ((wrap64 (a8 + 1)) + 1)) + 1)) + 1))] rfl tq_0 ?_; (with_reducible refine (laws_markRecS.calls k1 (fun k_ => some k_ = vr_.ownBlock) vr_ ((rd_T69 b9 a5).f4) (wrap64 ((wrap64 ((wrap64 ((wrap64 (a8 + 1)) + 1)) + 1)) + 1)) tr1_ tr2_ w0 _ ?side1 ?side2 AR_.out).mono ?_); (case side1 => exact HB.out); (case side2 => exact HLr_.out.1); rintro e wr_ ⟨rfl, hy0, hb, hkp⟩; refine ⟨_, rfl, ?_⟩; obtain ⟨hS_, hK_⟩ := HLr_.out.2 _ _ hkp hy0; rw [← Nyb_.out] at hS_; clear HO_0 HK HB; have HO_0 := Aside0.mk hS_; have HK := Aside0.mk hK_; have HB := Aside0.mk hb; clear hS_ hK_ hb hkp hy0; clear HLr_ hxr_ hxs_; obtain ⟨vt_, vu_, hxt_, hxu_, _, hle_⟩ := mi_lend HO_0.out HK.out (i := a5) (of_decide_eq_true tq_2) (of_decide_eq_true tq_2); have HLe_ := Aside0.mk hle_; clear hle_) | ((with_reducible refine gate_callee (f := 60) rfl ?_); refine goesL_ (some 54) rfl rfl Tryz.func60 (by kernel_rfl) rfl #[vu_, .int .i64 tr1_] rfl tq_0 ?_; (with_reducible refine (laws_markEntryS.calls k1 (fun k_ => some k_ = vu_.ownBlock) vu_ ((rd_T69 yb_ a5).f5) tr1_ te1_ te2_ w0 _ ?side1 ?side2 AE_.out).mono ?_); (case side1 => exact HB.out); (case side2 => exact HLe_.out.1); rintro e we_ ⟨rfl, hy0, hb, hkp⟩; refine ⟨_, rfl, ?_⟩; obtain ⟨hS_, hK_⟩ := HLe_.out.2 _ _ hkp hy0; rw [← Nyc_.out] at hS_; clear HO_0 HK HB; have HO_0 := Aside0.mk hS_; have HK := Aside0.mk hK_; have HB := Aside0.mk hb; clear hS_ hK_ hb hkp hy0; clear HLe_ hxt_ hxu_))
 go_roundg k1
 case measure => have := HK1.out; omega
 case rel => exact ⟨(yc_), te1_, (wrap64 (a5 + 1)), tq_3, tq_3, H', ⟨tq_22⟩, ⟨(raS_ HO_0)⟩, ⟨tq_4⟩, ⟨th_⟩⟩

/-! ### laws_markPart: function 12 -/
def laws_markPart.f (k : Nat) (a9 : Int) (a7 : List Int) (a8 : List (S69)) (a1 : Int) : Option (Int × List Int × (List (S69))) := (laws_markIntS.f k a7 a1).bind fun a5 => ((laws_markInodeS.f k a8 a5.1).bind fun a6 => (some (a6.1, a5.2, a6.2)))
set_option maxHeartbeats 8000000 in
set_option maxRecDepth 100000 in
theorem laws_markPart.calls (k : Nat) (a9 : Int) (P0_1_ : Nat → Prop) (u9000_ : Value) (a6 : List Int) (P0_2_ : Nat → Prop) (u9001_ : Value) (a7 : List (S69)) (a1 : Int) (r1 : Int) (r2 : List Int) (r3 : List (S69)) (w0 w : World) (hB : Below w0.heap.size w0 w) (ho0_1 : Kd.R (Kd.int .i64) 3 w w0.heap.size P0_1_ u9000_ a6) (ho0_2 : Kd.S k69 69 w w0.heap.size P0_2_ u9001_ a7) (h : laws_markPart.f k a9 a6 a7 a1 = some (r1, r2, r3)) :
  Calls Tryz.prog 12 #[.agg #[.int .i64 a9, u9000_, u9001_], .int .i64 a1] w fun e w' => e = .returned (.int .i64 r1) ∧ Kd.R (Kd.int .i64) 3 w' w0.heap.size (fun k_ => ((P0_1_ k_ ∨ P0_2_ k_) ∨ w.heap.size ≤ k_)) u9000_ r2 ∧ Kd.S k69 69 w' w0.heap.size (fun k_ => ((P0_1_ k_ ∨ P0_2_ k_) ∨ w.heap.size ≤ k_)) u9001_ r3 ∧ Below w0.heap.size w0 w' ∧ Kept w w' (fun k_ => P0_1_ k_ ∨ P0_2_ k_) := by
 have hu35 := Tryz.underlying35
 have HO0_1 := Aside0.mk (show Kd.R (Kd.int .i64) 3 w w0.heap.size (fun k_ => ((P0_1_ k_ ∨ P0_2_ k_) ∨ w.heap.size ≤ k_)) u9000_ a6 from Kd.R_mono ho0_1 (fun k_ hk => (.inl (.inl hk))))
 have HO0_2 := Aside0.mk (show Kd.S k69 69 w w0.heap.size (fun k_ => ((P0_1_ k_ ∨ P0_2_ k_) ∨ w.heap.size ≤ k_)) u9001_ a7 from Kd.S_mono ho0_2 (fun k_ hk => (.inl (.inr hk))))
 have HK := Aside0.mk (Kept.refl w (fun k_ => P0_1_ k_ ∨ P0_2_ k_))
 have HW0 := Aside0.mk hB.size
 have HB := Aside0.mk hB
 clear hB
 unfold laws_markPart.f at h
 have H := h
 clear h
 obtain ⟨⟨aa, ac⟩, A3, H⟩ := bd_ H
 try dsimp -simprocs only at H
 obtain ⟨⟨ae, af⟩, A4, H⟩ := bd_ H
 try dsimp -simprocs only at H
 simp only [Option.some.injEq, Prod.mk.injEq] at H
 obtain ⟨rfl, rfl, rfl⟩ := H
 obtain ⟨Ao5, ab, ah⟩ := Kd.R_slice HO0_1.out
 subst ah
 obtain ⟨Ao6, ag, ai⟩ := Kd.S_slice HO0_2.out
 subst ai
 go_enter Tryz.func12, Tryz.ntmps12
 go_wp2_with (first | ((with_reducible refine gate_dst (N := 2) rfl ?_); refine be_ 2 (cs := #[.int .i64 a9, .slice Ao5 a6.length ab, .slice Ao6 a7.length ag]) 35 ?_; intro a8 hg w7 hbox hb; have z_ := p_ (Kd.R_below (raR_ HO0_1) hb) <| p_ (Kd.S_below (raS_ HO0_2) hb) <| p_ (Kept.below (S := (fun k_ => P0_1_ k_ ∨ P0_2_ k_)) tq_4 hb) <| p_ (below_step th_ hb) <| p_ (hbox) <| p_ ((by rw [hg]; exact (by first | exact HK.out.1 | exact (show Kept w _ (fun k_ => P0_1_ k_ ∨ P0_2_ k_) from tq_4).1) : w.heap.size ≤ a8)) <| a_ ((by rw [hg]; exact (below_size th_) : w0.heap.size ≤ a8)); clear HO0_1 HO0_2 HK HB; obtain ⟨HO0_1, HO0_2, HK, HB, a5, GW221, GE221⟩ := z_; clear hb hbox hg; have ak := bb3_ a5.out) | ((with_reducible refine gate_callee (f := 30) rfl ?_); refine goesL_ (some 8) rfl rfl Tryz.func30 (by kernel_rfl) rfl #[.slice Ao5 a6.length ab, .int .i64 a1] rfl tq_0 ?_; (with_reducible refine (laws_markIntS.calls k (fun k_ => some k_ = (.slice Ao5 a6.length ab : Value).ownBlock) (.slice Ao5 a6.length ab) a6 a1 aa ac w0 _ ?side1 ?side2 A3.out).mono ?_); (case side1 => exact tq_70); (case side2 => exact Kd.R_tight rfl HO0_1.out); rintro e w9 ⟨rfl, hy0, hb, hkp⟩; refine ⟨_, rfl, ?_⟩; have z_ := p_ (Kd.R_reok rfl hy0 (fun k_ e_ => HO0_1.out.1 k_ e_)) <| p_ (Kd.S_mono (ok' := fun k_ => ((P0_1_ k_ ∨ P0_2_ k_) ∨ w.heap.size ≤ k_)) (Kd.S_keptB ((Kd.S_apart' HO0_2.out (Kd.R_typed HO0_1.out) (by decide))) hkp (fun k_ hk_ hs_ => (hk_.2) hs_)) (fun k_ hk_ => hk_.1.1)) <| p_ (blk_kept (kb_ a5) hkp (fun hs_ => (fun e_ => (Kd.R_ne HO0_1.out a5.out (by decide)) e_) hs_)) <| p_ (Kept.then_ (S := (fun k_ => P0_1_ k_ ∨ P0_2_ k_)) tq_38 hkp (fun k_ hs_ => (fun e_ => (HO0_1.out.1 k_ e_.symm)) hs_)) <| a_ (hb); clear HO0_1 HO0_2 a5 HK HB; obtain ⟨HO0_1, HO0_2, a5, HK, HB⟩ := z_; (try clear hb); (try clear hkp); (try clear hy0); have aj := bb3_ a5.out) | ((with_reducible refine gate_callee (f := 31) rfl ?_); refine goesL_ (some 12) rfl rfl Tryz.func31 (by kernel_rfl) rfl #[.slice Ao6 a7.length ag, .int .i64 aa] rfl tq_0 ?_; (with_reducible refine (laws_markInodeS.calls k ?pp_ (.slice Ao6 a7.length ag) a7 aa ae af w0 _ ?side1 ?side2 A4.out).mono ?_); (case side1 => exact tq_70); (case side2 => exact Kd.S_bound HO0_2.out); rintro e al ⟨rfl, hy0, hb, hkp⟩; refine ⟨_, rfl, ?_⟩; have z_ := p_ (Kd.R_mono (ok' := fun k_ => ((P0_1_ k_ ∨ P0_2_ k_) ∨ w.heap.size ≤ k_)) (R_keptT rfl HO0_1.out hkp (fun k_ e_ hs_ => by obtain ⟨c_, hc_⟩ := Kd.R_typed HO0_1.out k_ e_.symm; exact ty_no hc_ (by decide) hs_.2.2.2)) (fun k_ hk_ => by first | exact hk_ | exact hk_.1)) <| p_ (Kd.S_mono hy0 (fun k_ hk_ => hk_.elim (fun h_ => h_.1) (fun h_ => .inr (Nat.le_trans HK.out.1 h_)))) <| p_ (blk_kept (kb_ a5) hkp (fun hs_ => ty_no a5.out (by decide) hs_.2.2.2)) <| p_ (Kept.then_ (S := (fun k_ => P0_1_ k_ ∨ P0_2_ k_)) tq_38 hkp (fun k_ hs_ => hs_.1)) <| a_ (hb); clear HO0_1 HO0_2 a5 HK HB; obtain ⟨HO0_1, HO0_2, a5, HK, HB⟩ := z_; (try clear hb); (try clear hkp); (try clear hy0)))
 go_ret
 exact ⟨tq_1, (raR_ HO0_1), (raS_ HO0_2), th_, tq_38⟩

/-! ### laws_markWriteS: function 13 -/
def laws_markWriteS.l0 : Nat → List (S53) → Int → Int → Option (Int × (List (S53)))
 | 0, _, _, _ => none
 | k + 1, x0, x1, x5 => if x5 < (x0.length : Int) then (if 0 ≤ x5 then ((some (x0.set (x5 : Int).toNat (⟨x1, (rd_T53 x0 x5).f1⟩ : S53) : List (S53))).bind fun a5 => ((laws_markText.f k (wrap64 (x1 + 1))).bind fun a6 => (laws_markWriteS.l0 k (a5.set (x5 : Int).toNat (⟨(rd_T53 a5 x5).f0, a6⟩ : S53)) (wrap64 ((wrap64 (x1 + 1)) + 1)) (wrap64 (x5 + 1))))) else (none)) else (some (x1, x0))
def laws_markWriteS.f (k : Nat) (l0 : List (S53)) (a1 : Int) : Option (Int × (List (S53))) := laws_markWriteS.l0 k l0 a1 0
set_option maxHeartbeats 8000000 in
set_option maxRecDepth 100000 in
theorem laws_markWriteS.calls (k : Nat) (P0_ : Nat → Prop) (u9000_ : Value) (l0 : List (S53)) (a1 : Int) (r1 : Int) (r2 : List (S53)) (w0 w : World) (hB : Below w0.heap.size w0 w) (ho0 : Kd.R k53 53 w w0.heap.size P0_ u9000_ l0) (h : laws_markWriteS.f k l0 a1 = some (r1, r2)) :
  Calls Tryz.prog 13 #[u9000_, .int .i64 a1] w fun e w' => e = .returned (.int .i64 r1) ∧ Kd.R k53 53 w' w0.heap.size (fun k_ => (P0_ k_ ∨ w.heap.size ≤ k_)) u9000_ r2 ∧ Below w0.heap.size w0 w' ∧ Kept w w' (fun k_ => P0_ k_) := by
 have HO0 := Aside0.mk (show Kd.R k53 53 w w0.heap.size (fun k_ => (P0_ k_ ∨ w.heap.size ≤ k_)) u9000_ l0 from Kd.R_mono ho0 (fun k_ hk => (.inl hk)))
 have HK := Aside0.mk (Kept.refl w (fun k_ => P0_ k_))
 have HW0 := Aside0.mk hB.size
 have HB := Aside0.mk hB
 clear hB
 unfold laws_markWriteS.f at h
 have H := h
 clear h
 have H' := Aside0.mk H
 clear H
 go_enter Tryz.func13, Tryz.ntmps13
 go_wp2
 go_loopg [1, 5] k (fun kq v1 v5 w' => ∃ (a6 : List (S53)) (a7 : Int) (a5 : Int), v1 = .int .i64 a7 ∧ v5 = .int .i64 a5 ∧ Aside0 (laws_markWriteS.l0 kq a6 a7 a5 = some (r1, r2)) ∧ Aside0 (kq ≤ k) ∧ Aside0 (Kd.R k53 53 w' w0.heap.size (fun k_ => (P0_ k_ ∨ w.heap.size ≤ k_)) u9000_ a6) ∧ Aside0 (Kept w w' (fun k_ => P0_ k_)) ∧ Aside0 (Below w0.heap.size w0 w'))
 case atStart => exact ⟨(l0), (a1), (0), tq_3, tq_3, H', ⟨Nat.le_refl _⟩, ⟨(raR_ HO0)⟩, ⟨tq_4⟩, ⟨th_⟩⟩
 case round =>
 clear H'
 try clear c1; try clear p2
 obtain ⟨a6, a7, a5, rfl, rfl, HA, HK1, HO_0, HK, HB⟩ := hrel
 cases gk with
 | zero => exact absurd HA.out (by simp [laws_markWriteS.l0])
 | succ k1 =>
 have H := HA.out
 clear HA
 simp only [laws_markWriteS.l0] at H
 have b4 := Aside0.mk H
 clear H
 obtain ⟨Ao4, az, bj⟩ := Kd.R_slice HO_0.out
 subst bj
 go_upto_if 9 with (fail)
 have H := b4.out
 clear b4
 by_cases c5 : a5 < (a6.length : Int)
 rotate_left
 ·rw [if_neg c5] at H
  have ab := decide_eq_false c5
  clear c5
  (first | rw [ab] | (simp only [i64_w, i32_w]; rw [ab]) | skip)
  simp only [Option.some.injEq, Prod.mk.injEq] at H
  obtain ⟨rfl, rfl⟩ := H
  go_wp2
  go_ret
  exact ⟨tq_1, (raR_ HO_0), th_, tq_4⟩
 rw [if_pos c5] at H
 have ab := decide_eq_true c5
 clear c5
 (first | rw [ab] | (simp only [i64_w, i32_w]; rw [ab]) | skip)
 obtain ⟨c6, H⟩ := fc_ H
 have bl := decide_eq_true c6
 clear c6
 obtain ⟨a9, Ny226, H⟩ := bs_ H
 obtain ⟨aa, A8, H⟩ := bd_ H
 obtain ⟨aj, hy228⟩ : ∃ y_ : List (S53), y_ = (a9.set (a5 : Int).toNat (⟨(rd_T53 a9 a5).f0, aa⟩ : S53)) := ⟨_, rfl⟩
 replace H : (laws_markWriteS.l0 k1 aj (wrap64 ((wrap64 (a7 + 1)) + 1)) (wrap64 (a5 + 1))) = some (r1, r2) := by first | (rw [hy228]; with_reducible exact H) | (have H2_ := (Option.bind_some _ _).symm.trans H; rw [hy228]; with_reducible exact H2_) | (have H2_ := (Option.bind_some _ _).symm.trans H; with_reducible exact H2_) | with_reducible exact H | (rw [hy228]; exact H) | exact H
 have Ny228 := Aside0.mk hy228
 clear hy228
 have H' := Aside0.mk H
 clear H
 have p7 : 0 ≤ (a5 : Int) := of_decide_eq_true tq_2
 have q7 : (a5 : Int) < ((a6.length : Int) : Int) := of_decide_eq_true tq_2
 obtain ⟨a8, bp, b5, b6, bm, bq, b7⟩ := Kd.R_form HO_0.out (by omega)
 (first | cases b5 | (injection b5 with ea_ en_ ec_; (first | subst ea_ | (injection ea_ with ea_; subst ea_)); subst ec_; clear en_))
 have b8 := Aside0.mk b6
 have br := Aside0.mk b7
 clear b6 bm b7
 have HMgo7 := Aside0.mk (show (P0_ a8 ∨ w.heap.size ≤ a8) from (HO_0.out.1 _ rfl))
 obtain ⟨bs, b0, b9, ak, al⟩ := Kd.R_elem HO_0.out z53 (a5 : Int) p7 q7
 obtain rfl := k53_openM b9
 have ba : wr.cell? ⟨a8, (a5 : Int).toNat * 2, none⟩ = some (.int .i64 ((rd_T53 a6 a5).f0)) := ak 0 _ rfl
 have bb : wr.cell? ⟨a8, (a5 : Int).toNat * 2 + 1, none⟩ = some (.string ((rd_T53 a6 a5).f1)) := ak 1 _ rfl
 have bc : wr.frozen? ⟨a8, (a5 : Int).toNat * 2, none⟩ = false := al 0
 have bd : wr.frozen? ⟨a8, (a5 : Int).toNat * 2 + 1, none⟩ = false := al 1
 clear b0 ak al b9
 replace p7 := eq_true p7
 replace q7 := eq_true q7
 have av := Aside0.mk (show Kd.R k53 53 wr w0.heap.size (fun k_ => (P0_ k_ ∨ w.heap.size ≤ k_)) (.slice (some ⟨a8, 0, none⟩) a6.length az) a6 from (raR_ HO_0))
 obtain ⟨bn, af, aw, ac, ag⟩ := Kd.R_elem av.out z53 (a5 : Int) (of_decide_eq_true tq_2) (by have h_ : (a5 : Int) < ((a6.length : Int) : Int) := of_decide_eq_true tq_2; first | exact h_ | (have e_ := (Kd.R_reads' HO_0.out).1; omega) | simpa using h_)
 obtain rfl := k53_openM aw
 have HP10 := Kd.R_seg av.out (a5 : Int) (of_decide_eq_true tq_2) (by have h_ : (a5 : Int) < ((a6.length : Int) : Int) := of_decide_eq_true tq_2; first | exact h_ | (have e_ := (Kd.R_reads' HO_0.out).1; omega) | simpa using h_) (seg := [.int .i64 a7]) (j := 0) af ac (show 1 ≤ 2 from by decide) (x' := (⟨a7, (rd_T53 a6 a5).f1⟩ : S53)) (k53_mkM _ _ _ (⟨a7, (rd_T53 a6 a5).f1⟩ : S53) ) (fun _ hk => hk)
 have am := ac 0 _ rfl
 (try simp only [show (k53).sz = 2 from rfl, Nat.mul_one, Nat.add_zero] at am)
 have an := ag 0
 (try simp only [show (k53).sz = 2 from rfl, Nat.mul_one, Nat.add_zero] at an)
 clear af ac ag aw
 go_wp2_with (first | ((with_reducible refine gate_store (t := 3) (p := 16) rfl ?_); refine store_event (t := 3) (p := 16) (v := ?vo_w11) (w1 := (wr.setCell ⟨a8, (a5 : Int).toNat * 2, none⟩ (.int .i64 a7))) ?hg ?ho ?hn ?hr ?_; (case ho => rfl); (case hg => rfl); (case hn => rfl); (case hr => first | (go_simp; done) | (go_simp; rfl)); intro b1 hw; have hg : wr.grownBy b1 (some a8) := (by rw [hw]; exact HP10.2); have hp_ : Kd.R k53 53 b1 w0.heap.size (fun k_ => (P0_ k_ ∨ w.heap.size ≤ k_)) (.slice (some ⟨a8, 0, none⟩) a6.length az) a9 := (by rw [hw, Ny226.out]; exact HP10.1); clear HP10; have z_ := p_ (hp_) <| p_ ((by rw [hw]; exact below_set (HB.out) b8.out : Below w0.heap.size w0 b1)) <| a_ (Kept.of_grown (S := (fun k_ => P0_ k_)) hg tq_4 (fun k_ e_ => (HO_0.out.1 k_ e_))); clear HO_0 HB HK; obtain ⟨HO_0, HB, HK⟩ := z_; clear hg hw hp_) | ((with_reducible refine gate_callee (f := 32) rfl ?_); refine goesL_ (some 22) rfl rfl Tryz.func32 (by kernel_rfl) rfl #[.int .i64 (wrap64 (a7 + 1))] rfl tq_0 ?_; (with_reducible refine (laws_markText.calls k1 (wrap64 (a7 + 1)) aa _ A8.out).mono ?_); rintro e ao ⟨rfl, hb⟩; refine ⟨_, rfl, ?_⟩; have z_ := p_ (Kd.R_below (raR_ HO_0) hb) <| p_ (Kept.below (S := (fun k_ => P0_ k_)) tq_4 hb) <| a_ (below_step th_ hb); clear HO_0 HK HB; obtain ⟨HO_0, HK, HB⟩ := z_; (try clear hb); (try clear hk); have p9 : 0 ≤ (a5 : Int) := of_decide_eq_true tq_2; have q9 : (a5 : Int) < ((a6.length : Int) : Int) := of_decide_eq_true tq_2; obtain ⟨bu, b2, be, ap, aq⟩ := Kd.R_elem HO_0.out z53 (a5 : Int) p9 q9; obtain rfl := k53_openM be; have bf : ao.cell? ⟨a8, (a5 : Int).toNat * 2, none⟩ = some (.int .i64 ((rd_T53 a9 a5).f0)) := ap 0 _ rfl; have bg : ao.cell? ⟨a8, (a5 : Int).toNat * 2 + 1, none⟩ = some (.string ((rd_T53 a9 a5).f1)) := ap 1 _ rfl; have bh : ao.frozen? ⟨a8, (a5 : Int).toNat * 2, none⟩ = false := aq 0; have bi : ao.frozen? ⟨a8, (a5 : Int).toNat * 2 + 1, none⟩ = false := aq 1; clear b2 ap aq be; replace p9 := eq_true p9; replace q9 := eq_true q9; have ax := Aside0.mk (show Kd.R k53 53 ao w0.heap.size (fun k_ => (P0_ k_ ∨ w.heap.size ≤ k_)) (.slice (some ⟨a8, 0, none⟩) a6.length az) a9 from (raR_ HO_0)); obtain ⟨bo, ah, ay, ae, ai⟩ := Kd.R_elem ax.out z53 (a5 : Int) (of_decide_eq_true tq_2) (by have h_ : (a5 : Int) < ((a6.length : Int) : Int) := of_decide_eq_true tq_2; first | exact h_ | (have e_ := (Kd.R_reads' HO_0.out).1; omega) | simpa using h_); obtain rfl := k53_openM ay; have HP13 := Kd.R_seg ax.out (a5 : Int) (of_decide_eq_true tq_2) (by have h_ : (a5 : Int) < ((a6.length : Int) : Int) := of_decide_eq_true tq_2; first | exact h_ | (have e_ := (Kd.R_reads' HO_0.out).1; omega) | simpa using h_) (seg := [.string aa]) (j := 1) ah ae (show 2 ≤ 2 from by decide) (x' := (⟨(rd_T53 a9 a5).f0, aa⟩ : S53)) (k53_mkM _ _ _ (⟨(rd_T53 a9 a5).f0, aa⟩ : S53) ) (fun _ hk => hk); have ar := ae 1 _ rfl; (try simp only [show (k53).sz = 2 from rfl, Nat.mul_one, Nat.add_zero] at ar); have au := ai 1; (try simp only [show (k53).sz = 2 from rfl, Nat.mul_one, Nat.add_zero] at au); clear ah ae ai ay) | ((with_reducible refine gate_store (t := 9) (p := 24) rfl ?_); refine store_event (t := 9) (p := 24) (v := ?vo_w14) (w1 := (ao.setCell ⟨a8, (a5 : Int).toNat * 2 + 1, none⟩ (.string aa))) ?hg ?ho ?hn ?hr ?_; (case ho => rfl); (case hg => rfl); (case hn => rfl); (case hr => first | (go_simp; done) | (go_simp; rfl)); intro b3 hw; have hg : ao.grownBy b3 (some a8) := (by rw [hw]; exact HP13.2); have hp_ : Kd.R k53 53 b3 w0.heap.size (fun k_ => (P0_ k_ ∨ w.heap.size ≤ k_)) (.slice (some ⟨a8, 0, none⟩) a6.length az) aj := (by rw [hw, Ny228.out]; exact HP13.1); clear HP13; have z_ := p_ (hp_) <| p_ ((by rw [hw]; exact below_set (HB.out) b8.out : Below w0.heap.size w0 b3)) <| a_ (Kept.of_grown (S := (fun k_ => P0_ k_)) hg tq_4 (fun k_ e_ => (HO_0.out.1 k_ e_))); clear HO_0 HB HK; obtain ⟨HO_0, HB, HK⟩ := z_; clear hg hw hp_))
 go_roundg k1
 case measure => have := HK1.out; omega
 case rel => exact ⟨(aj), (wrap64 ((wrap64 (a7 + 1)) + 1)), (wrap64 (a5 + 1)), tq_3, tq_3, H', ⟨tq_22⟩, ⟨(raR_ HO_0)⟩, ⟨tq_4⟩, ⟨th_⟩⟩

end Go.Proofs.YtleoknilacjakaaGreat.PFnExactChanged
