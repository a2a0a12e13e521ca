/- Contracts of Go functions, written by a program of ours over the print of the kit: each says that the call returns what the Lean function beside it computes. Conditions: as each theorem states them. -/
import Derived.Test.YtleoknilacjakaaGreatPkFnExactPartWrites
import Derived.Test.YtleoknilacjakaaGreatPFnExactPartWritesx0
import Derived.Test.YtleoknilacjakaaGreatPFnExactPartWritesx22
namespace Go.Proofs.YtleoknilacjakaaGreat.PFnExactPartWrites
open Go.RowKit Go.Proofs.YtleoknilacjakaaGreatW.PrintWords Go.Proofs.YtleoknilacjakaaGreatW.PrintLast Go.Proofs.YtleoknilacjakaaGreatW.PrintMore
attribute [local go_sem] max2_int min2_int max_two min_two max_three min_three max_four min_four   -- for this text's walks alone
set_option linter.unusedVariables false
set_option linter.unusedSimpArgs false

/-! ### laws_eqInode: function 58 -/
def laws_eqInode.f (k : Nat) (a0_0 : Int) (a0_1 : Int) (a0_2 : Int) (a0_3 : ByteArray) (l0_4 : List (S89)) (l0_5 : List (S72)) (a1_0 : Int) (a1_1 : Int) (a1_2 : Int) (a1_3 : ByteArray) (l1_4 : List (S89)) (l1_5 : List (S72)) : Option (Bool) := if a0_0 = a1_0 then (if a0_1 = a1_1 then (if a0_2 = a1_2 then (if a0_3.toList = a1_3.toList then ((laws_eqRecS.f k l0_4 l1_4).bind fun t576 => (if t576 = true then ((laws_eqEntryS.f k l0_5 l1_5).bind fun t577 => (if t577 = true then (some true) else (some false))) else (some false))) else (some false)) else (some false)) else (some false)) else (some false)
set_option maxHeartbeats 8000000 in
set_option maxRecDepth 100000 in
theorem laws_eqInode.calls (k : Nat) (aj : Int) (ak : Int) (al : Int) (am : ByteArray) (an : Option Addr) (ao : Nat) (l0_4 : List (S89)) (ap : Option Addr) (aq : Nat) (ab : List (S72)) (ar : Int) (au : Int) (av : Int) (aw : ByteArray) (ax : Option Addr) (ay : Nat) (ac : List (S89)) (az : Option Addr) (b0 : Nat) (ae : List (S72)) (r : Bool) (w : World) (b1 : Kd.C k89 w an l0_4.length l0_4) (b2 : l0_4.length ≤ ao) (b3 : Kd.C k72 w ap ab.length ab) (b4 : ab.length ≤ aq) (b5 : Kd.C k89 w ax ac.length ac) (b6 : ac.length ≤ ay) (b7 : Kd.C k72 w az ae.length ae) (b8 : ae.length ≤ b0) (h : laws_eqInode.f k aj ak al am l0_4 ab ar au av aw ac ae = some r) :
  Calls Tryz.prog 58 #[.agg #[.int .i64 aj, .int .i64 ak, .int .i64 al, .string am, .slice an l0_4.length ao, .slice ap ab.length aq], .agg #[.int .i64 ar, .int .i64 au, .int .i64 av, .string aw, .slice ax ac.length ay, .slice az ae.length b0]] w fun e w' => e = .returned (.bool r) ∧ Below w.heap.size w w' := by
 have hu69 := Tryz.underlying69
 have HR0_4 := Aside0.mk b1
 have bc := Aside0.mk b2
 clear b1 b2
 have HR0_5 := Aside0.mk b3
 have bd := Aside0.mk b4
 clear b3 b4
 have be := Aside0.mk b5
 have bf := Aside0.mk b6
 clear b5 b6
 have bg := Aside0.mk b7
 have bh := Aside0.mk b8
 clear b7 b8
 have HB := Aside0.mk (Below.refl w.heap.size w)
 unfold laws_eqInode.f at h
 have H := h
 clear h
 have ci := Aside0.mk H
 clear H
 go_enter Tryz.func58, Tryz.ntmps58
 go_upto_if 9 with (first | ((with_reducible refine gate_dst (N := 2) rfl ?_); refine be_ 2 (cs := #[.int .i64 aj, .int .i64 ak, .int .i64 al, .string am, .slice an l0_4.length ao, .slice ap ab.length aq]) 69 ?_; intro cj hg w4 hbox hb; have z_ := bx0_ th_ hb hbox hg; clear HB; obtain ⟨HB, a9, ck, cl⟩ := z_; clear hb hbox hg) | ((with_reducible refine gate_dst (N := 3) rfl ?_); refine be_ 3 (cs := #[.int .i64 ar, .int .i64 au, .int .i64 av, .string aw, .slice ax ac.length ay, .slice az ae.length b0]) 69 ?_; intro cm hg w5 hbox hb; have z_ := bx1_ (kb_ a9) th_ hb hbox hg; clear a9 HB; obtain ⟨a9, HB, aa, cn, co, a7, a8⟩ := z_; clear hb hbox hg; obtain ⟨hnb6, hnc6⟩ := an2_ a7 a8; have cp := bb6_ a9.out; have cq := bb6_ aa.out))
 (try simp only [Act.put, List.setIfInBounds_toArray, List.set_cons_zero, List.set_cons_succ])
 (try clear cp)
 (try clear cq)
 (try clear cp)
 (try clear cq)
 have H := ci.out
 clear ci
 by_cases c9 : aj = ar
 rotate_left
 ·rw [if_neg c9] at H
  have ai := beq_eq_false_iff_ne.mpr c9
  have ch := bne_iff_ne.mpr c9
  (first | rw [ai] | (simp only [i64_w, i32_w]; rw [ai]) | skip)
  obtain rfl := Option.some.inj H
  go_wp2
  go_ret
  exact ⟨tq_1, th_⟩
 rw [if_pos c9] at H
 have ai := beq_iff_eq.mpr c9
 have ch := bne_eq_false_iff_eq.mpr c9
 clear c9
 (first | rw [ai] | (simp only [i64_w, i32_w]; rw [ai]) | skip)
 have bi := Aside0.mk H
 clear H
 obtain ⟨a5, a6⟩ := an2_ a7 a8
 have bj := bb6_ a9.out
 have bl := bb6_ aa.out
 go_upto_if 14 with (fail)
 (try clear a5 a6)
 (try clear bj)
 (try clear bl)
 (try clear bj)
 (try clear bl)
 have H := bi.out
 clear bi
 by_cases b9 : ak = au
 rotate_left
 ·rw [if_neg b9] at H
  have af := beq_eq_false_iff_ne.mpr b9
  have bm := bne_iff_ne.mpr b9
  (first | rw [af] | (simp only [i64_w, i32_w]; rw [af]) | skip)
  obtain rfl := Option.some.inj H
  go_wp2
  go_ret
  exact ⟨tq_1, th_⟩
 rw [if_pos b9] at H
 have af := beq_iff_eq.mpr b9
 have bm := bne_eq_false_iff_eq.mpr b9
 clear b9
 (first | rw [af] | (simp only [i64_w, i32_w]; rw [af]) | skip)
 have bn := Aside0.mk H
 clear H
 obtain ⟨a5, a6⟩ := an2_ a7 a8
 have bo := bb6_ a9.out
 have bp := bb6_ aa.out
 go_upto_if 19 with (fail)
 (try clear a5 a6)
 (try clear bo)
 (try clear bp)
 (try clear bo)
 (try clear bp)
 have H := bn.out
 clear bn
 by_cases ba : al = av
 rotate_left
 ·rw [if_neg ba] at H
  have ag := beq_eq_false_iff_ne.mpr ba
  have bq := bne_iff_ne.mpr ba
  (first | rw [ag] | (simp only [i64_w, i32_w]; rw [ag]) | skip)
  obtain rfl := Option.some.inj H
  go_wp2
  go_ret
  exact ⟨tq_1, th_⟩
 rw [if_pos ba] at H
 have ag := beq_iff_eq.mpr ba
 have bq := bne_eq_false_iff_eq.mpr ba
 clear ba
 (first | rw [ag] | (simp only [i64_w, i32_w]; rw [ag]) | skip)
 have br := Aside0.mk H
 clear H
 obtain ⟨a5, a6⟩ := an2_ a7 a8
 have bs := bb6_ a9.out
 have bu := bb6_ aa.out
 go_upto_if 24 with (fail)
 (try clear a5 a6)
 (try clear bs)
 (try clear bu)
 (try clear bs)
 (try clear bu)
 have H := br.out
 clear br
 by_cases bb : am.toList = aw.toList
 rotate_left
 ·rw [if_neg bb] at H
  have ah := beq_eq_false_iff_ne.mpr bb
  have bv := bne_iff_ne.mpr bb
  (first | rw [ah] | (simp only [i64_w, i32_w]; rw [ah]) | skip)
  obtain rfl := Option.some.inj H
  go_wp2
  go_ret
  exact ⟨tq_1, th_⟩
 rw [if_pos bb] at H
 have ah := beq_iff_eq.mpr bb
 have bv := bne_eq_false_iff_eq.mpr bb
 clear bb
 (first | rw [ah] | (simp only [i64_w, i32_w]; rw [ah]) | skip)
 obtain ⟨bw, cr, H⟩ := bd_ H
 have bx := Aside0.mk H
 clear H
 obtain ⟨a5, a6⟩ := an2_ a7 a8
 have bz := bb6_ a9.out
 have ca := bb6_ aa.out
 go_upto_if 30 with (first | ((with_reducible refine gate_callee (f := 88) rfl ?_); refine goesL_ (some 29) rfl rfl Tryz.func88 (by kernel_rfl) rfl #[.slice an l0_4.length ao, .slice ax ac.length ay] rfl tq_0 ?_; (with_reducible refine (laws_eqRecS.calls k _ _ l0_4 _ _ ac bw _ ?side1 ?side2 ?side3 ?side4 cr.out).mono ?_); (case side1 => exact tq_26); (case side2 => exact bc.out); (case side3 => repeat (first | exact (Kd.C_below be.out HB.out) | (with_reducible refine Kd.C_alloc ?_ _) | (with_reducible refine Kd.C_drewN ?_ _) | (with_reducible refine Kd.C_drew ?_))); (case side4 => exact bf.out); rintro e cu ⟨rfl, hb⟩; refine ⟨_, rfl, ?_⟩; have z_ := bw2_ (kb_ a9) (kb_ aa) th_ hb; clear a9 aa HB; obtain ⟨a9, aa, HB⟩ := z_; (try clear hb)))
 (try simp only [Act.put, List.setIfInBounds_toArray, List.set_cons_zero, List.set_cons_succ])
 (try clear a5 a6)
 (try clear bz)
 (try clear ca)
 (try clear bz)
 (try clear ca)
 have H := bx.out
 clear bx
 by_cases cf : bw = true
 rotate_left
 ·replace cf := Bool.eq_false_iff.mpr cf
  subst cf
  rw [if_neg nf_] at H
  obtain rfl := Option.some.inj H
  go_wp2
  go_ret
  exact ⟨tq_1, th_⟩
 subst cf
 rw [if_pos rfl] at H
 obtain ⟨cb, ct, H⟩ := bd_ H
 have cc := Aside0.mk H
 clear H
 obtain ⟨a5, a6⟩ := an2_ a7 a8
 have cd := bb6_ a9.out
 have ce := bb6_ aa.out
 go_upto_if 36 with (first | ((with_reducible refine gate_callee (f := 89) rfl ?_); refine goesL_ (some 35) rfl rfl Tryz.func89 (by kernel_rfl) rfl #[.slice ap ab.length aq, .slice az ae.length b0] rfl tq_0 ?_; (with_reducible refine (laws_eqEntryS.calls k _ _ ab _ _ ae cb _ ?side1 ?side2 ?side3 ?side4 ct.out).mono ?_); (case side1 => exact tq_25); (case side2 => exact bd.out); (case side3 => repeat (first | exact (Kd.C_below bg.out HB.out) | (with_reducible refine Kd.C_alloc ?_ _) | (with_reducible refine Kd.C_drewN ?_ _) | (with_reducible refine Kd.C_drew ?_))); (case side4 => exact bh.out); rintro e cv ⟨rfl, hb⟩; refine ⟨_, rfl, ?_⟩; have z_ := bw2_ (kb_ a9) (kb_ aa) th_ hb; clear a9 aa HB; obtain ⟨a9, aa, HB⟩ := z_; (try clear hb)))
 (try simp only [Act.put, List.setIfInBounds_toArray, List.set_cons_zero, List.set_cons_succ])
 (try clear a5 a6)
 (try clear cd)
 (try clear ce)
 (try clear cd)
 (try clear ce)
 have H := cc.out
 clear cc
 by_cases cg : cb = true
 ·subst cg
  rw [if_pos rfl] at H
  obtain rfl := Option.some.inj H
  go_wp2
  go_ret
  exact ⟨tq_1, th_⟩
 replace cg := Bool.eq_false_iff.mpr cg
 subst cg
 rw [if_neg nf_] at H
 obtain rfl := Option.some.inj H
 go_wp2
 go_ret
 exact ⟨tq_1, th_⟩

/-! ### laws_eqInodeS: function 29 -/
def laws_eqInodeS.l0 : Nat → List (S69) → List (S69) → Int → Option (Bool)
 | 0, _, _, _ => none
 | k + 1, x0, x1, x5 => if x5 < (x0.length : Int) then (if 0 ≤ x5 then (if x5 < (x1.length : Int) then ((laws_eqInode.f k ((rd_T69 x0 x5).f0) ((rd_T69 x0 x5).f1) ((rd_T69 x0 x5).f2) ((rd_T69 x0 x5).f3) ((rd_T69 x0 x5).f4) ((rd_T69 x0 x5).f5) ((rd_T69 x1 x5).f0) ((rd_T69 x1 x5).f1) ((rd_T69 x1 x5).f2) ((rd_T69 x1 x5).f3) ((rd_T69 x1 x5).f4) ((rd_T69 x1 x5).f5)).bind fun t580 => (if t580 = true then (laws_eqInodeS.l0 k x0 x1 (wrap64 (x5 + 1))) else (some false))) else (none)) else (none)) else (some true)
def laws_eqInodeS.f (k : Nat) (l0 : List (S69)) (l1 : List (S69)) : Option (Bool) := if (l0.length : Int) = (l1.length : Int) then (laws_eqInodeS.l0 k l0 l1 0) else (some false)
def laws_eqInodeS.T6 : Bool × List (List Nat × List Nat) := (true, [([], []), ([], []), ([0, 1], [0, 1]), ([2], [2]), ([], []), ([], []), ([4, 5], [4, 5]), ([6], [6]), ([3, 7], [3, 7]), ([8], [8])])
def laws_eqInodeS.B6 : List Nat := [0, 0, 3, 7, 0, 0, 48, 112, 255, 511]
theorem laws_eqInodeS.tab6 : rtab .any (opsOf Tryz.f29 6) = laws_eqInodeS.T6 := by kernel_rfl
theorem laws_eqInodeS.bits6 : waitsOk laws_eqInodeS.T6.2 laws_eqInodeS.B6 = true := by kernel_rfl
set_option maxHeartbeats 8000000 in
set_option maxRecDepth 100000 in
theorem laws_eqInodeS.calls (k : Nat) (A0 : Option Addr) (c0 : Nat) (l0 : List (S69)) (A1 : Option Addr) (c1 : Nat) (l1 : List (S69)) (r : Bool) (w : World) (hr0 : Kd.C k69 w A0 l0.length l0) (hc0 : l0.length ≤ c0) (hr1 : Kd.C k69 w A1 l1.length l1) (hc1 : l1.length ≤ c1) (h : laws_eqInodeS.f k l0 l1 = some r) :
  Calls Tryz.prog 29 #[.slice A0 l0.length c0, .slice A1 l1.length c1] w fun e w' => e = .returned (.bool r) ∧ Below w.heap.size w w' := by
 have hu69 := Tryz.underlying69
 have HR0 := Aside0.mk hr0
 have bo := Aside0.mk hc0
 clear hr0 hc0
 have bl := Aside0.mk hr1
 have bp := Aside0.mk hc1
 clear hr1 hc1
 have HB := Aside0.mk (Below.refl w.heap.size w)
 unfold laws_eqInodeS.f at h
 have H := h
 clear h
 by_cases c3 : (l0.length : Int) = (l1.length : Int)
 rotate_left
 ·rw [if_neg c3] at H
  have bb := beq_eq_false_iff_ne.mpr c3
  have bc := bne_iff_ne.mpr c3
  have bd : (l0.length == l1.length) = false := by first | simpa using c3 | (simp at c3 ⊢; omega)
  obtain rfl := Option.some.inj H
  go_enter Tryz.func29, Tryz.ntmps29
  go_wp2
  go_ret
  exact ⟨tq_1, th_⟩
 rw [if_pos c3] at H
 have bb := beq_iff_eq.mpr c3
 have bc := bne_eq_false_iff_eq.mpr c3
 have bd : (l0.length == l1.length) = true := by first | simpa using c3 | (simp at c3 ⊢; omega)
 clear c3
 have H' := Aside0.mk H
 clear H
 go_enter Tryz.func29, Tryz.ntmps29
 go_wp2
 go_loopg [5] k (fun kq v5 w' => ∃ (a5 : Int), v5 = .int .i64 a5 ∧ Aside0 (laws_eqInodeS.l0 kq l0 l1 a5 = some r) ∧ Aside0 (kq ≤ k) ∧ Aside0 (Below w.heap.size w w'))
 case atStart => exact ⟨(0), tq_3, H', ⟨Nat.le_refl _⟩, ⟨th_⟩⟩
 case round =>
 clear H'
 try clear c1; try clear c2; try clear p2; try clear c3; try clear bb; try clear bc; try clear bd
 obtain ⟨a5, rfl, HA, HK1, HB⟩ := hrel
 cases gk with
 | zero => exact absurd HA.out (by simp [laws_eqInodeS.l0])
 | succ k1 =>
 have H := HA.out
 clear HA
 simp only [laws_eqInodeS.l0] at H
 by_cases c4 : a5 < (l0.length : Int)
 rotate_left
 ·rw [if_neg c4] at H
  have bg := decide_eq_false c4
  clear c4
  obtain rfl := Option.some.inj H
  go_wp2
  go_ret
  exact ⟨tq_1, th_⟩
 rw [if_pos c4] at H
 have bg := decide_eq_true c4
 clear c4
 obtain ⟨c5, H⟩ := fc_ H
 have bm := decide_eq_true c5
 clear c5
 obtain ⟨c6, H⟩ := fc_ H
 have bn := decide_eq_true c6
 clear c6
 obtain ⟨be, A7, H⟩ := bd_ H
 have bj := Aside0.mk H
 clear H
 try go_wp2
 have n0_ := Aside0.mk (below_drew1 HB.out)
 clear HB
 have HB := n0_
 clear n0_
 have p578 : 0 ≤ (a5 : Int) := of_decide_eq_true tq_2
 have q578 : a5 < (l0.length : Int) := of_decide_eq_true tq_2
 obtain ⟨a6, az, b0, b1, b2, bh, a8, a9, aa, ab, ac, ae, al, am, an, ao⟩ := at_T69 HR0.out a5 p578 q578
 have hw578_5 := ae
 have hw578_4 := ac
 have hw578_3 := ab
 have hw578_2 := aa
 have hw578_1 := a9
 have hw578_0 := a8
 cases bh
 replace a8 := hx_ HB.out a8
 replace a9 := hx_ HB.out a9
 replace aa := hx_ HB.out aa
 replace ab := hx_ HB.out ab
 replace ac := hx_ HB.out ac
 replace ae := hx_ HB.out ae
 have ap := Aside0.mk am
 have b7 := Aside0.mk al
 clear am al
 have aq := Aside0.mk ao
 have b8 := Aside0.mk an
 clear ao an
 replace p578 := eq_true p578
 replace q578 := eq_true q578
 have p579 : 0 ≤ (a5 : Int) := of_decide_eq_true tq_2
 have q579 : a5 < (l1.length : Int) := of_decide_eq_true tq_2
 obtain ⟨a7, b3, b4, b5, b6, bi, af, ag, ah, ai, aj, ak, ar, au, av, aw⟩ := at_T69 bl.out a5 p579 q579
 have hw579_5 := ak
 have hw579_4 := aj
 have hw579_3 := ai
 have hw579_2 := ah
 have hw579_1 := ag
 have hw579_0 := af
 cases bi
 replace af := hx_ HB.out af
 replace ag := hx_ HB.out ag
 replace ah := hx_ HB.out ah
 replace ai := hx_ HB.out ai
 replace aj := hx_ HB.out aj
 replace ak := hx_ HB.out ak
 have ax := Aside0.mk au
 have b9 := Aside0.mk ar
 clear au ar
 have ay := Aside0.mk aw
 have ba := Aside0.mk av
 clear aw av
 replace p579 := eq_true p579
 replace q579 := eq_true q579
 refine start_ (n := 10) (S := fun w' => w'.cell? (a6.add ((a5).toNat * 6)) = some (.int .i64 ((rd_T69 l0 a5).f0)) ∧ w'.cell? ⟨(a6.add ((a5).toNat * 6)).block, (a6.add ((a5).toNat * 6)).off + 1, none⟩ = some (.int .i64 ((rd_T69 l0 a5).f1)) ∧ w'.cell? ⟨(a6.add ((a5).toNat * 6)).block, (a6.add ((a5).toNat * 6)).off + 2, none⟩ = some (.int .i64 ((rd_T69 l0 a5).f2)) ∧ w'.cell? ⟨(a6.add ((a5).toNat * 6)).block, (a6.add ((a5).toNat * 6)).off + 3, none⟩ = some (.string ((rd_T69 l0 a5).f3)) ∧ w'.cell? ⟨(a6.add ((a5).toNat * 6)).block, (a6.add ((a5).toNat * 6)).off + 4, none⟩ = some (.slice az ((rd_T69 l0 a5).f4).length b0) ∧ w'.cell? ⟨(a6.add ((a5).toNat * 6)).block, (a6.add ((a5).toNat * 6)).off + 5, none⟩ = some (.slice b1 ((rd_T69 l0 a5).f5).length b2) ∧ w'.cell? (a7.add ((a5).toNat * 6)) = some (.int .i64 ((rd_T69 l1 a5).f0)) ∧ w'.cell? ⟨(a7.add ((a5).toNat * 6)).block, (a7.add ((a5).toNat * 6)).off + 1, none⟩ = some (.int .i64 ((rd_T69 l1 a5).f1)) ∧ w'.cell? ⟨(a7.add ((a5).toNat * 6)).block, (a7.add ((a5).toNat * 6)).off + 2, none⟩ = some (.int .i64 ((rd_T69 l1 a5).f2)) ∧ w'.cell? ⟨(a7.add ((a5).toNat * 6)).block, (a7.add ((a5).toNat * 6)).off + 3, none⟩ = some (.string ((rd_T69 l1 a5).f3)) ∧ w'.cell? ⟨(a7.add ((a5).toNat * 6)).block, (a7.add ((a5).toNat * 6)).off + 4, none⟩ = some (.slice b3 ((rd_T69 l1 a5).f4).length b4) ∧ w'.cell? ⟨(a7.add ((a5).toNat * 6)).block, (a7.add ((a5).toNat * 6)).off + 5, none⟩ = some (.slice b5 ((rd_T69 l1 a5).f5).length b6)) (ds := []) bq_29 (by kernel_rfl) rfl rfl ⟨((HB.out.cell (World.block_lt_of_cell? w _ hw578_0)).trans hw578_0), ((HB.out.cell (World.block_lt_of_cell? w _ hw578_1)).trans hw578_1), ((HB.out.cell (World.block_lt_of_cell? w _ hw578_2)).trans hw578_2), ((HB.out.cell (World.block_lt_of_cell? w _ hw578_3)).trans hw578_3), ((HB.out.cell (World.block_lt_of_cell? w _ hw578_4)).trans hw578_4), ((HB.out.cell (World.block_lt_of_cell? w _ hw578_5)).trans hw578_5), ((HB.out.cell (World.block_lt_of_cell? w _ hw579_0)).trans hw579_0), ((HB.out.cell (World.block_lt_of_cell? w _ hw579_1)).trans hw579_1), ((HB.out.cell (World.block_lt_of_cell? w _ hw579_2)).trans hw579_2), ((HB.out.cell (World.block_lt_of_cell? w _ hw579_3)).trans hw579_3), ((HB.out.cell (World.block_lt_of_cell? w _ hw579_4)).trans hw579_4), ((HB.out.cell (World.block_lt_of_cell? w _ hw579_5)).trans hw579_5)⟩ (fun hHeld => ?_); refine with_tabW laws_eqInodeS.tab6 laws_eqInodeS.bits6 (fun HT_ HW_ => ?_)
 generalize wr.drew = w9 at HB ap aq ax ay a8 a9 aa ab ac ae af ag ah ai aj ak hHeld ⊢
 refine yr_ 0 17 bq_30 HT_ ?_
 refine yr_ 1 18 bq_31 HT_ ?_
 refine yr_ 2 19 bq_32 HT_ ?_
 refine yr_ 4 21 bq_33 HT_ ?_
 refine yr_ 5 22 bq_34 HT_ ?_
 refine yr_ 6 23 bq_35 HT_ ?_
 refine tr_ 3 20 bq_36 HT_ HW_ hHeld ?_
 refine tr_ 7 24 bq_37 HT_ HW_ hHeld ?_
 refine one_ (i := 8) (N := some 25) bq_38 rfl rfl (one_of HT_.out (by kernel_rfl)) (by decide) (fun K hK => ?_)
 refine goes_ Tryz.func58 (by kernel_rfl) rfl #[.agg #[.int .i64 ((rd_T69 l0 a5).f0), .int .i64 ((rd_T69 l0 a5).f1), .int .i64 ((rd_T69 l0 a5).f2), .string ((rd_T69 l0 a5).f3), .slice az ((rd_T69 l0 a5).f4).length b0, .slice b1 ((rd_T69 l0 a5).f5).length b2], .agg #[.int .i64 ((rd_T69 l1 a5).f0), .int .i64 ((rd_T69 l1 a5).f1), .int .i64 ((rd_T69 l1 a5).f2), .string ((rd_T69 l1 a5).f3), .slice b3 ((rd_T69 l1 a5).f4).length b4, .slice b5 ((rd_T69 l1 a5).f5).length b6]] (by rfl) rfl rfl tq_0 ?_
 with_reducible refine (laws_eqInode.calls k1 ((rd_T69 l0 a5).f0) ((rd_T69 l0 a5).f1) ((rd_T69 l0 a5).f2) ((rd_T69 l0 a5).f3) _ _ ((rd_T69 l0 a5).f4) _ _ ((rd_T69 l0 a5).f5) ((rd_T69 l1 a5).f0) ((rd_T69 l1 a5).f1) ((rd_T69 l1 a5).f2) ((rd_T69 l1 a5).f3) _ _ ((rd_T69 l1 a5).f4) _ _ ((rd_T69 l1 a5).f5) be _ ?side1 ?side2 ?side3 ?side4 ?side5 ?side6 ?side7 ?side8 A7.out).mono ?_
 (case side1 => repeat (first | exact (Kd.C_below ap.out HB.out) | (with_reducible refine Kd.C_alloc ?_ _) | (with_reducible refine Kd.C_drewN ?_ _) | (with_reducible refine Kd.C_drew ?_)))
 (case side2 => exact b7.out)
 (case side3 => repeat (first | exact (Kd.C_below aq.out HB.out) | (with_reducible refine Kd.C_alloc ?_ _) | (with_reducible refine Kd.C_drewN ?_ _) | (with_reducible refine Kd.C_drew ?_)))
 (case side4 => exact b8.out)
 (case side5 => repeat (first | exact (Kd.C_below ax.out HB.out) | (with_reducible refine Kd.C_alloc ?_ _) | (with_reducible refine Kd.C_drewN ?_ _) | (with_reducible refine Kd.C_drew ?_)))
 (case side6 => exact b9.out)
 (case side7 => repeat (first | exact (Kd.C_below ay.out HB.out) | (with_reducible refine Kd.C_alloc ?_ _) | (with_reducible refine Kd.C_drewN ?_ _) | (with_reducible refine Kd.C_drew ?_)))
 (case side8 => exact ba.out)
 rintro e bq ⟨rfl, hb⟩
 refine ⟨_, rfl, ?_⟩
 have n0_ := Aside0.mk (below_step th_ hb)
 clear HB
 have HB := n0_
 clear n0_
 (try clear hb)
 refine hK.out _ _ ⟨((HB.out.cell (World.block_lt_of_cell? w _ hw578_0)).trans hw578_0), ((HB.out.cell (World.block_lt_of_cell? w _ hw578_1)).trans hw578_1), ((HB.out.cell (World.block_lt_of_cell? w _ hw578_2)).trans hw578_2), ((HB.out.cell (World.block_lt_of_cell? w _ hw578_3)).trans hw578_3), ((HB.out.cell (World.block_lt_of_cell? w _ hw578_4)).trans hw578_4), ((HB.out.cell (World.block_lt_of_cell? w _ hw578_5)).trans hw578_5), ((HB.out.cell (World.block_lt_of_cell? w _ hw579_0)).trans hw579_0), ((HB.out.cell (World.block_lt_of_cell? w _ hw579_1)).trans hw579_1), ((HB.out.cell (World.block_lt_of_cell? w _ hw579_2)).trans hw579_2), ((HB.out.cell (World.block_lt_of_cell? w _ hw579_3)).trans hw579_3), ((HB.out.cell (World.block_lt_of_cell? w _ hw579_4)).trans hw579_4), ((HB.out.cell (World.block_lt_of_cell? w _ hw579_5)).trans hw579_5)⟩ (fun hHeld => ?_)
 clear hK K
 refine nm_ (some 25) ?_
 refine yr_ 9 26 bq_39 HT_ ?_
 refine done_ (done_of HT_.out (by kernel_rfl)) ?_
 go_upto_if 26 with (fail)
 (try clear a8 a9 aa ab ac ae)
 (try clear af ag ah ai aj ak)
 have H := bj.out
 clear bj
 by_cases bf : be = true
 rotate_left
 ·replace bf := Bool.eq_false_iff.mpr bf
  subst bf
  rw [if_neg nf_] at H
  obtain rfl := Option.some.inj H
  go_wp2
  go_ret
  exact ⟨tq_1, th_⟩
 subst bf
 rw [if_pos rfl] at H
 have H' := Aside0.mk H
 clear H
 go_wp2
 go_roundg k1
 case measure => have := HK1.out; omega
 case rel => exact ⟨(wrap64 (a5 + 1)), tq_3, H', ⟨tq_15⟩, ⟨th_⟩⟩

/-! ### laws_eqPart: function 11 -/
def laws_eqPart.f (k : Nat) (a0_0 : Int) (l0_1 : List Int) (l0_2 : List (S69)) (a1_0 : Int) (l1_1 : List Int) (l1_2 : List (S69)) : Option (Bool) := if a0_0 = a1_0 then ((laws_eqIntS.f k l0_1 l1_1).bind fun t583 => (if t583 = true then ((laws_eqInodeS.f k l0_2 l1_2).bind fun t584 => (if t584 = true then (some true) else (some false))) else (some false))) else (some false)
set_option maxHeartbeats 8000000 in
set_option maxRecDepth 100000 in
theorem laws_eqPart.calls (k : Nat) (ah : Int) (ai : Option Addr) (aj : Nat) (ab : List Int) (ak : Option Addr) (al : Nat) (ac : List (S69)) (am : Int) (an : Option Addr) (ao : Nat) (ae : List Int) (ap : Option Addr) (aq : Nat) (af : List (S69)) (r : Bool) (w : World) (ar : Kd.C (Kd.int .i64) w ai ab.length ab) (au : ab.length ≤ aj) (av : Kd.C k69 w ak ac.length ac) (aw : ac.length ≤ al) (ax : Kd.C (Kd.int .i64) w an ae.length ae) (ay : ae.length ≤ ao) (az : Kd.C k69 w ap af.length af) (b0 : af.length ≤ aq) (h : laws_eqPart.f k ah ab ac am ae af = some r) :
  Calls Tryz.prog 11 #[.agg #[.int .i64 ah, .slice ai ab.length aj, .slice ak ac.length al], .agg #[.int .i64 am, .slice an ae.length ao, .slice ap af.length aq]] w fun e w' => e = .returned (.bool r) ∧ Below w.heap.size w w' := by
 have hu35 := Tryz.underlying35
 have HR0_1 := Aside0.mk ar
 have b1 := Aside0.mk au
 clear ar au
 have HR0_2 := Aside0.mk av
 have b2 := Aside0.mk aw
 clear av aw
 have HR1_1 := Aside0.mk ax
 have b3 := Aside0.mk ay
 clear ax ay
 have HR1_2 := Aside0.mk az
 have b4 := Aside0.mk b0
 clear az b0
 have HB := Aside0.mk (Below.refl w.heap.size w)
 unfold laws_eqPart.f at h
 have H := h
 clear h
 have bg := Aside0.mk H
 clear H
 go_enter Tryz.func11, Tryz.ntmps11
 go_upto_if 9 with (first | ((with_reducible refine gate_dst (N := 2) rfl ?_); refine be_ 2 (cs := #[.int .i64 ah, .slice ai ab.length aj, .slice ak ac.length al]) 35 ?_; intro bh hg w4 hbox hb; have z_ := bx0_ th_ hb hbox hg; clear HB; obtain ⟨HB, a5, bi, bj⟩ := z_; clear hb hbox hg) | ((with_reducible refine gate_dst (N := 3) rfl ?_); refine be_ 3 (cs := #[.int .i64 am, .slice an ae.length ao, .slice ap af.length aq]) 35 ?_; intro bl hg w5 hbox hb; have z_ := bx1_ (kb_ a5) th_ hb hbox hg; clear a5 HB; obtain ⟨a5, HB, aa, bm, bn, a6, a7⟩ := z_; clear hb hbox hg; obtain ⟨hnb6, hnc6⟩ := an2_ a6 a7; have bo := bb3_ a5.out; have bp := bb3_ aa.out))
 (try simp only [Act.put, List.setIfInBounds_toArray, List.set_cons_zero, List.set_cons_succ])
 (try clear bo)
 (try clear bp)
 (try clear bo)
 (try clear bp)
 have H := bg.out
 clear bg
 by_cases c9 : ah = am
 rotate_left
 ·rw [if_neg c9] at H
  have ag := beq_eq_false_iff_ne.mpr c9
  have bf := bne_iff_ne.mpr c9
  (first | rw [ag] | (simp only [i64_w, i32_w]; rw [ag]) | skip)
  obtain rfl := Option.some.inj H
  go_wp2
  go_ret
  exact ⟨tq_1, th_⟩
 rw [if_pos c9] at H
 have ag := beq_iff_eq.mpr c9
 have bf := bne_eq_false_iff_eq.mpr c9
 clear c9
 (first | rw [ag] | (simp only [i64_w, i32_w]; rw [ag]) | skip)
 obtain ⟨b5, bq, H⟩ := bd_ H
 have b6 := Aside0.mk H
 clear H
 obtain ⟨a8, a9⟩ := an2_ a6 a7
 have b7 := bb3_ a5.out
 have b8 := bb3_ aa.out
 go_upto_if 15 with (first | ((with_reducible refine gate_callee (f := 28) rfl ?_); refine goesL_ (some 14) rfl rfl Tryz.func28 (by kernel_rfl) rfl #[.slice ai ab.length aj, .slice an ae.length ao] rfl tq_0 ?_; (with_reducible refine (laws_eqIntS.calls k _ _ ab _ _ ae b5 _ ?side1 ?side2 ?side3 ?side4 bq.out).mono ?_); (case side1 => exact tq_14); (case side2 => exact b1.out); (case side3 => exact tq_10); (case side4 => exact b3.out); rintro e w' ⟨rfl, ⟨nd, rfl⟩⟩; refine ⟨_, rfl, ?_⟩))
 (try simp only [Act.put, List.setIfInBounds_toArray, List.set_cons_zero, List.set_cons_succ])
 (try clear a8 a9)
 (try clear b7)
 (try clear b8)
 (try clear b7)
 (try clear b8)
 have H := b6.out
 clear b6
 by_cases bd : b5 = true
 rotate_left
 ·replace bd := Bool.eq_false_iff.mpr bd
  subst bd
  rw [if_neg nf_] at H
  obtain rfl := Option.some.inj H
  go_wp2
  go_ret
  exact ⟨tq_1, th_⟩
 subst bd
 rw [if_pos rfl] at H
 obtain ⟨b9, br, H⟩ := bd_ H
 have ba := Aside0.mk H
 clear H
 obtain ⟨a8, a9⟩ := an2_ a6 a7
 have bb := bb3_ a5.out
 have bc := bb3_ aa.out
 go_upto_if 21 with (first | ((with_reducible refine gate_callee (f := 29) rfl ?_); refine goesL_ (some 20) rfl rfl Tryz.func29 (by kernel_rfl) rfl #[.slice ak ac.length al, .slice ap af.length aq] rfl tq_0 ?_; (with_reducible refine (laws_eqInodeS.calls k _ _ ac _ _ af b9 _ ?side1 ?side2 ?side3 ?side4 br.out).mono ?_); (case side1 => exact tq_45); (case side2 => exact b2.out); (case side3 => exact tq_27); (case side4 => exact b4.out); rintro e bs ⟨rfl, hb⟩; refine ⟨_, rfl, ?_⟩; have z_ := bw2_ (kb_ a5) (kb_ aa) th_ hb; clear a5 aa HB; obtain ⟨a5, aa, HB⟩ := z_; (try clear hb)))
 (try simp only [Act.put, List.setIfInBounds_toArray, List.set_cons_zero, List.set_cons_succ])
 (try clear a8 a9)
 (try clear bb)
 (try clear bc)
 (try clear bb)
 (try clear bc)
 have H := ba.out
 clear ba
 by_cases be : b9 = true
 ·subst be
  rw [if_pos rfl] at H
  obtain rfl := Option.some.inj H
  go_wp2
  go_ret
  exact ⟨tq_1, th_⟩
 replace be := Bool.eq_false_iff.mpr be
 subst be
 rw [if_neg nf_] at H
 obtain rfl := Option.some.inj H
 go_wp2
 go_ret
 exact ⟨tq_1, th_⟩

/-! ### laws_markIntS: function 30 -/
def laws_markIntS.l0 : Nat → List Int → Int → Int → Option (Int × List Int)
 | 0, _, _, _ => none
 | k + 1, x0, x1, x5 => if x5 < (x0.length : Int) then (if 0 ≤ x5 then (laws_markIntS.l0 k (x0.set (x5 : Int).toNat x1) (wrap64 (x1 + 1)) (wrap64 (x5 + 1))) else (none)) else (some (x1, x0))
def laws_markIntS.f (k : Nat) (l0 : List Int) (a1 : Int) : Option (Int × List Int) := laws_markIntS.l0 k l0 a1 0
set_option maxHeartbeats 8000000 in
set_option maxRecDepth 100000 in
theorem laws_markIntS.calls (k : Nat) (P0_ : Nat → Prop) (u9000_ : Value) (l0 : List Int) (a1 : Int) (r1 : Int) (r2 : List Int) (w0 w : World) (hB : Below w0.heap.size w0 w) (ho0 : Kd.R (Kd.int .i64) 3 w w0.heap.size P0_ u9000_ l0) (h : laws_markIntS.f k l0 a1 = some (r1, r2)) :
  Calls Tryz.prog 30 #[u9000_, .int .i64 a1] w fun e w' => e = .returned (.int .i64 r1) ∧ Kd.R (Kd.int .i64) 3 w' w0.heap.size (fun k_ => (P0_ k_ ∨ w.heap.size ≤ k_)) u9000_ r2 ∧ Below w0.heap.size w0 w' ∧ Kept w w' (fun k_ => P0_ k_) := by
 have HO0 := Aside0.mk (show Kd.R (Kd.int .i64) 3 w w0.heap.size (fun k_ => (P0_ k_ ∨ w.heap.size ≤ k_)) u9000_ l0 from Kd.R_mono ho0 (fun k_ hk => (.inl hk)))
 have HK := Aside0.mk (Kept.refl w (fun k_ => P0_ k_))
 have HW0 := Aside0.mk hB.size
 have HB := Aside0.mk hB
 clear hB
 unfold laws_markIntS.f at h
 have H := h
 clear h
 have H' := Aside0.mk H
 clear H
 go_enter Tryz.func30, Tryz.ntmps30
 go_wp2
 go_loopg [1, 5] k (fun kq v1 v5 w' => ∃ (a7 : List Int) (a6 : Int) (a5 : Int), v1 = .int .i64 a6 ∧ v5 = .int .i64 a5 ∧ Aside0 (laws_markIntS.l0 kq a7 a6 a5 = some (r1, r2)) ∧ Aside0 (kq ≤ k) ∧ Aside0 (Kd.R (Kd.int .i64) 3 w' w0.heap.size (fun k_ => (P0_ k_ ∨ w.heap.size ≤ k_)) u9000_ a7) ∧ Aside0 (Kept w w' (fun k_ => P0_ k_)) ∧ Aside0 (Below w0.heap.size w0 w'))
 case atStart => exact ⟨(l0), (a1), (0), tq_3, tq_3, H', ⟨Nat.le_refl _⟩, ⟨(raR_ HO0)⟩, ⟨tq_4⟩, ⟨th_⟩⟩
 case round =>
 clear H'
 try clear p2
 obtain ⟨a7, a6, a5, rfl, rfl, HA, HK1, HO_0, HK, HB⟩ := hrel
 cases gk with
 | zero => exact absurd HA.out (by simp [laws_markIntS.l0])
 | succ k1 =>
 have H := HA.out
 clear HA
 simp only [laws_markIntS.l0] at H
 have ab := Aside0.mk H
 clear H
 obtain ⟨Ao4, ai, aj⟩ := Kd.R_slice HO_0.out
 subst aj
 go_upto_if 9 with (fail)
 have H := ab.out
 clear ab
 by_cases c5 : a5 < (a7.length : Int)
 rotate_left
 ·rw [if_neg c5] at H
  have a8 := decide_eq_false c5
  clear c5
  (first | rw [a8] | (simp only [i64_w, i32_w]; rw [a8]) | skip)
  simp only [Option.some.injEq, Prod.mk.injEq] at H
  obtain ⟨rfl, rfl⟩ := H
  go_wp2
  go_ret
  exact ⟨tq_1, (raR_ HO_0), th_, tq_4⟩
 rw [if_pos c5] at H
 have a8 := decide_eq_true c5
 clear c5
 (first | rw [a8] | (simp only [i64_w, i32_w]; rw [a8]) | skip)
 obtain ⟨c6, H⟩ := fc_ H
 have ak := decide_eq_true c6
 clear c6
 obtain ⟨a9, hy585⟩ : ∃ y_ : List Int, y_ = (a7.set (a5 : Int).toNat a6) := ⟨_, rfl⟩
 replace H : (laws_markIntS.l0 k1 a9 (wrap64 (a6 + 1)) (wrap64 (a5 + 1))) = some (r1, r2) := by first | (rw [hy585]; with_reducible exact H) | (have H2_ := (Option.bind_some _ _).symm.trans H; rw [hy585]; with_reducible exact H2_) | (have H2_ := (Option.bind_some _ _).symm.trans H; with_reducible exact H2_) | with_reducible exact H | (rw [hy585]; exact H) | exact H
 have Ny585 := Aside0.mk hy585
 clear hy585
 have H' := Aside0.mk H
 clear H
 have p7 : 0 ≤ (a5 : Int) := of_decide_eq_true tq_2
 have q7 : (a5 : Int) < ((a7.length : Int) : Int) := of_decide_eq_true tq_2
 obtain ⟨aa, an, ac, ae, al, ao, af⟩ := Kd.R_form HO_0.out (by omega)
 (first | cases ac | (injection ac with ea_ en_ ec_; (first | subst ea_ | (injection ea_ with ea_; subst ea_)); subst ec_; clear en_))
 have am := Aside0.mk ae
 have ap := Aside0.mk af
 clear ae al af
 have HMgo7 := Aside0.mk (show (P0_ aa ∨ w.heap.size ≤ aa) from (HO_0.out.1 _ rfl))
 obtain ⟨ag, ah⟩ := Kd.R_celln 0 HO_0.out (a5 : Int) p7 q7
 replace p7 := eq_true p7
 replace q7 := eq_true q7
 have HP8 := Kd.R_putg HO_0.out (a5 : Int) a6
 go_wp2_with (first | ((with_reducible refine gate_store (t := 3) (p := 15) rfl ?_); refine store_event (t := 3) (p := 15) (v := ?vo_w9) (w1 := (wr.setCell ⟨aa, (a5 : Int).toNat, none⟩ (.int .i64 a6))) ?hg ?ho ?hn ?hr ?_; (case ho => rfl); (case hg => rfl); (case hn => rfl); (case hr => first | (go_simp; done) | (go_simp; rfl)); intro w9 hw; have hg : wr.grownBy w9 (some aa) := (by rw [hw]; exact HP8.2); have hp_ : Kd.R (Kd.int .i64) 3 w9 w0.heap.size (fun k_ => (P0_ k_ ∨ w.heap.size ≤ k_)) (.slice (some ⟨aa, 0, none⟩) a7.length ai) a9 := (by rw [hw, Ny585.out]; exact HP8.1); clear HP8; have z_ := p_ (hp_) <| p_ ((by rw [hw]; exact below_set (HB.out) am.out : Below w0.heap.size w0 w9)) <| a_ (Kept.of_grown (S := (fun k_ => P0_ k_)) hg tq_4 (fun k_ e_ => (HO_0.out.1 k_ e_))); clear HO_0 HB HK; obtain ⟨HO_0, HB, HK⟩ := z_; clear hg hw hp_))
 go_roundg k1
 case measure => have := HK1.out; omega
 case rel => exact ⟨(a9), (wrap64 (a6 + 1)), (wrap64 (a5 + 1)), tq_3, tq_3, H', ⟨tq_15⟩, ⟨(raR_ HO_0)⟩, ⟨tq_4⟩, ⟨th_⟩⟩

end Go.Proofs.YtleoknilacjakaaGreat.PFnExactPartWrites
