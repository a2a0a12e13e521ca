/- The pure statement of FnExactTouchedBy is proved: for all arguments within the row's own bounds the Lean function that the law's walk comes to answers true. Conditions: none beyond these bounds. -/
import Derived.Test.YtdlinbemiilkmaaStFnExactTouchedBy
import Derived.Test.YtdlinbemiilkmaaBase
namespace Go.Proofs.Ytdlinbemiilkmaa.Pure
open Go.RowKit Go.Proofs.Ytdlinbemiilkmaa.PFnExactTouchedBy Go.Proofs.YtdlinbemiilkmaaW.PrintWords Go.Proofs.YtdlinbemiilkmaaW.PrintLast Go.Proofs.Ytdlinbemiilkmaa.Base
set_option linter.unusedVariables false
set_option linter.unusedSimpArgs false
/-! ### ask -/
theorem szAsk_eq (a0 : Int) (a1 a2 : ByteArray) (a3 a4 : Int) (a5 : ByteArray) (a : Int) (h0 : 0 ≤ a) (h1 : a ≤ 1048576) (b1 : a1.size ≤ 140737488351232) (b2 : a2.size ≤ 140737488351232) (b5 : a5.size ≤ 140737488351232) :
    laws_szAsk.f a0 a1 a2 a3 a4 a5 a = some (left a (a1.size + a2.size + a5.size)) := by
  simp only [laws_szAsk.f]
  rw [w64 (x := a - (a1.size : Int)) (by omega) (by omega), w64 (x := a - (a1.size : Int) - (a2.size : Int)) (by omega) (by omega), w64 (x := a - (a1.size : Int) - (a2.size : Int) - (a5.size : Int)) (by omega) (by omega)]
  unfold left
  by_cases h : a - (a1.size : Int) < 0
  · rw [if_pos h, if_neg (by omega)]
  · rw [if_neg h]
    by_cases h : a - (a1.size : Int) - (a2.size : Int) < 0
    · rw [if_pos h, if_neg (by omega)]
    · rw [if_neg h]
      by_cases h : a - (a1.size : Int) - (a2.size : Int) - (a5.size : Int) < 0
      · rw [if_pos h, if_neg (by omega)]
      · rw [if_neg h, if_pos (by omega)]; congr 1; omega

/-! ### ints -/
theorem eqIntS_l (xs : List Int) (hn : xs.length ≤ 1048576) : ∀ (i : Nat), i ≤ xs.length → Ev (fun k => laws_eqIntS.l0 k xs xs i) true
  | i, hi => by
    refine Ev.step (laws_eqIntS.l0.eq_2 _ _ _) ?_
    by_cases h : i < xs.length
    · refine ev_pos (by omega) (ev_pos (by omega) (ev_pos (by omega) (ev_pos rfl ?_)))
      rw [w64s i (by omega)]
      exact eqIntS_l xs hn (i + 1) (by omega)
    · exact ev_neg (by omega) (ev_now rfl)
  termination_by i => xs.length - i
theorem eqIntS_ev (xs : List Int) (hn : xs.length ≤ 1048576) : Ev (fun k => laws_eqIntS.f k xs xs) true := by
  unfold laws_eqIntS.f
  exact ev_pos rfl (eqIntS_l xs hn 0 (by omega))

/-! ### markints -/
def marks (a n : Nat) : List Int := (List.range' a n).map (fun j : Nat => (j : Int))
theorem marks_len (a n : Nat) : (marks a n).length = n := by simp [marks]
theorem markIntS_l (n a : Nat) (hn : n ≤ 1048576) (ha : a ≤ 4000000000000) : ∀ (i : Nat) (ys : List Int), i ≤ n → ys.length = n →
    Ev (fun k => laws_markIntS.l0 k ys ((a + i : Nat) : Int) i) (((a + n : Nat) : Int), ys.take i ++ marks (a + i) (n - i))
  | i, ys, hi, hl => by
    refine Ev.step (laws_markIntS.l0.eq_2 _ _ _) ?_
    by_cases h : i < n
    · refine ev_pos (by omega) (ev_pos (by omega) ?_)
      rw [w64s i (by omega), w64s (a + i) (by omega), Int.toNat_natCast]
      refine ev_to (markIntS_l n a hn ha (i + 1) (ys.set i _) (by omega) (by simp [hl])) ?_
      congr 1
      rw [List.take_succ_eq_append_getElem (by simp; omega)]
      simp only [List.getElem_set_self, List.append_assoc, List.take_set_of_le (Nat.le_refl i)]
      congr 1
      unfold marks
      rw [show n - i = (n - (i + 1)) + 1 by omega, List.range'_succ]
      simp [Nat.add_assoc]
    · have : i = n := by omega
      subst this
      refine ev_neg (by omega) (ev_now ?_)
      simp [marks, ← hl]
  termination_by i => n - i
theorem markIntS_ev (xs : List Int) (a : Nat) (hn : xs.length ≤ 1048576) (ha : a ≤ 4000000000000) : Ev (fun k => laws_markIntS.f k xs (a : Int)) (((a + xs.length : Nat) : Int), marks a xs.length) := by
  unfold laws_markIntS.f
  have := markIntS_l xs.length a hn ha 0 xs (by omega) rfl
  simpa using this
theorem heldIntS_l (n a : Nat) (hn : n ≤ 1048576) (ha : a ≤ 4000000000000) : ∀ (i : Nat), i ≤ n → Ev (fun k => laws_heldIntS.l0 k (marks a n) ((a + i : Nat) : Int) i) ((a + n : Nat) : Int)
  | i, hi => by
    refine Ev.step (laws_heldIntS.l0.eq_2 _ _ _) ?_
    have hl := marks_len a n
    by_cases h : i < n
    · refine ev_pos (by omega) (ev_pos (by omega) (ev_pos ?_ ?_))
      · rw [rd_at _ i (by omega)]
        simp [marks]
      · rw [w64s i (by omega), w64s (a + i) (by omega)]
        exact heldIntS_l n a hn ha (i + 1) (by omega)
    · have : i = n := by omega
      subst this
      exact ev_neg (by omega) (ev_now rfl)
  termination_by i => n - i
theorem heldIntS_ev (n a : Nat) (hn : n ≤ 1048576) (ha : a ≤ 4000000000000) : Ev (fun k => laws_heldIntS.f k (marks a n) (a : Int)) ((a + n : Nat) : Int) := by
  unfold laws_heldIntS.f
  have := heldIntS_l n a hn ha 0 (by omega)
  simpa using this

/-! ### touched -/
def rng (i : Nat) : List Int := (List.range' i (4 - i)).map (fun j : Nat => (j : Int))
theorem rng_cons (i : Nat) (h : i < 4) : rng i = (i : Int) :: rng (i + 1) := by
  unfold rng
  rw [show 4 - i = (4 - (i + 1)) + 1 by omega, List.range'_succ]
  rfl
theorem rng_nil (i : Nat) (h : 4 ≤ i) : rng i = [] := by
  unfold rng
  rw [show 4 - i = 0 by omega]; rfl
theorem sTouch_l (a b : Int) : ∀ (i : Nat) (o : List Int), o.length ≤ i → i ≤ 4 →
    Ev (fun k => spec_TouchedBy.l0 k o a b i) (o ++ (rng i).filter (fun j => decide (j * 32 < b) && decide ((j + 1) * 32 > a)))
  | i, o, ho, hi => by
    refine Ev.step (spec_TouchedBy.l0.eq_2 _ _ _ _) ?_
    by_cases h : i < 4
    · refine ev_pos (by omega) ?_
      rw [w64s i (by omega), w64 (x := (i : Int) * 32) (by omega) (by omega), w64 (x := ((i + 1 : Nat) : Int) * 32) (by omega) (by omega), rng_cons i h, List.filter_cons]
      by_cases h1 : (i : Int) * 32 < b
      · refine ev_pos h1 ?_
        by_cases h2 : ((i + 1 : Nat) : Int) * 32 > a
        · have h3 : ((i : Int) + 1) * 32 > a := by omega
          refine ev_pos h2 (ev_pos (by omega) (ev_to (sTouch_l a b (i + 1) _ (by simp; omega) (by omega)) ?_))
          simp [h1, h3]
        · have h3 : ¬ ((i : Int) + 1) * 32 > a := by omega
          refine ev_neg h2 (ev_to (sTouch_l a b (i + 1) _ (by omega) (by omega)) ?_)
          simp [h3]
      · refine ev_neg h1 (ev_to (sTouch_l a b (i + 1) _ (by omega) (by omega)) ?_)
        simp [h1]
    · refine ev_neg (by omega) (ev_now ?_)
      rw [rng_nil i (by omega)]; simp
  termination_by i => 4 - i
theorem iPages_l (b : Int) (hb : b ≤ 128) : ∀ (i : Nat) (o : List Int), o.length ≤ i → i ≤ 4 →
    Ev (fun k => impl_pagesFrom.l0 k b o i) (o ++ (rng i).filter (fun j => decide (j * 32 < b)))
  | i, o, ho, hi => by
    refine Ev.step (impl_pagesFrom.l0.eq_2 _ _ _) ?_
    rw [w64s i (by omega), w64 (x := (i : Int) * 32) (by omega) (by omega)]
    by_cases h1 : (i : Int) * 32 < b
    · have h : i < 4 := by omega
      refine ev_pos h1 (ev_pos (by omega) (ev_to (iPages_l b hb (i + 1) _ (by simp; omega) (by omega)) ?_))
      rw [rng_cons i h, List.filter_cons]
      simp [h1]
    · refine ev_neg h1 (ev_now ?_)
      have : (rng i).filter (fun j => decide (j * 32 < b)) = [] := by
        rw [List.filter_eq_nil_iff]
        intro j hj
        unfold rng at hj
        simp only [List.mem_map, List.mem_range'_1] at hj
        obtain ⟨m, hm, rfl⟩ := hj
        simp only [decide_eq_true_eq]; omega
      rw [this, List.append_nil]
  termination_by i => 4 - i
def pgs (a b : Int) : List Int := (rng 0).filter (fun j => decide (j * 32 < b) && decide ((j + 1) * 32 > a))
theorem rng4 : rng 0 = [0, 1, 2, 3] ∧ rng 1 = [1, 2, 3] ∧ rng 2 = [2, 3] ∧ rng 3 = [3] ∧ rng 4 = [] := by decide
theorem pgs_from (a b : Int) (h0 : 0 ≤ a) (h1 : a ≤ 128) : (rng (a / 32).toNat).filter (fun j => decide (j * 32 < b)) = pgs a b := by
  unfold pgs
  obtain ⟨r0, r1, r2, r3, r4⟩ := rng4
  have hq : a / 32 = 0 ∨ a / 32 = 1 ∨ a / 32 = 2 ∨ a / 32 = 3 ∨ a / 32 = 4 := by omega
  rcases hq with hq | hq | hq | hq | hq
  · have e1 : decide (((0 : Int) + 1) * 32 > a) = true := by simp; omega
    have e2 : decide (((1 : Int) + 1) * 32 > a) = true := by simp; omega
    have e3 : decide (((2 : Int) + 1) * 32 > a) = true := by simp; omega
    have e4 : decide (((3 : Int) + 1) * 32 > a) = true := by simp; omega
    rw [hq, r0]; simp only [List.filter_cons, e1, e2, e3, e4, Bool.and_true]; rw [show (0 : Int).toNat = 0 from rfl, r0]; simp only [List.filter_cons]
    simp
  · have e1 : decide (((0 : Int) + 1) * 32 > a) = false := by simp; omega
    have e2 : decide (((1 : Int) + 1) * 32 > a) = true := by simp; omega
    have e3 : decide (((2 : Int) + 1) * 32 > a) = true := by simp; omega
    have e4 : decide (((3 : Int) + 1) * 32 > a) = true := by simp; omega
    rw [hq, r0]; simp only [List.filter_cons, e1, e2, e3, e4, Bool.and_true, Bool.and_false]; rw [show (1 : Int).toNat = 1 from rfl, r1]; simp only [List.filter_cons]
    simp
  · have e1 : decide (((0 : Int) + 1) * 32 > a) = false := by simp; omega
    have e2 : decide (((1 : Int) + 1) * 32 > a) = false := by simp; omega
    have e3 : decide (((2 : Int) + 1) * 32 > a) = true := by simp; omega
    have e4 : decide (((3 : Int) + 1) * 32 > a) = true := by simp; omega
    rw [hq, r0]; simp only [List.filter_cons, e1, e2, e3, e4, Bool.and_true, Bool.and_false]; rw [show (2 : Int).toNat = 2 from rfl, r2]; simp only [List.filter_cons]
    simp
  · have e1 : decide (((0 : Int) + 1) * 32 > a) = false := by simp; omega
    have e2 : decide (((1 : Int) + 1) * 32 > a) = false := by simp; omega
    have e3 : decide (((2 : Int) + 1) * 32 > a) = false := by simp; omega
    have e4 : decide (((3 : Int) + 1) * 32 > a) = true := by simp; omega
    rw [hq, r0]; simp only [List.filter_cons, e1, e2, e3, e4, Bool.and_true, Bool.and_false]; rw [show (3 : Int).toNat = 3 from rfl, r3]; simp only [List.filter_cons]
    simp
  · have e1 : decide (((0 : Int) + 1) * 32 > a) = false := by simp; omega
    have e2 : decide (((1 : Int) + 1) * 32 > a) = false := by simp; omega
    have e3 : decide (((2 : Int) + 1) * 32 > a) = false := by simp; omega
    have e4 : decide (((3 : Int) + 1) * 32 > a) = false := by simp; omega
    rw [hq, r0]; simp only [List.filter_cons, e1, e2, e3, e4, Bool.and_true, Bool.and_false]; rw [show (4 : Int).toNat = 4 from rfl, r4]; simp
theorem pgs_none (a b : Int) (h : ∀ j ∈ rng 0, ¬ (j * 32 < b ∧ (j + 1) * 32 > a)) : pgs a b = [] := by
  unfold pgs
  rw [List.filter_eq_nil_iff]
  intro j hj
  have := h j hj
  simp only [Bool.and_eq_true, decide_eq_true_eq]
  omega
theorem pgs_one (b : Int) (h0 : 0 < b) (h1 : b ≤ 128) : pgs (b - 1) b = [(b - 1) / 32] := by
  rw [← pgs_from (b - 1) b (by omega) (by omega)]
  have hq : (b - 1) / 32 = 0 ∨ (b - 1) / 32 = 1 ∨ (b - 1) / 32 = 2 ∨ (b - 1) / 32 = 3 := by omega
  obtain ⟨r0, r1, r2, r3, r4⟩ := rng4
  rcases hq with hq | hq | hq | hq
  · have e1 : decide ((0 : Int) * 32 < b) = true := by simp; omega
    have e2 : decide ((1 : Int) * 32 < b) = false := by simp; omega
    have e3 : decide ((2 : Int) * 32 < b) = false := by simp; omega
    have e4 : decide ((3 : Int) * 32 < b) = false := by simp; omega
    rw [hq, show (0 : Int).toNat = 0 from rfl, r0]; simp only [List.filter_cons, e1, e2, e3, e4]; simp
  · have e2 : decide ((1 : Int) * 32 < b) = true := by simp; omega
    have e3 : decide ((2 : Int) * 32 < b) = false := by simp; omega
    have e4 : decide ((3 : Int) * 32 < b) = false := by simp; omega
    rw [hq, show (1 : Int).toNat = 1 from rfl, r1]; simp only [List.filter_cons, e2, e3, e4]; simp
  · have e3 : decide ((2 : Int) * 32 < b) = true := by simp; omega
    have e4 : decide ((3 : Int) * 32 < b) = false := by simp; omega
    rw [hq, show (2 : Int).toNat = 2 from rfl, r2]; simp only [List.filter_cons, e3, e4]; simp
  · have e4 : decide ((3 : Int) * 32 < b) = true := by simp; omega
    rw [hq, show (3 : Int).toNat = 3 from rfl, r3]; simp only [List.filter_cons, e4]; simp
theorem pgs_len (a b : Int) : (pgs a b).length ≤ 4 := by
  unfold pgs
  have := List.length_filter_le (fun j => decide (j * 32 < b) && decide ((j + 1) * 32 > a)) (rng 0)
  rw [rng4.1] at this ⊢
  simpa using this
theorem iPages_ev (a b : Int) (h0 : 0 ≤ a) (h1 : a ≤ 128) (hb : b ≤ 128) : Ev (fun k => impl_pagesFrom.f k a b) (pgs a b) := by
  unfold impl_pagesFrom.f
  rw [Int.tdiv_eq_ediv_of_nonneg h0, w64 (by omega) (by omega), ← pgs_from a b h0 h1]
  have := iPages_l b hb (a / 32).toNat [] (by simp) (by omega)
  rw [Int.toNat_of_nonneg (by omega)] at this
  simpa using this
theorem l01In_eq (a b c : Int) : spec_l01In.f a b c = some (decide (b ≤ a ∧ a ≤ c)) := by
  unfold spec_l01In.f
  by_cases h : a ≥ b
  · rw [if_pos h]; congr 1; simp; omega
  · rw [if_neg h]; congr 1; simp; omega
theorem within_eq (a b c : Int) : impl_within.f a b c = some (decide (b ≤ a ∧ a ≤ c)) := by
  unfold impl_within.f
  by_cases h : a ≥ b
  · rw [if_pos h]; congr 1; simp; omega
  · rw [if_neg h]; congr 1; simp; omega
/-- What both come to. -/
def tch (old kd off len : Int) (n : Nat) : List Int :=
  if ¬ (0 ≤ old ∧ old ≤ 128) then []
  else if kd = 7 then (if n = 0 then [] else if ¬ (0 ≤ off ∧ off ≤ 128 - n) then [] else pgs (if off < old then off else old) (off + n))
  else if kd = 8 then (if ¬ (0 ≤ len ∧ len ≤ 128) then [] else if len = old then [] else if len > old then pgs old len else if len % 32 = 0 then [] else pgs (len - 1) len)
  else []
theorem toList_nil (s : ByteArray) : s.toList = [] ↔ s.size = 0 := by
  rw [Go.ByteArray.toList_eq]
  constructor
  · intro h; have := congrArg List.length h; simpa using this
  · intro h; exact List.eq_nil_of_length_eq_zero (by simpa using h)
theorem iTouch_ev (old kd : Int) (p t : ByteArray) (off len : Int) (x : ByteArray) (hx : x.size ≤ 1048576) : Ev (fun k => impl_TouchedBy.f k old kd p t off len x) (tch old kd off len x.size) := by
  unfold impl_TouchedBy.f
  refine Ev.bind (ev_eq (within_eq _ _ _)) ?_
  by_cases h : 0 ≤ old ∧ old ≤ 128
  · refine ev_pos (by simp [h]) ?_
    by_cases h7 : kd = 7
    · refine ev_pos h7 (Ev.bind (ev_eq (within_eq _ _ _)) ?_)
      rw [w64 (by omega) (by omega)]
      by_cases ho : 0 ≤ off ∧ off ≤ 128 - (x.size : Int)
      · refine ev_pos (by simpa using ho) ?_
        by_cases hz : x.size = 0
        · exact ev_pos ((toList_nil x).2 hz) (ev_now (by simp (disch := omega) only [tch, if_pos, if_neg]))
        · refine ev_neg (fun h => hz ((toList_nil x).1 h)) ?_
          rw [w64 (by omega) (by omega)]
          have hm : mn old off = if off < old then off else old := rfl
          rw [hm]
          exact Ev.bind (iPages_ev _ _ (by split <;> omega) (by split <;> omega) (by omega)) (ev_now (by simp (disch := omega) only [tch, if_pos, if_neg]))
      · exact ev_neg (by simpa using ho) (ev_now (by simp (disch := omega) only [tch, if_pos, if_neg]; split <;> rfl))
    · refine ev_neg h7 ?_
      by_cases h8 : kd = 8
      · refine ev_pos h8 (Ev.bind (ev_eq (within_eq _ _ _)) ?_)
        by_cases ho : 0 ≤ len ∧ len ≤ 128
        · refine ev_pos (by simpa using ho) ?_
          by_cases h1 : len > old
          · exact ev_pos h1 (Ev.bind (iPages_ev _ _ (by omega) (by omega) (by omega)) (ev_now (by simp (disch := omega) only [tch, if_pos, if_neg])))
          · refine ev_neg h1 ?_
            by_cases h2 : len < old
            · refine ev_pos h2 ?_
              rw [Int.tmod_eq_emod_of_nonneg ho.1]
              by_cases h3 : len % 32 = 0
              · exact ev_pos h3 (ev_now (by simp (disch := omega) only [tch, if_pos, if_neg]))
              · refine ev_neg h3 (ev_now ?_)
                rw [w64 (x := len - 1) (by omega) (by omega), Int.tdiv_eq_ediv_of_nonneg (by omega), w64 (by omega) (by omega), ← pgs_one len (by omega) (by omega)]
                simp (disch := omega) only [tch, if_pos, if_neg]
            · exact ev_neg h2 (ev_now (by simp (disch := omega) only [tch, if_pos, if_neg]))
        · exact ev_neg (by simpa using ho) (ev_now (by simp (disch := omega) only [tch, if_pos, if_neg]))
      · exact ev_neg h8 (ev_now (by simp (disch := omega) only [tch, if_pos, if_neg]))
  · exact ev_neg (by simpa using h) (ev_now (by simp (disch := omega) only [tch, if_pos, if_neg]))
theorem sTouch_j1 (old a b : Int) : Ev (fun k => spec_TouchedBy.j1 k old [] a b) (if 0 ≤ old ∧ old ≤ 128 ∧ 0 ≤ b ∧ b ≤ 128 then pgs a b else []) := by
  refine Ev.step (spec_TouchedBy.j1.eq_2 _ _ _ _) ?_
  refine Ev.bind (ev_eq (l01In_eq _ _ _)) ?_
  by_cases h : 0 ≤ old ∧ old ≤ 128
  · refine ev_pos (by simpa using h) (Ev.bind (ev_eq (l01In_eq _ _ _)) ?_)
    refine Ev.step (spec_TouchedBy.j2.eq_2 _ _ _ _) ?_
    by_cases hb : 0 ≤ b ∧ b ≤ 128
    · rw [if_pos (by omega)]
      refine ev_neg (by simp; omega) ?_
      have := sTouch_l a b 0 [] (by simp) (by omega)
      simpa [pgs] using this
    · rw [if_neg (by omega)]
      exact ev_pos (by simp; omega) (ev_now rfl)
  · rw [if_neg (by omega)]
    refine ev_neg (by simpa using h) (Ev.step (spec_TouchedBy.j2.eq_2 _ _ _ _) (ev_pos rfl (ev_now rfl)))
theorem sTouch_ev (old kd : Int) (p t : ByteArray) (off len : Int) (x : ByteArray) (hx : x.size ≤ 1048576) (hlo : (Lit.int .i64 len).wf = true) : Ev (fun k => spec_TouchedBy.f k old kd p t off len x) (tch old kd off len x.size) := by
  unfold spec_TouchedBy.f
  refine Ev.bind (Ev.now _) ?_
  by_cases h7 : kd = 7
  · refine ev_pos h7 ?_
    by_cases hz : x.size = 0
    · refine ev_pos ((toList_nil x).2 hz) (Ev.step (spec_TouchedBy.j0.eq_2 _ _ _ _ _ _ _ _ _ _) (ev_pos rfl (ev_now ?_)))
      simp (disch := omega) only [tch, if_pos, if_neg]; split <;> rfl
    · refine ev_neg (fun h => hz ((toList_nil x).1 h)) ?_
      by_cases ho : off < 0
      · refine ev_pos ho (Ev.step (spec_TouchedBy.j0.eq_2 _ _ _ _ _ _ _ _ _ _) (ev_pos rfl (ev_now ?_)))
        simp (disch := omega) only [tch, if_pos, if_neg]; split <;> rfl
      · refine ev_neg ho (Ev.step (spec_TouchedBy.j0.eq_2 _ _ _ _ _ _ _ _ _ _) ?_)
        rw [w64 (x := 128 - (x.size : Int)) (by omega) (by omega)]
        by_cases h1 : off > 128 - (x.size : Int)
        · refine ev_pos (by simpa using h1) (ev_now ?_)
          simp (disch := omega) only [tch, if_pos, if_neg]; split <;> rfl
        · refine ev_neg (by simpa using h1) ?_
          rw [w64 (x := off + (x.size : Int)) (by omega) (by omega)]
          by_cases h2 : off < old
          · refine ev_pos h2 (ev_to (sTouch_j1 _ _ _) ?_)
            by_cases h : 0 ≤ old ∧ old ≤ 128
            · simp (disch := omega) only [tch, if_pos, if_neg]
            · simp (disch := omega) only [tch, if_pos, if_neg]
          · refine ev_neg h2 (ev_to (sTouch_j1 _ _ _) ?_)
            by_cases h : 0 ≤ old ∧ old ≤ 128
            · simp (disch := omega) only [tch, if_pos, if_neg]
            · simp (disch := omega) only [tch, if_pos, if_neg]
  · refine ev_neg h7 ?_
    by_cases h8 : kd = 8
    · refine ev_pos h8 ?_
      by_cases he : len = old
      · refine ev_pos he (ev_now ?_)
        by_cases h : 0 ≤ old ∧ old ≤ 128
        · simp (disch := omega) only [tch, if_pos, if_neg]
        · simp (disch := omega) only [tch, if_pos, if_neg]
      · refine ev_neg he ?_
        have main : ∀ a, (0 ≤ old ∧ old ≤ 128 → 0 ≤ len ∧ len ≤ 128 → pgs a len = if len > old then pgs old len else if len % 32 = 0 then [] else pgs (len - 1) len) →
            Ev (fun k => spec_TouchedBy.j1 k old [] a len) (tch old kd off len x.size) := by
          intro a ha
          refine ev_to (sTouch_j1 _ _ _) ?_
          by_cases h : 0 ≤ old ∧ old ≤ 128
          · by_cases hl : 0 ≤ len ∧ len ≤ 128
            · rw [if_pos (by omega), ha h hl]
              simp (disch := omega) only [tch, if_pos, if_neg]
            · simp (disch := omega) only [tch, if_pos, if_neg]
          · simp (disch := omega) only [tch, if_pos, if_neg]
        have far : len % 32 = 0 → len < old → 0 ≤ len → pgs old len = [] := by
          intro h1 h2 h3
          refine pgs_none _ _ (fun j hj => ?_)
          omega
        have hl2 := wf64 hlo
        by_cases h0 : len ≥ 0
        · refine ev_pos h0 ?_
          by_cases h1 : len < old
          · refine ev_pos h1 ?_
            rw [Int.tmod_eq_emod_of_nonneg h0]
            by_cases h2 : len % 32 > 0
            · refine ev_pos h2 ?_
              rw [w64 (by omega) (by omega)]
              exact main _ (fun _ _ => by rw [if_neg (by omega), if_neg (by omega)])
            · refine ev_neg h2 (main _ (fun _ _ => ?_))
              rw [if_neg (by omega), if_pos (by omega)]
              exact far (by omega) h1 h0
          · exact ev_neg h1 (main _ (fun _ _ => by rw [if_pos (by omega)]))
        · exact ev_neg h0 (main _ (fun _ _ => by omega))
    · exact ev_neg h8 (ev_now (by simp (disch := omega) only [tch, if_pos, if_neg]; split <;> rfl))
theorem tch_len (old kd off len : Int) (n : Nat) : (tch old kd off len n).length ≤ 4 := by
  unfold tch
  have := pgs_len
  repeat' split
  all_goals first | exact this _ _ | simp

/-! ### FnExactTouchedBy -/
theorem FnExactTouchedBy : laws_FnExactTouchedBy.Law := by
  intro old kd p t off len x _ _ b1 b2 _ hl b5
  apply Ev.rounds
  unfold laws_FnExactTouchedBy.f
  refine Ev.bind (ev_eq (szAsk_eq kd p t off len x 1048576 (by omega) (by omega) b1 b2 b5)) ?_
  by_cases h : left 1048576 (p.size + t.size + x.size) < 0
  · exact ev_pos h (ev_now rfl)
  have hx := (left_le (a := 1048576) (t := p.size + t.size + x.size) (by omega)).1
  have hs : x.size ≤ 1048576 := by omega
  have hn := tch_len old kd off len x.size
  refine ev_neg h (Ev.bind (ev_eq rfl) (Ev.bind (sTouch_ev old kd p t off len x hs hl) (Ev.bind (ev_eq rfl) (Ev.bind (iTouch_ev old kd p t off len x hs) ?_))))
  refine Ev.bind (eqIntS_ev _ (by omega)) (ev_pos rfl (Ev.bind (markIntS_ev _ 1 (by omega) (by omega)) ?_))
  refine Ev.bind (heldIntS_ev _ 1 (by omega) (by omega)) (ev_neg (by omega) (ev_pos rfl (Ev.bind (ev_eq rfl) ?_)))
  refine Ev.bind (iTouch_ev old kd p t off len x hs) (Ev.bind (eqIntS_ev _ (by omega)) (ev_pos rfl ?_))
  exact Ev.bind (heldIntS_ev _ 1 (by omega) (by omega)) (ev_neg (by omega) (ev_pos rfl (ev_now rfl)))

end Go.Proofs.Ytdlinbemiilkmaa.Pure
