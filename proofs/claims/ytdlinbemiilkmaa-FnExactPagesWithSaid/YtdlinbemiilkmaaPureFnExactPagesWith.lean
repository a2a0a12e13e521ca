/- The pure statement of FnExactPagesWith: for every list of ints and every state, the law's Lean function answers true after some number of rounds. Conditions: none beyond the row's own bounds on its arguments. -/
import Derived.Test.YtdlinbemiilkmaaPFnExactPagesWithx2
namespace Go.Proofs.Ytdlinbemiilkmaa.Pure
open Go.RowKit Go.Proofs.Ytdlinbemiilkmaa.PFnExactPagesWith Go.Proofs.YtdlinbemiilkmaaW.PrintWords Go.Proofs.YtdlinbemiilkmaaW.PrintLast

theorem w64 {x : Int} (h0 : -9223372036854775808 ≤ x) (h1 : x < 9223372036854775808) : wrap64 x = x := by
  unfold wrap64
  omega
theorem Ev.intro {α : Type} {g : Nat → Option α} {r : α} (K : Nat) (h : ∀ k, K ≤ k → g k = some r) : Ev g r := ⟨K, h⟩
theorem rd_nat (xs : List Int) (i : Nat) : rd xs (i : Int) = xs.getD i 0 := by unfold rd; rw [Int.toNat_natCast]
theorem take_set {α : Type} {xs ys : List α} {i : Nat} {x : α} (hl : ys.length = xs.length) (h : ys.take i = xs.take i) (hi : i < xs.length) (hx : xs[i] = x) : (ys.set i x).take (i + 1) = xs.take (i + 1) := by
  apply List.ext_getElem
  · simp [hl]
  · intro j h1 h2
    simp at h1 h2
    simp only [List.getElem_take, List.getElem_set]
    split
    · subst_vars; rfl
    · have hj : j < i := by omega
      have := congrArg (fun l => l[j]?) h
      simp only [List.getElem?_take, if_pos hj] at this
      rw [List.getElem?_eq_getElem (by omega), List.getElem?_eq_getElem (by omega)] at this
      exact Option.some.inj this

theorem toIntS_l (xs : List Int) (hn : xs.length ≤ 1048576) (d : Nat) : ∀ (k i : Nat) (ys : List Int), ys.length = xs.length → ys.take i = xs.take i → i ≤ xs.length → xs.length - i = d → d < k →
    laws_toIntS.l0 k xs ys i = some xs := by
  induction d with
  | zero =>
    intro k i ys hl ht hi hd hk
    obtain ⟨k, rfl⟩ : ∃ m, k = m + 1 := ⟨k - 1, by omega⟩
    simp only [laws_toIntS.l0]; rw [if_neg (by omega)]
    have : i = xs.length := by omega
    subst this
    rw [List.take_length, ← hl, List.take_length] at ht
    rw [ht]
  | succ d ih =>
    intro k i ys hl ht hi hd hk
    obtain ⟨k, rfl⟩ : ∃ m, k = m + 1 := ⟨k - 1, by omega⟩
    simp only [laws_toIntS.l0]; rw [if_pos (by omega), if_pos (by omega), if_pos (by omega), w64 (by omega) (by omega), Int.toNat_natCast, rd_nat]
    exact ih k (i + 1) _ (by simp [hl]) (take_set hl ht (by omega) (by simp [List.getD, List.getElem?_eq_getElem (show i < xs.length by omega)])) (by omega) (by omega) (by omega)
theorem toIntS_ev (xs : List Int) (hn : xs.length ≤ 1048576) : Ev (fun k => laws_toIntS.f k xs) xs := by
  refine Ev.intro (xs.length + 1) fun k hk => ?_
  simp only [laws_toIntS.f]
  rw [if_pos (by omega), if_pos (by omega)]
  exact toIntS_l xs hn xs.length k 0 _ (by simp) (by simp) (by omega) (by omega) (by omega)

theorem eqIntS_l (xs : List Int) (hn : xs.length ≤ 1048576) (d : Nat) : ∀ (k i : Nat), i ≤ xs.length → xs.length - i = d → d < k →
    laws_eqIntS.l0 k xs xs i = some true := by
  induction d with
  | zero =>
    intro k i hi hd hk
    obtain ⟨k, rfl⟩ : ∃ m, k = m + 1 := ⟨k - 1, by omega⟩
    simp only [laws_eqIntS.l0]; rw [if_neg (by omega)]
  | succ d ih =>
    intro k i hi hd hk
    obtain ⟨k, rfl⟩ : ∃ m, k = m + 1 := ⟨k - 1, by omega⟩
    simp only [laws_eqIntS.l0]; rw [if_pos (by omega), if_pos (by omega), if_pos (by omega), if_pos True.intro, w64 (by omega) (by omega)]
    exact ih k (i + 1) (by omega) (by omega) (by omega)
theorem eqIntS_ev (xs : List Int) (hn : xs.length ≤ 1048576) : Ev (fun k => laws_eqIntS.f k xs xs) true := by
  refine Ev.intro (xs.length + 1) fun k hk => ?_
  simp only [laws_eqIntS.f, if_true]
  exact eqIntS_l xs hn xs.length k 0 (by omega) (by omega) (by omega)

theorem markIntS_l (xs : List Int) (hn : xs.length ≤ 1048576) (d : Nat) : ∀ (k i : Nat) (ys : List Int), ys.length = xs.length → i ≤ xs.length → xs.length - i = d → d < k →
    laws_markIntS.l0 k ys (1 + i) i = some (1 + (xs.length : Int), ys.take i ++ (List.range' (1 + i) d).map (fun j : Nat => (j : Int))) := by
  induction d with
  | zero =>
    intro k i ys hl hi hd hk
    obtain ⟨k, rfl⟩ : ∃ m, k = m + 1 := ⟨k - 1, by omega⟩
    simp only [laws_markIntS.l0]; rw [if_neg (by omega)]
    have : i = xs.length := by omega
    subst this
    simp [← hl]
  | succ d ih =>
    intro k i ys hl hi hd hk
    obtain ⟨k, rfl⟩ : ∃ m, k = m + 1 := ⟨k - 1, by omega⟩
    simp only [laws_markIntS.l0]; rw [if_pos (by omega), if_pos (by omega), w64 (by omega) (by omega), w64 (by omega) (by omega), Int.toNat_natCast]
    have := ih k (i + 1) (ys.set i (1 + i)) (by simp [hl]) (by omega) (by omega) (by omega)
    rw [show (1 : Int) + ((i + 1 : Nat) : Int) = 1 + (i : Int) + 1 by omega, show ((i + 1 : Nat) : Int) = (i : Int) + 1 by omega] at this
    rw [this]
    congr 2
    rw [List.take_succ_eq_append_getElem (by simp; omega)]
    simp only [List.getElem_set_self, List.append_assoc, List.take_set_of_le (Nat.le_refl i)]
    rw [List.range'_succ]
    simp [Nat.add_assoc]
theorem heldIntS_l (n : Nat) (hn : n ≤ 1048576) (d : Nat) : ∀ (k i : Nat), i ≤ n → n - i = d → d < k →
    laws_heldIntS.l0 k ((List.range' 1 n).map (fun j : Nat => (j : Int))) (1 + i) i = some (1 + (n : Int)) := by
  induction d with
  | zero =>
    intro k i hi hd hk
    obtain ⟨k, rfl⟩ : ∃ m, k = m + 1 := ⟨k - 1, by omega⟩
    simp only [laws_heldIntS.l0]; rw [if_neg (by simp; omega)]
    congr 2; omega
  | succ d ih =>
    intro k i hi hd hk
    obtain ⟨k, rfl⟩ : ∃ m, k = m + 1 := ⟨k - 1, by omega⟩
    simp only [laws_heldIntS.l0]; rw [if_pos (by simp; omega), if_pos (by omega), w64 (by omega) (by omega), w64 (by omega) (by omega), if_pos]
    · have := ih k (i + 1) (by omega) (by omega) (by omega)
      rw [show (1 : Int) + ((i + 1 : Nat) : Int) = 1 + (i : Int) + 1 by omega, show ((i + 1 : Nat) : Int) = (i : Int) + 1 by omega] at this
      exact this
    · rw [rd_nat, List.getD_eq_getElem?_getD, List.getElem?_eq_getElem (by simp; omega)]
      simp
theorem markIntS_ev (xs : List Int) (hn : xs.length ≤ 1048576) : Ev (fun k => laws_markIntS.f k xs 1) (1 + (xs.length : Int), (List.range' 1 xs.length).map (fun j : Nat => (j : Int))) := by
  refine Ev.intro (xs.length + 1) fun k hk => ?_
  simp only [laws_markIntS.f]
  have := markIntS_l xs hn xs.length k 0 xs rfl (by omega) (by omega) (by omega)
  simpa using this
theorem heldIntS_ev (n : Nat) (hn : n ≤ 1048576) : Ev (fun k => laws_heldIntS.f k ((List.range' 1 n).map (fun j : Nat => (j : Int))) 1) (1 + (n : Int)) := by
  refine Ev.intro (n + 1) fun k hk => ?_
  simp only [laws_heldIntS.f]
  have := heldIntS_l n hn n k 0 (by omega) (by omega) (by omega)
  simpa using this

def withS (a : Int) (xs : List Int) (i : Nat) : List Int := match xs with
  | [] => []
  | x :: r => if x = a then (i : Int) :: withS a r (i + 1) else withS a r (i + 1)
theorem withS_len (a : Int) (xs : List Int) : ∀ i, (withS a xs i).length ≤ xs.length := by
  induction xs with
  | nil => intro i; simp [withS]
  | cons x r ih => intro i; simp only [withS]; split <;> simp <;> have := ih (i + 1) <;> omega
theorem withS_drop (a : Int) (xs : List Int) (i j : Nat) (h : i < xs.length) : withS a (xs.drop i) j = if xs.getD i 0 = a then (j : Int) :: withS a (xs.drop (i + 1)) (j + 1) else withS a (xs.drop (i + 1)) (j + 1) := by
  rw [List.drop_eq_getElem_cons h]
  simp [withS, List.getD_eq_getElem?_getD, h]
theorem sPagesWith_l (xs : List Int) (a : Int) (hn : xs.length ≤ 1048576) (d : Nat) : ∀ (k i : Nat) (o : List Int), o.length ≤ i → i ≤ xs.length → xs.length - i = d → d < k →
    spec_PagesWith.l0 k xs a o i = some (o ++ withS a (xs.drop i) i) := by
  induction d with
  | zero =>
    intro k i o ho hi hd hk
    obtain ⟨k, rfl⟩ : ∃ m, k = m + 1 := ⟨k - 1, by omega⟩
    simp only [spec_PagesWith.l0]; rw [if_neg (by omega), List.drop_of_length_le (by omega)]
    simp [withS]
  | succ d ih =>
    intro k i o ho hi hd hk
    obtain ⟨k, rfl⟩ : ∃ m, k = m + 1 := ⟨k - 1, by omega⟩
    simp only [spec_PagesWith.l0]; rw [if_pos (by omega), if_pos (by omega), w64 (by omega) (by omega), rd_nat, withS_drop a xs i i (by omega)]
    have hc : (i : Int) + 1 = ((i + 1 : Nat) : Int) := by omega
    rw [hc]
    split
    · rw [if_pos (by omega), ih k (i + 1) _ (by simp; omega) (by omega) (by omega) (by omega)]
      simp
    · exact ih k (i + 1) _ (by omega) (by omega) (by omega) (by omega)
theorem sPagesWith_ev (xs : List Int) (a : Int) (hn : xs.length ≤ 1048576) : Ev (fun k => spec_PagesWith.f k xs a) (withS a xs 0) := by
  refine Ev.intro (xs.length + 1) fun k hk => ?_
  simp only [spec_PagesWith.f]
  have := sPagesWith_l xs a hn xs.length k 0 [] (by simp) (by omega) (by omega) (by omega)
  simpa using this
theorem iPagesWith_l (xs : List Int) (a : Int) (hn : xs.length ≤ 1048576) (d : Nat) : ∀ (k i : Nat) (o : List Int), o.length ≤ i → i ≤ xs.length → xs.length - i = d → d < k →
    impl_PagesWith.l0 k a o xs (xs.length : Int) i = some (o ++ withS a (xs.drop i) i) := by
  induction d with
  | zero =>
    intro k i o ho hi hd hk
    obtain ⟨k, rfl⟩ : ∃ m, k = m + 1 := ⟨k - 1, by omega⟩
    simp only [impl_PagesWith.l0]; rw [if_neg (by omega), List.drop_of_length_le (by omega)]
    simp [withS]
  | succ d ih =>
    intro k i o ho hi hd hk
    obtain ⟨k, rfl⟩ : ∃ m, k = m + 1 := ⟨k - 1, by omega⟩
    simp only [impl_PagesWith.l0]; rw [if_pos (by omega), if_pos (by omega), if_pos (by omega), w64 (by omega) (by omega), rd_nat, withS_drop a xs i i (by omega)]
    have hc : (i : Int) + 1 = ((i + 1 : Nat) : Int) := by omega
    rw [hc]
    split
    · rw [if_pos (by omega), ih k (i + 1) _ (by simp; omega) (by omega) (by omega) (by omega)]
      simp
    · exact ih k (i + 1) _ (by omega) (by omega) (by omega) (by omega)
theorem iPagesWith_ev (xs : List Int) (a : Int) (hn : xs.length ≤ 1048576) : Ev (fun k => impl_PagesWith.f k xs a) (withS a xs 0) := by
  refine Ev.intro (xs.length + 1) fun k hk => ?_
  simp only [impl_PagesWith.f]
  have := iPagesWith_l xs a hn xs.length k 0 [] (by simp) (by omega) (by omega) (by omega)
  simpa using this

theorem FnExactPagesWith : laws_FnExactPagesWith.Pure := by
  intro l a _ _ _ _
  apply Ev.rounds
  unfold laws_FnExactPagesWith.f
  by_cases h : (l.length : Int) > 1048576
  · simp only [if_pos h]; exact Ev.now _
  · simp only [if_neg h]
    have hn : l.length ≤ 1048576 := by omega
    have hw : (withS a l 0).length ≤ 1048576 := Nat.le_trans (withS_len a l 0) hn
    refine Ev.bind (toIntS_ev l hn) ?_
    refine Ev.bind (sPagesWith_ev l a hn) ?_
    refine Ev.bind (toIntS_ev l hn) ?_
    refine Ev.bind (iPagesWith_ev l a hn) ?_
    refine Ev.bind (eqIntS_ev _ hw) ?_
    simp only [if_true]
    refine Ev.bind (toIntS_ev l hn) ?_
    refine Ev.bind (eqIntS_ev _ hn) ?_
    simp only [if_true]
    refine Ev.bind (markIntS_ev l hn) ?_
    refine Ev.congr (f := fun n => (laws_eqIntS.f n (withS a l 0) (withS a l 0)).bind fun t143 => laws_FnExactPagesWith.j0 n l a (withS a l 0) (withS a l 0) (!t143)) (fun k => if_neg (by show ¬ (1 + (l.length : Int) < 0); omega)) ?_
    refine Ev.bind (eqIntS_ev _ hw) ?_
    refine Ev.step (fun k => by simp only [laws_FnExactPagesWith.j0, Bool.not_true, Bool.false_eq_true, if_false]; rfl) ?_
    refine Ev.bind (markIntS_ev _ hw) ?_
    refine Ev.bind (heldIntS_ev _ hw) ?_
    refine Ev.congr (fun k => (if_neg (by omega)).trans (if_pos rfl)) ?_
    refine Ev.bind (toIntS_ev l hn) ?_
    refine Ev.bind (iPagesWith_ev l a hn) ?_
    refine Ev.bind (eqIntS_ev _ hw) ?_
    simp only [if_true]
    refine Ev.bind (heldIntS_ev _ hw) ?_
    exact Ev.congr (fun k => (if_neg (by omega)).trans (if_pos rfl)) (Ev.now _)

end Go.Proofs.Ytdlinbemiilkmaa.Pure
