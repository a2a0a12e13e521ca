/- The pure statement of FnViews is proved: for all arguments within the row's own bounds the Lean function that the law's walk comes to answers true. Conditions: none beyond these bounds. -/
import Derived.Test.YtljnnmpfeningaaStFnViews
import Derived.Test.YtljnnmpfeningaaBase
namespace Go.Proofs.Ytljnnmpfeningaa.Pure
open Go.RowKit Go.Proofs.Ytljnnmpfeningaa.PFnViews Go.Proofs.YtljnnmpfeningaaW.PrintWords Go.Proofs.YtljnnmpfeningaaW.PrintLast Go.Proofs.Ytljnnmpfeningaa.Base
set_option linter.unusedVariables false
set_option linter.unusedSimpArgs false
/-! ### items -/
theorem rd_itemI (xs : List S44) (i : Nat) (h : i < xs.length) : rd_T44 xs (i : Int) = xs[i] := getD_at _ xs i h
/-! ### view -/
/-! ### split47 -/
/-- Cut at each byte 47. -/
def sp47 : List UInt8 → List (List UInt8)
  | [] => [[]]
  | b :: l => if b = 47 then [] :: sp47 l else match sp47 l with
    | [] => [[b]]
    | p :: r => (b :: p) :: r
theorem sp47_ne (l : List UInt8) : sp47 l ≠ [] := by
  cases l with
  | nil => simp [sp47]
  | cons b l => unfold sp47; split; · simp
                split <;> simp
theorem sp47_len (l : List UInt8) : (sp47 l).length ≤ l.length + 1 := by
  induction l with
  | nil => simp [sp47]
  | cons b l ih =>
    unfold sp47
    split
    · simp; omega
    · split
      · simp
      · rename_i p r h; rw [h] at ih; simp at ih ⊢; omega
theorem sp47_slash (l : List UInt8) : sp47 (47 :: l) = [] :: sp47 l := by simp [sp47]
theorem sp47_other (b : UInt8) (l : List UInt8) (hb : b ≠ 47) (p : List UInt8) (r : List (List UInt8)) (h : sp47 l = p :: r) : sp47 (b :: l) = (b :: p) :: r := by simp [sp47, hb, h]
/-- The pieces of 'l', the first of them begun with 'cur'. -/
def pcs (cur l : List UInt8) : List (List UInt8) := match sp47 l with
  | [] => [cur]
  | p :: r => (cur ++ p) :: r
theorem pcs_nil (l : List UInt8) : pcs [] l = sp47 l := by
  unfold pcs
  split
  · rename_i h; exact absurd h (sp47_ne l)
  · rename_i h; simp [h]
theorem pcs_end (cur : List UInt8) : pcs cur [] = [cur] := by simp [pcs, sp47]
theorem pcs_slash (cur l : List UInt8) : pcs cur (47 :: l) = cur :: sp47 l := by simp [pcs, sp47]
theorem pcs_other (cur : List UInt8) (b : UInt8) (l : List UInt8) (hb : b ≠ 47) : pcs cur (b :: l) = pcs (cur ++ [b]) l := by
  unfold pcs
  obtain ⟨p, r, h⟩ := List.exists_cons_of_ne_nil (sp47_ne l)
  rw [sp47_other b l hb p r h, h]
  simp
/-- 'l' ends with a 47. -/
def end47 : List UInt8 → Bool
  | [] => false
  | [b] => b == 47
  | _ :: b :: l => end47 (b :: l)
def two47 : List UInt8 → Bool
  | [] => false
  | [_] => false
  | a :: b :: l => (a == 47 && b == 47) || two47 (b :: l)
theorem suffix47 : ∀ l : List UInt8, Lib.hasSuffix l [47] = end47 l
  | [] => rfl
  | [b] => by
    unfold Lib.hasSuffix
    simp [end47, List.isSuffixOf, List.isPrefixOf]
    rw [Bool.eq_iff_iff, beq_iff_eq, beq_iff_eq]; exact eq_comm
  | a :: b :: l => by
    rw [end47, ← suffix47 (b :: l)]
    unfold Lib.hasSuffix
    rw [Bool.eq_iff_iff, List.isSuffixOf_iff_suffix, List.isSuffixOf_iff_suffix]
    constructor
    · rintro ⟨t, ht⟩
      cases t with
      | nil => simp at ht
      | cons c t => simp at ht; exact ⟨t, ht.2⟩
    · rintro ⟨t, ht⟩; exact ⟨a :: t, by simp [ht]⟩
def emp (l : List (List UInt8)) : Bool := l.any (·.isEmpty)
theorem emp_sp : ∀ (l : List UInt8), (∀ b, b ≠ 47 → (two47 (b :: l) || end47 (b :: l)) = emp (sp47 l).tail) ∧ (two47 (47 :: l) || end47 (47 :: l)) = emp (sp47 l)
  | [] => by
    refine ⟨fun b hb => ?_, rfl⟩
    simp [two47, end47, emp, sp47, hb]
  | c :: l => by
    obtain ⟨h1, h2⟩ := emp_sp l
    by_cases hc : c = 47
    · subst hc
      refine ⟨fun b hb => ?_, ?_⟩
      · rw [sp47_slash, List.tail_cons, ← h2, two47, end47]
        simp [show (b == 47) = false from beq_eq_false_iff_ne.2 hb]
      · simp [two47, sp47_slash, emp]
    · obtain ⟨p, r, hs⟩ := List.exists_cons_of_ne_nil (sp47_ne l)
      have := h1 c hc
      rw [hs, List.tail_cons] at this
      refine ⟨fun b hb => ?_, ?_⟩
      · rw [sp47_other c l hc p r hs, List.tail_cons, ← this, two47, end47]; simp [show (b == 47) = false from beq_eq_false_iff_ne.2 hb]
      · rw [sp47_other c l hc p r hs, show emp ((c :: p) :: r) = emp r by simp [emp], ← this, two47, end47]; simp [show (c == 47) = false from beq_eq_false_iff_ne.2 hc]
/-- A byte of a name. -/
def nb (b : UInt8) : Bool := (decide (97 ≤ b.toNat) && decide (b.toNat ≤ 122)) || (decide (48 ≤ b.toNat) && decide (b.toNat ≤ 57))
def badB (b : UInt8) : Bool := !(nb b || b == 47)
theorem decode_low (s : ByteArray) (i : Nat) (h : (s.get! i).toNat < 128) : Utf8.decode s i = ((s.get! i).toNat, 1) := by
  unfold Utf8.decode
  simp only [Nat.add_zero]
  rw [if_pos h]
theorem decode_high (s : ByteArray) (i : Nat) (h : ¬ (s.get! i).toNat < 128) : 128 ≤ (Utf8.decode s i).1 := by
  unfold Utf8.decode
  simp only [Nat.add_zero]
  rw [if_neg h]
  have hr : 128 ≤ Utf8.runeError := by decide
  repeat' (first | exact hr | (split))
  all_goals first | exact hr | assumption | (simp only [ge_iff_le, Bool.and_eq_true, decide_eq_true_eq] at *; omega)
/-! ### lin -/
theorem l01In_eq (a b c : Int) : spec_l01In.f a b c = some (decide (b ≤ a ∧ a ≤ c)) := by
  unfold spec_l01In.f
  by_cases h : a ≥ b
  · rw [if_pos h]; congr 1; simp; omega
  · rw [if_neg h]; congr 1; simp; omega

/-! ### btn -/
theorem btn (a : ByteArray) (i : Nat) (h : i < a.data.toList.length) : bt a (i : Int) = ((a.data.toList[i]).toNat : Int) := by
  have h2 : i < a.size := by rw [b_len] at h; exact h
  rw [← bt_at a (i : Int) (by simpa using h2)]
  simp only [Int.toNat_natCast]; rfl

/-! ### splitpath -/
def mkB (l : List UInt8) : ByteArray := ⟨l.toArray⟩
theorem mkB_list (l : List UInt8) : (mkB l).data.toList = l := rfl
theorem mkB_size (l : List UInt8) : (mkB l).size = l.length := b_size l
theorem mkB_data (b : ByteArray) : mkB b.data.toList = b := b_inj rfl
theorem mkB_map {xs : List ByteArray} {l : List (List UInt8)} (h : xs.map (·.data.toList) = l) : xs = l.map mkB := by
  rw [← h, List.map_map]
  have : (mkB ∘ fun x : ByteArray => x.data.toList) = id := by funext b; exact mkB_data b
  rw [this, List.map_id]
def fin47 (out : List ByteArray) (long : Bool) (cur rest : List UInt8) : List ByteArray × Int :=
  if rest.any badB then ([], 1) else if emp (pcs cur rest) then ([], 1) else if long || (pcs cur rest).any (fun p => decide (7 < p.length)) then ([], 2) else (out ++ (pcs cur rest).map mkB, 0)
theorem nb_i (x : UInt8) : (decide ((97 : Int) ≤ (x.toNat : Int) ∧ (x.toNat : Int) ≤ 122) || decide ((48 : Int) ≤ (x.toNat : Int) ∧ (x.toNat : Int) ≤ 57)) = nb x := by
  unfold nb
  rw [Bool.eq_iff_iff]
  simp
  omega
theorem fin_bad (out : List ByteArray) (long : Bool) (cur rest : List UInt8) (x : UInt8) (h : badB x = true) : fin47 out long cur (x :: rest) = ([], 1) := by
  unfold fin47
  rw [if_pos (by simp [h])]
theorem fin_nb (out : List ByteArray) (long : Bool) (cur rest : List UInt8) (x : UInt8) (h : nb x = true) (h47 : x ≠ 47) : fin47 out long cur (x :: rest) = fin47 out long (cur ++ [x]) rest := by
  unfold fin47
  rw [pcs_other cur x rest h47, List.any_cons, show badB x = false by simp [badB, h], Bool.false_or]
theorem bad47 : badB 47 = false := by decide
theorem fin_empty (out : List ByteArray) (long : Bool) (rest : List UInt8) : fin47 out long [] (47 :: rest) = ([], 1) := by
  unfold fin47
  rw [pcs_slash, show emp ([] :: sp47 rest) = true by simp [emp]]
  split <;> rfl
theorem fin_slash (out : List ByteArray) (long : Bool) (cur rest : List UInt8) (hc : cur ≠ []) : fin47 out long cur (47 :: rest) = fin47 (out ++ [mkB cur]) (long || decide (7 < cur.length)) [] rest := by
  unfold fin47
  rw [pcs_slash, pcs_nil, List.any_cons, bad47, Bool.false_or]
  rw [show emp (cur :: sp47 rest) = emp (sp47 rest) by simp [emp, hc]]
  simp only [List.any_cons, List.map_cons, List.append_assoc, List.singleton_append, Bool.or_assoc]
theorem fin_end0 (out : List ByteArray) (long : Bool) : fin47 out long [] [] = ([], 1) := by
  unfold fin47
  rw [pcs_end]; rfl
theorem fin_end (out : List ByteArray) (long : Bool) (cur : List UInt8) (hc : cur ≠ []) : fin47 out long cur [] = if (long || decide (7 < cur.length)) then ([], 2) else (out ++ [mkB cur], 0) := by
  unfold fin47
  rw [pcs_end]
  simp [emp, hc]
theorem sSplit_l (a : ByteArray) (hn : a.size ≤ 60) : ∀ (i bg : Nat) (out : List ByteArray) (long : Bool), bg ≤ i → i ≤ a.size → out.length ≤ i → Ev (fun k => spec_SplitPath.l0 k a [] out long (bg : Int) (i : Int)) (fin47 out long ((a.data.toList.take i).drop bg) (a.data.toList.drop i))
  | i, bg, out, long, hb, hi, ho => by
    refine Ev.step (spec_SplitPath.l0.eq_2 _ _ _ _ _ _) ?_
    have hl := b_len a
    have hcl : ((a.data.toList.take i).drop bg).length = i - bg := by rw [List.length_drop, List.length_take]; omega
    have hE : a.extract (bg : Int).toNat (i : Int).toNat = mkB ((a.data.toList.take i).drop bg) := b_inj (by rw [b_cut, mkB_list]; rfl)
    have hw : wrap64 ((i : Int) - (bg : Int)) = (i : Int) - bg := w64 (by omega) (by omega)
    have hlim : out.length < 8796093022208 := by omega
    by_cases h : i < a.size
    · have h' : i < a.data.toList.length := by omega
      rw [drop_at a.data.toList i h']
      refine ev_pos (by omega) (ev_pos (by omega) (ev_pos (by omega) ?_))
      refine Ev.step (spec_SplitPath.j2.eq_2 _ _ _ _ _ _ _) ?_
      rw [btn a i h']
      have htk : (a.data.toList.take (i + 1)).drop bg = (a.data.toList.take i).drop bg ++ [a.data.toList[i]] := by
        rw [List.take_succ_eq_append_getElem h', List.drop_append_of_le_length (by rw [List.length_take]; omega)]
      have htk2 : (a.data.toList.take (i + 1)).drop (i + 1) = [] := List.drop_of_length_le (by rw [List.length_take]; omega)
      generalize hx : a.data.toList[i] = x at htk
      by_cases h47 : x = 47
      · subst h47
        refine ev_neg (by decide) ?_
        by_cases hbi : bg = i
        · subst hbi
          refine ev_pos rfl (ev_now ?_)
          rw [show (a.data.toList.take bg).drop bg = [] from List.eq_nil_of_length_eq_zero (by omega), fin_empty]
        · refine ev_neg (by omega) ?_
          rw [fin_slash _ _ _ _ (by intro e; rw [e] at hcl; simp at hcl; omega), hcl]
          have ih := fun lg => sSplit_l a hn (i + 1) (i + 1) (out ++ [mkB ((a.data.toList.take i).drop bg)]) lg (Nat.le_refl _) (by omega) (by simp; omega)
          rw [htk2] at ih
          cases long with
          | true =>
            refine ev_pos rfl (ev_pos (by omega) (ev_pos (by omega) (ev_pos (by omega) (ev_pos hlim ?_))))
            rw [hE, w64s i (by omega)]
            exact ih true
          | false =>
            refine ev_neg (by simp) (ev_pos (by omega) (ev_pos (by omega) (ev_pos (by omega) (ev_pos hlim ?_))))
            rw [hE, w64s i (by omega), hw]
            have e : decide ((i : Int) - (bg : Int) > 7) = decide (7 < i - bg) := by rw [decide_eq_decide]; omega
            rw [e, Bool.false_or]
            exact ih _
      · have hne : (((x.toNat : Int)) != 47) = true := by
          rw [bne_iff_ne]; intro e; exact h47 (UInt8.toNat_inj.1 (by have : x.toNat = 47 := by omega
                                                                     rw [this]; rfl))
        have hxl : x.toNat < 256 := UInt8.toNat_lt x
        refine ev_pos hne (ev_pos (by omega) (ev_pos (by omega) ?_))
        rw [w64 (by omega) (by omega)]
        have hj : ∀ v, v = !nb x → Ev (fun k => spec_SplitPath.j3 k a [] out long (bg : Int) (i : Int) v) (fin47 out long ((a.data.toList.take i).drop bg) (x :: a.data.toList.drop (i + 1))) := by
          intro v hv
          refine Ev.step (spec_SplitPath.j3.eq_2 _ _ _ _ _ _ _) ?_
          cases hq : nb x with
          | false => 
            rw [hq] at hv
            exact ev_pos hv (ev_now (fin_bad _ _ _ _ _ (by simp [badB, hq, h47])).symm)
          | true =>
            rw [hq] at hv
            subst hv
            refine ev_neg (by simp) ?_
            rw [fin_nb _ _ _ _ _ hq h47, w64s i (by omega), ← htk]
            exact sSplit_l a hn (i + 1) bg out long (by omega) (by omega) (by omega)
        have hnb := nb_i x
        refine Ev.bind (ev_eq (l01In_eq _ _ _)) ?_
        by_cases q1 : (97 : Int) ≤ (x.toNat : Int) ∧ (x.toNat : Int) ≤ 122
        · refine ev_pos (by simpa using q1) (hj _ ?_)
          rw [← hnb, decide_eq_true q1]; rfl
        · refine ev_neg (by simpa using q1) (Ev.bind (ev_eq (l01In_eq _ _ _)) (hj _ ?_))
          rw [← hnb, decide_eq_false q1, Bool.false_or]
    · have he : i = a.size := by omega
      refine ev_pos (by omega) (ev_neg (by omega) ?_)
      refine Ev.step (spec_SplitPath.j2.eq_2 _ _ _ _ _ _ _) ?_
      refine ev_neg (by simp) ?_
      rw [List.drop_of_length_le (by omega : a.data.toList.length ≤ i)]
      by_cases hbi : bg = i
      · subst hbi
        refine ev_pos rfl (ev_now ?_)
        rw [show (a.data.toList.take bg).drop bg = [] from List.eq_nil_of_length_eq_zero (by omega), fin_end0]
      · refine ev_neg (by omega) ?_
        rw [fin_end _ _ _ (by intro e; rw [e] at hcl; simp at hcl; omega), hcl]
        have last : ∀ (o : List ByteArray) (lg : Bool), Ev (fun k => spec_SplitPath.l0 k a [] o lg ((i + 1 : Nat) : Int) ((i + 1 : Nat) : Int)) (if lg then ([], 2) else (o, 0)) := by
          intro o lg
          refine Ev.step (spec_SplitPath.l0.eq_2 _ _ _ _ _ _) ?_
          refine ev_neg (by omega) ?_
          cases lg with
          | true => exact ev_pos rfl (ev_now rfl)
          | false => exact ev_neg (by simp) (ev_now rfl)
        cases long with
        | true =>
          refine ev_pos rfl (ev_pos (by omega) (ev_pos (by omega) (ev_pos (by omega) (ev_pos hlim ?_))))
          rw [hE, w64s i (by omega)]
          exact ev_to (last _ _) (by simp)
        | false =>
          refine ev_neg (by simp) (ev_pos (by omega) (ev_pos (by omega) (ev_pos (by omega) (ev_pos hlim ?_))))
          rw [hE, w64s i (by omega), hw]
          have e : decide ((i : Int) - (bg : Int) > 7) = decide (7 < i - bg) := by rw [decide_eq_decide]; omega
          rw [e, Bool.false_or]
          exact last _ _
  termination_by i => a.size + 1 - i
/-- What SplitPath comes to. -/
def spP (a : ByteArray) : List ByteArray × Int :=
  if 60 < a.size then ([], 1) else match a.data.toList with
    | [] => ([], 1)
    | c :: t => if c ≠ 47 then ([], 1) else if t = [] then ([], 0) else fin47 [] false [] t
theorem sSplit_ev (a : ByteArray) : Ev (fun k => spec_SplitPath.f k a) (spP a) := by
  unfold spec_SplitPath.f spP
  simp only [Option.bind_some]
  have hl := b_len a
  have j1 : Ev (fun k => spec_SplitPath.j0 k a [] true) ([], 1) := by
    refine Ev.step (spec_SplitPath.j0.eq_2 _ _ _) ?_
    exact ev_pos rfl (ev_now rfl)
  by_cases h : 60 < a.size
  · rw [if_pos h]; exact ev_pos (by omega) j1
  · rw [if_neg h]
    refine ev_neg (by omega) ?_
    rcases hq : a.data.toList with _ | ⟨c, t⟩
    · rw [hq] at hl; simp at hl
      exact ev_pos (by omega) j1
    · have hl' := hl
      rw [hq] at hl'; simp at hl'
      refine ev_neg (by omega) (ev_pos (by omega) ?_)
      have hb := btn a 0 (by omega)
      have e0 : a.data.toList[0]'(by omega) = c := by simp [hq]
      rw [e0] at hb
      rw [show bt a 0 = (c.toNat : Int) from hb]
      refine Ev.step (spec_SplitPath.j0.eq_2 _ _ _) ?_
      by_cases h47 : c = 47
      · subst h47
        refine ev_neg (by decide) ?_
        rw [b_toList, hq]
        simp only [ne_eq, not_true, if_false]
        by_cases ht : t = []
        · subst ht; exact ev_pos rfl (ev_now rfl)
        · rw [if_neg ht]
          refine ev_neg (by simp [ht]) (ev_to (sSplit_l a (by omega) 1 1 [] false (Nat.le_refl _) (by omega) (by simp)) ?_)
          rw [hq]; simp
      · refine ev_pos ?_ (ev_now (by simp [h47]))
        rw [bne_iff_ne]; intro e; exact h47 (UInt8.toNat_inj.1 (by have : c.toNat = 47 := by omega
                                                                   rw [this]; rfl))
def long7 (xs : List ByteArray) : Bool := xs.any (fun p => decide (7 < p.size))
theorem long7_mk (l : List (List UInt8)) : long7 (l.map mkB) = l.any (fun p => decide (7 < p.length)) := by
  unfold long7
  rw [List.any_map]
  rfl
/-! ### splitlen -/
theorem spP_len (a : ByteArray) : (spP a).1.length ≤ 1000 := by
  unfold spP
  split
  · simp
  · rename_i h
    have hl := b_len a
    split
    · simp
    · rename_i c t hq
      split
      · simp
      · split
        · simp
        · unfold fin47
          have := sp47_len t
          rw [hq] at hl; simp at hl
          repeat' (first | (split) | (simp; done))
          rw [pcs_nil]; simp; omega
theorem sumBy_le_append {α : Type} (f : α → Nat) (xs : List α) (n : Nat) : sumBy f (xs.take n) ≤ sumBy f xs := by
  induction xs generalizing n with
  | nil => simp
  | cons x r ih =>
    cases n with
    | zero => simp [sumBy]
    | succ n => rw [List.take_succ_cons, sumBy_cons, sumBy_cons]; have := ih n; omega
theorem sp47_sum : ∀ l : List UInt8, sumBy (fun p : List UInt8 => p.length) (sp47 l) ≤ l.length
  | [] => by simp [sp47, sumBy]
  | b :: l => by
    have ih := sp47_sum l
    by_cases h : b = 47
    · subst h; rw [sp47_slash, sumBy_cons]; simp; omega
    · obtain ⟨p, r, hs⟩ := List.exists_cons_of_ne_nil (sp47_ne l)
      rw [sp47_other b l h p r hs, sumBy_cons]
      rw [hs, sumBy_cons] at ih
      simp; omega
theorem sumBy_mk (l : List (List UInt8)) : sumBy (fun b : ByteArray => b.size) (l.map mkB) = sumBy (fun p : List UInt8 => p.length) l := by
  induction l with
  | nil => rfl
  | cons p r ih => rw [List.map_cons, sumBy_cons, sumBy_cons, ih, mkB_size]
/-- The ways of a good path. -/
theorem spP_ok (a : ByteArray) (h : (spP a).2 = 0) : a.size ≤ 60 ∧ ((a.data.toList = [47] ∧ (spP a).1 = []) ∨ ∃ t, a.data.toList = 47 :: t ∧ t ≠ [] ∧ t.any badB = false ∧ emp (sp47 t) = false ∧ (sp47 t).any (fun p => decide (7 < p.length)) = false ∧ (spP a).1 = (sp47 t).map mkB) := by
  unfold spP at h ⊢
  split at h
  · cases h
  rename_i h60
  rw [if_neg h60]
  refine ⟨by omega, ?_⟩
  split at h
  · cases h
  · rename_i c t hq
    rw [hq]
    split at h
    · cases h
    · rename_i h47
      simp only [ne_eq, Decidable.not_not] at h47
      subst h47
      split at h
      · rename_i ht
        subst ht
        exact Or.inl ⟨rfl, by simp⟩
      · rename_i ht
        right
        refine ⟨t, rfl, ht, ?_⟩
        simp only [ne_eq, not_true, if_false, if_neg ht]
        unfold fin47 at h ⊢
        rw [pcs_nil] at h ⊢
        cases hb : t.any badB with
        | true => rw [hb] at h; cases h
        | false =>
          cases he : emp (sp47 t) with
          | true => rw [hb, he] at h; cases h
          | false =>
            cases hl : (sp47 t).any (fun p => decide (7 < p.length)) with
            | true => rw [hb, he, hl] at h; cases h
            | false => simp
theorem spP_sum (a : ByteArray) : (spP a).1.length + sumBy (fun b : ByteArray => b.size) (spP a).1 ≤ 1000000 := by
  unfold spP
  split
  · simp [sumBy]
  · rename_i h
    have hl := b_len a
    split
    · simp [sumBy]
    · rename_i c t hq
      rw [hq] at hl; simp at hl
      split
      · simp [sumBy]
      · split
        · simp [sumBy]
        · unfold fin47
          have h1 := sp47_len t
          have h2 := sp47_sum t
          repeat' (first | (simp [sumBy]; done) | split)
          rw [pcs_nil, List.nil_append, sumBy_mk, List.length_map]; omega

/-! ### joinpath -/
def jn : List ByteArray → List UInt8
  | [] => []
  | x :: r => 47 :: (x.data.toList ++ jn r)
theorem jn_len (xs : List ByteArray) : (jn xs).length = xs.length + sumBy (fun s : ByteArray => s.size) xs := by
  induction xs with
  | nil => rfl
  | cons x r ih => rw [sumBy_cons]; simp [jn, ih]; omega
def jp (xs : List ByteArray) : ByteArray := if xs = [] then ⟨#[47]⟩ else ⟨(jn xs).toArray⟩
theorem jn_join (x : ByteArray) (r : List ByteArray) : jn (x :: r) = 47 :: Lib.join ((x :: r).map (·.data.toList)) [47] := by
  unfold Lib.join
  induction r generalizing x with
  | nil => simp [jn, List.intercalate]
  | cons y s ih =>
    have := ih y
    simp only [jn] at this ⊢
    rw [List.map_cons, List.map_cons, List.intercalate_cons_cons]
    simp only [List.map_cons] at this
    rw [this]
    simp
theorem sJoin_l (xs : List ByteArray) (hn : xs.length + sumBy (fun s : ByteArray => s.size) xs ≤ 100000000000000) : ∀ (i : Nat) (o : ByteArray), i ≤ xs.length → o.size + (jn (xs.drop i)).length ≤ 100000000000000 → Ev (fun k => spec_JoinPath.l0 k xs o i) (⟨(o.data.toList ++ jn (xs.drop i)).toArray⟩)
  | i, o, hi, ho => by
    refine Ev.step (spec_JoinPath.l0.eq_2 _ _ _) ?_
    by_cases h : i < xs.length
    · rw [drop_at xs i h] at ho ⊢
      have hl : (jn (xs[i] :: xs.drop (i + 1))).length = 1 + xs[i].size + (jn (xs.drop (i + 1))).length := by simp [jn]; omega
      have e1 : (⟨#[47]⟩ : ByteArray).size = 1 := rfl
      refine ev_pos (by omega) (ev_pos (by omega) (ev_pos (by omega) ?_))
      rw [rdOf_at _ xs i h, w64s i (by omega)]
      refine ev_pos (by rw [ByteArray.size_append, e1]; omega) (ev_to (sJoin_l xs hn (i + 1) _ (by omega) (by rw [ByteArray.size_append, ByteArray.size_append, e1]; omega)) ?_)
      rw [b_app, b_app]
      simp [jn]
    · refine ev_neg (by omega) (ev_now (b_inj ?_))
      rw [b_mk, List.drop_of_length_le (by omega)]; simp [jn]
  termination_by i => xs.length - i
theorem sJoin_ev (xs : List ByteArray) (hn : xs.length + sumBy (fun s : ByteArray => s.size) xs ≤ 100000000000000) : Ev (fun k => spec_JoinPath.f k xs) (jp xs) := by
  unfold spec_JoinPath.f jp
  by_cases h : xs = []
  · subst h
    exact ev_pos rfl (ev_now rfl)
  · rw [if_neg h]
    refine ev_neg (by have := List.length_pos_iff.2 h; omega) (ev_to (sJoin_l xs hn 0 _ (by omega) (by rw [List.drop_zero, jn_len]; have : (⟨#[]⟩ : ByteArray).size = 0 := rfl; omega)) ?_)
    rfl

/-! ### eqstr -/
theorem drop_eq_iff' {α : Type} (xs ys : List α) (i : Nat) (h1 : i < xs.length) (h2 : i < ys.length) : xs.drop i = ys.drop i ↔ xs[i] = ys[i] ∧ xs.drop (i + 1) = ys.drop (i + 1) := by
  rw [drop_at xs i h1, drop_at ys i h2, List.cons.injEq]
open Classical in
noncomputable def eqL (xs ys : List ByteArray) : Bool := decide (xs = ys)
open Classical in
/-! ### isunder -/
noncomputable def undP (a b : ByteArray) : Bool := decide ((spP a).2 = 0) && (decide ((spP b).2 = 0) && (decide ((spP b).1.length < (spP a).1.length) && eqL ((spP a).1.take (spP b).1.length) (spP b).1))
open Classical in
theorem sUnd_l (xs ys : List ByteArray) (hl : ys.length < xs.length) (hn : xs.length ≤ 4000000) : ∀ i : Nat, i ≤ ys.length → Ev (fun k => spec_IsUnder.l0 k xs ys i) (eqL ((xs.take ys.length).drop i) (ys.drop i))
  | i, hi => by
    refine Ev.step (spec_IsUnder.l0.eq_2 _ _ _) ?_
    have ht : (xs.take ys.length).length = ys.length := by rw [List.length_take]; omega
    by_cases h : i < ys.length
    · refine ev_pos (by omega) (ev_pos (by omega) (ev_pos (by omega) ?_))
      rw [rdOf_at _ xs i (by omega), rdOf_at _ ys i h, w64s i (by omega)]
      have hx : (xs.take ys.length)[i]'(by omega) = xs[i]'(by omega) := List.getElem_take
      by_cases he : xs[i]'(by omega) = ys[i]
      · refine ev_pos (by rw [he]) (ev_to (sUnd_l xs ys hl hn (i + 1) (by omega)) ?_)
        unfold eqL
        simp only [drop_eq_iff' (xs.take ys.length) ys i (by omega) h, hx, he, true_and]
      · refine ev_neg (fun hc => he (toList_inj hc)) (ev_now ?_)
        unfold eqL
        simp only [drop_eq_iff' (xs.take ys.length) ys i (by omega) h, hx, he, false_and, decide_false]
    · refine ev_neg (by omega) (ev_now ?_)
      rw [List.drop_of_length_le (by omega), List.drop_of_length_le (by omega)]
      unfold eqL; simp
  termination_by i => ys.length - i
theorem sUnd_ev (a b : ByteArray) : Ev (fun k => spec_IsUnder.f k a b) (undP a b) := by
  unfold spec_IsUnder.f undP
  have hn := spP_len a
  refine Ev.bind (sSplit_ev a) (Ev.bind (sSplit_ev b) ?_)
  have no : ∀ v : Bool, v = true → Ev (fun k => spec_IsUnder.j0 k (spP a).1 (spP b).1 v) false := by
    intro v hv
    refine Ev.step (spec_IsUnder.j0.eq_2 _ _ _) ?_
    exact ev_pos hv (ev_now rfl)
  by_cases h1 : (spP a).2 = 0
  · by_cases h2 : (spP b).2 = 0
    · refine ev_pos h1 (ev_pos h2 ?_)
      by_cases h3 : (spP b).1.length < (spP a).1.length
      · rw [decide_eq_false (by omega : ¬ ((spP a).1.length : Int) ≤ ((spP b).1.length : Int))]
        refine Ev.step (spec_IsUnder.j0.eq_2 _ _ _) ?_
        refine ev_neg (by simp) (ev_to (sUnd_l _ _ h3 (by omega) 0 (by omega)) ?_)
        simp [h1, h2, h3]
      · exact ev_to (no _ (decide_eq_true (by omega))) (by simp [h3])
    · exact ev_pos h1 (ev_neg h2 (ev_to (no _ rfl) (by simp [h2])))
  · exact ev_neg h1 (ev_to (no _ rfl) (by simp [h1]))

/-! ### rt -/
theorem jn_app2 (a b : List ByteArray) : jn (a ++ b) = jn a ++ jn b := by
  induction a with
  | nil => rfl
  | cons x r ih => simp [jn, ih]
theorem jn_sp2 : ∀ t : List UInt8, jn ((sp47 t).map mkB) = 47 :: t
  | [] => by simp [sp47, jn, mkB]
  | b :: l => by
    have ih := jn_sp2 l
    by_cases h : b = 47
    · subst h; rw [sp47_slash]; simp [jn, mkB_list, ih]
    · obtain ⟨p, r, hs⟩ := List.exists_cons_of_ne_nil (sp47_ne l)
      rw [sp47_other b l h p r hs]
      rw [hs] at ih
      simp [jn, mkB_list] at ih ⊢
      exact ih
theorem rt2 (a : ByteArray) (h : (spP a).2 = 0) : jp (spP a).1 = a := by
  obtain ⟨_, ⟨h0, h1⟩ | ⟨t, ht, _, _, _, _, hs⟩⟩ := spP_ok a h
  · rw [h1]; exact b_inj h0.symm
  · rw [hs]
    refine b_inj ?_
    unfold jp
    rw [if_neg (by simp [sp47_ne t]), b_mk, jn_sp2, ht]
theorem jp_len (xs : List ByteArray) (h : xs ≠ []) : (jp xs).size = xs.length + sumBy (fun s : ByteArray => s.size) xs := by
  unfold jp
  rw [if_neg h, b_size, jn_len]
theorem sumBy_take_le (xs : List ByteArray) (n : Nat) : sumBy (fun s : ByteArray => s.size) (xs.take n) ≤ sumBy (fun s : ByteArray => s.size) xs := sumBy_le_append _ xs n
/-- What lies under a folder has a path that is no shorter. -/
theorem und_size (a b : ByteArray) (h : undP a b = true) : b.size ≤ a.size := by
  unfold undP at h
  simp only [Bool.and_eq_true, decide_eq_true_eq] at h
  obtain ⟨ha, hb, hl, he⟩ := h
  have e : (spP a).1.take (spP b).1.length = (spP b).1 := by
    unfold eqL at he
    simpa using he
  have ea := rt2 a ha
  have eb := rt2 b hb
  have na : (spP a).1 ≠ [] := by intro c; rw [c] at hl; simp at hl
  have sa := jp_len _ na
  rw [ea] at sa
  by_cases nb : (spP b).1 = []
  · rw [nb] at eb
    have : b.size = 1 := by rw [← eb]; rfl
    omega
  · have sb := jp_len _ nb
    rw [eb] at sb
    have := sumBy_take_le (spP a).1 (spP b).1.length
    rw [e] at this
    omega

/-! ### movedv -/
noncomputable def mvX (fr tu : ByteArray) (x : S44) : S44 := open Classical in if x.f0.toList = fr.toList ∨ undP x.f0 fr = true then ⟨tu ++ x.f0.extract fr.size x.f0.size, x.f1, x.f2⟩ else x
def leP (x y : S44) : Bool := !(Op.bytesLess x.f0.toList y.f0.toList)
def insM (x : S44) (out : List S44) : List S44 := out.takeWhile (leP x) ++ [x] ++ out.dropWhile (leP x)
noncomputable def mvL (fr tu : ByteArray) : List S44 → List S44 → List S44
  | [], out => out
  | x :: r, out => mvL fr tu r (insM (mvX fr tu x) out)
theorem insM_len (x : S44) (out : List S44) : (insM x out).length = out.length + 1 := by
  have e := congrArg List.length (List.takeWhile_append_dropWhile (p := leP x) (l := out))
  unfold insM
  simp only [List.length_append, List.length_singleton] at e ⊢
  omega
theorem insM_mem (x y : S44) (out : List S44) : y ∈ insM x out ↔ y = x ∨ y ∈ out := by
  have e : y ∈ out ↔ y ∈ out.takeWhile (leP x) ++ out.dropWhile (leP x) := by rw [List.takeWhile_append_dropWhile]
  rw [e]
  unfold insM
  simp only [List.mem_append, List.mem_singleton]
  exact ⟨fun h => h.elim (fun h => h.elim (fun h => .inr (.inl h)) .inl) (fun h => .inr (.inr h)), fun h => h.elim (fun h => .inl (.inr h)) (fun h => h.elim (fun h => .inl (.inl h)) .inr)⟩
theorem tw_take {α : Type} (p : α → Bool) : ∀ (l : List α) (i : Nat), (∀ y ∈ l.take i, p y = true) → (∀ h : i < l.length, p l[i] = false) → l.takeWhile p = l.take i ∧ l.dropWhile p = l.drop i
  | [], i, _, _ => by simp
  | x :: r, 0, _, h => by
    have := h (by simp)
    rw [List.getElem_cons_zero] at this
    simp [List.takeWhile, List.dropWhile, this]
  | x :: r, i + 1, h, h2 => by
    have hx : p x = true := h x (by simp)
    have := tw_take p r i (fun y hy => h y (by simp [hy])) (fun hh => by have q := h2 (by simp; omega); rw [List.getElem_cons_succ] at q; exact q)
    simp [List.takeWhile, List.dropWhile, hx, this.1, this.2]
theorem sMv_l1 (fr tu : ByteArray) (xs : List S44) (j : Nat) (p : ByteArray) (b : Bool) (t : ByteArray) (out r : List S44) (hn : out.length ≤ 1000000) (hj : j ≤ 1000000)
    (hr : Ev (fun k => spec_MovedItems.l0 k fr tu ((j + 1 : Nat) : Int) xs (insM ⟨p, b, t⟩ out)) r) : ∀ i : Nat, i ≤ out.length → (∀ y ∈ out.take i, leP ⟨p, b, t⟩ y = true) → Ev (fun k => spec_MovedItems.l1 k fr tu (j : Int) (i : Int) xs out p b t) r
  | i, hi, ha => by
    refine Ev.step (spec_MovedItems.l1.eq_2 _ _ _ _ _ _ _ _ _) ?_
    by_cases h : i < out.length
    · refine ev_pos (by omega) (ev_pos (by omega) ?_)
      rw [rd_itemI out i h]
      by_cases hl : Op.bytesLess p.toList out[i].f0.toList = true
      · have ht := tw_take (leP ⟨p, b, t⟩) out i ha (fun _ => by show (!(Op.bytesLess p.toList out[i].f0.toList)) = false; rw [hl]; rfl)
        refine ev_pos hl ?_
        refine Ev.bind (ev_now rfl) (ev_pos (by omega) (Ev.bind (ev_now rfl) (ev_pos (by simp; omega) (Ev.bind (ev_now rfl) (Ev.bind (ev_now rfl) (ev_pos (by simp; omega) (Ev.bind (ev_now rfl) (Ev.bind (ev_now rfl) (ev_pos (by simp; omega) ?_)))))))))
        rw [w64s j (by omega), Int.toNat_natCast, List.nil_append]
        unfold insM at hr
        rw [ht.1, ht.2] at hr
        exact hr
      · refine ev_neg hl ?_
        rw [w64s i (by omega)]
        refine sMv_l1 fr tu xs j p b t out r hn hj hr (i + 1) (by omega) (fun y hy => ?_)
        rw [List.take_succ_eq_append_getElem h, List.mem_append, List.mem_singleton] at hy
        rcases hy with hy | rfl
        · exact ha y hy
        · show (!(Op.bytesLess p.toList out[i].f0.toList)) = true
          rw [Bool.not_eq_true] at hl
          rw [hl]; rfl
    · have ht := tw_take (leP ⟨p, b, t⟩) out i ha (fun h' => absurd h' h)
      refine ev_neg (by omega) ?_
      refine Ev.bind (ev_now rfl) (ev_pos (by omega) (ev_pos (by omega) (Ev.bind (ev_now rfl) (ev_pos (by simp; omega) (Ev.bind (ev_now rfl) (Ev.bind (ev_now rfl) (ev_pos (by simp; omega) (Ev.bind (ev_now rfl) (Ev.bind (ev_now rfl) (ev_pos (by simp; omega) ?_))))))))))
      rw [w64s j (by omega), Int.toNat_natCast, List.nil_append]
      unfold insM at hr
      rw [ht.1, ht.2] at hr
      exact hr
  termination_by i => out.length - i
theorem sMv_l0 (fr tu : ByteArray) (xs : List S44) (hn : xs.length ≤ 400000) (ht : tu.size ≤ 4000000) (hs : ∀ y ∈ xs, y.f0.size ≤ 4000000) : ∀ (j : Nat) (out : List S44), j ≤ xs.length → out.length ≤ j → Ev (fun k => spec_MovedItems.l0 k fr tu (j : Int) xs out) (mvL fr tu (xs.drop j) out)
  | j, out, hj, ho => by
    refine Ev.step (spec_MovedItems.l0.eq_2 _ _ _ _ _) ?_
    by_cases h : j < xs.length
    · have hm := hs _ (List.getElem_mem h)
      rw [drop_at xs j h]
      have ih := sMv_l0 fr tu xs hn ht hs (j + 1) (insM (mvX fr tu xs[j]) out) (by omega) (by rw [insM_len]; omega)
      have j2 : ∀ (p : ByteArray) (b : Bool) (t : ByteArray), (⟨p, b, t⟩ : S44) = mvX fr tu xs[j] → Ev (fun k => spec_MovedItems.j2 k fr tu (j : Int) xs out p b t) (mvL fr tu (xs[j] :: xs.drop (j + 1)) out) := by
        intro p b t e
        refine Ev.step (spec_MovedItems.j2.eq_2 _ _ _ _ _ _ _ _) ?_
        refine sMv_l1 fr tu xs j p b t out _ (by omega) (by omega) ?_ 0 (by omega) (by simp)
        rw [e]; exact ih
      have j1 : ∀ z : Bool, (z = true ↔ (xs[j].f0.toList = fr.toList ∨ undP xs[j].f0 fr = true)) → Ev (fun k => spec_MovedItems.j1 k fr tu (j : Int) z xs out xs[j].f0 xs[j].f1 xs[j].f2) (mvL fr tu (xs[j] :: xs.drop (j + 1)) out) := by
        intro z hz
        refine Ev.step (spec_MovedItems.j1.eq_2 _ _ _ _ _ _ _ _ _) ?_
        by_cases c : z = true
        · have hc := hz.1 c
          have hl : fr.size ≤ xs[j].f0.size := by
            rcases hc with hc | hc
            · rw [toList_inj hc]; exact Nat.le_refl _
            · exact und_size _ _ hc
          refine ev_pos c (ev_pos (by omega) (ev_pos (by omega) ?_))
          rw [Int.toNat_natCast]
          refine ev_pos (by rw [ByteArray.size_extract]; omega) (j2 _ _ _ ?_)
          unfold mvX
          rw [if_pos hc]
        · refine ev_neg c (j2 _ _ _ ?_)
          unfold mvX
          rw [if_neg (fun hh => c (hz.2 hh))]
      refine ev_pos (by omega) (ev_pos (by omega) ?_)
      rw [rd_itemI xs j h]
      by_cases he : xs[j].f0.toList = fr.toList
      · exact ev_pos he (j1 true ⟨fun _ => .inl he, fun _ => rfl⟩)
      · exact ev_neg he (Ev.bind (sUnd_ev _ _) (j1 _ ⟨fun hh => .inr hh, fun hh => hh.resolve_left he⟩))
    · refine ev_neg (by omega) (ev_now ?_)
      rw [List.drop_of_length_le (by omega)]; rfl
  termination_by j => xs.length - j
theorem sMv_ev (fr tu : ByteArray) (xs : List S44) (hn : xs.length ≤ 400000) (ht : tu.size ≤ 4000000) (hs : ∀ y ∈ xs, y.f0.size ≤ 4000000) : Ev (fun k => spec_MovedItems.f k xs fr tu) (mvL fr tu xs []) := by
  unfold spec_MovedItems.f
  exact sMv_l0 fr tu xs hn ht hs 0 [] (by omega) (by simp)
/-- A view's items: so many, and their texts so long. -/
def vB (n s : Nat) (xs : List S44) : Prop := xs.length ≤ n ∧ ∀ y ∈ xs, y.f0.size ≤ s ∧ y.f2.size ≤ s
theorem vB_mono {n s m z : Nat} {xs : List S44} (h : vB n s xs) (h1 : n ≤ m) (h2 : s ≤ z) : vB m z xs := ⟨by have := h.1; omega, fun y hy => by have := h.2 y hy; omega⟩
theorem mvX_size (fr tu : ByteArray) (x : S44) : (mvX fr tu x).f0.size ≤ tu.size + x.f0.size ∧ (mvX fr tu x).f2 = x.f2 := by
  unfold mvX
  split
  · refine ⟨?_, rfl⟩
    show (tu ++ x.f0.extract fr.size x.f0.size).size ≤ _
    rw [ByteArray.size_append, ByteArray.size_extract]; omega
  · exact ⟨by omega, rfl⟩
theorem mvL_B (fr tu : ByteArray) (s : Nat) : ∀ (xs out : List S44), (∀ y ∈ xs, y.f0.size ≤ s ∧ y.f2.size ≤ s) → (∀ y ∈ out, y.f0.size ≤ s + tu.size ∧ y.f2.size ≤ s + tu.size) → (mvL fr tu xs out).length = xs.length + out.length ∧ ∀ y ∈ mvL fr tu xs out, y.f0.size ≤ s + tu.size ∧ y.f2.size ≤ s + tu.size
  | [], out, _, ho => ⟨by simp [mvL], ho⟩
  | x :: r, out, hx, ho => by
    unfold mvL
    have hz := mvX_size fr tu x
    have hq := hx x (by simp)
    have ih := mvL_B fr tu s r (insM (mvX fr tu x) out) (fun y hy => hx y (by simp [hy])) (fun y hy => by
      rcases (insM_mem _ _ _).1 hy with rfl | hy
      · rw [hz.2]; omega
      · exact ho y hy)
    exact ⟨by rw [ih.1, insM_len, List.length_cons]; omega, ih.2⟩

/-! ### idxlt -/
theorem idxF_lt {α : Type} (p : α → α → Bool) (z : α) : ∀ (xs : List α) (i : Nat), 0 ≤ Lib.idxByFrom p z xs i → Lib.idxByFrom p z xs i < ((i + xs.length : Nat) : Int)
  | [], i, h => by simp [Lib.idxByFrom] at h
  | x :: r, i, h => by
    unfold Lib.idxByFrom at h ⊢
    by_cases hp : p z x = true
    · rw [if_pos hp]; simp; omega
    · rw [if_neg hp] at h ⊢
      have := idxF_lt p z r (i + 1) h
      simp at this ⊢; omega
theorem idx_lt {α : Type} (p : α → α → Bool) (z : α) (xs : List α) (h : ¬ Lib.idxBy p xs z < 0) : 0 ≤ Lib.idxBy p xs z ∧ Lib.idxBy p xs z < (xs.length : Int) := by
  have h0 : 0 ≤ Lib.idxBy p xs z := by omega
  refine ⟨h0, ?_⟩
  have := idxF_lt p z xs 0 h0
  rw [Nat.zero_add] at this
  exact this

/-! ### itemat -/
def itP (p : ByteArray) : S44 → S44 → Bool := fun _ y => y.f0.toList == p.toList
theorem sItemAt_l (xs : List S44) (p : ByteArray) (hn : xs.length ≤ 4000000) : ∀ i : Nat, i ≤ xs.length → Ev (fun k => spec_ItemAt.l0 k p i xs) (Lib.idxByFrom (itP p) z44 (xs.drop i) i)
  | i, hi => by
    refine Ev.step (spec_ItemAt.l0.eq_2 _ _ _) ?_
    by_cases h : i < xs.length
    · refine ev_pos (by omega) (ev_pos (by omega) ?_)
      rw [rd_itemI xs i h, w64s i (by omega), drop_at xs i h]
      by_cases he : (xs[i].f0).toList = p.toList
      · exact ev_pos he (ev_now (by simp [Lib.idxByFrom, itP, he]))
      · refine ev_neg he (ev_to (sItemAt_l xs p hn (i + 1) (by omega)) ?_)
        simp [Lib.idxByFrom, itP, he]
    · refine ev_neg (by omega) (ev_now ?_)
      rw [List.drop_of_length_le (by omega)]; rfl
  termination_by i => xs.length - i
theorem sItemAt_ev (xs : List S44) (p : ByteArray) (hn : xs.length ≤ 4000000) : Ev (fun k => spec_ItemAt.f k xs p) (Lib.idxBy (itP p) xs z44) := by
  unfold spec_ItemAt.f
  have := sItemAt_l xs p hn 0 (by omega)
  rw [List.drop_zero] at this
  exact this
theorem iItemAt_eq (xs : List S44) (p : ByteArray) (hn : xs.length ≤ 4000000) : impl_ItemAt.f xs p = some (Lib.idxBy (itP p) xs z44) := by
  unfold impl_ItemAt.f
  first
    | (rw [if_pos (by omega)]; rfl)
    | (unfold slices_IndexFunc_Item_g60.f; rw [if_pos (by omega)]; rfl)

/-! ### parentof -/
def parP (a : ByteArray) : ByteArray := if (spP a).2 = 0 then (if (spP a).1 = [] then ⟨#[]⟩ else jp ((spP a).1.take ((spP a).1.length - 1))) else ⟨#[]⟩
theorem par_bound (a : ByteArray) (n : Nat) : ((spP a).1.take n).length + sumBy (fun b : ByteArray => b.size) ((spP a).1.take n) ≤ 100000000000000 := by
  have h1 := spP_sum a
  have h2 := sumBy_le_append (fun b : ByteArray => b.size) (spP a).1 n
  have h3 : ((spP a).1.take n).length ≤ (spP a).1.length := by rw [List.length_take]; omega
  omega
theorem par_at (a : ByteArray) (J : Nat → List ByteArray → Option ByteArray) (hJ : ∀ n, Ev (fun k => J k ((spP a).1.take n)) (jp ((spP a).1.take n))) :
    Ev (fun k => if ((spP a).1.length : Int) = 0 then some (⟨#[]⟩ : ByteArray) else if 0 ≤ wrap64 (((spP a).1.length : Int) - 1) then (if wrap64 (((spP a).1.length : Int) - 1) ≤ ((spP a).1.length : Int) then (J k ((spP a).1.take (wrap64 (((spP a).1.length : Int) - 1)).toNat)).bind fun t => some t else none) else none) (if (spP a).1 = [] then ⟨#[]⟩ else jp ((spP a).1.take ((spP a).1.length - 1))) := by
  have hn := spP_len a
  by_cases h : (spP a).1 = []
  · exact ev_pos (by rw [h]; rfl) (ev_now (if_pos h).symm)
  · have hp := List.length_pos_iff.2 h
    refine ev_neg (by omega) ?_
    rw [w64 (by omega) (by omega)]
    refine ev_pos (by omega) (ev_pos (by omega) ?_)
    rw [show (((spP a).1.length : Int) - 1).toNat = (spP a).1.length - 1 by omega]
    exact Ev.bind (hJ _) (ev_now (if_neg h).symm)
theorem sParent_ev (a : ByteArray) : Ev (fun k => spec_ParentOf.f k a) (parP a) := by
  unfold spec_ParentOf.f parP
  refine Ev.bind (sSplit_ev a) ?_
  by_cases h : (spP a).2 = 0
  · exact ev_pos h (ev_to (par_at a (fun k xs => spec_JoinPath.f k xs) (fun n => sJoin_ev _ (par_bound a n))) (if_pos h).symm)
  · exact ev_neg h (ev_now (if_neg h).symm)

/-! ### lookup -/
theorem sp_sizes (a : ByteArray) (h : (spP a).2 = 0) : ∀ x ∈ (spP a).1, x.data.toList ≠ [] := by
  intro x hx
  obtain ⟨_, ⟨_, h1⟩ | ⟨t, ht, h0, hb, he, hl, hs⟩⟩ := spP_ok a h
  · rw [h1] at hx; cases hx
  · rw [hs] at hx
    obtain ⟨p, hp, rfl⟩ := List.mem_map.1 hx
    rw [mkB_list]
    intro hc
    subst hc
    have : emp (sp47 t) = true := by unfold emp; exact List.any_eq_true.2 ⟨[], hp, rfl⟩
    rw [this] at he; cases he
theorem jp_root (a : ByteArray) (h : (spP a).2 = 0) (n : Nat) (h1 : 1 ≤ n) (h2 : n ≤ (spP a).1.length) : (jp ((spP a).1.take n)).toList ≠ ([47] : List UInt8) := by
  have hs := sp_sizes a h
  rw [b_toList]
  revert hs h2
  generalize (spP a).1 = ps
  intro h2 hs
  match ps, n, h1, h2 with
  | [], n + 1, _, h2 => simp at h2
  | x :: r, n + 1, _, _ =>
    rw [List.take_succ_cons]
    unfold jp
    rw [if_neg (by simp), b_mk]
    unfold jn
    intro hc
    have := hs x (by simp)
    simp at hc
    exact this (by simpa using hc.1)
/-- Whether a path is a folder of the view. -/
def dirV (xs : List S44) (p : ByteArray) : Bool := if p.toList = ([47] : List UInt8) then true else if Lib.idxBy (itP p) xs z44 ≥ 0 then (rd_T44 xs (Lib.idxBy (itP p) xs z44)).f1 else false
theorem sDir_ev (xs : List S44) (p : ByteArray) (hn : xs.length ≤ 4000000) : Ev (fun k => spec_l17Dir.f k xs p) (dirV xs p) := by
  unfold spec_l17Dir.f dirV
  by_cases h : p.toList = ([47] : List UInt8)
  · exact ev_pos h (ev_now (if_pos h).symm)
  · rw [if_neg h]
    refine ev_neg h (Ev.bind (sItemAt_ev xs p hn) ?_)
    by_cases hc : Lib.idxBy (itP p) xs z44 ≥ 0
    · have := idx_lt (itP p) z44 xs (by omega)
      exact ev_pos hc (ev_pos this.1 (ev_pos this.2 (ev_now (if_pos hc).symm)))
    · exact ev_neg hc (ev_now (if_neg hc).symm)

theorem sp_pos (a : ByteArray) (h0 : (spP a).2 = 0) (hr : a.toList ≠ ([47] : List UInt8)) : 1 ≤ (spP a).1.length := by
  obtain ⟨_, ⟨h, _⟩ | ⟨t, ht, _, hb, he, hl, hs⟩⟩ := spP_ok a h0
  · exact absurd (by rw [b_toList]; exact h) hr
  · rw [hs, List.length_map]
    exact List.length_pos_iff.2 (sp47_ne t)

/-! ### lookupl -/
def lkL (xs : List S44) (ps : List ByteArray) : Nat → Nat → Int
  | 0, _ => 3
  | f + 1, i => if Lib.idxBy (itP (jp (ps.take i))) xs z44 < 0 then 3 else if (rd_T44 xs (Lib.idxBy (itP (jp (ps.take i))) xs z44)).f1 = true then lkL xs ps f (i + 1) else 4
def lkV (xs : List S44) (a : ByteArray) : Int := if a.toList = ([47] : List UInt8) then 0 else if Lib.idxBy (itP a) xs z44 ≥ 0 then 0 else if (spP a).2 = 0 then lkL xs (spP a).1 ((spP a).1.length - 1) 1 else (spP a).2
theorem sLook_l (xs : List S44) (hx : xs.length ≤ 4000000) (a : ByteArray) (h0 : (spP a).2 = 0) : ∀ (f i : Nat), 1 ≤ i → i + f = (spP a).1.length → Ev (fun k => spec_LookUp.l0 k (spP a).1 (i : Int) xs) (lkL xs (spP a).1 f i)
  | f, i, h1, hf => by
    have hp := spP_len a
    refine Ev.step (spec_LookUp.l0.eq_2 _ _ _) ?_
    cases f with
    | zero => exact ev_neg (by omega) (ev_now rfl)
    | succ f =>
      refine ev_pos (by omega) (ev_pos (by omega) (ev_pos (by omega) ?_))
      rw [Int.toNat_natCast]
      refine Ev.bind (sJoin_ev _ (par_bound a i)) (Ev.bind (sItemAt_ev xs _ hx) ?_)
      unfold lkL
      by_cases hc : Lib.idxBy (itP (jp ((spP a).1.take i))) xs z44 < 0
      · rw [if_pos hc]; exact ev_pos hc (ev_now rfl)
      · rw [if_neg hc]
        refine ev_neg hc (Ev.bind (sDir_ev xs _ hx) ?_)
        unfold dirV
        rw [if_neg (jp_root a h0 i h1 (by omega)), if_pos (show Lib.idxBy (itP (jp ((spP a).1.take i))) xs z44 ≥ 0 by omega)]
        by_cases hd : (rd_T44 xs (Lib.idxBy (itP (jp ((spP a).1.take i))) xs z44)).f1 = true
        · rw [w64s i (by omega)]
          exact ev_pos hd (ev_to (sLook_l xs hx a h0 f (i + 1) (by omega) (by omega)) (if_pos hd).symm)
        · exact ev_neg hd (ev_now (if_neg hd).symm)
theorem sLook_ev (xs : List S44) (hx : xs.length ≤ 4000000) (a : ByteArray) : Ev (fun k => spec_LookUp.f k xs a) (lkV xs a) := by
  unfold spec_LookUp.f lkV
  refine Ev.bind (sSplit_ev a) ?_
  by_cases h : a.toList = ([47] : List UInt8)
  · rw [if_pos h]
    refine ev_pos h ?_
    refine Ev.step (spec_LookUp.j0.eq_2 _ _ _ _) ?_
    exact ev_pos rfl (ev_now rfl)
  · rw [if_neg h]
    refine ev_neg h (Ev.bind (sItemAt_ev xs a hx) ?_)
    refine Ev.step (spec_LookUp.j0.eq_2 _ _ _ _) ?_
    by_cases hc : Lib.idxBy (itP a) xs z44 ≥ 0
    · rw [if_pos hc]; exact ev_pos (decide_eq_true hc) (ev_now rfl)
    · rw [if_neg hc]
      refine ev_neg (by simpa using hc) ?_
      by_cases h0 : (spP a).2 = 0
      · rw [if_pos h0]
        have := sp_pos a h0 h
        exact ev_pos h0 (sLook_l xs hx a h0 _ 1 (by omega) (by omega))
      · rw [if_neg h0]; exact ev_neg h0 (ev_now rfl)
/-! ### lastof -/
def lastP (a : ByteArray) : ByteArray := if (spP a).2 = 0 then (spP a).1.getLastD ⟨#[]⟩ else ⟨#[]⟩
theorem last_at (xs : List ByteArray) (hn : xs.length ≤ 1000) : Ev (fun _ : Nat => if (xs.length : Int) = 0 then some (⟨#[]⟩ : ByteArray) else if 0 ≤ wrap64 ((xs.length : Int) - 1) then (if wrap64 ((xs.length : Int) - 1) < (xs.length : Int) then some (rdOf ByteArray.empty xs (wrap64 ((xs.length : Int) - 1))) else none) else none) (xs.getLastD ⟨#[]⟩) := by
  by_cases h : xs.length = 0
  · refine ev_pos (by omega) (ev_now ?_)
    rw [List.eq_nil_of_length_eq_zero h]; rfl
  · refine ev_neg (by omega) ?_
    rw [w64 (by omega) (by omega)]
    refine ev_pos (by omega) (ev_pos (by omega) (ev_now ?_))
    rw [show (xs.length : Int) - 1 = ((xs.length - 1 : Nat) : Int) by omega, rdOf_at _ xs (xs.length - 1) (by omega)]
    rw [List.getLastD_eq_getLast?, List.getLast?_eq_getElem?, List.getElem?_eq_getElem (by omega)]; rfl
theorem sLast_ev (a : ByteArray) : Ev (fun k => spec_LastOf.f k a) (lastP a) := by
  unfold spec_LastOf.f lastP
  refine Ev.bind (sSplit_ev a) ?_
  by_cases h : (spP a).2 = 0
  · exact ev_pos h (ev_to (last_at _ (spP_len a)) (if_pos h).symm)
  · exact ev_neg h (ev_now (if_neg h).symm)

/-! ### kids -/
def kidF (xs : List S44) (a : ByteArray) : List ByteArray := (xs.filter (fun y => (parP y.f0).toList == a.toList)).map (fun y => lastP y.f0)
def kidV (xs : List S44) (a : ByteArray) : List ByteArray := if a.toList = ([] : List UInt8) then [] else kidF xs a
theorem kidF_len (xs : List S44) (a : ByteArray) : (kidF xs a).length ≤ xs.length := by unfold kidF; rw [List.length_map]; exact List.length_filter_le _ _
theorem kidV_len (xs : List S44) (a : ByteArray) : (kidV xs a).length ≤ xs.length := by
  unfold kidV; split
  · simp
  · exact kidF_len xs a
theorem sKids_l (xs : List S44) (hn : xs.length ≤ 4000000) (a : ByteArray) : ∀ (i : Nat) (out : List ByteArray), i ≤ xs.length → out.length ≤ i → Ev (fun k => spec_KidsOf.l0 k a out (i : Int) xs) (out ++ kidV (xs.drop i) a)
  | i, out, hi, ho => by
    refine Ev.step (spec_KidsOf.l0.eq_2 _ _ _ _) ?_
    by_cases h : i < xs.length
    · refine ev_pos (by omega) (ev_pos (by omega) ?_)
      rw [rd_itemI xs i h, w64s i (by omega), drop_at xs i h]
      refine Ev.bind (sParent_ev _) ?_
      have ih := fun o ho2 => sKids_l xs hn a (i + 1) o (by omega) ho2
      unfold kidV at ih ⊢
      by_cases he : (parP xs[i].f0).toList = a.toList
      · refine ev_pos he ?_
        by_cases hz : a.toList = ([] : List UInt8)
        · refine ev_pos hz (ev_to (ih out (by omega)) ?_)
          rw [if_pos hz, if_pos hz]
        · refine ev_neg hz (Ev.bind (sLast_ev _) (ev_pos (by omega) (ev_to (ih _ (by simp; omega)) ?_)))
          rw [if_neg hz, if_neg hz]
          unfold kidF
          rw [List.filter_cons_of_pos (by simpa using he)]; simp
      · refine ev_neg he (ev_to (ih out (by omega)) ?_)
        congr 1
        by_cases hz : a.toList = ([] : List UInt8)
        · rw [if_pos hz, if_pos hz]
        · rw [if_neg hz, if_neg hz]
          unfold kidF
          rw [List.filter_cons_of_neg (by simpa using he)]
    · refine ev_neg (by omega) (ev_now ?_)
      rw [List.drop_of_length_le (by omega)]
      simp [kidV, kidF]
  termination_by i => xs.length - i
theorem sKids_ev (xs : List S44) (hn : xs.length ≤ 4000000) (a : ByteArray) : Ev (fun k => spec_KidsOf.f k xs a) (kidV xs a) := by
  unfold spec_KidsOf.f
  exact ev_to (sKids_l xs hn a 0 [] (by omega) (by simp)) (by simp)
/-! ### dirin -/
theorem jp_size (ps : List ByteArray) (h : ps.length + sumBy (fun s : ByteArray => s.size) ps ≤ 100000000000000) : (jp ps).size ≤ 140737488351232 := by
  unfold jp
  split
  · show (1 : Nat) ≤ _; omega
  · rw [b_size, jn_len]; omega
theorem par_size (a : ByteArray) : (parP a).size ≤ 140737488351232 := by
  unfold parP
  split
  · split
    · show (0 : Nat) ≤ _; omega
    · exact jp_size _ (par_bound a _)
  · show (0 : Nat) ≤ _; omega

/-! ### placefor -/
def placeV (xs : List S44) (a : ByteArray) : Int := if (spP a).2 = 0 then (if a.toList = ([47] : List UInt8) then 6 else if lkV xs (parP a) = 0 then (if dirV xs (parP a) = true then (if Lib.idxBy (itP a) xs z44 ≥ 0 then 6 else if ((kidV xs (parP a)).length : Int) ≥ 6 then 7 else 0) else 4) else lkV xs (parP a)) else (spP a).2
theorem place_at (xs : List S44) (a : ByteArray) (P : Nat → Option ByteArray) (L : Nat → ByteArray → Option Int) (D : Nat → ByteArray → Option Bool) (I : Nat → Option Int) (K : Nat → ByteArray → Option (List ByteArray)) (hP : Ev P (parP a)) (hL : Ev (fun k => L k (parP a)) (lkV xs (parP a))) (hD : Ev (fun k => D k (parP a)) (dirV xs (parP a))) (hI : Ev I (Lib.idxBy (itP a) xs z44)) (hK : Ev (fun k => K k (parP a)) (kidV xs (parP a))) :
    Ev (fun k => if (spP a).2 = 0 then (if a.toList = ([47] : List UInt8) then (some (6 : Int)) else ((P k).bind fun t194 => ((L k t194).bind fun t195 => (if t195 = (0 : Int) then ((D k t194).bind fun t196 => (if t196 = true then ((I k).bind fun t197 => (if t197 ≥ (0 : Int) then (some 6) else ((K k t194).bind fun t198 => (if ((t198 : List ByteArray).length : Int) ≥ 6 then (some 7) else (some 0))))) else (some 4))) else (some t195))))) else (some (spP a).2)) (placeV xs a) := by
  unfold placeV
  by_cases h0 : (spP a).2 = 0
  · rw [if_pos h0]
    refine ev_pos h0 ?_
    by_cases h1 : a.toList = ([47] : List UInt8)
    · rw [if_pos h1]; exact ev_pos h1 (ev_now rfl)
    · rw [if_neg h1]
      refine ev_neg h1 (Ev.bind hP (Ev.bind hL ?_))
      by_cases h2 : lkV xs (parP a) = 0
      · rw [if_pos h2]
        refine ev_pos h2 (Ev.bind hD ?_)
        by_cases h3 : dirV xs (parP a) = true
        · rw [if_pos h3]
          refine ev_pos h3 (Ev.bind hI ?_)
          by_cases h4 : Lib.idxBy (itP a) xs z44 ≥ 0
          · rw [if_pos h4]; exact ev_pos h4 (ev_now rfl)
          · rw [if_neg h4]
            refine ev_neg h4 (Ev.bind hK ?_)
            by_cases h5 : ((kidV xs (parP a)).length : Int) ≥ 6
            · exact ev_to (ev_pos h5 (ev_now rfl)) (if_pos h5).symm
            · exact ev_to (ev_neg h5 (ev_now rfl)) (if_neg h5).symm
        · rw [if_neg h3]; exact ev_neg h3 (ev_now rfl)
      · rw [if_neg h2]; exact ev_neg h2 (ev_now rfl)
  · rw [if_neg h0]; exact ev_neg h0 (ev_now rfl)
theorem sPlace_ev (xs : List S44) (hx : xs.length ≤ 4000000) (a : ByteArray) : Ev (fun k => spec_PlaceFor.f k xs a) (placeV xs a) := by
  unfold spec_PlaceFor.f
  refine Ev.bind (sSplit_ev a) ?_
  exact place_at xs a (fun k => spec_ParentOf.f k a) (fun k t => spec_LookUp.f k xs t) (fun k t => spec_l17Dir.f k xs t) (fun k => spec_ItemAt.f k xs a) (fun k t => spec_KidsOf.f k xs t) (sParent_ev a) (sLook_ev xs hx _) (sDir_ev xs _ hx) (sItemAt_ev xs a hx) (sKids_ev xs hx _)
/-! ### dropitem -/
def dropL (p : ByteArray) (xs : List S44) : List S44 := xs.filter (fun y => !(y.f0.toList == p.toList))
theorem sDrop_l (p : ByteArray) (xs : List S44) (hn : xs.length ≤ 1048577) : ∀ (i : Nat) (out : List S44), i ≤ xs.length → out.length ≤ i → Ev (fun k => spec_DropItem.l0 k p i xs out) (out ++ dropL p (xs.drop i))
  | i, out, hi, ho => by
    refine Ev.step (spec_DropItem.l0.eq_2 _ _ _ _) ?_
    by_cases h : i < xs.length
    · refine ev_pos (by omega) (ev_pos (by omega) ?_)
      rw [rd_itemI xs i h, w64s i (by omega), drop_at xs i h]
      unfold dropL
      by_cases he : xs[i].f0.toList = p.toList
      · refine ev_pos he (ev_to (sDrop_l p xs hn (i + 1) out (by omega) (by omega)) ?_)
        rw [List.filter_cons, he]; simp [dropL]
      · refine ev_neg he (ev_pos (by omega) (ev_to (sDrop_l p xs hn (i + 1) (out ++ [xs[i]]) (by omega) (by simp; omega)) ?_))
        rw [List.filter_cons, beq_false_of_ne he]; simp [dropL]
    · refine ev_neg (by omega) (ev_now ?_)
      rw [List.drop_of_length_le (by omega)]; simp [dropL]
  termination_by i => xs.length - i
theorem sDrop_ev (p : ByteArray) (xs : List S44) (hn : xs.length ≤ 1048577) : Ev (fun k => spec_DropItem.f k xs p) (dropL p xs) := by
  unfold spec_DropItem.f
  exact ev_to (sDrop_l p xs hn 0 [] (by omega) (by simp)) (by rw [List.drop_zero, List.nil_append])

theorem iDrop_eq (p : ByteArray) (xs : List S44) (hn : xs.length ≤ 1048577) : impl_DropItem.f xs p = some (dropL p xs) := by
  unfold impl_DropItem.f slices_Clone_Item.f
  rw [if_pos (by omega), Option.bind_some]
  unfold slices_DeleteFunc_Item_g59.f
  rw [if_pos (by omega), Option.bind_some]
  rfl
theorem dropL_len (p : ByteArray) (xs : List S44) : (dropL p xs).length ≤ xs.length := List.length_filter_le _ _

/-! ### blput -/
theorem bl_irr (x : List UInt8) : Op.bytesLess x x = false := by
  have h := bl_leq x x
  cases hb : Op.bytesLess x x with
  | false => rfl
  | true => rw [hb] at h; simp at h
theorem bl_tot {x y : List UInt8} (h : ¬ y = x) : Op.bytesLess y x = !Op.bytesLess x y := by
  have e := bl_leq y x
  rw [beq_false_of_ne h, Bool.or_false] at e
  exact e
theorem ix_put {α : Type} (p : α → Bool) (z : α) : ∀ (l : List α) (i : Nat), (Lib.idxByFrom (fun _ y => p y) z l i = -1 ∧ l.takeWhile (fun y => !p y) = l ∧ l.dropWhile (fun y => !p y) = []) ∨ (Lib.idxByFrom (fun _ y => p y) z l i = ((i + (l.takeWhile (fun y => !p y)).length : Nat) : Int))
  | [], i => .inl ⟨rfl, rfl, rfl⟩
  | y :: r, i => by
    cases h : p y with
    | true => exact .inr (by simp [Lib.idxByFrom, h])
    | false =>
      have e0 : Lib.idxByFrom (fun _ y => p y) z (y :: r) i = Lib.idxByFrom (fun _ y => p y) z r (i + 1) := by simp [Lib.idxByFrom, h]
      rcases ix_put p z r (i + 1) with ⟨e, h1, h2⟩ | e
      · exact .inl ⟨by rw [e0, e], by rw [List.takeWhile_cons]; simp [h, h1], by rw [List.dropWhile_cons]; simp [h, h2]⟩
      · refine .inr ?_
        rw [e0, e, List.takeWhile_cons]
        simp [h]
        omega
theorem take_tw {α : Type} (q : α → Bool) : ∀ l : List α, l.take (l.takeWhile q).length = l.takeWhile q ∧ l.drop (l.takeWhile q).length = l.dropWhile q
  | [] => ⟨rfl, rfl⟩
  | y :: r => by
    rw [List.takeWhile_cons, List.dropWhile_cons]
    cases h : q y with
    | true => simp [take_tw q r]
    | false => simp

/-! ### putitem -/
def insL (x : S44) (d : List S44) : List S44 := d.takeWhile (fun y => Op.bytesLess y.f0.toList x.f0.toList) ++ [x] ++ d.dropWhile (fun y => Op.bytesLess y.f0.toList x.f0.toList)
def putL (x : S44) (xs : List S44) : List S44 := insL x (dropL x.f0 xs)
theorem putL_len (x : S44) (xs : List S44) : (putL x xs).length ≤ xs.length + 1 := by
  have h := dropL_len x.f0 xs
  have e := congrArg List.length (List.takeWhile_append_dropWhile (p := fun y : S44 => Op.bytesLess y.f0.toList x.f0.toList) (l := dropL x.f0 xs))
  rw [List.length_append] at e
  unfold putL insL
  simp only [List.length_append, List.length_singleton]
  omega
theorem putL_eq (x y : S44) (r : List S44) (h : y.f0.toList = x.f0.toList) : putL x (y :: r) = putL x r := by
  unfold putL dropL
  rw [List.filter_cons, h]; simp
theorem putL_gt (x y : S44) (r : List S44) (h : ¬ y.f0.toList = x.f0.toList) (hl : Op.bytesLess x.f0.toList y.f0.toList = true) : putL x (y :: r) = x :: y :: dropL x.f0 r := by
  have h2 := bl_tot h
  rw [hl] at h2
  unfold putL insL dropL
  rw [List.filter_cons, beq_false_of_ne h]
  simp [h2]
theorem putL_lt (x y : S44) (r : List S44) (h : ¬ y.f0.toList = x.f0.toList) (hl : Op.bytesLess x.f0.toList y.f0.toList = false) : putL x (y :: r) = y :: putL x r := by
  have h2 := bl_tot h
  rw [hl] at h2
  unfold putL insL dropL
  rw [List.filter_cons, beq_false_of_ne h]
  simp [h2]
theorem sPut_t (p : ByteArray) (b : Bool) (t : ByteArray) (xs : List S44) (hn : xs.length ≤ 1048577) : ∀ (i : Nat) (out : List S44), i ≤ xs.length → out.length ≤ i + 1 → Ev (fun k => spec_PutItem.l0 k true i xs p b t out) (out ++ dropL p (xs.drop i))
  | i, out, hi, ho => by
    refine Ev.step (spec_PutItem.l0.eq_2 _ _ _ _ _ _ _) ?_
    by_cases h : i < xs.length
    · refine ev_pos (by omega) (ev_pos rfl ?_)
      refine Ev.step (spec_PutItem.j1.eq_2 _ _ _ _ _ _ _ _) ?_
      refine ev_neg (by simp) (ev_pos (by omega) (ev_pos (by omega) ?_))
      rw [rd_itemI xs i h, w64s i (by omega), drop_at xs i h]
      unfold dropL
      by_cases he : xs[i].f0.toList = p.toList
      · refine ev_pos he (ev_to (sPut_t p b t xs hn (i + 1) out (by omega) (by omega)) ?_)
        rw [List.filter_cons, he]; simp [dropL]
      · refine ev_neg he (ev_pos (by omega) (ev_to (sPut_t p b t xs hn (i + 1) (out ++ [xs[i]]) (by omega) (by simp; omega)) ?_))
        rw [List.filter_cons, beq_false_of_ne he]; simp [dropL]
    · refine ev_neg (by omega) (ev_pos rfl (ev_now ?_))
      rw [List.drop_of_length_le (by omega)]; simp [dropL]
  termination_by i => xs.length - i
theorem sPut_f (p : ByteArray) (b : Bool) (t : ByteArray) (xs : List S44) (hn : xs.length ≤ 1048577) : ∀ (i : Nat) (out : List S44), i ≤ xs.length → out.length ≤ i → Ev (fun k => spec_PutItem.l0 k false i xs p b t out) (out ++ putL ⟨p, b, t⟩ (xs.drop i))
  | i, out, hi, ho => by
    refine Ev.step (spec_PutItem.l0.eq_2 _ _ _ _ _ _ _) ?_
    by_cases h : i < xs.length
    · refine ev_pos (by omega) (ev_neg (by simp) (ev_pos (by omega) ?_))
      refine Ev.step (spec_PutItem.j1.eq_2 _ _ _ _ _ _ _ _) ?_
      rw [rd_itemI xs i h, w64s i (by omega), drop_at xs i h]
      cases hl : Op.bytesLess p.toList xs[i].f0.toList with
      | true =>
        refine ev_pos rfl (ev_pos (by omega) (Ev.bind (Ev.now _) (ev_pos (by omega) (ev_pos (by omega) ?_))))
        by_cases he : xs[i].f0.toList = p.toList
        · rw [he, bl_irr] at hl; cases hl
        · refine ev_neg he (ev_pos (by simp; omega) (ev_to (sPut_t p b t xs hn (i + 1) _ (by omega) (by simp; omega)) ?_))
          rw [putL_gt ⟨p, b, t⟩ xs[i] _ he hl]
          simp
      | false =>
        refine ev_neg (by simp) (ev_pos (by omega) (ev_pos (by omega) ?_))
        by_cases he : xs[i].f0.toList = p.toList
        · refine ev_pos he (ev_to (sPut_f p b t xs hn (i + 1) out (by omega) (by omega)) ?_)
          rw [putL_eq ⟨p, b, t⟩ xs[i] _ he]
        · refine ev_neg he (ev_pos (by omega) (ev_to (sPut_f p b t xs hn (i + 1) (out ++ [xs[i]]) (by omega) (by simp; omega)) ?_))
          rw [putL_lt ⟨p, b, t⟩ xs[i] _ he hl]
          simp
    · refine ev_neg (by omega) (ev_neg (by simp) (ev_pos (by omega) (ev_now ?_)))
      rw [List.drop_of_length_le (by omega)]; rfl
  termination_by i => xs.length - i
theorem sPut_ev (p : ByteArray) (b : Bool) (t : ByteArray) (xs : List S44) (hn : xs.length ≤ 1048577) : Ev (fun k => spec_PutItem.f k xs p b t) (putL ⟨p, b, t⟩ xs) := by
  unfold spec_PutItem.f
  exact ev_to (sPut_f p b t xs hn 0 [] (by omega) (by simp)) (by rw [List.drop_zero, List.nil_append])
theorem iPut_eq (p : ByteArray) (b : Bool) (t : ByteArray) (xs : List S44) (hn : xs.length ≤ 1048577) : impl_PutItem.f xs p b t = some (putL ⟨p, b, t⟩ xs) := by
  have hd := dropL_len p xs
  unfold impl_PutItem.f
  rw [iDrop_eq p xs hn, Option.bind_some]
  unfold slices_IndexFunc_Item_g55.f
  rw [if_pos (by omega), Option.bind_some]
  have hi : ∀ a : Int, 0 ≤ a ∧ a ≤ ((dropL p xs).length : Int) → slices_Insert_Item.f (dropL p xs) a [⟨p, b, t⟩] = some ((dropL p xs).take a.toNat ++ [⟨p, b, t⟩] ++ (dropL p xs).drop a.toNat) := fun a ha => by
    unfold slices_Insert_Item.f
    exact if_pos ⟨ha, rfl, by omega⟩
  have hq : (fun y : S44 => !(!Op.bytesLess y.f0.toList p.toList)) = fun y => Op.bytesLess y.f0.toList p.toList := by funext y; rw [Bool.not_not]
  have hx := ix_put (fun y : S44 => !Op.bytesLess y.f0.toList p.toList) z44 (dropL p xs) 0
  rw [hq] at hx
  have ht := take_tw (fun y : S44 => Op.bytesLess y.f0.toList p.toList) (dropL p xs)
  have hle : ((dropL p xs).takeWhile (fun y : S44 => Op.bytesLess y.f0.toList p.toList)).length ≤ (dropL p xs).length := List.Sublist.length_le (List.takeWhile_sublist _)
  rcases hx with ⟨e, h1, h2⟩ | e
  · rw [if_pos (by show Lib.idxByFrom _ _ _ 0 < 0; rw [show Lib.idxByFrom (fun _ y => clo55.p p b t y) z44 (dropL p xs) 0 = -1 from e]; omega), hi _ (by omega), Option.bind_some]
    unfold putL insL
    show some ((dropL p xs).take ((dropL p xs).length : Int).toNat ++ [⟨p, b, t⟩] ++ (dropL p xs).drop ((dropL p xs).length : Int).toNat) = some ((dropL p xs).takeWhile (fun y : S44 => Op.bytesLess y.f0.toList p.toList) ++ [⟨p, b, t⟩] ++ (dropL p xs).dropWhile (fun y : S44 => Op.bytesLess y.f0.toList p.toList))
    rw [h1, h2, Int.toNat_natCast, List.take_length, List.drop_length]
  · have e2 : Lib.idxBy (fun _ y => clo55.p p b t y) (dropL p xs) z44 = (((dropL p xs).takeWhile (fun y : S44 => Op.bytesLess y.f0.toList p.toList)).length : Int) := e.trans (by rw [Nat.zero_add])
    rw [e2, if_neg (by omega), hi _ (by omega), Option.bind_some, Int.toNat_natCast, ht.1, ht.2]
    rfl

/-! ### zerotext -/
theorem long_l (n : Nat) (hn : n ≤ 1048576) : ∀ (i : Nat) (ys : List Int), i ≤ n → ys.length = n → (∀ y ∈ ys, y = 0) → Ev (fun k => spec_l01Long.l0 k n 0 ys i) (strOfNums ys)
  | i, ys, hi, hl, hz => by
    refine Ev.step (spec_l01Long.l0.eq_2 _ _ _ _) ?_
    by_cases h : i < n
    · refine ev_pos (by omega) (ev_pos (by omega) (ev_pos (by omega) ?_))
      rw [w64s i (by omega), Int.toNat_natCast]
      have e : ys.set i 0 = ys := by
        apply List.ext_getElem (by simp)
        intro j h1 h2
        rw [List.getElem_set]
        split
        · exact (hz _ (List.getElem_mem h2)).symm
        · rfl
      rw [e]
      exact long_l n hn (i + 1) ys (by omega) hl hz
    · exact ev_neg (by omega) (ev_now rfl)
  termination_by i => n - i
theorem long_ev (n : Nat) (hn : n ≤ 1048576) : Ev (fun k => spec_l01Long.f k n 0) (zb n) := by
  unfold spec_l01Long.f
  refine ev_pos (by omega) (ev_pos (by omega) (ev_to (long_l n hn 0 _ (by omega) (by simp) (by simp)) ?_))
  simp [strOfNums, zb]
theorem zeroText_ev (n : Nat) (hn : n ≤ 20000) : Ev (fun k => spec_ZeroText.f k (n : Int)) (zb n) := by
  unfold spec_ZeroText.f
  exact Ev.bind (ev_eq (l01In_eq _ _ _)) (ev_pos (by simp; omega) (Ev.bind (long_ev n (by omega)) (ev_now rfl)))

/-! ### padded -/
/-! ### textwith -/
def lay (b : ByteArray) (off : Nat) (t : ByteArray) : ByteArray := ⟨(b.data.toList.take off ++ t.data.toList ++ b.data.toList.drop (off + t.size)).toArray⟩
def twOk (s : ByteArray) (off : Int) (t : ByteArray) : Prop := t.size ≠ 0 ∧ 0 ≤ off ∧ off + t.size ≤ 128 ∧ s.size ≤ 128
open Classical in
noncomputable def tw (s : ByteArray) (off : Int) (t : ByteArray) : ByteArray := if twOk s off t then lay (s ++ zb (off - s.size).toNat) off.toNat t else s
theorem nil_size (t : ByteArray) : t.toList = [] ↔ t.size = 0 := by
  rw [b_toList, ← b_len]
  exact ⟨fun h => by rw [h]; rfl, fun h => List.eq_nil_of_length_eq_zero h⟩
theorem lay_short (b : ByteArray) (off : Nat) (t : ByteArray) (h : b.size ≤ off + t.size) : b.extract 0 off ++ t = lay b off t := by
  apply b_inj
  unfold lay
  have hd : b.data.toList.drop (off + t.size) = [] := List.drop_of_length_le (by rw [b_len]; exact h)
  rw [b_app, b_cut, b_mk, hd]
  simp
theorem lay_long (b : ByteArray) (off : Nat) (t : ByteArray) : b.extract 0 off ++ t ++ b.extract (off + t.size) b.size = lay b off t := by
  apply b_inj
  unfold lay
  have hd : b.data.toList.take b.size = b.data.toList := List.take_of_length_le (by rw [b_len]; exact Nat.le_refl _)
  rw [b_app, b_app, b_cut, b_cut, b_mk, hd]
  simp
theorem tail_ev (b : ByteArray) (off : Int) (t : ByteArray) (h0 : 0 ≤ off) (h1 : off ≤ b.size) (h2 : off + t.size ≤ 128) (h3 : b.size ≤ 1000) : Ev (fun _ => if (wrap64 (off + (t.size : Int))) > (b.size : Int) then (if 0 ≤ off then (if off ≤ (b.size : Int) then ((some (b.extract 0 (off : Int).toNat : ByteArray)).bind fun y => (if y.size + t.size ≤ 9223372036854775807 then ((some (y ++ t : ByteArray)).bind fun z => (some z)) else (none))) else (none)) else (none)) else (if 0 ≤ off then (if off ≤ (b.size : Int) then ((some (b.extract 0 (off : Int).toNat : ByteArray)).bind fun y => (if y.size + t.size ≤ 9223372036854775807 then ((some (y ++ t : ByteArray)).bind fun z => (if 0 ≤ (wrap64 (off + (t.size : Int))) then (if (wrap64 (off + (t.size : Int))) ≤ (b.size : Int) then ((some (b.extract ((wrap64 (off + (t.size : Int))) : Int).toNat b.size : ByteArray)).bind fun u => (if z.size + u.size ≤ 9223372036854775807 then ((some (z ++ u : ByteArray)).bind fun v => (some v)) else (none))) else (none)) else (none))) else (none))) else (none)) else (none))) (lay b off.toNat t) := by
  rw [w64 (by omega) (by omega)]
  obtain ⟨o, rfl⟩ := Int.eq_ofNat_of_zero_le h0
  have e : ((o : Int) + (t.size : Int)).toNat = o + t.size := by omega
  rw [e, Int.toNat_natCast]
  have z1 : (b.extract 0 o).size ≤ 1000 := by rw [ByteArray.size_extract]; omega
  have z2 : (b.extract (o + t.size) b.size).size ≤ 1000 := by rw [ByteArray.size_extract]; omega
  by_cases h : (o : Int) + (t.size : Int) > (b.size : Int)
  · exact ev_pos h (ev_pos h0 (ev_pos h1 (Ev.bind (Ev.now _) (ev_pos (by omega) (Ev.bind (Ev.now _) (ev_now (lay_short b o t (by omega))))))))
  · refine ev_neg h (ev_pos h0 (ev_pos h1 (Ev.bind (Ev.now _) (ev_pos (by omega) (Ev.bind (Ev.now _) (ev_pos (by omega) (ev_pos (by omega) (Ev.bind (Ev.now _) (ev_pos ?_ (Ev.bind (Ev.now _) (ev_now (lay_long b o t))))))))))))
    rw [ByteArray.size_append]; omega
theorem sTextWith_ev (s : ByteArray) (off : Int) (t : ByteArray) (hs : s.size ≤ 4000000) (ht : t.size ≤ 4000000) (ho : (Lit.int .i64 off).wf = true) : Ev (fun k => spec_TextWith.f k s off t) (tw s off t) := by
  unfold spec_TextWith.f
  rw [w64 (x := 128 - (t.size : Int)) (by omega) (by omega)]
  have out : ¬ twOk s off t → Ev (fun k => spec_TextWith.j0 k s off t true) (tw s off t) := by
    intro h
    unfold tw
    rw [if_neg h]
    refine Ev.step (spec_TextWith.j0.eq_2 _ _ _ _) ?_
    exact ev_pos rfl (ev_now rfl)
  by_cases h1 : t.size = 0
  · exact ev_pos ((nil_size t).2 h1) (out (fun h => h.1 h1))
  refine ev_neg (fun h => h1 ((nil_size t).1 h)) ?_
  by_cases h2 : off < 0
  · exact ev_pos h2 (out (fun h => by have := h.2.1; omega))
  refine ev_neg h2 ?_
  by_cases h3 : off > 128 - (t.size : Int)
  · exact ev_pos h3 (out (fun h => by have := h.2.2.1; omega))
  refine ev_neg h3 ?_
  by_cases h4 : (s.size : Int) > 128
  · rw [decide_eq_true h4]
    exact out (fun h => by have := h.2.2.2; omega)
  rw [decide_eq_false h4]
  have ok : twOk s off t := ⟨h1, by omega, by omega, by omega⟩
  unfold tw
  rw [if_pos ok]
  refine Ev.step (spec_TextWith.j0.eq_2 _ _ _ _) ?_
  refine ev_neg (by simp) ?_
  by_cases h5 : (s.size : Int) < off
  · refine ev_pos h5 ?_
    rw [w64 (x := off - (s.size : Int)) (by omega) (by omega), show off - (s.size : Int) = (((off - s.size).toNat : Nat) : Int) by omega]
    refine Ev.bind (zeroText_ev _ (by omega)) (ev_pos (by rw [zb_size]; omega) (Ev.bind (Ev.now _) ?_))
    rw [← show off - (s.size : Int) = (((off - s.size).toNat : Nat) : Int) by omega]
    have hz : (s ++ zb (off - (s.size : Int)).toNat).size = off.toNat := by rw [ByteArray.size_append, zb_size]; omega
    exact tail_ev _ off t (by omega) (by omega) (by omega) (by omega)
  · refine ev_neg h5 ?_
    have e : s ++ zb (off - (s.size : Int)).toNat = s := by
      apply b_inj
      rw [b_app, zb_list, show (off - (s.size : Int)).toNat = 0 by omega]; simp
    rw [e]
    exact tail_ev s off t (by omega) (by omega) (by omega) (by omega)


/-! ### within -/
/-! ### textcut -/
def cutS (s : ByteArray) (n : Int) : ByteArray := if 0 ≤ n ∧ n ≤ 128 then ⟨((s.data.toList ++ List.replicate (n - s.size).toNat 0).take n.toNat).toArray⟩ else s
theorem sTextCut_ev (s : ByteArray) (n : Int) (hs : s.size ≤ 4000000) : Ev (fun k => spec_TextCut.f k s n) (cutS s n) := by
  unfold spec_TextCut.f cutS
  refine Ev.bind (ev_eq (l01In_eq _ _ _)) ?_
  by_cases h : 0 ≤ n ∧ n ≤ 128
  · rw [if_pos h]
    refine ev_pos (by simpa using h) ?_
    by_cases h2 : n ≤ (s.size : Int)
    · refine ev_pos h2 (ev_pos h.1 (ev_now (b_inj ?_)))
      rw [b_cut, b_mk, List.take_append_of_le_length (by rw [b_len]; omega)]; simp
    · refine ev_neg h2 ?_
      rw [w64 (by omega) (by omega), show n - (s.size : Int) = (((n - s.size).toNat : Nat) : Int) by omega]
      refine Ev.bind (zeroText_ev _ (by omega)) (ev_pos (by rw [zb_size]; omega) (ev_now (b_inj ?_)))
      rw [b_app, b_mk, zb_list, List.take_of_length_le]
      · congr 2
      · simp only [List.length_append, b_len, List.length_replicate]; omega
  · rw [if_neg h]
    exact ev_neg (by simpa using h) (ev_now rfl)



/-! ### pagesfor -/
def pgF (n : Int) : Int := if n ≤ 0 then 0 else (n - 1) / 32 + 1
theorem sPagesFor_eq (n : Int) (h : 0 ≤ n) (h1 : n ≤ 1048576) : spec_PagesFor.f n = some (pgF n) := by
  unfold spec_PagesFor.f pgF
  split
  · rfl
  · rw [w64 (x := n - 1) (by omega) (by omega), Int.tdiv_eq_ediv_of_nonneg (by omega), w64 (x := (n - 1) / 32) (by omega) (by omega), w64 (by omega) (by omega)]
theorem iPagesFor_eq (n : Int) (h : 0 ≤ n) (h1 : n ≤ 1048576) : impl_PagesFor.f n = some (pgF n) := by
  unfold impl_PagesFor.f pgF
  rw [if_neg (by omega), Int.tdiv_eq_ediv_of_nonneg h, Int.tmod_eq_emod_of_nonneg h, w64 (x := n / 32) (by omega) (by omega), w64 (x := n / 32 + 1) (by omega) (by omega)]
  split <;> split <;> congr 1 <;> omega

theorem pgF_le (n : Int) (h1 : n ≤ 1048576) : 0 ≤ pgF n ∧ pgF n ≤ 32768 := by
  unfold pgF
  split <;> omega

/-! ### pagesin -/
def pgIn : List S44 → Int → Int
  | [], a => a
  | x :: r, a => if x.f1 = true then pgIn r a else pgIn r (a + pgF x.f2.size)
theorem sPagesIn_l (xs : List S44) (hn : xs.length ≤ 1048576) (hs : ∀ y ∈ xs, y.f2.size ≤ 1048576) : ∀ (i : Nat) (a : Int), i ≤ xs.length → 0 ≤ a → a ≤ 32768 * i → Ev (fun k => spec_PagesIn.l0 k a i xs) (pgIn (xs.drop i) a)
  | i, a, hi, h0, h1 => by
    refine Ev.step (spec_PagesIn.l0.eq_2 _ _ _) ?_
    by_cases h : i < xs.length
    · refine ev_pos (by omega) (ev_pos (by omega) ?_)
      rw [rd_itemI xs i h, w64s i (by omega), drop_at xs i h]
      simp only [pgIn]
      have hz := hs _ (List.getElem_mem h)
      by_cases hd : xs[i].f1 = true
      · rw [if_pos hd]
        exact ev_pos hd (sPagesIn_l xs hn hs (i + 1) a (by omega) h0 (by omega))
      · rw [if_neg hd]
        have hb := pgF_le (xs[i].f2.size : Int) (by omega)
        refine ev_neg hd (Ev.bind (ev_eq (sPagesFor_eq _ (by omega) (by omega))) ?_)
        rw [w64 (by omega) (by omega)]
        exact sPagesIn_l xs hn hs (i + 1) _ (by omega) (by omega) (by omega)
    · refine ev_neg (by omega) (ev_now ?_)
      rw [List.drop_of_length_le (by omega)]; rfl
  termination_by i => xs.length - i
theorem iPagesIn_l (xs : List S44) (hn : xs.length ≤ 1048576) (hs : ∀ y ∈ xs, y.f2.size ≤ 1048576) : ∀ (i : Nat) (a : Int), i ≤ xs.length → 0 ≤ a → a ≤ 32768 * i → Ev (fun k => impl_PagesIn.l0 k a xs xs.length i) (pgIn (xs.drop i) a)
  | i, a, hi, h0, h1 => by
    refine Ev.step (impl_PagesIn.l0.eq_2 _ _ _ _) ?_
    by_cases h : i < xs.length
    · refine ev_pos (by omega) (ev_pos (by omega) (ev_pos (by omega) ?_))
      rw [rd_itemI xs i h, w64s i (by omega), drop_at xs i h]
      simp only [pgIn]
      have hz := hs _ (List.getElem_mem h)
      by_cases hd : xs[i].f1 = true
      · rw [if_pos hd]
        exact ev_pos hd (iPagesIn_l xs hn hs (i + 1) a (by omega) h0 (by omega))
      · rw [if_neg hd]
        have hb := pgF_le (xs[i].f2.size : Int) (by omega)
        refine ev_neg hd (Ev.bind (ev_eq (iPagesFor_eq _ (by omega) (by omega))) ?_)
        rw [w64 (by omega) (by omega)]
        exact iPagesIn_l xs hn hs (i + 1) _ (by omega) (by omega) (by omega)
    · refine ev_neg (by omega) (ev_now ?_)
      rw [List.drop_of_length_le (by omega)]; rfl
  termination_by i => xs.length - i
theorem sPagesIn_ev (xs : List S44) (hn : xs.length ≤ 1048576) (hs : ∀ y ∈ xs, y.f2.size ≤ 1048576) : Ev (fun k => spec_PagesIn.f k xs) (pgIn xs 0) := by
  unfold spec_PagesIn.f
  exact sPagesIn_l xs hn hs 0 0 (by omega) (by omega) (by omega)
theorem iPagesIn_ev (xs : List S44) (hn : xs.length ≤ 1048576) (hs : ∀ y ∈ xs, y.f2.size ≤ 1048576) : Ev (fun k => impl_PagesIn.f k xs) (pgIn xs 0) := by
  unfold impl_PagesIn.f
  exact iPagesIn_l xs hn hs 0 0 (by omega) (by omega) (by omega)

/-! ### draw -/
theorem and255 (x : Int) : 0 ≤ Go.bits .and .i64 x 255 ∧ Go.bits .and .i64 x 255 ≤ 255 := by
  have h : (BitVec.ofInt IntKind.i64.bits x &&& BitVec.ofInt IntKind.i64.bits 255).toNat ≤ 255 := by
    rw [BitVec.toNat_and]
    exact Nat.le_trans Nat.and_le_right (by decide)
  show 0 ≤ IntKind.i64.wrap (((BitVec.ofInt IntKind.i64.bits x &&& BitVec.ofInt IntKind.i64.bits 255).toNat : Nat) : Int) ∧ IntKind.i64.wrap (((BitVec.ofInt IntKind.i64.bits x &&& BitVec.ofInt IntKind.i64.bits 255).toNat : Nat) : Int) ≤ 255
  generalize (BitVec.ofInt IntKind.i64.bits x &&& BitVec.ofInt IntKind.i64.bits 255).toNat = m at h
  rw [IntKind.wrap_i64]
  omega
theorem new_l (xs : List Int) (hn : xs.length ≤ 4000000) : ∀ (i : Nat) (h : Int), i ≤ xs.length → ∃ r, Ev (fun k => spec_l01New.l0 k xs h i) (xs, 0, r)
  | i, h, hi => by
    by_cases c : i < xs.length
    · by_cases c2 : (i : Int) < 4000
      · obtain ⟨r, hr⟩ := new_l xs hn (i + 1) (Go.bits .and .i64 (wrap64 ((wrap64 ((wrap64 (h * 131)) + (wrap64 (rd xs i)))) + 7)) 1073741823) (by omega)
        refine ⟨r, ?_⟩
        refine Ev.step (spec_l01New.l0.eq_2 _ _ _) ?_
        refine ev_pos (by omega) (ev_pos c2 (ev_pos (by omega) ?_))
        rw [w64s i (by omega)]
        exact hr
      · refine ⟨h, ?_⟩
        refine Ev.step (spec_l01New.l0.eq_2 _ _ _) ?_
        exact ev_pos (by omega) (ev_neg c2 (ev_now rfl))
    · refine ⟨h, ?_⟩
      refine Ev.step (spec_l01New.l0.eq_2 _ _ _) ?_
      exact ev_neg (by omega) (ev_now rfl)
  termination_by i => xs.length - i
theorem new_ev (xs : List Int) (hn : xs.length ≤ 4000000) : ∃ r, Ev (fun k => spec_l01New.f k xs) (xs, 0, r) := by
  unfold spec_l01New.f
  exact new_l xs hn 0 _ (by omega)
/-- A cursor's place: right, and no further than n. -/
def crs (n i : Int) : Prop := 0 ≤ i ∧ i ≤ n
theorem byte_eq (xs : List Int) (hn : xs.length ≤ 4000000) (i h : Int) (hi : crs 4000000 i) : ∃ b i' h', spec_l01Byte.f xs i h = some (b, i', h') ∧ 0 ≤ b ∧ b ≤ 255 ∧ crs 4000000 i' := by
  unfold spec_l01Byte.f
  obtain ⟨h0, h1⟩ := hi
  by_cases c : i < (xs.length : Int)
  · refine ⟨_, _, _, by rw [if_pos c, if_pos h0], (and255 _).1, (and255 _).2, ?_⟩
    rw [w64 (by omega) (by omega)]
    exact ⟨by omega, by omega⟩
  · exact ⟨_, _, _, by rw [if_neg c], (and255 _).1, (and255 _).2, h0, h1⟩
theorem below_eq (xs : List Int) (hn : xs.length ≤ 4000000) (i h : Int) (hi : crs 4000000 i) (n : Int) (h0 : 0 < n) (h1 : n ≤ 256) : ∃ b i' h', spec_l01Below.f xs i h n = some (b, i', h') ∧ 0 ≤ b ∧ b < n ∧ crs 4000000 i' := by
  unfold spec_l01Below.f
  obtain ⟨b, i', h', e, b0, b1, hi'⟩ := byte_eq xs hn i h hi
  refine ⟨Int.tmod b n, i', h', ?_, ?_, ?_, hi'⟩
  · rw [if_neg (by omega), if_pos h1, e, Option.bind_some, if_neg (by omega)]
  · rw [Int.tmod_eq_emod_of_nonneg b0]; exact Int.emod_nonneg _ (by omega)
  · rw [Int.tmod_eq_emod_of_nonneg b0]; exact Int.emod_lt_of_pos _ h0
theorem pick_eq (xs : List Int) (hn : xs.length ≤ 4000000) (i h : Int) (hi : crs 4000000 i) (l : List Int) (h0 : 0 < l.length) (h1 : l.length ≤ 256) : ∃ x i' h', spec_l01PickInt.f xs i h l = some (x, i', h') ∧ x ∈ l ∧ crs 4000000 i' := by
  unfold spec_l01PickInt.f
  obtain ⟨b, i', h', e, b0, b1, hi'⟩ := below_eq xs hn i h hi (l.length : Int) (by omega) (by omega)
  obtain ⟨m, rfl⟩ := Int.eq_ofNat_of_zero_le b0
  refine ⟨l[m]'(by omega), i', h', ?_, List.getElem_mem _, hi'⟩
  rw [e, Option.bind_some, if_pos b0, if_pos b1, rd_at l m (by omega)]


/-! ### drawtext -/
theorem text_l (xs : List Int) (hn : xs.length ≤ 4000000) (n : Nat) (hb : n ≤ 5000) : ∀ (j : Nat) (o : List Int) (i h : Int), j ≤ n → o.length = j → crs 4000000 i → ∃ t i' h', Ev (fun k => spec_l01Text.l0 k n o j xs i h) (t, i', h') ∧ t.size = n ∧ crs 4000000 i'
  | j, o, i, h, hj, ho, hi => by
    by_cases c : j < n
    · obtain ⟨b, i1, h1, e, b0, b1, hi1⟩ := byte_eq xs hn i h hi
      obtain ⟨t, i2, h2, e2, t2, hi2⟩ := text_l xs hn n hb (j + 1) (o ++ [b % 256]) i1 h1 (by omega) (by simp [ho]) hi1
      refine ⟨t, i2, h2, ?_, t2, hi2⟩
      refine Ev.step (spec_l01Text.l0.eq_2 _ _ _ _ _ _) ?_
      refine ev_pos (by omega) (Ev.bind (ev_eq e) (ev_pos (by omega) ?_))
      rw [w64s j (by omega)]
      exact e2
    · refine ⟨strOfNums o, i, h, ?_, by rw [strOfNums_size]; omega, hi⟩
      refine Ev.step (spec_l01Text.l0.eq_2 _ _ _ _ _ _) ?_
      exact ev_neg (by omega) (ev_now rfl)
  termination_by j => n - j
theorem text_ev (xs : List Int) (hn : xs.length ≤ 4000000) (i h : Int) (hi : crs 4000000 i) (n : Int) (h0 : 0 ≤ n) (h1 : n ≤ 5000) : ∃ t i' h', Ev (fun k => spec_l01Text.f k xs i h n) (t, i', h') ∧ t.size = n.toNat ∧ crs 4000000 i' := by
  obtain ⟨m, rfl⟩ := Int.eq_ofNat_of_zero_le h0
  obtain ⟨t, i2, h2, e2, t2, hi2⟩ := text_l xs hn m (by omega) 0 [] i h (by omega) rfl hi
  refine ⟨t, i2, h2, ?_, by omega, hi2⟩
  unfold spec_l01Text.f
  refine ev_neg (by omega) ?_
  refine Ev.step (spec_l01Text.j0.eq_2 _ _ _ _) ?_
  exact e2

/-! ### drawask -/
theorem pickS_eq (xs : List Int) (hn : xs.length ≤ 4000000) (i h : Int) (hi : crs 4000000 i) (l : List ByteArray) (h0 : 0 < l.length) (h1 : l.length ≤ 256) : ∃ x i' h', spec_l01Pick.f xs i h l = some (x, i', h') ∧ crs 4000000 i' := by
  unfold spec_l01Pick.f
  obtain ⟨b, i', h', e, b0, b1, hi'⟩ := below_eq xs hn i h hi (l.length : Int) (by omega) (by omega)
  exact ⟨_, i', h', by rw [e, Option.bind_some, if_pos b0, if_pos b1], hi'⟩
theorem pickB_eq (xs : List Int) (hn : xs.length ≤ 4000000) (i h : Int) (hi : crs 4000000 i) (l : List ByteArray) (h0 : 0 < l.length) (h1 : l.length ≤ 256) : ∃ x i' h', ((spec_l01Pick.f xs i h l).bind fun b => some (b.1, b.2.1, b.2.2)) = some (x, i', h') ∧ crs 4000000 i' := by
  obtain ⟨x, i', h', e, hi'⟩ := pickS_eq xs hn i h hi l h0 h1
  exact ⟨_, _, _, by rw [e, Option.bind_some], hi'⟩
theorem once_eq (xs : List Int) (hn : xs.length ≤ 4000000) (i h : Int) (hi : crs 4000000 i) (n : Int) (h0 : 0 < n) (h1 : n ≤ 256) : ∃ x i' h', spec_l01Once.f xs i h n = some (x, i', h') ∧ crs 4000000 i' := by
  unfold spec_l01Once.f
  obtain ⟨b, i', h', e, b0, b1, hi'⟩ := below_eq xs hn i h hi n h0 h1
  exact ⟨_, i', h', by rw [e, Option.bind_some], hi'⟩
theorem path_eq (xs : List Int) (hn : xs.length ≤ 4000000) (i h : Int) (hi : crs 4000000 i) : ∃ x i' h', spec_l15Path.f xs i h = some (x, i', h') ∧ crs 4000000 i' := by
  unfold spec_l15Path.f
  exact pickB_eq xs hn i h hi _ (by decide) (by decide)
theorem anyP_eq (xs : List Int) (hn : xs.length ≤ 4000000) (i h : Int) (hi : crs 4000000 i) : ∃ x i' h', spec_l15Any.f xs i h = some (x, i', h') ∧ crs 4000000 i' := by
  unfold spec_l15Any.f
  obtain ⟨b, i1, h1, e, hi1⟩ := once_eq xs hn i h hi 5 (by omega) (by omega)
  rw [e, Option.bind_some]
  cases b with
  | true =>
    rw [if_pos rfl]
    exact pickB_eq xs hn i1 h1 hi1 _ (by decide) (by decide)
  | false =>
    obtain ⟨x, i', h', e, hi'⟩ := path_eq xs hn i1 h1 hi1
    exact ⟨_, _, _, by rw [if_neg (by simp), e, Option.bind_some], hi'⟩
theorem long_s (n : Nat) (hn : n ≤ 1048576) (x : Int) : ∀ (i : Nat) (ys : List Int), i ≤ n → ys.length = n → ∃ t, Ev (fun k => spec_l01Long.l0 k n x ys i) t ∧ t.size = n
  | i, ys, hi, hl => by
    by_cases h : i < n
    · obtain ⟨t, e, z⟩ := long_s n hn x (i + 1) (ys.set i x) (by omega) (by simp [hl])
      refine ⟨t, ?_, z⟩
      refine Ev.step (spec_l01Long.l0.eq_2 _ _ _ _) ?_
      refine ev_pos (by omega) (ev_pos (by omega) (ev_pos (by omega) ?_))
      rw [w64s i (by omega), Int.toNat_natCast]
      exact e
    · refine ⟨strOfNums ys, ?_, by rw [strOfNums_size, hl]⟩
      refine Ev.step (spec_l01Long.l0.eq_2 _ _ _ _) ?_
      exact ev_neg (by omega) (ev_now rfl)
  termination_by i => n - i
theorem longx_ev (n : Int) (h0 : 0 ≤ n) (h1 : n ≤ 1048576) (x : Int) : ∃ t, Ev (fun k => spec_l01Long.f k n x) t ∧ t.size = n.toNat := by
  obtain ⟨m, rfl⟩ := Int.eq_ofNat_of_zero_le h0
  obtain ⟨t, e, z⟩ := long_s m (by omega) x 0 (List.replicate m 0) (by omega) (by simp)
  refine ⟨t, ?_, by rw [z, Int.toNat_natCast]⟩
  unfold spec_l01Long.f
  refine ev_pos (by omega) (ev_pos (by omega) ?_)
  rw [Int.toNat_natCast]
  exact e
/-- What an ask's numbers and text keep tu. -/
def askOk (off len : Int) (t : ByteArray) : Prop := (-1 ≤ off ∧ off ≤ 9223372036854775807) ∧ (-1 ≤ len ∧ len ≤ 9223372036854775807) ∧ t.size ≤ 1000
theorem ask_j (xs : List Int) (hn : xs.length ≤ 4000000) (i h : Int) (hi : crs 4000000 i) (kd : Int) (p : ByteArray) : ∃ kd' p' tu off len t i' h', Ev (fun k => spec_l17Ask.j0 k xs i h kd p (⟨#[]⟩ : ByteArray) 0 0 (⟨#[]⟩ : ByteArray)) (kd', p', tu, off, len, t, i', h') ∧ askOk off len t ∧ crs 4000000 i' := by
  have z0 : (⟨#[]⟩ : ByteArray).size ≤ 1000 := Nat.zero_le _
  by_cases k5 : kd = 5
  · obtain ⟨x, i', h', e, hi'⟩ := path_eq xs hn i h hi
    refine ⟨kd, p, x, 0, 0, ⟨#[]⟩, i', h', ?_, ⟨⟨by omega, by omega⟩, ⟨by omega, by omega⟩, z0⟩, hi'⟩
    refine Ev.step (spec_l17Ask.j0.eq_2 _ _ _ _ _ _ _ _ _) ?_
    exact ev_pos k5 (Ev.bind (ev_eq e) (ev_now rfl))
  by_cases k6 : kd = 6
  · obtain ⟨x, i1, h1, e1, m1, hi1⟩ := pick_eq xs hn i h hi [0, 1, 5, 32, 100, 200] (by decide) (by decide)
    obtain ⟨y, i2, h2, e2, m2, hi2⟩ := pick_eq xs hn i1 h1 hi1 [0, 1, 10, 40, 128, 1000] (by decide) (by decide)
    simp only [List.mem_cons, List.not_mem_nil, or_false] at m1 m2
    refine ⟨kd, p, ⟨#[]⟩, x, y, ⟨#[]⟩, i2, h2, ?_, ⟨⟨by omega, by omega⟩, ⟨by omega, by omega⟩, z0⟩, hi2⟩
    refine Ev.step (spec_l17Ask.j0.eq_2 _ _ _ _ _ _ _ _ _) ?_
    exact ev_neg k5 (ev_pos k6 (Ev.bind (ev_eq e1) (Ev.bind (ev_eq e2) (ev_now rfl))))
  by_cases k7 : kd = 7
  · obtain ⟨x, i1, h1, e1, m1, hi1⟩ := pick_eq xs hn i h hi [0, 0, 0, 1, 5, 30, 32, 33, 64, 100] (by decide) (by decide)
    obtain ⟨y, i2, h2, e2, m2, hi2⟩ := pick_eq xs hn i1 h1 hi1 [0, 1, 2, 5, 20, 32, 40] (by decide) (by decide)
    simp only [List.mem_cons, List.not_mem_nil, or_false] at m1 m2
    obtain ⟨t, i3, h3, e3, z3, hi3⟩ := text_ev xs hn i2 h2 hi2 y (by omega) (by omega)
    refine ⟨kd, p, ⟨#[]⟩, x, 0, t, i3, h3, ?_, ⟨⟨by omega, by omega⟩, ⟨by omega, by omega⟩, by omega⟩, hi3⟩
    refine Ev.step (spec_l17Ask.j0.eq_2 _ _ _ _ _ _ _ _ _) ?_
    exact ev_neg k5 (ev_neg k6 (ev_pos k7 (Ev.bind (ev_eq e1) (Ev.bind (ev_eq e2) (Ev.bind e3 (ev_now rfl))))))
  by_cases k8 : kd = 8
  · obtain ⟨x, i1, h1, e1, m1, hi1⟩ := pick_eq xs hn i h hi [0, 1, 5, 31, 32, 33, 64, 70, 128, 129] (by decide) (by decide)
    simp only [List.mem_cons, List.not_mem_nil, or_false] at m1
    refine ⟨kd, p, ⟨#[]⟩, 0, x, ⟨#[]⟩, i1, h1, ?_, ⟨⟨by omega, by omega⟩, ⟨by omega, by omega⟩, z0⟩, hi1⟩
    refine Ev.step (spec_l17Ask.j0.eq_2 _ _ _ _ _ _ _ _ _) ?_
    exact ev_neg k5 (ev_neg k6 (ev_neg k7 (ev_pos k8 (Ev.bind (ev_eq e1) (ev_now rfl)))))
  · refine ⟨kd, p, ⟨#[]⟩, 0, 0, ⟨#[]⟩, i, h, ?_, ⟨⟨by omega, by omega⟩, ⟨by omega, by omega⟩, z0⟩, hi⟩
    refine Ev.step (spec_l17Ask.j0.eq_2 _ _ _ _ _ _ _ _ _) ?_
    exact ev_neg k5 (ev_neg k6 (ev_neg k7 (ev_neg k8 (ev_now rfl))))
theorem ask_ev (xs : List Int) (hn : xs.length ≤ 4000000) (i h : Int) (hi : crs 4000000 i) : ∃ kd p tu off len t i' h', Ev (fun k => spec_l17Ask.f k xs i h) (kd, p, tu, off, len, t, i', h') ∧ askOk off len t ∧ crs 4000000 i' := by
  unfold spec_l17Ask.f
  obtain ⟨kd, i1, h1, e1, m1, hi1⟩ := pick_eq xs hn i h hi [1, 1, 1, 2, 2, 3, 4, 5, 5, 6, 7, 7, 7, 7, 7, 8, 8, 9, 10, 11] (by decide) (by decide)
  obtain ⟨p, i2, h2, e2, hi2⟩ := path_eq xs hn i1 h1 hi1
  obtain ⟨b, i3, h3, e3, hi3⟩ := once_eq xs hn i2 h2 hi2 12 (by omega) (by omega)
  cases b with
  | true =>
    obtain ⟨q, i4, h4, e4, hi4⟩ := anyP_eq xs hn i3 h3 hi3
    obtain ⟨kd', p', tu, off, len, t, i', h', e5, ok, hi'⟩ := ask_j xs hn i4 h4 hi4 kd q
    exact ⟨_, _, _, _, _, _, _, _, Ev.bind (ev_eq e1) (Ev.bind (ev_eq e2) (Ev.bind (ev_eq e3) (ev_pos rfl (Ev.bind (ev_eq e4) e5)))), ok, hi'⟩
  | false =>
    obtain ⟨kd', p', tu, off, len, t, i', h', e5, ok, hi'⟩ := ask_j xs hn i3 h3 hi3 kd p
    exact ⟨_, _, _, _, _, _, _, _, Ev.bind (ev_eq e1) (Ev.bind (ev_eq e2) (Ev.bind (ev_eq e3) (ev_neg (by simp) e5))), ok, hi'⟩
/-! ### askdv -/
theorem same_eq (xs : List S44) (hn : xs.length ≤ 4000000) : spec_l17Same.f xs = some xs := by
  unfold spec_l17Same.f
  rw [Option.bind_some, if_pos (by simp; omega), List.nil_append]
theorem put_B {n s : Nat} {xs : List S44} (h : vB n s xs) (p : ByteArray) (b : Bool) (t : ByteArray) (hp : p.size ≤ s) (ht : t.size ≤ s) : vB (n + 1) s (putL ⟨p, b, t⟩ xs) := by
  have hl := putL_len ⟨p, b, t⟩ xs
  refine ⟨by have := h.1; omega, fun y hy => ?_⟩
  unfold putL insL at hy
  simp only [List.mem_append, List.mem_singleton] at hy
  have hd : ∀ z ∈ dropL p xs, z.f0.size ≤ s ∧ z.f2.size ≤ s := fun z hz => h.2 z (List.mem_filter.1 hz).1
  rcases hy with (hy | rfl) | hy
  · exact hd y ((List.takeWhile_sublist _).subset hy)
  · exact ⟨hp, ht⟩
  · exact hd y ((List.dropWhile_sublist _).subset hy)
theorem drop_B {n s : Nat} {xs : List S44} (h : vB n s xs) (p : ByteArray) : vB n s (dropL p xs) :=
  ⟨by have := h.1; have := dropL_len p xs; omega, fun z hz => h.2 z (List.mem_filter.1 hz).1⟩
theorem set_B {n s : Nat} {xs : List S44} (h : vB n s xs) (i : Nat) (hi : i < xs.length) (t : ByteArray) (ht : t.size ≤ s) : vB n s (xs.set i ⟨xs[i].f0, xs[i].f1, t⟩) := by
  refine ⟨by rw [List.length_set]; exact h.1, fun y hy => ?_⟩
  rcases List.mem_or_eq_of_mem_set hy with hy | rfl
  · exact h.2 y hy
  · exact ⟨(h.2 _ (List.getElem_mem hi)).1, ht⟩
theorem tw_size (s : ByteArray) (off : Int) (t : ByteArray) : (tw s off t).size ≤ s.size + 1000 := by
  unfold tw
  split
  · rename_i h
    obtain ⟨_, h0, h1, h2⟩ := h
    unfold lay
    rw [b_size]
    simp only [List.length_append, List.length_take, List.length_drop, b_len, ByteArray.size_append, zb_size]
    omega
  · omega
theorem cutS_size (s : ByteArray) (n : Int) : (cutS s n).size ≤ s.size + 1000 := by
  unfold cutS
  split
  · rename_i h
    rw [b_size]
    simp only [List.length_take, List.length_append, b_len, List.length_replicate]
    omega
  · omega
theorem idx_at (p : ByteArray) (xs : List S44) (h : Lib.idxBy (itP p) xs z44 ≥ 0) : ∃ i : Nat, i < xs.length ∧ Lib.idxBy (itP p) xs z44 = i := by
  obtain ⟨m, e⟩ := Int.eq_ofNat_of_zero_le h
  have := (idx_lt (itP p) z44 xs (by omega)).2
  exact ⟨m, by omega, e⟩
/-- What a text of the file gives. -/
theorem texts_ev (t p ins q : Int) (n s : Nat) (xs : List S44) (h : vB n s xs) (hn : n ≤ 1000000) (hs : s ≤ 1000000) (i : Nat) (hi : i < xs.length) (u : ByteArray) (hu : u.size ≤ s) : ∃ ys c, Ev (fun k => spec_l17Texts.f k t p ins q xs (i : Int) u) (ys, c) ∧ vB n s ys := by
  have hx := h.1
  have hb := set_B h i hi u hu
  unfold spec_l17Texts.f
  have e := sPagesIn_ev (xs.set i ⟨xs[i].f0, xs[i].f1, u⟩) (by rw [List.length_set]; omega) (fun y hy => by have := hb.2 y hy; omega)
  by_cases c : pgIn (xs.set i ⟨xs[i].f0, xs[i].f1, u⟩) 0 > q
  · refine ⟨xs, 13, ev_pos (by omega) (ev_pos (by omega) (Ev.bind (ev_eq (same_eq xs (by omega))) (ev_pos (by omega) (Ev.bind (ev_now rfl) ?_)))), h⟩
    rw [rd_itemI xs i hi, Int.toNat_natCast]
    exact Ev.bind e (ev_pos c (Ev.bind (ev_eq (same_eq xs (by omega))) (ev_now rfl)))
  · refine ⟨xs.set i ⟨xs[i].f0, xs[i].f1, u⟩, 0, ev_pos (by omega) (ev_pos (by omega) (Ev.bind (ev_eq (same_eq xs (by omega))) (ev_pos (by omega) (Ev.bind (ev_now rfl) ?_)))), hb⟩
    rw [rd_itemI xs i hi, Int.toNat_natCast]
    exact Ev.bind e (ev_neg c (ev_now rfl))
/-- A call that comes to a view of so many items, their texts so long. -/
def aEv (g : Nat → Option (List S44 × Int × ByteArray × Int × Bool × List ByteArray)) (n s : Nat) : Prop := ∃ r, Ev g r ∧ vB n s r.1
theorem a_pos {c : Prop} [Decidable c] {f g : Nat → Option (List S44 × Int × ByteArray × Int × Bool × List ByteArray)} {n s : Nat} (h : c) (e : aEv f n s) : aEv (fun k => if c then f k else g k) n s := by
  obtain ⟨r, e, b⟩ := e
  exact ⟨r, ev_pos h e, b⟩
theorem a_neg {c : Prop} [Decidable c] {f g : Nat → Option (List S44 × Int × ByteArray × Int × Bool × List ByteArray)} {n s : Nat} (h : ¬ c) (e : aEv g n s) : aEv (fun k => if c then f k else g k) n s := by
  obtain ⟨r, e, b⟩ := e
  exact ⟨r, ev_neg h e, b⟩
theorem a_bind {β : Type} {g : Nat → Option β} {y : β} {f : Nat → β → Option (List S44 × Int × ByteArray × Int × Bool × List ByteArray)} {n s : Nat} (h : Ev g y) (e : aEv (fun k => f k y) n s) : aEv (fun k => (g k).bind (f k)) n s := by
  obtain ⟨r, e, b⟩ := e
  exact ⟨r, Ev.bind h e, b⟩
theorem a_now {n s : Nat} {r : List S44 × Int × ByteArray × Int × Bool × List ByteArray} (h : vB n s r.1) : aEv (fun _ => some r) n s := ⟨r, ev_now rfl, h⟩
theorem a_step {f g : Nat → Option (List S44 × Int × ByteArray × Int × Bool × List ByteArray)} {n s : Nat} (h : ∀ k, f (k + 1) = g k) (e : aEv g n s) : aEv f n s := by
  obtain ⟨r, e, b⟩ := e
  exact ⟨r, Ev.step h e, b⟩
theorem a_mono {f : Nat → Option (List S44 × Int × ByteArray × Int × Bool × List ByteArray)} {n s m z : Nat} (e : aEv f n s) (h1 : n ≤ m) (h2 : s ≤ z) : aEv f m z := by
  obtain ⟨r, e, b⟩ := e
  exact ⟨r, e, vB_mono b h1 h2⟩
theorem a_six {g : Nat → Option (List S44 × Int × ByteArray × Int × Bool × List ByteArray)} {n s : Nat} (e : aEv g n s) : aEv (fun k => (g k).bind fun b => some (b.1, b.2.1, b.2.2.1, b.2.2.2.1, b.2.2.2.2.1, b.2.2.2.2.2)) n s := by
  obtain ⟨r, e, b⟩ := e
  exact ⟨_, Ev.bind e (ev_now rfl), b⟩
theorem fails_a (ys : List S44) (c : Int) {n s : Nat} (h : vB n s ys) : aEv (fun _ => (spec_l17Fails.f c).bind fun b => some (ys, b.1, b.2.1, b.2.2.1, b.2.2.2.1, b.2.2.2.2)) n s := by
  unfold spec_l17Fails.f
  exact a_bind (ev_now rfl) (a_now h)
theorem wf_of {x : Int} (h0 : -9223372036854775808 ≤ x) (h1 : x ≤ 9223372036854775807) : (Lit.int .i64 x).wf = true := by
  simp only [Lit.wf, Bool.and_eq_true, decide_eq_true_eq]
  exact ⟨h0, h1⟩
theorem brought_ev (x : Int) (n : Nat) : ∃ b : Int, Ev (fun k => spec_Brought.f k x 0 (n : Int)) b ∧ 0 ≤ b ∧ b ≤ n := by
  unfold spec_Brought.f
  by_cases h : x < 0
  · refine ⟨0, ev_neg (by omega) ?_, by omega, by omega⟩
    refine Ev.step (spec_Brought.j0.eq_2 _ _ _ _) ?_
    exact ev_pos (by simpa using h) (ev_now rfl)
  · by_cases h2 : x > (n : Int)
    · refine ⟨n, ev_neg (by omega) ?_, by omega, by omega⟩
      refine Ev.step (spec_Brought.j0.eq_2 _ _ _ _) ?_
      exact ev_neg (by simpa using h) (ev_pos h2 (ev_now rfl))
    · refine ⟨x, ev_neg (by omega) ?_, by omega, by omega⟩
      refine Ev.step (spec_Brought.j0.eq_2 _ _ _ _) ?_
      exact ev_neg (by simpa using h) (ev_neg h2 (ev_now rfl))
theorem file_a (t p ins q : Int) (n s : Nat) (xs : List S44) (h : vB n s xs) (hn : n ≤ 100000) (hs : s ≤ 100000) (i : Nat) (hi : i < xs.length) (kd : Int) (pa tu : ByteArray) (off len : Int) (tx : ByteArray) (hk : askOk off len tx) : aEv (fun k => spec_l17File.f k t p ins q xs (i : Int) kd pa tu off len tx) n (s + 1000) := by
  have hx := h.1
  have hm := (h.2 _ (List.getElem_mem hi)).2
  have hB := vB_mono (m := n) (z := s + 1000) h (Nat.le_refl _) (by omega)
  have es := same_eq xs (by omega)
  obtain ⟨⟨o0, o1⟩, ⟨l0, l1⟩, ht⟩ := hk
  unfold spec_l17File.f
  refine a_pos (by omega) (a_pos (by omega) ?_)
  rw [rd_itemI xs i hi]
  by_cases k6 : kd = 6
  · refine a_pos k6 ?_
    have j0 : ∀ z : Bool, (z = false → 0 ≤ len) → aEv (fun k => spec_l17File.j0 k xs[i].f2 z xs kd pa tu off len tx) n (s + 1000) := by
      intro z hz
      refine a_step (spec_l17File.j0.eq_2 _ _ _ _ _ _ _ _ _) ?_
      by_cases c : z = true
      · exact a_pos c (a_bind (ev_eq es) (fails_a xs 12 hB))
      · have hz := hz (by simpa using c)
        obtain ⟨b, eb, b0, b1⟩ := brought_ev off xs[i].f2.size
        refine a_neg c (a_bind eb ?_)
        by_cases c2 : len < wrap64 ((xs[i].f2.size : Int) - b)
        · have e1 := w64 (x := (xs[i].f2.size : Int) - b) (by omega) (by omega)
          rw [e1] at c2
          have e2 := w64 (x := b + len) (by omega) (by omega)
          rw [e1, e2]
          exact a_pos c2 (a_bind (ev_eq es) (a_pos b0 (a_pos (by omega) (a_pos (by omega) (a_now hB)))))
        · exact a_neg c2 (a_bind (ev_eq es) (a_pos b0 (a_pos b1 (a_pos (by omega) (a_now hB)))))
    by_cases c : off < 0
    · exact a_pos c (j0 true (by simp))
    · exact a_neg c (j0 _ (by simp))
  refine a_neg k6 ?_
  by_cases k7 : kd = 7
  · refine a_pos k7 ?_
    have j1 : ∀ z : Bool, aEv (fun k => spec_l17File.j1 k (i : Int) xs[i].f2 z t p ins q xs kd pa tu off len tx) n (s + 1000) := by
      intro z
      refine a_step (spec_l17File.j1.eq_2 _ _ _ _ _ _ _ _ _ _ _ _ _ _) ?_
      by_cases c : z = true
      · exact a_pos c (a_bind (ev_eq es) (fails_a xs 12 hB))
      · obtain ⟨ys, cd, e, b⟩ := texts_ev t p ins q n (s + 1000) xs hB (by omega) (by omega) i hi (tw xs[i].f2 off tx) (by have := tw_size xs[i].f2 off tx; omega)
        refine a_neg c (a_bind (sTextWith_ev _ _ _ (by omega) (by omega) (wf_of (by omega) o1)) (a_bind e ?_))
        by_cases c0 : cd = 0
        · exact a_pos c0 (a_now b)
        · exact a_neg c0 (fails_a ys cd b)
    by_cases c : off < 0
    · exact a_pos c (j1 true)
    · exact a_neg c (j1 _)
  refine a_neg k7 (a_bind (ev_eq (l01In_eq _ _ _)) ?_)
  by_cases c : decide ((0 : Int) ≤ len ∧ len ≤ 128) = true
  · obtain ⟨ys, cd, e, b⟩ := texts_ev t p ins q n (s + 1000) xs hB (by omega) (by omega) i hi (cutS xs[i].f2 len) (by have := cutS_size xs[i].f2 len; omega)
    exact a_pos c (a_bind (sTextCut_ev _ _ (by omega)) (a_bind e (fails_a ys cd b)))
  · exact a_neg c (a_bind (ev_eq es) (fails_a xs 12 hB))
theorem rename_a (n s : Nat) (xs : List S44) (h : vB n s xs) (hn : n ≤ 100000) (hs : s ≤ 100000) (kd : Int) (pa tu : ByteArray) (off len : Int) (tx : ByteArray) (hu : tu.size ≤ 1000) : aEv (fun k => spec_l17Rename.f k xs kd pa tu off len tx) n (s + 1000) := by
  have hx := h.1
  have hB := vB_mono (m := n) (z := s + 1000) h (Nat.le_refl _) (by omega)
  have es := same_eq xs (by omega)
  have j0 : ∀ (c : Int) (z : Bool), aEv (fun k => spec_l17Rename.j0 k c z xs kd pa tu off len tx xs) n (s + 1000) := by
    intro c z
    refine a_step (spec_l17Rename.j0.eq_2 _ _ _ _ _ _ _ _ _ _) ?_
    by_cases hz : z = true
    · exact a_pos hz (fails_a xs c hB)
    · have hl := mvL_B pa tu s xs [] h.2 (by simp)
      refine a_neg hz (a_bind (sMv_ev pa tu xs (by omega) (by omega) (fun y hy => by have := h.2 y hy; omega)) (a_now ⟨?_, fun y hy => ?_⟩))
      · show (mvL pa tu xs []).length ≤ n
        rw [hl.1]; simp; omega
      · have := hl.2 y hy; omega
  unfold spec_l17Rename.f
  refine a_bind (ev_eq es) ?_
  by_cases c1 : pa.toList = ([47] : List UInt8)
  · exact a_pos c1 (fails_a xs 9 hB)
  refine a_neg c1 (a_bind (sUnd_ev _ _) ?_)
  by_cases c2 : undP tu pa = true
  · exact a_pos c2 (fails_a xs 11 hB)
  refine a_neg c2 (a_bind (sPlace_ev xs (by omega) tu) ?_)
  by_cases c3 : placeV xs tu = 0
  · exact a_pos c3 (j0 _ _)
  refine a_neg c3 ?_
  by_cases c4 : placeV xs tu = 7
  · exact a_pos c4 (a_bind (sParent_ev _) (a_bind (sParent_ev _) (j0 _ _)))
  · exact a_neg c4 (j0 _ _)
theorem new_a (t p ins q : Int) (n s : Nat) (xs : List S44) (h : vB n s xs) (hn : n ≤ 100000) (kd : Int) (pa tu : ByteArray) (off len : Int) (tx : ByteArray) (hu : pa.size ≤ s) : aEv (fun k => spec_l17New.f k t p ins q xs kd pa tu off len tx) (n + 1) s := by
  have hx := h.1
  have hB := vB_mono (m := n + 1) (z := s) h (by omega) (Nat.le_refl _)
  have j1 : ∀ c : Int, aEv (fun k => spec_l17New.j1 k c xs kd pa tu off len tx) (n + 1) s := by
    intro c
    refine a_step (spec_l17New.j1.eq_2 _ _ _ _ _ _ _ _) ?_
    by_cases hc : c = 0
    · exact a_pos hc (a_bind (sPut_ev _ _ _ xs (by omega)) (a_now (put_B h _ _ _ hu (Nat.zero_le _))))
    · exact a_neg hc (a_bind (ev_eq (same_eq xs (by omega))) (fails_a xs c hB))
  have j0 : ∀ (c : Int) (z : Bool), aEv (fun k => spec_l17New.j0 k c z xs kd pa tu off len tx) (n + 1) s := by
    intro c z
    refine a_step (spec_l17New.j0.eq_2 _ _ _ _ _ _ _ _ _) ?_
    by_cases hz : z = true
    · exact a_pos hz (j1 8)
    · exact a_neg hz (j1 c)
  unfold spec_l17New.f
  refine a_bind (sPlace_ev xs (by omega) pa) ?_
  by_cases c3 : placeV xs pa = 0
  · exact a_pos c3 (j0 _ _)
  · exact a_neg c3 (j0 _ _)
theorem lkL_ne (xs : List S44) (ps : List ByteArray) : ∀ f i : Nat, lkL xs ps f i ≠ 0
  | 0, i => by simp [lkL]
  | f + 1, i => by
    have ih := lkL_ne xs ps f (i + 1)
    unfold lkL
    repeat' split
    all_goals first | exact ih | decide
theorem lkV_zero (xs : List S44) (a : ByteArray) (h : lkV xs a = 0) : a.toList = ([47] : List UInt8) ∨ Lib.idxBy (itP a) xs z44 ≥ 0 := by
  unfold lkV at h
  by_cases c1 : a.toList = ([47] : List UInt8)
  · exact .inl c1
  rw [if_neg c1] at h
  by_cases c2 : Lib.idxBy (itP a) xs z44 ≥ 0
  · exact .inr c2
  rw [if_neg c2] at h
  by_cases c3 : (spP a).2 = 0
  · rw [if_pos c3] at h; exact absurd h (lkL_ne _ _ _ _)
  · rw [if_neg c3] at h; exact absurd h c3
theorem asked_a (t p ins q : Int) (n s : Nat) (xs : List S44) (h : vB n s xs) (hn : n ≤ 100000) (hs : s ≤ 100000) (kd : Int) (pa tu : ByteArray) (off len : Int) (tx : ByteArray) (hk : askOk off len tx) (hp : pa.size ≤ 1000) (hu : tu.size ≤ 1000) : aEv (fun k => spec_Asked.f k t p ins q xs kd pa tu off len tx) (n + 1) (s + 1000) := by
  have hx := h.1
  have hB := vB_mono (m := n + 1) (z := s + 1000) h (by omega) (by omega)
  have hB2 := vB_mono (m := n) (z := s + 1000) h (by omega) (by omega)
  have es := same_eq xs (by omega)
  have j1 : ∀ z : Bool, (dirV xs pa = false → 0 ≤ Lib.idxBy (itP pa) xs z44) → aEv (fun k => spec_Asked.j1 k (dirV xs pa) (Lib.idxBy (itP pa) xs z44) kd z t p ins q xs kd pa tu off len tx xs) (n + 1) (s + 1000) := by
    intro z hd
    refine a_step (spec_Asked.j1.eq_2 _ _ _ _ _ _ _ _ _ _ _ _ _ _ _ _) ?_
    by_cases hz : z = true
    · refine a_pos hz ?_
      by_cases c : dirV xs pa = true
      · exact a_pos c (fails_a xs 5 hB)
      · obtain ⟨i, hi, ei⟩ := idx_at pa xs (hd (by simpa using c))
        rw [ei]
        exact a_neg c (a_six (a_mono (file_a t p ins q n s xs h (by omega) (by omega) i hi kd pa tu off len tx hk) (by omega) (by omega)))
    refine a_neg hz ?_
    by_cases k9 : kd = 9
    · refine a_pos k9 ?_
      by_cases c : dirV xs pa = true
      · exact a_pos c (a_now hB)
      · obtain ⟨i, hi, ei⟩ := idx_at pa xs (hd (by simpa using c))
        rw [ei]
        exact a_neg c (a_pos (by omega) (a_pos (by omega) (a_now hB)))
    refine a_neg k9 ?_
    by_cases k10 : kd = 10
    · refine a_pos k10 ?_
      by_cases c : dirV xs pa = true
      · exact a_pos c (a_bind (sKids_ev xs (by omega) pa) (a_now hB))
      · exact a_neg c (fails_a xs 4 hB)
    · exact a_neg k10 (a_now hB)
  have j0 : ∀ z : Bool, aEv (fun k => spec_Asked.j0 k z t p ins q xs kd pa tu off len tx xs) (n + 1) (s + 1000) := by
    intro z
    refine a_step (spec_Asked.j0.eq_2 _ _ _ _ _ _ _ _ _ _ _ _ _) ?_
    by_cases hz : z = true
    · exact a_pos hz (a_six (new_a t p ins q n (s + 1000) xs hB2 hn kd pa tu off len tx (by omega)))
    refine a_neg hz (a_bind (sLook_ev xs (by omega) pa) ?_)
    by_cases c0 : lkV xs pa = 0
    · have hd : dirV xs pa = false → 0 ≤ Lib.idxBy (itP pa) xs z44 := by
        intro hf
        rcases lkV_zero xs pa c0 with hr | hi
        · unfold dirV at hf
          rw [if_pos hr] at hf
          simp at hf
        · exact hi
      refine a_pos c0 (a_bind (sDir_ev xs pa (by omega)) (a_bind (sItemAt_ev xs pa (by omega)) ?_))
      by_cases k3 : kd = 3
      · refine a_pos k3 ?_
        by_cases c : dirV xs pa = true
        · exact a_pos c (fails_a xs 5 hB)
        · exact a_neg c (a_bind (sDrop_ev pa xs (by omega)) (a_now (drop_B hB pa)))
      refine a_neg k3 ?_
      by_cases k4 : kd = 4
      · refine a_pos k4 ?_
        by_cases c1 : pa.toList = ([47] : List UInt8)
        · exact a_pos c1 (fails_a xs 9 hB)
        refine a_neg c1 ?_
        by_cases c : dirV xs pa = true
        · refine a_pos c (a_bind (sKids_ev xs (by omega) pa) ?_)
          by_cases c2 : ((kidV xs pa).length : Int) > 0
          · exact a_pos c2 (fails_a xs 10 hB)
          · exact a_neg c2 (a_bind (sDrop_ev pa xs (by omega)) (a_now (drop_B hB pa)))
        · exact a_neg c (fails_a xs 4 hB)
      refine a_neg k4 ?_
      by_cases k5 : kd = 5
      · exact a_pos k5 (a_six (a_mono (rename_a n s xs h (by omega) (by omega) kd pa tu off len tx hu) (by omega) (by omega)))
      refine a_neg k5 ?_
      by_cases k6 : kd = 6
      · exact a_pos k6 (j1 _ hd)
      refine a_neg k6 ?_
      by_cases k7 : kd = 7
      · exact a_pos k7 (j1 _ hd)
      · exact a_neg k7 (j1 _ hd)
    · exact a_neg c0 (fails_a xs _ hB)
  unfold spec_Asked.f
  refine a_bind (ev_eq es) ?_
  unfold spec_AskOk.f
  have hask : ∃ b : Bool, (spec_l01In.f kd 1 11).bind (fun t => if t = true then some (decide ((tx.size : Int) ≤ 200)) else some false) = some b := by
    rw [l01In_eq, Option.bind_some]
    split
    · exact ⟨_, rfl⟩
    · exact ⟨_, rfl⟩
  obtain ⟨b, eb⟩ := hask
  refine a_bind (ev_eq eb) ?_
  by_cases hb : b = true
  · refine a_pos hb ?_
    by_cases k1 : kd = 1
    · exact a_pos k1 (j0 _)
    · exact a_neg k1 (j0 _)
  · exact a_neg hb (fails_a xs 16 hB)

/-! ### drawview -/
theorem pickZ_eq (xs : List Int) (hn : xs.length ≤ 4000000) (i h : Int) (hi : crs 4000000 i) (l : List ByteArray) (h0 : 0 < l.length) (h1 : l.length ≤ 256) : ∃ x i' h', spec_l01Pick.f xs i h l = some (x, i', h') ∧ x ∈ l ∧ crs 4000000 i' := by
  unfold spec_l01Pick.f
  obtain ⟨b, i', h', e, b0, b1, hi'⟩ := below_eq xs hn i h hi (l.length : Int) (by omega) (by omega)
  obtain ⟨m, rfl⟩ := Int.eq_ofNat_of_zero_le b0
  refine ⟨l[m]'(by omega), i', h', ?_, List.getElem_mem _, hi'⟩
  rw [e, Option.bind_some, if_pos b0, if_pos b1, rdOf_at _ l m (by omega)]
theorem all_100 (l : List ByteArray) (h : l.all (fun x => decide (x.size ≤ 100)) = true) {x : ByteArray} (hx : x ∈ l) : x.size ≤ 100 := by
  have := List.all_eq_true.1 h x hx
  simpa using this
theorem pickZB (xs : List Int) (hn : xs.length ≤ 4000000) (i h : Int) (hi : crs 4000000 i) (l : List ByteArray) (h0 : 0 < l.length) (h1 : l.length ≤ 256) (ha : l.all (fun x => decide (x.size ≤ 100)) = true) : ∃ x i' h', ((spec_l01Pick.f xs i h l).bind fun b => some (b.1, b.2.1, b.2.2)) = some (x, i', h') ∧ x.size ≤ 100 ∧ crs 4000000 i' := by
  obtain ⟨x, i', h', e, m, hi'⟩ := pickZ_eq xs hn i h hi l h0 h1
  exact ⟨x, i', h', by rw [e, Option.bind_some], all_100 l ha m, hi'⟩
theorem pathZ_eq (xs : List Int) (hn : xs.length ≤ 4000000) (i h : Int) (hi : crs 4000000 i) : ∃ x i' h', spec_l15Path.f xs i h = some (x, i', h') ∧ x.size ≤ 100 ∧ crs 4000000 i' := by
  unfold spec_l15Path.f
  exact pickZB xs hn i h hi _ (by decide) (by decide) (by decide)
theorem anyZ_eq (xs : List Int) (hn : xs.length ≤ 4000000) (i h : Int) (hi : crs 4000000 i) : ∃ x i' h', spec_l15Any.f xs i h = some (x, i', h') ∧ x.size ≤ 100 ∧ crs 4000000 i' := by
  unfold spec_l15Any.f
  obtain ⟨b, i1, h1, e, hi1⟩ := once_eq xs hn i h hi 5 (by omega) (by omega)
  rw [e, Option.bind_some]
  cases b with
  | true =>
    rw [if_pos rfl]
    exact pickZB xs hn i1 h1 hi1 _ (by decide) (by decide) (by decide)
  | false =>
    obtain ⟨x, i', h', e, hs, hi'⟩ := pathZ_eq xs hn i1 h1 hi1
    exact ⟨x, i', h', by rw [if_neg (by simp), e, Option.bind_some], hs, hi'⟩
theorem askZ_j (xs : List Int) (hn : xs.length ≤ 4000000) (i h : Int) (hi : crs 4000000 i) (kd : Int) (p : ByteArray) (hp : p.size ≤ 100) : ∃ kd' p' tu off len t i' h', Ev (fun k => spec_l17Ask.j0 k xs i h kd p (⟨#[]⟩ : ByteArray) 0 0 (⟨#[]⟩ : ByteArray)) (kd', p', tu, off, len, t, i', h') ∧ askOk off len t ∧ p'.size ≤ 100 ∧ tu.size ≤ 100 ∧ crs 4000000 i' := by
  have z0 : (⟨#[]⟩ : ByteArray).size ≤ 1000 := Nat.zero_le _
  have z1 : (⟨#[]⟩ : ByteArray).size ≤ 100 := Nat.zero_le _
  by_cases k5 : kd = 5
  · obtain ⟨x, i', h', e, hs, hi'⟩ := pathZ_eq xs hn i h hi
    refine ⟨kd, p, x, 0, 0, ⟨#[]⟩, i', h', ?_, ⟨⟨by omega, by omega⟩, ⟨by omega, by omega⟩, z0⟩, hp, hs, hi'⟩
    refine Ev.step (spec_l17Ask.j0.eq_2 _ _ _ _ _ _ _ _ _) ?_
    exact ev_pos k5 (Ev.bind (ev_eq e) (ev_now rfl))
  by_cases k6 : kd = 6
  · obtain ⟨x, i1, h1, e1, m1, hi1⟩ := pick_eq xs hn i h hi [0, 1, 5, 32, 100, 200] (by decide) (by decide)
    obtain ⟨y, i2, h2, e2, m2, hi2⟩ := pick_eq xs hn i1 h1 hi1 [0, 1, 10, 40, 128, 1000] (by decide) (by decide)
    simp only [List.mem_cons, List.not_mem_nil, or_false] at m1 m2
    refine ⟨kd, p, ⟨#[]⟩, x, y, ⟨#[]⟩, i2, h2, ?_, ⟨⟨by omega, by omega⟩, ⟨by omega, by omega⟩, z0⟩, hp, z1, hi2⟩
    refine Ev.step (spec_l17Ask.j0.eq_2 _ _ _ _ _ _ _ _ _) ?_
    exact ev_neg k5 (ev_pos k6 (Ev.bind (ev_eq e1) (Ev.bind (ev_eq e2) (ev_now rfl))))
  by_cases k7 : kd = 7
  · obtain ⟨x, i1, h1, e1, m1, hi1⟩ := pick_eq xs hn i h hi [0, 0, 0, 1, 5, 30, 32, 33, 64, 100] (by decide) (by decide)
    obtain ⟨y, i2, h2, e2, m2, hi2⟩ := pick_eq xs hn i1 h1 hi1 [0, 1, 2, 5, 20, 32, 40] (by decide) (by decide)
    simp only [List.mem_cons, List.not_mem_nil, or_false] at m1 m2
    obtain ⟨t, i3, h3, e3, z3, hi3⟩ := text_ev xs hn i2 h2 hi2 y (by omega) (by omega)
    refine ⟨kd, p, ⟨#[]⟩, x, 0, t, i3, h3, ?_, ⟨⟨by omega, by omega⟩, ⟨by omega, by omega⟩, by omega⟩, hp, z1, hi3⟩
    refine Ev.step (spec_l17Ask.j0.eq_2 _ _ _ _ _ _ _ _ _) ?_
    exact ev_neg k5 (ev_neg k6 (ev_pos k7 (Ev.bind (ev_eq e1) (Ev.bind (ev_eq e2) (Ev.bind e3 (ev_now rfl))))))
  by_cases k8 : kd = 8
  · obtain ⟨x, i1, h1, e1, m1, hi1⟩ := pick_eq xs hn i h hi [0, 1, 5, 31, 32, 33, 64, 70, 128, 129] (by decide) (by decide)
    simp only [List.mem_cons, List.not_mem_nil, or_false] at m1
    refine ⟨kd, p, ⟨#[]⟩, 0, x, ⟨#[]⟩, i1, h1, ?_, ⟨⟨by omega, by omega⟩, ⟨by omega, by omega⟩, z0⟩, hp, z1, hi1⟩
    refine Ev.step (spec_l17Ask.j0.eq_2 _ _ _ _ _ _ _ _ _) ?_
    exact ev_neg k5 (ev_neg k6 (ev_neg k7 (ev_pos k8 (Ev.bind (ev_eq e1) (ev_now rfl)))))
  · refine ⟨kd, p, ⟨#[]⟩, 0, 0, ⟨#[]⟩, i, h, ?_, ⟨⟨by omega, by omega⟩, ⟨by omega, by omega⟩, z0⟩, hp, z1, hi⟩
    refine Ev.step (spec_l17Ask.j0.eq_2 _ _ _ _ _ _ _ _ _) ?_
    exact ev_neg k5 (ev_neg k6 (ev_neg k7 (ev_neg k8 (ev_now rfl))))
theorem askZ_ev (xs : List Int) (hn : xs.length ≤ 4000000) (i h : Int) (hi : crs 4000000 i) : ∃ kd p tu off len t i' h', Ev (fun k => spec_l17Ask.f k xs i h) (kd, p, tu, off, len, t, i', h') ∧ askOk off len t ∧ p.size ≤ 100 ∧ tu.size ≤ 100 ∧ crs 4000000 i' := by
  unfold spec_l17Ask.f
  obtain ⟨kd, i1, h1, e1, m1, hi1⟩ := pick_eq xs hn i h hi [1, 1, 1, 2, 2, 3, 4, 5, 5, 6, 7, 7, 7, 7, 7, 8, 8, 9, 10, 11] (by decide) (by decide)
  obtain ⟨p, i2, h2, e2, s2, hi2⟩ := pathZ_eq xs hn i1 h1 hi1
  obtain ⟨b, i3, h3, e3, hi3⟩ := once_eq xs hn i2 h2 hi2 12 (by omega) (by omega)
  cases b with
  | true =>
    obtain ⟨q, i4, h4, e4, s4, hi4⟩ := anyZ_eq xs hn i3 h3 hi3
    obtain ⟨kd', p', tu, off, len, t, i', h', e5, ok, hi'⟩ := askZ_j xs hn i4 h4 hi4 kd q s4
    exact ⟨_, _, _, _, _, _, _, _, Ev.bind (ev_eq e1) (Ev.bind (ev_eq e2) (Ev.bind (ev_eq e3) (ev_pos rfl (Ev.bind (ev_eq e4) e5)))), ok, hi'⟩
  | false =>
    obtain ⟨kd', p', tu, off, len, t, i', h', e5, ok, hi'⟩ := askZ_j xs hn i3 h3 hi3 kd p s2
    exact ⟨_, _, _, _, _, _, _, _, Ev.bind (ev_eq e1) (Ev.bind (ev_eq e2) (Ev.bind (ev_eq e3) (ev_neg (by simp) e5))), ok, hi'⟩
theorem geo_ev (xs : List Int) (hn : xs.length ≤ 4000000) (i h : Int) (hi : crs 4000000 i) : ∃ t p ins q i' h', spec_l11Geo.f xs i h = some (t, p, ins, q, i', h') ∧ crs 4000000 i' ∧ (1 ≤ t ∧ t ≤ 3) ∧ (6 ≤ p ∧ p ≤ 12) ∧ (3 ≤ ins ∧ ins ≤ 6) ∧ 1 ≤ q ∧ q ≤ p - 4 := by
  unfold spec_l11Geo.f
  obtain ⟨a, i1, h1, e1, a0, a1, hi1⟩ := below_eq xs hn i h hi 3 (by omega) (by omega)
  obtain ⟨b, i2, h2, e2, b0, b1, hi2⟩ := below_eq xs hn i1 h1 hi1 7 (by omega) (by omega)
  obtain ⟨c, i3, h3, e3, c0, c1, hi3⟩ := below_eq xs hn i2 h2 hi2 4 (by omega) (by omega)
  obtain ⟨d, i4, h4, e4, d0, d1, hi4⟩ := below_eq xs hn i3 h3 hi3 (wrap64 ((wrap64 (6 + b)) - 4)) (by rw [w64 (x := 6 + b) (by omega) (by omega), w64 (by omega) (by omega)]; omega) (by rw [w64 (x := 6 + b) (by omega) (by omega), w64 (by omega) (by omega)]; omega)
  rw [w64 (x := 6 + b) (by omega) (by omega), w64 (x := 6 + b - 4) (by omega) (by omega)] at d1
  refine ⟨_, _, _, _, _, _, by rw [e1, Option.bind_some, e2, Option.bind_some, e3, Option.bind_some, e4, Option.bind_some], hi4, ?_, ?_, ?_, ?_⟩
  all_goals dsimp only
  · rw [w64 (by omega) (by omega)]; omega
  · rw [w64 (by omega) (by omega)]; omega
  · rw [w64 (by omega) (by omega)]; omega
  · rw [w64 (by omega) (by omega), w64 (by omega) (by omega)]; omega
theorem vw_l (xs : List Int) (hn : xs.length ≤ 4000000) (t p ins q : Int) : ∀ (f i : Nat) (c h : Int) (vs : List S44), i + f = 12 → crs 4000000 c → vB i (1000 * i + 100) vs → ∃ ys c' h', Ev (fun k => spec_l16View.l0 k (i : Int) xs c h t p ins q vs) (ys, c', h') ∧ vB 12 12100 ys ∧ crs 4000000 c'
  | 0, i, c, h, vs, hf, hc, hv => by
    obtain ⟨b, c1, h1, e, b0, b1, hc1⟩ := below_eq xs hn c h hc 12 (by omega) (by omega)
    refine ⟨vs, c1, h1, ?_, vB_mono hv (by omega) (by omega), hc1⟩
    refine Ev.step (spec_l16View.l0.eq_2 _ _ _ _ _ _ _ _ _) ?_
    exact Ev.bind (ev_eq e) (ev_neg (by dsimp only; omega) (ev_now rfl))
  | f + 1, i, c, h, vs, hf, hc, hv => by
    obtain ⟨b, c1, h1, e, b0, b1, hc1⟩ := below_eq xs hn c h hc 12 (by omega) (by omega)
    by_cases hb : (i : Int) < b
    · obtain ⟨kd, pa, tu, off, len, tx, c2, h2, e2, ok, s1, s2, hc2⟩ := askZ_ev xs hn c1 h1 hc1
      obtain ⟨r, e3, hr⟩ := asked_a t p ins q i (1000 * i + 100) vs hv (by omega) (by omega) kd pa tu off len tx ok (by omega) (by omega)
      obtain ⟨ys, c', h', e4, hy, hc'⟩ := vw_l xs hn t p ins q f (i + 1) c2 h2 r.1 (by omega) hc2 (vB_mono hr (by omega) (by omega))
      refine ⟨ys, c', h', ?_, hy, hc'⟩
      refine Ev.step (spec_l16View.l0.eq_2 _ _ _ _ _ _ _ _ _) ?_
      refine Ev.bind (ev_eq e) (ev_pos hb (Ev.bind e2 (Ev.bind e3 ?_)))
      dsimp only
      rw [w64s i (by omega)]
      exact e4
    · refine ⟨vs, c1, h1, ?_, vB_mono hv (by omega) (by omega), hc1⟩
      refine Ev.step (spec_l16View.l0.eq_2 _ _ _ _ _ _ _ _ _) ?_
      exact Ev.bind (ev_eq e) (ev_neg hb (ev_now rfl))
theorem vw_ev (xs : List Int) (hn : xs.length ≤ 4000000) (c h : Int) (hc : crs 4000000 c) (t p ins q : Int) : ∃ ys c' h', Ev (fun k => spec_l16View.f k xs c h t p ins q) (ys, c', h') ∧ vB 12 12100 ys ∧ crs 4000000 c' := by
  unfold spec_l16View.f
  exact vw_l xs hn t p ins q 12 0 c h [] (by omega) hc ⟨by simp, by simp⟩
theorem anyV_ev (xs : List Int) (hn : xs.length ≤ 4000000) (c h : Int) (hc : crs 4000000 c) (t p ins q : Int) : ∃ ys c' h', Ev (fun k => spec_l16Any.f k xs c h t p ins q) (ys, c', h') ∧ vB 13 12100 ys ∧ crs 4000000 c' := by
  unfold spec_l16Any.f
  obtain ⟨ys, c1, h1, e1, hy, hc1⟩ := vw_ev xs hn c h hc t p ins q
  obtain ⟨b, c2, h2, e2, b0, b1, hc2⟩ := below_eq xs hn c1 h1 hc1 10 (by omega) (by omega)
  have hB := vB_mono (m := 13) (z := 12100) hy (by omega) (by omega)
  have hl := hy.1
  by_cases k0 : b = 0
  · obtain ⟨pa, c3, h3, e3, s3, hc3⟩ := anyZ_eq xs hn c2 h2 hc2
    obtain ⟨d, c4, h4, e4, hc4⟩ := once_eq xs hn c3 h3 hc3 2 (by omega) (by omega)
    refine ⟨_, _, _, Ev.bind e1 (Ev.bind (ev_eq e2) (ev_pos k0 (Ev.bind (ev_eq e3) (Ev.bind (ev_eq e4) (ev_pos (by dsimp only; omega) (ev_now rfl)))))), ⟨?_, fun y hy' => ?_⟩, hc4⟩
    · simp; omega
    · rcases List.mem_append.1 hy' with hy' | hy'
      · exact hB.2 y hy'
      · rw [List.mem_singleton] at hy'
        subst hy'
        exact ⟨by dsimp only; omega, Nat.zero_le _⟩
  by_cases k1 : b = 1
  · obtain ⟨pa, c3, h3, e3, s3, hc3⟩ := pathZ_eq xs hn c2 h2 hc2
    obtain ⟨x, c4, h4, e4, m4, hc4⟩ := pick_eq xs hn c3 h3 hc3 [128, 129, 33] (by decide) (by decide)
    simp only [List.mem_cons, List.not_mem_nil, or_false] at m4
    obtain ⟨u, e5, z5⟩ := longx_ev x (by omega) (by omega) 97
    exact ⟨_, _, _, Ev.bind e1 (Ev.bind (ev_eq e2) (ev_neg k0 (ev_pos k1 (Ev.bind (ev_eq e3) (Ev.bind (ev_eq e4) (Ev.bind e5 (Ev.bind (sPut_ev _ _ _ ys (by omega)) (ev_now rfl)))))))), put_B hy pa false u (by omega) (by omega), hc4⟩
  by_cases k2 : b = 2
  · exact ⟨_, _, _, Ev.bind e1 (Ev.bind (ev_eq e2) (ev_neg k0 (ev_neg k1 (ev_pos k2 (Ev.bind (sDrop_ev _ ys (by omega)) (ev_now rfl)))))), drop_B hB _, hc2⟩
  · exact ⟨_, _, _, Ev.bind e1 (Ev.bind (ev_eq e2) (ev_neg k0 (ev_neg k1 (ev_neg k2 (ev_now rfl))))), hB, hc2⟩

/-! ### sameview -/
theorem sSelf_l (xs : List S44) (hn : xs.length ≤ 1048577) : ∀ (i : Nat), i ≤ xs.length → Ev (fun k => spec_SameView.l0 k i xs xs) true
  | i, hi => by
    refine Ev.step (spec_SameView.l0.eq_2 _ _ _) ?_
    by_cases h : i < xs.length
    · refine ev_pos (by omega) (ev_pos (by omega) (ev_pos (by omega) (ev_neg (by simp) ?_)))
      rw [w64s i (by omega)]
      exact sSelf_l xs hn (i + 1) (by omega)
    · exact ev_neg (by omega) (ev_now rfl)
  termination_by i => xs.length - i
theorem sSelf_ev (xs : List S44) (hn : xs.length ≤ 1048577) : Ev (fun k => spec_SameView.f k xs xs) true := by
  unfold spec_SameView.f
  exact ev_pos rfl (sSelf_l xs hn 0 (by omega))
theorem iSelf_l (xs : List S44) (hn : xs.length ≤ 1048577) : ∀ (i : Nat), i ≤ xs.length → Ev (fun k => slices_Equal_Item.l0 k xs xs xs.length i) true
  | i, hi => by
    refine Ev.step (slices_Equal_Item.l0.eq_2 _ _ _ _) ?_
    by_cases h : i < xs.length
    · refine ev_pos (by omega) (ev_pos (by omega) (ev_pos (by omega) (ev_pos (by omega) (ev_neg (by simp) ?_))))
      rw [w64s i (by omega)]
      exact iSelf_l xs hn (i + 1) (by omega)
    · exact ev_neg (by omega) (ev_now rfl)
  termination_by i => xs.length - i
theorem iSelf_ev (xs : List S44) (hn : xs.length ≤ 1048577) : Ev (fun k => impl_SameView.f k xs xs) true := by
  unfold impl_SameView.f slices_Equal_Item.f
  exact Ev.bind (ev_pos rfl (iSelf_l xs hn 0 (by omega))) (ev_now rfl)

/-! ### FnViews -/
theorem dpi_ev (xs : List Int) (hn : xs.length ≤ 4000000) : ∃ ys p d t, Ev (fun k => spec_DrawPutItem.f k xs) (ys, p, d, t) ∧ vB 13 12100 ys ∧ p.size ≤ 100 ∧ t.size ≤ 100 := by
  unfold spec_DrawPutItem.f
  obtain ⟨r, hr⟩ := new_ev xs hn
  obtain ⟨gt, gp, gi, gq, c1, h1, e1, hc1, _⟩ := geo_ev xs hn 0 r ⟨by omega, by omega⟩
  obtain ⟨ys, c2, h2, e2, hy, hc2⟩ := anyV_ev xs hn c1 h1 hc1 gt gp gi gq
  obtain ⟨p, c3, h3, e3, s3, hc3⟩ := anyZ_eq xs hn c2 h2 hc2
  obtain ⟨d, c4, h4, e4, hc4⟩ := once_eq xs hn c3 h3 hc3 2 (by omega) (by omega)
  obtain ⟨b, c5, h5, e5, b0, b1, hc5⟩ := below_eq xs hn c4 h4 hc4 5 (by omega) (by omega)
  obtain ⟨t, c6, h6, e6, z6, hc6⟩ := text_ev xs hn c5 h5 hc5 b (by omega) (by omega)
  exact ⟨ys, p, d, t, Ev.bind hr (Ev.bind (ev_eq e1) (Ev.bind e2 (Ev.bind (ev_eq e3) (Ev.bind (ev_eq e4) (Ev.bind (ev_eq e5) (Ev.bind e6 (ev_now rfl))))))), hy, s3, by omega⟩
theorem idx_skip (P : S44 → Bool) (x : S44) (B : List S44) (hx : P x = true) : ∀ (A : List S44) (i : Nat), (∀ y ∈ A, P y = false) → Lib.idxByFrom (fun _ y => P y) z44 (A ++ x :: B) i = ((i + A.length : Nat) : Int)
  | [], i, _ => by simp [Lib.idxByFrom, hx]
  | y :: A, i, h => by
    have h1 := h y (by simp)
    have ih := idx_skip P x B hx A (i + 1) (fun z hz => h z (by simp [hz]))
    rw [List.cons_append]
    unfold Lib.idxByFrom
    rw [if_neg (by rw [h1]; simp), ih, List.length_cons]
    congr 1; omega
theorem idx_none (P : S44 → Bool) : ∀ (A : List S44) (i : Nat), (∀ y ∈ A, P y = false) → Lib.idxByFrom (fun _ y => P y) z44 A i = -1
  | [], i, _ => by simp [Lib.idxByFrom]
  | y :: A, i, h => by
    have h1 := h y (by simp)
    unfold Lib.idxByFrom
    rw [if_neg (by rw [h1]; simp)]
    exact idx_none P A (i + 1) (fun z hz => h z (by simp [hz]))
theorem dropL_put (x : S44) (xs : List S44) : dropL x.f0 (putL x xs) = dropL x.f0 xs := by
  have e := congrArg (List.filter (fun y : S44 => !(y.f0.toList == x.f0.toList))) (List.takeWhile_append_dropWhile (p := fun y : S44 => Op.bytesLess y.f0.toList x.f0.toList) (l := dropL x.f0 xs))
  rw [List.filter_append] at e
  show List.filter _ (putL x xs) = _
  unfold putL insL
  rw [List.filter_append, List.filter_append, show List.filter (fun y : S44 => !(y.f0.toList == x.f0.toList)) [x] = [] by simp, List.append_nil, e]
  unfold dropL
  rw [List.filter_filter]
  simp
theorem dropL_no (p : ByteArray) (xs : List S44) : ∀ y ∈ dropL p xs, (y.f0.toList == p.toList) = false := by
  intro y hy
  have := (List.mem_filter.1 hy).2
  simpa using this
theorem idx_put (x : S44) (xs : List S44) : ∃ (m : Nat) (h : m < (putL x xs).length), Lib.idxBy (itP x.f0) (putL x xs) z44 = (m : Int) ∧ (putL x xs)[m] = x := by
  have e : putL x xs = (dropL x.f0 xs).takeWhile (fun y => Op.bytesLess y.f0.toList x.f0.toList) ++ x :: (dropL x.f0 xs).dropWhile (fun y => Op.bytesLess y.f0.toList x.f0.toList) := by
    unfold putL insL
    rw [List.append_assoc]; rfl
  have hs := idx_skip (fun y => y.f0.toList == x.f0.toList) x ((dropL x.f0 xs).dropWhile (fun y => Op.bytesLess y.f0.toList x.f0.toList)) (by simp) ((dropL x.f0 xs).takeWhile (fun y => Op.bytesLess y.f0.toList x.f0.toList)) 0 (fun y hy => dropL_no _ _ y ((List.takeWhile_sublist _).subset hy))
  rw [← e, Nat.zero_add] at hs
  have hl : ((dropL x.f0 xs).takeWhile (fun y => Op.bytesLess y.f0.toList x.f0.toList)).length < (putL x xs).length := by rw [e]; simp
  refine ⟨_, hl, hs, ?_⟩
  simp only [e]
  rw [List.getElem_append_right (Nat.le_refl _)]
  simp
theorem fv_l0 (p : ByteArray) (d : Bool) (t : ByteArray) (out less : List S44) (hn : out.length ≤ 1000) (hl : less.length ≤ 1000) (hs : ∀ y ∈ out, y.f2.size ≤ 1048576) (m : Nat) (hm : m < out.length) (hx : out[m] = ⟨p, d, t⟩) (hd : Lib.idxBy (itP p) less z44 = -1) : ∀ (i : Nat) (a : Int), i ≤ out.length → 0 ≤ a → a ≤ 32768 * i → pgIn (out.drop i) a = pgIn out 0 → Ev (fun k => laws_FnViews.l0 k (m : Int) a (i : Int) p d t out less) true
  | i, a, hi, h0, h1, he => by
    refine Ev.step (laws_FnViews.l0.eq_2 _ _ _ _ _ _ _ _) ?_
    by_cases h : i < out.length
    · refine ev_pos (by omega) (ev_pos (by omega) ?_)
      rw [rd_itemI out i h, w64s i (by omega)]
      rw [drop_at out i h] at he
      simp only [pgIn] at he
      have hz := hs _ (List.getElem_mem h)
      by_cases hdd : out[i].f1 = true
      · rw [if_pos hdd] at he
        exact ev_pos hdd (fv_l0 p d t out less hn hl hs m hm hx hd (i + 1) a (by omega) h0 (by omega) he)
      · rw [if_neg hdd] at he
        have hb := pgF_le (out[i].f2.size : Int) (by omega)
        refine ev_neg hdd (Ev.bind (ev_eq (sPagesFor_eq _ (by omega) (by omega))) ?_)
        rw [w64 (x := a + pgF (out[i].f2.size : Int)) (by omega) (by omega)]
        exact fv_l0 p d t out less hn hl hs m hm hx hd (i + 1) _ (by omega) (by omega) (by omega) he
    · rw [List.drop_of_length_le (by omega)] at he
      refine ev_neg (by omega) (ev_pos (by omega) (ev_pos (by omega) (ev_pos (by omega) ?_)))
      rw [rd_itemI out m hm, hx]
      refine ev_pos (by simp) (Ev.bind (ev_eq (iItemAt_eq less p (by omega))) ?_)
      rw [hd]
      exact ev_pos rfl (Ev.bind (iPagesIn_ev out (by omega) hs) (ev_pos he.symm (Ev.bind (iSelf_ev out (by omega)) (ev_now rfl))))
  termination_by i => out.length - i
theorem FnViews : laws_FnViews.Law := by
  intro xs hx
  apply Ev.rounds
  unfold laws_FnViews.f laws_big.f
  refine Ev.bind (ev_now rfl) ?_
  by_cases hb : (xs.length : Int) > 1048576
  · exact ev_pos (by simpa using hb) (ev_now rfl)
  refine ev_neg (by simpa using hb) ?_
  obtain ⟨ys, p, d, t, hd, hB, hp, ht⟩ := dpi_ev xs (by omega)
  have hl := hB.1
  have pB := put_B hB p d t (by omega) (by omega)
  have pl := pB.1
  have dl := dropL_len p ys
  obtain ⟨m, hm, em, ex⟩ := idx_put ⟨p, d, t⟩ ys
  have hi := iDrop_eq p (putL ⟨p, d, t⟩ ys) (by omega)
  rw [show dropL p (putL ⟨p, d, t⟩ ys) = dropL p ys from dropL_put ⟨p, d, t⟩ ys] at hi
  refine Ev.step (laws_FnViews.j0.eq_2 _) ?_
  refine Ev.bind hd (Ev.bind (ev_eq (iPut_eq p d t ys (by omega))) (Ev.bind (ev_eq hi) (Ev.bind (sPut_ev p d t ys (by omega)) (Ev.bind (sSelf_ev _ (by omega)) (ev_pos rfl (Ev.bind (sDrop_ev p ys (by omega)) (Ev.bind (sSelf_ev _ (by omega)) ?_)))))))
  refine Ev.step (laws_FnViews.j1.eq_2 _ _ _ _ _ _) ?_
  refine ev_neg (by simp) ?_
  refine Ev.step (laws_FnViews.j2.eq_2 _ _ _ _ _) ?_
  refine Ev.bind (ev_eq (iItemAt_eq _ p (by omega))) ?_
  rw [show Lib.idxBy (itP p) (putL ⟨p, d, t⟩ ys) z44 = (m : Int) from em]
  exact fv_l0 p d t (putL ⟨p, d, t⟩ ys) (dropL p ys) (by omega) (by omega) (fun y hy => by have := pB.2 y hy; omega) m hm ex (idx_none _ _ 0 (dropL_no p ys)) 0 0 (by omega) (by omega) (by omega) rfl

end Go.Proofs.Ytljnnmpfeningaa.Pure
