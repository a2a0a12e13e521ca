/- The pure statement of FnExactViewOk is proved: for all arguments within the row's own bounds the Lean function that the law's walk comes to answers true. Conditions: none beyond these bounds. -/
import Derived.Test.YtabgpbmaoelohaaDoorStFnExactViewOk
import Derived.Test.YtabgpbmaoelohaaDoorBase
namespace Go.Proofs.YtabgpbmaoelohaaDoor.Pure
open Go.RowKit Go.Proofs.YtabgpbmaoelohaaDoor.PFnExactViewOk Go.Proofs.YtabgpbmaoelohaaDoorW.PrintWords Go.Proofs.YtabgpbmaoelohaaDoorW.PrintLast Go.Proofs.YtabgpbmaoelohaaDoor.Base
set_option linter.unusedVariables false
set_option linter.unusedSimpArgs false
/-! ### lin -/
theorem l01In_eq (a b c : Int) : spec_l01In.f a b c = some (decide (b ≤ a ∧ a ≤ c)) := by
  unfold spec_l01In.f
  by_cases h : a ≥ b
  · rw [if_pos h]; congr 1; simp; omega
  · rw [if_neg h]; congr 1; simp; omega

/-! ### within -/
theorem within_eq (a b c : Int) : impl_within.f a b c = some (decide (b ≤ a ∧ a ≤ c)) := by
  unfold impl_within.f
  by_cases h : a ≥ b
  · rw [if_pos h]; congr 1; simp; omega
  · rw [if_neg h]; congr 1; simp; omega

/-! ### geook -/
def gOk (t p i q : Int) : Bool := decide ((1 ≤ t ∧ t ≤ 3) ∧ (5 ≤ p ∧ p ≤ 12) ∧ (2 ≤ i ∧ i ≤ 6) ∧ (1 ≤ q ∧ q ≤ p - 4))
theorem gOk_parts {t p i q : Int} (h : gOk t p i q = true) : (1 ≤ t ∧ t ≤ 3) ∧ (5 ≤ p ∧ p ≤ 12) ∧ (2 ≤ i ∧ i ≤ 6) ∧ (1 ≤ q ∧ q ≤ p - 4) := by simpa [gOk] using h
theorem sGeo_eq (t p i q : Int) : spec_GeoOk.f t p i q = some (gOk t p i q) := by
  unfold spec_GeoOk.f gOk
  rw [l01In_eq, Option.bind_some]
  by_cases h1 : 1 ≤ t ∧ t ≤ 3
  · rw [if_pos (by simpa using h1), l01In_eq, Option.bind_some]
    by_cases h2 : 5 ≤ p ∧ p ≤ 12
    · rw [if_pos (by simpa using h2), l01In_eq, Option.bind_some]
      by_cases h3 : 2 ≤ i ∧ i ≤ 6
      · rw [if_pos (by simpa using h3), w64 (x := p - 4) (by omega) (by omega), l01In_eq, Option.bind_some]
        congr 1
        simp [h1, h2, h3]
      · rw [if_neg (by simpa using h3)]; congr 1; symm; rw [decide_eq_false_iff_not]; exact fun h => h3 h.2.2.1
    · rw [if_neg (by simpa using h2)]; congr 1; symm; rw [decide_eq_false_iff_not]; exact fun h => h2 h.2.1
  · rw [if_neg (by simpa using h1)]; congr 1; symm; rw [decide_eq_false_iff_not]; exact fun h => h1 h.1
theorem iGeo_eq (t p i q : Int) : impl_GeoOk.f t p i q = some (gOk t p i q) := by
  unfold impl_GeoOk.f gOk
  rw [within_eq, Option.bind_some]
  by_cases h1 : 1 ≤ t ∧ t ≤ 3
  · rw [if_pos (by simpa using h1), within_eq, Option.bind_some]
    by_cases h2 : 5 ≤ p ∧ p ≤ 12
    · rw [if_pos (by simpa using h2), within_eq, Option.bind_some]
      by_cases h3 : 2 ≤ i ∧ i ≤ 6
      · rw [if_pos (by simpa using h3), w64 (x := p - 4) (by omega) (by omega), within_eq, Option.bind_some]
        congr 1
        simp [h1, h2, h3]
      · rw [if_neg (by simpa using h3)]; congr 1; symm; rw [decide_eq_false_iff_not]; exact fun h => h3 h.2.2.1
    · rw [if_neg (by simpa using h2)]; congr 1; symm; rw [decide_eq_false_iff_not]; exact fun h => h2 h.2.1
  · rw [if_neg (by simpa using h1)]; congr 1; symm; rw [decide_eq_false_iff_not]; exact fun h => h1 h.1
/-- The words of a part. -/
def pW (p i : Int) : Int := 38 + 8 * i + 4 * p

/-! ### split47 -/
/-- Cut at each byte 47. -/
def sp47 : List UInt8 → List (List UInt8)
  | [] => [[]]
  | b :: l => if b = 47 then [] :: sp47 l else match sp47 l with
    | [] => [[b]]
    | p :: r => (b :: p) :: r
theorem sp47_ne (l : List UInt8) : sp47 l ≠ [] := by
  cases l with
  | nil => simp [sp47]
  | cons b l => unfold sp47; split; · simp
                split <;> simp
theorem sp47_len (l : List UInt8) : (sp47 l).length ≤ l.length + 1 := by
  induction l with
  | nil => simp [sp47]
  | cons b l ih =>
    unfold sp47
    split
    · simp; omega
    · split
      · simp
      · rename_i p r h; rw [h] at ih; simp at ih ⊢; omega
theorem sp47_slash (l : List UInt8) : sp47 (47 :: l) = [] :: sp47 l := by simp [sp47]
theorem sp47_other (b : UInt8) (l : List UInt8) (hb : b ≠ 47) (p : List UInt8) (r : List (List UInt8)) (h : sp47 l = p :: r) : sp47 (b :: l) = (b :: p) :: r := by simp [sp47, hb, h]
/-- The pieces of 'l', the first of them begun with 'cur'. -/
def pcs (cur l : List UInt8) : List (List UInt8) := match sp47 l with
  | [] => [cur]
  | p :: r => (cur ++ p) :: r
theorem pcs_nil (l : List UInt8) : pcs [] l = sp47 l := by
  unfold pcs
  split
  · rename_i h; exact absurd h (sp47_ne l)
  · rename_i h; simp [h]
theorem pcs_end (cur : List UInt8) : pcs cur [] = [cur] := by simp [pcs, sp47]
theorem pcs_slash (cur l : List UInt8) : pcs cur (47 :: l) = cur :: sp47 l := by simp [pcs, sp47]
theorem pcs_other (cur : List UInt8) (b : UInt8) (l : List UInt8) (hb : b ≠ 47) : pcs cur (b :: l) = pcs (cur ++ [b]) l := by
  unfold pcs
  obtain ⟨p, r, h⟩ := List.exists_cons_of_ne_nil (sp47_ne l)
  rw [sp47_other b l hb p r h, h]
  simp
theorem index47_cons (b : UInt8) (l : List UInt8) : Lib.index (b :: l) [47] = if b = 47 then 0 else if Lib.index l [47] == -1 then -1 else Lib.index l [47] + 1 := by
  rw [Lib.index]
  by_cases h : b = 47
  · subst h; simp [List.isPrefixOf]
  · have : ([47] : List UInt8).isPrefixOf (b :: l) = false := by simp [List.isPrefixOf]; exact fun e => h e.symm
    rw [this, if_neg h]; rfl
theorem splitK47 : ∀ (l : List UInt8), Lib.splitK [47] 0 (l.count 47) l = sp47 l
  | [] => rfl
  | b :: l => by
    have ih := splitK47 l
    by_cases h : b = 47
    · subst h
      have e : Lib.index (47 :: l) [47] = 0 := by rw [index47_cons]; simp
      rw [List.count_cons_self, Lib.splitK, e]
      simp [sp47, ih]
    · rw [List.count_cons_of_ne (by simpa using h)]
      obtain ⟨p, r, hs⟩ := List.exists_cons_of_ne_nil (sp47_ne l)
      rw [sp47_other b l h p r hs]
      rw [hs] at ih
      cases hc : l.count 47 with
      | zero =>
        rw [hc] at ih
        simp only [Lib.splitK] at ih ⊢
        simp at ih
        obtain ⟨rfl, rfl⟩ := ih
        rfl
      | succ n =>
        rw [hc] at ih
        have hi := index47_cons b l
        rw [if_neg h] at hi
        have hg := Lib.index_ge l [47]
        by_cases hm : Lib.index l [47] = -1
        · rw [hm] at hi
          simp at hi
          rw [Lib.splitK, hm] at ih
          rw [Lib.splitK, hi]
          simp at ih ⊢
          exact ⟨ih.1, ih.2⟩
        · rw [if_neg (by simpa using hm)] at hi
          obtain ⟨j, hj⟩ : ∃ j : Nat, Lib.index l [47] = j := ⟨(Lib.index l [47]).toNat, by omega⟩
          rw [hj] at hi hm
          rw [Lib.splitK, hj, if_neg (by simp)] at ih
          have e2 : ((j : Int) + 1).toNat = j + 1 := by omega
          rw [Lib.splitK, hi, if_neg (by simp; omega), e2]
          simp at ih ⊢
          exact ⟨by rw [← ih.1], by rw [← ih.2]⟩
theorem split47B (s : ByteArray) : (Lib.splitB ⟨#[47]⟩ 0 (Lib.countB s ⟨#[47]⟩) s).map (·.data.toList) = sp47 s.data.toList := by
  rw [Lib.splitB_data]
  have : Lib.countB s ⟨#[47]⟩ = s.data.toList.count 47 := by unfold Lib.countB; exact Lib.count_one 47 _
  rw [this]
  exact splitK47 _
/-- 'l' ends with a 47. -/
def end47 : List UInt8 → Bool
  | [] => false
  | [b] => b == 47
  | _ :: b :: l => end47 (b :: l)
def two47 : List UInt8 → Bool
  | [] => false
  | [_] => false
  | a :: b :: l => (a == 47 && b == 47) || two47 (b :: l)
theorem contains47 : ∀ l : List UInt8, Lib.contains l [47, 47] = two47 l
  | [] => rfl
  | [b] => by simp [Lib.contains, Lib.index, two47, List.isPrefixOf]
  | a :: b :: l => by
    have ih := contains47 (b :: l)
    have hg := Lib.index_ge (b :: l) [47, 47]
    unfold Lib.contains at ih ⊢
    rw [Lib.index, two47]
    by_cases h : a = 47 ∧ b = 47
    · obtain ⟨rfl, rfl⟩ := h; simp [List.isPrefixOf]
    · have e : ([47, 47] : List UInt8).isPrefixOf (a :: b :: l) = false := by
        simp [List.isPrefixOf]; intro h1 h2; exact h ⟨h1.symm, h2.symm⟩
      have e2 : (a == 47 && b == 47) = false := by simp; intro h1; exact fun h2 => h ⟨h1, h2⟩
      rw [e, e2, Bool.false_or, ← ih]
      by_cases hm : Lib.index (b :: l) [47, 47] = -1
      · rw [hm]; rfl
      · rw [if_neg (by simp), if_neg (by simpa using hm)]
        rw [decide_eq_decide]; omega
theorem suffix47 : ∀ l : List UInt8, Lib.hasSuffix l [47] = end47 l
  | [] => rfl
  | [b] => by
    unfold Lib.hasSuffix
    simp [end47, List.isSuffixOf, List.isPrefixOf]
    rw [Bool.eq_iff_iff, beq_iff_eq, beq_iff_eq]; exact eq_comm
  | a :: b :: l => by
    rw [end47, ← suffix47 (b :: l)]
    unfold Lib.hasSuffix
    rw [Bool.eq_iff_iff, List.isSuffixOf_iff_suffix, List.isSuffixOf_iff_suffix]
    constructor
    · rintro ⟨t, ht⟩
      cases t with
      | nil => simp at ht
      | cons c t => simp at ht; exact ⟨t, ht.2⟩
    · rintro ⟨t, ht⟩; exact ⟨a :: t, by simp [ht]⟩
def emp (l : List (List UInt8)) : Bool := l.any (·.isEmpty)
theorem emp_sp : ∀ (l : List UInt8), (∀ b, b ≠ 47 → (two47 (b :: l) || end47 (b :: l)) = emp (sp47 l).tail) ∧ (two47 (47 :: l) || end47 (47 :: l)) = emp (sp47 l)
  | [] => by
    refine ⟨fun b hb => ?_, rfl⟩
    simp [two47, end47, emp, sp47, hb]
  | c :: l => by
    obtain ⟨h1, h2⟩ := emp_sp l
    by_cases hc : c = 47
    · subst hc
      refine ⟨fun b hb => ?_, ?_⟩
      · rw [sp47_slash, List.tail_cons, ← h2, two47, end47]
        simp [show (b == 47) = false from beq_eq_false_iff_ne.2 hb]
      · simp [two47, sp47_slash, emp]
    · obtain ⟨p, r, hs⟩ := List.exists_cons_of_ne_nil (sp47_ne l)
      have := h1 c hc
      rw [hs, List.tail_cons] at this
      refine ⟨fun b hb => ?_, ?_⟩
      · rw [sp47_other c l hc p r hs, List.tail_cons, ← this, two47, end47]; simp [show (b == 47) = false from beq_eq_false_iff_ne.2 hb]
      · rw [sp47_other c l hc p r hs, show emp ((c :: p) :: r) = emp r by simp [emp], ← this, two47, end47]; simp [show (c == 47) = false from beq_eq_false_iff_ne.2 hc]
/-- A byte of a name. -/
def nb (b : UInt8) : Bool := (decide (97 ≤ b.toNat) && decide (b.toNat ≤ 122)) || (decide (48 ≤ b.toNat) && decide (b.toNat ≤ 57))
def badB (b : UInt8) : Bool := !(nb b || b == 47)
theorem decode_low (s : ByteArray) (i : Nat) (h : (s.get! i).toNat < 128) : Utf8.decode s i = ((s.get! i).toNat, 1) := by
  unfold Utf8.decode
  simp only [Nat.add_zero]
  rw [if_pos h]
theorem decode_high (s : ByteArray) (i : Nat) (h : ¬ (s.get! i).toNat < 128) : 128 ≤ (Utf8.decode s i).1 := by
  unfold Utf8.decode
  simp only [Nat.add_zero]
  rw [if_neg h]
  have hr : 128 ≤ Utf8.runeError := by decide
  repeat' (first | exact hr | (split))
  all_goals first | exact hr | assumption | (simp only [ge_iff_le, Bool.and_eq_true, decide_eq_true_eq] at *; omega)
theorem idx_bad (p : Nat → Bool) (hp : ∀ r, p r = !((97 ≤ r && r ≤ 122) || (48 ≤ r && r ≤ 57) || r == 47)) (s : ByteArray) : ∀ (f pos : Nat), s.size ≤ pos + f →
    decide (0 ≤ Lib.idxFuncFrom p true s f pos) = (s.data.toList.drop pos).any badB
  | 0, pos, h => by
    rw [List.drop_of_length_le (by rw [Array.length_toList]; exact h)]
    simp [Lib.idxFuncFrom]
  | f + 1, pos, h => by
    unfold Lib.idxFuncFrom
    by_cases hlt : pos < s.size
    · rw [if_pos hlt]
      have hg : s.get! pos = s.data.toList[pos]'(by rw [Array.length_toList]; exact hlt) := by
        show s.data[pos]! = _
        rw [getElem!_pos s.data pos hlt]; simp
      rw [List.drop_eq_getElem_cons (by rw [Array.length_toList]; exact hlt), List.any_cons, ← hg]
      by_cases hb : (s.get! pos).toNat < 128
      · rw [decode_low s pos hb, hp]
        have e : (!((decide (97 ≤ (s.get! pos).toNat) && decide ((s.get! pos).toNat ≤ 122)) || (decide (48 ≤ (s.get! pos).toNat) && decide ((s.get! pos).toNat ≤ 57)) || (s.get! pos).toNat == 47)) = badB (s.get! pos) := by
          unfold badB nb
          congr 2
          rw [Bool.eq_iff_iff, beq_iff_eq, beq_iff_eq, ← UInt8.toNat_inj]; rfl
        rw [e]
        cases hq : badB (s.get! pos) with
        | true => rw [if_pos rfl]; simp
        | false => rw [if_neg (by simp), Bool.false_or]; exact idx_bad p hp s f (pos + 1) (by omega)
      · have hd := decode_high s pos hb
        have e1 : p (Utf8.decode s pos).1 = true := by
          rw [hp]; simp; omega
        have e2 : badB (s.get! pos) = true := by
          unfold badB nb
          have : (s.get! pos == 47) = false := by
            rw [beq_eq_false_iff_ne]; intro e; rw [e] at hb; exact hb (by decide)
          rw [this]; simp; omega
        rw [if_pos e1, e2]; simp
    · rw [if_neg hlt, List.drop_of_length_le (by rw [Array.length_toList]; exact Nat.le_of_not_lt hlt)]; simp

/-! ### splitpath -/
def mkB (l : List UInt8) : ByteArray := ⟨l.toArray⟩
theorem mkB_list (l : List UInt8) : (mkB l).data.toList = l := rfl
theorem mkB_size (l : List UInt8) : (mkB l).size = l.length := b_size l
theorem mkB_data (b : ByteArray) : mkB b.data.toList = b := b_inj rfl
theorem mkB_map {xs : List ByteArray} {l : List (List UInt8)} (h : xs.map (·.data.toList) = l) : xs = l.map mkB := by
  rw [← h, List.map_map]
  have : (mkB ∘ fun x : ByteArray => x.data.toList) = id := by funext b; exact mkB_data b
  rw [this, List.map_id]
theorem btn (a : ByteArray) (i : Nat) (h : i < a.data.toList.length) : bt a (i : Int) = ((a.data.toList[i]).toNat : Int) := by
  have h2 : i < a.size := by rw [b_len] at h; exact h
  rw [← bt_at a (i : Int) (by simpa using h2)]
  simp only [Int.toNat_natCast]; rfl
def fin47 (out : List ByteArray) (long : Bool) (cur rest : List UInt8) : List ByteArray × Int :=
  if rest.any badB then ([], 1) else if emp (pcs cur rest) then ([], 1) else if long || (pcs cur rest).any (fun p => decide (7 < p.length)) then ([], 2) else (out ++ (pcs cur rest).map mkB, 0)
theorem nb_i (x : UInt8) : (decide ((97 : Int) ≤ (x.toNat : Int) ∧ (x.toNat : Int) ≤ 122) || decide ((48 : Int) ≤ (x.toNat : Int) ∧ (x.toNat : Int) ≤ 57)) = nb x := by
  unfold nb
  rw [Bool.eq_iff_iff]
  simp
  omega
theorem fin_bad (out : List ByteArray) (long : Bool) (cur rest : List UInt8) (x : UInt8) (h : badB x = true) : fin47 out long cur (x :: rest) = ([], 1) := by
  unfold fin47
  rw [if_pos (by simp [h])]
theorem fin_nb (out : List ByteArray) (long : Bool) (cur rest : List UInt8) (x : UInt8) (h : nb x = true) (h47 : x ≠ 47) : fin47 out long cur (x :: rest) = fin47 out long (cur ++ [x]) rest := by
  unfold fin47
  rw [pcs_other cur x rest h47, List.any_cons, show badB x = false by simp [badB, h], Bool.false_or]
theorem bad47 : badB 47 = false := by decide
theorem fin_empty (out : List ByteArray) (long : Bool) (rest : List UInt8) : fin47 out long [] (47 :: rest) = ([], 1) := by
  unfold fin47
  rw [pcs_slash, show emp ([] :: sp47 rest) = true by simp [emp]]
  split <;> rfl
theorem fin_slash (out : List ByteArray) (long : Bool) (cur rest : List UInt8) (hc : cur ≠ []) : fin47 out long cur (47 :: rest) = fin47 (out ++ [mkB cur]) (long || decide (7 < cur.length)) [] rest := by
  unfold fin47
  rw [pcs_slash, pcs_nil, List.any_cons, bad47, Bool.false_or]
  rw [show emp (cur :: sp47 rest) = emp (sp47 rest) by simp [emp, hc]]
  simp only [List.any_cons, List.map_cons, List.append_assoc, List.singleton_append, Bool.or_assoc]
theorem fin_end0 (out : List ByteArray) (long : Bool) : fin47 out long [] [] = ([], 1) := by
  unfold fin47
  rw [pcs_end]; rfl
theorem fin_end (out : List ByteArray) (long : Bool) (cur : List UInt8) (hc : cur ≠ []) : fin47 out long cur [] = if (long || decide (7 < cur.length)) then ([], 2) else (out ++ [mkB cur], 0) := by
  unfold fin47
  rw [pcs_end]
  simp [emp, hc]
theorem sSplit_l (a : ByteArray) (hn : a.size ≤ 60) : ∀ (i bg : Nat) (out : List ByteArray) (long : Bool), bg ≤ i → i ≤ a.size → out.length ≤ i → Ev (fun k => spec_SplitPath.l0 k a [] out long (bg : Int) (i : Int)) (fin47 out long ((a.data.toList.take i).drop bg) (a.data.toList.drop i))
  | i, bg, out, long, hb, hi, ho => by
    refine Ev.step (spec_SplitPath.l0.eq_2 _ _ _ _ _ _) ?_
    have hl := b_len a
    have hcl : ((a.data.toList.take i).drop bg).length = i - bg := by rw [List.length_drop, List.length_take]; omega
    have hE : a.extract (bg : Int).toNat (i : Int).toNat = mkB ((a.data.toList.take i).drop bg) := b_inj (by rw [b_cut, mkB_list]; rfl)
    have hw : wrap64 ((i : Int) - (bg : Int)) = (i : Int) - bg := w64 (by omega) (by omega)
    have hlim : out.length < 8796093022208 := by omega
    by_cases h : i < a.size
    · have h' : i < a.data.toList.length := by omega
      rw [drop_at a.data.toList i h']
      refine ev_pos (by omega) (ev_pos (by omega) (ev_pos (by omega) ?_))
      refine Ev.step (spec_SplitPath.j2.eq_2 _ _ _ _ _ _ _) ?_
      rw [btn a i h']
      have htk : (a.data.toList.take (i + 1)).drop bg = (a.data.toList.take i).drop bg ++ [a.data.toList[i]] := by
        rw [List.take_succ_eq_append_getElem h', List.drop_append_of_le_length (by rw [List.length_take]; omega)]
      have htk2 : (a.data.toList.take (i + 1)).drop (i + 1) = [] := List.drop_of_length_le (by rw [List.length_take]; omega)
      generalize hx : a.data.toList[i] = x at htk
      by_cases h47 : x = 47
      · subst h47
        refine ev_neg (by decide) ?_
        by_cases hbi : bg = i
        · subst hbi
          refine ev_pos rfl (ev_now ?_)
          rw [show (a.data.toList.take bg).drop bg = [] from List.eq_nil_of_length_eq_zero (by omega), fin_empty]
        · refine ev_neg (by omega) ?_
          rw [fin_slash _ _ _ _ (by intro e; rw [e] at hcl; simp at hcl; omega), hcl]
          have ih := fun lg => sSplit_l a hn (i + 1) (i + 1) (out ++ [mkB ((a.data.toList.take i).drop bg)]) lg (Nat.le_refl _) (by omega) (by simp; omega)
          rw [htk2] at ih
          cases long with
          | true =>
            refine ev_pos rfl (ev_pos (by omega) (ev_pos (by omega) (ev_pos (by omega) (ev_pos hlim ?_))))
            rw [hE, w64s i (by omega)]
            exact ih true
          | false =>
            refine ev_neg (by simp) (ev_pos (by omega) (ev_pos (by omega) (ev_pos (by omega) (ev_pos hlim ?_))))
            rw [hE, w64s i (by omega), hw]
            have e : decide ((i : Int) - (bg : Int) > 7) = decide (7 < i - bg) := by rw [decide_eq_decide]; omega
            rw [e, Bool.false_or]
            exact ih _
      · have hne : (((x.toNat : Int)) != 47) = true := by
          rw [bne_iff_ne]; intro e; exact h47 (UInt8.toNat_inj.1 (by have : x.toNat = 47 := by omega
                                                                     rw [this]; rfl))
        have hxl : x.toNat < 256 := UInt8.toNat_lt x
        refine ev_pos hne (ev_pos (by omega) (ev_pos (by omega) ?_))
        rw [w64 (by omega) (by omega)]
        have hj : ∀ v, v = !nb x → Ev (fun k => spec_SplitPath.j3 k a [] out long (bg : Int) (i : Int) v) (fin47 out long ((a.data.toList.take i).drop bg) (x :: a.data.toList.drop (i + 1))) := by
          intro v hv
          refine Ev.step (spec_SplitPath.j3.eq_2 _ _ _ _ _ _ _) ?_
          cases hq : nb x with
          | false => 
            rw [hq] at hv
            exact ev_pos hv (ev_now (fin_bad _ _ _ _ _ (by simp [badB, hq, h47])).symm)
          | true =>
            rw [hq] at hv
            subst hv
            refine ev_neg (by simp) ?_
            rw [fin_nb _ _ _ _ _ hq h47, w64s i (by omega), ← htk]
            exact sSplit_l a hn (i + 1) bg out long (by omega) (by omega) (by omega)
        have hnb := nb_i x
        refine Ev.bind (ev_eq (l01In_eq _ _ _)) ?_
        by_cases q1 : (97 : Int) ≤ (x.toNat : Int) ∧ (x.toNat : Int) ≤ 122
        · refine ev_pos (by simpa using q1) (hj _ ?_)
          rw [← hnb, decide_eq_true q1]; rfl
        · refine ev_neg (by simpa using q1) (Ev.bind (ev_eq (l01In_eq _ _ _)) (hj _ ?_))
          rw [← hnb, decide_eq_false q1, Bool.false_or]
    · have he : i = a.size := by omega
      refine ev_pos (by omega) (ev_neg (by omega) ?_)
      refine Ev.step (spec_SplitPath.j2.eq_2 _ _ _ _ _ _ _) ?_
      refine ev_neg (by simp) ?_
      rw [List.drop_of_length_le (by omega : a.data.toList.length ≤ i)]
      by_cases hbi : bg = i
      · subst hbi
        refine ev_pos rfl (ev_now ?_)
        rw [show (a.data.toList.take bg).drop bg = [] from List.eq_nil_of_length_eq_zero (by omega), fin_end0]
      · refine ev_neg (by omega) ?_
        rw [fin_end _ _ _ (by intro e; rw [e] at hcl; simp at hcl; omega), hcl]
        have last : ∀ (o : List ByteArray) (lg : Bool), Ev (fun k => spec_SplitPath.l0 k a [] o lg ((i + 1 : Nat) : Int) ((i + 1 : Nat) : Int)) (if lg then ([], 2) else (o, 0)) := by
          intro o lg
          refine Ev.step (spec_SplitPath.l0.eq_2 _ _ _ _ _ _) ?_
          refine ev_neg (by omega) ?_
          cases lg with
          | true => exact ev_pos rfl (ev_now rfl)
          | false => exact ev_neg (by simp) (ev_now rfl)
        cases long with
        | true =>
          refine ev_pos rfl (ev_pos (by omega) (ev_pos (by omega) (ev_pos (by omega) (ev_pos hlim ?_))))
          rw [hE, w64s i (by omega)]
          exact ev_to (last _ _) (by simp)
        | false =>
          refine ev_neg (by simp) (ev_pos (by omega) (ev_pos (by omega) (ev_pos (by omega) (ev_pos hlim ?_))))
          rw [hE, w64s i (by omega), hw]
          have e : decide ((i : Int) - (bg : Int) > 7) = decide (7 < i - bg) := by rw [decide_eq_decide]; omega
          rw [e, Bool.false_or]
          exact last _ _
  termination_by i => a.size + 1 - i
/-- What SplitPath comes to. -/
def spP (a : ByteArray) : List ByteArray × Int :=
  if 60 < a.size then ([], 1) else match a.data.toList with
    | [] => ([], 1)
    | c :: t => if c ≠ 47 then ([], 1) else if t = [] then ([], 0) else fin47 [] false [] t
theorem sSplit_ev (a : ByteArray) : Ev (fun k => spec_SplitPath.f k a) (spP a) := by
  unfold spec_SplitPath.f spP
  simp only [Option.bind_some]
  have hl := b_len a
  have j1 : Ev (fun k => spec_SplitPath.j0 k a [] true) ([], 1) := by
    refine Ev.step (spec_SplitPath.j0.eq_2 _ _ _) ?_
    exact ev_pos rfl (ev_now rfl)
  by_cases h : 60 < a.size
  · rw [if_pos h]; exact ev_pos (by omega) j1
  · rw [if_neg h]
    refine ev_neg (by omega) ?_
    rcases hq : a.data.toList with _ | ⟨c, t⟩
    · rw [hq] at hl; simp at hl
      exact ev_pos (by omega) j1
    · have hl' := hl
      rw [hq] at hl'; simp at hl'
      refine ev_neg (by omega) (ev_pos (by omega) ?_)
      have hb := btn a 0 (by omega)
      have e0 : a.data.toList[0]'(by omega) = c := by simp [hq]
      rw [e0] at hb
      rw [show bt a 0 = (c.toNat : Int) from hb]
      refine Ev.step (spec_SplitPath.j0.eq_2 _ _ _) ?_
      by_cases h47 : c = 47
      · subst h47
        refine ev_neg (by decide) ?_
        rw [b_toList, hq]
        simp only [ne_eq, not_true, if_false]
        by_cases ht : t = []
        · subst ht; exact ev_pos rfl (ev_now rfl)
        · rw [if_neg ht]
          refine ev_neg (by simp [ht]) (ev_to (sSplit_l a (by omega) 1 1 [] false (Nat.le_refl _) (by omega) (by simp)) ?_)
          rw [hq]; simp
      · refine ev_pos ?_ (ev_now (by simp [h47]))
        rw [bne_iff_ne]; intro e; exact h47 (UInt8.toNat_inj.1 (by have : c.toNat = 47 := by omega
                                                                   rw [this]; rfl))
def long7 (xs : List ByteArray) : Bool := xs.any (fun p => decide (7 < p.size))
theorem iIdx_l (xs : List ByteArray) (hn : xs.length ≤ 1000000) : ∀ i : Nat, i ≤ xs.length → ∃ r : Int, Ev (fun k => slices_IndexFunc_string.l0 k xs (xs.length : Int) (i : Int)) r ∧ decide (r ≥ 0) = long7 (xs.drop i)
  | i, hi => by
    by_cases h : i < xs.length
    · rw [drop_at xs i h]
      by_cases hs : 7 < xs[i].size
      · refine ⟨i, ?_, ?_⟩
        · refine Ev.step (slices_IndexFunc_string.l0.eq_2 _ _ _) ?_
          refine ev_pos (by omega) (ev_pos (by omega) (ev_pos (by omega) (Ev.bind (ev_eq rfl) (ev_pos ?_ (ev_now rfl)))))
          rw [rdOf_at _ xs i h]; exact decide_eq_true (by omega)
        · rw [show long7 (xs[i] :: xs.drop (i + 1)) = (decide (7 < xs[i].size) || long7 (xs.drop (i + 1))) from rfl, decide_eq_true hs]; simp
      · obtain ⟨r, hr, he⟩ := iIdx_l xs hn (i + 1) (by omega)
        refine ⟨r, ?_, ?_⟩
        · refine Ev.step (slices_IndexFunc_string.l0.eq_2 _ _ _) ?_
          refine ev_pos (by omega) (ev_pos (by omega) (ev_pos (by omega) (Ev.bind (ev_eq rfl) (ev_neg ?_ ?_))))
          · rw [rdOf_at _ xs i h]; simp; omega
          · rw [w64s i (by omega)]; exact hr
        · rw [he, show long7 (xs[i] :: xs.drop (i + 1)) = (decide (7 < xs[i].size) || long7 (xs.drop (i + 1))) from rfl, decide_eq_false hs]; simp
    · refine ⟨-1, ?_, ?_⟩
      · refine Ev.step (slices_IndexFunc_string.l0.eq_2 _ _ _) ?_
        exact ev_neg (by omega) (ev_now rfl)
      · rw [List.drop_of_length_le (by omega)]; rfl
  termination_by i => xs.length - i
theorem iHas_ev (xs : List ByteArray) (hn : xs.length ≤ 1000000) : Ev (fun k => slices_ContainsFunc_string.f k xs ()) (long7 xs) := by
  unfold slices_ContainsFunc_string.f slices_IndexFunc_string.f
  obtain ⟨r, hr, he⟩ := iIdx_l xs hn 0 (by omega)
  exact Ev.bind hr (ev_now (by rw [he, List.drop_zero]))
theorem iBad (a : ByteArray) : strings_ContainsFunc.f a () = some (a.data.toList.any badB) := by
  unfold strings_ContainsFunc.f
  congr 1
  have := idx_bad (fun r => (impl_SplitPath_1.f (r : Int)).getD false) (fun r => by
    unfold impl_SplitPath_1.f impl_isPathByte.f
    by_cases h1 : (r : Int) ≥ 97 <;> by_cases h2 : (r : Int) ≤ 122 <;> by_cases h3 : (r : Int) ≥ 48 <;> by_cases h4 : (r : Int) ≤ 57 <;> simp only [h1, h2, h3, h4, if_true, if_false, Option.bind_some, Option.getD_some] <;> rw [Bool.eq_iff_iff] <;> simp <;> omega) a a.size 0 (by omega)
  rw [List.drop_zero] at this
  exact this
theorem long7_mk (l : List (List UInt8)) : long7 (l.map mkB) = l.any (fun p => decide (7 < p.length)) := by
  unfold long7
  rw [List.any_map]
  rfl
theorem iSplit_ev (a : ByteArray) (ha : a.size ≤ 140737488351232) : Ev (fun k => impl_SplitPath.f k a) (spP a) := by
  unfold impl_SplitPath.f spP
  have hl := b_len a
  have j1 : Ev (fun k => impl_SplitPath.j0 k a true) ([], 1) := by
    refine Ev.step (impl_SplitPath.j0.eq_2 _ _) ?_
    exact ev_pos rfl (ev_now rfl)
  by_cases h : 60 < a.size
  · rw [if_pos h]; exact ev_pos (by omega) j1
  · rw [if_neg h]
    refine ev_neg (by omega) ?_
    have hC : strings_Contains.f a ⟨#[47, 47]⟩ = some (two47 a.data.toList) := by
      unfold strings_Contains.f
      rw [if_pos (by omega)]
      congr 1
      exact contains47 _
    have hS : strings_HasSuffix.f a ⟨#[47]⟩ = some (end47 a.data.toList) := by
      unfold strings_HasSuffix.f
      rw [if_pos (by omega)]
      congr 1
      exact suffix47 _
    rcases hq : a.data.toList with _ | ⟨c, t⟩
    · refine Ev.bind (ev_eq (show strings_HasPrefix.f a ⟨#[47]⟩ = some false by unfold strings_HasPrefix.f; rw [hq]; rfl)) ?_
      exact ev_neg (by simp) j1
    · have hP : strings_HasPrefix.f a ⟨#[47]⟩ = some (c == 47) := by
        unfold strings_HasPrefix.f
        rw [hq]
        congr 1
        show ([47] : List UInt8).isPrefixOf (c :: t) = _
        simp [List.isPrefixOf]
        rw [Bool.eq_iff_iff, beq_iff_eq, beq_iff_eq]; exact ⟨fun h => h.symm, fun h => h.symm⟩
      refine Ev.bind (ev_eq hP) ?_
      by_cases h47 : c = 47
      · subst h47
        refine ev_pos (by simp) ?_
        rw [b_toList, hC, hS, hq]
        simp only [ne_eq, not_true, if_false]
        have h1 : (1 : Int) ≤ (a.size : Int) := by rw [hq] at hl; simp at hl; omega
        by_cases ht : t = []
        · subst ht
          rw [if_pos rfl]
          refine ev_pos rfl (Ev.bind (ev_eq rfl) ?_)
          refine Ev.step (impl_SplitPath.j0.eq_2 _ _) ?_
          refine ev_neg (by decide) (Ev.bind (ev_eq (iBad a)) ?_)
          rw [hq]
          refine ev_neg (by decide) ?_
          rw [b_toList, hq]
          exact ev_pos rfl (ev_now rfl)
        · rw [if_neg ht]
          refine ev_neg (by simp [ht]) (Ev.bind (ev_eq rfl) ?_)
          have hemp := (emp_sp t).2
          have main : ∀ v, v = two47 (47 :: t) → end47 (47 :: t) = false → Ev (fun k => impl_SplitPath.j0 k a v) (fin47 [] false [] t) := by
            intro v hv he
            rw [he, Bool.or_false] at hemp
            refine Ev.step (impl_SplitPath.j0.eq_2 _ _) ?_
            unfold fin47
            rw [pcs_nil]
            cases hv2 : v with
            | true =>
              refine ev_pos rfl (ev_now ?_)
              rw [← hemp, ← hv, hv2]
              split <;> rfl
            | false =>
              refine ev_neg (by simp) (Ev.bind (ev_eq (iBad a)) ?_)
              rw [hq, List.any_cons, bad47, Bool.false_or, ← hemp, ← hv, hv2]
              cases hb : t.any badB with
              | true => exact ev_pos rfl (ev_now (by simp))
              | false =>
                refine ev_neg (by simp) ?_
                rw [b_toList, hq]
                refine ev_neg (by simp [ht]) (ev_pos h1 ?_)
                have hsz : (a.extract 1 a.size).data.toList = t := by
                  rw [b_cut, ← hl, List.take_length, hq]; rfl
                have hsp : strings_Split.f (a.extract 1 a.size) ⟨#[47]⟩ = some ((sp47 t).map mkB) := by
                  unfold strings_Split.f
                  have hs2 : (a.extract 1 a.size).size < 4294967281 := by
                    rw [← b_len, hsz]; rw [hq] at hl; simp at hl; omega
                  rw [if_pos ⟨hs2, by decide⟩]
                  congr 1
                  refine mkB_map ?_
                  rw [split47B, hsz]
                refine Ev.bind (ev_eq hsp) ?_
                have hln : ((sp47 t).map mkB).length ≤ 1000000 := by
                  have := sp47_len t
                  rw [List.length_map]; rw [hq] at hl; simp at hl; omega
                refine Ev.bind (iHas_ev _ hln) ?_
                rw [long7_mk]
                cases hg : (sp47 t).any (fun p => decide (7 < p.length)) with
                | true => exact ev_pos rfl (ev_now (by simp))
                | false => exact ev_neg (by simp) (ev_now (by simp))
          cases he : end47 (47 :: t) with
          | true =>
            refine ev_pos rfl (ev_to j1 ?_)
            rw [he, Bool.or_true] at hemp
            unfold fin47
            rw [pcs_nil, ← hemp]
            split <;> rfl
          | false =>
            refine ev_neg (by simp) (Ev.bind (ev_eq rfl) ?_)
            exact main _ rfl he
      · refine ev_neg (by simp [h47]) (ev_to j1 ?_)
        simp [h47]

/-! ### splitlen -/
theorem spP_len (a : ByteArray) : (spP a).1.length ≤ 1000 := by
  unfold spP
  split
  · simp
  · rename_i h
    have hl := b_len a
    split
    · simp
    · rename_i c t hq
      split
      · simp
      · split
        · simp
        · unfold fin47
          have := sp47_len t
          rw [hq] at hl; simp at hl
          repeat' (first | (split) | (simp; done))
          rw [pcs_nil]; simp; omega
theorem sumBy_le_append {α : Type} (f : α → Nat) (xs : List α) (n : Nat) : sumBy f (xs.take n) ≤ sumBy f xs := by
  induction xs generalizing n with
  | nil => simp
  | cons x r ih =>
    cases n with
    | zero => simp [sumBy]
    | succ n => rw [List.take_succ_cons, sumBy_cons, sumBy_cons]; have := ih n; omega
theorem sp47_sum : ∀ l : List UInt8, sumBy (fun p : List UInt8 => p.length) (sp47 l) ≤ l.length
  | [] => by simp [sp47, sumBy]
  | b :: l => by
    have ih := sp47_sum l
    by_cases h : b = 47
    · subst h; rw [sp47_slash, sumBy_cons]; simp; omega
    · obtain ⟨p, r, hs⟩ := List.exists_cons_of_ne_nil (sp47_ne l)
      rw [sp47_other b l h p r hs, sumBy_cons]
      rw [hs, sumBy_cons] at ih
      simp; omega
theorem sumBy_mk (l : List (List UInt8)) : sumBy (fun b : ByteArray => b.size) (l.map mkB) = sumBy (fun p : List UInt8 => p.length) l := by
  induction l with
  | nil => rfl
  | cons p r ih => rw [List.map_cons, sumBy_cons, sumBy_cons, ih, mkB_size]
/-- The ways of a good path. -/
theorem spP_ok (a : ByteArray) (h : (spP a).2 = 0) : a.size ≤ 60 ∧ ((a.data.toList = [47] ∧ (spP a).1 = []) ∨ ∃ t, a.data.toList = 47 :: t ∧ t ≠ [] ∧ t.any badB = false ∧ emp (sp47 t) = false ∧ (sp47 t).any (fun p => decide (7 < p.length)) = false ∧ (spP a).1 = (sp47 t).map mkB) := by
  unfold spP at h ⊢
  split at h
  · cases h
  rename_i h60
  rw [if_neg h60]
  refine ⟨by omega, ?_⟩
  split at h
  · cases h
  · rename_i c t hq
    rw [hq]
    split at h
    · cases h
    · rename_i h47
      simp only [ne_eq, Decidable.not_not] at h47
      subst h47
      split at h
      · rename_i ht
        subst ht
        exact Or.inl ⟨rfl, by simp⟩
      · rename_i ht
        right
        refine ⟨t, rfl, ht, ?_⟩
        simp only [ne_eq, not_true, if_false, if_neg ht]
        unfold fin47 at h ⊢
        rw [pcs_nil] at h ⊢
        cases hb : t.any badB with
        | true => rw [hb] at h; cases h
        | false =>
          cases he : emp (sp47 t) with
          | true => rw [hb, he] at h; cases h
          | false =>
            cases hl : (sp47 t).any (fun p => decide (7 < p.length)) with
            | true => rw [hb, he, hl] at h; cases h
            | false => simp
theorem spP_sum (a : ByteArray) : (spP a).1.length + sumBy (fun b : ByteArray => b.size) (spP a).1 ≤ 1000000 := by
  unfold spP
  split
  · simp [sumBy]
  · rename_i h
    have hl := b_len a
    split
    · simp [sumBy]
    · rename_i c t hq
      rw [hq] at hl; simp at hl
      split
      · simp [sumBy]
      · split
        · simp [sumBy]
        · unfold fin47
          have h1 := sp47_len t
          have h2 := sp47_sum t
          repeat' (first | (simp [sumBy]; done) | split)
          rw [pcs_nil, List.nil_append, sumBy_mk, List.length_map]; omega

/-! ### joinpath -/
def jn : List ByteArray → List UInt8
  | [] => []
  | x :: r => 47 :: (x.data.toList ++ jn r)
theorem jn_len (xs : List ByteArray) : (jn xs).length = xs.length + sumBy (fun s : ByteArray => s.size) xs := by
  induction xs with
  | nil => rfl
  | cons x r ih => rw [sumBy_cons]; simp [jn, ih]; omega
def jp (xs : List ByteArray) : ByteArray := if xs = [] then ⟨#[47]⟩ else ⟨(jn xs).toArray⟩
theorem jn_join (x : ByteArray) (r : List ByteArray) : jn (x :: r) = 47 :: Lib.join ((x :: r).map (·.data.toList)) [47] := by
  unfold Lib.join
  induction r generalizing x with
  | nil => simp [jn, List.intercalate]
  | cons y s ih =>
    have := ih y
    simp only [jn] at this ⊢
    rw [List.map_cons, List.map_cons, List.intercalate_cons_cons]
    simp only [List.map_cons] at this
    rw [this]
    simp
theorem sJoin_l (xs : List ByteArray) (hn : xs.length + sumBy (fun s : ByteArray => s.size) xs ≤ 100000000000000) : ∀ (i : Nat) (o : ByteArray), i ≤ xs.length → o.size + (jn (xs.drop i)).length ≤ 100000000000000 → Ev (fun k => spec_JoinPath.l0 k xs o i) (⟨(o.data.toList ++ jn (xs.drop i)).toArray⟩)
  | i, o, hi, ho => by
    refine Ev.step (spec_JoinPath.l0.eq_2 _ _ _) ?_
    by_cases h : i < xs.length
    · rw [drop_at xs i h] at ho ⊢
      have hl : (jn (xs[i] :: xs.drop (i + 1))).length = 1 + xs[i].size + (jn (xs.drop (i + 1))).length := by simp [jn]; omega
      have e1 : (⟨#[47]⟩ : ByteArray).size = 1 := rfl
      refine ev_pos (by omega) (ev_pos (by omega) (ev_pos (by omega) ?_))
      rw [rdOf_at _ xs i h, w64s i (by omega)]
      refine ev_pos (by rw [ByteArray.size_append, e1]; omega) (ev_to (sJoin_l xs hn (i + 1) _ (by omega) (by rw [ByteArray.size_append, ByteArray.size_append, e1]; omega)) ?_)
      rw [b_app, b_app]
      simp [jn]
    · refine ev_neg (by omega) (ev_now (b_inj ?_))
      rw [b_mk, List.drop_of_length_le (by omega)]; simp [jn]
  termination_by i => xs.length - i
theorem sJoin_ev (xs : List ByteArray) (hn : xs.length + sumBy (fun s : ByteArray => s.size) xs ≤ 100000000000000) : Ev (fun k => spec_JoinPath.f k xs) (jp xs) := by
  unfold spec_JoinPath.f jp
  by_cases h : xs = []
  · subst h
    exact ev_pos rfl (ev_now rfl)
  · rw [if_neg h]
    refine ev_neg (by have := List.length_pos_iff.2 h; omega) (ev_to (sJoin_l xs hn 0 _ (by omega) (by rw [List.drop_zero, jn_len]; have : (⟨#[]⟩ : ByteArray).size = 0 := rfl; omega)) ?_)
    rfl
theorem iJoin_eq (xs : List ByteArray) (hn : xs.length + sumBy (fun s : ByteArray => s.size) xs ≤ 100000000000000) : impl_JoinPath.f xs = some (jp xs) := by
  unfold impl_JoinPath.f jp
  match xs with
  | [] => rfl
  | x :: r =>
    have hj := jn_join x r
    have hl := jn_len (x :: r)
    have hl2 : (Lib.join ((x :: r).map (·.data.toList)) (⟨#[47]⟩ : ByteArray).data.toList).length + 1 = (jn (x :: r)).length := by rw [hj]; rfl
    rw [if_neg (by simp; omega), if_neg (by simp)]
    unfold strings_Join.f
    rw [if_pos ⟨by omega, by omega⟩, Option.bind_some, if_pos (by rw [b_size]; omega)]
    congr 1
    refine b_inj ?_
    rw [b_app, b_mk, b_mk, hj]; rfl

/-! ### parentof -/
def parP (a : ByteArray) : ByteArray := if (spP a).2 = 0 then (if (spP a).1 = [] then ⟨#[]⟩ else jp ((spP a).1.take ((spP a).1.length - 1))) else ⟨#[]⟩
theorem par_bound (a : ByteArray) (n : Nat) : ((spP a).1.take n).length + sumBy (fun b : ByteArray => b.size) ((spP a).1.take n) ≤ 100000000000000 := by
  have h1 := spP_sum a
  have h2 := sumBy_le_append (fun b : ByteArray => b.size) (spP a).1 n
  have h3 : ((spP a).1.take n).length ≤ (spP a).1.length := by rw [List.length_take]; omega
  omega
theorem par_at (a : ByteArray) (J : Nat → List ByteArray → Option ByteArray) (hJ : ∀ n, Ev (fun k => J k ((spP a).1.take n)) (jp ((spP a).1.take n))) :
    Ev (fun k => if ((spP a).1.length : Int) = 0 then some (⟨#[]⟩ : ByteArray) else if 0 ≤ wrap64 (((spP a).1.length : Int) - 1) then (if wrap64 (((spP a).1.length : Int) - 1) ≤ ((spP a).1.length : Int) then (J k ((spP a).1.take (wrap64 (((spP a).1.length : Int) - 1)).toNat)).bind fun t => some t else none) else none) (if (spP a).1 = [] then ⟨#[]⟩ else jp ((spP a).1.take ((spP a).1.length - 1))) := by
  have hn := spP_len a
  by_cases h : (spP a).1 = []
  · exact ev_pos (by rw [h]; rfl) (ev_now (if_pos h).symm)
  · have hp := List.length_pos_iff.2 h
    refine ev_neg (by omega) ?_
    rw [w64 (by omega) (by omega)]
    refine ev_pos (by omega) (ev_pos (by omega) ?_)
    rw [show (((spP a).1.length : Int) - 1).toNat = (spP a).1.length - 1 by omega]
    exact Ev.bind (hJ _) (ev_now (if_neg h).symm)
theorem sParent_ev (a : ByteArray) : Ev (fun k => spec_ParentOf.f k a) (parP a) := by
  unfold spec_ParentOf.f parP
  refine Ev.bind (sSplit_ev a) ?_
  by_cases h : (spP a).2 = 0
  · exact ev_pos h (ev_to (par_at a (fun k xs => spec_JoinPath.f k xs) (fun n => sJoin_ev _ (par_bound a n))) (if_pos h).symm)
  · exact ev_neg h (ev_now (if_neg h).symm)
theorem iParent_ev (a : ByteArray) (ha : a.size ≤ 140737488351232) : Ev (fun k => impl_ParentOf.f k a) (parP a) := by
  unfold impl_ParentOf.f parP
  refine Ev.bind (iSplit_ev a ha) ?_
  by_cases h : (spP a).2 = 0
  · exact ev_pos h (ev_to (par_at a (fun k xs => impl_JoinPath.f xs) (fun n => ev_eq (iJoin_eq _ (par_bound a n)))) (if_pos h).symm)
  · exact ev_neg h (ev_now (if_neg h).symm)


/-! ### lastof -/
def lastP (a : ByteArray) : ByteArray := if (spP a).2 = 0 then (spP a).1.getLastD ⟨#[]⟩ else ⟨#[]⟩
theorem last_at (xs : List ByteArray) (hn : xs.length ≤ 1000) : Ev (fun _ : Nat => if (xs.length : Int) = 0 then some (⟨#[]⟩ : ByteArray) else if 0 ≤ wrap64 ((xs.length : Int) - 1) then (if wrap64 ((xs.length : Int) - 1) < (xs.length : Int) then some (rdOf ByteArray.empty xs (wrap64 ((xs.length : Int) - 1))) else none) else none) (xs.getLastD ⟨#[]⟩) := by
  by_cases h : xs.length = 0
  · refine ev_pos (by omega) (ev_now ?_)
    rw [List.eq_nil_of_length_eq_zero h]; rfl
  · refine ev_neg (by omega) ?_
    rw [w64 (by omega) (by omega)]
    refine ev_pos (by omega) (ev_pos (by omega) (ev_now ?_))
    rw [show (xs.length : Int) - 1 = ((xs.length - 1 : Nat) : Int) by omega, rdOf_at _ xs (xs.length - 1) (by omega)]
    rw [List.getLastD_eq_getLast?, List.getLast?_eq_getElem?, List.getElem?_eq_getElem (by omega)]; rfl
theorem sLast_ev (a : ByteArray) : Ev (fun k => spec_LastOf.f k a) (lastP a) := by
  unfold spec_LastOf.f lastP
  refine Ev.bind (sSplit_ev a) ?_
  by_cases h : (spP a).2 = 0
  · exact ev_pos h (ev_to (last_at _ (spP_len a)) (if_pos h).symm)
  · exact ev_neg h (ev_now (if_neg h).symm)
theorem iLast_ev (a : ByteArray) (ha : a.size ≤ 140737488351232) : Ev (fun k => impl_LastOf.f k a) (lastP a) := by
  unfold impl_LastOf.f lastP
  refine Ev.bind (iSplit_ev a ha) ?_
  by_cases h : (spP a).2 = 0
  · exact ev_pos h (ev_to (last_at _ (spP_len a)) (if_pos h).symm)
  · exact ev_neg h (ev_now (if_neg h).symm)

/-! ### items -/
def cvItem (x : S103) : S75 := ⟨x.f0, x.f1, x.f2⟩
def wtItem (x : S103) : Nat := x.f0.size + x.f2.size
theorem rd_itemL (xs : List S103) (i : Nat) (h : i < xs.length) : rd_T103 xs (i : Int) = xs[i] := getD_at _ xs i h
theorem rd_itemI (xs : List S75) (i : Nat) (h : i < xs.length) : rd_T75 xs (i : Int) = xs[i] := getD_at _ xs i h
theorem szItem_eq (x : S103) (hx : Wf103 x) (a : Int) (h0 : 0 ≤ a) (h1 : a ≤ 1048576) : laws_szItem.f x.f0 x.f1 x.f2 a = some (left a (wtItem x)) := by
  obtain ⟨h2, _, h3⟩ := hx
  simp only [laws_szItem.f]
  rw [w64 (x := a - (x.f0.size : Int)) (by omega) (by omega), w64 (x := a - (x.f0.size : Int) - (x.f2.size : Int)) (by omega) (by omega)]
  unfold left wtItem
  split
  · rw [if_neg (by omega)]
  · split
    · rw [if_neg (by omega)]
    · rw [if_pos (by omega)]; congr 1; omega
theorem szItemS_l (xs : List S103) (hn : xs.length ≤ 1048576) (hw : ∀ y ∈ xs, Wf103 y) : ∀ (i : Nat) (a : Int), i ≤ xs.length → 0 ≤ a → a ≤ 1048576 →
    Ev (fun k => laws_szItemS.l0 k xs a i) (left a (sumBy wtItem (xs.drop i)))
  | i, a, hi, h0, h1 => by
    refine Ev.step (laws_szItemS.l0.eq_2 _ _ _) ?_
    by_cases h : i < xs.length
    · refine ev_pos (by omega) (ev_pos (by omega) ?_)
      rw [rd_itemL xs i h, w64s i (by omega)]
      refine Ev.bind (ev_eq (szItem_eq _ (hw _ (List.getElem_mem h)) a h0 h1)) ?_
      rw [drop_at xs i h, sumBy_cons, ← left_add]
      by_cases h2 : left a (wtItem xs[i]) < 0
      · exact ev_pos h2 (ev_now (if_pos h2).symm)
      · obtain ⟨h3, h4⟩ := left_le (a := a) (t := wtItem xs[i]) (by omega)
        refine ev_neg h2 (ev_to (szItemS_l xs hn hw (i + 1) _ (by omega) (by omega) (by omega)) (if_neg h2).symm)
    · refine ev_neg (by omega) (ev_now ?_)
      rw [List.drop_of_length_le (by omega), sumBy_nil, left_zero h0]
  termination_by i => xs.length - i
def wtItemS (xs : List S103) : Nat := xs.length + sumBy wtItem xs
theorem szItemS_ev (xs : List S103) (hb : xs.length ≤ 140737488351232) (hw : ∀ y ∈ xs, Wf103 y) (a : Int) (h0 : 0 ≤ a) (h1 : a ≤ 1048576) : Ev (fun k => laws_szItemS.f k xs a) (left a (wtItemS xs)) := by
  unfold laws_szItemS.f
  rw [w64 (by omega) (by omega)]
  unfold wtItemS
  rw [← left_add]
  by_cases h : a - (xs.length : Int) < 0
  · exact ev_pos h (ev_now (by rw [if_pos]; unfold left; rw [if_neg (by omega)]; omega))
  · have h2 : left a xs.length = a - xs.length := by unfold left; rw [if_pos (by omega)]
    have := szItemS_l xs (by omega) hw 0 (a - xs.length) (by omega) (by omega) (by omega)
    rw [List.drop_zero] at this
    exact ev_neg h (ev_to this (by rw [h2, if_neg h]))
theorem toItemS_l (xs : List S103) (hn : xs.length ≤ 1048576) : ∀ (i : Nat) (ys : List S75), i ≤ xs.length → ys.length = xs.length → ys.take i = (xs.map cvItem).take i →
    Ev (fun k => laws_toItemS.l0 k xs ys i) (xs.map cvItem)
  | i, ys, hi, hl, ht => by
    refine Ev.step (laws_toItemS.l0.eq_2 _ _ _) ?_
    by_cases h : i < xs.length
    · refine ev_pos (by omega) (ev_pos (by omega) ?_)
      rw [rd_itemL xs i h, w64s i (by omega)]
      refine Ev.bind (ev_eq rfl) (ev_pos (by omega) ?_)
      rw [Int.toNat_natCast]
      exact toItemS_l xs hn (i + 1) _ (by omega) (by simp [hl]) (take_set (by simp [hl]) ht (by simpa using h) (by simp [cvItem]))
    · have : i = xs.length := by omega
      subst this
      exact ev_neg (by omega) (ev_now (take_all (by simp [hl]) (by simpa using ht)))
  termination_by i => xs.length - i
theorem toItemS_ev (xs : List S103) (hn : xs.length ≤ 1048576) : Ev (fun k => laws_toItemS.f k xs) (xs.map cvItem) := by
  unfold laws_toItemS.f
  exact ev_pos (by omega) (ev_pos (by omega) (toItemS_l xs hn 0 _ (by omega) (by simp) (by simp)))
theorem eqItem_eq (x : S75) : laws_eqItem.f x.f0 x.f1 x.f2 x.f0 x.f1 x.f2 = some true := by simp [laws_eqItem.f]
theorem eqItemS_l (xs : List S75) (hn : xs.length ≤ 1048576) : ∀ (i : Nat), i ≤ xs.length → Ev (fun k => laws_eqItemS.l0 k xs xs i) true
  | i, hi => by
    refine Ev.step (laws_eqItemS.l0.eq_2 _ _ _) ?_
    by_cases h : i < xs.length
    · refine ev_pos (by omega) (ev_pos (by omega) (ev_pos (by omega) ?_))
      rw [w64s i (by omega)]
      exact Ev.bind (ev_eq (eqItem_eq _)) (ev_pos rfl (eqItemS_l xs hn (i + 1) (by omega)))
    · exact ev_neg (by omega) (ev_now rfl)
  termination_by i => xs.length - i
theorem eqItemS_ev (xs : List S75) (hn : xs.length ≤ 1048576) : Ev (fun k => laws_eqItemS.f k xs xs) true := by
  unfold laws_eqItemS.f
  exact ev_pos rfl (eqItemS_l xs hn 0 (by omega))

/-! ### view -/
theorem szView_ev (xs : List S103) (hb : xs.length * 40 ≤ 140737488351232 ∧ ∀ y ∈ xs, Wf103 y) (a : Int) (h0 : 0 ≤ a) (h1 : a ≤ 1048576) : Ev (fun k => laws_szView.f k xs a) (left a (wtItemS xs)) := by
  unfold laws_szView.f
  refine Ev.bind (szItemS_ev xs (by omega) hb.2 a h0 h1) ev_left
theorem toView_ev (xs : List S103) (hn : xs.length ≤ 1048576) : Ev (fun k => laws_toView.f k xs) (xs.map cvItem) := by
  unfold laws_toView.f
  exact Ev.bind (toItemS_ev xs hn) (ev_now rfl)
theorem eqView_ev (xs : List S75) (hn : xs.length ≤ 1048576) : Ev (fun k => laws_eqView.f k xs xs) true := by
  unfold laws_eqView.f
  exact Ev.bind (eqItemS_ev xs hn) (ev_pos rfl (ev_now rfl))
theorem wtItemS_len {xs : List S103} {a : Int} (h : 0 ≤ left a (wtItemS xs)) (ha : a ≤ 1048576) : xs.length ≤ 1048576 ∧ (∀ y ∈ xs, wtItem y ≤ 1048576) := by
  have h2 := (left_le h).1
  unfold wtItemS at h2
  exact ⟨by omega, fun y hy => by have := sumBy_mem (f := wtItem) hy; omega⟩

/-! ### kids -/
def kidF (xs : List S75) (a : ByteArray) : List ByteArray := (xs.filter (fun y => (parP y.f0).toList == a.toList)).map (fun y => lastP y.f0)
def kidV (xs : List S75) (a : ByteArray) : List ByteArray := if a.toList = ([] : List UInt8) then [] else kidF xs a
theorem kidF_len (xs : List S75) (a : ByteArray) : (kidF xs a).length ≤ xs.length := by unfold kidF; rw [List.length_map]; exact List.length_filter_le _ _
theorem kidV_len (xs : List S75) (a : ByteArray) : (kidV xs a).length ≤ xs.length := by
  unfold kidV; split
  · simp
  · exact kidF_len xs a
theorem sKids_l (xs : List S75) (hn : xs.length ≤ 4000000) (a : ByteArray) : ∀ (i : Nat) (out : List ByteArray), i ≤ xs.length → out.length ≤ i → Ev (fun k => spec_KidsOf.l0 k a out (i : Int) xs) (out ++ kidV (xs.drop i) a)
  | i, out, hi, ho => by
    refine Ev.step (spec_KidsOf.l0.eq_2 _ _ _ _) ?_
    by_cases h : i < xs.length
    · refine ev_pos (by omega) (ev_pos (by omega) ?_)
      rw [rd_itemI xs i h, w64s i (by omega), drop_at xs i h]
      refine Ev.bind (sParent_ev _) ?_
      have ih := fun o ho2 => sKids_l xs hn a (i + 1) o (by omega) ho2
      unfold kidV at ih ⊢
      by_cases he : (parP xs[i].f0).toList = a.toList
      · refine ev_pos he ?_
        by_cases hz : a.toList = ([] : List UInt8)
        · refine ev_pos hz (ev_to (ih out (by omega)) ?_)
          rw [if_pos hz, if_pos hz]
        · refine ev_neg hz (Ev.bind (sLast_ev _) (ev_pos (by omega) (ev_to (ih _ (by simp; omega)) ?_)))
          rw [if_neg hz, if_neg hz]
          unfold kidF
          rw [List.filter_cons_of_pos (by simpa using he)]; simp
      · refine ev_neg he (ev_to (ih out (by omega)) ?_)
        congr 1
        by_cases hz : a.toList = ([] : List UInt8)
        · rw [if_pos hz, if_pos hz]
        · rw [if_neg hz, if_neg hz]
          unfold kidF
          rw [List.filter_cons_of_neg (by simpa using he)]
    · refine ev_neg (by omega) (ev_now ?_)
      rw [List.drop_of_length_le (by omega)]
      simp [kidV, kidF]
  termination_by i => xs.length - i
theorem sKids_ev (xs : List S75) (hn : xs.length ≤ 4000000) (a : ByteArray) : Ev (fun k => spec_KidsOf.f k xs a) (kidV xs a) := by
  unfold spec_KidsOf.f
  exact ev_to (sKids_l xs hn a 0 [] (by omega) (by simp)) (by simp)
theorem iKids_l (xs : List S75) (hn : xs.length ≤ 4000000) (hs : ∀ y ∈ xs, y.f0.size ≤ 140737488351232) (a : ByteArray) : ∀ (i : Nat) (out : List ByteArray), i ≤ xs.length → out.length ≤ i → Ev (fun k => impl_KidsOf.l0 k a out xs (xs.length : Int) (i : Int)) (out ++ kidF (xs.drop i) a)
  | i, out, hi, ho => by
    refine Ev.step (impl_KidsOf.l0.eq_2 _ _ _ _ _) ?_
    by_cases h : i < xs.length
    · refine ev_pos (by omega) (ev_pos (by omega) (ev_pos (by omega) ?_))
      rw [rd_itemI xs i h, w64s i (by omega), drop_at xs i h]
      have hz := hs xs[i] (List.getElem_mem h)
      refine Ev.bind (iParent_ev _ hz) ?_
      have ih := fun o ho2 => iKids_l xs hn hs a (i + 1) o (by omega) ho2
      by_cases he : (parP xs[i].f0).toList = a.toList
      · refine ev_pos he (Ev.bind (iLast_ev _ hz) (ev_pos (by omega) (ev_to (ih _ (by simp; omega)) ?_)))
        unfold kidF
        rw [List.filter_cons_of_pos (by simpa using he)]; simp
      · refine ev_neg he (ev_to (ih out (by omega)) ?_)
        unfold kidF
        rw [List.filter_cons_of_neg (by simpa using he)]
    · refine ev_neg (by omega) (ev_now ?_)
      rw [List.drop_of_length_le (by omega)]
      simp [kidF]
  termination_by i => xs.length - i
theorem iKids_ev (xs : List S75) (hn : xs.length ≤ 4000000) (hs : ∀ y ∈ xs, y.f0.size ≤ 140737488351232) (a : ByteArray) : Ev (fun k => impl_KidsOf.f k xs a) (kidV xs a) := by
  unfold impl_KidsOf.f kidV
  by_cases h : a.toList = ([] : List UInt8)
  · exact ev_pos h (ev_now (if_pos h).symm)
  · rw [if_neg h]
    exact ev_neg h (ev_to (iKids_l xs hn hs a 0 [] (by omega) (by simp)) (by simp))
theorem cv_sizes {xs : List S103} (h : ∀ y ∈ xs, wtItem y ≤ 1048576) : ∀ y ∈ xs.map cvItem, y.f0.size ≤ 140737488351232 := by
  intro y hy
  obtain ⟨x, hx, rfl⟩ := List.mem_map.1 hy
  have := h x hx
  unfold wtItem at this
  show x.f0.size ≤ _
  omega

/-! ### itemat -/
def itP (p : ByteArray) : S75 → S75 → Bool := fun _ y => y.f0.toList == p.toList
theorem sItemAt_l (xs : List S75) (p : ByteArray) (hn : xs.length ≤ 4000000) : ∀ i : Nat, i ≤ xs.length → Ev (fun k => spec_ItemAt.l0 k p i xs) (Lib.idxByFrom (itP p) z75 (xs.drop i) i)
  | i, hi => by
    refine Ev.step (spec_ItemAt.l0.eq_2 _ _ _) ?_
    by_cases h : i < xs.length
    · refine ev_pos (by omega) (ev_pos (by omega) ?_)
      rw [rd_itemI xs i h, w64s i (by omega), drop_at xs i h]
      by_cases he : (xs[i].f0).toList = p.toList
      · exact ev_pos he (ev_now (by simp [Lib.idxByFrom, itP, he]))
      · refine ev_neg he (ev_to (sItemAt_l xs p hn (i + 1) (by omega)) ?_)
        simp [Lib.idxByFrom, itP, he]
    · refine ev_neg (by omega) (ev_now ?_)
      rw [List.drop_of_length_le (by omega)]; rfl
  termination_by i => xs.length - i
theorem sItemAt_ev (xs : List S75) (p : ByteArray) (hn : xs.length ≤ 4000000) : Ev (fun k => spec_ItemAt.f k xs p) (Lib.idxBy (itP p) xs z75) := by
  unfold spec_ItemAt.f
  have := sItemAt_l xs p hn 0 (by omega)
  rw [List.drop_zero] at this
  exact this
theorem iItemAt_eq (xs : List S75) (p : ByteArray) (hn : xs.length ≤ 4000000) : impl_ItemAt.f xs p = some (Lib.idxBy (itP p) xs z75) := by
  unfold impl_ItemAt.f
  rw [if_pos (by omega)]; rfl

/-! ### lookup -/
theorem idxF_lt {α : Type} (p : α → α → Bool) (z : α) : ∀ (xs : List α) (i : Nat), 0 ≤ Lib.idxByFrom p z xs i → Lib.idxByFrom p z xs i < ((i + xs.length : Nat) : Int)
  | [], i, h => by simp [Lib.idxByFrom] at h
  | x :: r, i, h => by
    unfold Lib.idxByFrom at h ⊢
    by_cases hp : p z x = true
    · rw [if_pos hp]; simp; omega
    · rw [if_neg hp] at h ⊢
      have := idxF_lt p z r (i + 1) h
      simp at this ⊢; omega
theorem idx_lt {α : Type} (p : α → α → Bool) (z : α) (xs : List α) (h : ¬ Lib.idxBy p xs z < 0) : 0 ≤ Lib.idxBy p xs z ∧ Lib.idxBy p xs z < (xs.length : Int) := by
  have h0 : 0 ≤ Lib.idxBy p xs z := by omega
  refine ⟨h0, ?_⟩
  have := idxF_lt p z xs 0 h0
  rw [Nat.zero_add] at this
  exact this
theorem sp_sizes (a : ByteArray) (h : (spP a).2 = 0) : ∀ x ∈ (spP a).1, x.data.toList ≠ [] := by
  intro x hx
  obtain ⟨_, ⟨_, h1⟩ | ⟨t, ht, h0, hb, he, hl, hs⟩⟩ := spP_ok a h
  · rw [h1] at hx; cases hx
  · rw [hs] at hx
    obtain ⟨p, hp, rfl⟩ := List.mem_map.1 hx
    rw [mkB_list]
    intro hc
    subst hc
    have : emp (sp47 t) = true := by unfold emp; exact List.any_eq_true.2 ⟨[], hp, rfl⟩
    rw [this] at he; cases he
theorem jp_root (a : ByteArray) (h : (spP a).2 = 0) (n : Nat) (h1 : 1 ≤ n) (h2 : n ≤ (spP a).1.length) : (jp ((spP a).1.take n)).toList ≠ ([47] : List UInt8) := by
  have hs := sp_sizes a h
  rw [b_toList]
  revert hs h2
  generalize (spP a).1 = ps
  intro h2 hs
  match ps, n, h1, h2 with
  | [], n + 1, _, h2 => simp at h2
  | x :: r, n + 1, _, _ =>
    rw [List.take_succ_cons]
    unfold jp
    rw [if_neg (by simp), b_mk]
    unfold jn
    intro hc
    have := hs x (by simp)
    simp at hc
    exact this (by simpa using hc.1)
/-- Whether a path is a folder of the view. -/
def dirV (xs : List S75) (p : ByteArray) : Bool := if p.toList = ([47] : List UInt8) then true else if Lib.idxBy (itP p) xs z75 ≥ 0 then (rd_T75 xs (Lib.idxBy (itP p) xs z75)).f1 else false

theorem sp_pos (a : ByteArray) (h0 : (spP a).2 = 0) (hr : a.toList ≠ ([47] : List UInt8)) : 1 ≤ (spP a).1.length := by
  obtain ⟨_, ⟨h, _⟩ | ⟨t, ht, _, hb, he, hl, hs⟩⟩ := spP_ok a h0
  · exact absurd (by rw [b_toList]; exact h) hr
  · rw [hs, List.length_map]
    exact List.length_pos_iff.2 (sp47_ne t)

/-! ### dirin -/
theorem iDirIn_eq (xs : List S75) (p : ByteArray) (hn : xs.length ≤ 4000000) : impl_isDirIn.f xs p = some (dirV xs p) := by
  unfold impl_isDirIn.f dirV
  rw [iItemAt_eq xs p hn, Option.bind_some]
  by_cases h : p.toList = ([47] : List UInt8)
  · rw [if_pos h, if_pos h]
  · rw [if_neg h, if_neg h]
    by_cases hc : Lib.idxBy (itP p) xs z75 ≥ 0
    · have := idx_lt (itP p) z75 xs (by omega)
      rw [if_pos hc, if_pos this.1, if_pos this.2, if_pos hc]
    · rw [if_neg hc, if_neg hc]
theorem jp_size (ps : List ByteArray) (h : ps.length + sumBy (fun s : ByteArray => s.size) ps ≤ 100000000000000) : (jp ps).size ≤ 140737488351232 := by
  unfold jp
  split
  · show (1 : Nat) ≤ _; omega
  · rw [b_size, jn_len]; omega
theorem par_size (a : ByteArray) : (parP a).size ≤ 140737488351232 := by
  unfold parP
  split
  · split
    · show (0 : Nat) ≤ _; omega
    · exact jp_size _ (par_bound a _)
  · show (0 : Nat) ≤ _; omega

/-! ### pagesin -/
def pgF (n : Int) : Int := if n ≤ 0 then 0 else (n - 1) / 32 + 1
theorem sPagesFor_eq (n : Int) (h : 0 ≤ n) (h1 : n ≤ 1048576) : spec_PagesFor.f n = some (pgF n) := by
  unfold spec_PagesFor.f pgF
  split
  · rfl
  · rw [w64 (x := n - 1) (by omega) (by omega), Int.tdiv_eq_ediv_of_nonneg (by omega), w64 (x := (n - 1) / 32) (by omega) (by omega), w64 (by omega) (by omega)]
theorem iPagesFor_eq (n : Int) (h : 0 ≤ n) (h1 : n ≤ 1048576) : impl_PagesFor.f n = some (pgF n) := by
  unfold impl_PagesFor.f pgF
  rw [if_neg (by omega), Int.tdiv_eq_ediv_of_nonneg h, Int.tmod_eq_emod_of_nonneg h, w64 (x := n / 32) (by omega) (by omega), w64 (x := n / 32 + 1) (by omega) (by omega)]
  split <;> split <;> congr 1 <;> omega
theorem pgF_le (n : Int) (h1 : n ≤ 1048576) : 0 ≤ pgF n ∧ pgF n ≤ 32768 := by
  unfold pgF
  split <;> omega
def pgIn : List S75 → Int → Int
  | [], a => a
  | x :: r, a => if x.f1 = true then pgIn r a else pgIn r (a + pgF x.f2.size)
theorem sPagesIn_l (xs : List S75) (hn : xs.length ≤ 1048576) (hs : ∀ y ∈ xs, y.f2.size ≤ 1048576) : ∀ (i : Nat) (a : Int), i ≤ xs.length → 0 ≤ a → a ≤ 32768 * i → Ev (fun k => spec_PagesIn.l0 k a i xs) (pgIn (xs.drop i) a)
  | i, a, hi, h0, h1 => by
    refine Ev.step (spec_PagesIn.l0.eq_2 _ _ _) ?_
    by_cases h : i < xs.length
    · refine ev_pos (by omega) (ev_pos (by omega) ?_)
      rw [rd_itemI xs i h, w64s i (by omega), drop_at xs i h]
      simp only [pgIn]
      have hz := hs _ (List.getElem_mem h)
      by_cases hd : xs[i].f1 = true
      · rw [if_pos hd]
        exact ev_pos hd (sPagesIn_l xs hn hs (i + 1) a (by omega) h0 (by omega))
      · rw [if_neg hd]
        have hb := pgF_le (xs[i].f2.size : Int) (by omega)
        refine ev_neg hd (Ev.bind (ev_eq (sPagesFor_eq _ (by omega) (by omega))) ?_)
        rw [w64 (by omega) (by omega)]
        exact sPagesIn_l xs hn hs (i + 1) _ (by omega) (by omega) (by omega)
    · refine ev_neg (by omega) (ev_now ?_)
      rw [List.drop_of_length_le (by omega)]; rfl
  termination_by i => xs.length - i
theorem iPagesIn_l (xs : List S75) (hn : xs.length ≤ 1048576) (hs : ∀ y ∈ xs, y.f2.size ≤ 1048576) : ∀ (i : Nat) (a : Int), i ≤ xs.length → 0 ≤ a → a ≤ 32768 * i → Ev (fun k => impl_PagesIn.l0 k a xs xs.length i) (pgIn (xs.drop i) a)
  | i, a, hi, h0, h1 => by
    refine Ev.step (impl_PagesIn.l0.eq_2 _ _ _ _) ?_
    by_cases h : i < xs.length
    · refine ev_pos (by omega) (ev_pos (by omega) (ev_pos (by omega) ?_))
      rw [rd_itemI xs i h, w64s i (by omega), drop_at xs i h]
      simp only [pgIn]
      have hz := hs _ (List.getElem_mem h)
      by_cases hd : xs[i].f1 = true
      · rw [if_pos hd]
        exact ev_pos hd (iPagesIn_l xs hn hs (i + 1) a (by omega) h0 (by omega))
      · rw [if_neg hd]
        have hb := pgF_le (xs[i].f2.size : Int) (by omega)
        refine ev_neg hd (Ev.bind (ev_eq (iPagesFor_eq _ (by omega) (by omega))) ?_)
        rw [w64 (by omega) (by omega)]
        exact iPagesIn_l xs hn hs (i + 1) _ (by omega) (by omega) (by omega)
    · refine ev_neg (by omega) (ev_now ?_)
      rw [List.drop_of_length_le (by omega)]; rfl
  termination_by i => xs.length - i
theorem sPagesIn_ev (xs : List S75) (hn : xs.length ≤ 1048576) (hs : ∀ y ∈ xs, y.f2.size ≤ 1048576) : Ev (fun k => spec_PagesIn.f k xs) (pgIn xs 0) := by
  unfold spec_PagesIn.f
  exact sPagesIn_l xs hn hs 0 0 (by omega) (by omega) (by omega)
theorem iPagesIn_ev (xs : List S75) (hn : xs.length ≤ 1048576) (hs : ∀ y ∈ xs, y.f2.size ≤ 1048576) : Ev (fun k => impl_PagesIn.f k xs) (pgIn xs 0) := by
  unfold impl_PagesIn.f
  exact iPagesIn_l xs hn hs 0 0 (by omega) (by omega) (by omega)

/-! ### FnExactViewOk -/
theorem par_nil (a : ByteArray) : (parP a).toList = ([] : List UInt8) ↔ ¬ ((spP a).2 = 0 ∧ a.toList ≠ ([47] : List UInt8)) := by
  have hj : ∀ ps : List ByteArray, (jp ps).toList ≠ ([] : List UInt8) := by
    intro ps
    rw [b_toList]
    unfold jp
    split
    · simp
    · rename_i h
      match ps, h with
      | x :: r, _ => rw [b_mk]; simp [jn]
  constructor
  · intro h ⟨h0, h1⟩
    have hp := sp_pos a h0 h1
    unfold parP at h
    rw [if_pos h0, if_neg (by intro c; rw [c] at hp; simp at hp)] at h
    exact hj _ h
  · intro h
    unfold parP
    by_cases h0 : (spP a).2 = 0
    · rw [if_pos h0]
      by_cases h1 : (spP a).1 = []
      · rw [if_pos h1, b_toList]
      · exfalso
        apply h
        refine ⟨h0, fun hr => h1 ?_⟩
        rw [b_toList] at hr
        obtain ⟨_, ⟨_, h2⟩ | ⟨t, ht, hne, _⟩⟩ := spP_ok a h0
        · exact h2
        · rw [hr] at ht; simp at ht; exact absurd ht (fun c => hne c)
    · rw [if_neg h0, b_toList]
def ordV (xs : List S75) (i : Nat) : Bool := if (i : Int) > 0 then !(Op.bytesLess ((rd_T75 xs ((i : Int) - 1)).f0).toList ((rd_T75 xs (i : Int)).f0).toList) else false
def badV (xs : List S75) (i : Nat) : Bool := if (parP (rd_T75 xs (i : Int)).f0).toList = ([] : List UInt8) then true else if dirV xs (parP (rd_T75 xs (i : Int)).f0) = true then ordV xs i else true
def endV (xs : List S75) (x : S75) : Bool := if x.f1 = true then (if x.f2.toList = ([] : List UInt8) then (if ((kidV xs x.f0).length : Int) > 6 then false else if (x.f2.size : Int) > 128 then false else true) else false) else (if (x.f2.size : Int) > 128 then false else true)
def allV (xs : List S75) (z : Bool) : Nat → Nat → Bool
  | 0, _ => z
  | f + 1, i => if badV xs i = true then false else if endV xs (rd_T75 xs (i : Int)) = true then allV xs z f (i + 1) else false
theorem allV_and (xs : List S75) (z : Bool) : ∀ f i : Nat, allV xs z f i = (allV xs true f i && z)
  | 0, i => by simp [allV]
  | f + 1, i => by
    have ih := allV_and xs z f (i + 1)
    unfold allV
    rw [ih]
    split
    · rfl
    · split <;> rfl
theorem ord_at (xs : List S75) (i : Nat) (hi : i < xs.length) (hn : xs.length ≤ 1048576) (J : Bool → Nat → Option Bool) (V : Bool → Bool) (hJ : ∀ b, Ev (J b) (V b)) :
    Ev (fun k => if (i : Int) > 0 then (if 0 ≤ wrap64 ((i : Int) - 1) then (if wrap64 ((i : Int) - 1) < (xs.length : Int) then J (!(Op.bytesLess (((rd_T75 xs (wrap64 ((i : Int) - 1))).f0).toList) (((rd_T75 xs (i : Int)).f0).toList))) k else none) else none) else J false k) (V (ordV xs i)) := by
  unfold ordV
  by_cases h : (i : Int) > 0
  · rw [if_pos h, w64 (x := (i : Int) - 1) (by omega) (by omega)]
    exact ev_pos h (ev_pos (by omega) (ev_pos (by omega) (hJ _)))
  · rw [if_neg h]
    exact ev_neg h (hJ _)
theorem end_at (xs : List S75) (x : S75) (K : Nat → Option (List ByteArray)) (hK : Ev K (kidV xs x.f0)) (L : Nat → Option Bool) (N : Bool) (hL : Ev L N) (b : Bool) :
    Ev (fun k => if b = true then (some false) else (if x.f1 = true then (if x.f2.toList = ([] : List UInt8) then ((K k).bind fun t196 => (if (t196.length : Int) > 6 then (some false) else (if (x.f2.size : Int) > 128 then (some false) else L k))) else (some false)) else (if (x.f2.size : Int) > 128 then (some false) else L k))) (if b = true then false else if endV xs x = true then N else false) := by
  cases b with
  | true => exact ev_pos rfl (ev_now rfl)
  | false =>
    refine ev_neg (by simp) (ev_to (a := if endV xs x = true then N else false) ?_ (by simp))
    unfold endV
    by_cases h1 : x.f1 = true
    · refine ev_pos h1 ?_
      rw [if_pos h1]
      by_cases h2 : x.f2.toList = ([] : List UInt8)
      · rw [if_pos h2]
        refine ev_pos h2 (Ev.bind hK ?_)
        by_cases h3 : ((kidV xs x.f0).length : Int) > 6
        · exact ev_pos h3 (ev_now (by rw [if_pos h3]; rfl))
        · refine ev_neg h3 ?_
          by_cases h4 : (x.f2.size : Int) > 128
          · exact ev_pos h4 (ev_now (by rw [if_neg h3, if_pos h4]; rfl))
          · exact ev_neg h4 (ev_to hL (by rw [if_neg h3, if_neg h4]; rfl))
      · rw [if_neg h2]
        exact ev_neg h2 (ev_now rfl)
    · refine ev_neg h1 ?_
      rw [if_neg h1]
      by_cases h4 : (x.f2.size : Int) > 128
      · exact ev_pos h4 (ev_now (by rw [if_pos h4]; rfl))
      · exact ev_neg h4 (ev_to hL (by rw [if_neg h4]; rfl))
theorem sVO_l (g0 g1 g2 g3 : Int) (xs : List S75) (hn : xs.length ≤ 1048576) (hs : ∀ y ∈ xs, y.f2.size ≤ 1048576) : ∀ (f i : Nat), i + f = xs.length → Ev (fun k => spec_ViewOk.l0 k (i : Int) g0 g1 g2 g3 xs) (allV xs (decide (pgIn xs 0 ≤ g3)) f i)
  | f, i, hf => by
    refine Ev.step (spec_ViewOk.l0.eq_2 _ _ _ _ _ _) ?_
    cases f with
    | zero => exact ev_neg (by omega) (Ev.bind (sPagesIn_ev xs hn hs) (ev_now rfl))
    | succ f =>
      refine ev_pos (by omega) (ev_pos (by omega) (Ev.bind (sParent_ev _) (Ev.bind (sItemAt_ev xs _ (by omega)) ?_)))
      have ih := sVO_l g0 g1 g2 g3 xs hn hs f (i + 1) (by omega)
      have hJ : ∀ b, Ev (fun k => spec_ViewOk.j2 k (i : Int) b g0 g1 g2 g3 xs (rd_T75 xs (i : Int)).f0 (rd_T75 xs (i : Int)).f1 (rd_T75 xs (i : Int)).f2) (if b = true then false else if endV xs (rd_T75 xs (i : Int)) = true then allV xs (decide (pgIn xs 0 ≤ g3)) f (i + 1) else false) := by
        intro b
        refine Ev.step (spec_ViewOk.j2.eq_2 _ _ _ _ _ _ _ _ _ _) ?_
        rw [w64s i (by omega)]
        exact end_at xs (rd_T75 xs (i : Int)) _ (sKids_ev xs (by omega) _) _ _ ih b
      have hO := ord_at xs i (by omega) hn _ _ hJ
      unfold allV badV
      by_cases h1 : (parP (rd_T75 xs (i : Int)).f0).toList = ([] : List UInt8)
      · rw [if_pos h1]; exact ev_pos h1 (hJ true)
      · rw [if_neg h1]
        refine ev_neg h1 ?_
        unfold dirV
        by_cases h2 : (parP (rd_T75 xs (i : Int)).f0).toList = ([47] : List UInt8)
        · rw [if_pos h2, if_pos rfl]; exact ev_pos h2 hO
        · rw [if_neg h2]
          refine ev_neg h2 ?_
          by_cases h3 : Lib.idxBy (itP (parP (rd_T75 xs (i : Int)).f0)) xs z75 < 0
          · rw [if_neg (show ¬ Lib.idxBy (itP (parP (rd_T75 xs (i : Int)).f0)) xs z75 ≥ 0 by omega), if_neg Bool.false_ne_true]; exact ev_pos h3 (hJ true)
          · rw [if_pos (show Lib.idxBy (itP (parP (rd_T75 xs (i : Int)).f0)) xs z75 ≥ 0 by omega)]
            have hr := idx_lt _ z75 xs h3
            refine ev_neg h3 (ev_pos hr.1 (ev_pos hr.2 ?_))
            by_cases h4 : (rd_T75 xs (Lib.idxBy (itP (parP (rd_T75 xs (i : Int)).f0)) xs z75)).f1 = true
            · rw [if_pos h4]; exact ev_pos h4 hO
            · rw [if_neg h4]; exact ev_neg h4 (hJ true)
theorem iVO_l (xs : List S75) (hn : xs.length ≤ 1048576) (hs : ∀ y ∈ xs, y.f0.size ≤ 140737488351232) : ∀ (f i : Nat), i + f = xs.length → Ev (fun k => impl_ViewOk.l0 k xs (xs.length : Int) (i : Int) xs) (allV xs true f i)
  | f, i, hf => by
    refine Ev.step (impl_ViewOk.l0.eq_2 _ _ _ _) ?_
    cases f with
    | zero => exact ev_neg (by omega) (ev_now rfl)
    | succ f =>
      have hz : (rd_T75 xs (i : Int)).f0.size ≤ 140737488351232 := by rw [rd_itemI xs i (by omega)]; exact hs _ (List.getElem_mem _)
      refine ev_pos (by omega) (ev_pos (by omega) (ev_pos (by omega) (Ev.bind (iSplit_ev _ hz) ?_)))
      have ih := iVO_l xs hn hs f (i + 1) (by omega)
      have hJ : ∀ b, Ev (fun k => impl_ViewOk.j2 k xs (xs.length : Int) (i : Int) b xs (rd_T75 xs (i : Int)).f0 (rd_T75 xs (i : Int)).f1 (rd_T75 xs (i : Int)).f2) (if b = true then false else if endV xs (rd_T75 xs (i : Int)) = true then allV xs true f (i + 1) else false) := by
        intro b
        refine Ev.step (impl_ViewOk.j2.eq_2 _ _ _ _ _ _ _ _) ?_
        rw [w64s i (by omega)]
        exact end_at xs (rd_T75 xs (i : Int)) _ (iKids_ev xs (by omega) hs _) _ _ ih b
      have hO := ord_at xs i (by omega) hn _ _ hJ
      unfold allV badV
      by_cases h1 : (parP (rd_T75 xs (i : Int)).f0).toList = ([] : List UInt8)
      · rw [if_pos h1]
        have h2 := (par_nil _).1 h1
        by_cases h3 : (spP (rd_T75 xs (i : Int)).f0).2 = 0
        · exact ev_pos h3 (ev_pos (Classical.byContradiction fun h4 => h2 ⟨h3, h4⟩) (hJ true))
        · exact ev_neg h3 (hJ true)
      · rw [if_neg h1]
        have h2 := Classical.byContradiction fun hc => h1 ((par_nil _).2 hc)
        refine ev_pos h2.1 (ev_neg h2.2 (Ev.bind (iParent_ev _ hz) (Ev.bind (ev_eq (iDirIn_eq xs _ (by omega))) ?_)))
        by_cases h3 : dirV xs (parP (rd_T75 xs (i : Int)).f0) = true
        · rw [if_pos h3]; exact ev_pos h3 hO
        · rw [if_neg h3]; exact ev_neg h3 (hJ true)
noncomputable def voV (g0 g1 g2 g3 : Int) (xs : List S75) : Bool := gOk g0 g1 g2 g3 && (decide ((xs.length : Int) < g2) && (decide (((kidV xs (⟨#[47]⟩ : ByteArray)).length : Int) ≤ 6) && (allV xs true xs.length 0 && decide (pgIn xs 0 ≤ g3))))
theorem sVO_ev (g0 g1 g2 g3 : Int) (xs : List S75) (hn : xs.length ≤ 1048576) (hs : ∀ y ∈ xs, y.f2.size ≤ 1048576) : Ev (fun k => spec_ViewOk.f k g0 g1 g2 g3 xs) (voV g0 g1 g2 g3 xs) := by
  unfold spec_ViewOk.f voV
  rw [sGeo_eq]
  refine Ev.bind (Ev.now _) ?_
  have hno : ∀ b : Bool, b = true → Ev (fun k => spec_ViewOk.j0 k b g0 g1 g2 g3 xs) false := by
    intro b hb
    refine Ev.step (spec_ViewOk.j0.eq_2 _ _ _ _ _ _) ?_
    exact ev_pos hb (ev_now rfl)
  by_cases h1 : gOk g0 g1 g2 g3 = true
  · refine ev_pos h1 ?_
    by_cases h2 : (xs.length : Int) ≥ g2
    · exact ev_pos h2 (ev_to (hno _ rfl) (by rw [decide_eq_false (by omega : ¬ (xs.length : Int) < g2)]; simp))
    · refine ev_neg h2 (Ev.bind (sKids_ev xs (by omega) _) ?_)
      by_cases h3 : ((kidV xs (⟨#[47]⟩ : ByteArray)).length : Int) > 6
      · exact ev_to (hno _ (decide_eq_true h3)) (by rw [decide_eq_false (by omega : ¬ ((kidV xs (⟨#[47]⟩ : ByteArray)).length : Int) ≤ 6)]; simp)
      · refine Ev.step (spec_ViewOk.j0.eq_2 _ _ _ _ _ _) ?_
        refine ev_neg (by rw [decide_eq_true_eq]; exact h3) (ev_to (sVO_l g0 g1 g2 g3 xs hn hs xs.length 0 (by omega)) ?_)
        rw [allV_and, h1, decide_eq_true (by omega : (xs.length : Int) < g2), decide_eq_true (by omega : ((kidV xs (⟨#[47]⟩ : ByteArray)).length : Int) ≤ 6)]
        simp
  · exact ev_neg h1 (ev_to (hno _ rfl) (by simp [h1]))
theorem iVO_ev (g0 g1 g2 g3 : Int) (xs : List S75) (hn : xs.length ≤ 1048576) (hs : ∀ y ∈ xs, y.f2.size ≤ 1048576) (hs0 : ∀ y ∈ xs, y.f0.size ≤ 140737488351232) : Ev (fun k => impl_ViewOk.f k g0 g1 g2 g3 xs) (voV g0 g1 g2 g3 xs) := by
  unfold impl_ViewOk.f voV
  rw [iGeo_eq]
  refine Ev.bind (Ev.now _) ?_
  have hno : ∀ b : Bool, b = true → Ev (fun k => impl_ViewOk.j0 k b xs) false := by
    intro b hb
    refine Ev.step (impl_ViewOk.j0.eq_2 _ _) ?_
    exact ev_pos hb (ev_now rfl)
  by_cases h1 : gOk g0 g1 g2 g3 = true
  · refine ev_pos h1 ?_
    by_cases h2 : (xs.length : Int) ≥ g2
    · exact ev_pos h2 (ev_to (hno _ rfl) (by rw [decide_eq_false (by omega : ¬ (xs.length : Int) < g2)]; simp))
    · refine ev_neg h2 (Ev.bind (iPagesIn_ev xs hn hs) ?_)
      by_cases h4 : pgIn xs 0 > g3
      · exact ev_pos h4 (ev_to (hno _ rfl) (by rw [decide_eq_false (by omega : ¬ pgIn xs 0 ≤ g3)]; simp))
      · refine ev_neg h4 (Ev.bind (iKids_ev xs (by omega) hs0 _) ?_)
        by_cases h3 : ((kidV xs (⟨#[47]⟩ : ByteArray)).length : Int) > 6
        · exact ev_to (hno _ (decide_eq_true h3)) (by rw [decide_eq_false (by omega : ¬ ((kidV xs (⟨#[47]⟩ : ByteArray)).length : Int) ≤ 6)]; simp)
        · refine Ev.step (impl_ViewOk.j0.eq_2 _ _) ?_
          refine ev_neg (by rw [decide_eq_true_eq]; exact h3) (ev_to (iVO_l xs hn hs0 xs.length 0 (by omega)) ?_)
          rw [h1, decide_eq_true (by omega : (xs.length : Int) < g2), decide_eq_true (by omega : ((kidV xs (⟨#[47]⟩ : ByteArray)).length : Int) ≤ 6), decide_eq_true (by omega : pgIn xs 0 ≤ g3)]
          simp
  · exact ev_neg h1 (ev_to (hno _ rfl) (by simp [h1]))
theorem FnExactViewOk : laws_FnExactViewOk.Law := by
  intro g0 g1 g2 g3 xs _ _ _ _ hx
  apply Ev.rounds
  unfold laws_FnExactViewOk.f
  refine Ev.bind (szView_ev xs hx _ (by omega) (by omega)) ?_
  by_cases h : left 1048576 (wtItemS xs) < 0
  · exact ev_pos h (ev_now rfl)
  have hb := wtItemS_len (xs := xs) (a := 1048576) (by omega) (by omega)
  have nx := hb.1
  have hs0 := cv_sizes hb.2
  have hs : ∀ y ∈ xs.map cvItem, y.f2.size ≤ 1048576 := by
    intro y hy
    obtain ⟨x, hx, rfl⟩ := List.mem_map.1 hy
    have := hb.2 x hx
    simp only [wtItem, cvItem] at this ⊢
    omega
  have nm : (xs.map cvItem).length ≤ 1048576 := by simpa using nx
  refine ev_neg h ?_
  have hg : laws_toGeo.f g0 g1 g2 g3 = some (g0, g1, g2, g3) := rfl
  repeat' first
    | (with_reducible exact ev_now rfl)
    | (with_reducible refine Ev.bind (toView_ev xs nx) ?_)
    | (with_reducible refine Ev.bind (ev_eq hg) ?_)
    | (with_reducible refine Ev.bind (sVO_ev g0 g1 g2 g3 _ nm hs) ?_)
    | (with_reducible refine Ev.bind (iVO_ev g0 g1 g2 g3 _ nm hs hs0) ?_)
    | (with_reducible refine Ev.bind (eqView_ev _ nm) ?_)
    | (with_reducible refine ev_pos rfl ?_)
    | ((with_reducible refine ev_pos ?c_ ?_); (case c_ => first | rfl | omega | (dsimp only; omega) | (simp only [decide_eq_true_eq]; omega) | (simp; done)))
    | ((with_reducible refine ev_neg ?c_ ?_); (case c_ => first | rfl | omega | (dsimp only; omega) | (simp only [decide_eq_true_eq]; omega) | (simp; done)))
    | ((with_reducible refine ev_now ?c_); (case c_ => first | rfl | (simp; done)))

end Go.Proofs.YtabgpbmaoelohaaDoor.Pure
