/- The pure statement of FnPaths is proved: for all arguments within the row's own bounds the Lean function that the law's walk comes to answers true. Conditions: none beyond these bounds. -/
import Derived.Test.YtabgpbmaoelohaaDoorStFnPaths
import Derived.Test.YtabgpbmaoelohaaDoorBase
namespace Go.Proofs.YtabgpbmaoelohaaDoor.Pure
open Go.RowKit Go.Proofs.YtabgpbmaoelohaaDoor.PFnPaths Go.Proofs.YtabgpbmaoelohaaDoorW.PrintWords Go.Proofs.YtabgpbmaoelohaaDoorW.PrintLast Go.Proofs.YtabgpbmaoelohaaDoor.Base
set_option linter.unusedVariables false
set_option linter.unusedSimpArgs false
/-! ### draw -/
theorem and255 (x : Int) : 0 ≤ Go.bits .and .i64 x 255 ∧ Go.bits .and .i64 x 255 ≤ 255 := by
  have h : (BitVec.ofInt IntKind.i64.bits x &&& BitVec.ofInt IntKind.i64.bits 255).toNat ≤ 255 := by
    rw [BitVec.toNat_and]
    exact Nat.le_trans Nat.and_le_right (by decide)
  show 0 ≤ IntKind.i64.wrap (((BitVec.ofInt IntKind.i64.bits x &&& BitVec.ofInt IntKind.i64.bits 255).toNat : Nat) : Int) ∧ IntKind.i64.wrap (((BitVec.ofInt IntKind.i64.bits x &&& BitVec.ofInt IntKind.i64.bits 255).toNat : Nat) : Int) ≤ 255
  generalize (BitVec.ofInt IntKind.i64.bits x &&& BitVec.ofInt IntKind.i64.bits 255).toNat = m at h
  rw [IntKind.wrap_i64]
  omega
theorem new_l (xs : List Int) (hn : xs.length ≤ 4000000) : ∀ (i : Nat) (h : Int), i ≤ xs.length → ∃ r, Ev (fun k => spec_l01New.l0 k xs h i) (xs, 0, r)
  | i, h, hi => by
    by_cases c : i < xs.length
    · by_cases c2 : (i : Int) < 4000
      · obtain ⟨r, hr⟩ := new_l xs hn (i + 1) (Go.bits .and .i64 (wrap64 ((wrap64 ((wrap64 (h * 131)) + (wrap64 (rd xs i)))) + 7)) 1073741823) (by omega)
        refine ⟨r, ?_⟩
        refine Ev.step (spec_l01New.l0.eq_2 _ _ _) ?_
        refine ev_pos (by omega) (ev_pos c2 (ev_pos (by omega) ?_))
        rw [w64s i (by omega)]
        exact hr
      · refine ⟨h, ?_⟩
        refine Ev.step (spec_l01New.l0.eq_2 _ _ _) ?_
        exact ev_pos (by omega) (ev_neg c2 (ev_now rfl))
    · refine ⟨h, ?_⟩
      refine Ev.step (spec_l01New.l0.eq_2 _ _ _) ?_
      exact ev_neg (by omega) (ev_now rfl)
  termination_by i => xs.length - i
theorem new_ev (xs : List Int) (hn : xs.length ≤ 4000000) : ∃ r, Ev (fun k => spec_l01New.f k xs) (xs, 0, r) := by
  unfold spec_l01New.f
  exact new_l xs hn 0 _ (by omega)
/-- A cursor's place: right, and no further than n. -/
def crs (n i : Int) : Prop := 0 ≤ i ∧ i ≤ n
theorem byte_eq (xs : List Int) (hn : xs.length ≤ 4000000) (i h : Int) (hi : crs 4000000 i) : ∃ b i' h', spec_l01Byte.f xs i h = some (b, i', h') ∧ 0 ≤ b ∧ b ≤ 255 ∧ crs 4000000 i' := by
  unfold spec_l01Byte.f
  obtain ⟨h0, h1⟩ := hi
  by_cases c : i < (xs.length : Int)
  · refine ⟨_, _, _, by rw [if_pos c, if_pos h0], (and255 _).1, (and255 _).2, ?_⟩
    rw [w64 (by omega) (by omega)]
    exact ⟨by omega, by omega⟩
  · exact ⟨_, _, _, by rw [if_neg c], (and255 _).1, (and255 _).2, h0, h1⟩
theorem below_eq (xs : List Int) (hn : xs.length ≤ 4000000) (i h : Int) (hi : crs 4000000 i) (n : Int) (h0 : 0 < n) (h1 : n ≤ 256) : ∃ b i' h', spec_l01Below.f xs i h n = some (b, i', h') ∧ 0 ≤ b ∧ b < n ∧ crs 4000000 i' := by
  unfold spec_l01Below.f
  obtain ⟨b, i', h', e, b0, b1, hi'⟩ := byte_eq xs hn i h hi
  refine ⟨Int.tmod b n, i', h', ?_, ?_, ?_, hi'⟩
  · rw [if_neg (by omega), if_pos h1, e, Option.bind_some, if_neg (by omega)]
  · rw [Int.tmod_eq_emod_of_nonneg b0]; exact Int.emod_nonneg _ (by omega)
  · rw [Int.tmod_eq_emod_of_nonneg b0]; exact Int.emod_lt_of_pos _ h0


/-! ### split47 -/
/-- Cut at each byte 47. -/
def sp47 : List UInt8 → List (List UInt8)
  | [] => [[]]
  | b :: l => if b = 47 then [] :: sp47 l else match sp47 l with
    | [] => [[b]]
    | p :: r => (b :: p) :: r
theorem sp47_ne (l : List UInt8) : sp47 l ≠ [] := by
  cases l with
  | nil => simp [sp47]
  | cons b l => unfold sp47; split; · simp
                split <;> simp
theorem sp47_len (l : List UInt8) : (sp47 l).length ≤ l.length + 1 := by
  induction l with
  | nil => simp [sp47]
  | cons b l ih =>
    unfold sp47
    split
    · simp; omega
    · split
      · simp
      · rename_i p r h; rw [h] at ih; simp at ih ⊢; omega
theorem sp47_slash (l : List UInt8) : sp47 (47 :: l) = [] :: sp47 l := by simp [sp47]
theorem sp47_other (b : UInt8) (l : List UInt8) (hb : b ≠ 47) (p : List UInt8) (r : List (List UInt8)) (h : sp47 l = p :: r) : sp47 (b :: l) = (b :: p) :: r := by simp [sp47, hb, h]
/-- The pieces of 'l', the first of them begun with 'cur'. -/
def pcs (cur l : List UInt8) : List (List UInt8) := match sp47 l with
  | [] => [cur]
  | p :: r => (cur ++ p) :: r
theorem pcs_nil (l : List UInt8) : pcs [] l = sp47 l := by
  unfold pcs
  split
  · rename_i h; exact absurd h (sp47_ne l)
  · rename_i h; simp [h]
theorem pcs_end (cur : List UInt8) : pcs cur [] = [cur] := by simp [pcs, sp47]
theorem pcs_slash (cur l : List UInt8) : pcs cur (47 :: l) = cur :: sp47 l := by simp [pcs, sp47]
theorem pcs_other (cur : List UInt8) (b : UInt8) (l : List UInt8) (hb : b ≠ 47) : pcs cur (b :: l) = pcs (cur ++ [b]) l := by
  unfold pcs
  obtain ⟨p, r, h⟩ := List.exists_cons_of_ne_nil (sp47_ne l)
  rw [sp47_other b l hb p r h, h]
  simp
theorem index47_cons (b : UInt8) (l : List UInt8) : Lib.index (b :: l) [47] = if b = 47 then 0 else if Lib.index l [47] == -1 then -1 else Lib.index l [47] + 1 := by
  rw [Lib.index]
  by_cases h : b = 47
  · subst h; simp [List.isPrefixOf]
  · have : ([47] : List UInt8).isPrefixOf (b :: l) = false := by simp [List.isPrefixOf]; exact fun e => h e.symm
    rw [this, if_neg h]; rfl
theorem splitK47 : ∀ (l : List UInt8), Lib.splitK [47] 0 (l.count 47) l = sp47 l
  | [] => rfl
  | b :: l => by
    have ih := splitK47 l
    by_cases h : b = 47
    · subst h
      have e : Lib.index (47 :: l) [47] = 0 := by rw [index47_cons]; simp
      rw [List.count_cons_self, Lib.splitK, e]
      simp [sp47, ih]
    · rw [List.count_cons_of_ne (by simpa using h)]
      obtain ⟨p, r, hs⟩ := List.exists_cons_of_ne_nil (sp47_ne l)
      rw [sp47_other b l h p r hs]
      rw [hs] at ih
      cases hc : l.count 47 with
      | zero =>
        rw [hc] at ih
        simp only [Lib.splitK] at ih ⊢
        simp at ih
        obtain ⟨rfl, rfl⟩ := ih
        rfl
      | succ n =>
        rw [hc] at ih
        have hi := index47_cons b l
        rw [if_neg h] at hi
        have hg := Lib.index_ge l [47]
        by_cases hm : Lib.index l [47] = -1
        · rw [hm] at hi
          simp at hi
          rw [Lib.splitK, hm] at ih
          rw [Lib.splitK, hi]
          simp at ih ⊢
          exact ⟨ih.1, ih.2⟩
        · rw [if_neg (by simpa using hm)] at hi
          obtain ⟨j, hj⟩ : ∃ j : Nat, Lib.index l [47] = j := ⟨(Lib.index l [47]).toNat, by omega⟩
          rw [hj] at hi hm
          rw [Lib.splitK, hj, if_neg (by simp)] at ih
          have e2 : ((j : Int) + 1).toNat = j + 1 := by omega
          rw [Lib.splitK, hi, if_neg (by simp; omega), e2]
          simp at ih ⊢
          exact ⟨by rw [← ih.1], by rw [← ih.2]⟩
theorem split47B (s : ByteArray) : (Lib.splitB ⟨#[47]⟩ 0 (Lib.countB s ⟨#[47]⟩) s).map (·.data.toList) = sp47 s.data.toList := by
  rw [Lib.splitB_data]
  have : Lib.countB s ⟨#[47]⟩ = s.data.toList.count 47 := by unfold Lib.countB; exact Lib.count_one 47 _
  rw [this]
  exact splitK47 _
/-- 'l' ends with a 47. -/
def end47 : List UInt8 → Bool
  | [] => false
  | [b] => b == 47
  | _ :: b :: l => end47 (b :: l)
def two47 : List UInt8 → Bool
  | [] => false
  | [_] => false
  | a :: b :: l => (a == 47 && b == 47) || two47 (b :: l)
theorem contains47 : ∀ l : List UInt8, Lib.contains l [47, 47] = two47 l
  | [] => rfl
  | [b] => by simp [Lib.contains, Lib.index, two47, List.isPrefixOf]
  | a :: b :: l => by
    have ih := contains47 (b :: l)
    have hg := Lib.index_ge (b :: l) [47, 47]
    unfold Lib.contains at ih ⊢
    rw [Lib.index, two47]
    by_cases h : a = 47 ∧ b = 47
    · obtain ⟨rfl, rfl⟩ := h; simp [List.isPrefixOf]
    · have e : ([47, 47] : List UInt8).isPrefixOf (a :: b :: l) = false := by
        simp [List.isPrefixOf]; intro h1 h2; exact h ⟨h1.symm, h2.symm⟩
      have e2 : (a == 47 && b == 47) = false := by simp; intro h1; exact fun h2 => h ⟨h1, h2⟩
      rw [e, e2, Bool.false_or, ← ih]
      by_cases hm : Lib.index (b :: l) [47, 47] = -1
      · rw [hm]; rfl
      · rw [if_neg (by simp), if_neg (by simpa using hm)]
        rw [decide_eq_decide]; omega
theorem suffix47 : ∀ l : List UInt8, Lib.hasSuffix l [47] = end47 l
  | [] => rfl
  | [b] => by
    unfold Lib.hasSuffix
    simp [end47, List.isSuffixOf, List.isPrefixOf]
    rw [Bool.eq_iff_iff, beq_iff_eq, beq_iff_eq]; exact eq_comm
  | a :: b :: l => by
    rw [end47, ← suffix47 (b :: l)]
    unfold Lib.hasSuffix
    rw [Bool.eq_iff_iff, List.isSuffixOf_iff_suffix, List.isSuffixOf_iff_suffix]
    constructor
    · rintro ⟨t, ht⟩
      cases t with
      | nil => simp at ht
      | cons c t => simp at ht; exact ⟨t, ht.2⟩
    · rintro ⟨t, ht⟩; exact ⟨a :: t, by simp [ht]⟩
def emp (l : List (List UInt8)) : Bool := l.any (·.isEmpty)
theorem emp_sp : ∀ (l : List UInt8), (∀ b, b ≠ 47 → (two47 (b :: l) || end47 (b :: l)) = emp (sp47 l).tail) ∧ (two47 (47 :: l) || end47 (47 :: l)) = emp (sp47 l)
  | [] => by
    refine ⟨fun b hb => ?_, rfl⟩
    simp [two47, end47, emp, sp47, hb]
  | c :: l => by
    obtain ⟨h1, h2⟩ := emp_sp l
    by_cases hc : c = 47
    · subst hc
      refine ⟨fun b hb => ?_, ?_⟩
      · rw [sp47_slash, List.tail_cons, ← h2, two47, end47]
        simp [show (b == 47) = false from beq_eq_false_iff_ne.2 hb]
      · simp [two47, sp47_slash, emp]
    · obtain ⟨p, r, hs⟩ := List.exists_cons_of_ne_nil (sp47_ne l)
      have := h1 c hc
      rw [hs, List.tail_cons] at this
      refine ⟨fun b hb => ?_, ?_⟩
      · rw [sp47_other c l hc p r hs, List.tail_cons, ← this, two47, end47]; simp [show (b == 47) = false from beq_eq_false_iff_ne.2 hb]
      · rw [sp47_other c l hc p r hs, show emp ((c :: p) :: r) = emp r by simp [emp], ← this, two47, end47]; simp [show (c == 47) = false from beq_eq_false_iff_ne.2 hc]
/-- A byte of a name. -/
def nb (b : UInt8) : Bool := (decide (97 ≤ b.toNat) && decide (b.toNat ≤ 122)) || (decide (48 ≤ b.toNat) && decide (b.toNat ≤ 57))
def badB (b : UInt8) : Bool := !(nb b || b == 47)
theorem decode_low (s : ByteArray) (i : Nat) (h : (s.get! i).toNat < 128) : Utf8.decode s i = ((s.get! i).toNat, 1) := by
  unfold Utf8.decode
  simp only [Nat.add_zero]
  rw [if_pos h]
theorem decode_high (s : ByteArray) (i : Nat) (h : ¬ (s.get! i).toNat < 128) : 128 ≤ (Utf8.decode s i).1 := by
  unfold Utf8.decode
  simp only [Nat.add_zero]
  rw [if_neg h]
  have hr : 128 ≤ Utf8.runeError := by decide
  repeat' (first | exact hr | (split))
  all_goals first | exact hr | assumption | (simp only [ge_iff_le, Bool.and_eq_true, decide_eq_true_eq] at *; omega)
theorem idx_bad (p : Nat → Bool) (hp : ∀ r, p r = !((97 ≤ r && r ≤ 122) || (48 ≤ r && r ≤ 57) || r == 47)) (s : ByteArray) : ∀ (f pos : Nat), s.size ≤ pos + f →
    decide (0 ≤ Lib.idxFuncFrom p true s f pos) = (s.data.toList.drop pos).any badB
  | 0, pos, h => by
    rw [List.drop_of_length_le (by rw [Array.length_toList]; exact h)]
    simp [Lib.idxFuncFrom]
  | f + 1, pos, h => by
    unfold Lib.idxFuncFrom
    by_cases hlt : pos < s.size
    · rw [if_pos hlt]
      have hg : s.get! pos = s.data.toList[pos]'(by rw [Array.length_toList]; exact hlt) := by
        show s.data[pos]! = _
        rw [getElem!_pos s.data pos hlt]; simp
      rw [List.drop_eq_getElem_cons (by rw [Array.length_toList]; exact hlt), List.any_cons, ← hg]
      by_cases hb : (s.get! pos).toNat < 128
      · rw [decode_low s pos hb, hp]
        have e : (!((decide (97 ≤ (s.get! pos).toNat) && decide ((s.get! pos).toNat ≤ 122)) || (decide (48 ≤ (s.get! pos).toNat) && decide ((s.get! pos).toNat ≤ 57)) || (s.get! pos).toNat == 47)) = badB (s.get! pos) := by
          unfold badB nb
          congr 2
          rw [Bool.eq_iff_iff, beq_iff_eq, beq_iff_eq, ← UInt8.toNat_inj]; rfl
        rw [e]
        cases hq : badB (s.get! pos) with
        | true => rw [if_pos rfl]; simp
        | false => rw [if_neg (by simp), Bool.false_or]; exact idx_bad p hp s f (pos + 1) (by omega)
      · have hd := decode_high s pos hb
        have e1 : p (Utf8.decode s pos).1 = true := by
          rw [hp]; simp; omega
        have e2 : badB (s.get! pos) = true := by
          unfold badB nb
          have : (s.get! pos == 47) = false := by
            rw [beq_eq_false_iff_ne]; intro e; rw [e] at hb; exact hb (by decide)
          rw [this]; simp; omega
        rw [if_pos e1, e2]; simp
    · rw [if_neg hlt, List.drop_of_length_le (by rw [Array.length_toList]; exact Nat.le_of_not_lt hlt)]; simp

/-! ### lin -/
theorem l01In_eq (a b c : Int) : spec_l01In.f a b c = some (decide (b ≤ a ∧ a ≤ c)) := by
  unfold spec_l01In.f
  by_cases h : a ≥ b
  · rw [if_pos h]; congr 1; simp; omega
  · rw [if_neg h]; congr 1; simp; omega

/-! ### splitpath -/
def mkB (l : List UInt8) : ByteArray := ⟨l.toArray⟩
theorem mkB_list (l : List UInt8) : (mkB l).data.toList = l := rfl
theorem mkB_size (l : List UInt8) : (mkB l).size = l.length := b_size l
theorem mkB_data (b : ByteArray) : mkB b.data.toList = b := b_inj rfl
theorem mkB_map {xs : List ByteArray} {l : List (List UInt8)} (h : xs.map (·.data.toList) = l) : xs = l.map mkB := by
  rw [← h, List.map_map]
  have : (mkB ∘ fun x : ByteArray => x.data.toList) = id := by funext b; exact mkB_data b
  rw [this, List.map_id]
theorem btn (a : ByteArray) (i : Nat) (h : i < a.data.toList.length) : bt a (i : Int) = ((a.data.toList[i]).toNat : Int) := by
  have h2 : i < a.size := by rw [b_len] at h; exact h
  rw [← bt_at a (i : Int) (by simpa using h2)]
  simp only [Int.toNat_natCast]; rfl
def fin47 (out : List ByteArray) (long : Bool) (cur rest : List UInt8) : List ByteArray × Int :=
  if rest.any badB then ([], 1) else if emp (pcs cur rest) then ([], 1) else if long || (pcs cur rest).any (fun p => decide (7 < p.length)) then ([], 2) else (out ++ (pcs cur rest).map mkB, 0)
theorem nb_i (x : UInt8) : (decide ((97 : Int) ≤ (x.toNat : Int) ∧ (x.toNat : Int) ≤ 122) || decide ((48 : Int) ≤ (x.toNat : Int) ∧ (x.toNat : Int) ≤ 57)) = nb x := by
  unfold nb
  rw [Bool.eq_iff_iff]
  simp
  omega
theorem fin_bad (out : List ByteArray) (long : Bool) (cur rest : List UInt8) (x : UInt8) (h : badB x = true) : fin47 out long cur (x :: rest) = ([], 1) := by
  unfold fin47
  rw [if_pos (by simp [h])]
theorem fin_nb (out : List ByteArray) (long : Bool) (cur rest : List UInt8) (x : UInt8) (h : nb x = true) (h47 : x ≠ 47) : fin47 out long cur (x :: rest) = fin47 out long (cur ++ [x]) rest := by
  unfold fin47
  rw [pcs_other cur x rest h47, List.any_cons, show badB x = false by simp [badB, h], Bool.false_or]
theorem bad47 : badB 47 = false := by decide
theorem fin_empty (out : List ByteArray) (long : Bool) (rest : List UInt8) : fin47 out long [] (47 :: rest) = ([], 1) := by
  unfold fin47
  rw [pcs_slash, show emp ([] :: sp47 rest) = true by simp [emp]]
  split <;> rfl
theorem fin_slash (out : List ByteArray) (long : Bool) (cur rest : List UInt8) (hc : cur ≠ []) : fin47 out long cur (47 :: rest) = fin47 (out ++ [mkB cur]) (long || decide (7 < cur.length)) [] rest := by
  unfold fin47
  rw [pcs_slash, pcs_nil, List.any_cons, bad47, Bool.false_or]
  rw [show emp (cur :: sp47 rest) = emp (sp47 rest) by simp [emp, hc]]
  simp only [List.any_cons, List.map_cons, List.append_assoc, List.singleton_append, Bool.or_assoc]
theorem fin_end0 (out : List ByteArray) (long : Bool) : fin47 out long [] [] = ([], 1) := by
  unfold fin47
  rw [pcs_end]; rfl
theorem fin_end (out : List ByteArray) (long : Bool) (cur : List UInt8) (hc : cur ≠ []) : fin47 out long cur [] = if (long || decide (7 < cur.length)) then ([], 2) else (out ++ [mkB cur], 0) := by
  unfold fin47
  rw [pcs_end]
  simp [emp, hc]
theorem sSplit_l (a : ByteArray) (hn : a.size ≤ 60) : ∀ (i bg : Nat) (out : List ByteArray) (long : Bool), bg ≤ i → i ≤ a.size → out.length ≤ i → Ev (fun k => spec_SplitPath.l0 k a [] out long (bg : Int) (i : Int)) (fin47 out long ((a.data.toList.take i).drop bg) (a.data.toList.drop i))
  | i, bg, out, long, hb, hi, ho => by
    refine Ev.step (spec_SplitPath.l0.eq_2 _ _ _ _ _ _) ?_
    have hl := b_len a
    have hcl : ((a.data.toList.take i).drop bg).length = i - bg := by rw [List.length_drop, List.length_take]; omega
    have hE : a.extract (bg : Int).toNat (i : Int).toNat = mkB ((a.data.toList.take i).drop bg) := b_inj (by rw [b_cut, mkB_list]; rfl)
    have hw : wrap64 ((i : Int) - (bg : Int)) = (i : Int) - bg := w64 (by omega) (by omega)
    have hlim : out.length < 8796093022208 := by omega
    by_cases h : i < a.size
    · have h' : i < a.data.toList.length := by omega
      rw [drop_at a.data.toList i h']
      refine ev_pos (by omega) (ev_pos (by omega) (ev_pos (by omega) ?_))
      refine Ev.step (spec_SplitPath.j2.eq_2 _ _ _ _ _ _ _) ?_
      rw [btn a i h']
      have htk : (a.data.toList.take (i + 1)).drop bg = (a.data.toList.take i).drop bg ++ [a.data.toList[i]] := by
        rw [List.take_succ_eq_append_getElem h', List.drop_append_of_le_length (by rw [List.length_take]; omega)]
      have htk2 : (a.data.toList.take (i + 1)).drop (i + 1) = [] := List.drop_of_length_le (by rw [List.length_take]; omega)
      generalize hx : a.data.toList[i] = x at htk
      by_cases h47 : x = 47
      · subst h47
        refine ev_neg (by decide) ?_
        by_cases hbi : bg = i
        · subst hbi
          refine ev_pos rfl (ev_now ?_)
          rw [show (a.data.toList.take bg).drop bg = [] from List.eq_nil_of_length_eq_zero (by omega), fin_empty]
        · refine ev_neg (by omega) ?_
          rw [fin_slash _ _ _ _ (by intro e; rw [e] at hcl; simp at hcl; omega), hcl]
          have ih := fun lg => sSplit_l a hn (i + 1) (i + 1) (out ++ [mkB ((a.data.toList.take i).drop bg)]) lg (Nat.le_refl _) (by omega) (by simp; omega)
          rw [htk2] at ih
          cases long with
          | true =>
            refine ev_pos rfl (ev_pos (by omega) (ev_pos (by omega) (ev_pos (by omega) (ev_pos hlim ?_))))
            rw [hE, w64s i (by omega)]
            exact ih true
          | false =>
            refine ev_neg (by simp) (ev_pos (by omega) (ev_pos (by omega) (ev_pos (by omega) (ev_pos hlim ?_))))
            rw [hE, w64s i (by omega), hw]
            have e : decide ((i : Int) - (bg : Int) > 7) = decide (7 < i - bg) := by rw [decide_eq_decide]; omega
            rw [e, Bool.false_or]
            exact ih _
      · have hne : (((x.toNat : Int)) != 47) = true := by
          rw [bne_iff_ne]; intro e; exact h47 (UInt8.toNat_inj.1 (by have : x.toNat = 47 := by omega
                                                                     rw [this]; rfl))
        have hxl : x.toNat < 256 := UInt8.toNat_lt x
        refine ev_pos hne (ev_pos (by omega) (ev_pos (by omega) ?_))
        rw [w64 (by omega) (by omega)]
        have hj : ∀ v, v = !nb x → Ev (fun k => spec_SplitPath.j3 k a [] out long (bg : Int) (i : Int) v) (fin47 out long ((a.data.toList.take i).drop bg) (x :: a.data.toList.drop (i + 1))) := by
          intro v hv
          refine Ev.step (spec_SplitPath.j3.eq_2 _ _ _ _ _ _ _) ?_
          cases hq : nb x with
          | false => 
            rw [hq] at hv
            exact ev_pos hv (ev_now (fin_bad _ _ _ _ _ (by simp [badB, hq, h47])).symm)
          | true =>
            rw [hq] at hv
            subst hv
            refine ev_neg (by simp) ?_
            rw [fin_nb _ _ _ _ _ hq h47, w64s i (by omega), ← htk]
            exact sSplit_l a hn (i + 1) bg out long (by omega) (by omega) (by omega)
        have hnb := nb_i x
        refine Ev.bind (ev_eq (l01In_eq _ _ _)) ?_
        by_cases q1 : (97 : Int) ≤ (x.toNat : Int) ∧ (x.toNat : Int) ≤ 122
        · refine ev_pos (by simpa using q1) (hj _ ?_)
          rw [← hnb, decide_eq_true q1]; rfl
        · refine ev_neg (by simpa using q1) (Ev.bind (ev_eq (l01In_eq _ _ _)) (hj _ ?_))
          rw [← hnb, decide_eq_false q1, Bool.false_or]
    · have he : i = a.size := by omega
      refine ev_pos (by omega) (ev_neg (by omega) ?_)
      refine Ev.step (spec_SplitPath.j2.eq_2 _ _ _ _ _ _ _) ?_
      refine ev_neg (by simp) ?_
      rw [List.drop_of_length_le (by omega : a.data.toList.length ≤ i)]
      by_cases hbi : bg = i
      · subst hbi
        refine ev_pos rfl (ev_now ?_)
        rw [show (a.data.toList.take bg).drop bg = [] from List.eq_nil_of_length_eq_zero (by omega), fin_end0]
      · refine ev_neg (by omega) ?_
        rw [fin_end _ _ _ (by intro e; rw [e] at hcl; simp at hcl; omega), hcl]
        have last : ∀ (o : List ByteArray) (lg : Bool), Ev (fun k => spec_SplitPath.l0 k a [] o lg ((i + 1 : Nat) : Int) ((i + 1 : Nat) : Int)) (if lg then ([], 2) else (o, 0)) := by
          intro o lg
          refine Ev.step (spec_SplitPath.l0.eq_2 _ _ _ _ _ _) ?_
          refine ev_neg (by omega) ?_
          cases lg with
          | true => exact ev_pos rfl (ev_now rfl)
          | false => exact ev_neg (by simp) (ev_now rfl)
        cases long with
        | true =>
          refine ev_pos rfl (ev_pos (by omega) (ev_pos (by omega) (ev_pos (by omega) (ev_pos hlim ?_))))
          rw [hE, w64s i (by omega)]
          exact ev_to (last _ _) (by simp)
        | false =>
          refine ev_neg (by simp) (ev_pos (by omega) (ev_pos (by omega) (ev_pos (by omega) (ev_pos hlim ?_))))
          rw [hE, w64s i (by omega), hw]
          have e : decide ((i : Int) - (bg : Int) > 7) = decide (7 < i - bg) := by rw [decide_eq_decide]; omega
          rw [e, Bool.false_or]
          exact last _ _
  termination_by i => a.size + 1 - i
/-- What SplitPath comes to. -/
def spP (a : ByteArray) : List ByteArray × Int :=
  if 60 < a.size then ([], 1) else match a.data.toList with
    | [] => ([], 1)
    | c :: t => if c ≠ 47 then ([], 1) else if t = [] then ([], 0) else fin47 [] false [] t
theorem sSplit_ev (a : ByteArray) : Ev (fun k => spec_SplitPath.f k a) (spP a) := by
  unfold spec_SplitPath.f spP
  simp only [Option.bind_some]
  have hl := b_len a
  have j1 : Ev (fun k => spec_SplitPath.j0 k a [] true) ([], 1) := by
    refine Ev.step (spec_SplitPath.j0.eq_2 _ _ _) ?_
    exact ev_pos rfl (ev_now rfl)
  by_cases h : 60 < a.size
  · rw [if_pos h]; exact ev_pos (by omega) j1
  · rw [if_neg h]
    refine ev_neg (by omega) ?_
    rcases hq : a.data.toList with _ | ⟨c, t⟩
    · rw [hq] at hl; simp at hl
      exact ev_pos (by omega) j1
    · have hl' := hl
      rw [hq] at hl'; simp at hl'
      refine ev_neg (by omega) (ev_pos (by omega) ?_)
      have hb := btn a 0 (by omega)
      have e0 : a.data.toList[0]'(by omega) = c := by simp [hq]
      rw [e0] at hb
      rw [show bt a 0 = (c.toNat : Int) from hb]
      refine Ev.step (spec_SplitPath.j0.eq_2 _ _ _) ?_
      by_cases h47 : c = 47
      · subst h47
        refine ev_neg (by decide) ?_
        rw [b_toList, hq]
        simp only [ne_eq, not_true, if_false]
        by_cases ht : t = []
        · subst ht; exact ev_pos rfl (ev_now rfl)
        · rw [if_neg ht]
          refine ev_neg (by simp [ht]) (ev_to (sSplit_l a (by omega) 1 1 [] false (Nat.le_refl _) (by omega) (by simp)) ?_)
          rw [hq]; simp
      · refine ev_pos ?_ (ev_now (by simp [h47]))
        rw [bne_iff_ne]; intro e; exact h47 (UInt8.toNat_inj.1 (by have : c.toNat = 47 := by omega
                                                                   rw [this]; rfl))
def long7 (xs : List ByteArray) : Bool := xs.any (fun p => decide (7 < p.size))
theorem iIdx_l (xs : List ByteArray) (hn : xs.length ≤ 1000000) : ∀ i : Nat, i ≤ xs.length → ∃ r : Int, Ev (fun k => slices_IndexFunc_string.l0 k xs (xs.length : Int) (i : Int)) r ∧ decide (r ≥ 0) = long7 (xs.drop i)
  | i, hi => by
    by_cases h : i < xs.length
    · rw [drop_at xs i h]
      by_cases hs : 7 < xs[i].size
      · refine ⟨i, ?_, ?_⟩
        · refine Ev.step (slices_IndexFunc_string.l0.eq_2 _ _ _) ?_
          refine ev_pos (by omega) (ev_pos (by omega) (ev_pos (by omega) (Ev.bind (ev_eq rfl) (ev_pos ?_ (ev_now rfl)))))
          rw [rdOf_at _ xs i h]; exact decide_eq_true (by omega)
        · rw [show long7 (xs[i] :: xs.drop (i + 1)) = (decide (7 < xs[i].size) || long7 (xs.drop (i + 1))) from rfl, decide_eq_true hs]; simp
      · obtain ⟨r, hr, he⟩ := iIdx_l xs hn (i + 1) (by omega)
        refine ⟨r, ?_, ?_⟩
        · refine Ev.step (slices_IndexFunc_string.l0.eq_2 _ _ _) ?_
          refine ev_pos (by omega) (ev_pos (by omega) (ev_pos (by omega) (Ev.bind (ev_eq rfl) (ev_neg ?_ ?_))))
          · rw [rdOf_at _ xs i h]; simp; omega
          · rw [w64s i (by omega)]; exact hr
        · rw [he, show long7 (xs[i] :: xs.drop (i + 1)) = (decide (7 < xs[i].size) || long7 (xs.drop (i + 1))) from rfl, decide_eq_false hs]; simp
    · refine ⟨-1, ?_, ?_⟩
      · refine Ev.step (slices_IndexFunc_string.l0.eq_2 _ _ _) ?_
        exact ev_neg (by omega) (ev_now rfl)
      · rw [List.drop_of_length_le (by omega)]; rfl
  termination_by i => xs.length - i
theorem iHas_ev (xs : List ByteArray) (hn : xs.length ≤ 1000000) : Ev (fun k => slices_ContainsFunc_string.f k xs ()) (long7 xs) := by
  unfold slices_ContainsFunc_string.f slices_IndexFunc_string.f
  obtain ⟨r, hr, he⟩ := iIdx_l xs hn 0 (by omega)
  exact Ev.bind hr (ev_now (by rw [he, List.drop_zero]))
theorem iBad (a : ByteArray) : strings_ContainsFunc.f a () = some (a.data.toList.any badB) := by
  unfold strings_ContainsFunc.f
  congr 1
  have := idx_bad (fun r => (impl_SplitPath_1.f (r : Int)).getD false) (fun r => by
    unfold impl_SplitPath_1.f impl_isPathByte.f
    by_cases h1 : (r : Int) ≥ 97 <;> by_cases h2 : (r : Int) ≤ 122 <;> by_cases h3 : (r : Int) ≥ 48 <;> by_cases h4 : (r : Int) ≤ 57 <;> simp only [h1, h2, h3, h4, if_true, if_false, Option.bind_some, Option.getD_some] <;> rw [Bool.eq_iff_iff] <;> simp <;> omega) a a.size 0 (by omega)
  rw [List.drop_zero] at this
  exact this
theorem long7_mk (l : List (List UInt8)) : long7 (l.map mkB) = l.any (fun p => decide (7 < p.length)) := by
  unfold long7
  rw [List.any_map]
  rfl
theorem iSplit_ev (a : ByteArray) (ha : a.size ≤ 140737488351232) : Ev (fun k => impl_SplitPath.f k a) (spP a) := by
  unfold impl_SplitPath.f spP
  have hl := b_len a
  have j1 : Ev (fun k => impl_SplitPath.j0 k a true) ([], 1) := by
    refine Ev.step (impl_SplitPath.j0.eq_2 _ _) ?_
    exact ev_pos rfl (ev_now rfl)
  by_cases h : 60 < a.size
  · rw [if_pos h]; exact ev_pos (by omega) j1
  · rw [if_neg h]
    refine ev_neg (by omega) ?_
    have hC : strings_Contains.f a ⟨#[47, 47]⟩ = some (two47 a.data.toList) := by
      unfold strings_Contains.f
      rw [if_pos (by omega)]
      congr 1
      exact contains47 _
    have hS : strings_HasSuffix.f a ⟨#[47]⟩ = some (end47 a.data.toList) := by
      unfold strings_HasSuffix.f
      rw [if_pos (by omega)]
      congr 1
      exact suffix47 _
    rcases hq : a.data.toList with _ | ⟨c, t⟩
    · refine Ev.bind (ev_eq (show strings_HasPrefix.f a ⟨#[47]⟩ = some false by unfold strings_HasPrefix.f; rw [hq]; rfl)) ?_
      exact ev_neg (by simp) j1
    · have hP : strings_HasPrefix.f a ⟨#[47]⟩ = some (c == 47) := by
        unfold strings_HasPrefix.f
        rw [hq]
        congr 1
        show ([47] : List UInt8).isPrefixOf (c :: t) = _
        simp [List.isPrefixOf]
        rw [Bool.eq_iff_iff, beq_iff_eq, beq_iff_eq]; exact ⟨fun h => h.symm, fun h => h.symm⟩
      refine Ev.bind (ev_eq hP) ?_
      by_cases h47 : c = 47
      · subst h47
        refine ev_pos (by simp) ?_
        rw [b_toList, hC, hS, hq]
        simp only [ne_eq, not_true, if_false]
        have h1 : (1 : Int) ≤ (a.size : Int) := by rw [hq] at hl; simp at hl; omega
        by_cases ht : t = []
        · subst ht
          rw [if_pos rfl]
          refine ev_pos rfl (Ev.bind (ev_eq rfl) ?_)
          refine Ev.step (impl_SplitPath.j0.eq_2 _ _) ?_
          refine ev_neg (by decide) (Ev.bind (ev_eq (iBad a)) ?_)
          rw [hq]
          refine ev_neg (by decide) ?_
          rw [b_toList, hq]
          exact ev_pos rfl (ev_now rfl)
        · rw [if_neg ht]
          refine ev_neg (by simp [ht]) (Ev.bind (ev_eq rfl) ?_)
          have hemp := (emp_sp t).2
          have main : ∀ v, v = two47 (47 :: t) → end47 (47 :: t) = false → Ev (fun k => impl_SplitPath.j0 k a v) (fin47 [] false [] t) := by
            intro v hv he
            rw [he, Bool.or_false] at hemp
            refine Ev.step (impl_SplitPath.j0.eq_2 _ _) ?_
            unfold fin47
            rw [pcs_nil]
            cases hv2 : v with
            | true =>
              refine ev_pos rfl (ev_now ?_)
              rw [← hemp, ← hv, hv2]
              split <;> rfl
            | false =>
              refine ev_neg (by simp) (Ev.bind (ev_eq (iBad a)) ?_)
              rw [hq, List.any_cons, bad47, Bool.false_or, ← hemp, ← hv, hv2]
              cases hb : t.any badB with
              | true => exact ev_pos rfl (ev_now (by simp))
              | false =>
                refine ev_neg (by simp) ?_
                rw [b_toList, hq]
                refine ev_neg (by simp [ht]) (ev_pos h1 ?_)
                have hsz : (a.extract 1 a.size).data.toList = t := by
                  rw [b_cut, ← hl, List.take_length, hq]; rfl
                have hsp : strings_Split.f (a.extract 1 a.size) ⟨#[47]⟩ = some ((sp47 t).map mkB) := by
                  unfold strings_Split.f
                  have hs2 : (a.extract 1 a.size).size < 4294967281 := by
                    rw [← b_len, hsz]; rw [hq] at hl; simp at hl; omega
                  rw [if_pos ⟨hs2, by decide⟩]
                  congr 1
                  refine mkB_map ?_
                  rw [split47B, hsz]
                refine Ev.bind (ev_eq hsp) ?_
                have hln : ((sp47 t).map mkB).length ≤ 1000000 := by
                  have := sp47_len t
                  rw [List.length_map]; rw [hq] at hl; simp at hl; omega
                refine Ev.bind (iHas_ev _ hln) ?_
                rw [long7_mk]
                cases hg : (sp47 t).any (fun p => decide (7 < p.length)) with
                | true => exact ev_pos rfl (ev_now (by simp))
                | false => exact ev_neg (by simp) (ev_now (by simp))
          cases he : end47 (47 :: t) with
          | true =>
            refine ev_pos rfl (ev_to j1 ?_)
            rw [he, Bool.or_true] at hemp
            unfold fin47
            rw [pcs_nil, ← hemp]
            split <;> rfl
          | false =>
            refine ev_neg (by simp) (Ev.bind (ev_eq rfl) ?_)
            exact main _ rfl he
      · refine ev_neg (by simp [h47]) (ev_to j1 ?_)
        simp [h47]

/-! ### splitlen -/
theorem spP_len (a : ByteArray) : (spP a).1.length ≤ 1000 := by
  unfold spP
  split
  · simp
  · rename_i h
    have hl := b_len a
    split
    · simp
    · rename_i c t hq
      split
      · simp
      · split
        · simp
        · unfold fin47
          have := sp47_len t
          rw [hq] at hl; simp at hl
          repeat' (first | (split) | (simp; done))
          rw [pcs_nil]; simp; omega
theorem sumBy_le_append {α : Type} (f : α → Nat) (xs : List α) (n : Nat) : sumBy f (xs.take n) ≤ sumBy f xs := by
  induction xs generalizing n with
  | nil => simp
  | cons x r ih =>
    cases n with
    | zero => simp [sumBy]
    | succ n => rw [List.take_succ_cons, sumBy_cons, sumBy_cons]; have := ih n; omega
theorem sp47_sum : ∀ l : List UInt8, sumBy (fun p : List UInt8 => p.length) (sp47 l) ≤ l.length
  | [] => by simp [sp47, sumBy]
  | b :: l => by
    have ih := sp47_sum l
    by_cases h : b = 47
    · subst h; rw [sp47_slash, sumBy_cons]; simp; omega
    · obtain ⟨p, r, hs⟩ := List.exists_cons_of_ne_nil (sp47_ne l)
      rw [sp47_other b l h p r hs, sumBy_cons]
      rw [hs, sumBy_cons] at ih
      simp; omega
theorem sumBy_mk (l : List (List UInt8)) : sumBy (fun b : ByteArray => b.size) (l.map mkB) = sumBy (fun p : List UInt8 => p.length) l := by
  induction l with
  | nil => rfl
  | cons p r ih => rw [List.map_cons, sumBy_cons, sumBy_cons, ih, mkB_size]
/-- The ways of a good path. -/
theorem spP_ok (a : ByteArray) (h : (spP a).2 = 0) : a.size ≤ 60 ∧ ((a.data.toList = [47] ∧ (spP a).1 = []) ∨ ∃ t, a.data.toList = 47 :: t ∧ t ≠ [] ∧ t.any badB = false ∧ emp (sp47 t) = false ∧ (sp47 t).any (fun p => decide (7 < p.length)) = false ∧ (spP a).1 = (sp47 t).map mkB) := by
  unfold spP at h ⊢
  split at h
  · cases h
  rename_i h60
  rw [if_neg h60]
  refine ⟨by omega, ?_⟩
  split at h
  · cases h
  · rename_i c t hq
    rw [hq]
    split at h
    · cases h
    · rename_i h47
      simp only [ne_eq, Decidable.not_not] at h47
      subst h47
      split at h
      · rename_i ht
        subst ht
        exact Or.inl ⟨rfl, by simp⟩
      · rename_i ht
        right
        refine ⟨t, rfl, ht, ?_⟩
        simp only [ne_eq, not_true, if_false, if_neg ht]
        unfold fin47 at h ⊢
        rw [pcs_nil] at h ⊢
        cases hb : t.any badB with
        | true => rw [hb] at h; cases h
        | false =>
          cases he : emp (sp47 t) with
          | true => rw [hb, he] at h; cases h
          | false =>
            cases hl : (sp47 t).any (fun p => decide (7 < p.length)) with
            | true => rw [hb, he, hl] at h; cases h
            | false => simp
theorem spP_sum (a : ByteArray) : (spP a).1.length + sumBy (fun b : ByteArray => b.size) (spP a).1 ≤ 1000000 := by
  unfold spP
  split
  · simp [sumBy]
  · rename_i h
    have hl := b_len a
    split
    · simp [sumBy]
    · rename_i c t hq
      rw [hq] at hl; simp at hl
      split
      · simp [sumBy]
      · split
        · simp [sumBy]
        · unfold fin47
          have h1 := sp47_len t
          have h2 := sp47_sum t
          repeat' (first | (simp [sumBy]; done) | split)
          rw [pcs_nil, List.nil_append, sumBy_mk, List.length_map]; omega

/-! ### lastof -/
def lastP (a : ByteArray) : ByteArray := if (spP a).2 = 0 then (spP a).1.getLastD ⟨#[]⟩ else ⟨#[]⟩
theorem last_at (xs : List ByteArray) (hn : xs.length ≤ 1000) : Ev (fun _ : Nat => if (xs.length : Int) = 0 then some (⟨#[]⟩ : ByteArray) else if 0 ≤ wrap64 ((xs.length : Int) - 1) then (if wrap64 ((xs.length : Int) - 1) < (xs.length : Int) then some (rdOf ByteArray.empty xs (wrap64 ((xs.length : Int) - 1))) else none) else none) (xs.getLastD ⟨#[]⟩) := by
  by_cases h : xs.length = 0
  · refine ev_pos (by omega) (ev_now ?_)
    rw [List.eq_nil_of_length_eq_zero h]; rfl
  · refine ev_neg (by omega) ?_
    rw [w64 (by omega) (by omega)]
    refine ev_pos (by omega) (ev_pos (by omega) (ev_now ?_))
    rw [show (xs.length : Int) - 1 = ((xs.length - 1 : Nat) : Int) by omega, rdOf_at _ xs (xs.length - 1) (by omega)]
    rw [List.getLastD_eq_getLast?, List.getLast?_eq_getElem?, List.getElem?_eq_getElem (by omega)]; rfl

theorem iLast_ev (a : ByteArray) (ha : a.size ≤ 140737488351232) : Ev (fun k => impl_LastOf.f k a) (lastP a) := by
  unfold impl_LastOf.f lastP
  refine Ev.bind (iSplit_ev a ha) ?_
  by_cases h : (spP a).2 = 0
  · exact ev_pos h (ev_to (last_at _ (spP_len a)) (if_pos h).symm)
  · exact ev_neg h (ev_now (if_neg h).symm)

/-! ### eqstr -/
theorem drop_eq_iff' {α : Type} (xs ys : List α) (i : Nat) (h1 : i < xs.length) (h2 : i < ys.length) : xs.drop i = ys.drop i ↔ xs[i] = ys[i] ∧ xs.drop (i + 1) = ys.drop (i + 1) := by
  rw [drop_at xs i h1, drop_at ys i h2, List.cons.injEq]
open Classical in
noncomputable def eqL (xs ys : List ByteArray) : Bool := decide (xs = ys)
open Classical in
theorem iEq_l (xs ys : List ByteArray) (hl : xs.length = ys.length) (hn : xs.length ≤ 4000000) : ∀ i : Nat, i ≤ xs.length → Ev (fun k => slices_Equal_string.l0 k xs ys (xs.length : Int) i) (eqL (xs.drop i) (ys.drop i))
  | i, hi => by
    refine Ev.step (slices_Equal_string.l0.eq_2 _ _ _ _) ?_
    by_cases h : i < xs.length
    · refine ev_pos (by omega) (ev_pos (by omega) (ev_pos (by omega) (ev_pos (by omega) ?_)))
      rw [rdOf_at _ xs i h, rdOf_at _ ys i (by omega), w64s i (by omega)]
      by_cases he : xs[i] = ys[i]'(by omega)
      · refine ev_pos (by rw [he]) (ev_to (iEq_l xs ys hl hn (i + 1) (by omega)) ?_)
        unfold eqL
        simp only [drop_eq_iff' xs ys i h (by omega), he, true_and]
      · refine ev_neg (fun hc => he (toList_inj hc)) (ev_now ?_)
        unfold eqL
        simp only [drop_eq_iff' xs ys i h (by omega), he, false_and, decide_false]
    · refine ev_neg (by omega) (ev_now ?_)
      rw [List.drop_of_length_le (by omega), List.drop_of_length_le (by omega)]
      unfold eqL; simp
  termination_by i => xs.length - i
theorem iEq_ev (xs ys : List ByteArray) (hn : xs.length ≤ 4000000) : Ev (fun k => slices_Equal_string.f k xs ys) (eqL xs ys) := by
  unfold slices_Equal_string.f
  by_cases h : xs.length = ys.length
  · have := iEq_l xs ys h hn 0 (by omega)
    rw [List.drop_zero, List.drop_zero] at this
    exact ev_pos (by omega) this
  · refine ev_neg (by omega) (ev_now ?_)
    unfold eqL
    rw [decide_eq_false]; intro e; exact h (by rw [e])

/-! ### isunder -/
noncomputable def undP (a b : ByteArray) : Bool := decide ((spP a).2 = 0) && (decide ((spP b).2 = 0) && (decide ((spP b).1.length < (spP a).1.length) && eqL ((spP a).1.take (spP b).1.length) (spP b).1))

theorem iUnd_ev (a b : ByteArray) (ha : a.size ≤ 140737488351232) (hb : b.size ≤ 140737488351232) : Ev (fun k => impl_IsUnder.f k a b) (undP a b) := by
  unfold impl_IsUnder.f undP
  have hn := spP_len a
  refine Ev.bind (iSplit_ev a ha) (Ev.bind (iSplit_ev b hb) ?_)
  by_cases h1 : (spP a).2 = 0
  · by_cases h2 : (spP b).2 = 0
    · refine ev_pos h1 (ev_pos h2 ?_)
      by_cases h3 : (spP b).1.length < (spP a).1.length
      · refine ev_pos (by omega) (ev_pos (by omega) (ev_pos (by omega) ?_))
        rw [Int.toNat_natCast]
        refine Ev.bind (iEq_ev _ _ (by rw [List.length_take]; omega)) (ev_now ?_)
        simp [h1, h2, h3]
      · exact ev_neg (by omega) (ev_now (by simp [h3]))
    · exact ev_pos h1 (ev_neg h2 (ev_now (by simp [h2])))
  · exact ev_neg h1 (ev_now (by simp [h1]))

/-! ### joinpath -/
def jn : List ByteArray → List UInt8
  | [] => []
  | x :: r => 47 :: (x.data.toList ++ jn r)
theorem jn_len (xs : List ByteArray) : (jn xs).length = xs.length + sumBy (fun s : ByteArray => s.size) xs := by
  induction xs with
  | nil => rfl
  | cons x r ih => rw [sumBy_cons]; simp [jn, ih]; omega
def jp (xs : List ByteArray) : ByteArray := if xs = [] then ⟨#[47]⟩ else ⟨(jn xs).toArray⟩
theorem jn_join (x : ByteArray) (r : List ByteArray) : jn (x :: r) = 47 :: Lib.join ((x :: r).map (·.data.toList)) [47] := by
  unfold Lib.join
  induction r generalizing x with
  | nil => simp [jn, List.intercalate]
  | cons y s ih =>
    have := ih y
    simp only [jn] at this ⊢
    rw [List.map_cons, List.map_cons, List.intercalate_cons_cons]
    simp only [List.map_cons] at this
    rw [this]
    simp

theorem iJoin_eq (xs : List ByteArray) (hn : xs.length + sumBy (fun s : ByteArray => s.size) xs ≤ 100000000000000) : impl_JoinPath.f xs = some (jp xs) := by
  unfold impl_JoinPath.f jp
  match xs with
  | [] => rfl
  | x :: r =>
    have hj := jn_join x r
    have hl := jn_len (x :: r)
    have hl2 : (Lib.join ((x :: r).map (·.data.toList)) (⟨#[47]⟩ : ByteArray).data.toList).length + 1 = (jn (x :: r)).length := by rw [hj]; rfl
    rw [if_neg (by simp; omega), if_neg (by simp)]
    unfold strings_Join.f
    rw [if_pos ⟨by omega, by omega⟩, Option.bind_some, if_pos (by rw [b_size]; omega)]
    congr 1
    refine b_inj ?_
    rw [b_app, b_mk, b_mk, hj]; rfl

/-! ### parentof -/
def parP (a : ByteArray) : ByteArray := if (spP a).2 = 0 then (if (spP a).1 = [] then ⟨#[]⟩ else jp ((spP a).1.take ((spP a).1.length - 1))) else ⟨#[]⟩
theorem par_bound (a : ByteArray) (n : Nat) : ((spP a).1.take n).length + sumBy (fun b : ByteArray => b.size) ((spP a).1.take n) ≤ 100000000000000 := by
  have h1 := spP_sum a
  have h2 := sumBy_le_append (fun b : ByteArray => b.size) (spP a).1 n
  have h3 : ((spP a).1.take n).length ≤ (spP a).1.length := by rw [List.length_take]; omega
  omega
theorem par_at (a : ByteArray) (J : Nat → List ByteArray → Option ByteArray) (hJ : ∀ n, Ev (fun k => J k ((spP a).1.take n)) (jp ((spP a).1.take n))) :
    Ev (fun k => if ((spP a).1.length : Int) = 0 then some (⟨#[]⟩ : ByteArray) else if 0 ≤ wrap64 (((spP a).1.length : Int) - 1) then (if wrap64 (((spP a).1.length : Int) - 1) ≤ ((spP a).1.length : Int) then (J k ((spP a).1.take (wrap64 (((spP a).1.length : Int) - 1)).toNat)).bind fun t => some t else none) else none) (if (spP a).1 = [] then ⟨#[]⟩ else jp ((spP a).1.take ((spP a).1.length - 1))) := by
  have hn := spP_len a
  by_cases h : (spP a).1 = []
  · exact ev_pos (by rw [h]; rfl) (ev_now (if_pos h).symm)
  · have hp := List.length_pos_iff.2 h
    refine ev_neg (by omega) ?_
    rw [w64 (by omega) (by omega)]
    refine ev_pos (by omega) (ev_pos (by omega) ?_)
    rw [show (((spP a).1.length : Int) - 1).toNat = (spP a).1.length - 1 by omega]
    exact Ev.bind (hJ _) (ev_now (if_neg h).symm)

theorem iParent_ev (a : ByteArray) (ha : a.size ≤ 140737488351232) : Ev (fun k => impl_ParentOf.f k a) (parP a) := by
  unfold impl_ParentOf.f parP
  refine Ev.bind (iSplit_ev a ha) ?_
  by_cases h : (spP a).2 = 0
  · exact ev_pos h (ev_to (par_at a (fun k xs => impl_JoinPath.f xs) (fun n => ev_eq (iJoin_eq _ (par_bound a n)))) (if_pos h).symm)
  · exact ev_neg h (ev_now (if_neg h).symm)

/-! ### FnPaths -/
theorem pickM_eq (xs : List Int) (hn : xs.length ≤ 4000000) (i h : Int) (hi : crs 4000000 i) (l : List ByteArray) (h0 : 0 < l.length) (h1 : l.length ≤ 256) : ∃ x i' h', spec_l01Pick.f xs i h l = some (x, i', h') ∧ x ∈ l ∧ crs 4000000 i' := by
  unfold spec_l01Pick.f
  obtain ⟨b, i', h', e, b0, b1, hi'⟩ := below_eq xs hn i h hi (l.length : Int) (by omega) (by omega)
  obtain ⟨m, rfl⟩ := Int.eq_ofNat_of_zero_le b0
  refine ⟨l[m]'(by omega), i', h', ?_, List.getElem_mem _, hi'⟩
  rw [e, Option.bind_some, if_pos b0, if_pos b1, rdOf_at _ l m (by omega)]
theorem all_size (l : List ByteArray) (h : l.all (fun x => decide (x.size ≤ 100)) = true) {x : ByteArray} (hx : x ∈ l) : x.size ≤ 100 := by
  have := List.all_eq_true.1 h x hx
  simpa using this
theorem pickBS (xs : List Int) (hn : xs.length ≤ 4000000) (i h : Int) (hi : crs 4000000 i) (l : List ByteArray) (h0 : 0 < l.length) (h1 : l.length ≤ 256) (ha : l.all (fun x => decide (x.size ≤ 100)) = true) : ∃ x i' h', ((spec_l01Pick.f xs i h l).bind fun b => some (b.1, b.2.1, b.2.2)) = some (x, i', h') ∧ x.size ≤ 100 := by
  obtain ⟨x, i', h', e, m, hi'⟩ := pickM_eq xs hn i h hi l h0 h1
  exact ⟨x, i', h', by rw [e, Option.bind_some], all_size l ha m⟩
theorem pathS_eq (xs : List Int) (hn : xs.length ≤ 4000000) (i h : Int) (hi : crs 4000000 i) : ∃ x i' h', spec_l15Path.f xs i h = some (x, i', h') ∧ x.size ≤ 100 := by
  unfold spec_l15Path.f
  exact pickBS xs hn i h hi _ (by decide) (by decide) (by decide)
theorem anyS_eq (xs : List Int) (hn : xs.length ≤ 4000000) (i h : Int) (hi : crs 4000000 i) : ∃ x i' h', spec_l15Any.f xs i h = some (x, i', h') ∧ x.size ≤ 100 := by
  unfold spec_l15Any.f spec_l01Once.f
  obtain ⟨b, i1, h1, e, b0, b1, hi1⟩ := below_eq xs hn i h hi 5 (by omega) (by omega)
  rw [e, Option.bind_some, Option.bind_some]
  by_cases hb : (b == 0) = true
  · rw [if_pos hb]
    exact pickBS xs hn i1 h1 hi1 _ (by decide) (by decide) (by decide)
  · rw [if_neg hb]
    obtain ⟨x, i', h', e, hs⟩ := pathS_eq xs hn i1 h1 hi1
    exact ⟨x, i', h', by rw [e, Option.bind_some], hs⟩
theorem drawS_ev (xs : List Int) (hn : xs.length ≤ 4000000) : ∃ s, Ev (fun k => spec_DrawSplitPath.f k xs) s ∧ s.size ≤ 100 := by
  unfold spec_DrawSplitPath.f
  obtain ⟨r, hr⟩ := new_ev xs hn
  obtain ⟨x, i', h', e, hs⟩ := anyS_eq xs hn 0 r ⟨by omega, by omega⟩
  exact ⟨x, Ev.bind hr (Ev.bind (ev_eq e) (ev_now rfl)), hs⟩
theorem sameT_l (ps : List ByteArray) (hn : ps.length ≤ 1000) : ∀ i : Nat, i ≤ ps.length → Ev (fun k => laws_sameTexts.l0 k ps ps i) true
  | i, hi => by
    refine Ev.step (laws_sameTexts.l0.eq_2 _ _ _) ?_
    by_cases h : i < ps.length
    · refine ev_pos (by omega) (ev_pos (by omega) (ev_pos (by omega) (ev_pos rfl ?_)))
      rw [w64s i (by omega)]
      exact sameT_l ps hn (i + 1) (by omega)
    · exact ev_neg (by omega) (ev_now rfl)
  termination_by i => ps.length - i
theorem sameT_ev (ps : List ByteArray) (hn : ps.length ≤ 1000) : Ev (fun k => laws_sameTexts.f k ps ps) true := by
  unfold laws_sameTexts.f
  exact ev_pos rfl (sameT_l ps hn 0 (by omega))
theorem jn_append (a b : List ByteArray) : jn (a ++ b) = jn a ++ jn b := by
  induction a with
  | nil => rfl
  | cons x r ih => simp [jn, ih]
theorem jn_sp : ∀ t : List UInt8, jn ((sp47 t).map mkB) = 47 :: t
  | [] => by simp [sp47, jn, mkB]
  | b :: l => by
    have ih := jn_sp l
    by_cases h : b = 47
    · subst h; rw [sp47_slash]; simp [jn, mkB_list, ih]
    · obtain ⟨p, r, hs⟩ := List.exists_cons_of_ne_nil (sp47_ne l)
      rw [sp47_other b l h p r hs]
      rw [hs] at ih
      simp [jn, mkB_list] at ih ⊢
      exact ih
theorem sp47_app : ∀ (q t : List UInt8), 47 ∉ q → sp47 (q ++ 47 :: t) = q :: sp47 t
  | [], t, _ => sp47_slash t
  | b :: q, t, h => by
    have hb : b ≠ 47 := fun c => h (by simp [c])
    have hq : 47 ∉ q := fun c => h (by simp [c])
    exact sp47_other b (q ++ 47 :: t) hb q (sp47 t) (sp47_app q t hq)
theorem sp47_no : ∀ q : List UInt8, 47 ∉ q → sp47 q = [q]
  | [], _ => rfl
  | b :: q, h => by
    have hb : b ≠ 47 := fun c => h (by simp [c])
    have hq : 47 ∉ q := fun c => h (by simp [c])
    exact sp47_other b q hb q [] (sp47_no q hq)
theorem sp47_in : ∀ (t p : List UInt8), p ∈ sp47 t → 47 ∉ p
  | [], p, h => by simp [sp47] at h; subst h; simp
  | b :: l, p, h => by
    have ih := sp47_in l
    by_cases hb : b = 47
    · subst hb; rw [sp47_slash] at h
      rcases List.mem_cons.1 h with rfl | h
      · simp
      · exact ih p h
    · obtain ⟨p0, r, hs⟩ := List.exists_cons_of_ne_nil (sp47_ne l)
      rw [sp47_other b l hb p0 r hs] at h
      rw [hs] at ih
      rcases List.mem_cons.1 h with rfl | h
      · intro hc
        rcases List.mem_cons.1 hc with hc | hc
        · exact hb hc.symm
        · exact ih p0 (by simp) hc
      · exact ih p (by simp [h])
theorem sp47_jn : ∀ qs : List (List UInt8), qs ≠ [] → (∀ p ∈ qs, 47 ∉ p) → ∃ t, jn (qs.map mkB) = 47 :: t ∧ sp47 t = qs
  | [], h, _ => absurd rfl h
  | [q], _, h => ⟨q, by simp [jn, mkB_list], sp47_no q (h q (by simp))⟩
  | q :: q2 :: r, _, h => by
    obtain ⟨t2, e, s⟩ := sp47_jn (q2 :: r) (by simp) (fun p hp => h p (by simp at hp ⊢; exact Or.inr hp))
    refine ⟨q ++ 47 :: t2, ?_, ?_⟩
    · rw [List.map_cons, jn, e, mkB_list]
    · rw [sp47_app q t2 (h q (by simp)), s]
/-- The way back: the parts of what the first parts come to. -/
theorem spP_back (a : ByteArray) (h : (spP a).2 = 0) (m : Nat) : spP (jp ((spP a).1.take m)) = ((spP a).1.take m, 0) := by
  obtain ⟨h60, ⟨_, h1⟩ | ⟨t, ht, hne, hb, he, hl, hs⟩⟩ := spP_ok a h
  · rw [h1, List.take_nil]; rfl
  · rw [hs]
    by_cases hz : ((sp47 t).map mkB).take m = []
    · rw [hz]; rfl
    · rw [← List.map_take] at hz ⊢
      have hq : (sp47 t).take m ≠ [] := fun c => hz (by rw [c]; rfl)
      obtain ⟨u, hu, hsu⟩ := sp47_jn ((sp47 t).take m) hq (fun p hp => sp47_in t p (List.mem_of_mem_take hp))
      have hall : 47 :: t = jn (((sp47 t).take m).map mkB) ++ jn (((sp47 t).drop m).map mkB) := by
        rw [← jn_append, ← List.map_append, List.take_append_drop, jn_sp]
      rw [hu] at hall
      have htu : t = u ++ jn (((sp47 t).drop m).map mkB) := by simpa using hall
      have hlen : a.size = t.length + 1 := by rw [← b_len, ht]; rfl
      have hul : u.length ≤ t.length := by rw [htu]; simp
      have hd : (jp (((sp47 t).take m).map mkB)).data.toList = 47 :: u := by
        unfold jp
        rw [if_neg hz, b_mk, hu]
      have hsz : (jp (((sp47 t).take m).map mkB)).size = u.length + 1 := by rw [← b_len, hd]; rfl
      have hbu : u.any badB = false := by
        rw [htu, List.any_append] at hb
        exact (Bool.or_eq_false_iff.1 hb).1
      have heu : emp (sp47 u) = false := by
        rw [hsu]
        unfold emp at he ⊢
        rw [List.any_eq_false] at he ⊢
        exact fun x hx => he x (List.mem_of_mem_take hx)
      have hlu : (sp47 u).any (fun p => decide (7 < p.length)) = false := by
        rw [hsu]
        rw [List.any_eq_false] at hl ⊢
        exact fun x hx => hl x (List.mem_of_mem_take hx)
      have hue : u ≠ [] := by
        intro c
        rw [c] at heu
        simp [emp, sp47] at heu
      unfold spP
      rw [if_neg (by omega), hd]
      simp only [ne_eq, not_true, if_false, if_neg hue]
      unfold fin47
      rw [pcs_nil, hbu, heu, hlu, hsu]
      simp
theorem sp_pos2 (a : ByteArray) (h0 : (spP a).2 = 0) (hr : a.toList ≠ ([47] : List UInt8)) : 1 ≤ (spP a).1.length := by
  obtain ⟨_, ⟨h, _⟩ | ⟨t, ht, _, hb, he, hl, hs⟩⟩ := spP_ok a h0
  · exact absurd (by rw [b_toList]; exact h) hr
  · rw [hs, List.length_map]
    exact List.length_pos_iff.2 (sp47_ne t)
theorem rt (a : ByteArray) (h : (spP a).2 = 0) : jp (spP a).1 = a := by
  obtain ⟨_, ⟨h0, h1⟩ | ⟨t, ht, _, _, _, _, hs⟩⟩ := spP_ok a h
  · rw [h1]; exact b_inj h0.symm
  · rw [hs]
    refine b_inj ?_
    unfold jp
    rw [if_neg (by simp [sp47_ne t]), b_mk, jn_sp, ht]
theorem und_self (a : ByteArray) : undP a a = false := by simp [undP]
theorem parP_eq (a : ByteArray) (h : (spP a).2 = 0) (hp : 1 ≤ (spP a).1.length) : parP a = jp ((spP a).1.take ((spP a).1.length - 1)) := by
  unfold parP
  rw [if_pos h, if_neg (by intro c; rw [c] at hp; simp at hp)]
theorem und_par (a : ByteArray) (h : (spP a).2 = 0) (hp : 1 ≤ (spP a).1.length) : undP a (parP a) = true := by
  rw [parP_eq a h hp]
  unfold undP
  rw [spP_back a h]
  have hl : ((spP a).1.take ((spP a).1.length - 1)).length = (spP a).1.length - 1 := by rw [List.length_take]; omega
  simp only [hl]
  simp [h, eqL]
  omega
theorem jp_size2 (ps : List ByteArray) (h : ps.length + sumBy (fun s : ByteArray => s.size) ps ≤ 100000000000000) : (jp ps).size ≤ 140737488351232 := by
  unfold jp
  split
  · show (1 : Nat) ≤ _; omega
  · rw [b_size, jn_len]; omega
theorem par_size2 (a : ByteArray) : (parP a).size ≤ 140737488351232 := by
  unfold parP
  split
  · split
    · show (0 : Nat) ≤ _; omega
    · exact jp_size2 _ (par_bound a _)
  · show (0 : Nat) ≤ _; omega
theorem FnPaths : laws_FnPaths.Law := by
  intro xs hx
  apply Ev.rounds
  unfold laws_FnPaths.f laws_big.f
  refine Ev.bind (Ev.now _) ?_
  by_cases hb : (xs.length : Int) > 1048576
  · exact ev_pos (decide_eq_true hb) (ev_now rfl)
  refine ev_neg (by simpa using hb) ?_
  obtain ⟨s, hs, hz⟩ := drawS_ev xs (by omega)
  have hn := spP_len s
  have h2 : Ev (fun k => laws_FnPaths.j2 k false) true := by
    refine Ev.step (laws_FnPaths.j2.eq_2 _) ?_
    have e1 : parP (⟨#[47]⟩ : ByteArray) = ⟨#[]⟩ := rfl
    have e2 : parP (⟨#[47, 97]⟩ : ByteArray) = ⟨#[47]⟩ := rfl
    have p1 := iParent_ev (⟨#[47]⟩ : ByteArray) (by decide)
    have p2 := iParent_ev (⟨#[47, 97]⟩ : ByteArray) (by decide)
    rw [e1] at p1
    rw [e2] at p2
    have t1 : (⟨#[47]⟩ : ByteArray).toList = [47] := by rw [b_toList]
    have t0 : (⟨#[]⟩ : ByteArray).toList = [] := by rw [b_toList]
    have j1 : impl_JoinPath.f [] = some (⟨#[47]⟩ : ByteArray) := rfl
    exact ev_neg (by simp) (Ev.bind (ev_eq j1) (ev_pos t1 (Ev.bind p1 (ev_pos t0 (Ev.bind p2 (ev_now (by rw [t1]; rfl)))))))
  refine Ev.bind hs (Ev.bind (iSplit_ev s (by omega)) (Ev.bind (sSplit_ev s) (ev_pos rfl (Ev.bind (sameT_ev _ hn) ?_))))
  refine Ev.step (laws_FnPaths.j0.eq_2 _ _ _ _) ?_
  refine ev_neg (by simp) ?_
  have hu := iUnd_ev s s (by omega) (by omega)
  rw [und_self] at hu
  by_cases h : (spP s).2 = 0
  · have hj : impl_JoinPath.f (spP s).1 = some s := by
      rw [iJoin_eq _ (by have := spP_sum s; omega), rt s h]
    refine ev_pos h (Ev.bind (ev_eq hj) (ev_pos rfl (Ev.bind hu ?_)))
    refine Ev.step (laws_FnPaths.j1.eq_2 _ _ _ _) ?_
    refine ev_neg (by simp) (ev_pos h ?_)
    by_cases hr : s.toList = ([47] : List UInt8)
    · exact ev_pos hr h2
    · have hp := sp_pos2 s h hr
      have hw : wrap64 (((spP s).1.length : Int) - 1) = (((spP s).1.length - 1 : Nat) : Int) := by rw [w64 (by omega) (by omega)]; omega
      rw [hw, Int.toNat_natCast]
      refine ev_neg hr (Ev.bind (iParent_ev s (by omega)) (ev_pos (by omega) (ev_pos (by omega) ?_)))
      rw [parP_eq s h hp]
      refine Ev.bind (ev_eq (iJoin_eq _ (par_bound s _))) (ev_pos rfl (Ev.bind (iLast_ev s (by omega)) (ev_pos (by omega) ?_)))
      have hla : lastP s = rdOf ByteArray.empty (spP s).1 (((spP s).1.length - 1 : Nat) : Int) := by
        unfold lastP
        rw [if_pos h, rdOf_at _ _ _ (by omega), List.getLastD_eq_getLast?, List.getLast?_eq_getElem?, List.getElem?_eq_getElem (by omega)]; rfl
      rw [hla]
      have hq := iUnd_ev s (parP s) (by omega) (par_size2 s)
      rw [und_par s h hp] at hq
      exact ev_pos rfl (Ev.bind (iParent_ev s (by omega)) (Ev.bind hq h2))
  · refine ev_neg h ?_
    refine Ev.step (laws_FnPaths.j1.eq_2 _ _ _ _) ?_
    exact ev_neg (by simp) (ev_neg h h2)

end Go.Proofs.YtabgpbmaoelohaaDoor.Pure
