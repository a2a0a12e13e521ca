/- Rows of the call's own whose elements are flat (no row inside): a run of cells that is written into such a row, told by the row's list; what 'clear' and 'copy' do with it. Conditions: each theorem states its own. -/
import Derived.Test.YthejdhjpbpamoaaGreatDoorWMore
import Derived.Lib.SliceRun
import Derived.Lib.SlBy
import Derived.Laws.IdiomCopy
namespace Go.Proofs.YthejdhjpbpamoaaGreatDoor.Flat
open Go.RowKit Go.Proofs.YthejdhjpbpamoaaGreatDoorW.jk Go.Proofs.YthejdhjpbpamoaaGreatDoorW.qI Go.Proofs.YthejdhjpbpamoaaGreatDoorW.vV
section
variable {α : Type}
/-- A kind whose values are their cells, and nothing else. -/
structure xP (d : Kd α) (enc : α → List Value) : Prop where
  m : ∀ (w : World) (base : Nat) (ok : Nat → Prop) (x : α), d.M w base ok x (enc x)
  k : ∀ (w : World) (x : α) (cs : List Value), d.K w x cs → cs = enc x
theorem xP.len {d : Kd α} {enc : α → List Value} (h : xP d enc) (x : α) : (enc x).length = d.sz :=
  d.qg (w := default) (d.mV (h.m default 0 (fun _ => True) x))
theorem xP.one {d : Kd α} {enc : α → List Value} (h : xP d enc) (x : α) : ∀ u ∈ enc x, u.oneCell' = true :=
  d.o_ (w := default) (d.mV (h.m default 0 (fun _ => True) x))
theorem V_ {R : α → List Value → Prop} {sz : Nat} {enc : α → List Value} (hR : ∀ x, R x (enc x)) (hl : ∀ x, (enc x).length = sz) : ∀ ys : List α, gu R sz ys (ys.flatMap enc)
  | [] => gu.none _ _
  | y :: r => by
    have h1 : gu R sz [y] (enc y) := ⟨by simp [hl], fun j p hj => by
      have hj0 : j = 0 := by have := (List.getElem?_eq_some_iff.1 hj).1; simp at this; omega
      subst hj0
      have : y = p := by simpa using hj
      subst this
      rw [Nat.zero_mul, List.drop_zero, List.take_of_length_le (by rw [hl]; exact Nat.le_refl _)]
      exact hR y⟩
    have := Kd.MN h1 (V_ hR hl r)
    simpa using this
theorem Ae {enc : α → List Value} {sz : Nat} (hl : ∀ x, (enc x).length = sz) : ∀ ys : List α, (ys.flatMap enc).length = ys.length * sz
  | [] => by simp
  | y :: r => by rw [List.flatMap_cons, List.length_append, hl, Ae hl r, List.length_cons, Nat.succ_mul]; omega
/-- A run of elements' cells, written into a row of the call's own. -/
theorem XU {d : Kd α} {enc : α → List Value} (hf : xP d enc) {W : World} {base e g n c : Nat} {xs : List α} {ok : Nat → Prop} (HO : d.R e W base ok (.slice (some ⟨g, 0, none⟩) n c) xs) (i : Nat) (ys : List α) (hfit : i + ys.length ≤ xs.length) :
    d.R e (W.setCells g (i * d.sz) (ys.flatMap enc)) base ok (.slice (some ⟨g, 0, none⟩) n c) (xs.take i ++ ys ++ xs.drop (i + ys.length)) ∧ W.grownBy (W.setCells g (i * d.sz) (ys.flatMap enc)) (some g) := by
  obtain ⟨hn, hnc, _⟩ := Kd.dn HO
  obtain ⟨hok, inner, hown, hr⟩ := HO
  have hin : inner.length = n * d.sz := by rw [hr.1, hn]
  have hyl := Ae hf.len ys
  rcases hown.2 with ⟨hv, _⟩ | ⟨g', cap', cur, hv, hb, hh, hle, hcm, hcs, htake⟩
  · cases hv
  injection hv with ha _ hc
  injection ha with ha
  injection ha with hg
  subst hg; subst hc
  rw [← hn] at htake
  have h1 : i * d.sz + ys.length * d.sz ≤ n * d.sz := by rw [← Nat.add_mul]; exact Nat.mul_le_mul_right _ (by omega)
  have h2 : n * d.sz ≤ c * d.sz := Nat.mul_le_mul_right _ hnc
  obtain ⟨cur', h3, h4, h5⟩ := CV (ys.flatMap enc) (i * d.sz) W cur hh (by rw [hyl, hcs]; omega)
  obtain ⟨s1, s2, s3, s4⟩ := MQ g (ys.flatMap enc) (i * d.sz) W
  have IE : ∀ k', k' ≠ g → (W.setCells g (i * d.sz) (ys.flatMap enc)).heap[k']? = W.heap[k']? := fun k' hk' => FX _ _ k' hk'
  have hgo : some g = (Value.slice (some ⟨g, 0, none⟩) n c).ownBlock := by simp [Value.ownBlock]
  have hnl : (xs.take i ++ ys ++ xs.drop (i + ys.length)).length = n := by rw [List.length_append, List.length_append, List.length_take, List.length_drop, hn]; omega
  refine ⟨⟨hok, inner.take (i * d.sz) ++ ys.flatMap enc ++ inner.drop ((i + ys.length) * d.sz), ⟨?_, .inr ⟨g, c, cur', by rw [hnl], hb, h3, by rw [hnl]; omega, hcm, by rw [h4, hcs], ?_⟩⟩, ?_⟩, ⟨s1, s2, s3, by rw [s4]; exact Nat.le_refl _, fun k' _ hk' => IE k' (fun he => hk' (by rw [he]))⟩⟩
  · rw [hnl, List.length_append, List.length_append, List.length_take, List.length_drop, hyl, hin, Nat.add_mul]; omega
  · have hcl : cur.toList.length = c * d.sz := by rw [Array.length_toList, hcs]
    have t1 : inner.take (i * d.sz) = cur.toList.take (i * d.sz) := by rw [← htake, List.take_take, Nat.min_eq_left (by omega)]
    have t2 : inner.drop ((i + ys.length) * d.sz) = (cur.toList.drop ((i + ys.length) * d.sz)).take (n * d.sz - (i + ys.length) * d.sz) := by rw [← htake, List.drop_take]
    rw [hnl, h5, t1, t2, hyl, ← Nat.add_mul]
    have hA : (cur.toList.take (i * d.sz) ++ ys.flatMap enc).length = (i + ys.length) * d.sz := by rw [List.length_append, List.length_take, hcl, hyl, Nat.add_mul]; omega
    rw [List.take_append, List.take_of_length_le (by rw [hA, Nat.add_mul]; omega), hA]
  · have hmv : ∀ p q, d.M W base (fun k' => ok k' ∧ some k' ≠ (Value.slice (some ⟨g, 0, none⟩) n c).ownBlock) p q → d.M (W.setCells g (i * d.sz) (ys.flatMap enc)) base (fun k' => ok k' ∧ some k' ≠ (Value.slice (some ⟨g, 0, none⟩) n c).ownBlock) p q := fun p q hp =>
      d.oU (fun k' hk' => IE k' (fun he => hk'.2 (by rw [← hgo, he]))) hp
    exact Kd.MN (Kd.MN ((Kd.acj hr (by omega)).qM hmv) (V_ (fun x => hf.m _ _ _ x) hf.len ys)) ((Kd.ant hr).qM hmv)
/-- An element's cells, where they lie. -/
theorem Dq {d : Kd α} {enc : α → List Value} (hf : xP d enc) {W : World} {base e g n c : Nat} {xs : List α} {ok : Nat → Prop} (HO : d.R e W base ok (.slice (some ⟨g, 0, none⟩) n c) xs) (i : Nat) (hi : i < xs.length) (j : Nat) (v : Value) (hv : (enc xs[i])[j]? = some v) :
    W.cell? ⟨g, i * d.sz + j, none⟩ = some v := by
  obtain ⟨_, _, hC⟩ := Kd.dn HO
  obtain ⟨ad, he, hcell⟩ := hC.2.2 (by omega)
  injection he with he
  subst he
  obtain ⟨cs, _, hk, hc⟩ := hcell i _ (List.getElem?_eq_getElem hi)
  have := hf.k _ _ _ hk
  subst this
  have h := hc j v hv
  rw [Addr.add_lit, Nat.zero_add] at h
  exact h
theorem XT {d : Kd α} {W : World} {base e g n c : Nat} {xs : List α} {ok : Nat → Prop} (HO : d.R e W base ok (.slice (some ⟨g, 0, none⟩) n c) xs) : base ≤ g ∧ ok g ∧ xs.length = n ∧ n ≤ c ∧ c ≤ maxLen ∧ ∃ cur : Array Value, W.heap[g]? = some (.cells cur e (0, 0)) ∧ cur.size = c * d.sz := by
  obtain ⟨hn, hnc, _⟩ := Kd.dn HO
  obtain ⟨hok, inner, hown, hr⟩ := HO
  rcases hown.2 with ⟨hv, _⟩ | ⟨g', cap', cur, hv, hb, hh, hle, hcm, hcs, htake⟩
  · cases hv
  injection hv with ha _ hc
  injection ha with ha
  injection ha with hg
  subst hg; subst hc
  exact ⟨hb, hok g (by simp [Value.ownBlock]), hn.symm, hnc, hcm, cur, hh, hcs⟩
theorem V9 {enc : α → List Value} {sz : Nat} (hl : ∀ x, (enc x).length = sz) : ∀ (ys : List α) (cs : List Value), gu (fun x c => c = enc x) sz ys cs → cs = ys.flatMap enc
  | [], cs, h => by
    have := h.1
    simp at this
    simpa using this
  | y :: r, cs, h => by
    have h0 := h.2 0 y rfl
    rw [Nat.zero_mul, List.drop_zero] at h0
    have h1 : gu (fun x c => c = enc x) sz r (cs.drop sz) := by
      refine ⟨by rw [List.length_drop, h.1, List.length_cons, Nat.succ_mul]; omega, fun j p hj => ?_⟩
      have := h.2 (j + 1) p hj
      rw [Nat.succ_mul, Nat.add_comm, ← List.drop_drop] at this
      exact this
    rw [List.flatMap_cons, ← V9 hl r _ h1, ← h0, List.take_append_drop]
theorem apQ {enc : α → List Value} {sz : Nat} (hl : ∀ x, (enc x).length = sz) (hs : 0 < sz) (z : Value) (z0 : α) (hz : z.cells.toList = enc z0) (m : Nat) : (Builtin.zeroCells z.cells m).toList = (List.replicate m z0).flatMap enc := by
  have hzs : z.cells.size = sz := by rw [← Array.length_toList, hz, hl]
  refine V9 hl _ _ ⟨by simp [Builtin.zeroCells, hzs], fun j p hj => ?_⟩
  obtain ⟨hjl, hp⟩ := List.getElem?_eq_some_iff.1 hj
  have hjm : j < m := by simpa using hjl
  have hp' : z0 = p := by simpa using hp
  subst hp'
  have hle : j * sz + sz ≤ m * sz := by rw [← Nat.succ_mul]; exact Nat.mul_le_mul_right _ hjm
  rw [← hz]
  apply List.ext_getElem
  · simp [Builtin.zeroCells, hzs]
    omega
  · intro i h1 h2
    have hi : i < sz := by rw [Array.length_toList, hzs] at h2; exact h2
    have hmod : (j * sz + i) % sz = i := by
      rw [Nat.mul_comm, Nat.mul_add_mod]
      exact Nat.mod_eq_of_lt hi
    simp [Builtin.zeroCells, hzs, hmod]
    rw [getElem!_pos z.cells i (by omega)]
/-- 'clear' of a cut of such a row. -/
theorem anC {P : Program} {d : Kd α} {enc : α → List Value} (hf : xP d enc) (hs : 0 < d.sz) {w : World} {base e g n c : Nat} {xs : List α} {ok : Nat → Prop} (HO : d.R e w base ok (.slice (some ⟨g, 0, none⟩) n c) xs) (t ty : TypeId) (z : Value) (z0 : α) (hz : z.cells.toList = enc z0) (ht : P.underlying t = some (.slice e)) (hv : ∀ w, (zeroValue e).run P w = .ok z w) (i m c2 : Nat) (hi : i + m = n) (hm : 0 < m) :
    (Builtin.clear_ #[t] ty #[.slice (some ⟨g, i * d.sz, none⟩) m c2]).run P w = .ok (.tuple #[]) (w.setCells g (i * d.sz) ((List.replicate m z0).flatMap enc)) := by
  have hzc := apQ hf.len hs z z0 hz m
  have hl := Ae hf.len (List.replicate m z0)
  rw [List.length_replicate] at hl
  obtain ⟨_, _, hn, hnc, _, cur, hh, hcs⟩ := XT HO
  have hin : i * d.sz + m * d.sz ≤ cur.size := by rw [hcs, ← Nat.add_mul]; exact Nat.mul_le_mul_right _ (by omega)
  have hst := run_storeCells_cells (P := P) g (i * d.sz) ((List.replicate m z0).flatMap enc) 0 w (by
      intro j hj
      rw [Nat.add_zero, aQ hh]
      rw [hl] at hj
      simp; omega) (fun j _ => cZ hh _) (by
      intro v hv'
      obtain ⟨x, _, hx⟩ := List.mem_flatMap.1 hv'
      exact hf.one x v hx)
  simp only [Nat.add_zero] at hst
  obtain ⟨m, rfl⟩ : ∃ k, m = k + 1 := ⟨m - 1, by omega⟩
  simp [Builtin.clear_, run_underlying ht, hv, hzc, hst]
/-- An element's store. -/
theorem aCG {P : Program} {d : Kd α} {enc : α → List Value} (hf : xP d enc) {w : World} {base e g n c : Nat} {xs : List α} {ok : Nat → Prop} (HO : d.R e w base ok (.slice (some ⟨g, 0, none⟩) n c) xs) (i : Nat) (hi : i < xs.length) (x : α) :
    (storeCells ⟨g, i * d.sz, none⟩ (enc x) 0).run P w = .ok () (w.setCells g (i * d.sz) ([x].flatMap enc)) := by
  obtain ⟨_, _, hn, hnc, _, cur, hh, hcs⟩ := XT HO
  have hin : i * d.sz + d.sz ≤ cur.size := by rw [hcs, ← Nat.succ_mul]; exact Nat.mul_le_mul_right _ (by omega)
  have hst := run_storeCells_cells (P := P) g (i * d.sz) (enc x) 0 w (by
      intro j hj
      rw [Nat.add_zero, aQ hh]
      rw [hf.len] at hj
      simp; omega) (fun j _ => cZ hh _) (hf.one x)
  simpa using hst
/-- Such a row, laid open. -/
theorem KH {d : Kd α} {enc : α → List Value} (hf : xP d enc) {W : World} {base e g n c : Nat} {xs : List α} {ok : Nat → Prop} (HO : d.R e W base ok (.slice (some ⟨g, 0, none⟩) n c) xs) :
    base ≤ g ∧ ok g ∧ xs.length = n ∧ n ≤ c ∧ c ≤ maxLen ∧ ∃ cur : Array Value, W.heap[g]? = some (.cells cur e (0, 0)) ∧ cur.size = c * d.sz ∧ cur.toList.take (n * d.sz) = xs.flatMap enc := by
  obtain ⟨hn, hnc, _⟩ := Kd.dn HO
  obtain ⟨hok, inner, hown, hr⟩ := HO
  have hin := V9 hf.len xs inner (hr.qM (fun p q hp => hf.k W p q (d.mV hp)))
  rcases hown.2 with ⟨hv, _⟩ | ⟨g', cap', cur, hv, hb, hh, hle, hcm, hcs, htake⟩
  · cases hv
  injection hv with ha _ hc
  injection ha with ha
  injection ha with hg
  subst hg; subst hc
  exact ⟨hb, hok g (by simp [Value.ownBlock]), hn.symm, hnc, hcm, cur, hh, hcs, by rw [hn, htake, hin]⟩
theorem XV {d : Kd α} {W : World} {base e : Nat} {v : Value} {xs : List α} {ok : Nat → Prop} (HO : d.R e W base ok v xs) : (v = .slice none 0 0 ∧ xs.length = 0) ∨ ∃ g c, v = .slice (some ⟨g, 0, none⟩) xs.length c ∧ xs.length ≤ c ∧ c ≤ maxLen := by
  obtain ⟨_, inner, hown, _⟩ := HO
  rcases hown.2 with ⟨hv, hn⟩ | ⟨g, c, _, hv, _, _, h1, h2, _⟩
  · exact .inl ⟨hv, hn⟩
  · exact .inr ⟨g, c, hv, h1, h2⟩
/-- .. and shut. -/
theorem XZ {d : Kd α} {enc : α → List Value} (hf : xP d enc) {W : World} {base e g n c : Nat} {xs : List α} {ok : Nat → Prop} {cur : Array Value} (hb : base ≤ g) (hok : ok g) (hn : xs.length = n) (hnc : n ≤ c) (hcm : c ≤ maxLen)
    (hh : W.heap[g]? = some (.cells cur e (0, 0))) (hcs : cur.size = c * d.sz) (ht : cur.toList.take (n * d.sz) = xs.flatMap enc) : d.R e W base ok (.slice (some ⟨g, 0, none⟩) n c) xs := by
  refine ⟨fun k hk => ?_, xs.flatMap enc, ⟨by rw [Ae hf.len], .inr ⟨g, c, cur, by rw [hn], hb, hh, by omega, hcm, hcs, by rw [hn]; exact ht⟩⟩, V_ (fun x => hf.m _ _ _ x) hf.len xs⟩
  have : g = k := by simpa [Value.ownBlock] using hk
  rw [← this]; exact hok
theorem Ru {d : Kd α} {enc : α → List Value} (hf : xP d enc) {W : World} {base e g n c : Nat} {xs : List α} {ok : Nat → Prop} (HO : d.R e W base ok (.slice (some ⟨g, 0, none⟩) n c) xs) (o : Nat) : W.frozen? ⟨g, o, none⟩ = false := by
  obtain ⟨_, _, _, _, _, cur, hh, _⟩ := KH hf HO
  exact cZ hh o
/-- 'copy' of a run of cells, elements of k cells each. -/
theorem Qa {P : Program} (w : World) (dT sT ty elem : TypeId) (b o dLen dCap : Nat) (a : Addr) (sLen sCap k m : Nat) (cs : List Value)
    (hu : P.underlying dT = some (.slice elem)) (hs : (P.info? elem).map (·.size) = some k) (hn : Nat.min sLen dLen = m) (hcs : cs.length = m * k)
    (hsrc : ∀ j v, cs[j]? = some v → w.cell? (a.add j) = some v) (hc : ∀ j, j < cs.length → (w.cell? ⟨b, o + j, none⟩).isSome = true) (hf : ∀ j, j < cs.length → w.frozen? ⟨b, o + j, none⟩ = false) (h1 : ∀ v ∈ cs, v.oneCell' = true) :
    (Builtin.copy_ #[dT, sT] ty #[.slice (some ⟨b, o, none⟩) dLen dCap, .slice (some a) sLen sCap]).run P w = .ok (goInt m) (w.setCells b o cs) := by
  have hl := run_loadCells_list (P := P) w a cs hsrc
  rw [hcs] at hl
  have hst := run_storeCells_cells (P := P) b o cs 0 w (by simpa using hc) (by simpa using hf) h1
  cases hq : P.info? elem with
  | none => simp [hq] at hs
  | some i =>
    have hi : i.size = k := by simpa [hq] using hs
    simp [Builtin.copy_, run_underlying hu, Builtin.lenOf, Builtin.firstCells, sizeOf, typeInfo, hq, hi, hn, hl, hst]
end
/-- What a search gives: nothing, or the place that parts the list. -/
theorem abd {α : Type} (p : α → Bool) (z : α) : ∀ (l : List α) (i : Nat), (Lib.idxByFrom (fun _ y => p y) z l i = -1 ∧ l.filter (fun y => !p y) = l) ∨ ∃ (a : List α) (b : α) (c : List α), l = a ++ b :: c ∧ Lib.idxByFrom (fun _ y => p y) z l i = ((i + a.length : Nat) : Int) ∧ p b = true ∧ a.filter (fun y => !p y) = a
  | [], i => .inl ⟨rfl, rfl⟩
  | y :: r, i => by
    cases h : p y with
    | true => exact .inr ⟨[], y, r, rfl, by simp [Lib.idxByFrom, h], h, rfl⟩
    | false =>
      have e0 : Lib.idxByFrom (fun _ y => p y) z (y :: r) i = Lib.idxByFrom (fun _ y => p y) z r (i + 1) := by simp [Lib.idxByFrom, h]
      rcases abd p z r (i + 1) with ⟨e, ha⟩ | ⟨a, b, c, rfl, e, hb, ha⟩
      · exact .inl ⟨by rw [e0, e], by rw [List.filter_cons, h]; simp [ha]⟩
      · refine .inr ⟨y :: a, b, c, rfl, ?_, hb, ?_⟩
        · rw [e0, e, List.length_cons]; congr 1; omega
        · rw [List.filter_cons, h]; simp [ha]
/-- The loop's relation: j places of l0 have been looked at; what is kept of them lies at the head of l; from j on l is l0. -/
structure xJ {α : Type} (p : α → Bool) (l0 : List α) (i j : Nat) (l : List α) : Prop where
  len : l.length = l0.length
  lt : i < j
  le : j ≤ l0.length
  low : l.take i = (l0.take j).filter (fun y => !p y)
  high : l.drop j = l0.drop j
theorem xJ.at_ {α : Type} {p : α → Bool} {l0 l : List α} {i j : Nat} (h : xJ p l0 i j l) (hj : j < l0.length) (hj2 : j < l.length) : l[j] = l0[j] := by
  have e := congrArg (fun z => z[0]?) h.high
  simpa [hj, hj2] using e
theorem xJ.start {α : Type} {p : α → Bool} {a c : List α} {b : α} (hb : p b = true) (ha : a.filter (fun y => !p y) = a) : xJ p (a ++ b :: c) a.length (a.length + 1) (a ++ b :: c) where
  len := rfl
  lt := by omega
  le := by simp
  low := by
    rw [List.take_left, show a ++ b :: c = (a ++ [b]) ++ c by simp, List.take_left' (by simp), List.filter_append, ha]
    simp [hb]
  high := rfl
theorem xJ.skip {α : Type} {p : α → Bool} {l0 l : List α} {i j : Nat} (h : xJ p l0 i j l) (hj : j < l0.length) (hp : p l0[j] = true) : xJ p l0 i (j + 1) l where
  len := h.len
  lt := by have := h.lt; omega
  le := by omega
  low := by rw [h.low, List.take_succ_eq_append_getElem hj, List.filter_append]; simp [hp]
  high := by rw [← List.drop_drop, h.high, List.drop_drop]
theorem xJ.keep {α : Type} {p : α → Bool} {l0 l : List α} {i j : Nat} (h : xJ p l0 i j l) (hj : j < l0.length) (hp : p l0[j] = false) : xJ p l0 (i + 1) (j + 1) (l.take i ++ [l0[j]] ++ l.drop (i + 1)) where
  len := by have := h.len; have := h.lt; simp [List.length_take, List.length_drop]; omega
  lt := by have := h.lt; omega
  le := by omega
  low := by
    have := h.len
    have := h.lt
    rw [List.take_left' (by simp [List.length_take]; omega), h.low, List.take_succ_eq_append_getElem hj, List.filter_append]
    simp [hp]
  high := by
    have := h.len
    have := h.lt
    have e : (l.take i ++ [l0[j]]).length = i + 1 := by simp [List.length_take]; omega
    rw [List.drop_append, List.drop_of_length_le (by omega), List.nil_append, List.drop_drop, e, show i + 1 + (j + 1 - (i + 1)) = j + 1 by omega, ← List.drop_drop, h.high, List.drop_drop]
theorem xJ.done {α : Type} {p : α → Bool} {l0 l : List α} {i : Nat} (h : xJ p l0 i l0.length l) : l.take i = l0.filter (fun y => !p y) := by rw [h.low, List.take_length]
theorem Zg {α : Type} {enc : α → List Value} {sz : Nat} (hl : ∀ x, (enc x).length = sz) (xs : List α) (i : Nat) (hi : i ≤ xs.length) : (xs.drop i).flatMap enc = (xs.flatMap enc).drop (i * sz) := by
  have e : xs.flatMap enc = (xs.take i).flatMap enc ++ (xs.drop i).flatMap enc := by rw [← List.flatMap_append, List.take_append_drop]
  rw [e, List.drop_left' (by rw [Ae hl, List.length_take, Nat.min_eq_left hi])]
theorem Zh {α : Type} {enc : α → List Value} {sz : Nat} (hl : ∀ x, (enc x).length = sz) (xs : List α) (i : Nat) (hi : i ≤ xs.length) : (xs.take i).flatMap enc = (xs.flatMap enc).take (i * sz) := by
  have e : xs.flatMap enc = (xs.take i).flatMap enc ++ (xs.drop i).flatMap enc := by rw [← List.flatMap_append, List.take_append_drop]
  rw [e, List.take_left' (by rw [Ae hl, List.length_take, Nat.min_eq_left hi])]
theorem aoC {β : Type} (cur Y D : List β) (b m t : Nat) (hY : Y.length = m) (hD : D.length = t) (hl : b + m + t ≤ cur.length) :
    ((cur.take (b + m) ++ D ++ cur.drop (b + m + D.length)).take b ++ Y ++ (cur.take (b + m) ++ D ++ cur.drop (b + m + D.length)).drop (b + Y.length)).take (b + m + t) = cur.take b ++ Y ++ D := by
  have h1 : (cur.take (b + m)).length = b + m := by rw [List.length_take]; omega
  have e1 : (cur.take (b + m) ++ D ++ cur.drop (b + m + D.length)).take b = cur.take b := by rw [List.append_assoc, List.take_append_of_le_length (by omega), List.take_take, Nat.min_eq_left (by omega)]
  have e2 : (cur.take (b + m) ++ D ++ cur.drop (b + m + D.length)).drop (b + Y.length) = D ++ cur.drop (b + m + D.length) := by rw [hY, List.append_assoc, List.drop_left' h1]
  rw [e1, e2, ← List.append_assoc, List.take_left' (by simp [List.length_take, hY, hD]; omega)]
theorem aoD {β : Type} (cur Y D : List β) (b m t : Nat) (hY : Y.length = m) (hD : D.length = t) (hl : b + m + t ≤ cur.length) :
    ((cur.take b ++ Y ++ cur.drop (b + Y.length)).take (b + m) ++ D ++ (cur.take b ++ Y ++ cur.drop (b + Y.length)).drop (b + m + D.length)).take (b + m + t) = cur.take b ++ Y ++ D := by
  have h1 : (cur.take b ++ Y).length = b + m := by rw [List.length_append, List.length_take, hY]; omega
  rw [List.take_left' h1, List.take_left' (by simp [List.length_take, hY, hD]; omega)]
section
variable {α : Type} {d : Kd α} {enc : α → List Value}
theorem NZ {B : Nat} {w W : World} (h : Below B w W) {g : Nat} (hg : B ≤ g) (o : Nat) (vs : List Value) : Below B w (W.setCells g o vs) := by
  obtain ⟨a1, a2, a3, a4⟩ := MQ g vs o W
  exact ⟨a1.trans h.os, a2.trans h.tape, a3.trans h.output, by rw [a4]; exact h.size, fun k hk => by rw [FX _ _ k (by omega)]; exact h.block k hk⟩
theorem PE {w W : World} {S : Nat → Prop} (h : Kept w W S) {g : Nat} (hg : S g ∨ w.heap.size ≤ g) (o : Nat) (vs : List Value) : Kept w (W.setCells g o vs) S := by
  obtain ⟨_, _, _, a4⟩ := MQ g vs o W
  refine ⟨by rw [a4]; exact h.1, fun k hk hn => ?_⟩
  rw [FX _ _ k (fun e => ?_)]
  · exact h.2 k hk hn
  · subst e
    rcases hg with h1 | h1
    · exact hn h1
    · omega
/-- What an insertion in place leaves. -/
theorem amd (hf : xP d enc) {W : World} {e g n c : Nat} {xs : List α} {cur : Array Value} (hn : xs.length = n) (hh : W.heap[g]? = some (.cells cur e (0, 0))) (hcs : cur.size = c * d.sz) (ht : cur.toList.take (n * d.sz) = xs.flatMap enc) (i : Nat) (hi : i ≤ n) (hroom : n + 1 ≤ c) (y : α) :
    ∃ yF : Array Value, ((W.setCells g ((i + 1) * d.sz) ((xs.drop i).flatMap enc)).setCells g (i * d.sz) (enc y)).heap[g]? = some (.cells yF e (0, 0)) ∧ yF.size = c * d.sz ∧ yF.toList.take ((n + 1) * d.sz) = (xs.take i ++ [y] ++ xs.drop i).flatMap enc := by
  have hD : ((xs.drop i).flatMap enc).length = (n - i) * d.sz := by rw [Ae hf.len, List.length_drop, hn]
  have hs : i * d.sz + d.sz + (n - i) * d.sz = (n + 1) * d.sz := by rw [← Nat.succ_mul, ← Nat.add_mul]; congr 1; omega
  have hc : (n + 1) * d.sz ≤ c * d.sz := Nat.mul_le_mul_right _ hroom
  have hcl : cur.toList.length = c * d.sz := by rw [Array.length_toList, hcs]
  obtain ⟨KY, h1, s1, t1⟩ := CV ((xs.drop i).flatMap enc) ((i + 1) * d.sz) W cur hh (by rw [hD, Nat.succ_mul]; omega)
  obtain ⟨yF, h2, s2, t2⟩ := CV (enc y) (i * d.sz) _ KY h1 (by rw [hf.len, s1, hcs]; omega)
  refine ⟨yF, h2, by rw [s2, s1, hcs], ?_⟩
  rw [t2, t1, ← hs, Nat.succ_mul, aoC cur.toList (enc y) _ _ d.sz _ (hf.len y) hD (by omega), List.flatMap_append, List.flatMap_append, Zh hf.len xs i (by omega), ← ht, List.take_take, Nat.min_eq_left (Nat.mul_le_mul_right _ hi)]
  simp
/-- .. and into a new row. -/
theorem amc (hf : xP d enc) {W : World} {e g n c : Nat} {xs : List α} {cur : Array Value} (hn : xs.length = n) (hh : W.heap[g]? = some (.cells cur e (0, 0))) (hcs : cur.size = c * d.sz) (i : Nat) (hi : i ≤ n) (ht : cur.toList.take (i * d.sz) = (xs.take i).flatMap enc) (hroom : n + 1 ≤ c) (y : α) :
    ∃ yF : Array Value, ((W.setCells g (i * d.sz) (enc y)).setCells g ((i + 1) * d.sz) ((xs.drop i).flatMap enc)).heap[g]? = some (.cells yF e (0, 0)) ∧ yF.size = c * d.sz ∧ yF.toList.take ((n + 1) * d.sz) = (xs.take i ++ [y] ++ xs.drop i).flatMap enc := by
  have hD : ((xs.drop i).flatMap enc).length = (n - i) * d.sz := by rw [Ae hf.len, List.length_drop, hn]
  have hs : i * d.sz + d.sz + (n - i) * d.sz = (n + 1) * d.sz := by rw [← Nat.succ_mul, ← Nat.add_mul]; congr 1; omega
  have hc : (n + 1) * d.sz ≤ c * d.sz := Nat.mul_le_mul_right _ hroom
  have hcl : cur.toList.length = c * d.sz := by rw [Array.length_toList, hcs]
  obtain ⟨KY, h1, s1, t1⟩ := CV (enc y) (i * d.sz) W cur hh (by rw [hf.len, hcs]; omega)
  obtain ⟨yF, h2, s2, t2⟩ := CV ((xs.drop i).flatMap enc) ((i + 1) * d.sz) _ KY h1 (by rw [hD, s1, hcs, Nat.succ_mul]; omega)
  refine ⟨yF, h2, by rw [s2, s1, hcs], ?_⟩
  rw [t2, t1, ← hs, Nat.succ_mul, aoD cur.toList (enc y) _ _ d.sz _ (hf.len y) hD (by omega), List.flatMap_append, List.flatMap_append, ht]
  simp
end
end Go.Proofs.YthejdhjpbpamoaaGreatDoor.Flat
