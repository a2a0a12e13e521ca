/- Contracts of Go functions, written by a program of ours over the print of the kit: each says that the call returns what the Lean function beside it computes. Conditions: as each theorem states them. -/
import Derived.Test.YtcdnfkoahajhhaaPkFnEntries
import Derived.Test.YtcdnfkoahajhhaaPFnEntriesx0
import Derived.Test.YtcdnfkoahajhhaaPFnEntriesx3
import Derived.Test.YtcdnfkoahajhhaaPFnEntriesx4
namespace Go.Proofs.Ytcdnfkoahajhhaa.PFnEntries
open Go.RowKit Go.Proofs.YtcdnfkoahajhhaaW.PrintWords Go.Proofs.YtcdnfkoahajhhaaW.PrintLast Go.Proofs.YtcdnfkoahajhhaaW.PrintMore
attribute [local go_sem] max2_int min2_int max_two min_two max_three min_three max_four min_four   -- for this text's walks alone
set_option linter.unusedVariables false
set_option linter.unusedSimpArgs false

/-! ### slices_Insert_Entry: function 107 -/
set_option maxHeartbeats 8000000 in
set_option maxRecDepth 100000 in
theorem ins107_end (P0_ : Nat → Prop) (u9000_ : Value) (l0 : List S59) (P2_ : Nat → Prop) (vb vc : Nat) (y : S59) (w0 w : World) (hB : Below w0.heap.size w0 w) (ho0 : Kd.R k59 59 w w0.heap.size P0_ u9000_ l0) (ho2 : Kd.R k59 59 w w0.heap.size P2_ (.slice (some ⟨vb, 0, none⟩) 1 vc) [y]) (hbig : (l0.length + 1) * 24 ≤ 140737488355328) :
  Calls Try.prog 107 #[u9000_, .int .i64 l0.length, .slice (some ⟨vb, 0, none⟩) 1 vc] w fun e w' => ∃ v0_ : Value, e = .returned v0_ ∧ Kd.R k59 59 w' w0.heap.size (fun k_ => ((P0_ k_ ∨ P2_ k_) ∨ w.heap.size ≤ k_)) v0_ (l0 ++ [y]) ∧ Below w0.heap.size w0 w' ∧ Kept w w' (fun k_ => P0_ k_ ∨ P2_ k_) := by
 have HRy := Aside0.mk (Kd.R_reads' ho2).2.2
 have HO := Aside0.mk (Kd.R_mono (ok' := fun k_ => ((P0_ k_ ∨ P2_ k_) ∨ w.heap.size ≤ k_)) ho0 (fun k h => .inl (.inl h)))
 have HG := Aside0.mk ho0.1
 have HB := Aside0.mk hB
 have HL := Aside0.mk hbig
 rcases Flat.R_form0 ho0 with ⟨rfl, hn⟩ | ⟨g, c, rfl, hnc, hcm⟩
 ·obtain rfl := List.eq_nil_of_length_eq_zero hn
  clear ho0 ho2 hB hbig hn
  go_enter Try.func107, Try.ntmps107
  go_wp2_with ((with_reducible refine gate_builtin (b := .append) (xs := #[.tmp 23, .tmp 24]) rfl ?_); at_builtin; refine Kd.R_append_rows k59 (w0 := w0) w0.heap.size rfl (.tmp 23) (.tmp 24) 47 59 (.agg #[(.int .i64 0), (.string ⟨#[]⟩)]) 24 rfl Try.underlying47 info59 rfl (by decide) (by omega) _ [] [y] _ _ _ _ (fun _ => False) rfl rfl HO.out HRy.out ?aM (fun _ h => h.elim) (fun k h => .inr h) HB.out HB.out.size HL.out ?_; (case aM => intro x cs h; have h := k59_open h; subst h; exact k59_mkM _ _ _ x); intro v1 w1 hR hB1 hg hat)
  go_ret
  exact ⟨_, rfl, hR, hB1, Kept.of_grown hg (Kept.refl _ _) (fun k hk => .inl (.inl (HG.out k hk)))⟩
 ·clear ho0 ho2 hB hbig
  go_enter Try.func107, Try.ntmps107
  go_wp2_with ((with_reducible refine gate_builtin (b := .append) (xs := #[.tmp 23, .tmp 24]) rfl ?_); at_builtin; refine Kd.R_append_rows k59 (w0 := w0) w0.heap.size rfl (.tmp 23) (.tmp 24) 47 59 (.agg #[(.int .i64 0), (.string ⟨#[]⟩)]) 24 rfl Try.underlying47 info59 rfl (by decide) (by omega) _ l0 [y] _ _ _ _ (fun _ => False) rfl rfl HO.out HRy.out ?aM (fun _ h => h.elim) (fun k h => .inr h) HB.out HB.out.size HL.out ?_; (case aM => intro x cs h; have h := k59_open h; subst h; exact k59_mkM _ _ _ x); intro v1 w1 hR hB1 hg hat)
  all_goals (go_ret; exact ⟨_, rfl, hR, hB1, Kept.of_grown hg (Kept.refl _ _) (fun k hk => .inl (.inl (HG.out k hk)))⟩)
set_option maxHeartbeats 8000000 in
set_option maxRecDepth 100000 in
theorem ins107_room (g c i vb vc n : Nat) (l0 : List S59) (y : S59) (w0 w : World) (P0_ P2_ : Nat → Prop) (hn : l0.length = n) (hi : i < n) (hroom : n + 1 ≤ c) (hvb : vb ≠ g) (hB : Below w0.heap.size w0 w) (ho0 : Kd.R k59 59 w w0.heap.size P0_ (.slice (some ⟨g, 0, none⟩) n c) l0) (ho2 : Kd.R k59 59 w w0.heap.size P2_ (.slice (some ⟨vb, 0, none⟩) 1 vc) [y]) :
  Calls Try.prog 107 #[.slice (some ⟨g, 0, none⟩) n c, .int .i64 i, .slice (some ⟨vb, 0, none⟩) 1 vc] w fun e w' => ∃ v0_ : Value, e = .returned v0_ ∧ Kd.R k59 59 w' w0.heap.size (fun k_ => ((P0_ k_ ∨ P2_ k_) ∨ w.heap.size ≤ k_)) v0_ (l0.take i ++ [y] ++ l0.drop i) ∧ Below w0.heap.size w0 w' ∧ Kept w w' (fun k_ => P0_ k_ ∨ P2_ k_) := by
 obtain ⟨hbg, hok, _, hnc, hcm, cur, hh, hcs, ht⟩ := Flat.R_open flat59 ho0
 obtain ⟨hbv, _, _, hvc, hvcm, vcur, hvh, hvcs, hvt⟩ := Flat.R_open flat59 ho2
 change cur.size = c * 2 at hcs
 change vcur.size = vc * 2 at hvcs
 change cur.toList.take (n * 2) = _ at ht
 change vcur.toList.take (1 * 2) = enc59 y ++ [] at hvt
 rw [List.append_nil] at hvt
 have hc63 : c ≤ 9223372036854775807 := by simp only [maxLen] at hcm; omega
 have mixed : Try.prog.follows .mixedOrders = true := by kernel_rfl
 have hsz : (Try.prog.info? 59).map (·.size) = some 2 := by
  obtain ⟨i0, hi0, h0, h1, h2⟩ := info_parts info59
  rw [hi0]; simp [h1]
 have hYl : (enc59 y).length = 2 := rfl
 have hDl : ((l0.drop i).flatMap enc59).length = (n - i) * 2 := by rw [Flat.flat_len flat59.len, List.length_drop, hn]; rfl
 have hDe := Flat.flat_drop (enc := enc59) (sz := 2) flat59.len l0 i (by omega)
 have hone : ∀ (xs : List S59), ∀ v ∈ xs.flatMap enc59, v.oneCell' = true := fun xs v hv => by
  obtain ⟨x, _, hx⟩ := List.mem_flatMap.1 hv
  exact flat59.one x v hx
 have hcell : ∀ (W : World), W.heap[g]? = some (.cells cur 59 (0, 0)) → ∀ j v, ((l0.drop i).flatMap enc59)[j]? = some v → W.cell? ((⟨g, i * 2, none⟩ : Addr).add j) = some v := fun W hW j v hj => by
  rw [Addr.add_lit, blk_cell hW, ← Array.getElem?_toList]
  rw [hDe, ← ht, List.getElem?_drop, List.getElem?_take] at hj
  split at hj
  ·exact hj
  ·cases hj
 have hsome : ∀ j, j < c * 2 → (w.cell? ⟨g, j, none⟩).isSome = true := fun j hj => by
  rw [blk_cell hh]; simp; omega
 have hfz : ∀ j, w.frozen? ⟨g, j, none⟩ = false := fun j => blk_frozen hh j
 have hvcell : ∀ (W : World), W.heap[vb]? = some (.cells vcur 59 (0, 0)) → ∀ j v, (enc59 y)[j]? = some v → W.cell? ((⟨vb, 0, none⟩ : Addr).add j) = some v := fun W hW j v hj => by
  rw [Addr.add_lit, Nat.zero_add, blk_cell hW, ← Array.getElem?_toList]
  rw [← hvt, List.getElem?_take] at hj
  split at hj
  ·exact hj
  ·cases hj
 have hov : ∀ lb cb, (callFunc 176 #[.slice (some ⟨vb, 0, none⟩) 1 vc, .slice (some ⟨g, (i + 1) * 2, none⟩) lb cb]).run Try.prog w = .ok (.value (.bool false)) w := fun lb cb => by
  rw [run_callFunc_extern Try.func176 (by kernel_rfl) (by kernel_rfl) (by kernel_rfl) (e := Extern.SlicesOverlaps.overlaps #[47, 47] #[4]) (by kernel_rfl),
   Lib.run_overlaps_apart w 47 4 59 Try.underlying47 2 Try.sizeOf59 ⟨vb, 0, none⟩ ⟨g, (i + 1) * 2, none⟩ 1 vc lb cb hvb 59 59 vcur.size cur.size (by simp [World.shape?, hvh]) (by simp [World.shape?, hh]) (by omega) (blk_frozen hvh _) (blk_frozen hvh _)]
  rfl
 have hz1 : ¬ ((1 : Int) = 0) := by omega
 have hz2 : ¬ ((i : Int) = (n : Int)) := by omega
 have hw1 : IntKind.i64.wrap ((i : Int) + (1 : Int)) = (i : Int) + (1 : Int) := by rw [IntKind.wrap_i64]; omega
 have hw2 : IntKind.i64.wrap ((n : Int) + (1 : Int)) = (n : Int) + (1 : Int) := by rw [IntKind.wrap_i64]; omega
 have hb1 : (0 : Int) ≤ (i : Int) + (1 : Int) := by omega
 have hin : i ≤ n := by omega
 have htn : ((i : Int) + (1 : Int)).toNat = i + 1 := by omega
 have hb2 : ¬ (c = i + 1) := by omega
 have hb3 : (i : Int) ≤ (n : Int) + (1 : Int) := by omega
 have hb4 : ¬ (c = i) := by omega
 have hcp1 : ∀ ty dc sc, (Builtin.copy_ #[47, 47] ty #[.slice (some ⟨g, (i + 1) * 2, none⟩) (n - i) dc, .slice (some ⟨g, i * 2, none⟩) (n + 1 - i) sc]).run Try.prog w.drew = .ok (goInt ((n - i : Nat) : Int)) (w.drew.setCells g ((i + 1) * 2) ((l0.drop i).flatMap enc59)) := fun ty dc sc =>
  Flat.run_copy_k w.drew 47 47 ty 59 g ((i + 1) * 2) (n - i) dc ⟨g, i * 2, none⟩ (n + 1 - i) sc 2 (n - i) _ Try.underlying47 hsz (by simp only [Nat.min_def]; split <;> omega) hDl
   (hcell w.drew hh) (fun j hj => hsome _ (by omega)) (fun j hj => hfz _) (hone _)
 obtain ⟨W1, hW1⟩ : ∃ W1, W1 = w.drew.setCells g ((i + 1) * 2) ((l0.drop i).flatMap enc59) := ⟨_, rfl⟩
 obtain ⟨cur1, h1, s1, _⟩ := setCells_row ((l0.drop i).flatMap enc59) ((i + 1) * 2) w.drew cur hh (by rw [hDl]; omega)
 rw [← hW1] at h1
 have hv1 : W1.heap[vb]? = some (.cells vcur 59 (0, 0)) := by rw [hW1, setCells_far _ _ _ hvb]; exact hvh
 have hcp2 : ∀ (W : World), (∀ x, W.cell? x = W1.cell? x) → (∀ x, W.frozen? x = W1.frozen? x) → ∀ ty dc, (Builtin.copy_ #[47, 47] ty #[.slice (some ⟨g, i * 2, none⟩) (n + 1 - i) dc, .slice (some ⟨vb, 0, none⟩) 1 vc]).run Try.prog W = .ok (goInt ((1 : Nat) : Int)) (W.setCells g (i * 2) (enc59 y)) := fun W hWc hWf ty dc =>
  Flat.run_copy_k W 47 47 ty 59 g (i * 2) (n + 1 - i) dc ⟨vb, 0, none⟩ 1 vc 2 1 _ Try.underlying47 hsz (by simp only [Nat.min_def]; split <;> omega) hYl
   (fun j v hj => by rw [hWc]; exact hvcell W1 hv1 j v hj) (fun j hj => by rw [hWc, blk_cell h1]; rw [hYl] at hj; simp; omega) (fun j hj => by rw [hWf]; exact blk_frozen h1 _) (flat59.one y)
 have HI := Aside0.mk (Flat.ins_room flat59 hn (W := w.drew) hh hcs ht i (by omega) hroom y)
 have HW := Aside0.mk hW1
 have HH := Aside0.mk (And.intro hB (And.intro hbg (And.intro hok (And.intro hcm hn))))
 rw [← hW1] at hcp1
 clear hh hvh ht hvt hcell hvcell hsome hfz ho0 ho2 hone hDe h1 hv1 hW1 hsz hB
 go_enter Try.func107, Try.ntmps107
 go_wp2_with (simp only [hov])
 go_region_law_o (refine step_copy_runI rfl _ _ 47 47 rfl _ _ (by simp [Act.eval, Act.put]) (by simp [Act.eval, Act.put]) (hcp1 _ _ _) ?_)
 go_wp2_with (at_builtin; refine wpList_copy_runI _ rfl _ _ 47 47 rfl _ _ rfl rfl (hcp2 _ (fun _ => rfl) (fun _ => rfl) _ _) ?_)
 go_ret
 obtain ⟨cur2, h2, s2, t2⟩ := HI.out
 obtain ⟨hB, hbg, hok, hcm, hn⟩ := HH.out
 rw [HW.out]
 refine ⟨_, rfl, Flat.R_shut flat59 hbg (.inl (.inl hok)) (by simp [List.length_take, List.length_drop]; omega) hroom hcm h2 s2 t2, ?_, ?_⟩
 ·exact Flat.below_cells (Flat.below_cells hB.drew hbg _ _) hbg _ _
 ·exact Flat.kept_cells (Flat.kept_cells (Kept.drew (Kept.refl _ _)) (.inl (.inl hok)) _ _) (.inl (.inl hok)) _ _
set_option maxHeartbeats 8000000 in
set_option maxRecDepth 100000 in
theorem ins107_grow (g c i vb vc n : Nat) (l0 : List S59) (y : S59) (w0 w : World) (P0_ P2_ : Nat → Prop) (hn : l0.length = n) (hi : i < n) (hroom : c < n + 1) (hbig : (n + 1) * 24 ≤ 140737488355328) (hB : Below w0.heap.size w0 w) (ho0 : Kd.R k59 59 w w0.heap.size P0_ (.slice (some ⟨g, 0, none⟩) n c) l0) (ho2 : Kd.R k59 59 w w0.heap.size P2_ (.slice (some ⟨vb, 0, none⟩) 1 vc) [y]) :
  Calls Try.prog 107 #[.slice (some ⟨g, 0, none⟩) n c, .int .i64 i, .slice (some ⟨vb, 0, none⟩) 1 vc] w fun e w' => ∃ v0_ : Value, e = .returned v0_ ∧ Kd.R k59 59 w' w0.heap.size (fun k_ => ((P0_ k_ ∨ P2_ k_) ∨ w.heap.size ≤ k_)) v0_ (l0.take i ++ [y] ++ l0.drop i) ∧ Below w0.heap.size w0 w' ∧ Kept w w' (fun k_ => P0_ k_ ∨ P2_ k_) := by
 obtain ⟨hbg, hok, _, hnc, hcm, cur, hh, hcs, ht⟩ := Flat.R_open flat59 ho0
 obtain ⟨hbv, _, _, hvc, hvcm, vcur, hvh, hvcs, hvt⟩ := Flat.R_open flat59 ho2
 change cur.size = c * 2 at hcs
 change vcur.size = vc * 2 at hvcs
 change cur.toList.take (n * 2) = _ at ht
 change vcur.toList.take (1 * 2) = enc59 y ++ [] at hvt
 rw [List.append_nil] at hvt
 have hc63 : c ≤ 9223372036854775807 := by simp only [maxLen] at hcm; omega
 have mixed : Try.prog.follows .mixedOrders = true := by kernel_rfl
 obtain ⟨i0, hi0, hz0, hzs, hzb⟩ := info_parts info59
 have hsz : (Try.prog.info? 59).map (·.size) = some 2 := by rw [hi0]; simp [hzs]
 have hYl : (enc59 y).length = 2 := rfl
 have hDl : ((l0.drop i).flatMap enc59).length = (n - i) * 2 := by rw [Flat.flat_len flat59.len, List.length_drop, hn]; rfl
 have hDe := Flat.flat_drop (enc := enc59) (sz := 2) flat59.len l0 i (by omega)
 have hTe := Flat.flat_take (enc := enc59) (sz := 2) flat59.len l0 i (by omega)
 have hTl : ((l0.take i).flatMap enc59).length = i * 2 := by rw [Flat.flat_len flat59.len, List.length_take, hn, Nat.min_eq_left (by omega)]; rfl
 have hone : ∀ (xs : List S59), ∀ v ∈ xs.flatMap enc59, v.oneCell' = true := fun xs v hv => by
  obtain ⟨x, _, hx⟩ := List.mem_flatMap.1 hv
  exact flat59.one x v hx
 have hcell : ∀ (W : World), W.heap[g]? = some (.cells cur 59 (0, 0)) → ∀ j v, ((l0.drop i).flatMap enc59)[j]? = some v → W.cell? ((⟨g, i * 2, none⟩ : Addr).add j) = some v := fun W hW j v hj => by
  rw [Addr.add_lit, blk_cell hW, ← Array.getElem?_toList]
  rw [hDe, ← ht, List.getElem?_drop, List.getElem?_take] at hj
  split at hj
  ·exact hj
  ·cases hj
 have hcellT : ∀ j v, ((l0.take i).flatMap enc59)[j]? = some v → w.cell? ((⟨g, 0, none⟩ : Addr).add j) = some v := fun j v hj => by
  rw [Addr.add_lit, Nat.zero_add, blk_cell hh, ← Array.getElem?_toList]
  rw [hTe, ← ht, List.getElem?_take] at hj
  split at hj
  ·rw [List.getElem?_take] at hj
   split at hj
   ·exact hj
   ·cases hj
  ·cases hj
 have hvcell : ∀ (W : World), W.heap[vb]? = some (.cells vcur 59 (0, 0)) → ∀ j v, (enc59 y)[j]? = some v → W.cell? ((⟨vb, 0, none⟩ : Addr).add j) = some v := fun W hW j v hj => by
  rw [Addr.add_lit, Nat.zero_add, blk_cell hW, ← Array.getElem?_toList]
  rw [← hvt, List.getElem?_take] at hj
  split at hj
  ·exact hj
  ·cases hj
 have hbw : g < w.heap.size := blk_lt hh
 have hvw : vb < w.heap.size := blk_lt hvh
 have hkk : (n : Int) + (1 : Int) - (i : Int) = ((n + 1 - i : Nat) : Int) := by omega
 have hik : i + (n + 1 - i) = n + 1 := by omega
 have hold : (Builtin.firstCells i0.size i (.slice (some ⟨g, 0, none⟩) i c)).run Try.prog w.drew = .ok ((l0.take i).flatMap enc59).toArray w.drew := by
  rw [hzs]
  exact run_firstCells_some w.drew 2 i ⟨g, 0, none⟩ i c _ hTl (fun j v hj => hcellT j v hj)
 have hrz : ∀ ty, (Builtin.append_ #[47, 3] ty #[.slice (some ⟨g, 0, none⟩) i c, .int .i64 ((n : Int) + (1 : Int) - (i : Int))]).run Try.prog w =
   .ok (.slice (some ⟨w.heap.size, 0, none⟩) (n + 1) (grownCap w (n + 1) c 59)) (w.drew.alloc (.cells (((l0.take i).flatMap enc59).toArray ++ Builtin.zeroCells ((.agg #[(.int .i64 0), (.string ⟨#[]⟩)]) : Value).cells (n + 1 - i) ++ Builtin.zeroCells ((.agg #[(.int .i64 0), (.string ⟨#[]⟩)]) : Value).cells (grownCap w (n + 1) c 59 - (n + 1))) 59)) := fun ty => by
  have h := Lib.run_append_grow_zeros w 47 3 ty 59 i0 _ .i64 .i64 Try.underlying47 Try.underlying3 hi0 hz0 (some ⟨g, 0, none⟩) i c _ hold (n + 1 - i) (by omega) (by omega) (by omega) (by omega) (by rw [hzb]; omega) (by rw [hzb, hik]; exact growslice_fits hroom hbig)
  rw [hik] at h
  rw [hkk]
  exact h
 obtain ⟨G, hG⟩ : ∃ G, G = grownCap w (n + 1) c 59 := ⟨_, rfl⟩
 obtain ⟨ROW, hROW⟩ : ∃ ROW : Array Value, ROW = ((l0.take i).flatMap enc59).toArray ++ Builtin.zeroCells ((.agg #[(.int .i64 0), (.string ⟨#[]⟩)]) : Value).cells (n + 1 - i) ++ Builtin.zeroCells ((.agg #[(.int .i64 0), (.string ⟨#[]⟩)]) : Value).cells (G - (n + 1)) := ⟨_, rfl⟩
 rw [← hG] at hrz
 rw [← hROW] at hrz
 have hGn : n + 1 ≤ G := by rw [hG]; exact grownCap_ge w _ _ _
 have hGm : G ≤ maxLen := by rw [hG]; exact grownCap_le_maxLen w (n + 1) c 59 (by unfold maxLen; omega)
 have hG63 : G ≤ 9223372036854775807 := by unfold maxLen at hGm; omega
 have hRs : ROW.size = G * 2 := by
  rw [hROW]
  simp [Builtin.zeroCells, Value.cells, hTl]
  omega
 have hRt : ROW.toList.take (i * 2) = (l0.take i).flatMap enc59 := by
  rw [hROW]
  simp only [Array.toList_append, List.append_assoc]
  rw [List.take_left' (by rw [← hTl])]
 obtain ⟨W1, hW1⟩ : ∃ W1, W1 = w.drew.alloc (.cells ROW 59) := ⟨_, rfl⟩
 rw [← hW1] at hrz
 have hN : W1.heap[w.heap.size]? = some (.cells ROW 59 (0, 0)) := by rw [hW1]; exact heap_alloc_new w.drew _
 have hOg : W1.heap[g]? = some (.cells cur 59 (0, 0)) := by rw [hW1]; exact blk_alloc (w := w.drew) hh _
 have hOv : W1.heap[vb]? = some (.cells vcur 59 (0, 0)) := by rw [hW1]; exact blk_alloc (w := w.drew) hvh _
 have hcpA : ∀ (W : World), (∀ x, W.cell? x = W1.cell? x) → (∀ x, W.frozen? x = W1.frozen? x) → ∀ ty dc, (Builtin.copy_ #[47, 47] ty #[.slice (some ⟨w.heap.size, i * 2, none⟩) (n + 1 - i) dc, .slice (some ⟨vb, 0, none⟩) 1 vc]).run Try.prog W = .ok (goInt ((1 : Nat) : Int)) (W.setCells w.heap.size (i * 2) (enc59 y)) := fun W hWc hWf ty dc =>
  Flat.run_copy_k W 47 47 ty 59 w.heap.size (i * 2) (n + 1 - i) dc ⟨vb, 0, none⟩ 1 vc 2 1 _ Try.underlying47 hsz (by simp only [Nat.min_def]; split <;> omega) hYl
   (fun j v hj => by rw [hWc]; exact hvcell W1 hOv j v hj) (fun j hj => by rw [hWc, blk_cell hN]; rw [hYl] at hj; simp; omega) (fun j hj => by rw [hWf]; exact blk_frozen hN _) (flat59.one y)
 obtain ⟨cur1, h1, s1, _⟩ := setCells_row (enc59 y) (i * 2) W1 ROW hN (by rw [hYl]; omega)
 have hbN : g ≠ w.heap.size := by omega
 have hO1 : (W1.setCells w.heap.size (i * 2) (enc59 y)).heap[g]? = some (.cells cur 59 (0, 0)) := by rw [setCells_far _ _ _ hbN]; exact hOg
 have hcpB : ∀ (W : World), (∀ x, W.cell? x = (W1.setCells w.heap.size (i * 2) (enc59 y)).cell? x) → (∀ x, W.frozen? x = (W1.setCells w.heap.size (i * 2) (enc59 y)).frozen? x) → ∀ ty dc sc, (Builtin.copy_ #[47, 47] ty #[.slice (some ⟨w.heap.size, (i + 1) * 2, none⟩) (n - i) dc, .slice (some ⟨g, i * 2, none⟩) (n - i) sc]).run Try.prog W = .ok (goInt ((n - i : Nat) : Int)) (W.setCells w.heap.size ((i + 1) * 2) ((l0.drop i).flatMap enc59)) := fun W hWc hWf ty dc sc =>
  Flat.run_copy_k W 47 47 ty 59 w.heap.size ((i + 1) * 2) (n - i) dc ⟨g, i * 2, none⟩ (n - i) sc 2 (n - i) _ Try.underlying47 hsz (by simp only [Nat.min_def]; split <;> omega) hDl
   (fun j v hj => by rw [hWc]; exact hcell _ hO1 j v hj) (fun j hj => by rw [hWc, blk_cell h1]; rw [hDl] at hj; simp; omega) (fun j hj => by rw [hWf]; exact blk_frozen h1 _) (hone _)
 have HI := Aside0.mk (Flat.ins_grow flat59 hn (W := W1) hN hRs i (by omega) hRt hGn y)
 have hGi : ¬ (G = i) := by omega
 have hGim : ¬ (G = i + 1) := by omega
 have hci : ¬ (c = i) := by omega
 subst hW1
 have hE1 : ∀ x, ((w.alloc (.cells ROW 59)).drew).cell? x = (w.drew.alloc (.cells ROW 59)).cell? x := fun x => rfl
 have hE2 : ∀ x, ((w.alloc (.cells ROW 59)).drew).frozen? x = (w.drew.alloc (.cells ROW 59)).frozen? x := fun x => rfl
 have hF1 : ∀ x, (((w.alloc (.cells ROW 59)).drew.setCells w.heap.size (i * 2) (enc59 y)).drew).cell? x = ((w.drew.alloc (.cells ROW 59)).setCells w.heap.size (i * 2) (enc59 y)).cell? x := fun x => rfl
 have hF2 : ∀ x, (((w.alloc (.cells ROW 59)).drew.setCells w.heap.size (i * 2) (enc59 y)).drew).frozen? x = ((w.drew.alloc (.cells ROW 59)).setCells w.heap.size (i * 2) (enc59 y)).frozen? x := fun x => rfl
 have hz1 : ¬ ((1 : Int) = 0) := by omega
 have hz2 : ¬ ((i : Int) = (n : Int)) := by omega
 have hz3 : (c : Int) < (n : Int) + (1 : Int) := by omega
 have hw1 : IntKind.i64.wrap ((i : Int) + (1 : Int)) = (i : Int) + (1 : Int) := by rw [IntKind.wrap_i64]; omega
 have hw2 : IntKind.i64.wrap ((n : Int) + (1 : Int)) = (n : Int) + (1 : Int) := by rw [IntKind.wrap_i64]; omega
 have hb1 : (0 : Int) ≤ (i : Int) + (1 : Int) := by omega
 have hin : i ≤ n := by omega
 have htn : ((i : Int) + (1 : Int)).toNat = i + 1 := by omega
 have hb3 : (i : Int) ≤ (n : Int) := by omega
 have HH := Aside0.mk (And.intro hB (And.intro hGm hn))
 clear hkk hik hold hROW hG hRt hRs hN hOg hOv h1 hO1 s1 hcell hcellT hvcell hone hDe hTe hTl hh hvh ht hvt hsz ho0 ho2 hB
 go_enter Try.func107, Try.ntmps107
 go_wp2_with (first
  | (at_builtin; refine Lib.wpList_append_run _ rfl _ _ _ _ rfl _ _ rfl rfl _ _ (hrz _) ?_)
  | (at_builtin; refine wpList_copy_runI _ rfl _ _ 47 47 rfl _ _ rfl rfl (hcpA _ hE1 hE2 _ _) ?_)
  | (at_builtin; refine wpList_copy_runI _ rfl _ _ 47 47 rfl _ _ rfl rfl (hcpB _ (fun _ => rfl) (fun _ => rfl) _ _ _) ?_))
 go_region_law_o (refine step_copy_runI rfl _ _ 47 47 rfl (.slice (some ⟨w.heap.size, (i + 1) * 2, none⟩) (n - i) (G - (i + 1))) (.slice (some ⟨g, i * 2, none⟩) (n - i) (c - i)) (by simp [Act.eval, Act.put]) (by simp [Act.eval, Act.put]) (hcpB _ hF1 hF2 3 (G - (i + 1)) (c - i)) ?_)
 go_wp2
 go_ret
 obtain ⟨cur2, h2, s2, t2⟩ := HI.out
 obtain ⟨hB, hGm, hn⟩ := HH.out
 have hE : ((w.alloc (.cells ROW 59)).drew.setCells w.heap.size (i * 2) (enc59 y)).drew.setCells w.heap.size ((i + 1) * 2) ((l0.drop i).flatMap enc59) = (((w.drew.alloc (.cells ROW 59)).setCells w.heap.size (i * 2) (enc59 y)).setCells w.heap.size ((i + 1) * 2) ((l0.drop i).flatMap enc59)).drew := (drew_setCells _ _ _ _).symm
 rw [hE]
 refine ⟨_, rfl, Kd.R_drew (Flat.R_shut flat59 hB.size (.inr (Nat.le_refl _)) (by simp [List.length_take, List.length_drop]; omega) (by omega) hGm h2 s2 t2), ?_, ?_⟩
 ·exact (Flat.below_cells (Flat.below_cells (hB.drew.alloc hB.size _) hB.size _ _) hB.size _ _).drew
 ·exact Kept.drew (Flat.kept_cells (Flat.kept_cells (Kept.alloc (Kept.drew (Kept.refl _ _)) _) (.inr (Nat.le_refl _)) _ _) (.inr (Nat.le_refl _)) _ _)
theorem ins107 (P0_ : Nat → Prop) (u9000_ : Value) (l0 : List S59) (i : Nat) (P2_ : Nat → Prop) (u9001_ : Value) (y : S59) (w0 w : World) (hB : Below w0.heap.size w0 w) (ho0 : Kd.R k59 59 w w0.heap.size P0_ u9000_ l0) (hp0_2 : ∀ k_, P0_ k_ → ¬ P2_ k_) (ho2 : Kd.R k59 59 w w0.heap.size P2_ u9001_ [y]) (hi : i ≤ l0.length) (hbig : (l0.length + 1) * 24 ≤ 140737488355328) :
  Calls Try.prog 107 #[u9000_, .int .i64 i, u9001_] w fun e w' => ∃ v0_ : Value, e = .returned v0_ ∧ Kd.R k59 59 w' w0.heap.size (fun k_ => ((P0_ k_ ∨ P2_ k_) ∨ w.heap.size ≤ k_)) v0_ (l0.take i ++ [y] ++ l0.drop i) ∧ Below w0.heap.size w0 w' ∧ Kept w w' (fun k_ => P0_ k_ ∨ P2_ k_) := by
 obtain ⟨vb, vc, hv, _, _, _⟩ := Kd.R_form ho2 (by simp)
 have hv2 : u9001_ = .slice (some ⟨vb, 0, none⟩) 1 vc := hv
 subst hv2
 by_cases hin : i = l0.length
 ·subst hin
  rw [List.take_length, List.drop_length, List.append_nil]
  exact ins107_end P0_ u9000_ l0 P2_ vb vc y w0 w hB ho0 ho2 hbig
 rcases Flat.R_form0 ho0 with ⟨_, hn⟩ | ⟨g, c, rfl, hnc, hcm⟩
 ·omega
 by_cases hroom : l0.length + 1 ≤ c
 ·exact ins107_room g c i vb vc l0.length l0 y w0 w P0_ P2_ rfl (by omega) hroom (fun e => hp0_2 g (ho0.1 g rfl) (e ▸ ho2.1 vb rfl)) hB ho0 ho2
 ·exact ins107_grow g c i vb vc l0.length l0 y w0 w P0_ P2_ rfl (by omega) (by omega) hbig hB ho0 ho2
def slices_Insert_Entry.f (l0 : List S59) (a1 : Int) (l2 : List S59) : Option (List S59) := if (0 ≤ a1 ∧ a1 ≤ (l0.length : Int)) ∧ l2.length = 1 ∧ (l0.length + 1) * 24 ≤ 140737488355328 then some (l0.take a1.toNat ++ l2 ++ l0.drop a1.toNat) else none
theorem slices_Insert_Entry.calls (P0_ : Nat → Prop) (u9000_ : Value) (l0 : List S59) (a1 : Int) (P2_ : Nat → Prop) (u9001_ : Value) (l2 : List S59) (r : List S59) (w0 w : World) (hB : Below w0.heap.size w0 w) (ho0 : Kd.R k59 59 w w0.heap.size P0_ u9000_ l0) (hp0_2 : ∀ k_, P0_ k_ → ¬ P2_ k_) (ho2 : Kd.R k59 59 w w0.heap.size P2_ u9001_ l2) (hp2_0 : ∀ k_, P2_ k_ → ¬ P0_ k_) (h : slices_Insert_Entry.f l0 a1 l2 = some r) :
  Calls Try.prog 107 #[u9000_, .int .i64 a1, u9001_] w fun e w' => ∃ v0_ : Value, e = .returned v0_ ∧ Kd.R k59 59 w' w0.heap.size (fun k_ => ((P0_ k_ ∨ P2_ k_) ∨ w.heap.size ≤ k_)) v0_ r ∧ Below w0.heap.size w0 w' ∧ Kept w w' (fun k_ => P0_ k_ ∨ P2_ k_) := by
 unfold slices_Insert_Entry.f at h
 split at h
 case isFalse => cases h
 case isTrue hc =>
 obtain ⟨⟨h0, h1⟩, h2, h3⟩ := hc
 obtain rfl := Option.some.inj h
 obtain ⟨y, rfl⟩ := List.length_eq_one_iff.1 h2
 obtain ⟨c, rfl⟩ := Int.eq_ofNat_of_zero_le h0
 exact ins107 P0_ u9000_ l0 c P2_ u9001_ y w0 w hB ho0 hp0_2 ho2 (by omega) h3

/-! ### impl_WithEntry: function 36 -/
def impl_WithEntry.f (a0_0 : Int) (a0_1 : Int) (a0_2 : Int) (a0_3 : ByteArray) (l0_4 : List (S170)) (l0_5 : List (S59)) (a1_0 : Int) (a1_1 : ByteArray) : Option (Int × Int × Int × ByteArray × (List (S170)) × (List (S59))) := (impl_WithoutEntry.f a0_0 a0_1 a0_2 a0_3 l0_4 l0_5 a1_1).bind fun bt198 => ((slices_IndexFunc_Entry_g106.f bt198.2.2.2.2.2 a1_0 a1_1).bind fun t209 => (if t209 < 0 then ((slices_Insert_Entry.f bt198.2.2.2.2.2 (bt198.2.2.2.2.2.length : Int) (([(⟨a1_0, a1_1⟩ : S59)] : List (S59)))).bind fun t213 => (some (bt198.1, bt198.2.1, bt198.2.2.1, bt198.2.2.2.1, bt198.2.2.2.2.1, t213))) else ((slices_Insert_Entry.f bt198.2.2.2.2.2 t209 (([(⟨a1_0, a1_1⟩ : S59)] : List (S59)))).bind fun t219 => (some (bt198.1, bt198.2.1, bt198.2.2.1, bt198.2.2.2.1, bt198.2.2.2.2.1, t219)))))
set_option maxHeartbeats 8000000 in
set_option maxRecDepth 100000 in
theorem impl_WithEntry.calls (a0_0 : Int) (a0_1 : Int) (a0_2 : Int) (a0_3 : ByteArray) (A0_4 : Option Addr) (c0_4 : Nat) (l0_4 : List (S170)) (A0_5 : Option Addr) (c0_5 : Nat) (l0_5 : List (S59)) (a1_0 : Int) (a1_1 : ByteArray) (r1 : Int) (r2 : Int) (r3 : Int) (r4 : ByteArray) (r5 : List (S170)) (r6 : List (S59)) (w : World) (hr0_4 : Kd.C k170 w A0_4 l0_4.length l0_4) (hc0_4 : l0_4.length ≤ c0_4) (hr0_5 : Kd.C k59 w A0_5 l0_5.length l0_5) (hc0_5 : l0_5.length ≤ c0_5) (h : impl_WithEntry.f a0_0 a0_1 a0_2 a0_3 l0_4 l0_5 a1_0 a1_1 = some (r1, r2, r3, r4, r5, r6)) :
  Calls Try.prog 36 #[.agg #[.int .i64 a0_0, .int .i64 a0_1, .int .i64 a0_2, .string a0_3, .slice A0_4 l0_4.length c0_4, .slice A0_5 l0_5.length c0_5], .agg #[.int .i64 a1_0, .string a1_1]] w fun e w' => ∃ v4_ v5_ : Value, e = .returned (.agg #[.int .i64 r1, .int .i64 r2, .int .i64 r3, .string r4, v4_, v5_]) ∧ Kd.R k170 170 w' w.heap.size (fun _ => True) v4_ r5 ∧ Kd.R k59 59 w' w.heap.size (fun _ => True) v5_ r6 ∧ Below w.heap.size w w' := by
 have hu49 := Try.underlying49
 have hu59 := Try.underlying59
 have HR0_4 := Aside0.mk hr0_4
 have HC0_4 := Aside0.mk hc0_4
 clear hr0_4 hc0_4
 have HR0_5 := Aside0.mk hr0_5
 have HC0_5 := Aside0.mk hc0_5
 clear hr0_5 hc0_5
 have HB := Aside0.mk (Below.refl w.heap.size w)
 have H : ((impl_WithoutEntry.f a0_0 a0_1 a0_2 a0_3 l0_4 l0_5 a1_1).bind fun bt198 => ((slices_IndexFunc_Entry_g106.f bt198.2.2.2.2.2 a1_0 a1_1).bind fun t209 => (if t209 < 0 then ((slices_Insert_Entry.f bt198.2.2.2.2.2 (bt198.2.2.2.2.2.length : Int) (([(⟨a1_0, a1_1⟩ : S59)] : List (S59)))).bind fun t213 => (some (bt198.1, bt198.2.1, bt198.2.2.1, bt198.2.2.2.1, bt198.2.2.2.2.1, t213))) else ((slices_Insert_Entry.f bt198.2.2.2.2.2 t209 (([(⟨a1_0, a1_1⟩ : S59)] : List (S59)))).bind fun t219 => (some (bt198.1, bt198.2.1, bt198.2.2.1, bt198.2.2.2.1, bt198.2.2.2.2.1, t219)))))) = some (r1, r2, r3, r4, r5, r6) := h
 clear h
 replace H := Option.bind_eq_some_iff.mp H
 obtain ⟨⟨t198, t199, t200, t201, t202, t205⟩, A30, H⟩ := H
 replace H : ((slices_IndexFunc_Entry_g106.f t205 a1_0 a1_1).bind fun t209 => (if t209 < 0 then ((slices_Insert_Entry.f t205 (t205.length : Int) (([(⟨a1_0, a1_1⟩ : S59)] : List (S59)))).bind fun t213 => (some (t198, t199, t200, t201, t202, t213))) else ((slices_Insert_Entry.f t205 t209 (([(⟨a1_0, a1_1⟩ : S59)] : List (S59)))).bind fun t219 => (some (t198, t199, t200, t201, t202, t219))))) = some (r1, r2, r3, r4, r5, r6) := H
 have A3 := Aside0.mk A30
 clear A30
 replace H := Option.bind_eq_some_iff.mp H
 obtain ⟨t209, A40, H⟩ := H
 replace H : (if t209 < 0 then ((slices_Insert_Entry.f t205 (t205.length : Int) (([(⟨a1_0, a1_1⟩ : S59)] : List (S59)))).bind fun t213 => (some (t198, t199, t200, t201, t202, t213))) else ((slices_Insert_Entry.f t205 t209 (([(⟨a1_0, a1_1⟩ : S59)] : List (S59)))).bind fun t219 => (some (t198, t199, t200, t201, t202, t219)))) = some (r1, r2, r3, r4, r5, r6) := H
 have A4 := Aside0.mk A40
 clear A40
 by_cases c5 : t209 < 0
 rotate_left
 ·rw [if_neg c5] at H
  have c5b0 := decide_eq_false c5
  clear c5
  obtain ⟨y216, hy216⟩ : ∃ y_ : List (S59), y_ = (([(⟨a1_0, a1_1⟩ : S59)] : List (S59))) := ⟨_, rfl⟩
  replace H : ((slices_Insert_Entry.f t205 t209 y216).bind fun t219 => (some (t198, t199, t200, t201, t202, t219))) = some (r1, r2, r3, r4, r5, r6) := by first | (rw [hy216]; with_reducible exact H) | (have H2_ := (Option.bind_some _ _).symm.trans H; rw [hy216]; with_reducible exact H2_) | (have H2_ := (Option.bind_some _ _).symm.trans H; with_reducible exact H2_) | with_reducible exact H | (rw [hy216]; exact H) | exact H
  have Ny216 := Aside0.mk hy216
  clear hy216
  replace H := Option.bind_eq_some_iff.mp H
  obtain ⟨t219, A330, H⟩ := H
  replace H : (some (t198, t199, t200, t201, t202, t219)) = some (r1, r2, r3, r4, r5, r6) := H
  have A33 := Aside0.mk A330
  clear A330
  simp only [Option.some.injEq, Prod.mk.injEq] at H
  obtain ⟨rfl, rfl, rfl, rfl, rfl, rfl⟩ := H
  go_enter Try.func36, Try.ntmps36
  go_wp2_with (first | ((with_reducible refine gate_dst (N := 2) rfl ?_); refine box_event ?hg (N := 2) ?hd (cs := #[.int .i64 a0_0, .int .i64 a0_1, .int .i64 a0_2, .string a0_3, .slice A0_4 l0_4.length c0_4, .slice A0_5 l0_5.length c0_5]) (t := 49) ?hr ?_; (case hd => rfl); (case hg => rfl); (case hr => first | (go_simp; done) | (go_simp; rfl)); intro gb195 hg w34 hbox hb; have z_ := p_ (below_step tq_3 hb) <| p_ (hbox) <| p_ (gb_ hg tq_3) <| a_ (gb_ hg tq_3); clear HB; obtain ⟨HB, BK195, GW195, GE195⟩ := z_; clear hb hbox hg) | ((with_reducible refine gate_dst (N := 3) rfl ?_); refine box_event ?hg (N := 3) ?hd (cs := #[.int .i64 a1_0, .string a1_1]) (t := 59) ?hr ?_; (case hd => rfl); (case hg => rfl); (case hr => first | (go_simp; done) | (go_simp; rfl)); intro gb196 hg w35 hbox hb; have z_ := p_ (blk_below tq_32 hb) <| p_ (below_step tq_124 hb) <| p_ (hbox) <| p_ (gb_ hg tq_124) <| p_ (gb_ hg tq_124) <| p_ (ltne_ hg (blk_lt tq_32)) <| a_ (gtne_ hg (blk_lt tq_32)); clear BK195 HB; obtain ⟨BK195, HB, BK196, GW196, GE196, NB195_196, NB196_195⟩ := z_; clear hb hbox hg) | ((with_reducible refine gate_dst (N := 4) rfl ?_); refine box_event ?hg (N := 4) ?hd (cs := #[.int .i64 0, .int .i64 0, .int .i64 0, .string (⟨#[]⟩ : ByteArray), .slice none 0 0, .slice none 0 0]) (t := 49) ?hr ?_; (case hd => rfl); (case hg => rfl); (case hr => first | (go_simp; done) | (go_simp; rfl)); intro gb197 hg w36 hbox hb; have z_ := p_ (blk_below tq_32 hb) <| p_ (blk_below tq_31 hb) <| p_ (below_step tq_104 hb) <| p_ (hbox) <| p_ (gb_ hg tq_104) <| p_ (gb_ hg tq_104) <| p_ (ltne_ hg (blk_lt tq_32)) <| p_ (gtne_ hg (blk_lt tq_32)) <| p_ (ltne_ hg (blk_lt tq_31)) <| a_ (gtne_ hg (blk_lt tq_31)); clear BK195 BK196 HB; obtain ⟨BK195, BK196, HB, BK197, GW197, GE197, NB195_197, NB197_195, NB196_197, NB197_196⟩ := z_; clear hb hbox hg; have hnb37 := NB195_196.out; have hnc37 := NB196_195.out; have hnb38 := NB195_197.out; have hnc38 := NB197_195.out; obtain ⟨hcz39_0, hcz39_1, hcz39_2, hcz39_3, hcz39_4, hcz39_5⟩ := bk6_ BK195.out; obtain ⟨hfz39_0, hfz39_1, hfz39_2, hfz39_3, hfz39_4, hfz39_5⟩ := bf6_ BK195.out; have hnb40 := NB196_197.out; have hnc40 := NB197_196.out; obtain ⟨hcz41_0, hcz41_1⟩ := bk2_ BK196.out; obtain ⟨hfz41_0, hfz41_1⟩ := bf2_ BK196.out) | ((with_reducible refine gate_callee (f := 29) rfl ?_); refine goesL_ (some 10) rfl rfl Try.func29 (by kernel_rfl) rfl #[.agg #[.int .i64 a0_0, .int .i64 a0_1, .int .i64 a0_2, .string a0_3, .slice A0_4 l0_4.length c0_4, .slice A0_5 l0_5.length c0_5], .string a1_1] rfl tq_0 ?_; (with_reducible refine (impl_WithoutEntry.calls a0_0 a0_1 a0_2 a0_3 _ _ l0_4 _ _ l0_5 a1_1 t198 t199 t200 t201 t202 t205 _ ?side1 ?side2 ?side3 ?side4 A3.out).mono ?_); (case side1 => exact tq_68); (case side2 => exact HC0_4.out); (case side3 => exact tq_102); (case side4 => exact HC0_5.out); rintro e w42 ⟨v203, v206, rfl, ho0, ho1, hb⟩; refine ⟨_, rfl, ?_⟩; have z_ := p_ (Kd.R_lower ho0 (below_size tq_34)) <| p_ (Kd.R_lower (Kd.R_newB ho1 (g := gb196) (o := .cells #[.int .i64 a1_0, .string a1_1] 59 (0, 0)) tq_31) (below_size tq_34)) <| p_ (blk_below tq_32 hb) <| p_ (blk_below tq_31 hb) <| p_ (blk_below tq_76 hb) <| a_ (below_step tq_34 hb); clear BK195 BK196 BK197 HB; obtain ⟨HO204, HO207, BK195, BK196, BK197, HB⟩ := z_; (try clear hb); (try clear hb2); (try clear hk); (try clear hi); (try clear ho0); (try clear ho1)) | ((with_reducible refine gate_dst (N := 5) rfl ?_); refine box_event ?hg (N := 5) ?hd (cs := #[.int .i64 0, .int .i64 0, .int .i64 0, .string (⟨#[]⟩ : ByteArray), .slice none 0 0, .slice none 0 0]) (t := 49) ?hr ?_; (case hd => rfl); (case hg => rfl); (case hr => first | (go_simp; done) | (go_simp; rfl)); intro gb208 hg w43 hbox hb; have z_ := p_ (Kd.R_below tq_187 hb) <| p_ (Kd.R_below tq_159 hb) <| p_ (blk_below tq_32 hb) <| p_ (blk_below tq_31 hb) <| p_ (blk_below tq_76 hb) <| p_ (below_step tq_34 hb) <| p_ (hbox) <| p_ (gb_ hg tq_34) <| p_ (gb_ hg tq_34) <| p_ (ltne_ hg (blk_lt tq_32)) <| p_ (gtne_ hg (blk_lt tq_32)) <| p_ (ltne_ hg (blk_lt tq_31)) <| p_ (gtne_ hg (blk_lt tq_31)) <| p_ (ltne_ hg (blk_lt tq_76)) <| a_ (gtne_ hg (blk_lt tq_76)); clear HO204 HO207 BK195 BK196 BK197 HB; obtain ⟨HO204, HO207, BK195, BK196, BK197, HB, BK208, GW208, GE208, NB195_208, NB208_195, NB196_208, NB208_196, NB197_208, NB208_197⟩ := z_; clear hb hbox hg; have hnb44 := NB208_195.out; have hnc44 := NB195_208.out; have hnb45 := NB208_196.out; have hnc45 := NB196_208.out; have hnb46 := NB208_197.out; have hnc46 := NB197_208.out; obtain ⟨hcz47_0, hcz47_1, hcz47_2, hcz47_3, hcz47_4, hcz47_5⟩ := bk6_ BK208.out; obtain ⟨hfz47_0, hfz47_1, hfz47_2, hfz47_3, hfz47_4, hfz47_5⟩ := bf6_ BK208.out; obtain ⟨Ao48, co48, eo48⟩ := Kd.R_slice HO204.out; subst eo48; obtain ⟨Ao49, co49, eo49⟩ := Kd.R_slice HO207.out; subst eo49) | ((with_reducible refine gate_callee (f := 105) rfl ?_); refine goesL_ (some 14) rfl rfl Try.func105 (by kernel_rfl) rfl #[.slice Ao49 t205.length co49, .func (.func 106) #[] #[.pointer (some ⟨gb196, 0, none⟩)]] rfl tq_0 ?_; (with_reducible refine (slices_IndexFunc_Entry_g106.calls _ _ t205 gb196 a1_0 a1_1 t209 _ ?side1 ?side2 ?side3 A4.out).mono ?_); (case side1 => refine (Kd.R_reads' (e := 59) (base := w.heap.size) (ok := fun k_ => (True ∧ k_ ≠ gb196)) (n := t205.length) (c := co49) ?_).2.2; exact tq_145); (case side2 => exact (Kd.R_reads' HO207.out).2.1); (case side3 => (with_reducible repeat (first | refine blk_drewN ?_ _ | refine blk_drew ?_ | refine blk_alloc ?_ _)); refine blk_far ?_ NB196_208.out _; (with_reducible repeat (first | refine blk_drewN ?_ _ | refine blk_drew ?_ | refine blk_alloc ?_ _)); refine blk_far ?_ NB196_208.out _; (with_reducible repeat (first | refine blk_drewN ?_ _ | refine blk_drew ?_ | refine blk_alloc ?_ _)); refine blk_far ?_ NB196_208.out _; (with_reducible repeat (first | refine blk_drewN ?_ _ | refine blk_drew ?_ | refine blk_alloc ?_ _)); refine blk_far ?_ NB196_208.out _; (with_reducible repeat (first | refine blk_drewN ?_ _ | refine blk_drew ?_ | refine blk_alloc ?_ _)); refine blk_far ?_ NB196_208.out _; (with_reducible repeat (first | refine blk_drewN ?_ _ | refine blk_drew ?_ | refine blk_alloc ?_ _)); refine blk_far ?_ NB196_208.out _; (with_reducible repeat (first | refine blk_drewN ?_ _ | refine blk_drew ?_ | refine blk_alloc ?_ _)); exact BK196.out); rintro e w50 ⟨rfl, hb⟩; refine ⟨_, rfl, ?_⟩; have z_ := p_ (Kd.R_below (by (with_reducible repeat (first | apply Kd.R_alloc | apply Kd.R_drewN | apply Kd.R_drew)); exact (Kd.R_mono (Kd.R_far (p := ⟨gb208, 5, none⟩) (Kd.R_far (p := ⟨gb208, 4, none⟩) (Kd.R_far (p := ⟨gb208, 3, none⟩) (Kd.R_far (p := ⟨gb208, 2, none⟩) (Kd.R_far (p := ⟨gb208, 1, none⟩) (Kd.R_far (p := ⟨gb208, 0, none⟩) (Kd.R_types HO204.out BK208.out (by decide)) (fun _ hk => hk.2) (.int .i64 t198)) (fun _ hk => hk.2) (.int .i64 t199)) (fun _ hk => hk.2) (.int .i64 t200)) (fun _ hk => hk.2) (.string t201)) (fun _ hk => hk.2) (.slice Ao48 t202.length co48)) (fun _ hk => hk.2) (.slice Ao49 t205.length co49)) (fun _ h_ => h_.1))) hb) <| p_ (Kd.R_below tq_145 hb) <| p_ (blk_below (g := gb195) (o := .cells #[.int .i64 a0_0, .int .i64 a0_1, .int .i64 a0_2, .string a0_3, .slice A0_4 l0_4.length c0_4, .slice A0_5 l0_5.length c0_5] 49 (0, 0)) tq_114 hb) <| p_ (blk_below (g := gb196) (o := .cells #[.int .i64 a1_0, .string a1_1] 59 (0, 0)) tq_113 hb) <| p_ (blk_below (g := gb197) (o := .cells #[.int .i64 0, .int .i64 0, .int .i64 0, .string (⟨#[]⟩ : ByteArray), .slice none 0 0, .slice none 0 0] 49 (0, 0)) tq_112 hb) <| p_ (blk_below (g := gb208) (o := .cells #[.int .i64 t198, .int .i64 t199, .int .i64 t200, .string t201, .slice Ao48 t202.length co48, .slice Ao49 t205.length co49] 49 (0, 0)) (by (with_reducible repeat (first | refine blk_drewN ?_ _ | refine blk_drew ?_ | refine blk_alloc ?_ _)); refine blk_put (cs := #[.int .i64 t198, .int .i64 t199, .int .i64 t200, .string t201, .slice Ao48 t202.length co48, .slice none 0 0]) ?_ 5 _ rfl; (with_reducible repeat (first | refine blk_drewN ?_ _ | refine blk_drew ?_ | refine blk_alloc ?_ _)); refine blk_put (cs := #[.int .i64 t198, .int .i64 t199, .int .i64 t200, .string t201, .slice none 0 0, .slice none 0 0]) ?_ 4 _ rfl; (with_reducible repeat (first | refine blk_drewN ?_ _ | refine blk_drew ?_ | refine blk_alloc ?_ _)); refine blk_put (cs := #[.int .i64 t198, .int .i64 t199, .int .i64 t200, .string (⟨#[]⟩ : ByteArray), .slice none 0 0, .slice none 0 0]) ?_ 3 _ rfl; (with_reducible repeat (first | refine blk_drewN ?_ _ | refine blk_drew ?_ | refine blk_alloc ?_ _)); refine blk_put (cs := #[.int .i64 t198, .int .i64 t199, .int .i64 0, .string (⟨#[]⟩ : ByteArray), .slice none 0 0, .slice none 0 0]) ?_ 2 _ rfl; (with_reducible repeat (first | refine blk_drewN ?_ _ | refine blk_drew ?_ | refine blk_alloc ?_ _)); refine blk_put (cs := #[.int .i64 t198, .int .i64 0, .int .i64 0, .string (⟨#[]⟩ : ByteArray), .slice none 0 0, .slice none 0 0]) ?_ 1 _ rfl; (with_reducible repeat (first | refine blk_drewN ?_ _ | refine blk_drew ?_ | refine blk_alloc ?_ _)); refine blk_put (cs := #[.int .i64 0, .int .i64 0, .int .i64 0, .string (⟨#[]⟩ : ByteArray), .slice none 0 0, .slice none 0 0]) ?_ 0 _ rfl; (with_reducible repeat (first | refine blk_drewN ?_ _ | refine blk_drew ?_ | refine blk_alloc ?_ _)); exact BK208.out) hb) <| a_ (below_step tq_51 hb); clear HO204 HO207 BK195 BK196 BK197 BK208 HB; obtain ⟨HO204, HO207, BK195, BK196, BK197, BK208, HB⟩ := z_; (try clear hb); (try clear hb2); (try clear hk); (try clear hi); obtain ⟨hcz51_0, hcz51_1, hcz51_2, hcz51_3, hcz51_4, hcz51_5⟩ := bk6_ BK208.out; obtain ⟨hfz51_0, hfz51_1, hfz51_2, hfz51_3, hfz51_4, hfz51_5⟩ := bf6_ BK208.out; obtain ⟨hcz52_0, hcz52_1⟩ := bk2_ BK196.out; obtain ⟨hfz52_0, hfz52_1⟩ := bf2_ BK196.out) | ((with_reducible refine gate_dst (N := 24) rfl ?_); refine Kd.R_lit k59 _ 59 ?hg (N := 24) ?hd (xs := ([(⟨a1_0, a1_1⟩ : S59)] : List (S59))) (inner := [.int .i64 a1_0, .string a1_1]) (ok := fun _ => True) (okp := fun _ => True) ?hr ?hp (fun _ hk => hk) trivial (Below.refl _ _) (Nat.le_refl _) (by simp) ?_; (case hd => rfl); (case hg => rfl); (case hr => first | (go_simp; done) | (go_simp; rfl)); (case hp => exact tq_212); intro v217 w53 ho54 hb hg_ hnew_; clear hg_ hnew_; (first | rw [← Ny216.out] at ho54 | (simp only [Int.reduceToNat] at ho54; rw [← Ny216.out] at ho54)); have z_ := p_ (Kd.R_below tq_187 hb) <| p_ (Kd.R_elder' tq_159 (Kd.R_base ho54) hb) <| p_ (Kd.R_lower (Kd.R_newB (Kd.R_new' ho54 (Kd.R_lt tq_159)) (g := gb196) (o := .cells #[.int .i64 a1_0, .string a1_1] 59 (0, 0)) tq_31) (below_size tq_51)) <| p_ (blk_below tq_32 hb) <| p_ (blk_below tq_31 hb) <| p_ (blk_below tq_76 hb) <| p_ (blk_below tq_176 hb) <| a_ (below_step tq_51 hb); clear HO204 HO207 BK195 BK196 BK197 BK208 HB; obtain ⟨HO204, HO207, HO218, BK195, BK196, BK197, BK208, HB⟩ := z_; clear hb ho54; obtain ⟨Ao55, co55, eo55⟩ := Kd.R_slice HO218.out; subst eo55) | ((with_reducible refine gate_callee (f := 107) rfl ?_); refine goesL_ (some 25) rfl rfl Try.func107 (by kernel_rfl) rfl #[.slice Ao49 t205.length co49, .int .i64 t209, .slice Ao55 y216.length co55] rfl tq_0 ?_; (with_reducible refine (slices_Insert_Entry.calls (fun k_ => some k_ = (.slice Ao49 t205.length co49 : Value).ownBlock) (.slice Ao49 t205.length co49) t205 t209 (fun k_ => some k_ = (.slice Ao55 y216.length co55 : Value).ownBlock) (.slice Ao55 y216.length co55) y216 t219 w _ ?side1 ?side2 ?side3 ?side4 ?side5 A33.out).mono ?_); (case side1 => exact tq_192); (case side2 => exact Kd.R_tight rfl HO207.out); (case side3 => exact fun k_ e_ => (HO207.out.1 k_ e_.symm).2); (case side4 => exact Kd.R_tight rfl HO218.out); (case side5 => exact fun k_ e_ => (HO218.out.1 k_ e_.symm).1.2); rintro e w56 ⟨v220, rfl, ho0, hb, hkp⟩; refine ⟨_, rfl, ?_⟩; have z_ := p_ (blk_kept tq_32 hkp (fun hs_ => Or.elim hs_ (fun e_ => (fun e_ => (Kd.R_ne HO207.out BK195.out (by decide)) e_) e_) (fun e_ => (fun e_ => (Kd.R_ne HO218.out BK195.out (by decide)) e_) e_))) <| p_ (blk_kept tq_31 hkp (fun hs_ => Or.elim hs_ (fun e_ => (fun e_ => (Kd.R_away HO207.out (fun _ hk => hk.1.2)) e_) e_) (fun e_ => (fun e_ => (Kd.R_away HO218.out (fun _ hk => hk.2)) e_) e_))) <| p_ (blk_kept tq_76 hkp (fun hs_ => Or.elim hs_ (fun e_ => (fun e_ => (Kd.R_ne HO207.out BK197.out (by decide)) e_) e_) (fun e_ => (fun e_ => (Kd.R_ne HO218.out BK197.out (by decide)) e_) e_))) <| p_ (Kd.R_mono (ok' := fun k_ => True) (Kd.R_keptB ((Kd.R_apart' (Kd.R_apart' HO204.out (Kd.R_typed HO207.out) (by decide)) (Kd.R_typed HO218.out) (by decide))) hkp (fun k_ hk_ hs_ => Or.elim hs_ (fun e_ => (hk_.1.2) e_) (fun e_ => (hk_.2) e_))) (fun k_ hk_ => trivial)) <| p_ (blk_kept tq_176 hkp (fun hs_ => Or.elim hs_ (fun e_ => (fun e_ => (Kd.R_ne HO207.out BK208.out (by decide)) e_) e_) (fun e_ => (fun e_ => (Kd.R_ne HO218.out BK208.out (by decide)) e_) e_))) <| p_ (Kd.R_mono (ok' := fun k_ => k_ ≠ gb196) ho0 (fun k_ hk_ => Or.elim hk_ (fun hs_ => Or.elim hs_ (fun hs_ => fun e_ => (Kd.R_away HO207.out (fun _ hk => hk.1.2)) (by rw [← e_]; exact hs_)) (fun hs_ => fun e_ => (Kd.R_away HO218.out (fun _ hk => hk.2)) (by rw [← e_]; exact hs_))) (fun hn_ => (Kd.freshB (g := gb196) (o := .cells #[.int .i64 a1_0, .string a1_1] 59 (0, 0)) tq_31 k_ hn_)))) <| a_ (hb); clear BK195 BK196 BK197 HO204 BK208 HB HO207 HO218; obtain ⟨BK195, BK196, BK197, HO204, BK208, HO221, HB⟩ := z_; (try clear hb); (try clear hkp); (try clear ho0); obtain ⟨Ao57, co57, eo57⟩ := Kd.R_slice HO221.out; subst eo57; obtain ⟨hcz58_0, hcz58_1, hcz58_2, hcz58_3, hcz58_4, hcz58_5⟩ := bk6_ BK208.out; obtain ⟨hfz58_0, hfz58_1, hfz58_2, hfz58_3, hfz58_4, hfz58_5⟩ := bf6_ BK208.out; obtain ⟨hcz59_0, hcz59_1, hcz59_2, hcz59_3, hcz59_4, hcz59_5⟩ := bk6_ BK197.out; obtain ⟨hfz59_0, hfz59_1, hfz59_2, hfz59_3, hfz59_4, hfz59_5⟩ := bf6_ BK197.out))
  refine bodyPost_ret (results_cell_row rfl _ _ gb197 49 #[.int .i64 t198, .int .i64 t199, .int .i64 t200, .string t201, .slice Ao48 t202.length co48, .slice Ao57 t219.length co57] (0, 0) _ rfl (by (with_reducible repeat (first | refine blk_drewN ?_ _ | refine blk_drew ?_ | refine blk_alloc ?_ _)); refine blk_put (cs := #[.int .i64 t198, .int .i64 t199, .int .i64 t200, .string t201, .slice Ao48 t202.length co48, .slice none 0 0]) ?_ 5 _ rfl; (with_reducible repeat (first | refine blk_drewN ?_ _ | refine blk_drew ?_ | refine blk_alloc ?_ _)); refine blk_put (cs := #[.int .i64 t198, .int .i64 t199, .int .i64 t200, .string t201, .slice none 0 0, .slice none 0 0]) ?_ 4 _ rfl; (with_reducible repeat (first | refine blk_drewN ?_ _ | refine blk_drew ?_ | refine blk_alloc ?_ _)); refine blk_put (cs := #[.int .i64 t198, .int .i64 t199, .int .i64 t200, .string (⟨#[]⟩ : ByteArray), .slice none 0 0, .slice none 0 0]) ?_ 3 _ rfl; (with_reducible repeat (first | refine blk_drewN ?_ _ | refine blk_drew ?_ | refine blk_alloc ?_ _)); refine blk_put (cs := #[.int .i64 t198, .int .i64 t199, .int .i64 0, .string (⟨#[]⟩ : ByteArray), .slice none 0 0, .slice none 0 0]) ?_ 2 _ rfl; (with_reducible repeat (first | refine blk_drewN ?_ _ | refine blk_drew ?_ | refine blk_alloc ?_ _)); refine blk_put (cs := #[.int .i64 t198, .int .i64 0, .int .i64 0, .string (⟨#[]⟩ : ByteArray), .slice none 0 0, .slice none 0 0]) ?_ 1 _ rfl; (with_reducible repeat (first | refine blk_drewN ?_ _ | refine blk_drew ?_ | refine blk_alloc ?_ _)); refine blk_put (cs := #[.int .i64 0, .int .i64 0, .int .i64 0, .string (⟨#[]⟩ : ByteArray), .slice none 0 0, .slice none 0 0]) ?_ 0 _ rfl; (with_reducible repeat (first | refine blk_drewN ?_ _ | refine blk_drew ?_ | refine blk_alloc ?_ _)); refine blk_far ?_ NB197_208.out _; (with_reducible repeat (first | refine blk_drewN ?_ _ | refine blk_drew ?_ | refine blk_alloc ?_ _)); exact BK197.out) Try.underlying49 rfl (by kernel_rfl)) rfl ?_
  exact ⟨_, _, tq_11, (by (with_reducible repeat (first | apply Kd.R_alloc | apply Kd.R_drewN | apply Kd.R_drew)); exact Kd.R_mono (Kd.R_far (p := ⟨gb197, 5, none⟩) (Kd.R_far (p := ⟨gb197, 4, none⟩) (Kd.R_far (p := ⟨gb197, 3, none⟩) (Kd.R_far (p := ⟨gb197, 2, none⟩) (Kd.R_far (p := ⟨gb197, 1, none⟩) (Kd.R_far (p := ⟨gb197, 0, none⟩) (Kd.R_far (p := ⟨gb208, 5, none⟩) (Kd.R_types (Kd.R_types HO204.out BK208.out (by decide)) BK197.out (by decide)) (fun _ hk => hk.1.2) (.slice Ao57 t219.length co57)) (fun _ hk => hk.2) (.int .i64 t198)) (fun _ hk => hk.2) (.int .i64 t199)) (fun _ hk => hk.2) (.int .i64 t200)) (fun _ hk => hk.2) (.string t201)) (fun _ hk => hk.2) (.slice Ao48 t202.length co48)) (fun _ hk => hk.2) (.slice Ao57 t219.length co57)) (fun _ hk => trivial)), (by (with_reducible repeat (first | apply Kd.R_alloc | apply Kd.R_drewN | apply Kd.R_drew)); exact Kd.R_mono (Kd.R_far (p := ⟨gb197, 5, none⟩) (Kd.R_far (p := ⟨gb197, 4, none⟩) (Kd.R_far (p := ⟨gb197, 3, none⟩) (Kd.R_far (p := ⟨gb197, 2, none⟩) (Kd.R_far (p := ⟨gb197, 1, none⟩) (Kd.R_far (p := ⟨gb197, 0, none⟩) (Kd.R_far (p := ⟨gb208, 5, none⟩) (Kd.R_types (Kd.R_types HO221.out BK208.out (by decide)) BK197.out (by decide)) (fun _ hk => hk.1.2) (.slice Ao57 t219.length co57)) (fun _ hk => hk.2) (.int .i64 t198)) (fun _ hk => hk.2) (.int .i64 t199)) (fun _ hk => hk.2) (.int .i64 t200)) (fun _ hk => hk.2) (.string t201)) (fun _ hk => hk.2) (.slice Ao48 t202.length co48)) (fun _ hk => hk.2) (.slice Ao57 t219.length co57)) (fun _ hk => trivial)), tq_51⟩
 rw [if_pos c5] at H
 have c5b0 := decide_eq_true c5
 clear c5
 obtain ⟨y210, hy210⟩ : ∃ y_ : List (S59), y_ = (([(⟨a1_0, a1_1⟩ : S59)] : List (S59))) := ⟨_, rfl⟩
 replace H : ((slices_Insert_Entry.f t205 (t205.length : Int) y210).bind fun t213 => (some (t198, t199, t200, t201, t202, t213))) = some (r1, r2, r3, r4, r5, r6) := by first | (rw [hy210]; with_reducible exact H) | (have H2_ := (Option.bind_some _ _).symm.trans H; rw [hy210]; with_reducible exact H2_) | (have H2_ := (Option.bind_some _ _).symm.trans H; with_reducible exact H2_) | with_reducible exact H | (rw [hy210]; exact H) | exact H
 have Ny210 := Aside0.mk hy210
 clear hy210
 replace H := Option.bind_eq_some_iff.mp H
 obtain ⟨t213, A60, H⟩ := H
 replace H : (some (t198, t199, t200, t201, t202, t213)) = some (r1, r2, r3, r4, r5, r6) := H
 have A6 := Aside0.mk A60
 clear A60
 simp only [Option.some.injEq, Prod.mk.injEq] at H
 obtain ⟨rfl, rfl, rfl, rfl, rfl, rfl⟩ := H
 go_enter Try.func36, Try.ntmps36
 go_wp2_with (first | ((with_reducible refine gate_dst (N := 2) rfl ?_); refine box_event ?hg (N := 2) ?hd (cs := #[.int .i64 a0_0, .int .i64 a0_1, .int .i64 a0_2, .string a0_3, .slice A0_4 l0_4.length c0_4, .slice A0_5 l0_5.length c0_5]) (t := 49) ?hr ?_; (case hd => rfl); (case hg => rfl); (case hr => first | (go_simp; done) | (go_simp; rfl)); intro gb195 hg w7 hbox hb; have z_ := p_ (below_step tq_3 hb) <| p_ (hbox) <| p_ (gb_ hg tq_3) <| a_ (gb_ hg tq_3); clear HB; obtain ⟨HB, BK195, GW195, GE195⟩ := z_; clear hb hbox hg) | ((with_reducible refine gate_dst (N := 3) rfl ?_); refine box_event ?hg (N := 3) ?hd (cs := #[.int .i64 a1_0, .string a1_1]) (t := 59) ?hr ?_; (case hd => rfl); (case hg => rfl); (case hr => first | (go_simp; done) | (go_simp; rfl)); intro gb196 hg w8 hbox hb; have z_ := p_ (blk_below tq_32 hb) <| p_ (below_step tq_124 hb) <| p_ (hbox) <| p_ (gb_ hg tq_124) <| p_ (gb_ hg tq_124) <| p_ (ltne_ hg (blk_lt tq_32)) <| a_ (gtne_ hg (blk_lt tq_32)); clear BK195 HB; obtain ⟨BK195, HB, BK196, GW196, GE196, NB195_196, NB196_195⟩ := z_; clear hb hbox hg) | ((with_reducible refine gate_dst (N := 4) rfl ?_); refine box_event ?hg (N := 4) ?hd (cs := #[.int .i64 0, .int .i64 0, .int .i64 0, .string (⟨#[]⟩ : ByteArray), .slice none 0 0, .slice none 0 0]) (t := 49) ?hr ?_; (case hd => rfl); (case hg => rfl); (case hr => first | (go_simp; done) | (go_simp; rfl)); intro gb197 hg w9 hbox hb; have z_ := p_ (blk_below tq_32 hb) <| p_ (blk_below tq_31 hb) <| p_ (below_step tq_104 hb) <| p_ (hbox) <| p_ (gb_ hg tq_104) <| p_ (gb_ hg tq_104) <| p_ (ltne_ hg (blk_lt tq_32)) <| p_ (gtne_ hg (blk_lt tq_32)) <| p_ (ltne_ hg (blk_lt tq_31)) <| a_ (gtne_ hg (blk_lt tq_31)); clear BK195 BK196 HB; obtain ⟨BK195, BK196, HB, BK197, GW197, GE197, NB195_197, NB197_195, NB196_197, NB197_196⟩ := z_; clear hb hbox hg; have hnb10 := NB195_196.out; have hnc10 := NB196_195.out; have hnb11 := NB195_197.out; have hnc11 := NB197_195.out; obtain ⟨hcz12_0, hcz12_1, hcz12_2, hcz12_3, hcz12_4, hcz12_5⟩ := bk6_ BK195.out; obtain ⟨hfz12_0, hfz12_1, hfz12_2, hfz12_3, hfz12_4, hfz12_5⟩ := bf6_ BK195.out; have hnb13 := NB196_197.out; have hnc13 := NB197_196.out; obtain ⟨hcz14_0, hcz14_1⟩ := bk2_ BK196.out; obtain ⟨hfz14_0, hfz14_1⟩ := bf2_ BK196.out) | ((with_reducible refine gate_callee (f := 29) rfl ?_); refine goesL_ (some 10) rfl rfl Try.func29 (by kernel_rfl) rfl #[.agg #[.int .i64 a0_0, .int .i64 a0_1, .int .i64 a0_2, .string a0_3, .slice A0_4 l0_4.length c0_4, .slice A0_5 l0_5.length c0_5], .string a1_1] rfl tq_0 ?_; (with_reducible refine (impl_WithoutEntry.calls a0_0 a0_1 a0_2 a0_3 _ _ l0_4 _ _ l0_5 a1_1 t198 t199 t200 t201 t202 t205 _ ?side1 ?side2 ?side3 ?side4 A3.out).mono ?_); (case side1 => exact tq_68); (case side2 => exact HC0_4.out); (case side3 => exact tq_102); (case side4 => exact HC0_5.out); rintro e w15 ⟨v203, v206, rfl, ho0, ho1, hb⟩; refine ⟨_, rfl, ?_⟩; have z_ := p_ (Kd.R_lower ho0 (below_size tq_34)) <| p_ (Kd.R_lower (Kd.R_newB ho1 (g := gb196) (o := .cells #[.int .i64 a1_0, .string a1_1] 59 (0, 0)) tq_31) (below_size tq_34)) <| p_ (blk_below tq_32 hb) <| p_ (blk_below tq_31 hb) <| p_ (blk_below tq_76 hb) <| a_ (below_step tq_34 hb); clear BK195 BK196 BK197 HB; obtain ⟨HO204, HO207, BK195, BK196, BK197, HB⟩ := z_; (try clear hb); (try clear hb2); (try clear hk); (try clear hi); (try clear ho0); (try clear ho1)) | ((with_reducible refine gate_dst (N := 5) rfl ?_); refine box_event ?hg (N := 5) ?hd (cs := #[.int .i64 0, .int .i64 0, .int .i64 0, .string (⟨#[]⟩ : ByteArray), .slice none 0 0, .slice none 0 0]) (t := 49) ?hr ?_; (case hd => rfl); (case hg => rfl); (case hr => first | (go_simp; done) | (go_simp; rfl)); intro gb208 hg w16 hbox hb; have z_ := p_ (Kd.R_below tq_187 hb) <| p_ (Kd.R_below tq_159 hb) <| p_ (blk_below tq_32 hb) <| p_ (blk_below tq_31 hb) <| p_ (blk_below tq_76 hb) <| p_ (below_step tq_34 hb) <| p_ (hbox) <| p_ (gb_ hg tq_34) <| p_ (gb_ hg tq_34) <| p_ (ltne_ hg (blk_lt tq_32)) <| p_ (gtne_ hg (blk_lt tq_32)) <| p_ (ltne_ hg (blk_lt tq_31)) <| p_ (gtne_ hg (blk_lt tq_31)) <| p_ (ltne_ hg (blk_lt tq_76)) <| a_ (gtne_ hg (blk_lt tq_76)); clear HO204 HO207 BK195 BK196 BK197 HB; obtain ⟨HO204, HO207, BK195, BK196, BK197, HB, BK208, GW208, GE208, NB195_208, NB208_195, NB196_208, NB208_196, NB197_208, NB208_197⟩ := z_; clear hb hbox hg; have hnb17 := NB208_195.out; have hnc17 := NB195_208.out; have hnb18 := NB208_196.out; have hnc18 := NB196_208.out; have hnb19 := NB208_197.out; have hnc19 := NB197_208.out; obtain ⟨hcz20_0, hcz20_1, hcz20_2, hcz20_3, hcz20_4, hcz20_5⟩ := bk6_ BK208.out; obtain ⟨hfz20_0, hfz20_1, hfz20_2, hfz20_3, hfz20_4, hfz20_5⟩ := bf6_ BK208.out; obtain ⟨Ao21, co21, eo21⟩ := Kd.R_slice HO204.out; subst eo21; obtain ⟨Ao22, co22, eo22⟩ := Kd.R_slice HO207.out; subst eo22) | ((with_reducible refine gate_callee (f := 105) rfl ?_); refine goesL_ (some 14) rfl rfl Try.func105 (by kernel_rfl) rfl #[.slice Ao22 t205.length co22, .func (.func 106) #[] #[.pointer (some ⟨gb196, 0, none⟩)]] rfl tq_0 ?_; (with_reducible refine (slices_IndexFunc_Entry_g106.calls _ _ t205 gb196 a1_0 a1_1 t209 _ ?side1 ?side2 ?side3 A4.out).mono ?_); (case side1 => refine (Kd.R_reads' (e := 59) (base := w.heap.size) (ok := fun k_ => (True ∧ k_ ≠ gb196)) (n := t205.length) (c := co22) ?_).2.2; exact tq_146); (case side2 => exact (Kd.R_reads' HO207.out).2.1); (case side3 => (with_reducible repeat (first | refine blk_drewN ?_ _ | refine blk_drew ?_ | refine blk_alloc ?_ _)); refine blk_far ?_ NB196_208.out _; (with_reducible repeat (first | refine blk_drewN ?_ _ | refine blk_drew ?_ | refine blk_alloc ?_ _)); refine blk_far ?_ NB196_208.out _; (with_reducible repeat (first | refine blk_drewN ?_ _ | refine blk_drew ?_ | refine blk_alloc ?_ _)); refine blk_far ?_ NB196_208.out _; (with_reducible repeat (first | refine blk_drewN ?_ _ | refine blk_drew ?_ | refine blk_alloc ?_ _)); refine blk_far ?_ NB196_208.out _; (with_reducible repeat (first | refine blk_drewN ?_ _ | refine blk_drew ?_ | refine blk_alloc ?_ _)); refine blk_far ?_ NB196_208.out _; (with_reducible repeat (first | refine blk_drewN ?_ _ | refine blk_drew ?_ | refine blk_alloc ?_ _)); refine blk_far ?_ NB196_208.out _; (with_reducible repeat (first | refine blk_drewN ?_ _ | refine blk_drew ?_ | refine blk_alloc ?_ _)); exact BK196.out); rintro e w23 ⟨rfl, hb⟩; refine ⟨_, rfl, ?_⟩; have z_ := p_ (Kd.R_below (by (with_reducible repeat (first | apply Kd.R_alloc | apply Kd.R_drewN | apply Kd.R_drew)); exact (Kd.R_mono (Kd.R_far (p := ⟨gb208, 5, none⟩) (Kd.R_far (p := ⟨gb208, 4, none⟩) (Kd.R_far (p := ⟨gb208, 3, none⟩) (Kd.R_far (p := ⟨gb208, 2, none⟩) (Kd.R_far (p := ⟨gb208, 1, none⟩) (Kd.R_far (p := ⟨gb208, 0, none⟩) (Kd.R_types HO204.out BK208.out (by decide)) (fun _ hk => hk.2) (.int .i64 t198)) (fun _ hk => hk.2) (.int .i64 t199)) (fun _ hk => hk.2) (.int .i64 t200)) (fun _ hk => hk.2) (.string t201)) (fun _ hk => hk.2) (.slice Ao21 t202.length co21)) (fun _ hk => hk.2) (.slice Ao22 t205.length co22)) (fun _ h_ => h_.1))) hb) <| p_ (Kd.R_below tq_146 hb) <| p_ (blk_below (g := gb195) (o := .cells #[.int .i64 a0_0, .int .i64 a0_1, .int .i64 a0_2, .string a0_3, .slice A0_4 l0_4.length c0_4, .slice A0_5 l0_5.length c0_5] 49 (0, 0)) tq_114 hb) <| p_ (blk_below (g := gb196) (o := .cells #[.int .i64 a1_0, .string a1_1] 59 (0, 0)) tq_113 hb) <| p_ (blk_below (g := gb197) (o := .cells #[.int .i64 0, .int .i64 0, .int .i64 0, .string (⟨#[]⟩ : ByteArray), .slice none 0 0, .slice none 0 0] 49 (0, 0)) tq_112 hb) <| p_ (blk_below (g := gb208) (o := .cells #[.int .i64 t198, .int .i64 t199, .int .i64 t200, .string t201, .slice Ao21 t202.length co21, .slice Ao22 t205.length co22] 49 (0, 0)) (by (with_reducible repeat (first | refine blk_drewN ?_ _ | refine blk_drew ?_ | refine blk_alloc ?_ _)); refine blk_put (cs := #[.int .i64 t198, .int .i64 t199, .int .i64 t200, .string t201, .slice Ao21 t202.length co21, .slice none 0 0]) ?_ 5 _ rfl; (with_reducible repeat (first | refine blk_drewN ?_ _ | refine blk_drew ?_ | refine blk_alloc ?_ _)); refine blk_put (cs := #[.int .i64 t198, .int .i64 t199, .int .i64 t200, .string t201, .slice none 0 0, .slice none 0 0]) ?_ 4 _ rfl; (with_reducible repeat (first | refine blk_drewN ?_ _ | refine blk_drew ?_ | refine blk_alloc ?_ _)); refine blk_put (cs := #[.int .i64 t198, .int .i64 t199, .int .i64 t200, .string (⟨#[]⟩ : ByteArray), .slice none 0 0, .slice none 0 0]) ?_ 3 _ rfl; (with_reducible repeat (first | refine blk_drewN ?_ _ | refine blk_drew ?_ | refine blk_alloc ?_ _)); refine blk_put (cs := #[.int .i64 t198, .int .i64 t199, .int .i64 0, .string (⟨#[]⟩ : ByteArray), .slice none 0 0, .slice none 0 0]) ?_ 2 _ rfl; (with_reducible repeat (first | refine blk_drewN ?_ _ | refine blk_drew ?_ | refine blk_alloc ?_ _)); refine blk_put (cs := #[.int .i64 t198, .int .i64 0, .int .i64 0, .string (⟨#[]⟩ : ByteArray), .slice none 0 0, .slice none 0 0]) ?_ 1 _ rfl; (with_reducible repeat (first | refine blk_drewN ?_ _ | refine blk_drew ?_ | refine blk_alloc ?_ _)); refine blk_put (cs := #[.int .i64 0, .int .i64 0, .int .i64 0, .string (⟨#[]⟩ : ByteArray), .slice none 0 0, .slice none 0 0]) ?_ 0 _ rfl; (with_reducible repeat (first | refine blk_drewN ?_ _ | refine blk_drew ?_ | refine blk_alloc ?_ _)); exact BK208.out) hb) <| a_ (below_step tq_51 hb); clear HO204 HO207 BK195 BK196 BK197 BK208 HB; obtain ⟨HO204, HO207, BK195, BK196, BK197, BK208, HB⟩ := z_; (try clear hb); (try clear hb2); (try clear hk); (try clear hi); obtain ⟨hcz24_0, hcz24_1, hcz24_2, hcz24_3, hcz24_4, hcz24_5⟩ := bk6_ BK208.out; obtain ⟨hfz24_0, hfz24_1, hfz24_2, hfz24_3, hfz24_4, hfz24_5⟩ := bf6_ BK208.out; obtain ⟨hcz25_0, hcz25_1⟩ := bk2_ BK196.out; obtain ⟨hfz25_0, hfz25_1⟩ := bf2_ BK196.out) | ((with_reducible refine gate_dst (N := 24) rfl ?_); refine Kd.R_lit k59 _ 59 ?hg (N := 24) ?hd (xs := ([(⟨a1_0, a1_1⟩ : S59)] : List (S59))) (inner := [.int .i64 a1_0, .string a1_1]) (ok := fun _ => True) (okp := fun _ => True) ?hr ?hp (fun _ hk => hk) trivial (Below.refl _ _) (Nat.le_refl _) (by simp) ?_; (case hd => rfl); (case hg => rfl); (case hr => first | (go_simp; done) | (go_simp; rfl)); (case hp => exact tq_212); intro v211 w26 ho27 hb hg_ hnew_; clear hg_ hnew_; (first | rw [← Ny210.out] at ho27 | (simp only [Int.reduceToNat] at ho27; rw [← Ny210.out] at ho27)); have z_ := p_ (Kd.R_below tq_187 hb) <| p_ (Kd.R_elder' tq_159 (Kd.R_base ho27) hb) <| p_ (Kd.R_lower (Kd.R_newB (Kd.R_new' ho27 (Kd.R_lt tq_159)) (g := gb196) (o := .cells #[.int .i64 a1_0, .string a1_1] 59 (0, 0)) tq_31) (below_size tq_51)) <| p_ (blk_below tq_32 hb) <| p_ (blk_below tq_31 hb) <| p_ (blk_below tq_76 hb) <| p_ (blk_below tq_176 hb) <| a_ (below_step tq_51 hb); clear HO204 HO207 BK195 BK196 BK197 BK208 HB; obtain ⟨HO204, HO207, HO212, BK195, BK196, BK197, BK208, HB⟩ := z_; clear hb ho27; obtain ⟨Ao28, co28, eo28⟩ := Kd.R_slice HO212.out; subst eo28) | ((with_reducible refine gate_callee (f := 107) rfl ?_); refine goesL_ (some 25) rfl rfl Try.func107 (by kernel_rfl) rfl #[.slice Ao22 t205.length co22, .int .i64 (t205.length : Int), .slice Ao28 y210.length co28] rfl tq_0 ?_; (with_reducible refine (slices_Insert_Entry.calls (fun k_ => some k_ = (.slice Ao22 t205.length co22 : Value).ownBlock) (.slice Ao22 t205.length co22) t205 (t205.length : Int) (fun k_ => some k_ = (.slice Ao28 y210.length co28 : Value).ownBlock) (.slice Ao28 y210.length co28) y210 t213 w _ ?side1 ?side2 ?side3 ?side4 ?side5 A6.out).mono ?_); (case side1 => exact tq_192); (case side2 => exact Kd.R_tight rfl HO207.out); (case side3 => exact fun k_ e_ => (HO207.out.1 k_ e_.symm).2); (case side4 => exact Kd.R_tight rfl HO212.out); (case side5 => exact fun k_ e_ => (HO212.out.1 k_ e_.symm).1.2); rintro e w29 ⟨v214, rfl, ho0, hb, hkp⟩; refine ⟨_, rfl, ?_⟩; have z_ := p_ (blk_kept tq_32 hkp (fun hs_ => Or.elim hs_ (fun e_ => (fun e_ => (Kd.R_ne HO207.out BK195.out (by decide)) e_) e_) (fun e_ => (fun e_ => (Kd.R_ne HO212.out BK195.out (by decide)) e_) e_))) <| p_ (blk_kept tq_31 hkp (fun hs_ => Or.elim hs_ (fun e_ => (fun e_ => (Kd.R_away HO207.out (fun _ hk => hk.1.2)) e_) e_) (fun e_ => (fun e_ => (Kd.R_away HO212.out (fun _ hk => hk.2)) e_) e_))) <| p_ (blk_kept tq_76 hkp (fun hs_ => Or.elim hs_ (fun e_ => (fun e_ => (Kd.R_ne HO207.out BK197.out (by decide)) e_) e_) (fun e_ => (fun e_ => (Kd.R_ne HO212.out BK197.out (by decide)) e_) e_))) <| p_ (Kd.R_mono (ok' := fun k_ => True) (Kd.R_keptB ((Kd.R_apart' (Kd.R_apart' HO204.out (Kd.R_typed HO207.out) (by decide)) (Kd.R_typed HO212.out) (by decide))) hkp (fun k_ hk_ hs_ => Or.elim hs_ (fun e_ => (hk_.1.2) e_) (fun e_ => (hk_.2) e_))) (fun k_ hk_ => trivial)) <| p_ (blk_kept tq_176 hkp (fun hs_ => Or.elim hs_ (fun e_ => (fun e_ => (Kd.R_ne HO207.out BK208.out (by decide)) e_) e_) (fun e_ => (fun e_ => (Kd.R_ne HO212.out BK208.out (by decide)) e_) e_))) <| p_ (Kd.R_mono (ok' := fun k_ => k_ ≠ gb196) ho0 (fun k_ hk_ => Or.elim hk_ (fun hs_ => Or.elim hs_ (fun hs_ => fun e_ => (Kd.R_away HO207.out (fun _ hk => hk.1.2)) (by rw [← e_]; exact hs_)) (fun hs_ => fun e_ => (Kd.R_away HO212.out (fun _ hk => hk.2)) (by rw [← e_]; exact hs_))) (fun hn_ => (Kd.freshB (g := gb196) (o := .cells #[.int .i64 a1_0, .string a1_1] 59 (0, 0)) tq_31 k_ hn_)))) <| a_ (hb); clear BK195 BK196 BK197 HO204 BK208 HB HO207 HO212; obtain ⟨BK195, BK196, BK197, HO204, BK208, HO215, HB⟩ := z_; (try clear hb); (try clear hkp); (try clear ho0); obtain ⟨Ao30, co30, eo30⟩ := Kd.R_slice HO215.out; subst eo30; obtain ⟨hcz31_0, hcz31_1, hcz31_2, hcz31_3, hcz31_4, hcz31_5⟩ := bk6_ BK208.out; obtain ⟨hfz31_0, hfz31_1, hfz31_2, hfz31_3, hfz31_4, hfz31_5⟩ := bf6_ BK208.out; obtain ⟨hcz32_0, hcz32_1, hcz32_2, hcz32_3, hcz32_4, hcz32_5⟩ := bk6_ BK197.out; obtain ⟨hfz32_0, hfz32_1, hfz32_2, hfz32_3, hfz32_4, hfz32_5⟩ := bf6_ BK197.out))
 refine bodyPost_ret (results_cell_row rfl _ _ gb197 49 #[.int .i64 t198, .int .i64 t199, .int .i64 t200, .string t201, .slice Ao21 t202.length co21, .slice Ao30 t213.length co30] (0, 0) _ rfl (by (with_reducible repeat (first | refine blk_drewN ?_ _ | refine blk_drew ?_ | refine blk_alloc ?_ _)); refine blk_put (cs := #[.int .i64 t198, .int .i64 t199, .int .i64 t200, .string t201, .slice Ao21 t202.length co21, .slice none 0 0]) ?_ 5 _ rfl; (with_reducible repeat (first | refine blk_drewN ?_ _ | refine blk_drew ?_ | refine blk_alloc ?_ _)); refine blk_put (cs := #[.int .i64 t198, .int .i64 t199, .int .i64 t200, .string t201, .slice none 0 0, .slice none 0 0]) ?_ 4 _ rfl; (with_reducible repeat (first | refine blk_drewN ?_ _ | refine blk_drew ?_ | refine blk_alloc ?_ _)); refine blk_put (cs := #[.int .i64 t198, .int .i64 t199, .int .i64 t200, .string (⟨#[]⟩ : ByteArray), .slice none 0 0, .slice none 0 0]) ?_ 3 _ rfl; (with_reducible repeat (first | refine blk_drewN ?_ _ | refine blk_drew ?_ | refine blk_alloc ?_ _)); refine blk_put (cs := #[.int .i64 t198, .int .i64 t199, .int .i64 0, .string (⟨#[]⟩ : ByteArray), .slice none 0 0, .slice none 0 0]) ?_ 2 _ rfl; (with_reducible repeat (first | refine blk_drewN ?_ _ | refine blk_drew ?_ | refine blk_alloc ?_ _)); refine blk_put (cs := #[.int .i64 t198, .int .i64 0, .int .i64 0, .string (⟨#[]⟩ : ByteArray), .slice none 0 0, .slice none 0 0]) ?_ 1 _ rfl; (with_reducible repeat (first | refine blk_drewN ?_ _ | refine blk_drew ?_ | refine blk_alloc ?_ _)); refine blk_put (cs := #[.int .i64 0, .int .i64 0, .int .i64 0, .string (⟨#[]⟩ : ByteArray), .slice none 0 0, .slice none 0 0]) ?_ 0 _ rfl; (with_reducible repeat (first | refine blk_drewN ?_ _ | refine blk_drew ?_ | refine blk_alloc ?_ _)); refine blk_far ?_ NB197_208.out _; (with_reducible repeat (first | refine blk_drewN ?_ _ | refine blk_drew ?_ | refine blk_alloc ?_ _)); exact BK197.out) Try.underlying49 rfl (by kernel_rfl)) rfl ?_
 exact ⟨_, _, tq_11, (by (with_reducible repeat (first | apply Kd.R_alloc | apply Kd.R_drewN | apply Kd.R_drew)); exact Kd.R_mono (Kd.R_far (p := ⟨gb197, 5, none⟩) (Kd.R_far (p := ⟨gb197, 4, none⟩) (Kd.R_far (p := ⟨gb197, 3, none⟩) (Kd.R_far (p := ⟨gb197, 2, none⟩) (Kd.R_far (p := ⟨gb197, 1, none⟩) (Kd.R_far (p := ⟨gb197, 0, none⟩) (Kd.R_far (p := ⟨gb208, 5, none⟩) (Kd.R_types (Kd.R_types HO204.out BK208.out (by decide)) BK197.out (by decide)) (fun _ hk => hk.1.2) (.slice Ao30 t213.length co30)) (fun _ hk => hk.2) (.int .i64 t198)) (fun _ hk => hk.2) (.int .i64 t199)) (fun _ hk => hk.2) (.int .i64 t200)) (fun _ hk => hk.2) (.string t201)) (fun _ hk => hk.2) (.slice Ao21 t202.length co21)) (fun _ hk => hk.2) (.slice Ao30 t213.length co30)) (fun _ hk => trivial)), (by (with_reducible repeat (first | apply Kd.R_alloc | apply Kd.R_drewN | apply Kd.R_drew)); exact Kd.R_mono (Kd.R_far (p := ⟨gb197, 5, none⟩) (Kd.R_far (p := ⟨gb197, 4, none⟩) (Kd.R_far (p := ⟨gb197, 3, none⟩) (Kd.R_far (p := ⟨gb197, 2, none⟩) (Kd.R_far (p := ⟨gb197, 1, none⟩) (Kd.R_far (p := ⟨gb197, 0, none⟩) (Kd.R_far (p := ⟨gb208, 5, none⟩) (Kd.R_types (Kd.R_types HO215.out BK208.out (by decide)) BK197.out (by decide)) (fun _ hk => hk.1.2) (.slice Ao30 t213.length co30)) (fun _ hk => hk.2) (.int .i64 t198)) (fun _ hk => hk.2) (.int .i64 t199)) (fun _ hk => hk.2) (.int .i64 t200)) (fun _ hk => hk.2) (.string t201)) (fun _ hk => hk.2) (.slice Ao21 t202.length co21)) (fun _ hk => hk.2) (.slice Ao30 t213.length co30)) (fun _ hk => trivial)), tq_51⟩

/-! ### laws_big: function 37 -/
def laws_big.f (l0 : List Int) : Option (Bool) := some (decide ((l0.length : Int) > 1048576))
set_option maxHeartbeats 8000000 in
set_option maxRecDepth 100000 in
theorem laws_big.calls (A0 : Option Addr) (c0 : Nat) (l0 : List Int) (r : Bool) (w : World) (hr0 : Kd.C (Kd.int .u8) w A0 l0.length l0) (hc0 : l0.length ≤ c0) (h : laws_big.f l0 = some r) :
  Calls Try.prog 37 #[.slice A0 l0.length c0] w fun e w' => e = .returned (.bool r) ∧ Drawn0 w w' := by
 have HR0 := Aside0.mk hr0
 have HC0 := Aside0.mk hc0
 clear hr0 hc0
 have H : (some (decide ((l0.length : Int) > 1048576))) = some r := h
 clear h
 obtain rfl := Option.some.inj H
 go_enter Try.func37, Try.ntmps37
 go_wp2
 go_ret
 exact ⟨tq_36, tq_129⟩

/-- A state of type 189 at block g of W; what its slices lead to came in by w0. -/
def IsS189 (w0 W : World) (g : Nat) (f0 : List Int) (f1 : Int) (f2 : Int) : Prop := ∃ A0 c0, W.heap[g]? = some (.cells #[.slice A0 f0.length c0, .int .i64 f1, .int .i64 f2] 189 (0, 0)) ∧ w0.heap.size ≤ g ∧ Kd.C (Kd.int .u8) w0 A0 f0.length f0
theorem IsS189.grown {w0 W : World} {g : Nat} {f0 : List Int} {f1 : Int} {f2 : Int} {W1 : World} {row : Option Nat} (h : IsS189 w0 W g f0 f1 f2) (hw : W.grownBy W1 row) (hne : some g ≠ row) : IsS189 w0 W1 g f0 f1 f2 := by
 obtain ⟨A0, c0, hb, hg, hr0⟩ := h
 exact ⟨A0, c0, blk_grown hb hw hne, hg, hr0⟩
theorem IsS189.own_neN {w0 W : World} {g : Nat} {f0 : List Int} {f1 : Int} {f2 : Int} {α : Type} {d : Kd α} {e : Nat} {base : Nat} {ok : Nat → Prop} {v : Value} {xs : List α} (h : IsS189 w0 W g f0 f1 f2) (ho : Kd.N d e W base ok v xs) (ht : e ≠ 189) : some g ≠ v.ownBlock := by
 obtain ⟨A0, c0, hb, hg, hr0⟩ := h
 exact Kd.N_ne ho hb ht
theorem IsS189.fresh {w0 W : World} {g : Nat} {f0 : List Int} {f1 : Int} {f2 : Int} (h : IsS189 w0 W g f0 f1 f2) : ∀ k, W.heap.size ≤ k → k ≠ g := by
 obtain ⟨A0, c0, hb, hg, hr0⟩ := h
 exact Kd.freshB hb
theorem IsS189.kept {w0 W : World} {g : Nat} {f0 : List Int} {f1 : Int} {f2 : Int} {W1 : World} {S : Nat → Prop} (h : IsS189 w0 W g f0 f1 f2) (hk : Kept W W1 S) (hne : ¬ S g) : IsS189 w0 W1 g f0 f1 f2 := by
 obtain ⟨A0, c0, hb, hg, hr0⟩ := h
 exact ⟨A0, c0, blk_kept hb hk hne, hg, hr0⟩
theorem IsS189.below {w0 W : World} {g : Nat} {f0 : List Int} {f1 : Int} {f2 : Int} {W1 : World} (h : IsS189 w0 W g f0 f1 f2) (hw : Below W.heap.size W W1) : IsS189 w0 W1 g f0 f1 f2 := h.grown (grown_of_below hw none) (by simp)
theorem IsS189.alloc {w0 W : World} {g : Nat} {f0 : List Int} {f1 : Int} {f2 : Int} (h : IsS189 w0 W g f0 f1 f2) (o : Obj) : IsS189 w0 (W.alloc o) g f0 f1 f2 := h.below (below_alloc (Below.refl _ _) o)
theorem IsS189.drewN {w0 W : World} {g : Nat} {f0 : List Int} {f1 : Int} {f2 : Int} (h : IsS189 w0 W g f0 f1 f2) (m : Nat) : IsS189 w0 (W.drewN m) g f0 f1 f2 := h
theorem IsS189.drew {w0 W : World} {g : Nat} {f0 : List Int} {f1 : Int} {f2 : Int} (h : IsS189 w0 W g f0 f1 f2) : IsS189 w0 W.drew g f0 f1 f2 := h
theorem IsS189.at_ {w0 W : World} {g : Nat} {f0 : List Int} {f1 : Int} {f2 : Int} {w' : World} {m : Nat} (hq : W.drewN m = w') (h : IsS189 w0 W g f0 f1 f2) : IsS189 w0 w' g f0 f1 f2 := by subst hq; exact IsS189.drewN h m
theorem IsS189.apart {w0 W : World} {g : Nat} {f0 : List Int} {f1 : Int} {f2 : Int} {α : Type} {d : Kd α} {e : Nat} {base : Nat} {ok : Nat → Prop} {v : Value} {xs : List α} (h : IsS189 w0 W g f0 f1 f2) (ho : d.R e W base ok v xs) (ht : ∀ q, q ∈ e :: d.E → q ≠ 189) : d.R e W base (fun k => ok k ∧ k ≠ g) v xs := by
 obtain ⟨A0, c0, hb, hg, hr0⟩ := h
 exact Kd.R_types ho hb ht
theorem IsS189.own_ne {w0 W : World} {g : Nat} {f0 : List Int} {f1 : Int} {f2 : Int} {α : Type} {d : Kd α} {e : Nat} {base : Nat} {ok : Nat → Prop} {v : Value} {xs : List α} (h : IsS189 w0 W g f0 f1 f2) (ho : d.R e W base ok v xs) (ht : e ≠ 189) : some g ≠ v.ownBlock := by
 obtain ⟨A0, c0, hb, hg, hr0⟩ := h
 exact Kd.R_ne ho hb ht
theorem IsS189.apartQ {w0 W : World} {g : Nat} {f0 : List Int} {f1 : Int} {f2 : Int} {α : Type} {d : Kd α} {e : Nat} {base : Nat} {ok : Nat → Prop} {v : Value} {xs : List α} (h : IsS189 w0 W g f0 f1 f2) (ho : d.Q e W base ok v xs) (ht : ∀ q, q ∈ e :: d.E → q ≠ 189) : d.Q e W base (fun k => ok k ∧ k ≠ g) v xs := by
 obtain ⟨A0, c0, hb, hg, hr0⟩ := h
 exact Kd.Q_types ho hb ht
theorem IsS189.own_neQ {w0 W : World} {g : Nat} {f0 : List Int} {f1 : Int} {f2 : Int} {α : Type} {d : Kd α} {e : Nat} {base : Nat} {ok : Nat → Prop} {v : Value} {xs : List α} (h : IsS189 w0 W g f0 f1 f2) (ho : d.Q e W base ok v xs) (ht : e ≠ 189) : some g ≠ v.ownBlock := by
 obtain ⟨A0, c0, hb, hg, hr0⟩ := h
 exact Kd.Q_ne ho hb ht
theorem IsS189.apartS {w0 W : World} {g : Nat} {f0 : List Int} {f1 : Int} {f2 : Int} {α : Type} {d : Kd α} {e : Nat} {base : Nat} {ok : Nat → Prop} {v : Value} {xs : List α} (h : IsS189 w0 W g f0 f1 f2) (ho : d.S e W base ok v xs) (ht : ∀ q, q ∈ e :: d.E → q ≠ 189) : d.S e W base (fun k => ok k ∧ k ≠ g) v xs := by
 obtain ⟨A0, c0, hb, hg, hr0⟩ := h
 exact Kd.S_types ho hb ht
theorem IsS189.own_neS {w0 W : World} {g : Nat} {f0 : List Int} {f1 : Int} {f2 : Int} {α : Type} {d : Kd α} {e : Nat} {base : Nat} {ok : Nat → Prop} {v : Value} {xs : List α} (h : IsS189 w0 W g f0 f1 f2) (ho : d.S e W base ok v xs) (ht : e ≠ 189) : some g ≠ v.ownBlock := by
 obtain ⟨A0, c0, hb, hg, hr0⟩ := h
 exact Kd.S_ne ho hb ht
theorem IsS189.lt {w0 W : World} {g : Nat} {f0 : List Int} {f1 : Int} {f2 : Int} (h : IsS189 w0 W g f0 f1 f2) : g < W.heap.size := by
 obtain ⟨A0, c0, hb, hg, hr0⟩ := h
 exact blk_lt hb
theorem IsS189.ge {w0 W : World} {g : Nat} {f0 : List Int} {f1 : Int} {f2 : Int} (h : IsS189 w0 W g f0 f1 f2) : w0.heap.size ≤ g := by
 obtain ⟨A0, c0, hb, hg, hr0⟩ := h
 exact hg
theorem IsS189.ne_blk {w0 W : World} {g : Nat} {f0 : List Int} {f1 : Int} {f2 : Int} {a : Nat} {cs : Array Value} {t : TypeId} {fr : Nat × Nat} (h : IsS189 w0 W g f0 f1 f2) (hb2 : W.heap[a]? = some (.cells cs t fr)) (ht : t ≠ 189) : g ≠ a := by
 obtain ⟨A0, c0, hb, hg, hr0⟩ := h
 rintro rfl
 rw [hb] at hb2
 injection hb2 with hb2
 injection hb2 with _ ht2
 exact ht ht2.symm
theorem IsS189.far {w0 W : World} {g : Nat} {f0 : List Int} {f1 : Int} {f2 : Int} {p : Addr} (h : IsS189 w0 W g f0 f1 f2) (hne : g ≠ p.block) (u : Value) : IsS189 w0 (W.setCell p u) g f0 f1 f2 := by
 obtain ⟨A0, c0, hb, hg, hr0⟩ := h
 exact ⟨A0, c0, blk_far hb hne u, hg, hr0⟩
theorem cellS189_0 {W : World} {g : Nat} {A0 : Option Addr} {c0 : Nat} {f0 : List Int} {f1 : Int} {f2 : Int} (h : W.heap[g]? = some (.cells #[.slice A0 f0.length c0, .int .i64 f1, .int .i64 f2] 189 (0, 0))) : W.cell? ⟨g, 0, none⟩ = some (.slice A0 f0.length c0) := (blk_cell h 0).trans rfl
theorem cellS189_1 {W : World} {g : Nat} {A0 : Option Addr} {c0 : Nat} {f0 : List Int} {f1 : Int} {f2 : Int} (h : W.heap[g]? = some (.cells #[.slice A0 f0.length c0, .int .i64 f1, .int .i64 f2] 189 (0, 0))) : W.cell? ⟨g, 1, none⟩ = some (.int .i64 f1) := (blk_cell h 1).trans rfl
theorem IsS189.set_1 {w0 W : World} {g : Nat} {f0 : List Int} {f1 : Int} {f2 : Int} (h : IsS189 w0 W g f0 f1 f2) (x : Int) : IsS189 w0 (W.setCell ⟨g, 1, none⟩ (.int .i64 x)) g f0 x f2 := by
 obtain ⟨A0, c0, hb, hg, hr0⟩ := h
 exact ⟨A0, c0, (by simpa using blk_set hb 1 (.int .i64 x)), hg, hr0⟩
theorem cellS189_2 {W : World} {g : Nat} {A0 : Option Addr} {c0 : Nat} {f0 : List Int} {f1 : Int} {f2 : Int} (h : W.heap[g]? = some (.cells #[.slice A0 f0.length c0, .int .i64 f1, .int .i64 f2] 189 (0, 0))) : W.cell? ⟨g, 2, none⟩ = some (.int .i64 f2) := (blk_cell h 2).trans rfl
theorem IsS189.set_2 {w0 W : World} {g : Nat} {f0 : List Int} {f1 : Int} {f2 : Int} (h : IsS189 w0 W g f0 f1 f2) (x : Int) : IsS189 w0 (W.setCell ⟨g, 2, none⟩ (.int .i64 x)) g f0 f1 x := by
 obtain ⟨A0, c0, hb, hg, hr0⟩ := h
 exact ⟨A0, c0, (by simpa using blk_set hb 2 (.int .i64 x)), hg, hr0⟩
theorem IsS189.new (w0 W : World) (A0 : Option Addr) (c0 : Nat) (f0 : List Int) (f1 : Int) (f2 : Int) (hB : Below w0.heap.size w0 W) (hr0 : Kd.C (Kd.int .u8) w0 A0 f0.length f0) : IsS189 w0 (W.alloc (.cells #[.slice A0 f0.length c0, .int .i64 f1, .int .i64 f2] 189)) W.heap.size f0 f1 f2 := ⟨A0, c0, (by simpa using heap_alloc_new W _), hB.size, hr0⟩

/-! ### spec_l01New: function 108 -/
def spec_l01New.l0 : Nat → List Int → Int → Int → Option (List Int × Int × Int)
 | 0, _, _, _ => none
 | k + 1, x0, x3, x4 => if x4 < (x0.length : Int) then (if x4 < 4000 then (if 0 ≤ x4 then (spec_l01New.l0 k x0 (Go.bits .and .i64 (wrap64 ((wrap64 ((wrap64 (x3 * 131)) + (wrap64 (rd x0 x4)))) + 7)) 1073741823) (wrap64 (x4 + 1))) else (none)) else (some (x0, 0, x3))) else (some (x0, 0, x3))
def spec_l01New.f (k : Nat) (l0 : List Int) : Option (List Int × Int × Int) := spec_l01New.l0 k l0 (wrap64 (94701 + (l0.length : Int))) 0
theorem spec_l01New.mono_l : ∀ k, (∀ y0 y1 y2, LeO (spec_l01New.l0 k y0 y1 y2) (spec_l01New.l0 (k + 1) y0 y1 y2))
 | 0 => fun _ _ _ r h => by simp [spec_l01New.l0] at h
 | k + 1 => by
  have ih0 := spec_l01New.mono_l k
  ·intro y0 y1 y2
   unfold spec_l01New.l0
   exact mo_0
theorem spec_l01New.mono : ∀ a0 k, LeO (spec_l01New.f k a0) (spec_l01New.f (k + 1) a0) := by
 intro a0 k
 have ih0 := spec_l01New.mono_l k
 unfold spec_l01New.f
 repeat' first
   | (with_reducible exact ih0 ..)
   | (with_reducible exact LeO.refl _)
   | (with_reducible exact LeO.none _)
   | (with_reducible refine LeO.ite ?_ ?_)
   | (with_reducible refine LeO.bind ?_ (fun _ => ?_))
   | exact ih0 ..
   | exact LeO.none _
   | refine LeO.ite ?_ ?_
   | refine LeO.bind ?_ (fun _ => ?_)
set_option maxHeartbeats 8000000 in
set_option maxRecDepth 100000 in
theorem spec_l01New.calls (k : Nat) (A0 : Option Addr) (c0 : Nat) (l0 : List Int) (r1 : List Int) (r2 : Int) (r3 : Int) (w0 w : World) (hB : Below w0.heap.size w0 w) (hr0 : Kd.C (Kd.int .u8) w0 A0 l0.length l0) (hc0 : l0.length ≤ c0) (h : spec_l01New.f k l0 = some (r1, r2, r3)) :
  Calls Try.prog 108 #[.slice A0 l0.length c0] w fun e w' => ∃ g_ : Nat, e = .returned (.pointer (some ⟨g_, 0, none⟩)) ∧ IsS189 w0 w' g_ r1 r2 r3 ∧ Below w0.heap.size w0 w' ∧ Below w.heap.size w w' := by
 have hu189 := Try.underlying189
 have HR0 := Aside0.mk hr0
 have HC0 := Aside0.mk hc0
 clear hr0 hc0
 have HBW := Aside0.mk (Below.refl w.heap.size w)
 have HW0 := Aside0.mk hB.size
 have HB := Aside0.mk hB
 clear hB
 have H : (spec_l01New.l0 k l0 (wrap64 (94701 + (l0.length : Int))) 0) = some (r1, r2, r3) := h
 clear h
 have H' := Aside0.mk H
 clear H
 go_enter Try.func108, Try.ntmps108
 go_wp2
 go_loopg [3, 4] k (fun kq v3 v4 w' => ∃ (x3_1 : Int) (x4_1 : Int), v3 = .int .i64 x3_1 ∧ v4 = .int .i64 x4_1 ∧ Aside0 (spec_l01New.l0 kq l0 x3_1 x4_1 = some (r1, r2, r3)) ∧ Aside0 (kq ≤ k) ∧ Aside0 (Below w0.heap.size w0 w') ∧ Aside0 (Below w.heap.size w w'))
 case atStart => exact ⟨(wrap64 (94701 + (l0.length : Int))), (0), tq_36, tq_36, H', ⟨Nat.le_refl _⟩, ⟨tq_3⟩, ⟨tq_134⟩⟩
 case round =>
  clear H'
  try clear c1
  obtain ⟨x3_1, x4_1, rfl, rfl, HA, HK1, HB, HBW⟩ := hrel
  cases gk with
  | zero => exact absurd HA.out (by simp [spec_l01New.l0])
  | succ k1 =>
   have H := HA.out
   clear HA
   simp only [spec_l01New.l0] at H
   by_cases c2 : x4_1 < (l0.length : Int)
   rotate_left
   ·rw [if_neg c2] at H
    have c2b0 := decide_eq_false c2
    clear c2
    simp only [Option.some.injEq, Prod.mk.injEq] at H
    obtain ⟨rfl, rfl, rfl⟩ := H
    go_wp2_with (first | ((with_reducible refine gate_dst (N := 31) rfl ?_); refine box_event ?hg (N := 31) ?hd (cs := #[.slice A0 l0.length c0, .int .i64 0, .int .i64 x3_1]) (t := 189) ?hr ?_; (case hd => rfl); (case hg => rfl); (case hr => first | (go_simp; done) | (go_simp; rfl)); intro gb224 hg w6 hbox hb; have z_ := p_ (below_step HBW.out hb) <| p_ (below_step tq_3 hb) <| p_ (hbox) <| p_ (gb_ hg tq_134) <| a_ ((Nat.le_trans HW0.out (gb_ hg tq_134) : w0.heap.size ≤ gb224)); clear HBW HB; obtain ⟨HBW, HB, BK224, GW224, GE224⟩ := z_; clear hb hbox hg))
    go_ret
    exact ⟨_, rfl, (show IsS189 w0 _ gb224 l0 0 x3_1 from ⟨_, _, (by (with_reducible repeat (first | refine blk_drewN ?_ _ | refine blk_drew ?_ | refine blk_alloc ?_ _)); exact BK224.out), GE224.out, HR0.out⟩), (by repeat (first | (with_reducible first | exact HB.out | apply below_alloc | apply pw_below_drewN | apply below_drew1 | refine below_set ?_ GE224.out) | exact HB.out)), (by repeat (first | (with_reducible first | exact HBW.out | apply below_alloc | apply pw_below_drewN | apply below_drew1 | refine below_set ?_ GW224.out) | exact HBW.out))⟩
   rw [if_pos c2] at H
   have c2b0 := decide_eq_true c2
   clear c2
   by_cases c3 : x4_1 < 4000
   ·rw [if_pos c3] at H
    have c3b0 := decide_eq_true c3
    clear c3
    by_cases c4 : 0 ≤ x4_1
    rotate_left
    ·rw [if_neg c4] at H
     exact absurd H (by simp)
    rw [if_pos c4] at H
    have c4b0 := decide_eq_true c4
    clear c4
    have H' := Aside0.mk H
    clear H
    have p222 : 0 ≤ (x4_1 : Int) := of_decide_eq_true tq_20
    have q222 : x4_1 < (l0.length : Int) := of_decide_eq_true tq_20
    obtain ⟨ad222, e222, hx222_0⟩ := Kd.at_int HR0.out x4_1 p222 q222
    cases e222
    replace hx222_0 := pw_cell_below HB.out hx222_0
    replace p222 := eq_true p222
    replace q222 := eq_true q222
    go_wp2
    go_roundg k1
    case measure => have := HK1.out; omega
    case rel => exact ⟨(Go.bits .and .i64 (wrap64 ((wrap64 ((wrap64 (x3_1 * 131)) + (wrap64 (rd l0 x4_1)))) + 7)) 1073741823), (wrap64 (x4_1 + 1)), tq_36, tq_36, H', ⟨tq_198⟩, ⟨tq_3⟩, ⟨tq_134⟩⟩
   rw [if_neg c3] at H
   have c3b0 := decide_eq_false c3
   clear c3
   simp only [Option.some.injEq, Prod.mk.injEq] at H
   obtain ⟨rfl, rfl, rfl⟩ := H
   go_wp2_with (first | ((with_reducible refine gate_dst (N := 31) rfl ?_); refine box_event ?hg (N := 31) ?hd (cs := #[.slice A0 l0.length c0, .int .i64 0, .int .i64 x3_1]) (t := 189) ?hr ?_; (case hd => rfl); (case hg => rfl); (case hr => first | (go_simp; done) | (go_simp; rfl)); intro gb223 hg w5 hbox hb; have z_ := p_ (below_step HBW.out hb) <| p_ (below_step tq_3 hb) <| p_ (hbox) <| p_ (gb_ hg tq_134) <| a_ ((Nat.le_trans HW0.out (gb_ hg tq_134) : w0.heap.size ≤ gb223)); clear HBW HB; obtain ⟨HBW, HB, BK223, GW223, GE223⟩ := z_; clear hb hbox hg))
   go_ret
   exact ⟨_, rfl, (show IsS189 w0 _ gb223 l0 0 x3_1 from ⟨_, _, (by (with_reducible repeat (first | refine blk_drewN ?_ _ | refine blk_drew ?_ | refine blk_alloc ?_ _)); exact BK223.out), GE223.out, HR0.out⟩), (by repeat (first | (with_reducible first | exact HB.out | apply below_alloc | apply pw_below_drewN | apply below_drew1 | refine below_set ?_ GE223.out) | exact HB.out)), (by repeat (first | (with_reducible first | exact HBW.out | apply below_alloc | apply pw_below_drewN | apply below_drew1 | refine below_set ?_ GW223.out) | exact HBW.out))⟩

/-! ### spec_l01Byte: function 186 -/
def spec_l01Byte.f (s0_0 : List Int) (s0_1 : Int) (s0_2 : Int) : Option (Int × Int × Int) := if s0_1 < (s0_0.length : Int) then (if 0 ≤ s0_1 then (some (Go.bits .and .i64 (wrap64 ((Go.bits .and .i64 (Go.bits .xor .i64 ((wrap64 ((wrap64 (s0_2 * 6364136223846793005)) + 1442695040888963407)) / 8589934592) ((wrap64 ((wrap64 (s0_2 * 6364136223846793005)) + 1442695040888963407)) / 35184372088832)) 255) + (wrap64 (rd s0_0 s0_1)))) 255, wrap64 (s0_1 + 1), wrap64 ((wrap64 (s0_2 * 6364136223846793005)) + 1442695040888963407))) else (none)) else (some (Go.bits .and .i64 (Go.bits .xor .i64 ((wrap64 ((wrap64 (s0_2 * 6364136223846793005)) + 1442695040888963407)) / 8589934592) ((wrap64 ((wrap64 (s0_2 * 6364136223846793005)) + 1442695040888963407)) / 35184372088832)) 255, s0_1, wrap64 ((wrap64 (s0_2 * 6364136223846793005)) + 1442695040888963407)))
set_option maxHeartbeats 8000000 in
set_option maxRecDepth 100000 in
theorem spec_l01Byte.calls (g : Nat) (s0_0 : List Int) (s0_1 : Int) (s0_2 : Int) (r1 : Int) (r2 : Int) (r3 : Int) (w0 w : World) (hI : IsS189 w0 w g s0_0 s0_1 s0_2) (hB : Below w0.heap.size w0 w) (h : spec_l01Byte.f s0_0 s0_1 s0_2 = some (r1, r2, r3)) :
  Calls Try.prog 186 #[.pointer (some ⟨g, 0, none⟩)] w fun e w' => e = .returned (.int .i64 r1) ∧ IsS189 w0 w' g s0_0 r2 r3 ∧ Below w0.heap.size w0 w' ∧ KeepBut w w' g none := by
 have HI0 := Aside0.mk hI
 have HK := Aside0.mk (KeepBut.refl w g none)
 have HL := Aside0.mk hB.size
 clear hI
 have HW0 := Aside0.mk hB.size
 have HB := Aside0.mk hB
 clear hB
 have H : (if s0_1 < (s0_0.length : Int) then (if 0 ≤ s0_1 then (some (Go.bits .and .i64 (wrap64 ((Go.bits .and .i64 (Go.bits .xor .i64 ((wrap64 ((wrap64 (s0_2 * 6364136223846793005)) + 1442695040888963407)) / 8589934592) ((wrap64 ((wrap64 (s0_2 * 6364136223846793005)) + 1442695040888963407)) / 35184372088832)) 255) + (wrap64 (rd s0_0 s0_1)))) 255, wrap64 (s0_1 + 1), wrap64 ((wrap64 (s0_2 * 6364136223846793005)) + 1442695040888963407))) else (none)) else (some (Go.bits .and .i64 (Go.bits .xor .i64 ((wrap64 ((wrap64 (s0_2 * 6364136223846793005)) + 1442695040888963407)) / 8589934592) ((wrap64 ((wrap64 (s0_2 * 6364136223846793005)) + 1442695040888963407)) / 35184372088832)) 255, s0_1, wrap64 ((wrap64 (s0_2 * 6364136223846793005)) + 1442695040888963407)))) = some (r1, r2, r3) := h
 clear h
 by_cases c2 : s0_1 < (s0_0.length : Int)
 rotate_left
 ·rw [if_neg c2] at H
  have c2b0 := decide_eq_false c2
  clear c2
  simp only [Option.some.injEq, Prod.mk.injEq] at H
  obtain ⟨rfl, rfl, rfl⟩ := H
  obtain ⟨ASz5_0, cSz5_0, HGz5, hgz5, HSz5_0⟩ := HI0.out
  have hcz5_0 := cellS189_0 HGz5
  have hcz5_1 := cellS189_1 HGz5
  have hcz5_2 := cellS189_2 HGz5
  have hfz5_1 := blk_frozen HGz5 1
  have hfz5_2 := blk_frozen HGz5 2
  clear HGz5 hgz5
  go_enter Try.func186, Try.ntmps186
  go_wp2
  repeat (go_quiet (fail); try go_wp2)
  go_ret
  exact ⟨tq_11, tq_6, tq_7, tq_1⟩
 rw [if_pos c2] at H
 have c2b0 := decide_eq_true c2
 clear c2
 by_cases c3 : 0 ≤ s0_1
 rotate_left
 ·rw [if_neg c3] at H
  exact absurd H (by simp)
 rw [if_pos c3] at H
 have c3b0 := decide_eq_true c3
 clear c3
 simp only [Option.some.injEq, Prod.mk.injEq] at H
 obtain ⟨rfl, rfl, rfl⟩ := H
 obtain ⟨ASz4_0, cSz4_0, HGz4, hgz4, HSz4_0⟩ := HI0.out
 have hcz4_0 := cellS189_0 HGz4
 have hcz4_1 := cellS189_1 HGz4
 have hcz4_2 := cellS189_2 HGz4
 have hfz4_1 := blk_frozen HGz4 1
 have hfz4_2 := blk_frozen HGz4 2
 clear HGz4 hgz4
 have p225 : 0 ≤ (s0_1 : Int) := of_decide_eq_true tq_20
 have q225 : s0_1 < (s0_0.length : Int) := of_decide_eq_true tq_20
 obtain ⟨ad225, e225, hx225_0⟩ := Kd.at_int HSz4_0 s0_1 p225 q225
 cases e225
 have hn225_0 : ad225.block ≠ g := Nat.ne_of_lt (Nat.lt_of_lt_of_le (by have := World.block_lt_of_cell? _ _ hx225_0; first | rwa [add_block] at this | exact this) (IsS189.ge HI0.out))
 replace hx225_0 := pw_cell_below HB.out hx225_0
 replace hx225_0 := (cell_far (p := ⟨g, 2, none⟩) (by first | (rw [add_block]; exact hn225_0) | (show (Addr.add _ _).block ≠ _; rw [add_block]; exact hn225_0) | exact hn225_0) (.int .i64 (wrap64 ((wrap64 (s0_2 * 6364136223846793005)) + 1442695040888963407)))).trans hx225_0
 (try have hy225_0 := fun (n_ : Nat) => (show (((w.drewN n_).setCell ⟨g, 2, none⟩ (.int .i64 (wrap64 ((wrap64 (s0_2 * 6364136223846793005)) + 1442695040888963407))))).cell? _ = some _ from hx225_0))
 clear hn225_0
 replace p225 := eq_true p225
 replace q225 := eq_true q225
 go_enter Try.func186, Try.ntmps186
 go_wp2
 repeat (go_quiet (fail); try go_wp2)
 go_ret
 exact ⟨tq_11, tq_6, tq_7, tq_1⟩

/-! ### spec_l01Below: function 119 -/
def spec_l01Below.f (s0_0 : List Int) (s0_1 : Int) (s0_2 : Int) (a1 : Int) : Option (Int × Int × Int) := if a1 ≤ 0 then (some (0, s0_1, s0_2)) else (if a1 ≤ 256 then ((spec_l01Byte.f s0_0 s0_1 s0_2).bind fun bt226 => (if a1 = 0 then (none) else (some (Int.tmod bt226.1 a1, bt226.2.1, bt226.2.2)))) else ((spec_l01Byte.f s0_0 s0_1 s0_2).bind fun bt229 => ((spec_l01Byte.f s0_0 bt229.2.1 bt229.2.2).bind fun bt232 => ((spec_l01Byte.f s0_0 bt232.2.1 bt232.2.2).bind fun bt235 => ((spec_l01Byte.f s0_0 bt235.2.1 bt235.2.2).bind fun bt238 => (if a1 = 0 then (none) else (some (Int.tmod (wrap64 ((wrap64 ((wrap64 ((wrap64 (bt229.1 * 16777216)) + (wrap64 (bt232.1 * 65536)))) + (wrap64 (bt235.1 * 256)))) + bt238.1)) a1, bt238.2.1, bt238.2.2))))))))
set_option maxHeartbeats 8000000 in
set_option maxRecDepth 100000 in
theorem spec_l01Below.calls (g : Nat) (s0_0 : List Int) (s0_1 : Int) (s0_2 : Int) (a1 : Int) (r1 : Int) (r2 : Int) (r3 : Int) (w0 w : World) (hI : IsS189 w0 w g s0_0 s0_1 s0_2) (hB : Below w0.heap.size w0 w) (h : spec_l01Below.f s0_0 s0_1 s0_2 a1 = some (r1, r2, r3)) :
  Calls Try.prog 119 #[.pointer (some ⟨g, 0, none⟩), .int .i64 a1] w fun e w' => e = .returned (.int .i64 r1) ∧ IsS189 w0 w' g s0_0 r2 r3 ∧ Below w0.heap.size w0 w' ∧ KeepBut w w' g none := by
 have HI0 := Aside0.mk hI
 have HK := Aside0.mk (KeepBut.refl w g none)
 have HL := Aside0.mk hB.size
 clear hI
 have HW0 := Aside0.mk hB.size
 have HB := Aside0.mk hB
 clear hB
 have H : (if a1 ≤ 0 then (some (0, s0_1, s0_2)) else (if a1 ≤ 256 then ((spec_l01Byte.f s0_0 s0_1 s0_2).bind fun bt226 => (if a1 = 0 then (none) else (some (Int.tmod bt226.1 a1, bt226.2.1, bt226.2.2)))) else ((spec_l01Byte.f s0_0 s0_1 s0_2).bind fun bt229 => ((spec_l01Byte.f s0_0 bt229.2.1 bt229.2.2).bind fun bt232 => ((spec_l01Byte.f s0_0 bt232.2.1 bt232.2.2).bind fun bt235 => ((spec_l01Byte.f s0_0 bt235.2.1 bt235.2.2).bind fun bt238 => (if a1 = 0 then (none) else (some (Int.tmod (wrap64 ((wrap64 ((wrap64 ((wrap64 (bt229.1 * 16777216)) + (wrap64 (bt232.1 * 65536)))) + (wrap64 (bt235.1 * 256)))) + bt238.1)) a1, bt238.2.1, bt238.2.2))))))))) = some (r1, r2, r3) := h
 clear h
 by_cases c3 : a1 ≤ 0
 ·rw [if_pos c3] at H
  have c3b0 := decide_eq_true c3
  clear c3
  simp only [Option.some.injEq, Prod.mk.injEq] at H
  obtain ⟨rfl, rfl, rfl⟩ := H
  go_enter Try.func119, Try.ntmps119
  go_wp2
  go_ret
  exact ⟨tq_11, tq_6, tq_7, tq_1⟩
 rw [if_neg c3] at H
 have c3b0 := decide_eq_false c3
 clear c3
 by_cases c4 : a1 ≤ 256
 ·rw [if_pos c4] at H
  have c4b0 := decide_eq_true c4
  clear c4
  replace H := Option.bind_eq_some_iff.mp H
  obtain ⟨⟨t226, t227, t228⟩, A50, H⟩ := H
  replace H : (if a1 = 0 then (none) else (some (Int.tmod t226 a1, t227, t228))) = some (r1, r2, r3) := H
  have A5 := Aside0.mk A50
  clear A50
  by_cases c6 : a1 = 0
  ·rw [if_pos c6] at H
   exact absurd H (by simp)
  rw [if_neg c6] at H
  have c6b0 : (a1 == 0) = false := beq_eq_false_iff_ne.mpr c6
  have c6b1 : (a1 != 0) = true := bne_iff_ne.mpr c6
  simp only [Option.some.injEq, Prod.mk.injEq] at H
  obtain ⟨rfl, rfl, rfl⟩ := H
  go_enter Try.func119, Try.ntmps119
  go_wp2_with (first | ((with_reducible refine gate_callee (f := 186) rfl ?_); refine goesL_ (some 14) rfl rfl Try.func186 (by kernel_rfl) rfl #[.pointer (some ⟨g, 0, none⟩)] rfl tq_0 ?_; (with_reducible refine (spec_l01Byte.calls g s0_0 s0_1 s0_2 t226 t227 t228 w0 _ ?side1 ?side2 A5.out).mono ?_); (case side1 => exact tq_42); (case side2 => exact tq_44); rintro e w7 ⟨rfl, hi, hb, hk⟩; refine ⟨_, rfl, ?_⟩; have z_ := p_ (KeepBut.trans tq_1 hk (.inl rfl)) <| p_ (hb) <| a_ (hi); clear HK HB HI0; obtain ⟨HK, HB, HI0⟩ := z_; (try clear hb); (try clear hb2); (try clear hk); (try clear hi)))
  go_ret
  exact ⟨tq_11, tq_6, tq_7, tq_1⟩
 rw [if_neg c4] at H
 have c4b0 := decide_eq_false c4
 clear c4
 replace H := Option.bind_eq_some_iff.mp H
 obtain ⟨⟨t229, t230, t231⟩, A80, H⟩ := H
 replace H : ((spec_l01Byte.f s0_0 t230 t231).bind fun bt232 => ((spec_l01Byte.f s0_0 bt232.2.1 bt232.2.2).bind fun bt235 => ((spec_l01Byte.f s0_0 bt235.2.1 bt235.2.2).bind fun bt238 => (if a1 = 0 then (none) else (some (Int.tmod (wrap64 ((wrap64 ((wrap64 ((wrap64 (t229 * 16777216)) + (wrap64 (bt232.1 * 65536)))) + (wrap64 (bt235.1 * 256)))) + bt238.1)) a1, bt238.2.1, bt238.2.2)))))) = some (r1, r2, r3) := H
 have A8 := Aside0.mk A80
 clear A80
 replace H := Option.bind_eq_some_iff.mp H
 obtain ⟨⟨t232, t233, t234⟩, A90, H⟩ := H
 replace H : ((spec_l01Byte.f s0_0 t233 t234).bind fun bt235 => ((spec_l01Byte.f s0_0 bt235.2.1 bt235.2.2).bind fun bt238 => (if a1 = 0 then (none) else (some (Int.tmod (wrap64 ((wrap64 ((wrap64 ((wrap64 (t229 * 16777216)) + (wrap64 (t232 * 65536)))) + (wrap64 (bt235.1 * 256)))) + bt238.1)) a1, bt238.2.1, bt238.2.2))))) = some (r1, r2, r3) := H
 have A9 := Aside0.mk A90
 clear A90
 replace H := Option.bind_eq_some_iff.mp H
 obtain ⟨⟨t235, t236, t237⟩, A100, H⟩ := H
 replace H : ((spec_l01Byte.f s0_0 t236 t237).bind fun bt238 => (if a1 = 0 then (none) else (some (Int.tmod (wrap64 ((wrap64 ((wrap64 ((wrap64 (t229 * 16777216)) + (wrap64 (t232 * 65536)))) + (wrap64 (t235 * 256)))) + bt238.1)) a1, bt238.2.1, bt238.2.2)))) = some (r1, r2, r3) := H
 have A10 := Aside0.mk A100
 clear A100
 replace H := Option.bind_eq_some_iff.mp H
 obtain ⟨⟨t238, t239, t240⟩, A110, H⟩ := H
 replace H : (if a1 = 0 then (none) else (some (Int.tmod (wrap64 ((wrap64 ((wrap64 ((wrap64 (t229 * 16777216)) + (wrap64 (t232 * 65536)))) + (wrap64 (t235 * 256)))) + t238)) a1, t239, t240))) = some (r1, r2, r3) := H
 have A11 := Aside0.mk A110
 clear A110
 by_cases c12 : a1 = 0
 ·rw [if_pos c12] at H
  exact absurd H (by simp)
 rw [if_neg c12] at H
 have c12b0 : (a1 == 0) = false := beq_eq_false_iff_ne.mpr c12
 have c12b1 : (a1 != 0) = true := bne_iff_ne.mpr c12
 simp only [Option.some.injEq, Prod.mk.injEq] at H
 obtain ⟨rfl, rfl, rfl⟩ := H
 go_enter Try.func119, Try.ntmps119
 go_wp2_with (first | ((with_reducible refine gate_callee (f := 186) rfl ?_); refine goesL_ (some 18) rfl rfl Try.func186 (by kernel_rfl) rfl #[.pointer (some ⟨g, 0, none⟩)] rfl tq_0 ?_; (with_reducible refine (spec_l01Byte.calls g s0_0 s0_1 s0_2 t229 t230 t231 w0 _ ?side1 ?side2 A8.out).mono ?_); (case side1 => exact tq_42); (case side2 => exact tq_44); rintro e w13 ⟨rfl, hi, hb, hk⟩; refine ⟨_, rfl, ?_⟩; have z_ := p_ (KeepBut.trans tq_1 hk (.inl rfl)) <| p_ (hb) <| a_ (hi); clear HK HB HI0; obtain ⟨HK, HB, HI0⟩ := z_; (try clear hb); (try clear hb2); (try clear hk); (try clear hi)) | ((with_reducible refine gate_callee (f := 186) rfl ?_); refine goesL_ (some 20) rfl rfl Try.func186 (by kernel_rfl) rfl #[.pointer (some ⟨g, 0, none⟩)] rfl tq_0 ?_; (with_reducible refine (spec_l01Byte.calls g s0_0 t230 t231 t232 t233 t234 w0 _ ?side1 ?side2 A9.out).mono ?_); (case side1 => exact tq_42); (case side2 => exact tq_44); rintro e w14 ⟨rfl, hi, hb, hk⟩; refine ⟨_, rfl, ?_⟩; have z_ := p_ (KeepBut.trans tq_1 hk (.inl rfl)) <| p_ (hb) <| a_ (hi); clear HK HB HI0; obtain ⟨HK, HB, HI0⟩ := z_; (try clear hb); (try clear hb2); (try clear hk); (try clear hi)) | ((with_reducible refine gate_callee (f := 186) rfl ?_); refine goesL_ (some 22) rfl rfl Try.func186 (by kernel_rfl) rfl #[.pointer (some ⟨g, 0, none⟩)] rfl tq_0 ?_; (with_reducible refine (spec_l01Byte.calls g s0_0 t233 t234 t235 t236 t237 w0 _ ?side1 ?side2 A10.out).mono ?_); (case side1 => exact tq_42); (case side2 => exact tq_44); rintro e w15 ⟨rfl, hi, hb, hk⟩; refine ⟨_, rfl, ?_⟩; have z_ := p_ (KeepBut.trans tq_1 hk (.inl rfl)) <| p_ (hb) <| a_ (hi); clear HK HB HI0; obtain ⟨HK, HB, HI0⟩ := z_; (try clear hb); (try clear hb2); (try clear hk); (try clear hi)) | ((with_reducible refine gate_callee (f := 186) rfl ?_); refine goesL_ (some 24) rfl rfl Try.func186 (by kernel_rfl) rfl #[.pointer (some ⟨g, 0, none⟩)] rfl tq_0 ?_; (with_reducible refine (spec_l01Byte.calls g s0_0 t236 t237 t238 t239 t240 w0 _ ?side1 ?side2 A11.out).mono ?_); (case side1 => exact tq_42); (case side2 => exact tq_44); rintro e w16 ⟨rfl, hi, hb, hk⟩; refine ⟨_, rfl, ?_⟩; have z_ := p_ (KeepBut.trans tq_1 hk (.inl rfl)) <| p_ (hb) <| a_ (hi); clear HK HB HI0; obtain ⟨HK, HB, HI0⟩ := z_; (try clear hb); (try clear hb2); (try clear hk); (try clear hi)))
 go_ret
 exact ⟨tq_11, tq_6, tq_7, tq_1⟩

/-! ### spec_l01PickInt: function 179 -/
def spec_l01PickInt.f (s0_0 : List Int) (s0_1 : Int) (s0_2 : Int) (l1 : List Int) : Option (Int × Int × Int) := (spec_l01Below.f s0_0 s0_1 s0_2 (l1.length : Int)).bind fun bt241 => (if 0 ≤ bt241.1 then (if bt241.1 < (l1.length : Int) then (some (rd l1 bt241.1, bt241.2.1, bt241.2.2)) else (none)) else (none))
set_option maxHeartbeats 8000000 in
set_option maxRecDepth 100000 in
theorem spec_l01PickInt.calls (g : Nat) (s0_0 : List Int) (s0_1 : Int) (s0_2 : Int) (A1 : Option Addr) (c1 : Nat) (l1 : List Int) (r1 : Int) (r2 : Int) (r3 : Int) (w0 w : World) (hI : IsS189 w0 w g s0_0 s0_1 s0_2) (hB : Below w0.heap.size w0 w) (hr1 : Kd.C (Kd.int .i64) w A1 l1.length l1) (hc1 : l1.length ≤ c1) (hf1 : ∀ ad, A1 = some ad → 0 < l1.length → ad.block ≠ g) (h : spec_l01PickInt.f s0_0 s0_1 s0_2 l1 = some (r1, r2, r3)) :
  Calls Try.prog 179 #[.pointer (some ⟨g, 0, none⟩), .slice A1 l1.length c1] w fun e w' => e = .returned (.int .i64 r1) ∧ IsS189 w0 w' g s0_0 r2 r3 ∧ Below w0.heap.size w0 w' ∧ KeepBut w w' g none := by
 have HR1 := Aside0.mk hr1
 have HC1 := Aside0.mk hc1
 clear hr1 hc1
 have HI0 := Aside0.mk hI
 have HK := Aside0.mk (KeepBut.refl w g none)
 have HL := Aside0.mk hB.size
 clear hI
 have HW0 := Aside0.mk hB.size
 have HB := Aside0.mk hB
 clear hB
 have H : ((spec_l01Below.f s0_0 s0_1 s0_2 (l1.length : Int)).bind fun bt241 => (if 0 ≤ bt241.1 then (if bt241.1 < (l1.length : Int) then (some (rd l1 bt241.1, bt241.2.1, bt241.2.2)) else (none)) else (none))) = some (r1, r2, r3) := h
 clear h
 replace H := Option.bind_eq_some_iff.mp H
 obtain ⟨⟨t241, t242, t243⟩, A30, H⟩ := H
 replace H : (if 0 ≤ t241 then (if t241 < (l1.length : Int) then (some (rd l1 t241, t242, t243)) else (none)) else (none)) = some (r1, r2, r3) := H
 have A3 := Aside0.mk A30
 clear A30
 by_cases c4 : 0 ≤ t241
 rotate_left
 ·rw [if_neg c4] at H
  exact absurd H (by simp)
 rw [if_pos c4] at H
 have c4b0 := decide_eq_true c4
 clear c4
 by_cases c5 : t241 < (l1.length : Int)
 rotate_left
 ·rw [if_neg c5] at H
  exact absurd H (by simp)
 rw [if_pos c5] at H
 have c5b0 := decide_eq_true c5
 clear c5
 simp only [Option.some.injEq, Prod.mk.injEq] at H
 obtain ⟨rfl, rfl, rfl⟩ := H
 go_enter Try.func179, Try.ntmps179
 go_wp2_with (first | ((with_reducible refine gate_callee (f := 119) rfl ?_); refine goesL_ (some 9) rfl rfl Try.func119 (by kernel_rfl) rfl #[.pointer (some ⟨g, 0, none⟩), .int .i64 (l1.length : Int)] rfl tq_0 ?_; (with_reducible refine (spec_l01Below.calls g s0_0 s0_1 s0_2 (l1.length : Int) t241 t242 t243 w0 _ ?side1 ?side2 A3.out).mono ?_); (case side1 => exact tq_42); (case side2 => exact tq_44); rintro e w6 ⟨rfl, hi, hb, hk⟩; refine ⟨_, rfl, ?_⟩; have z_ := p_ (KeepBut.trans tq_1 hk (.inl rfl)) <| p_ (hb) <| a_ (hi); clear HK HB HI0; obtain ⟨HK, HB, HI0⟩ := z_; (try clear hb); (try clear hb2); (try clear hk); (try clear hi); have p244 : 0 ≤ (t241 : Int) := of_decide_eq_true tq_20; have q244 : t241 < (l1.length : Int) := of_decide_eq_true tq_20; obtain ⟨ad244, e244, hx244_0⟩ := Kd.at_int HR1.out t241 p244 q244; cases e244; replace hx244_0 := keep_cell HK.out hx244_0 (by first | (rw [add_block]; exact hf1 _ rfl (by omega)) | exact hf1 _ rfl (by omega) | exact hf1 ad244 rfl (by omega)); replace p244 := eq_true p244; replace q244 := eq_true q244))
 go_ret
 exact ⟨tq_11, tq_6, tq_7, tq_1⟩

/-! ### spec_l01Once: function 117 -/
def spec_l01Once.f (s0_0 : List Int) (s0_1 : Int) (s0_2 : Int) (a1 : Int) : Option (Bool × Int × Int) := (spec_l01Below.f s0_0 s0_1 s0_2 a1).bind fun bt245 => (some ((bt245.1 == 0), bt245.2.1, bt245.2.2))
set_option maxHeartbeats 8000000 in
set_option maxRecDepth 100000 in
theorem spec_l01Once.calls (g : Nat) (s0_0 : List Int) (s0_1 : Int) (s0_2 : Int) (a1 : Int) (r1 : Bool) (r2 : Int) (r3 : Int) (w0 w : World) (hI : IsS189 w0 w g s0_0 s0_1 s0_2) (hB : Below w0.heap.size w0 w) (h : spec_l01Once.f s0_0 s0_1 s0_2 a1 = some (r1, r2, r3)) :
  Calls Try.prog 117 #[.pointer (some ⟨g, 0, none⟩), .int .i64 a1] w fun e w' => e = .returned (.bool r1) ∧ IsS189 w0 w' g s0_0 r2 r3 ∧ Below w0.heap.size w0 w' ∧ KeepBut w w' g none := by
 have HI0 := Aside0.mk hI
 have HK := Aside0.mk (KeepBut.refl w g none)
 have HL := Aside0.mk hB.size
 clear hI
 have HW0 := Aside0.mk hB.size
 have HB := Aside0.mk hB
 clear hB
 have H : ((spec_l01Below.f s0_0 s0_1 s0_2 a1).bind fun bt245 => (some ((bt245.1 == 0), bt245.2.1, bt245.2.2))) = some (r1, r2, r3) := h
 clear h
 replace H := Option.bind_eq_some_iff.mp H
 obtain ⟨⟨t245, t246, t247⟩, A30, H⟩ := H
 replace H : (some ((t245 == 0), t246, t247)) = some (r1, r2, r3) := H
 have A3 := Aside0.mk A30
 clear A30
 simp only [Option.some.injEq, Prod.mk.injEq] at H
 obtain ⟨rfl, rfl, rfl⟩ := H
 go_enter Try.func117, Try.ntmps117
 go_wp2_with (first | ((with_reducible refine gate_callee (f := 119) rfl ?_); refine goesL_ (some 7) rfl rfl Try.func119 (by kernel_rfl) rfl #[.pointer (some ⟨g, 0, none⟩), .int .i64 a1] rfl tq_0 ?_; (with_reducible refine (spec_l01Below.calls g s0_0 s0_1 s0_2 a1 t245 t246 t247 w0 _ ?side1 ?side2 A3.out).mono ?_); (case side1 => exact tq_42); (case side2 => exact tq_44); rintro e w4 ⟨rfl, hi, hb, hk⟩; refine ⟨_, rfl, ?_⟩; have z_ := p_ (KeepBut.trans tq_1 hk (.inl rfl)) <| p_ (hb) <| a_ (hi); clear HK HB HI0; obtain ⟨HK, HB, HI0⟩ := z_; (try clear hb); (try clear hb2); (try clear hk); (try clear hi)))
 go_ret
 exact ⟨tq_11, tq_6, tq_7, tq_1⟩

/-! ### spec_l01Pick: function 185 -/
def spec_l01Pick.f (s0_0 : List Int) (s0_1 : Int) (s0_2 : Int) (l1 : List ByteArray) : Option (ByteArray × Int × Int) := (spec_l01Below.f s0_0 s0_1 s0_2 (l1.length : Int)).bind fun bt248 => (if 0 ≤ bt248.1 then (if bt248.1 < (l1.length : Int) then (some (rdOf ByteArray.empty l1 bt248.1, bt248.2.1, bt248.2.2)) else (none)) else (none))
set_option maxHeartbeats 8000000 in
set_option maxRecDepth 100000 in
theorem spec_l01Pick.calls (g : Nat) (s0_0 : List Int) (s0_1 : Int) (s0_2 : Int) (A1 : Option Addr) (c1 : Nat) (l1 : List ByteArray) (r1 : ByteArray) (r2 : Int) (r3 : Int) (w0 w : World) (hI : IsS189 w0 w g s0_0 s0_1 s0_2) (hB : Below w0.heap.size w0 w) (hr1 : Kd.C Kd.string w A1 l1.length l1) (hc1 : l1.length ≤ c1) (hf1 : ∀ ad, A1 = some ad → 0 < l1.length → ad.block ≠ g) (h : spec_l01Pick.f s0_0 s0_1 s0_2 l1 = some (r1, r2, r3)) :
  Calls Try.prog 185 #[.pointer (some ⟨g, 0, none⟩), .slice A1 l1.length c1] w fun e w' => e = .returned (.string r1) ∧ IsS189 w0 w' g s0_0 r2 r3 ∧ Below w0.heap.size w0 w' ∧ KeepBut w w' g none := by
 have HR1 := Aside0.mk hr1
 have HC1 := Aside0.mk hc1
 clear hr1 hc1
 have HI0 := Aside0.mk hI
 have HK := Aside0.mk (KeepBut.refl w g none)
 have HL := Aside0.mk hB.size
 clear hI
 have HW0 := Aside0.mk hB.size
 have HB := Aside0.mk hB
 clear hB
 have H : ((spec_l01Below.f s0_0 s0_1 s0_2 (l1.length : Int)).bind fun bt248 => (if 0 ≤ bt248.1 then (if bt248.1 < (l1.length : Int) then (some (rdOf ByteArray.empty l1 bt248.1, bt248.2.1, bt248.2.2)) else (none)) else (none))) = some (r1, r2, r3) := h
 clear h
 replace H := Option.bind_eq_some_iff.mp H
 obtain ⟨⟨t248, t249, t250⟩, A30, H⟩ := H
 replace H : (if 0 ≤ t248 then (if t248 < (l1.length : Int) then (some (rdOf ByteArray.empty l1 t248, t249, t250)) else (none)) else (none)) = some (r1, r2, r3) := H
 have A3 := Aside0.mk A30
 clear A30
 by_cases c4 : 0 ≤ t248
 rotate_left
 ·rw [if_neg c4] at H
  exact absurd H (by simp)
 rw [if_pos c4] at H
 have c4b0 := decide_eq_true c4
 clear c4
 by_cases c5 : t248 < (l1.length : Int)
 rotate_left
 ·rw [if_neg c5] at H
  exact absurd H (by simp)
 rw [if_pos c5] at H
 have c5b0 := decide_eq_true c5
 clear c5
 simp only [Option.some.injEq, Prod.mk.injEq] at H
 obtain ⟨rfl, rfl, rfl⟩ := H
 go_enter Try.func185, Try.ntmps185
 go_wp2_with (first | ((with_reducible refine gate_callee (f := 119) rfl ?_); refine goesL_ (some 9) rfl rfl Try.func119 (by kernel_rfl) rfl #[.pointer (some ⟨g, 0, none⟩), .int .i64 (l1.length : Int)] rfl tq_0 ?_; (with_reducible refine (spec_l01Below.calls g s0_0 s0_1 s0_2 (l1.length : Int) t248 t249 t250 w0 _ ?side1 ?side2 A3.out).mono ?_); (case side1 => exact tq_42); (case side2 => exact tq_44); rintro e w6 ⟨rfl, hi, hb, hk⟩; refine ⟨_, rfl, ?_⟩; have z_ := p_ (KeepBut.trans tq_1 hk (.inl rfl)) <| p_ (hb) <| a_ (hi); clear HK HB HI0; obtain ⟨HK, HB, HI0⟩ := z_; (try clear hb); (try clear hb2); (try clear hk); (try clear hi); have p251 : 0 ≤ (t248 : Int) := of_decide_eq_true tq_20; have q251 : t248 < (l1.length : Int) := of_decide_eq_true tq_20; obtain ⟨ad251, e251, hx251_0⟩ := Kd.at_string HR1.out t248 p251 q251; cases e251; replace hx251_0 := keep_cell HK.out hx251_0 (by first | (rw [add_block]; exact hf1 _ rfl (by omega)) | exact hf1 _ rfl (by omega) | exact hf1 ad251 rfl (by omega)); replace p251 := eq_true p251; replace q251 := eq_true q251))
 go_ret
 exact ⟨tq_11, tq_6, tq_7, tq_1⟩

/-! ### spec_l12Name: function 214 -/
def spec_l12Name.f (s0_0 : List Int) (s0_1 : Int) (s0_2 : Int) : Option (ByteArray × Int × Int) := (spec_l01Pick.f s0_0 s0_1 s0_2 (([(⟨#[97]⟩ : ByteArray), (⟨#[98]⟩ : ByteArray), (⟨#[99]⟩ : ByteArray), (⟨#[100]⟩ : ByteArray), (⟨#[97, 98]⟩ : ByteArray), (⟨#[120, 49]⟩ : ByteArray), (⟨#[97, 98, 99, 100, 101, 102, 103]⟩ : ByteArray)] : List ByteArray))).bind fun bt255 => (some (bt255.1, bt255.2.1, bt255.2.2))
set_option maxHeartbeats 8000000 in
set_option maxRecDepth 100000 in
theorem spec_l12Name.calls (g : Nat) (s0_0 : List Int) (s0_1 : Int) (s0_2 : Int) (r1 : ByteArray) (r2 : Int) (r3 : Int) (w0 w : World) (hI : IsS189 w0 w g s0_0 s0_1 s0_2) (hB : Below w0.heap.size w0 w) (h : spec_l12Name.f s0_0 s0_1 s0_2 = some (r1, r2, r3)) :
  Calls Try.prog 214 #[.pointer (some ⟨g, 0, none⟩)] w fun e w' => e = .returned (.string r1) ∧ IsS189 w0 w' g s0_0 r2 r3 ∧ Below w0.heap.size w0 w' ∧ KeepBut w w' g none := by
 have HI0 := Aside0.mk hI
 have HK := Aside0.mk (KeepBut.refl w g none)
 have HL := Aside0.mk hB.size
 clear hI
 have HW0 := Aside0.mk hB.size
 have HB := Aside0.mk hB
 clear hB
 have H : ((spec_l01Pick.f s0_0 s0_1 s0_2 (([(⟨#[97]⟩ : ByteArray), (⟨#[98]⟩ : ByteArray), (⟨#[99]⟩ : ByteArray), (⟨#[100]⟩ : ByteArray), (⟨#[97, 98]⟩ : ByteArray), (⟨#[120, 49]⟩ : ByteArray), (⟨#[97, 98, 99, 100, 101, 102, 103]⟩ : ByteArray)] : List ByteArray))).bind fun bt255 => (some (bt255.1, bt255.2.1, bt255.2.2))) = some (r1, r2, r3) := h
 clear h
 obtain ⟨y252, hy252⟩ : ∃ y_ : List ByteArray, y_ = (([(⟨#[97]⟩ : ByteArray), (⟨#[98]⟩ : ByteArray), (⟨#[99]⟩ : ByteArray), (⟨#[100]⟩ : ByteArray), (⟨#[97, 98]⟩ : ByteArray), (⟨#[120, 49]⟩ : ByteArray), (⟨#[97, 98, 99, 100, 101, 102, 103]⟩ : ByteArray)] : List ByteArray)) := ⟨_, rfl⟩
 replace H : ((spec_l01Pick.f s0_0 s0_1 s0_2 y252).bind fun bt255 => (some (bt255.1, bt255.2.1, bt255.2.2))) = some (r1, r2, r3) := by first | (rw [hy252]; with_reducible exact H) | (have H2_ := (Option.bind_some _ _).symm.trans H; rw [hy252]; with_reducible exact H2_) | (have H2_ := (Option.bind_some _ _).symm.trans H; with_reducible exact H2_) | with_reducible exact H | (rw [hy252]; exact H) | exact H
 have Ny252 := Aside0.mk hy252
 clear hy252
 replace H := Option.bind_eq_some_iff.mp H
 obtain ⟨⟨t255, t256, t257⟩, A20, H⟩ := H
 replace H : (some (t255, t256, t257)) = some (r1, r2, r3) := H
 have A2 := Aside0.mk A20
 clear A20
 simp only [Option.some.injEq, Prod.mk.injEq] at H
 obtain ⟨rfl, rfl, rfl⟩ := H
 go_enter Try.func214, Try.ntmps214
 go_wp2_with (first | ((with_reducible refine gate_dst (N := 4) rfl ?_); refine Kd.R_lit Kd.string _ 9 ?hg (N := 4) ?hd (xs := ([(⟨#[97]⟩ : ByteArray), (⟨#[98]⟩ : ByteArray), (⟨#[99]⟩ : ByteArray), (⟨#[100]⟩ : ByteArray), (⟨#[97, 98]⟩ : ByteArray), (⟨#[120, 49]⟩ : ByteArray), (⟨#[97, 98, 99, 100, 101, 102, 103]⟩ : ByteArray)] : List ByteArray)) (inner := [.string (⟨#[97]⟩ : ByteArray), .string (⟨#[98]⟩ : ByteArray), .string (⟨#[99]⟩ : ByteArray), .string (⟨#[100]⟩ : ByteArray), .string (⟨#[97, 98]⟩ : ByteArray), .string (⟨#[120, 49]⟩ : ByteArray), .string (⟨#[97, 98, 99, 100, 101, 102, 103]⟩ : ByteArray)]) (ok := fun _ => True) (okp := fun _ => True) ?hr ?hp (fun _ hk => hk) trivial (Below.refl _ _) (Nat.le_refl _) (by simp) ?_; (case hd => rfl); (case hg => rfl); (case hr => first | (go_simp; done) | (go_simp; rfl)); (case hp => exact (Reps.one (show Kd.M Kd.string _ _ _ (⟨#[97]⟩ : ByteArray) [.string (⟨#[97]⟩ : ByteArray)] from rfl) (Reps.one (show Kd.M Kd.string _ _ _ (⟨#[98]⟩ : ByteArray) [.string (⟨#[98]⟩ : ByteArray)] from rfl) (Reps.one (show Kd.M Kd.string _ _ _ (⟨#[99]⟩ : ByteArray) [.string (⟨#[99]⟩ : ByteArray)] from rfl) (Reps.one (show Kd.M Kd.string _ _ _ (⟨#[100]⟩ : ByteArray) [.string (⟨#[100]⟩ : ByteArray)] from rfl) (Reps.one (show Kd.M Kd.string _ _ _ (⟨#[97, 98]⟩ : ByteArray) [.string (⟨#[97, 98]⟩ : ByteArray)] from rfl) (Reps.one (show Kd.M Kd.string _ _ _ (⟨#[120, 49]⟩ : ByteArray) [.string (⟨#[120, 49]⟩ : ByteArray)] from rfl) (Reps.one (show Kd.M Kd.string _ _ _ (⟨#[97, 98, 99, 100, 101, 102, 103]⟩ : ByteArray) [.string (⟨#[97, 98, 99, 100, 101, 102, 103]⟩ : ByteArray)] from rfl) (Reps.none _ _))))))))); intro v253 w3 ho4 hb hg_ hnew_; clear hg_ hnew_; (first | rw [← Ny252.out] at ho4 | (simp only [Int.reduceToNat] at ho4; rw [← Ny252.out] at ho4)); have z_ := p_ (Kd.R_lower ho4 (keep_size (w := w) (g := g) (row := none) tq_1)) <| p_ (IsS189.below tq_6 hb) <| p_ (KeepBut.trans tq_1 (KeepBut.of_below hb g none) (.inl rfl)) <| a_ (below_step tq_7 hb); clear HI0 HK HB; obtain ⟨HO254, HI0, HK, HB⟩ := z_; clear hb ho4; obtain ⟨Ao5, co5, eo5⟩ := Kd.R_slice HO254.out; subst eo5) | ((with_reducible refine gate_callee (f := 185) rfl ?_); refine goesL_ (some 5) rfl rfl Try.func185 (by kernel_rfl) rfl #[.pointer (some ⟨g, 0, none⟩), .slice Ao5 y252.length co5] rfl tq_0 ?_; (with_reducible refine (spec_l01Pick.calls g s0_0 s0_1 s0_2 _ _ y252 t255 t256 t257 w0 _ ?side1 ?side2 ?side3 ?side4 ?side5 A2.out).mono ?_); (case side1 => exact tq_42); (case side2 => exact tq_44); (case side3 => repeat (first | exact (Kd.R_reads' HO254.out).2.2 | (with_reducible refine Kd.C_alloc ?_ _) | (with_reducible refine Kd.C_drewN ?_ _) | (with_reducible refine Kd.C_drew ?_))); (case side4 => exact (Kd.R_reads' HO254.out).2.1); (case side5 => exact far_slice (IsS189.own_ne HI0.out HO254.out (by decide))); rintro e w6 ⟨rfl, hi, hb, hk⟩; refine ⟨_, rfl, ?_⟩; have z_ := p_ (Kd.R_mono (Kd.R_keep (IsS189.apart (show IsS189 w0 _ g s0_0 s0_1 s0_2 from by repeat (first | (with_reducible first | exact HI0.out | apply IsS189.alloc | apply IsS189.drewN | apply IsS189.drew | apply IsS189.set_1 | apply IsS189.set_2) | exact HI0.out)) (by (with_reducible repeat (first | apply Kd.R_alloc | apply Kd.R_drewN | apply Kd.R_drew)); exact HO254.out) (by decide)) hk (fun _ h => h.2)) (fun _ h => h.1)) <| p_ (KeepBut.trans tq_1 hk (.inl rfl)) <| p_ (hb) <| a_ (hi); clear HO254 HK HB HI0; obtain ⟨HO254, HK, HB, HI0⟩ := z_; (try clear hb); (try clear hb2); (try clear hk); (try clear hi)))
 go_ret
 exact ⟨tq_11, tq_6, tq_7, tq_1⟩

/-! ### spec_l12AnyName: function 181 -/
def spec_l12AnyName.f (s0_0 : List Int) (s0_1 : Int) (s0_2 : Int) : Option (ByteArray × Int × Int) := (spec_l01Once.f s0_0 s0_1 s0_2 3).bind fun bt258 => (if bt258.1 = true then ((spec_l01Pick.f s0_0 bt258.2.1 bt258.2.2 (([(⟨#[]⟩ : ByteArray), (⟨#[65]⟩ : ByteArray), (⟨#[97, 98, 99, 100, 101, 102, 103, 104]⟩ : ByteArray), (⟨#[97, 32, 98]⟩ : ByteArray), (⟨#[97, 47, 98]⟩ : ByteArray), (⟨#[0]⟩ : ByteArray), (⟨#[195, 169]⟩ : ByteArray), (⟨#[97, 45, 98]⟩ : ByteArray)] : List ByteArray))).bind fun bt264 => (some (bt264.1, bt264.2.1, bt264.2.2))) else ((spec_l12Name.f s0_0 bt258.2.1 bt258.2.2).bind fun bt267 => (some (bt267.1, bt267.2.1, bt267.2.2))))
set_option maxHeartbeats 8000000 in
set_option maxRecDepth 100000 in
theorem spec_l12AnyName.calls (g : Nat) (s0_0 : List Int) (s0_1 : Int) (s0_2 : Int) (r1 : ByteArray) (r2 : Int) (r3 : Int) (w0 w : World) (hI : IsS189 w0 w g s0_0 s0_1 s0_2) (hB : Below w0.heap.size w0 w) (h : spec_l12AnyName.f s0_0 s0_1 s0_2 = some (r1, r2, r3)) :
  Calls Try.prog 181 #[.pointer (some ⟨g, 0, none⟩)] w fun e w' => e = .returned (.string r1) ∧ IsS189 w0 w' g s0_0 r2 r3 ∧ Below w0.heap.size w0 w' ∧ KeepBut w w' g none := by
 have HI0 := Aside0.mk hI
 have HK := Aside0.mk (KeepBut.refl w g none)
 have HL := Aside0.mk hB.size
 clear hI
 have HW0 := Aside0.mk hB.size
 have HB := Aside0.mk hB
 clear hB
 have H : ((spec_l01Once.f s0_0 s0_1 s0_2 3).bind fun bt258 => (if bt258.1 = true then ((spec_l01Pick.f s0_0 bt258.2.1 bt258.2.2 (([(⟨#[]⟩ : ByteArray), (⟨#[65]⟩ : ByteArray), (⟨#[97, 98, 99, 100, 101, 102, 103, 104]⟩ : ByteArray), (⟨#[97, 32, 98]⟩ : ByteArray), (⟨#[97, 47, 98]⟩ : ByteArray), (⟨#[0]⟩ : ByteArray), (⟨#[195, 169]⟩ : ByteArray), (⟨#[97, 45, 98]⟩ : ByteArray)] : List ByteArray))).bind fun bt264 => (some (bt264.1, bt264.2.1, bt264.2.2))) else ((spec_l12Name.f s0_0 bt258.2.1 bt258.2.2).bind fun bt267 => (some (bt267.1, bt267.2.1, bt267.2.2))))) = some (r1, r2, r3) := h
 clear h
 replace H := Option.bind_eq_some_iff.mp H
 obtain ⟨⟨t258, t259, t260⟩, A20, H⟩ := H
 replace H : (if t258 = true then ((spec_l01Pick.f s0_0 t259 t260 (([(⟨#[]⟩ : ByteArray), (⟨#[65]⟩ : ByteArray), (⟨#[97, 98, 99, 100, 101, 102, 103, 104]⟩ : ByteArray), (⟨#[97, 32, 98]⟩ : ByteArray), (⟨#[97, 47, 98]⟩ : ByteArray), (⟨#[0]⟩ : ByteArray), (⟨#[195, 169]⟩ : ByteArray), (⟨#[97, 45, 98]⟩ : ByteArray)] : List ByteArray))).bind fun bt264 => (some (bt264.1, bt264.2.1, bt264.2.2))) else ((spec_l12Name.f s0_0 t259 t260).bind fun bt267 => (some (bt267.1, bt267.2.1, bt267.2.2)))) = some (r1, r2, r3) := H
 have A2 := Aside0.mk A20
 clear A20
 by_cases c3 : t258 = true
 rotate_left
 ·replace c3 := Bool.eq_false_iff.mpr c3
  subst c3
  have H1 : ((spec_l12Name.f s0_0 t259 t260).bind fun bt267 => (some (bt267.1, bt267.2.1, bt267.2.2))) = some (r1, r2, r3) := by rw [if_neg (show ¬ (false = true) by decide)] at H; exact H
  clear H
  have H := H1
  clear H1
  replace H := Option.bind_eq_some_iff.mp H
  obtain ⟨⟨t267, t268, t269⟩, A100, H⟩ := H
  replace H : (some (t267, t268, t269)) = some (r1, r2, r3) := H
  have A10 := Aside0.mk A100
  clear A100
  simp only [Option.some.injEq, Prod.mk.injEq] at H
  obtain ⟨rfl, rfl, rfl⟩ := H
  go_enter Try.func181, Try.ntmps181
  go_wp2_with (first | ((with_reducible refine gate_callee (f := 117) rfl ?_); refine goesL_ (some 4) rfl rfl Try.func117 (by kernel_rfl) rfl #[.pointer (some ⟨g, 0, none⟩), .int .i64 3] rfl tq_0 ?_; (with_reducible refine (spec_l01Once.calls g s0_0 s0_1 s0_2 3 false t259 t260 w0 _ ?side1 ?side2 A2.out).mono ?_); (case side1 => exact tq_42); (case side2 => exact tq_44); rintro e w11 ⟨rfl, hi, hb, hk⟩; refine ⟨_, rfl, ?_⟩; have z_ := p_ (KeepBut.trans tq_1 hk (.inl rfl)) <| p_ (hb) <| a_ (hi); clear HK HB HI0; obtain ⟨HK, HB, HI0⟩ := z_; (try clear hb); (try clear hb2); (try clear hk); (try clear hi)) | ((with_reducible refine gate_callee (f := 214) rfl ?_); refine goesL_ (some 9) rfl rfl Try.func214 (by kernel_rfl) rfl #[.pointer (some ⟨g, 0, none⟩)] rfl tq_0 ?_; (with_reducible refine (spec_l12Name.calls g s0_0 t259 t260 t267 t268 t269 w0 _ ?side1 ?side2 A10.out).mono ?_); (case side1 => exact tq_42); (case side2 => exact tq_44); rintro e w12 ⟨rfl, hi, hb, hk⟩; refine ⟨_, rfl, ?_⟩; have z_ := p_ (KeepBut.trans tq_1 hk (.inl rfl)) <| p_ (hb) <| a_ (hi); clear HK HB HI0; obtain ⟨HK, HB, HI0⟩ := z_; (try clear hb); (try clear hb2); (try clear hk); (try clear hi)))
  go_ret
  exact ⟨tq_11, tq_6, tq_7, tq_1⟩
 subst c3
 have H1 : ((spec_l01Pick.f s0_0 t259 t260 (([(⟨#[]⟩ : ByteArray), (⟨#[65]⟩ : ByteArray), (⟨#[97, 98, 99, 100, 101, 102, 103, 104]⟩ : ByteArray), (⟨#[97, 32, 98]⟩ : ByteArray), (⟨#[97, 47, 98]⟩ : ByteArray), (⟨#[0]⟩ : ByteArray), (⟨#[195, 169]⟩ : ByteArray), (⟨#[97, 45, 98]⟩ : ByteArray)] : List ByteArray))).bind fun bt264 => (some (bt264.1, bt264.2.1, bt264.2.2))) = some (r1, r2, r3) := by rw [if_pos rfl] at H; exact H
 clear H
 have H := H1
 clear H1
 obtain ⟨y261, hy261⟩ : ∃ y_ : List ByteArray, y_ = (([(⟨#[]⟩ : ByteArray), (⟨#[65]⟩ : ByteArray), (⟨#[97, 98, 99, 100, 101, 102, 103, 104]⟩ : ByteArray), (⟨#[97, 32, 98]⟩ : ByteArray), (⟨#[97, 47, 98]⟩ : ByteArray), (⟨#[0]⟩ : ByteArray), (⟨#[195, 169]⟩ : ByteArray), (⟨#[97, 45, 98]⟩ : ByteArray)] : List ByteArray)) := ⟨_, rfl⟩
 replace H : ((spec_l01Pick.f s0_0 t259 t260 y261).bind fun bt264 => (some (bt264.1, bt264.2.1, bt264.2.2))) = some (r1, r2, r3) := by first | (rw [hy261]; with_reducible exact H) | (have H2_ := (Option.bind_some _ _).symm.trans H; rw [hy261]; with_reducible exact H2_) | (have H2_ := (Option.bind_some _ _).symm.trans H; with_reducible exact H2_) | with_reducible exact H | (rw [hy261]; exact H) | exact H
 have Ny261 := Aside0.mk hy261
 clear hy261
 replace H := Option.bind_eq_some_iff.mp H
 obtain ⟨⟨t264, t265, t266⟩, A40, H⟩ := H
 replace H : (some (t264, t265, t266)) = some (r1, r2, r3) := H
 have A4 := Aside0.mk A40
 clear A40
 simp only [Option.some.injEq, Prod.mk.injEq] at H
 obtain ⟨rfl, rfl, rfl⟩ := H
 go_enter Try.func181, Try.ntmps181
 go_wp2_with (first | ((with_reducible refine gate_callee (f := 117) rfl ?_); refine goesL_ (some 4) rfl rfl Try.func117 (by kernel_rfl) rfl #[.pointer (some ⟨g, 0, none⟩), .int .i64 3] rfl tq_0 ?_; (with_reducible refine (spec_l01Once.calls g s0_0 s0_1 s0_2 3 true t259 t260 w0 _ ?side1 ?side2 A2.out).mono ?_); (case side1 => exact tq_42); (case side2 => exact tq_44); rintro e w5 ⟨rfl, hi, hb, hk⟩; refine ⟨_, rfl, ?_⟩; have z_ := p_ (KeepBut.trans tq_1 hk (.inl rfl)) <| p_ (hb) <| a_ (hi); clear HK HB HI0; obtain ⟨HK, HB, HI0⟩ := z_; (try clear hb); (try clear hb2); (try clear hk); (try clear hi)) | ((with_reducible refine gate_dst (N := 6) rfl ?_); refine Kd.R_lit Kd.string _ 9 ?hg (N := 6) ?hd (xs := ([(⟨#[]⟩ : ByteArray), (⟨#[65]⟩ : ByteArray), (⟨#[97, 98, 99, 100, 101, 102, 103, 104]⟩ : ByteArray), (⟨#[97, 32, 98]⟩ : ByteArray), (⟨#[97, 47, 98]⟩ : ByteArray), (⟨#[0]⟩ : ByteArray), (⟨#[195, 169]⟩ : ByteArray), (⟨#[97, 45, 98]⟩ : ByteArray)] : List ByteArray)) (inner := [.string (⟨#[]⟩ : ByteArray), .string (⟨#[65]⟩ : ByteArray), .string (⟨#[97, 98, 99, 100, 101, 102, 103, 104]⟩ : ByteArray), .string (⟨#[97, 32, 98]⟩ : ByteArray), .string (⟨#[97, 47, 98]⟩ : ByteArray), .string (⟨#[0]⟩ : ByteArray), .string (⟨#[195, 169]⟩ : ByteArray), .string (⟨#[97, 45, 98]⟩ : ByteArray)]) (ok := fun _ => True) (okp := fun _ => True) ?hr ?hp (fun _ hk => hk) trivial (Below.refl _ _) (Nat.le_refl _) (by simp) ?_; (case hd => rfl); (case hg => rfl); (case hr => first | (go_simp; done) | (go_simp; rfl)); (case hp => exact (Reps.one (show Kd.M Kd.string _ _ _ (⟨#[]⟩ : ByteArray) [.string (⟨#[]⟩ : ByteArray)] from rfl) (Reps.one (show Kd.M Kd.string _ _ _ (⟨#[65]⟩ : ByteArray) [.string (⟨#[65]⟩ : ByteArray)] from rfl) (Reps.one (show Kd.M Kd.string _ _ _ (⟨#[97, 98, 99, 100, 101, 102, 103, 104]⟩ : ByteArray) [.string (⟨#[97, 98, 99, 100, 101, 102, 103, 104]⟩ : ByteArray)] from rfl) (Reps.one (show Kd.M Kd.string _ _ _ (⟨#[97, 32, 98]⟩ : ByteArray) [.string (⟨#[97, 32, 98]⟩ : ByteArray)] from rfl) (Reps.one (show Kd.M Kd.string _ _ _ (⟨#[97, 47, 98]⟩ : ByteArray) [.string (⟨#[97, 47, 98]⟩ : ByteArray)] from rfl) (Reps.one (show Kd.M Kd.string _ _ _ (⟨#[0]⟩ : ByteArray) [.string (⟨#[0]⟩ : ByteArray)] from rfl) (Reps.one (show Kd.M Kd.string _ _ _ (⟨#[195, 169]⟩ : ByteArray) [.string (⟨#[195, 169]⟩ : ByteArray)] from rfl) (Reps.one (show Kd.M Kd.string _ _ _ (⟨#[97, 45, 98]⟩ : ByteArray) [.string (⟨#[97, 45, 98]⟩ : ByteArray)] from rfl) (Reps.none _ _)))))))))); intro v262 w6 ho7 hb hg_ hnew_; clear hg_ hnew_; (first | rw [← Ny261.out] at ho7 | (simp only [Int.reduceToNat] at ho7; rw [← Ny261.out] at ho7)); have z_ := p_ (Kd.R_lower ho7 (keep_size (w := w) (g := g) (row := none) tq_1)) <| p_ (IsS189.below tq_6 hb) <| p_ (KeepBut.trans tq_1 (KeepBut.of_below hb g none) (.inl rfl)) <| a_ (below_step tq_7 hb); clear HI0 HK HB; obtain ⟨HO263, HI0, HK, HB⟩ := z_; clear hb ho7; obtain ⟨Ao8, co8, eo8⟩ := Kd.R_slice HO263.out; subst eo8) | ((with_reducible refine gate_callee (f := 185) rfl ?_); refine goesL_ (some 7) rfl rfl Try.func185 (by kernel_rfl) rfl #[.pointer (some ⟨g, 0, none⟩), .slice Ao8 y261.length co8] rfl tq_0 ?_; (with_reducible refine (spec_l01Pick.calls g s0_0 t259 t260 _ _ y261 t264 t265 t266 w0 _ ?side1 ?side2 ?side3 ?side4 ?side5 A4.out).mono ?_); (case side1 => exact tq_42); (case side2 => exact tq_44); (case side3 => repeat (first | exact (Kd.R_reads' HO263.out).2.2 | (with_reducible refine Kd.C_alloc ?_ _) | (with_reducible refine Kd.C_drewN ?_ _) | (with_reducible refine Kd.C_drew ?_))); (case side4 => exact (Kd.R_reads' HO263.out).2.1); (case side5 => exact far_slice (IsS189.own_ne HI0.out HO263.out (by decide))); rintro e w9 ⟨rfl, hi, hb, hk⟩; refine ⟨_, rfl, ?_⟩; have z_ := p_ (Kd.R_mono (Kd.R_keep (IsS189.apart (show IsS189 w0 _ g s0_0 t259 t260 from by repeat (first | (with_reducible first | exact HI0.out | apply IsS189.alloc | apply IsS189.drewN | apply IsS189.drew | apply IsS189.set_1 | apply IsS189.set_2) | exact HI0.out)) (by (with_reducible repeat (first | apply Kd.R_alloc | apply Kd.R_drewN | apply Kd.R_drew)); exact HO263.out) (by decide)) hk (fun _ h => h.2)) (fun _ h => h.1)) <| p_ (KeepBut.trans tq_1 hk (.inl rfl)) <| p_ (hb) <| a_ (hi); clear HO263 HK HB HI0; obtain ⟨HO263, HK, HB, HI0⟩ := z_; (try clear hb); (try clear hb2); (try clear hk); (try clear hi)))
 go_ret
 exact ⟨tq_11, tq_6, tq_7, tq_1⟩

/-! ### spec_l12AnyEntry: function 110 -/
def spec_l12AnyEntry.f (s0_0 : List Int) (s0_1 : Int) (s0_2 : Int) : Option (Int × ByteArray × Int × Int) := (spec_l01PickInt.f s0_0 s0_1 s0_2 (([1, 2, 3, 4, 5, 5, 0, 6, (-1)] : List Int))).bind fun bt274 => ((spec_l12AnyName.f s0_0 bt274.2.1 bt274.2.2).bind fun bt277 => (some (bt274.1, bt277.1, bt277.2.1, bt277.2.2)))
set_option maxHeartbeats 8000000 in
set_option maxRecDepth 100000 in
theorem spec_l12AnyEntry.calls (g : Nat) (s0_0 : List Int) (s0_1 : Int) (s0_2 : Int) (r1 : Int) (r2 : ByteArray) (r3 : Int) (r4 : Int) (w0 w : World) (hI : IsS189 w0 w g s0_0 s0_1 s0_2) (hB : Below w0.heap.size w0 w) (h : spec_l12AnyEntry.f s0_0 s0_1 s0_2 = some (r1, r2, r3, r4)) :
  Calls Try.prog 110 #[.pointer (some ⟨g, 0, none⟩)] w fun e w' => e = .returned (.agg #[.int .i64 r1, .string r2]) ∧ IsS189 w0 w' g s0_0 r3 r4 ∧ Below w0.heap.size w0 w' ∧ KeepBut w w' g none := by
 have hu59 := Try.underlying59
 have HI0 := Aside0.mk hI
 have HK := Aside0.mk (KeepBut.refl w g none)
 have HL := Aside0.mk hB.size
 clear hI
 have HW0 := Aside0.mk hB.size
 have HB := Aside0.mk hB
 clear hB
 have H : ((spec_l01PickInt.f s0_0 s0_1 s0_2 (([1, 2, 3, 4, 5, 5, 0, 6, (-1)] : List Int))).bind fun bt274 => ((spec_l12AnyName.f s0_0 bt274.2.1 bt274.2.2).bind fun bt277 => (some (bt274.1, bt277.1, bt277.2.1, bt277.2.2)))) = some (r1, r2, r3, r4) := h
 clear h
 obtain ⟨y271, hy271⟩ : ∃ y_ : List Int, y_ = (([1, 2, 3, 4, 5, 5, 0, 6, (-1)] : List Int)) := ⟨_, rfl⟩
 replace H : ((spec_l01PickInt.f s0_0 s0_1 s0_2 y271).bind fun bt274 => ((spec_l12AnyName.f s0_0 bt274.2.1 bt274.2.2).bind fun bt277 => (some (bt274.1, bt277.1, bt277.2.1, bt277.2.2)))) = some (r1, r2, r3, r4) := by first | (rw [hy271]; with_reducible exact H) | (have H2_ := (Option.bind_some _ _).symm.trans H; rw [hy271]; with_reducible exact H2_) | (have H2_ := (Option.bind_some _ _).symm.trans H; with_reducible exact H2_) | with_reducible exact H | (rw [hy271]; exact H) | exact H
 have Ny271 := Aside0.mk hy271
 clear hy271
 replace H := Option.bind_eq_some_iff.mp H
 obtain ⟨⟨t274, t275, t276⟩, A20, H⟩ := H
 replace H : ((spec_l12AnyName.f s0_0 t275 t276).bind fun bt277 => (some (t274, bt277.1, bt277.2.1, bt277.2.2))) = some (r1, r2, r3, r4) := H
 have A2 := Aside0.mk A20
 clear A20
 replace H := Option.bind_eq_some_iff.mp H
 obtain ⟨⟨t277, t278, t279⟩, A30, H⟩ := H
 replace H : (some (t274, t277, t278, t279)) = some (r1, r2, r3, r4) := H
 have A3 := Aside0.mk A30
 clear A30
 simp only [Option.some.injEq, Prod.mk.injEq] at H
 obtain ⟨rfl, rfl, rfl, rfl⟩ := H
 go_enter Try.func110, Try.ntmps110
 go_wp2_with (first | ((with_reducible refine gate_dst (N := 2) rfl ?_); refine box_event ?hg (N := 2) ?hd (cs := #[.int .i64 0, .string (⟨#[]⟩ : ByteArray)]) (t := 59) ?hr ?_; (case hd => rfl); (case hg => rfl); (case hr => first | (go_simp; done) | (go_simp; rfl)); intro gb270 hg w4 hbox hb; have z_ := p_ (IsS189.below tq_6 hb) <| p_ (KeepBut.trans tq_1 (KeepBut.of_below hb g none) (.inl rfl)) <| p_ (below_step tq_7 hb) <| p_ (hbox) <| p_ ((by rw [hg]; exact (keep_size (w := w) (g := g) (row := none) tq_1) : w.heap.size ≤ gb270)) <| p_ ((Nat.le_trans HW0.out (by rw [hg]; exact (keep_size (w := w) (g := g) (row := none) tq_1) : w.heap.size ≤ gb270) : w0.heap.size ≤ gb270)) <| p_ ((by rw [hg]; exact Nat.ne_of_lt (IsS189.lt (show IsS189 w0 _ g s0_0 s0_1 s0_2 from by repeat (first | (with_reducible first | exact HI0.out | apply IsS189.alloc | apply IsS189.drewN | apply IsS189.drew | apply IsS189.set_1 | apply IsS189.set_2) | exact HI0.out))) : g ≠ gb270)) <| a_ ((by rw [hg]; exact Nat.ne_of_gt (IsS189.lt (show IsS189 w0 _ g s0_0 s0_1 s0_2 from by repeat (first | (with_reducible first | exact HI0.out | apply IsS189.alloc | apply IsS189.drewN | apply IsS189.drew | apply IsS189.set_1 | apply IsS189.set_2) | exact HI0.out))) : gb270 ≠ g)); clear HI0 HK HB; obtain ⟨HI0, HK, HB, BK270, GW270, GE270, NB0_270, NB270_0⟩ := z_; clear hb hbox hg) | ((with_reducible refine gate_dst (N := 4) rfl ?_); refine Kd.R_lit (Kd.int .i64) _ 3 ?hg (N := 4) ?hd (xs := ([1, 2, 3, 4, 5, 5, 0, 6, (-1)] : List Int)) (inner := [.int .i64 1, .int .i64 2, .int .i64 3, .int .i64 4, .int .i64 5, .int .i64 5, .int .i64 0, .int .i64 6, .int .i64 (-1)]) (ok := fun _ => True) (okp := fun _ => True) ?hr ?hp (fun _ hk => hk) trivial (Below.refl _ _) (Nat.le_refl _) (by simp) ?_; (case hd => rfl); (case hg => rfl); (case hr => first | (go_simp; done) | (go_simp; rfl)); (case hp => exact (Reps.one (show Kd.M (Kd.int .i64) _ _ _ 1 [.int .i64 1] from rfl) (Reps.one (show Kd.M (Kd.int .i64) _ _ _ 2 [.int .i64 2] from rfl) (Reps.one (show Kd.M (Kd.int .i64) _ _ _ 3 [.int .i64 3] from rfl) (Reps.one (show Kd.M (Kd.int .i64) _ _ _ 4 [.int .i64 4] from rfl) (Reps.one (show Kd.M (Kd.int .i64) _ _ _ 5 [.int .i64 5] from rfl) (Reps.one (show Kd.M (Kd.int .i64) _ _ _ 5 [.int .i64 5] from rfl) (Reps.one (show Kd.M (Kd.int .i64) _ _ _ 0 [.int .i64 0] from rfl) (Reps.one (show Kd.M (Kd.int .i64) _ _ _ 6 [.int .i64 6] from rfl) (Reps.one (show Kd.M (Kd.int .i64) _ _ _ (-1) [.int .i64 (-1)] from rfl) (Reps.none _ _))))))))))); intro v272 w5 ho6 hb hg_ hnew_; clear hg_ hnew_; (first | rw [← Ny271.out] at ho6 | (simp only [Int.reduceToNat] at ho6; rw [← Ny271.out] at ho6)); have z_ := p_ (Kd.R_lower ho6 (keep_size (w := w) (g := g) (row := none) tq_131)) <| p_ (IsS189.below tq_200 hb) <| p_ (blk_below tq_195 hb) <| p_ (KeepBut.trans tq_131 (KeepBut.of_below hb g none) (.inl rfl)) <| a_ (below_step tq_201 hb); clear HI0 BK270 HK HB; obtain ⟨HO273, HI0, BK270, HK, HB⟩ := z_; clear hb ho6; obtain ⟨Ao7, co7, eo7⟩ := Kd.R_slice HO273.out; subst eo7) | ((with_reducible refine gate_callee (f := 179) rfl ?_); refine goesL_ (some 5) rfl rfl Try.func179 (by kernel_rfl) rfl #[.pointer (some ⟨g, 0, none⟩), .slice Ao7 y271.length co7] rfl tq_0 ?_; (with_reducible refine (spec_l01PickInt.calls g s0_0 s0_1 s0_2 _ _ y271 t274 t275 t276 w0 _ ?side1 ?side2 ?side3 ?side4 ?side5 A2.out).mono ?_); (case side1 => exact tq_205); (case side2 => exact tq_206); (case side3 => repeat (first | exact (Kd.R_reads' HO273.out).2.2 | (with_reducible refine Kd.C_alloc ?_ _) | (with_reducible refine Kd.C_drewN ?_ _) | (with_reducible refine Kd.C_drew ?_))); (case side4 => exact (Kd.R_reads' HO273.out).2.1); (case side5 => exact far_slice (IsS189.own_ne HI0.out HO273.out (by decide))); rintro e w8 ⟨rfl, hi, hb, hk⟩; refine ⟨_, rfl, ?_⟩; have z_ := p_ (KeepBut.blk hk (g' := gb270) (o := .cells #[.int .i64 0, .string (⟨#[]⟩ : ByteArray)] 59 (0, 0)) tq_195 NB270_0.out (by simp)) <| p_ (Kd.R_mono (Kd.R_keep (IsS189.apart (show IsS189 w0 _ g s0_0 s0_1 s0_2 from by repeat (first | (with_reducible first | exact HI0.out | apply IsS189.alloc | apply IsS189.drewN | apply IsS189.drew | apply IsS189.set_1 | apply IsS189.set_2 | refine IsS189.far ?_ NB0_270.out _) | exact HI0.out)) (by (with_reducible repeat (first | apply Kd.R_alloc | apply Kd.R_drewN | apply Kd.R_drew)); exact HO273.out) (by decide)) hk (fun _ h => h.2)) (fun _ h => h.1)) <| p_ (KeepBut.trans tq_131 hk (.inl rfl)) <| p_ (hb) <| a_ (hi); clear BK270 HO273 HK HB HI0; obtain ⟨BK270, HO273, HK, HB, HI0⟩ := z_; (try clear hb); (try clear hb2); (try clear hk); (try clear hi)) | ((with_reducible refine gate_callee (f := 181) rfl ?_); refine goesL_ (some 7) rfl rfl Try.func181 (by kernel_rfl) rfl #[.pointer (some ⟨g, 0, none⟩)] rfl tq_0 ?_; (with_reducible refine (spec_l12AnyName.calls g s0_0 t275 t276 t277 t278 t279 w0 _ ?side1 ?side2 A3.out).mono ?_); (case side1 => exact tq_205); (case side2 => exact tq_206); rintro e w9 ⟨rfl, hi, hb, hk⟩; refine ⟨_, rfl, ?_⟩; have z_ := p_ (KeepBut.blk hk (g' := gb270) (o := .cells #[.int .i64 0, .string (⟨#[]⟩ : ByteArray)] 59 (0, 0)) tq_195 NB270_0.out (by simp)) <| p_ (Kd.R_mono (Kd.R_keep (IsS189.apart (show IsS189 w0 _ g s0_0 t275 t276 from by repeat (first | (with_reducible first | exact HI0.out | apply IsS189.alloc | apply IsS189.drewN | apply IsS189.drew | apply IsS189.set_1 | apply IsS189.set_2 | refine IsS189.far ?_ NB0_270.out _) | exact HI0.out)) (by (with_reducible repeat (first | apply Kd.R_alloc | apply Kd.R_drewN | apply Kd.R_drew)); exact HO273.out) (by decide)) hk (fun _ h => h.2)) (fun _ h => h.1)) <| p_ (KeepBut.trans tq_131 hk (.inl rfl)) <| p_ (hb) <| a_ (hi); clear BK270 HO273 HK HB HI0; obtain ⟨BK270, HO273, HK, HB, HI0⟩ := z_; (try clear hb); (try clear hb2); (try clear hk); (try clear hi); have hnb10 := NB270_0.out; have hnc10 := NB0_270.out; obtain ⟨hcz11_0, hcz11_1⟩ := bk2_ BK270.out; obtain ⟨hfz11_0, hfz11_1⟩ := bf2_ BK270.out))
 refine bodyPost_ret (results_cell_row rfl _ _ gb270 59 #[.int .i64 t274, .string t277] (0, 0) _ rfl (by (with_reducible repeat (first | refine blk_drewN ?_ _ | refine blk_drew ?_ | refine blk_alloc ?_ _)); refine blk_put (cs := #[.int .i64 t274, .string (⟨#[]⟩ : ByteArray)]) ?_ 1 _ rfl; (with_reducible repeat (first | refine blk_drewN ?_ _ | refine blk_drew ?_ | refine blk_alloc ?_ _)); refine blk_put (cs := #[.int .i64 0, .string (⟨#[]⟩ : ByteArray)]) ?_ 0 _ rfl; (with_reducible repeat (first | refine blk_drewN ?_ _ | refine blk_drew ?_ | refine blk_alloc ?_ _)); exact BK270.out) Try.underlying59 rfl (by kernel_rfl)) rfl ?_
 exact ⟨tq_11, tq_200, tq_201, tq_131⟩

end Go.Proofs.Ytcdnfkoahajhhaa.PFnEntries
