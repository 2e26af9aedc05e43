-- printed by a program of this session (wip/printx) out of the translation; Lean checks it
import Derived.Test.YtppmbdfbhahngaaVFnExactFairJoin
import Derived.Lib.Overlaps
import Derived.Laws.Externs
import Derived.Lib.SliceRun
import Derived.Lib.AppendZerosOnto
import Derived.Test.YtppmbdfbhahngaaPFnExactFairJoinx0
import Derived.Test.YtppmbdfbhahngaaPFnExactFairJoinx7
import Derived.Test.YtppmbdfbhahngaaPFnExactFairJoinx8
namespace Go.Proofs.Ytppmbdfbhahngaa.PFnExactFairJoin
open Go.RowKit Go.Proofs.YtppmbdfbhahngaaW.PrintWords Go.Proofs.YtppmbdfbhahngaaW.PrintLast Go.Proofs.YtppmbdfbhahngaaW.PrintMore
attribute [local go_sem] max2_int min2_int max_two min_two max_three min_three max_four min_four   -- for this text's walks alone
set_option linter.unusedVariables false
set_option linter.unusedSimpArgs false

/-! ### impl_Kid_46: function 46 (wip/hand) -/
set_option maxHeartbeats 4000000 in
set_option maxRecDepth 100000 in
theorem impl_Kid_46.ins_end {w0 W : World} (base n : Nat) (v : Value) (xs : List S46) (p : S46) (vs : List Value) (ok okp : Nat → Prop) (hn : n = xs.length) (hp : k46.M W base okp p vs) (hokp : ∀ k, okp k → ok k ∧ some k ≠ v.ownBlock) (hfresh : ∀ k, W.heap.size ≤ k → ok k)
    (HO : k46.R 46 W base ok v xs) (HB : Below base w0 W) (hbase : base ≤ W.heap.size) (hl : (xs.length + 1) * 48 ≤ 140737488355328) :
    Calls Try.prog 46 #[v, .int .i64 (n : Int), .slice (some ⟨W.heap.size, 0, none⟩) 1 1] (W.alloc (.cells vs.toArray 46)) fun e' w' => ∃ v1, e' = .returned v1 ∧ k46.R 46 w' base ok v1 (xs ++ [p]) ∧ Below base w0 w' ∧ W.grownBy w' v.ownBlock ∧ (v1.ownBlock = v.ownBlock ∨ ∃ b, v1.ownBlock = some b ∧ W.heap.size ≤ b) := by
  obtain ⟨A, c, rfl⟩ := Kd.R_slice HO
  obtain ⟨_, hnc, _⟩ := Kd.R_reads' HO
  have hml := own_long_ (Kd.R_own HO).choose_spec
  unfold maxLen at hml
  subst hn
  have hu := Try.underlying29
  have HA := Aside0.mk HO
  have HP := Aside0.mk hp
  have HK := Aside0.mk hokp
  have HF := Aside0.mk hfresh
  have HBB := Aside0.mk HB
  have HZ := Aside0.mk hbase
  have HL := Aside0.mk hl
  clear HO hp hokp hfresh HB hbase
  generalize hN : xs.length = n at *
  go_enter Try.func46, Try.ntmps46
  go_wp2_with ((with_reducible refine gate_builtin (b := .append) (xs := #[.tmp 23, .tmp 24]) rfl ?_); at_builtin; refine Kd.R_append k46 (w0 := w0) base rfl (.tmp 23) (.tmp 24) 29 46 (.agg #[.int .i64 0, .int .i64 0, .bool false, .int .i64 0, .int .i64 0, .int .i64 0]) 48 rfl Try.underlying29 info46 rfl (by decide) (by omega) _ xs p vs ok okp rfl rfl HP.out HK.out HF.out HA.out HBB.out HZ.out (by rw [hN]; exact HL.out) ?_)
  all_goals (intro v1 w1 ho hb hg hat; go_wp2; go_ret; exact ⟨v1, rfl, ho, hb, by cases A <;> exact hg, by cases A <;> exact hat⟩)
set_option maxHeartbeats 4000000 in
set_option maxRecDepth 100000 in
theorem impl_Kid_46.ins_shift (b n c i vb : Nat) (cs vs : List Value) (w : World) (hi : i < n) (hroom : n + 1 ≤ c) (hc63 : c ≤ 9223372036854775807) (hvb : vb ≠ b)
    (hcl : cs.length = n * 6) (hvl : vs.length = 6)
    (hcs : ∀ j v, cs[j]? = some v → w.cell? ⟨b, j, none⟩ = some v) (hsp : ∀ j, j < (n + 1) * 6 → (w.cell? ⟨b, j, none⟩).isSome = true) (hfz : ∀ j, w.frozen? ⟨b, j, none⟩ = false)
    (hvs : ∀ j v, vs[j]? = some v → w.cell? ⟨vb, j, none⟩ = some v) (h1c : ∀ v ∈ cs, v.oneCell' = true) (h1v : ∀ v ∈ vs, v.oneCell' = true)
    (tA tB : TypeId) (kA kB : Nat) (hsa : w.shape? vb = some (tA, kA)) (hsb : w.shape? b = some (tB, kB)) (hkB : kB ≠ 0) (hfa : ∀ j, w.frozen? ⟨vb, j, none⟩ = false) :
    Calls Try.prog 46 #[.slice (some ⟨b, 0, none⟩) n c, .int .i64 i, .slice (some ⟨vb, 0, none⟩) 1 1] w fun e w' =>
      e = .returned (.slice (some ⟨b, 0, none⟩) (n + 1) c) ∧ w' = (w.drew.setCells b ((i + 1) * 6) (cs.drop (i * 6))).setCells b (i * 6) vs := by
  have hz2 : ¬ ((i : Int) = (n : Int)) := by omega
  have hsz : (Try.prog.info? 46).map (·.size) = some 6 := by kernel_rfl
  have hov : ∀ lb cb, (callFunc 72 #[.slice (some ⟨vb, 0, none⟩) 1 1, .slice (some ⟨b, (i + 1) * 6, none⟩) lb cb]).run Try.prog w = .ok (.value (.bool false)) w := fun lb cb => by
    rw [run_callFunc_extern Try.func72 (by kernel_rfl) (by kernel_rfl) (by kernel_rfl) (e := Extern.SlicesOverlaps.overlaps #[29, 29] #[4]) (by kernel_rfl),
      Lib.run_overlaps_apart w 29 4 46 Try.underlying29 6 Try.sizeOf46 ⟨vb, 0, none⟩ ⟨b, (i + 1) * 6, none⟩ 1 1 lb cb hvb tA tB kA kB hsa hsb hkB (hfa _) (hfa _)]
    rfl
  have hu := Try.underlying29
  have hin : i ≤ n := by omega
  have hw1 : IntKind.i64.wrap ((i : Int) + 1) = (i : Int) + 1 := by rw [IntKind.wrap_i64]; omega
  have hw2 : IntKind.i64.wrap ((n : Int) + 1) = (n : Int) + 1 := by rw [IntKind.wrap_i64]; omega
  have hb1 : (0 : Int) ≤ (i : Int) + 1 := by omega
  have hb5 : (0 : Int) ≤ (n : Int) + 1 := by omega
  have htn : ((i : Int) + 1).toNat = i + 1 := by omega
  have htm : ((n : Int) + 1).toNat = n + 1 := by omega
  have hb2 : ¬ (c = i + 1) := by omega
  have hb3 : (i : Int) ≤ (n : Int) + 1 := by omega
  have hb4 : ¬ (c = i) := by omega
  have hb6 : (n : Int) + 1 ≤ (c : Int) := by omega
  have hb7 : i ≤ c := by omega
  have hb8 : i + 1 ≤ n + 1 := by omega
  have hdl : (cs.drop (i * 6)).length = (n - i) * 6 := by rw [List.length_drop, hcl]; omega
  have hcp1 : ∀ ty dc sc, (Builtin.copy_ #[29, 29] ty #[.slice (some ⟨b, (i + 1) * 6, none⟩) (n - i) dc, .slice (some ⟨b, i * 6, none⟩) (n + 1 - i) sc]).run Try.prog w.drew = .ok (goInt (n - i : Nat)) (w.drew.setCells b ((i + 1) * 6) (cs.drop (i * 6))) := fun ty dc sc =>
    run_copy_cellsK w.drew _ _ ty 46 6 b ((i + 1) * 6) (n - i) dc ⟨b, i * 6, none⟩ (n + 1 - i) sc (cs.drop (i * 6)) (n - i) Try.underlying29 hsz (by simp only [Nat.min_def]; split <;> omega) hdl
      (fun j v hj => by rw [Addr.add_lit]; exact hcs (i * 6 + j) v (by rwa [List.getElem?_drop] at hj))
      (fun j hj => hsp _ (by omega)) (fun j hj => hfz _) (fun v hv => h1c v (List.mem_of_mem_drop hv))
  obtain ⟨W1, hW1⟩ : ∃ W1, W1 = w.drew.setCells b ((i + 1) * 6) (cs.drop (i * 6)) := ⟨_, rfl⟩
  have hsp1 : ∀ k, k < (n + 1) * 6 → (W1.cell? ⟨b, k, none⟩).isSome = true := fun k hk => by
    rw [hW1]
    exact isSome_setCells_ b (cs.drop (i * 6)) ((i + 1) * 6) w.drew (fun j hj => hsp _ (by omega)) _ (hsp k hk)
  have hcp2 : ∀ ty dc, (Builtin.copy_ #[29, 29] ty #[.slice (some ⟨b, i * 6, none⟩) (n + 1 - i) dc, .slice (some ⟨vb, 0, none⟩) 1 1]).run Try.prog W1 = .ok (goInt 1) (W1.setCells b (i * 6) vs) := fun ty dc =>
    run_copy_cellsK W1 _ _ ty 46 6 b (i * 6) (n + 1 - i) dc ⟨vb, 0, none⟩ 1 1 vs 1 Try.underlying29 hsz (by simp only [Nat.min_def]; split <;> omega) hvl
      (fun j v hj => by
        rw [Addr.add_lit, Nat.zero_add, hW1, World.cell?_setCells_out b _ _ _ _ (fun h _ => absurd h hvb)]
        exact hvs j v hj)
      (fun j hj => hsp1 _ (by omega)) (fun j hj => by rw [hW1, World.frozen?_setCells]; exact hfz _) h1v
  rw [← hW1] at hcp1
  have HW := Aside0.mk hW1
  clear hcs hsp hfz hvs h1c h1v hsa hsb hfa hW1 hsp1 hcl hvl hdl
  go_enter Try.func46, Try.ntmps46
  go_wp2_with (simp only [hov])
  go_region_law (refine copy_step_ (by rfl) (.tmp 73) (.tmp 76) 29 29 rfl _ _ (by simp [Act.eval, Act.put]) (by simp [Act.eval, Act.put]) (hcp1 _ _ _) ?_)
  go_wp2_with (at_builtin; refine copy_list_ rfl (.tmp 80) (.tmp 81) 29 29 rfl _ _ rfl rfl (hcp2 _ _) ?_)
  go_ret
  exact ⟨rfl, by rw [HW.out]⟩
set_option maxHeartbeats 4000000 in
set_option maxRecDepth 100000 in
theorem impl_Kid_46.ins_grow (b n c i vb : Nat) (cs vs : List Value) (w : World) (hi : i < n) (hnc : n ≤ c) (hroom : c < n + 1) (hbig : (n + 1) * 48 ≤ 140737488355328)
    (hcl : cs.length = n * 6) (hvl : vs.length = 6)
    (hcs : ∀ j v, cs[j]? = some v → w.cell? ⟨b, j, none⟩ = some v)
    (hvs : ∀ j v, vs[j]? = some v → w.cell? ⟨vb, j, none⟩ = some v) (h1c : ∀ v ∈ cs, v.oneCell' = true) (h1v : ∀ v ∈ vs, v.oneCell' = true) :
    Calls Try.prog 46 #[.slice (some ⟨b, 0, none⟩) n c, .int .i64 i, .slice (some ⟨vb, 0, none⟩) 1 1] w fun e w' => ∃ G ROW, n + 1 ≤ G ∧ G ≤ maxLen ∧ ROW.size = G * 6 ∧ ROW.toList.take (i * 6) = cs.take (i * 6) ∧
      e = .returned (.slice (some ⟨w.heap.size, 0, none⟩) (n + 1) G) ∧ w' = (((w.alloc (.cells ROW 46)).drew.setCells w.heap.size (i * 6) vs).drew).setCells w.heap.size ((i + 1) * 6) (cs.drop (i * 6)) := by
  obtain ⟨i0, hi0, hz0, hzs, hzb⟩ := info_parts info46
  have hz2 : ¬ ((i : Int) = (n : Int)) := by omega
  have hz3 : (c : Int) < (n : Int) + 1 := by omega
  have hsz : (Try.prog.info? 46).map (·.size) = some 6 := by kernel_rfl
  have hu := Try.underlying29
  have hbw : b < w.heap.size := World.block_lt_of_cell? w _ (hcs 0 (cs[0]'(by omega)) (List.getElem?_eq_getElem (by omega)))
  have hvw : vb < w.heap.size := World.block_lt_of_cell? w _ (hvs 0 (vs[0]'(by omega)) (List.getElem?_eq_getElem (by omega)))
  have hkk : (n : Int) + 1 - (i : Int) = ((n + 1 - i : Nat) : Int) := by omega
  have hik : i + (n + 1 - i) = n + 1 := by omega
  have hold : (Builtin.firstCells i0.size i (.slice (some ⟨b, 0, none⟩) i c)).run Try.prog w.drew = .ok (cs.take (i * 6)).toArray w.drew := by
    rw [hzs]
    exact run_firstCells_some w.drew 6 i ⟨b, 0, none⟩ i c (cs.take (i * 6)) (by rw [List.length_take]; omega) (fun j v hj => by
      rw [Addr.add_lit, Nat.zero_add]
      rw [List.getElem?_take] at hj
      split at hj
      · exact hcs j v hj
      · cases hj)
  obtain ⟨G, hG⟩ : ∃ G, G = grownCap w (n + 1) c 46 := ⟨_, rfl⟩
  have hGn : n + 1 ≤ G := by rw [hG]; exact grownCap_ge w _ _ _
  have hGm : G ≤ maxLen := by rw [hG]; exact grownCap_le_maxLen w (n + 1) c 46 (by unfold maxLen; omega)
  have hG63 : G ≤ 9223372036854775807 := by unfold maxLen at hGm; omega
  obtain ⟨ROW, hROW⟩ : ∃ ROW : Array Value, ROW = (cs.take (i * 6)).toArray ++ Builtin.zeroCells (Value.agg #[.int .i64 0, .int .i64 0, .bool false, .int .i64 0, .int .i64 0, .int .i64 0]).cells (n + 1 - i) ++ Builtin.zeroCells (Value.agg #[.int .i64 0, .int .i64 0, .bool false, .int .i64 0, .int .i64 0, .int .i64 0]).cells (G - (n + 1)) := ⟨_, rfl⟩
  have hrz : ∀ ty, (Builtin.append_ #[29, 3] ty #[.slice (some ⟨b, 0, none⟩) i c, .int .i64 ((n : Int) + 1 - (i : Int))]).run Try.prog w =
      .ok (.slice (some ⟨w.heap.size, 0, none⟩) (n + 1) G) (w.drew.alloc (.cells ROW 46)) := fun ty => by
    have h := Lib.run_append_grow_zeros w 29 3 ty 46 i0 _ .i64 .i64 Try.underlying29 Try.underlying3 hi0 hz0 (some ⟨b, 0, none⟩) i c (cs.take (i * 6)) hold (n + 1 - i) (by omega) (by omega) (by omega) (by omega) (by rw [hzb]; omega) (by rw [hzb, hik]; exact growslice_fits hroom hbig)
    rw [hik] at h
    rw [hkk, h, hROW, hG]
  have hzl : ∀ q, (Builtin.zeroCells (Value.agg #[.int .i64 0, .int .i64 0, .bool false, .int .i64 0, .int .i64 0, .int .i64 0]).cells q).size = 6 * q := fun q => by simp [Builtin.zeroCells, Value.cells]; omega
  have hRs : ROW.size = G * 6 := by
    rw [hROW, Array.size_append, Array.size_append, hzl, hzl]
    simp only [List.size_toArray, List.length_take]
    omega
  have hRt : ROW.toList.take (i * 6) = cs.take (i * 6) := by
    rw [hROW, Array.toList_append, Array.toList_append, List.append_assoc]
    exact List.take_left' (by simp only [List.length_take]; omega)
  obtain ⟨W1, hW1⟩ : ∃ W1, W1 = (w.alloc (.cells ROW 46)).drew := ⟨_, rfl⟩
  have hN : ∀ j, j < (n + 1) * 6 → (W1.cell? ⟨w.heap.size, j, none⟩).isSome = true := fun j hj => by
    rw [hW1]
    show ((w.alloc (.cells ROW 46)).cell? ⟨w.heap.size, j, none⟩).isSome = true
    rw [World.cell?_alloc_at (w := w) ROW _ w.heap.size j rfl, Array.getElem?_eq_getElem (by omega)]; rfl
  have hNf : ∀ j, W1.frozen? ⟨w.heap.size, j, none⟩ = false := fun j => by rw [hW1]; exact World.frozen?_alloc_at (w := w) ROW _ w.heap.size j rfl
  have hOb : ∀ j v, w.cell? ⟨b, j, none⟩ = some v → W1.cell? ⟨b, j, none⟩ = some v := fun j v h => by rw [hW1]; show (w.alloc (.cells ROW 46)).cell? ⟨b, j, none⟩ = some v; rw [World.cell?_alloc_past (w := w) _ b j hbw]; exact h
  have hOv : ∀ j v, w.cell? ⟨vb, j, none⟩ = some v → W1.cell? ⟨vb, j, none⟩ = some v := fun j v h => by rw [hW1]; show (w.alloc (.cells ROW 46)).cell? ⟨vb, j, none⟩ = some v; rw [World.cell?_alloc_past (w := w) _ vb j hvw]; exact h
  have hbN : b ≠ w.heap.size := by omega
  have hdl : (cs.drop (i * 6)).length = (n - i) * 6 := by rw [List.length_drop, hcl]; omega
  have hcpA : ∀ (W : World), (∀ x, W.cell? x = W1.cell? x) → (∀ x, W.frozen? x = W1.frozen? x) → ∀ ty dc, (Builtin.copy_ #[29, 29] ty #[.slice (some ⟨w.heap.size, i * 6, none⟩) (n + 1 - i) dc, .slice (some ⟨vb, 0, none⟩) 1 1]).run Try.prog W = .ok (goInt (1 : Nat)) (W.setCells w.heap.size (i * 6) vs) := fun W hWc hWf ty dc =>
    run_copy_cellsK W _ _ ty 46 6 w.heap.size (i * 6) (n + 1 - i) dc ⟨vb, 0, none⟩ 1 1 vs 1 Try.underlying29 hsz (by simp only [Nat.min_def]; split <;> omega) hvl
      (fun j v hj => by rw [Addr.add_lit, Nat.zero_add, hWc]; exact hOv _ v (hvs j v hj))
      (fun j hj => by rw [hWc]; exact hN _ (by omega)) (fun j hj => by rw [hWf]; exact hNf _) h1v
  have hcpB : ∀ (W : World), (∀ x, W.cell? x = (W1.setCells w.heap.size (i * 6) vs).cell? x) → (∀ x, W.frozen? x = (W1.setCells w.heap.size (i * 6) vs).frozen? x) → ∀ ty dc sc, (Builtin.copy_ #[29, 29] ty #[.slice (some ⟨w.heap.size, (i + 1) * 6, none⟩) (n - i) dc, .slice (some ⟨b, i * 6, none⟩) (n - i) sc]).run Try.prog W = .ok (goInt (n - i : Nat)) (W.setCells w.heap.size ((i + 1) * 6) (cs.drop (i * 6))) := fun W hWc hWf ty dc sc =>
    run_copy_cellsK W _ _ ty 46 6 w.heap.size ((i + 1) * 6) (n - i) dc ⟨b, i * 6, none⟩ (n - i) sc (cs.drop (i * 6)) (n - i) Try.underlying29 hsz (by simp only [Nat.min_def]; split <;> omega) hdl
      (fun j v hj => by
        rw [Addr.add_lit, hWc, World.cell?_setCells_out _ _ _ _ _ (fun h _ => absurd h hbN)]
        exact hOb _ v (hcs (i * 6 + j) v (by rwa [List.getElem?_drop] at hj)))
      (fun j hj => by rw [hWc]; exact isSome_setCells_ _ _ _ _ (fun t ht => hN _ (by omega)) _ (hN _ (by omega)))
      (fun j hj => by rw [hWf, World.frozen?_setCells]; exact hNf _) (fun v hv => h1c v (List.mem_of_mem_drop hv))
  subst hW1
  have hGi : ¬ (G = i) := by omega
  have hGim : ¬ (G = i + 1) := by omega
  have hci : ¬ (c = i) := by omega
  have hE1 : ∀ x, ((w.alloc (.cells ROW 46)).drew).cell? x = (w.drew.alloc (.cells ROW 46)).cell? x := fun x => rfl
  have hin : i ≤ n := by omega
  have hic : i ≤ c := by omega
  have hw1 : IntKind.i64.wrap ((i : Int) + 1) = (i : Int) + 1 := by rw [IntKind.wrap_i64]; omega
  have hw2 : IntKind.i64.wrap ((n : Int) + 1) = (n : Int) + 1 := by rw [IntKind.wrap_i64]; omega
  have hw3 : IntKind.i64.wrap ((n : Int) + 1 - (i : Int)) = (n : Int) + 1 - (i : Int) := by rw [IntKind.wrap_i64]; omega
  have hb1 : (0 : Int) ≤ (i : Int) + 1 := by omega
  have htn : ((i : Int) + 1).toNat = i + 1 := by omega
  have hb3 : (i : Int) ≤ (n : Int) := by omega
  have hb4 : (i : Int) ≤ (n : Int) + 1 := by omega
  have hb8 : i + 1 ≤ n + 1 := by omega
  have HR := Aside0.mk hRs
  have HT := Aside0.mk hRt
  have HGm := Aside0.mk hGm
  clear hkk hik hold hROW hG hRs hRt hGm hzl hcs hvs h1c h1v hN hNf hOb hOv hdl hcl hvl hzb hz0 hi0
  go_enter Try.func46, Try.ntmps46
  go_wp2_with (first
    | ((with_reducible refine gate_builtin (b := .append) (xs := #[.tmp 34, .tmp 39]) rfl ?_); at_builtin; refine Lib.wpList_append_run _ rfl _ _ _ _ rfl _ _ rfl rfl _ _ (hrz _) ?_)
    | ((with_reducible refine gate_builtin (b := .copy) (xs := #[.tmp 43, .tmp 44]) rfl ?_); refine copy_list_ rfl (.tmp 43) (.tmp 44) 29 29 rfl _ _ rfl rfl (hcpA _ (fun _ => rfl) (fun _ => rfl) _ _) ?_))
  go_region_law (refine copy_step_ (by rfl) (.tmp 50) (.tmp 53) 29 29 rfl (.slice (some ⟨w.heap.size, (i + 1) * 6, none⟩) (n - i) (G - (i + 1))) (.slice (some ⟨b, i * 6, none⟩) (n - i) (c - i)) (by simp [Act.eval, Act.put]) (by simp [Act.eval, Act.put]) (hcpB (((w.alloc (.cells ROW 46)).drew.setCells w.heap.size (i * 6) vs).drew) (fun _ => rfl) (fun _ => rfl) 3 (G - (i + 1)) (c - i)) ?_)
  go_wp2
  go_ret
  exact ⟨G, ROW, hGn, HGm.out, HR.out, HT.out, rfl, rfl⟩
theorem impl_Kid_46.calls {w0 W : World} (base : Nat) (v : Value) (xs : List S46) (i : Int) (p : S46) (vs : List Value) (ok okp : Nat → Prop) (g1 : Nat) (hg1 : g1 = W.heap.size) (h0 : 0 ≤ i) (hi : i ≤ (xs.length : Int)) (hp : k46.M W base okp p vs) (hokp : ∀ k, okp k → ok k ∧ some k ≠ v.ownBlock) (hfresh : ∀ k, W.heap.size ≤ k → ok k)
    (HO : k46.R 46 W base ok v xs) (HB : Below base w0 W) (hbase : base ≤ W.heap.size) (hl : (xs.length + 1) * 48 ≤ 140737488355328) :
    Calls Try.prog 46 #[v, .int .i64 i, .slice (some ⟨g1, 0, none⟩) 1 1] (W.alloc (.cells vs.toArray 46)) fun e' w' => ∃ v1, e' = .returned v1 ∧ k46.R 46 w' base ok v1 (xs.take i.toNat ++ p :: xs.drop i.toNat) ∧ Below base w0 w' ∧ W.grownBy w' v.ownBlock ∧ (v1.ownBlock = v.ownBlock ∨ ∃ b, v1.ownBlock = some b ∧ W.heap.size ≤ b) := by
  subst hg1
  obtain ⟨k, rfl⟩ : ∃ k : Nat, i = (k : Int) := ⟨i.toNat, by omega⟩
  rw [Int.toNat_natCast]
  have hk : k ≤ xs.length := by omega
  by_cases he : k = xs.length
  · refine (impl_Kid_46.ins_end base k v xs p vs ok okp he hp hokp hfresh HO HB hbase hl).mono ?_
    rintro e' w' ⟨v1, rfl, hr, hb, hg, hat⟩
    rw [he, List.take_length, List.drop_length]
    exact ⟨v1, rfl, hr, hb, hg, hat⟩
  · have HO' := HO
    obtain ⟨hok, inner, hown, hr⟩ := HO
    have hown' := hown
    rcases hown.2 with ⟨_, hx0⟩ | ⟨g, c, cur, rfl, hgb, hh, hnc, hcm, hcs, htake⟩
    · omega
    have hin : inner.length = xs.length * 6 := hr.1
    have hvl : vs.length = 6 := k46.K_len (k46.K_of_M hp)
    have hob : (Value.slice (some ⟨g, 0, none⟩) xs.length c).ownBlock = some g := by simp [Value.ownBlock]
    have hgw : g < W.heap.size := Kd.R_lt HO' g hob
    have hne : W.heap.size ≠ g := by omega
    have htk : cur.toList.take (xs.length * 6) = inner := htake
    have hszc : cur.size = c * 6 := hcs
    obtain ⟨w, hw⟩ : ∃ w, w = W.alloc (.cells vs.toArray 46) := ⟨_, rfl⟩
    have hws : w.heap.size = W.heap.size + 1 := by rw [hw]; simp only [World.alloc, Array.size_push]
    have hwg : w.heap[g]? = some (.cells cur 46 (0, 0)) := by rw [hw]; exact blk_alloc hh _
    have hwn : w.heap[W.heap.size]? = some (.cells vs.toArray 46 (0, 0)) := by rw [hw]; exact heap_alloc_new W _
    have hwo : ∀ q, q < W.heap.size → w.heap[q]? = W.heap[q]? := fun q hq => by rw [hw]; simp only [World.alloc, Array.getElem?_push, Nat.ne_of_lt hq, if_false]
    have hcs1 : ∀ j u, inner[j]? = some u → w.cell? ⟨g, j, none⟩ = some u := fun j u hj => by
      rw [cell_of_row w g _ cur 46 (0, 0) hwg, ← Array.getElem?_toList]
      have hj1 : j < inner.length := (List.getElem?_eq_some_iff.1 hj).1
      rw [← htk, List.getElem?_take, if_pos (by omega)] at hj
      exact hj
    have hvs1 : ∀ j u, vs[j]? = some u → w.cell? ⟨W.heap.size, j, none⟩ = some u := fun j u hj => by
      rw [cell_of_row w W.heap.size _ vs.toArray 46 (0, 0) hwn]
      simpa using hj
    have h1v : ∀ u ∈ vs, u.oneCell' = true := k46.K_one (k46.K_of_M hp)
    have h1c : ∀ u ∈ inner, u.oneCell' = true := fun u hu => by
      obtain ⟨q, hq, rfl⟩ := List.mem_iff_getElem.1 hu
      have hql : q / 6 < xs.length := by rw [Nat.div_lt_iff_lt_mul (by omega)]; omega
      refine k46.K_one (k46.K_of_M (hr.2 (q / 6) _ (List.getElem?_eq_getElem hql))) _ ?_
      rw [List.mem_iff_getElem?]
      refine ⟨q % 6, ?_⟩
      show (List.take 6 (List.drop (q / 6 * 6) inner))[q % 6]? = _
      rw [List.getElem?_take, if_pos (Nat.mod_lt _ (by omega)), List.getElem?_drop, Nat.mul_comm, Nat.div_add_mod, List.getElem?_eq_getElem hq]
    rw [← hw]
    have hks : (k + 1) * 6 ≤ xs.length * 6 := Nat.mul_le_mul_right _ (by omega)
    have hncs : xs.length * 6 ≤ c * 6 := Nat.mul_le_mul_right _ hnc
    have hdl : (inner.drop (k * 6)).length = (xs.length - k) * 6 := by rw [List.length_drop, hin]; omega
    have hct : cur.toList.take (k * 6) = inner.take (k * 6) := by rw [← htk, List.take_take, Nat.min_eq_left (by omega)]
    by_cases hroom : xs.length + 1 ≤ c
    · have hrs : (xs.length + 1) * 6 ≤ c * 6 := Nat.mul_le_mul_right _ hroom
      refine (impl_Kid_46.ins_shift g xs.length c k W.heap.size inner vs w (by omega) hroom (by unfold maxLen at hcm; omega) hne hin hvl hcs1 (fun j hj => by rw [cell_of_row w g _ cur 46 (0, 0) hwg]; simp; omega) (fun j => blk_frozen hwg _) hvs1 h1c h1v 46 46 vs.toArray.size cur.size
        (by unfold World.shape?; rw [hwn]) (by unfold World.shape?; rw [hwg]) (by omega) (fun j => blk_frozen hwn _)).mono ?_
      rintro e' w' ⟨rfl, hw'⟩
      have hwd : w.drew.heap[g]? = some (.cells cur 46 (0, 0)) := hwg
      obtain ⟨cur1, a1, a2, a3⟩ := setCells_row (inner.drop (k * 6)) ((k + 1) * 6) w.drew cur hwd (by rw [hdl]; omega)
      obtain ⟨cur2, b1, b2, b3⟩ := setCells_row vs (k * 6) _ cur1 a1 (by rw [a2, hvl]; omega)
      rw [← hw'] at b1
      have hfar : ∀ q, q < W.heap.size → some q ≠ some g → w'.heap[q]? = W.heap[q]? := fun q hq hn => by
        have hq' : q ≠ g := fun h => hn (by rw [h])
        rw [hw', setCells_far _ _ q hq', setCells_far _ _ q hq']
        exact hwo q hq
      have hG : W.grownBy w' (some g) := by
        obtain ⟨s1, s2, s3, s4⟩ := setCells_same g vs (k * 6) (w.drew.setCells g ((k + 1) * 6) (inner.drop (k * 6)))
        obtain ⟨t1, t2, t3, t4⟩ := setCells_same g (inner.drop (k * 6)) ((k + 1) * 6) w.drew
        rw [hw']
        refine ⟨?_, ?_, ?_, ?_, ?_⟩
        · rw [s1, t1, hw]; rfl
        · rw [s2, t2, hw]; rfl
        · rw [s3, t3, hw]; rfl
        · rw [s4, t4]; show W.heap.size ≤ w.heap.size; omega
        · rw [← hw']; exact hfar
      refine ⟨_, rfl, R_ins_ k46 (cur' := cur2) hown' hr hp hokp hk (by rw [hob]; exact hfar) hgb (hok g hob) (.inl hob) b1 hroom hcm (by rw [b2, a2, hszc]; rfl) ?_, HB.grown hG hbase (fun q hq => by injection hq with hq; subst hq; exact hgb), by rw [hob]; exact hG, .inl (by simp [Value.ownBlock])⟩
      show cur2.toList.take ((xs.length + 1) * 6) = inner.take (k * 6) ++ (vs ++ inner.drop (k * 6))
      have e1 : cur1.toList.take (k * 6) = inner.take (k * 6) := by
        rw [a3, List.append_assoc, List.take_append_of_le_length (by rw [List.length_take, Array.length_toList]; omega), List.take_take, Nat.min_eq_left (by omega), hct]
      have e2 : cur1.toList.drop (k * 6 + vs.length) = inner.drop (k * 6) ++ cur.toList.drop ((k + 1) * 6 + (inner.drop (k * 6)).length) := by
        have hlt : (cur.toList.take ((k + 1) * 6)).length = (k + 1) * 6 := by rw [List.length_take, Array.length_toList, hszc]; omega
        rw [a3, List.append_assoc, List.drop_append_of_le_length (by rw [hlt, hvl]; omega), List.drop_of_length_le (by rw [hlt, hvl]; omega), List.nil_append]
      rw [b3, e1, e2, List.append_assoc, ← List.append_assoc vs, ← List.append_assoc (inner.take (k * 6))]
      exact List.take_left' (by simp only [List.length_append, List.length_take, hdl, hvl]; omega)
    · have hce : c = xs.length := by omega
      refine (impl_Kid_46.ins_grow g xs.length c k W.heap.size inner vs w (by omega) hnc (by omega) hl hin hvl hcs1 hvs1 h1c h1v).mono ?_
      rintro e' w' ⟨G, ROW, hG1, hG2, hRs, hRt, rfl, hw'⟩
      have hwd : ((w.alloc (.cells ROW 46)).drew).heap[w.heap.size]? = some (.cells ROW 46 (0, 0)) := heap_alloc_new w _
      obtain ⟨cur1, a1, a2, a3⟩ := setCells_row vs (k * 6) _ ROW hwd (by rw [hvl, hRs]; have : (xs.length + 1) * 6 ≤ G * 6 := Nat.mul_le_mul_right _ hG1; omega)
      have a1' : ((((w.alloc (.cells ROW 46)).drew.setCells w.heap.size (k * 6) vs).drew)).heap[w.heap.size]? = some (.cells cur1 46 (0, 0)) := a1
      obtain ⟨cur2, b1, b2, b3⟩ := setCells_row (inner.drop (k * 6)) ((k + 1) * 6) _ cur1 a1' (by rw [a2, hdl, hRs]; have : (xs.length + 1) * 6 ≤ G * 6 := Nat.mul_le_mul_right _ hG1; omega)
      rw [← hw'] at b1
      have hGs : (xs.length + 1) * 6 ≤ G * 6 := Nat.mul_le_mul_right _ hG1
      have hall : ∀ q, q < W.heap.size → w'.heap[q]? = W.heap[q]? := fun q hq => by
        have hq' : q ≠ w.heap.size := by omega
        rw [hw', setCells_far _ _ q hq']
        show ((w.alloc (.cells ROW 46)).drew.setCells w.heap.size (k * 6) vs).heap[q]? = _
        rw [setCells_far _ _ q hq']
        show (w.alloc (.cells ROW 46)).heap[q]? = _
        simp only [World.alloc, Array.getElem?_push, Nat.ne_of_lt (show q < w.heap.size by omega), if_false]
        exact hwo q hq
      have hGr : ∀ row, W.grownBy w' row := fun row => by
        obtain ⟨s1, s2, s3, s4⟩ := setCells_same w.heap.size (inner.drop (k * 6)) ((k + 1) * 6) (((w.alloc (.cells ROW 46)).drew.setCells w.heap.size (k * 6) vs).drew)
        obtain ⟨t1, t2, t3, t4⟩ := setCells_same w.heap.size vs (k * 6) (w.alloc (.cells ROW 46)).drew
        rw [hw']
        refine ⟨?_, ?_, ?_, ?_, ?_⟩
        · rw [s1]; show (((w.alloc (.cells ROW 46)).drew).setCells w.heap.size (k * 6) vs).os = _; rw [t1, hw]; rfl
        · rw [s2]; show (((w.alloc (.cells ROW 46)).drew).setCells w.heap.size (k * 6) vs).tape = _; rw [t2, hw]; rfl
        · rw [s3]; show (((w.alloc (.cells ROW 46)).drew).setCells w.heap.size (k * 6) vs).output = _; rw [t3, hw]; rfl
        · rw [s4]; show _ ≤ (((w.alloc (.cells ROW 46)).drew).setCells w.heap.size (k * 6) vs).heap.size; rw [t4]; show _ ≤ (w.alloc (.cells ROW 46)).heap.size; simp only [World.alloc, Array.size_push]; omega
        · rw [← hw']; exact fun q hq _ => hall q hq
      refine ⟨_, rfl, R_ins_ k46 (cur' := cur2) hown' hr hp hokp hk (fun q hq _ => hall q hq) (by omega) (hfresh _ (by omega)) (.inr (by omega)) b1 hG1 hG2 (by rw [b2, a2, hRs]; rfl) ?_, HB.grown (hGr none) hbase (fun q hq => by cases hq), hGr _, .inr ⟨w.heap.size, by simp [Value.ownBlock], by omega⟩⟩
      show cur2.toList.take ((xs.length + 1) * 6) = inner.take (k * 6) ++ (vs ++ inner.drop (k * 6))
      have e1 : cur1.toList.take ((k + 1) * 6) = inner.take (k * 6) ++ vs := by
        rw [a3, hRt]
        exact List.take_left' (by simp only [List.length_append, List.length_take, hvl]; omega)
      rw [b3, e1, ← List.append_assoc (inner.take (k * 6))]
      exact List.take_left' (by simp only [List.length_append, List.length_take, hdl, hvl]; omega)

/-! ### impl_FairJoin: function 15 -/
mutual
def impl_FairJoin.j0 : Nat → Int → Int → Bool → Int → Int → Int → Int → List (S46) → Option (Int × Int × Int × Int × (List (S46)) × Int)
  | 0, _, _, _, _, _, _, _, _ => none
  | k + 1, x1, x2, x10, x273000, x273001, x273002, x273003, x273004 => if x10 = true then (some (0, 0, 0, 0, ([] : List (S46)), 1)) else ((impl_Fair_at.f x273000 x273001 x273002 x273003 x273004 x1).bind fun t277 => (if t277 ≥ 0 then (some (0, 0, 0, 0, ([] : List (S46)), 2)) else (if (x273004.length : Int) = 48 then (some (0, 0, 0, 0, ([] : List (S46)), 3)) else (impl_FairJoin.l0 k x1 x2 0 x273000 x273001 x273002 x273003 x273004))))
def impl_FairJoin.l0 : Nat → Int → Int → Int → Int → Int → Int → Int → List (S46) → Option (Int × Int × Int × Int × (List (S46)) × Int)
  | 0, _, _, _, _, _, _, _, _ => none
  | k + 1, x1, x2, x8, x273000, x273001, x273002, x273003, x273004 => if x8 < (x273004.length : Int) then (if 0 ≤ x8 then (if ((rd_T46 x273004 x8).f0) < x1 then (impl_FairJoin.l0 k x1 x2 (wrap64 (x8 + 1)) x273000 x273001 x273002 x273003 x273004) else ((impl_copyFair.f x273000 x273001 x273002 x273003 x273004).bind fun bt279 => (if x8 ≤ (bt279.2.2.2.2.length : Int) then (if bt279.2.2.2.2.length < 2932031007402 then (some (bt279.1, bt279.2.1, bt279.2.2.1, bt279.2.2.2.1, (bt279.2.2.2.2.take (x8 : Int).toNat ++ (⟨x1, x2, false, (⟨0, 0, 0⟩ : S28)⟩ : S46) :: bt279.2.2.2.2.drop (x8 : Int).toNat), 0)) else (none)) else (none)))) else (none)) else ((impl_copyFair.f x273000 x273001 x273002 x273003 x273004).bind fun bt290 => (if 0 ≤ x8 then (if x8 ≤ (bt290.2.2.2.2.length : Int) then (if bt290.2.2.2.2.length < 2932031007402 then (some (bt290.1, bt290.2.1, bt290.2.2.1, bt290.2.2.2.1, (bt290.2.2.2.2.take (x8 : Int).toNat ++ (⟨x1, x2, false, (⟨0, 0, 0⟩ : S28)⟩ : S46) :: bt290.2.2.2.2.drop (x8 : Int).toNat), 0)) else (none)) else (none)) else (none)))
end
def impl_FairJoin.f (k : Nat) (a0_0 : Int) (a0_1 : Int) (a0_2 : Int) (a0_3 : Int) (l0_4 : List (S46)) (a1 : Int) (a2 : Int) : Option (Int × Int × Int × Int × (List (S46)) × Int) := (impl_FairOk.f k a0_0 a0_1 a0_2 a0_3 l0_4).bind fun t274 => (if t274 = true then ((impl_isFlow.f a1).bind fun t275 => (if t275 = true then ((impl_isWeight.f a2).bind fun t276 => (impl_FairJoin.j0 k a1 a2 (!t276) a0_0 a0_1 a0_2 a0_3 l0_4)) else (impl_FairJoin.j0 k a1 a2 true a0_0 a0_1 a0_2 a0_3 l0_4))) else (impl_FairJoin.j0 k a1 a2 true a0_0 a0_1 a0_2 a0_3 l0_4))
theorem impl_FairJoin.mono_l : ∀ k, (∀ y0 y1 y2 y3 y4 y5 y6 y7, LeO (impl_FairJoin.j0 k y0 y1 y2 y3 y4 y5 y6 y7) (impl_FairJoin.j0 (k + 1) y0 y1 y2 y3 y4 y5 y6 y7)) ∧ (∀ y0 y1 y2 y3 y4 y5 y6 y7, LeO (impl_FairJoin.l0 k y0 y1 y2 y3 y4 y5 y6 y7) (impl_FairJoin.l0 (k + 1) y0 y1 y2 y3 y4 y5 y6 y7))
 | 0 => ⟨fun _ _ _ _ _ _ _ _ r h => by simp [impl_FairJoin.j0] at h, fun _ _ _ _ _ _ _ _ r h => by simp [impl_FairJoin.l0] at h⟩
 | k + 1 => by
  obtain ⟨ih0, ih1⟩ := impl_FairJoin.mono_l k
  refine ⟨?_, ?_⟩ <;> intros <;> (first | unfold impl_FairJoin.j0 | unfold impl_FairJoin.l0) <;> repeat' (first | (with_reducible exact ih0 ..) | (with_reducible exact ih1 ..) | (with_reducible exact impl_FairOk.mono _ _ _ _ _ _) | (with_reducible exact LeO.refl _) | (with_reducible exact LeO.none _) | (with_reducible refine LeO.ite ?_ ?_) | (with_reducible refine LeO.bind ?_ (fun _ => ?_)) | exact ih0 .. | exact ih1 .. | exact impl_FairOk.mono _ _ _ _ _ _ | exact LeO.none _ | refine LeO.ite ?_ ?_ | refine LeO.bind ?_ (fun _ => ?_))
theorem impl_FairJoin.mono : ∀ a0 a1 a2 a3 a4 a5 a6 k, LeO (impl_FairJoin.f k a0 a1 a2 a3 a4 a5 a6) (impl_FairJoin.f (k + 1) a0 a1 a2 a3 a4 a5 a6) := by
 intro a0 a1 a2 a3 a4 a5 a6 k
 obtain ⟨ih0, ih1⟩ := impl_FairJoin.mono_l k
 unfold impl_FairJoin.f
 repeat' (first | (with_reducible exact ih0 ..) | (with_reducible exact ih1 ..) | (with_reducible exact impl_FairOk.mono _ _ _ _ _ _) | (with_reducible exact LeO.refl _) | (with_reducible exact LeO.none _) | (with_reducible refine LeO.ite ?_ ?_) | (with_reducible refine LeO.bind ?_ (fun _ => ?_)) | exact ih0 .. | exact ih1 .. | exact impl_FairOk.mono _ _ _ _ _ _ | exact LeO.none _ | refine LeO.ite ?_ ?_ | refine LeO.bind ?_ (fun _ => ?_))
set_option maxHeartbeats 8000000 in
set_option maxRecDepth 100000 in
theorem impl_FairJoin.calls (k : Nat) (a0_0 : Int) (a0_1 : Int) (a0_2 : Int) (a0_3 : Int) (A0_4 : Option Addr) (c0_4 : Nat) (l0_4 : List (S46)) (a1 : Int) (a2 : Int) (r1 : Int) (r2 : Int) (r3 : Int) (r4 : Int) (r5 : List (S46)) (r6 : Int) (w : World) (hr0_4 : Kd.C k46 w A0_4 l0_4.length l0_4) (hc0_4 : l0_4.length ≤ c0_4) (h : impl_FairJoin.f k a0_0 a0_1 a0_2 a0_3 l0_4 a1 a2 = some (r1, r2, r3, r4, r5, r6)) :
  Calls Try.prog 15 #[.agg #[.int .i64 a0_0, .int .i64 a0_1, .int .i64 a0_2, .int .i64 a0_3, .slice A0_4 l0_4.length c0_4], .int .i64 a1, .int .i64 a2] w fun e w' => ∃ v4_ : Value, e = .returned (.tuple #[.agg #[.int .i64 r1, .int .i64 r2, .int .i64 r3, .int .i64 r4, v4_], .int .i64 r6]) ∧ Kd.R k46 46 w' w.heap.size (fun _ => True) v4_ r5 ∧ Below w.heap.size w w' := by
 have hu31 := Try.underlying31; have hu46 := Try.underlying46
 have HR0_4 := Aside0.mk hr0_4
 have HC0_4 := Aside0.mk hc0_4
 clear hr0_4 hc0_4; have HB := Aside0.mk (Below.refl w.heap.size w)
 have H := h
 clear h
 unfold impl_FairJoin.f at H
 have HC4 := Aside0.mk H
 clear H
 go_enter Try.func15, Try.ntmps15
 go_upto_region 1 with (first | ((with_reducible refine gd_ 3 rfl ?_); refine bv_ 3 #[.int .i64 a0_0, .int .i64 a0_1, .int .i64 a0_2, .int .i64 a0_3, .slice A0_4 l0_4.length c0_4] 31 ?_; intro gb272 hg w5 hbox hb; have BK272 := Aside0.mk (hbox); have GW272 := gw_ HB hg; have GE272 := gw_ HB hg; replace HB := Aside0.mk (below_step (be_ HB) hb); clear hb hbox hg) | ((with_reducible refine gd_ 6 rfl ?_); refine bv_ 6 #[.int .i64 0, .int .i64 0, .int .i64 0, .int .i64 0, .slice none 0 0] 31 ?_; intro gb273 hg w6 hbox hb; have BK273 := Aside0.mk (hbox); have GW273 := gw_ HB hg; have GE273 := gw_ HB hg; replace HB := Aside0.mk (below_step (bf_ HB) hb); have NB272_273 := nl_ BK272 hg; have NB273_272 := ng_ BK272 hg; replace BK272 := bb_ BK272 hb; clear hb hbox hg))
 (try simp only [Act.put, ls0_, ls1_, ls2_])
 go_cut [10] (fun v10 wc => ∃ (kq : Nat) (x10_3 : Bool), v10 = .bool x10_3 ∧ Aside0 (impl_FairJoin.j0 kq a1 a2 x10_3 a0_0 a0_1 a0_2 a0_3 l0_4 = some (r1, r2, r3, r4, r5, r6)) ∧ Aside0 (kq ≤ k) ∧ Aside0 (wc.heap[gb272]? = some (.cells #[.int .i64 a0_0, .int .i64 a0_1, .int .i64 a0_2, .int .i64 a0_3, (.slice A0_4 l0_4.length c0_4)] 31 (0, 0))) ∧ Aside0 (wc.heap[gb273]? = some (.cells #[.int .i64 0, .int .i64 0, .int .i64 0, .int .i64 0, (.slice none 0 0)] 31 (0, 0))) ∧ Aside0 (Below w.heap.size w wc))
 case first =>
  have H := HC4.out
  clear HC4
  replace H := Option.bind_eq_some_iff.mp H
  obtain ⟨t274, A70, H⟩ := H
  have A7 := Aside0.mk A70
  clear A70
  by_cases c8 : t274 = true
  ·subst c8
   rw [if_pos rfl] at H
   replace H := Option.bind_eq_some_iff.mp H
   obtain ⟨t275, A90, H⟩ := H
   have A9 := Aside0.mk A90
   clear A90
   by_cases c10 : t275 = true
   ·subst c10
    rw [if_pos rfl] at H
    replace H := Option.bind_eq_some_iff.mp H
    obtain ⟨t276, A110, H⟩ := H
    have A11 := Aside0.mk A110
    clear A110
    have H' := Aside0.mk H
    clear H; have hnb12 := NB272_273.out; have hnc12 := NB273_272.out; obtain ⟨hcz13_0, hcz13_1, hcz13_2, hcz13_3, hcz13_4, hfz13_0, hfz13_1, hfz13_2, hfz13_3, hfz13_4⟩ := bz5_ BK272
    go_wp2_with (first | ((with_reducible refine gc_ 21 rfl ?_); refine gl_ 12 Try.func21 #[.agg #[.int .i64 a0_0, .int .i64 a0_1, .int .i64 a0_2, .int .i64 a0_3, .slice A0_4 l0_4.length c0_4]] ?_; (with_reducible refine (impl_FairOk.calls k a0_0 a0_1 a0_2 a0_3 _ _ l0_4 true _ ?side1 ?side2 A7.out).mono ?_); (case side1 => repeat (first | exact (Kd.C_below HR0_4.out HB.out) | (with_reducible refine Kd.C_alloc ?_ _) | (with_reducible refine Kd.C_drewN ?_ _) | (with_reducible refine Kd.C_drew ?_))); (case side2 => exact HC0_4.out); rintro e w14 ⟨rfl, hb⟩; refine ⟨_, rfl, ?_⟩; replace BK272 := bb_ BK272 hb; replace BK273 := bb_ BK273 hb; replace HB := Aside0.mk (below_step (bf_ HB) hb); (try clear hb); (try clear hb2); (try clear hk); (try clear hi)) | (go_at_call 44; (with_reducible refine (impl_isFlow.calls a1 true _ A9.out).mono ?_); rintro e w' ⟨rfl, ⟨nd, rfl⟩⟩) | (go_at_call 45; (with_reducible refine (impl_isWeight.calls a2 t276 _ A11.out).mono ?_); rintro e w' ⟨rfl, ⟨nd, rfl⟩⟩))
    go_meet
    case rel => exact ⟨_, (!t276), (by first | rfl | (simp; done) | (simp [*]; done)), H', ⟨by first | omega | exact Nat.le_refl _⟩, ⟨bk_ BK272⟩, ⟨bk_ BK273⟩, ⟨bf_ HB⟩⟩
   ·replace c10 := Bool.eq_false_iff.mpr c10
    subst c10
    rw [if_neg (show ¬ (false = true) by decide)] at H
    have H' := Aside0.mk H
    clear H; have hnb15 := NB272_273.out; have hnc15 := NB273_272.out; obtain ⟨hcz16_0, hcz16_1, hcz16_2, hcz16_3, hcz16_4, hfz16_0, hfz16_1, hfz16_2, hfz16_3, hfz16_4⟩ := bz5_ BK272
    go_wp2_with (first | ((with_reducible refine gc_ 21 rfl ?_); refine gl_ 12 Try.func21 #[.agg #[.int .i64 a0_0, .int .i64 a0_1, .int .i64 a0_2, .int .i64 a0_3, .slice A0_4 l0_4.length c0_4]] ?_; (with_reducible refine (impl_FairOk.calls k a0_0 a0_1 a0_2 a0_3 _ _ l0_4 true _ ?side1 ?side2 A7.out).mono ?_); (case side1 => repeat (first | exact (Kd.C_below HR0_4.out HB.out) | (with_reducible refine Kd.C_alloc ?_ _) | (with_reducible refine Kd.C_drewN ?_ _) | (with_reducible refine Kd.C_drew ?_))); (case side2 => exact HC0_4.out); rintro e w17 ⟨rfl, hb⟩; refine ⟨_, rfl, ?_⟩; replace BK272 := bb_ BK272 hb; replace BK273 := bb_ BK273 hb; replace HB := Aside0.mk (below_step (bf_ HB) hb); (try clear hb); (try clear hb2); (try clear hk); (try clear hi)) | (go_at_call 44; (with_reducible refine (impl_isFlow.calls a1 false _ A9.out).mono ?_); rintro e w' ⟨rfl, ⟨nd, rfl⟩⟩))
    go_meet
    case rel => exact ⟨_, (true), (by first | rfl | (simp; done) | (simp [*]; done)), H', ⟨by first | omega | exact Nat.le_refl _⟩, ⟨bk_ BK272⟩, ⟨bk_ BK273⟩, ⟨bf_ HB⟩⟩
  ·replace c8 := Bool.eq_false_iff.mpr c8
   subst c8
   rw [if_neg (show ¬ (false = true) by decide)] at H
   have H' := Aside0.mk H
   clear H; have hnb18 := NB272_273.out; have hnc18 := NB273_272.out; obtain ⟨hcz19_0, hcz19_1, hcz19_2, hcz19_3, hcz19_4, hfz19_0, hfz19_1, hfz19_2, hfz19_3, hfz19_4⟩ := bz5_ BK272
   go_wp2_with (first | ((with_reducible refine gc_ 21 rfl ?_); refine gl_ 12 Try.func21 #[.agg #[.int .i64 a0_0, .int .i64 a0_1, .int .i64 a0_2, .int .i64 a0_3, .slice A0_4 l0_4.length c0_4]] ?_; (with_reducible refine (impl_FairOk.calls k a0_0 a0_1 a0_2 a0_3 _ _ l0_4 false _ ?side1 ?side2 A7.out).mono ?_); (case side1 => repeat (first | exact (Kd.C_below HR0_4.out HB.out) | (with_reducible refine Kd.C_alloc ?_ _) | (with_reducible refine Kd.C_drewN ?_ _) | (with_reducible refine Kd.C_drew ?_))); (case side2 => exact HC0_4.out); rintro e w20 ⟨rfl, hb⟩; refine ⟨_, rfl, ?_⟩; replace BK272 := bb_ BK272 hb; replace BK273 := bb_ BK273 hb; replace HB := Aside0.mk (below_step (bf_ HB) hb); (try clear hb); (try clear hb2); (try clear hk); (try clear hi)))
   go_meet
   case rel => exact ⟨_, (true), (by first | rfl | (simp; done) | (simp [*]; done)), H', ⟨by first | omega | exact Nat.le_refl _⟩, ⟨bk_ BK272⟩, ⟨bk_ BK273⟩, ⟨bf_ HB⟩⟩
 case rest =>
  clear HC4; (try clear c1); (try clear c2); (try clear p2); (try clear c8); (try clear c10); (try clear c12); (try clear c15); (try clear c18); (try clear hcz13_0 hcz13_1 hcz13_2 hcz13_3 hcz13_4 hfz13_0 hfz13_1 hfz13_2 hfz13_3 hfz13_4); (try clear hcz16_0 hcz16_1 hcz16_2 hcz16_3 hcz16_4 hfz16_0 hfz16_1 hfz16_2 hfz16_3 hfz16_4); (try clear hcz19_0 hcz19_1 hcz19_2 hcz19_3 hcz19_4 hfz19_0 hfz19_1 hfz19_2 hfz19_3 hfz19_4)
  obtain ⟨kq, x10_3, rfl, HA, HJ3, BK272, BK273, HB⟩ := hcut
  cases kq with
  | zero => exact absurd HA.out (by simp [impl_FairJoin.j0])
  | succ kj3 =>
   have H := HA.out
   clear HA
   simp only [impl_FairJoin.j0] at H
   by_cases c21 : x10_3 = true
   ·subst c21
    rw [if_pos rfl] at H
    simp only [Option.some.injEq, Prod.mk.injEq] at H
    obtain ⟨rfl, rfl, rfl, rfl, rfl, rfl⟩ := H
    have hnb22 := NB273_272.out; have hnc22 := NB272_273.out; obtain ⟨hcz23_0, hcz23_1, hcz23_2, hcz23_3, hcz23_4, hfz23_0, hfz23_1, hfz23_2, hfz23_3, hfz23_4⟩ := bz5_ BK273
    go_wp2
    refine bodyPost_ret (results_ct rfl _ _ gb273 31 #[.int .i64 0, .int .i64 0, .int .i64 0, .int .i64 0, .slice none 0 0] (0, 0) _ rfl (by (with_reducible repeat (first | refine blk_drewN ?_ _ | refine blk_drew ?_ | refine blk_alloc ?_ _)); refine blk_put (cs := #[.int .i64 0, .int .i64 0, .int .i64 0, .int .i64 0, .slice none 0 0]) ?_ 4 _ rfl; (with_reducible repeat (first | refine blk_drewN ?_ _ | refine blk_drew ?_ | refine blk_alloc ?_ _)); refine blk_put (cs := #[.int .i64 0, .int .i64 0, .int .i64 0, .int .i64 0, .slice none 0 0]) ?_ 3 _ rfl; (with_reducible repeat (first | refine blk_drewN ?_ _ | refine blk_drew ?_ | refine blk_alloc ?_ _)); refine blk_put (cs := #[.int .i64 0, .int .i64 0, .int .i64 0, .int .i64 0, .slice none 0 0]) ?_ 2 _ rfl; (with_reducible repeat (first | refine blk_drewN ?_ _ | refine blk_drew ?_ | refine blk_alloc ?_ _)); refine blk_put (cs := #[.int .i64 0, .int .i64 0, .int .i64 0, .int .i64 0, .slice none 0 0]) ?_ 1 _ rfl; (with_reducible repeat (first | refine blk_drewN ?_ _ | refine blk_drew ?_ | refine blk_alloc ?_ _)); refine blk_put (cs := #[.int .i64 0, .int .i64 0, .int .i64 0, .int .i64 0, .slice none 0 0]) ?_ 0 _ rfl; exact bk_ BK273) Try.underlying31 rfl (by kernel_rfl)) rfl ?_
    exact ⟨_, by first | rfl | (simp [errW_none, errW_some] <;> rfl) | (simp [*, errW_none, errW_some] <;> rfl), by first | exact Kd.R_nil _ _ _ _ _ | exact Kd.N_nil _ _ _ _ _ | exact Kd.V_nil _ _ _ _ _ | exact Kd.Q_nil _ _ _ _ _ | exact Kd.S_nil _ _ _ _ _, bf_ HB⟩
   ·replace c21 := Bool.eq_false_iff.mpr c21
    subst c21
    rw [if_neg (show ¬ (false = true) by decide)] at H
    replace H := Option.bind_eq_some_iff.mp H
    obtain ⟨t277, A240, H⟩ := H
    have A24 := Aside0.mk A240
    clear A240
    by_cases c25 : t277 ≥ 0
    ·rw [if_pos c25] at H
     have c25b0 : decide (0 ≤ t277) = true := decide_eq_true c25
     clear c25
     simp only [Option.some.injEq, Prod.mk.injEq] at H
     obtain ⟨rfl, rfl, rfl, rfl, rfl, rfl⟩ := H
     have hnb26 := NB272_273.out; have hnc26 := NB273_272.out; obtain ⟨hcz27_0, hcz27_1, hcz27_2, hcz27_3, hcz27_4, hfz27_0, hfz27_1, hfz27_2, hfz27_3, hfz27_4⟩ := bz5_ BK272
     go_wp2_with (first | ((with_reducible refine gc_ 36 rfl ?_); refine gl_ 28 Try.func36 #[.agg #[.int .i64 a0_0, .int .i64 a0_1, .int .i64 a0_2, .int .i64 a0_3, .slice A0_4 l0_4.length c0_4], .int .i64 a1] ?_; (with_reducible refine (impl_Fair_at.calls a0_0 a0_1 a0_2 a0_3 _ _ l0_4 a1 t277 _ ?side1 ?side2 A24.out).mono ?_); (case side1 => repeat (first | exact (Kd.C_below HR0_4.out HB.out) | (with_reducible refine Kd.C_alloc ?_ _) | (with_reducible refine Kd.C_drewN ?_ _) | (with_reducible refine Kd.C_drew ?_))); (case side2 => exact HC0_4.out); rintro e w28 ⟨rfl, hb⟩; refine ⟨_, rfl, ?_⟩; replace BK272 := bb_ BK272 hb; replace BK273 := bb_ BK273 hb; replace HB := Aside0.mk (below_step (bf_ HB) hb); (try clear hb); (try clear hb2); (try clear hk); (try clear hi); obtain ⟨hcz29_0, hcz29_1, hcz29_2, hcz29_3, hcz29_4, hfz29_0, hfz29_1, hfz29_2, hfz29_3, hfz29_4⟩ := bz5_ BK273))
     refine bodyPost_ret (results_ct rfl _ _ gb273 31 #[.int .i64 0, .int .i64 0, .int .i64 0, .int .i64 0, .slice none 0 0] (0, 0) _ rfl (by (with_reducible repeat (first | refine blk_drewN ?_ _ | refine blk_drew ?_ | refine blk_alloc ?_ _)); refine blk_put (cs := #[.int .i64 0, .int .i64 0, .int .i64 0, .int .i64 0, .slice none 0 0]) ?_ 4 _ rfl; (with_reducible repeat (first | refine blk_drewN ?_ _ | refine blk_drew ?_ | refine blk_alloc ?_ _)); refine blk_put (cs := #[.int .i64 0, .int .i64 0, .int .i64 0, .int .i64 0, .slice none 0 0]) ?_ 3 _ rfl; (with_reducible repeat (first | refine blk_drewN ?_ _ | refine blk_drew ?_ | refine blk_alloc ?_ _)); refine blk_put (cs := #[.int .i64 0, .int .i64 0, .int .i64 0, .int .i64 0, .slice none 0 0]) ?_ 2 _ rfl; (with_reducible repeat (first | refine blk_drewN ?_ _ | refine blk_drew ?_ | refine blk_alloc ?_ _)); refine blk_put (cs := #[.int .i64 0, .int .i64 0, .int .i64 0, .int .i64 0, .slice none 0 0]) ?_ 1 _ rfl; (with_reducible repeat (first | refine blk_drewN ?_ _ | refine blk_drew ?_ | refine blk_alloc ?_ _)); refine blk_put (cs := #[.int .i64 0, .int .i64 0, .int .i64 0, .int .i64 0, .slice none 0 0]) ?_ 0 _ rfl; exact bk_ BK273) Try.underlying31 rfl (by kernel_rfl)) rfl ?_
     exact ⟨_, by first | rfl | (simp [errW_none, errW_some] <;> rfl) | (simp [*, errW_none, errW_some] <;> rfl), by first | exact Kd.R_nil _ _ _ _ _ | exact Kd.N_nil _ _ _ _ _ | exact Kd.V_nil _ _ _ _ _ | exact Kd.Q_nil _ _ _ _ _ | exact Kd.S_nil _ _ _ _ _, bf_ HB⟩
    ·rw [if_neg c25] at H
     have c25b0 : decide (0 ≤ t277) = false := decide_eq_false c25
     clear c25
     by_cases c30 : (l0_4.length : Int) = 48
     ·rw [if_pos c30] at H
      have c30b0 : ((l0_4.length : Int) == 48) = true := beq_iff_eq.mpr c30
      have c30b1 : ((l0_4.length : Int) != 48) = false := bne_eq_false_iff_eq.mpr c30
      clear c30
      simp only [Option.some.injEq, Prod.mk.injEq] at H
      obtain ⟨rfl, rfl, rfl, rfl, rfl, rfl⟩ := H
      have hnb31 := NB272_273.out; have hnc31 := NB273_272.out; obtain ⟨hcz32_0, hcz32_1, hcz32_2, hcz32_3, hcz32_4, hfz32_0, hfz32_1, hfz32_2, hfz32_3, hfz32_4⟩ := bz5_ BK272
      go_wp2_with (first | ((with_reducible refine gc_ 36 rfl ?_); refine gl_ 28 Try.func36 #[.agg #[.int .i64 a0_0, .int .i64 a0_1, .int .i64 a0_2, .int .i64 a0_3, .slice A0_4 l0_4.length c0_4], .int .i64 a1] ?_; (with_reducible refine (impl_Fair_at.calls a0_0 a0_1 a0_2 a0_3 _ _ l0_4 a1 t277 _ ?side1 ?side2 A24.out).mono ?_); (case side1 => repeat (first | exact (Kd.C_below HR0_4.out HB.out) | (with_reducible refine Kd.C_alloc ?_ _) | (with_reducible refine Kd.C_drewN ?_ _) | (with_reducible refine Kd.C_drew ?_))); (case side2 => exact HC0_4.out); rintro e w33 ⟨rfl, hb⟩; refine ⟨_, rfl, ?_⟩; replace BK272 := bb_ BK272 hb; replace BK273 := bb_ BK273 hb; replace HB := Aside0.mk (below_step (bf_ HB) hb); (try clear hb); (try clear hb2); (try clear hk); (try clear hi); obtain ⟨hcz34_0, hcz34_1, hcz34_2, hcz34_3, hcz34_4, hfz34_0, hfz34_1, hfz34_2, hfz34_3, hfz34_4⟩ := bz5_ BK272; obtain ⟨hcz35_0, hcz35_1, hcz35_2, hcz35_3, hcz35_4, hfz35_0, hfz35_1, hfz35_2, hfz35_3, hfz35_4⟩ := bz5_ BK273))
      refine bodyPost_ret (results_ct rfl _ _ gb273 31 #[.int .i64 0, .int .i64 0, .int .i64 0, .int .i64 0, .slice none 0 0] (0, 0) _ rfl (by (with_reducible repeat (first | refine blk_drewN ?_ _ | refine blk_drew ?_ | refine blk_alloc ?_ _)); refine blk_put (cs := #[.int .i64 0, .int .i64 0, .int .i64 0, .int .i64 0, .slice none 0 0]) ?_ 4 _ rfl; (with_reducible repeat (first | refine blk_drewN ?_ _ | refine blk_drew ?_ | refine blk_alloc ?_ _)); refine blk_put (cs := #[.int .i64 0, .int .i64 0, .int .i64 0, .int .i64 0, .slice none 0 0]) ?_ 3 _ rfl; (with_reducible repeat (first | refine blk_drewN ?_ _ | refine blk_drew ?_ | refine blk_alloc ?_ _)); refine blk_put (cs := #[.int .i64 0, .int .i64 0, .int .i64 0, .int .i64 0, .slice none 0 0]) ?_ 2 _ rfl; (with_reducible repeat (first | refine blk_drewN ?_ _ | refine blk_drew ?_ | refine blk_alloc ?_ _)); refine blk_put (cs := #[.int .i64 0, .int .i64 0, .int .i64 0, .int .i64 0, .slice none 0 0]) ?_ 1 _ rfl; (with_reducible repeat (first | refine blk_drewN ?_ _ | refine blk_drew ?_ | refine blk_alloc ?_ _)); refine blk_put (cs := #[.int .i64 0, .int .i64 0, .int .i64 0, .int .i64 0, .slice none 0 0]) ?_ 0 _ rfl; exact bk_ BK273) Try.underlying31 rfl (by kernel_rfl)) rfl ?_
      exact ⟨_, by first | rfl | (simp [errW_none, errW_some] <;> rfl) | (simp [*, errW_none, errW_some] <;> rfl), by first | exact Kd.R_nil _ _ _ _ _ | exact Kd.N_nil _ _ _ _ _ | exact Kd.V_nil _ _ _ _ _ | exact Kd.Q_nil _ _ _ _ _ | exact Kd.S_nil _ _ _ _ _, bf_ HB⟩
     ·rw [if_neg c30] at H
      have c30b0 : ((l0_4.length : Int) == 48) = false := beq_eq_false_iff_ne.mpr c30
      have c30b1 : ((l0_4.length : Int) != 48) = true := bne_iff_ne.mpr c30
      have H' := Aside0.mk H
      clear H; have hnb36 := NB272_273.out; have hnc36 := NB273_272.out; obtain ⟨hcz37_0, hcz37_1, hcz37_2, hcz37_3, hcz37_4, hfz37_0, hfz37_1, hfz37_2, hfz37_3, hfz37_4⟩ := bz5_ BK272
      go_wp2_with (first | ((with_reducible refine gc_ 36 rfl ?_); refine gl_ 28 Try.func36 #[.agg #[.int .i64 a0_0, .int .i64 a0_1, .int .i64 a0_2, .int .i64 a0_3, .slice A0_4 l0_4.length c0_4], .int .i64 a1] ?_; (with_reducible refine (impl_Fair_at.calls a0_0 a0_1 a0_2 a0_3 _ _ l0_4 a1 t277 _ ?side1 ?side2 A24.out).mono ?_); (case side1 => repeat (first | exact (Kd.C_below HR0_4.out HB.out) | (with_reducible refine Kd.C_alloc ?_ _) | (with_reducible refine Kd.C_drewN ?_ _) | (with_reducible refine Kd.C_drew ?_))); (case side2 => exact HC0_4.out); rintro e w38 ⟨rfl, hb⟩; refine ⟨_, rfl, ?_⟩; replace BK272 := bb_ BK272 hb; replace BK273 := bb_ BK273 hb; replace HB := Aside0.mk (below_step (bf_ HB) hb); (try clear hb); (try clear hb2); (try clear hk); (try clear hi); obtain ⟨hcz39_0, hcz39_1, hcz39_2, hcz39_3, hcz39_4, hfz39_0, hfz39_1, hfz39_2, hfz39_3, hfz39_4⟩ := bz5_ BK272))
      go_loopg [8] kj3 (fun kq v8 w' => ∃ (x8_2 : Int), v8 = .int .i64 x8_2 ∧ Aside0 (impl_FairJoin.l0 kq a1 a2 x8_2 a0_0 a0_1 a0_2 a0_3 l0_4 = some (r1, r2, r3, r4, r5, r6)) ∧ Aside0 (kq ≤ kj3) ∧ Aside0 (w'.heap[gb272]? = some (.cells #[.int .i64 a0_0, .int .i64 a0_1, .int .i64 a0_2, .int .i64 a0_3, (.slice A0_4 l0_4.length c0_4)] 31 (0, 0))) ∧ Aside0 (w'.heap[gb273]? = some (.cells #[.int .i64 0, .int .i64 0, .int .i64 0, .int .i64 0, (.slice none 0 0)] 31 (0, 0))) ∧ Aside0 (Below w.heap.size w w'))
      case atStart => exact ⟨(0), (by first | rfl | (simp; done) | (simp [*]; done)), H', ⟨Nat.le_refl _⟩, ⟨bk_ BK272⟩, ⟨bk_ BK273⟩, ⟨bf_ HB⟩⟩
      case round =>
       clear H'
       (try clear c1); (try clear c2); (try clear p2 p2); (try clear c3); (try clear c8); (try clear c10); (try clear c12); (try clear c15); (try clear c18); (try clear c21); (try clear c22); (try clear c25); (try clear c25b0); (try clear c26); (try clear c30); (try clear c30b0); (try clear c30b1); (try clear c31); (try clear c36); (try clear hcz13_0 hcz13_1 hcz13_2 hcz13_3 hcz13_4 hfz13_0 hfz13_1 hfz13_2 hfz13_3 hfz13_4); (try clear hcz16_0 hcz16_1 hcz16_2 hcz16_3 hcz16_4 hfz16_0 hfz16_1 hfz16_2 hfz16_3 hfz16_4); (try clear hcz19_0 hcz19_1 hcz19_2 hcz19_3 hcz19_4 hfz19_0 hfz19_1 hfz19_2 hfz19_3 hfz19_4); (try clear hcz23_0 hcz23_1 hcz23_2 hcz23_3 hcz23_4 hfz23_0 hfz23_1 hfz23_2 hfz23_3 hfz23_4); (try clear hcz27_0 hcz27_1 hcz27_2 hcz27_3 hcz27_4 hfz27_0 hfz27_1 hfz27_2 hfz27_3 hfz27_4); (try clear hcz29_0 hcz29_1 hcz29_2 hcz29_3 hcz29_4 hfz29_0 hfz29_1 hfz29_2 hfz29_3 hfz29_4); (try clear hcz32_0 hcz32_1 hcz32_2 hcz32_3 hcz32_4 hfz32_0 hfz32_1 hfz32_2 hfz32_3 hfz32_4); (try clear hcz34_0 hcz34_1 hcz34_2 hcz34_3 hcz34_4 hfz34_0 hfz34_1 hfz34_2 hfz34_3 hfz34_4); (try clear hcz35_0 hcz35_1 hcz35_2 hcz35_3 hcz35_4 hfz35_0 hfz35_1 hfz35_2 hfz35_3 hfz35_4); (try clear hcz37_0 hcz37_1 hcz37_2 hcz37_3 hcz37_4 hfz37_0 hfz37_1 hfz37_2 hfz37_3 hfz37_4); (try clear hcz39_0 hcz39_1 hcz39_2 hcz39_3 hcz39_4 hfz39_0 hfz39_1 hfz39_2 hfz39_3 hfz39_4)
       obtain ⟨x8_2, rfl, HA, HK2, BK272, BK273, HB⟩ := hrel
       cases gk with
       | zero => exact absurd HA.out (by simp [impl_FairJoin.l0])
       | succ k2 =>
        have H := HA.out
        clear HA
        simp only [impl_FairJoin.l0] at H
        by_cases c40 : x8_2 < (l0_4.length : Int)
        ·rw [if_pos c40] at H
         have c40b0 : decide (x8_2 < (l0_4.length : Int)) = true := decide_eq_true c40
         clear c40
         by_cases c41 : 0 ≤ x8_2
         ·rw [if_pos c41] at H
          have c41b0 : decide (0 ≤ x8_2) = true := decide_eq_true c41
          clear c41
          by_cases c42 : ((rd_T46 l0_4 x8_2).f0) < a1
          ·rw [if_pos c42] at H
           have c42b0 : decide (((rd_T46 l0_4 x8_2).f0) < a1) = true := decide_eq_true c42
           clear c42
           have H' := Aside0.mk H
           clear H; have hnb43 := NB272_273.out; have hnc43 := NB273_272.out; obtain ⟨hcz44_0, hcz44_1, hcz44_2, hcz44_3, hcz44_4, hfz44_0, hfz44_1, hfz44_2, hfz44_3, hfz44_4⟩ := bz5_ BK272
           have p278 : 0 ≤ (x8_2 : Int) := od_
           have q278 : x8_2 < (l0_4.length : Int) := od_
           obtain ⟨ad278, e278, hx278_0, hx278_1, hx278_2, hx278_3, hx278_4, hx278_5⟩ := at_T46 HR0_4.out x8_2 p278 q278
           cases e278
           replace hx278_0 := hb_ HB hx278_0
           replace hx278_1 := hb_ HB hx278_1
           replace hx278_2 := hb_ HB hx278_2
           replace hx278_3 := hb_ HB hx278_3
           replace hx278_4 := hb_ HB hx278_4
           replace hx278_5 := hb_ HB hx278_5
           replace p278 := eq_true p278
           replace q278 := eq_true q278
           go_wp2
           go_roundg k2
           case measure => have := HJ3.out; have := HK2.out; omega
           case rel => exact ⟨(wrap64 (x8_2 + 1)), (by first | rfl | (simp; done) | (simp [*]; done)), H', ⟨by have := HJ3.out; have := HK2.out; omega⟩, ⟨bk_ BK272⟩, ⟨bk_ BK273⟩, ⟨bf_ HB⟩⟩
          ·rw [if_neg c42] at H
           have c42b0 : decide (((rd_T46 l0_4 x8_2).f0) < a1) = false := decide_eq_false c42
           clear c42
           replace H := Option.bind_eq_some_iff.mp H
           obtain ⟨⟨t279, t280, t281, t282, t283⟩, A450, H⟩ := H
           have A45 := Aside0.mk A450
           clear A450
           have c46b0 := eq_true (od_ : 0 ≤ x8_2)
           by_cases c47 : x8_2 ≤ (t283.length : Int)
           ·rw [if_pos c47] at H
            have c47b0 := eq_true c47
            have c47b1 : decide (x8_2 ≤ (t283.length : Int)) = true := decide_eq_true c47
            clear c47
            by_cases c48 : t283.length < 2932031007402
            ·rw [if_pos c48] at H
             have LMc48 := Aside0.mk c48
             clear c48
             obtain ⟨y287, hy287⟩ : ∃ y_ : List (S46), y_ = (t283.take (x8_2 : Int).toNat ++ (⟨a1, a2, false, (⟨0, 0, 0⟩ : S28)⟩ : S46) :: t283.drop (x8_2 : Int).toNat) := ⟨_, rfl⟩
             replace H : (some (t279, t280, t281, t282, y287, 0)) = some (r1, r2, r3, r4, r5, r6) := by first | (rw [hy287]; with_reducible exact H) | (have H2_ := (Option.bind_some _ _).symm.trans H; rw [hy287]; with_reducible exact H2_) | (have H2_ := (Option.bind_some _ _).symm.trans H; with_reducible exact H2_) | with_reducible exact H | (rw [hy287]; exact H) | exact H
             have Ny287 := Aside0.mk hy287
             clear hy287
             simp only [Option.some.injEq, Prod.mk.injEq] at H
             obtain ⟨rfl, rfl, rfl, rfl, rfl, rfl⟩ := H
             have hnb49 := NB272_273.out; have hnc49 := NB273_272.out; obtain ⟨hcz50_0, hcz50_1, hcz50_2, hcz50_3, hcz50_4, hfz50_0, hfz50_1, hfz50_2, hfz50_3, hfz50_4⟩ := bz5_ BK272
             have p278 : 0 ≤ (x8_2 : Int) := od_
             have q278 : x8_2 < (l0_4.length : Int) := od_
             obtain ⟨ad278, e278, hx278_0, hx278_1, hx278_2, hx278_3, hx278_4, hx278_5⟩ := at_T46 HR0_4.out x8_2 p278 q278
             cases e278
             replace hx278_0 := hb_ HB hx278_0
             replace hx278_1 := hb_ HB hx278_1
             replace hx278_2 := hb_ HB hx278_2
             replace hx278_3 := hb_ HB hx278_3
             replace hx278_4 := hb_ HB hx278_4
             replace hx278_5 := hb_ HB hx278_5
             replace p278 := eq_true p278
             replace q278 := eq_true q278
             go_wp2_with (first | ((with_reducible refine gc_ 38 rfl ?_); refine gl_ 55 Try.func38 #[.agg #[.int .i64 a0_0, .int .i64 a0_1, .int .i64 a0_2, .int .i64 a0_3, .slice (some ad278) l0_4.length c0_4]] ?_; (with_reducible refine (impl_copyFair.calls a0_0 a0_1 a0_2 a0_3 _ _ l0_4 t279 t280 t281 t282 t283 _ ?side1 ?side2 A45.out).mono ?_); (case side1 => repeat (first | exact (Kd.C_below HR0_4.out HB.out) | (with_reducible refine Kd.C_alloc ?_ _) | (with_reducible refine Kd.C_drewN ?_ _) | (with_reducible refine Kd.C_drew ?_))); (case side2 => exact HC0_4.out); rintro e w51 ⟨v284, rfl, ho0, hb⟩; refine ⟨_, rfl, ?_⟩; have HO285 := Aside0.mk (Kd.R_lower ho0 (below_size (bf_ HB))); replace BK272 := bb_ BK272 hb; replace BK273 := bb_ BK273 hb; replace HB := Aside0.mk (below_step (bf_ HB) hb); (try clear hb); (try clear hb2); (try clear hk); (try clear hi); (try clear ho0)) | ((with_reducible refine gd_ 9 rfl ?_); refine bv_ 9 #[.int .i64 0, .int .i64 0, .int .i64 0, .int .i64 0, .slice none 0 0] 31 ?_; intro gb286 hg w52 hbox hb; replace HO285 := Aside0.mk (Kd.R_below (kr_ HO285) hb); have BK286 := Aside0.mk (hbox); have GW286 := gw_ HB hg; have GE286 := gw_ HB hg; replace HB := Aside0.mk (below_step (bf_ HB) hb); have NB272_286 := nl_ BK272 hg; have NB286_272 := ng_ BK272 hg; replace BK272 := bb_ BK272 hb; have NB273_286 := nl_ BK273 hg; have NB286_273 := ng_ BK273 hg; replace BK273 := bb_ BK273 hb; clear hb hbox hg; have hnb53 := NB286_272.out; have hnc53 := NB272_286.out; have hnb54 := NB286_273.out; have hnc54 := NB273_286.out; obtain ⟨hcz55_0, hcz55_1, hcz55_2, hcz55_3, hcz55_4, hfz55_0, hfz55_1, hfz55_2, hfz55_3, hfz55_4⟩ := bz5_ BK286; obtain ⟨Ao56, co56, eo56⟩ := Kd.R_slice HO285.out; subst eo56) | ((with_reducible refine gc_ 46 rfl ?_); refine gl_ 63 Try.func46 #[.slice Ao56 t283.length co56, .int .i64 x8_2, _] ?_; refine (impl_Kid_46.calls (w0 := w) w.heap.size (.slice Ao56 t283.length co56) t283 x8_2 (⟨a1, a2, false, (⟨0, 0, 0⟩ : S28)⟩ : S46) [.int .i64 a1, .int .i64 a2, .bool false, .int .i64 0, .int .i64 0, .int .i64 0] (fun _ => True) (fun _ => False) _ ?aG (od_) (od_) ?aP (fun _ hk => by first | exact hk.elim | grind) ?aF ?aO ?aB ?aS ?aL).mono ?_; (case aG => first | rfl | (simp; done) | (go_simp; done)); (case aP => exact k46_mkM _ _ _ (⟨a1, a2, false, (⟨0, 0, 0⟩ : S28)⟩ : S46)); (case aB => exact (bf_ HB)); (case aF => exact (fun _ _ => trivial)); (case aO => exact (by (with_reducible repeat (first | apply Kd.R_alloc | apply Kd.R_drewN | apply Kd.R_drew)); exact Kd.R_mono (Kd.R_far (p := ⟨gb286, 4, none⟩) (Kd.R_far (p := ⟨gb286, 3, none⟩) (Kd.R_far (p := ⟨gb286, 2, none⟩) (Kd.R_far (p := ⟨gb286, 1, none⟩) (Kd.R_far (p := ⟨gb286, 0, none⟩) (Kd.R_types HO285.out BK286.out (by decide)) (fun _ hk => by first | exact hk.2 | grind) (.int .i64 t279)) (fun _ hk => by first | exact hk.2 | grind) (.int .i64 t280)) (fun _ hk => by first | exact hk.2 | grind) (.int .i64 t281)) (fun _ hk => by first | exact hk.2 | grind) (.int .i64 t282)) (fun _ hk => by first | exact hk.2 | grind) (.slice Ao56 t283.length co56)) (fun _ hk => by first | exact trivial | grind))); (case aS => exact (below_size (bf_ HB))); (case aL => have := LMc48.out; omega); rintro e w57 ⟨v288, rfl, ho, hb, hg, hat⟩; refine ⟨_, rfl, ?_⟩; rw [← Ny287.out] at ho; replace BK272 := Aside0.mk (blk_grown (g := gb272) (o := .cells #[.int .i64 a0_0, .int .i64 a0_1, .int .i64 a0_2, .int .i64 a0_3, .slice (some ad278) l0_4.length c0_4] 31 (0, 0)) (bl_ BK272) hg (Kd.R_ne HO285.out BK272.out (by decide))); replace BK273 := Aside0.mk (blk_grown (g := gb273) (o := .cells #[.int .i64 0, .int .i64 0, .int .i64 0, .int .i64 0, .slice none 0 0] 31 (0, 0)) (bl_ BK273) hg (Kd.R_ne HO285.out BK273.out (by decide))); replace BK286 := Aside0.mk (blk_grown (g := gb286) (o := .cells #[.int .i64 t279, .int .i64 t280, .int .i64 t281, .int .i64 t282, .slice Ao56 t283.length co56] 31 (0, 0)) (by (with_reducible repeat (first | refine blk_drewN ?_ _ | refine blk_drew ?_ | refine blk_alloc ?_ _)); refine blk_put (cs := #[.int .i64 t279, .int .i64 t280, .int .i64 t281, .int .i64 t282, .slice none 0 0]) ?_ 4 _ rfl; (with_reducible repeat (first | refine blk_drewN ?_ _ | refine blk_drew ?_ | refine blk_alloc ?_ _)); refine blk_put (cs := #[.int .i64 t279, .int .i64 t280, .int .i64 t281, .int .i64 0, .slice none 0 0]) ?_ 3 _ rfl; (with_reducible repeat (first | refine blk_drewN ?_ _ | refine blk_drew ?_ | refine blk_alloc ?_ _)); refine blk_put (cs := #[.int .i64 t279, .int .i64 t280, .int .i64 0, .int .i64 0, .slice none 0 0]) ?_ 2 _ rfl; (with_reducible repeat (first | refine blk_drewN ?_ _ | refine blk_drew ?_ | refine blk_alloc ?_ _)); refine blk_put (cs := #[.int .i64 t279, .int .i64 0, .int .i64 0, .int .i64 0, .slice none 0 0]) ?_ 1 _ rfl; (with_reducible repeat (first | refine blk_drewN ?_ _ | refine blk_drew ?_ | refine blk_alloc ?_ _)); refine blk_put (cs := #[.int .i64 0, .int .i64 0, .int .i64 0, .int .i64 0, .slice none 0 0]) ?_ 0 _ rfl; exact bk_ BK286) hg (Kd.R_ne HO285.out BK286.out (by decide))); replace HB := Aside0.mk (hb); have HO289 := Aside0.mk (ho); clear HO285 ho hb hg hat; obtain ⟨Ao58, co58, eo58⟩ := Kd.R_slice HO289.out; subst eo58; obtain ⟨hcz59_0, hcz59_1, hcz59_2, hcz59_3, hcz59_4, hfz59_0, hfz59_1, hfz59_2, hfz59_3, hfz59_4⟩ := bz5_ BK286; obtain ⟨hcz60_0, hcz60_1, hcz60_2, hcz60_3, hcz60_4, hfz60_0, hfz60_1, hfz60_2, hfz60_3, hfz60_4⟩ := bz5_ BK273))
             refine bodyPost_ret (results_ct rfl _ _ gb273 31 #[.int .i64 t279, .int .i64 t280, .int .i64 t281, .int .i64 t282, .slice Ao58 y287.length co58] (0, 0) _ rfl (by (with_reducible repeat (first | refine blk_drewN ?_ _ | refine blk_drew ?_ | refine blk_alloc ?_ _)); refine blk_put (cs := #[.int .i64 t279, .int .i64 t280, .int .i64 t281, .int .i64 t282, .slice none 0 0]) ?_ 4 _ rfl; (with_reducible repeat (first | refine blk_drewN ?_ _ | refine blk_drew ?_ | refine blk_alloc ?_ _)); refine blk_put (cs := #[.int .i64 t279, .int .i64 t280, .int .i64 t281, .int .i64 0, .slice none 0 0]) ?_ 3 _ rfl; (with_reducible repeat (first | refine blk_drewN ?_ _ | refine blk_drew ?_ | refine blk_alloc ?_ _)); refine blk_put (cs := #[.int .i64 t279, .int .i64 t280, .int .i64 0, .int .i64 0, .slice none 0 0]) ?_ 2 _ rfl; (with_reducible repeat (first | refine blk_drewN ?_ _ | refine blk_drew ?_ | refine blk_alloc ?_ _)); refine blk_put (cs := #[.int .i64 t279, .int .i64 0, .int .i64 0, .int .i64 0, .slice none 0 0]) ?_ 1 _ rfl; (with_reducible repeat (first | refine blk_drewN ?_ _ | refine blk_drew ?_ | refine blk_alloc ?_ _)); refine blk_put (cs := #[.int .i64 0, .int .i64 0, .int .i64 0, .int .i64 0, .slice none 0 0]) ?_ 0 _ rfl; (with_reducible repeat (first | refine blk_drewN ?_ _ | refine blk_drew ?_ | refine blk_alloc ?_ _)); refine blk_far ?_ NB273_286.out _; exact bk_ BK273) Try.underlying31 rfl (by kernel_rfl)) rfl ?_
             exact ⟨_, by first | rfl | (simp [errW_none, errW_some] <;> rfl) | (simp [*, errW_none, errW_some] <;> rfl), by (with_reducible repeat (first | apply Kd.R_alloc | apply Kd.R_drewN | apply Kd.R_drew)); exact Kd.R_mono (Kd.R_far (p := ⟨gb273, 4, none⟩) (Kd.R_far (p := ⟨gb273, 3, none⟩) (Kd.R_far (p := ⟨gb273, 2, none⟩) (Kd.R_far (p := ⟨gb273, 1, none⟩) (Kd.R_far (p := ⟨gb273, 0, none⟩) (Kd.R_far (p := ⟨gb286, 4, none⟩) (Kd.R_types (Kd.R_types HO289.out BK286.out (by decide)) BK273.out (by decide)) (fun _ hk => by first | exact hk.1.2 | grind) (.slice Ao58 y287.length co58)) (fun _ hk => by first | exact hk.2 | grind) (.int .i64 t279)) (fun _ hk => by first | exact hk.2 | grind) (.int .i64 t280)) (fun _ hk => by first | exact hk.2 | grind) (.int .i64 t281)) (fun _ hk => by first | exact hk.2 | grind) (.int .i64 t282)) (fun _ hk => by first | exact hk.2 | grind) (.slice Ao58 y287.length co58)) (fun _ hk => by first | exact trivial | grind), bf_ HB⟩
            ·rw [if_neg c48] at H
             exact absurd H (by simp)
           ·rw [if_neg c47] at H
            exact absurd H (by simp)
         ·rw [if_neg c41] at H
          exact absurd H (by simp)
        ·rw [if_neg c40] at H
         have c40b0 : decide (x8_2 < (l0_4.length : Int)) = false := decide_eq_false c40
         clear c40
         replace H := Option.bind_eq_some_iff.mp H
         obtain ⟨⟨t290, t291, t292, t293, t294⟩, A610, H⟩ := H
         have A61 := Aside0.mk A610
         clear A610
         by_cases c62 : 0 ≤ x8_2
         ·rw [if_pos c62] at H
          have c62b0 := eq_true c62
          have c62b1 : decide (0 ≤ x8_2) = true := decide_eq_true c62
          clear c62
          by_cases c63 : x8_2 ≤ (t294.length : Int)
          ·rw [if_pos c63] at H
           have c63b0 := eq_true c63
           have c63b1 : decide (x8_2 ≤ (t294.length : Int)) = true := decide_eq_true c63
           clear c63
           by_cases c64 : t294.length < 2932031007402
           ·rw [if_pos c64] at H
            have LMc64 := Aside0.mk c64
            clear c64
            obtain ⟨y298, hy298⟩ : ∃ y_ : List (S46), y_ = (t294.take (x8_2 : Int).toNat ++ (⟨a1, a2, false, (⟨0, 0, 0⟩ : S28)⟩ : S46) :: t294.drop (x8_2 : Int).toNat) := ⟨_, rfl⟩
            replace H : (some (t290, t291, t292, t293, y298, 0)) = some (r1, r2, r3, r4, r5, r6) := by first | (rw [hy298]; with_reducible exact H) | (have H2_ := (Option.bind_some _ _).symm.trans H; rw [hy298]; with_reducible exact H2_) | (have H2_ := (Option.bind_some _ _).symm.trans H; with_reducible exact H2_) | with_reducible exact H | (rw [hy298]; exact H) | exact H
            have Ny298 := Aside0.mk hy298
            clear hy298
            simp only [Option.some.injEq, Prod.mk.injEq] at H
            obtain ⟨rfl, rfl, rfl, rfl, rfl, rfl⟩ := H
            have hnb65 := NB272_273.out; have hnc65 := NB273_272.out; obtain ⟨hcz66_0, hcz66_1, hcz66_2, hcz66_3, hcz66_4, hfz66_0, hfz66_1, hfz66_2, hfz66_3, hfz66_4⟩ := bz5_ BK272
            go_wp2_with (first | ((with_reducible refine gc_ 38 rfl ?_); refine gl_ 55 Try.func38 #[.agg #[.int .i64 a0_0, .int .i64 a0_1, .int .i64 a0_2, .int .i64 a0_3, .slice A0_4 l0_4.length c0_4]] ?_; (with_reducible refine (impl_copyFair.calls a0_0 a0_1 a0_2 a0_3 _ _ l0_4 t290 t291 t292 t293 t294 _ ?side1 ?side2 A61.out).mono ?_); (case side1 => repeat (first | exact (Kd.C_below HR0_4.out HB.out) | (with_reducible refine Kd.C_alloc ?_ _) | (with_reducible refine Kd.C_drewN ?_ _) | (with_reducible refine Kd.C_drew ?_))); (case side2 => exact HC0_4.out); rintro e w67 ⟨v295, rfl, ho0, hb⟩; refine ⟨_, rfl, ?_⟩; have HO296 := Aside0.mk (Kd.R_lower ho0 (below_size (bf_ HB))); replace BK272 := bb_ BK272 hb; replace BK273 := bb_ BK273 hb; replace HB := Aside0.mk (below_step (bf_ HB) hb); (try clear hb); (try clear hb2); (try clear hk); (try clear hi); (try clear ho0)) | ((with_reducible refine gd_ 9 rfl ?_); refine bv_ 9 #[.int .i64 0, .int .i64 0, .int .i64 0, .int .i64 0, .slice none 0 0] 31 ?_; intro gb297 hg w68 hbox hb; replace HO296 := Aside0.mk (Kd.R_below (kr_ HO296) hb); have BK297 := Aside0.mk (hbox); have GW297 := gw_ HB hg; have GE297 := gw_ HB hg; replace HB := Aside0.mk (below_step (bf_ HB) hb); have NB272_297 := nl_ BK272 hg; have NB297_272 := ng_ BK272 hg; replace BK272 := bb_ BK272 hb; have NB273_297 := nl_ BK273 hg; have NB297_273 := ng_ BK273 hg; replace BK273 := bb_ BK273 hb; clear hb hbox hg; have hnb69 := NB297_272.out; have hnc69 := NB272_297.out; have hnb70 := NB297_273.out; have hnc70 := NB273_297.out; obtain ⟨hcz71_0, hcz71_1, hcz71_2, hcz71_3, hcz71_4, hfz71_0, hfz71_1, hfz71_2, hfz71_3, hfz71_4⟩ := bz5_ BK297; obtain ⟨Ao72, co72, eo72⟩ := Kd.R_slice HO296.out; subst eo72) | ((with_reducible refine gc_ 46 rfl ?_); refine gl_ 63 Try.func46 #[.slice Ao72 t294.length co72, .int .i64 x8_2, _] ?_; refine (impl_Kid_46.calls (w0 := w) w.heap.size (.slice Ao72 t294.length co72) t294 x8_2 (⟨a1, a2, false, (⟨0, 0, 0⟩ : S28)⟩ : S46) [.int .i64 a1, .int .i64 a2, .bool false, .int .i64 0, .int .i64 0, .int .i64 0] (fun _ => True) (fun _ => False) _ ?aG (od_) (od_) ?aP (fun _ hk => by first | exact hk.elim | grind) ?aF ?aO ?aB ?aS ?aL).mono ?_; (case aG => first | rfl | (simp; done) | (go_simp; done)); (case aP => exact k46_mkM _ _ _ (⟨a1, a2, false, (⟨0, 0, 0⟩ : S28)⟩ : S46)); (case aB => exact (bf_ HB)); (case aF => exact (fun _ _ => trivial)); (case aO => exact (by (with_reducible repeat (first | apply Kd.R_alloc | apply Kd.R_drewN | apply Kd.R_drew)); exact Kd.R_mono (Kd.R_far (p := ⟨gb297, 4, none⟩) (Kd.R_far (p := ⟨gb297, 3, none⟩) (Kd.R_far (p := ⟨gb297, 2, none⟩) (Kd.R_far (p := ⟨gb297, 1, none⟩) (Kd.R_far (p := ⟨gb297, 0, none⟩) (Kd.R_types HO296.out BK297.out (by decide)) (fun _ hk => by first | exact hk.2 | grind) (.int .i64 t290)) (fun _ hk => by first | exact hk.2 | grind) (.int .i64 t291)) (fun _ hk => by first | exact hk.2 | grind) (.int .i64 t292)) (fun _ hk => by first | exact hk.2 | grind) (.int .i64 t293)) (fun _ hk => by first | exact hk.2 | grind) (.slice Ao72 t294.length co72)) (fun _ hk => by first | exact trivial | grind))); (case aS => exact (below_size (bf_ HB))); (case aL => have := LMc64.out; omega); rintro e w73 ⟨v299, rfl, ho, hb, hg, hat⟩; refine ⟨_, rfl, ?_⟩; rw [← Ny298.out] at ho; replace BK272 := Aside0.mk (blk_grown (g := gb272) (o := .cells #[.int .i64 a0_0, .int .i64 a0_1, .int .i64 a0_2, .int .i64 a0_3, .slice A0_4 l0_4.length c0_4] 31 (0, 0)) (bl_ BK272) hg (Kd.R_ne HO296.out BK272.out (by decide))); replace BK273 := Aside0.mk (blk_grown (g := gb273) (o := .cells #[.int .i64 0, .int .i64 0, .int .i64 0, .int .i64 0, .slice none 0 0] 31 (0, 0)) (bl_ BK273) hg (Kd.R_ne HO296.out BK273.out (by decide))); replace BK297 := Aside0.mk (blk_grown (g := gb297) (o := .cells #[.int .i64 t290, .int .i64 t291, .int .i64 t292, .int .i64 t293, .slice Ao72 t294.length co72] 31 (0, 0)) (by (with_reducible repeat (first | refine blk_drewN ?_ _ | refine blk_drew ?_ | refine blk_alloc ?_ _)); refine blk_put (cs := #[.int .i64 t290, .int .i64 t291, .int .i64 t292, .int .i64 t293, .slice none 0 0]) ?_ 4 _ rfl; (with_reducible repeat (first | refine blk_drewN ?_ _ | refine blk_drew ?_ | refine blk_alloc ?_ _)); refine blk_put (cs := #[.int .i64 t290, .int .i64 t291, .int .i64 t292, .int .i64 0, .slice none 0 0]) ?_ 3 _ rfl; (with_reducible repeat (first | refine blk_drewN ?_ _ | refine blk_drew ?_ | refine blk_alloc ?_ _)); refine blk_put (cs := #[.int .i64 t290, .int .i64 t291, .int .i64 0, .int .i64 0, .slice none 0 0]) ?_ 2 _ rfl; (with_reducible repeat (first | refine blk_drewN ?_ _ | refine blk_drew ?_ | refine blk_alloc ?_ _)); refine blk_put (cs := #[.int .i64 t290, .int .i64 0, .int .i64 0, .int .i64 0, .slice none 0 0]) ?_ 1 _ rfl; (with_reducible repeat (first | refine blk_drewN ?_ _ | refine blk_drew ?_ | refine blk_alloc ?_ _)); refine blk_put (cs := #[.int .i64 0, .int .i64 0, .int .i64 0, .int .i64 0, .slice none 0 0]) ?_ 0 _ rfl; exact bk_ BK297) hg (Kd.R_ne HO296.out BK297.out (by decide))); replace HB := Aside0.mk (hb); have HO300 := Aside0.mk (ho); clear HO296 ho hb hg hat; obtain ⟨Ao74, co74, eo74⟩ := Kd.R_slice HO300.out; subst eo74; obtain ⟨hcz75_0, hcz75_1, hcz75_2, hcz75_3, hcz75_4, hfz75_0, hfz75_1, hfz75_2, hfz75_3, hfz75_4⟩ := bz5_ BK297; obtain ⟨hcz76_0, hcz76_1, hcz76_2, hcz76_3, hcz76_4, hfz76_0, hfz76_1, hfz76_2, hfz76_3, hfz76_4⟩ := bz5_ BK273))
            refine bodyPost_ret (results_ct rfl _ _ gb273 31 #[.int .i64 t290, .int .i64 t291, .int .i64 t292, .int .i64 t293, .slice Ao74 y298.length co74] (0, 0) _ rfl (by (with_reducible repeat (first | refine blk_drewN ?_ _ | refine blk_drew ?_ | refine blk_alloc ?_ _)); refine blk_put (cs := #[.int .i64 t290, .int .i64 t291, .int .i64 t292, .int .i64 t293, .slice none 0 0]) ?_ 4 _ rfl; (with_reducible repeat (first | refine blk_drewN ?_ _ | refine blk_drew ?_ | refine blk_alloc ?_ _)); refine blk_put (cs := #[.int .i64 t290, .int .i64 t291, .int .i64 t292, .int .i64 0, .slice none 0 0]) ?_ 3 _ rfl; (with_reducible repeat (first | refine blk_drewN ?_ _ | refine blk_drew ?_ | refine blk_alloc ?_ _)); refine blk_put (cs := #[.int .i64 t290, .int .i64 t291, .int .i64 0, .int .i64 0, .slice none 0 0]) ?_ 2 _ rfl; (with_reducible repeat (first | refine blk_drewN ?_ _ | refine blk_drew ?_ | refine blk_alloc ?_ _)); refine blk_put (cs := #[.int .i64 t290, .int .i64 0, .int .i64 0, .int .i64 0, .slice none 0 0]) ?_ 1 _ rfl; (with_reducible repeat (first | refine blk_drewN ?_ _ | refine blk_drew ?_ | refine blk_alloc ?_ _)); refine blk_put (cs := #[.int .i64 0, .int .i64 0, .int .i64 0, .int .i64 0, .slice none 0 0]) ?_ 0 _ rfl; (with_reducible repeat (first | refine blk_drewN ?_ _ | refine blk_drew ?_ | refine blk_alloc ?_ _)); refine blk_far ?_ NB273_297.out _; exact bk_ BK273) Try.underlying31 rfl (by kernel_rfl)) rfl ?_
            exact ⟨_, by first | rfl | (simp [errW_none, errW_some] <;> rfl) | (simp [*, errW_none, errW_some] <;> rfl), by (with_reducible repeat (first | apply Kd.R_alloc | apply Kd.R_drewN | apply Kd.R_drew)); exact Kd.R_mono (Kd.R_far (p := ⟨gb273, 4, none⟩) (Kd.R_far (p := ⟨gb273, 3, none⟩) (Kd.R_far (p := ⟨gb273, 2, none⟩) (Kd.R_far (p := ⟨gb273, 1, none⟩) (Kd.R_far (p := ⟨gb273, 0, none⟩) (Kd.R_far (p := ⟨gb297, 4, none⟩) (Kd.R_types (Kd.R_types HO300.out BK297.out (by decide)) BK273.out (by decide)) (fun _ hk => by first | exact hk.1.2 | grind) (.slice Ao74 y298.length co74)) (fun _ hk => by first | exact hk.2 | grind) (.int .i64 t290)) (fun _ hk => by first | exact hk.2 | grind) (.int .i64 t291)) (fun _ hk => by first | exact hk.2 | grind) (.int .i64 t292)) (fun _ hk => by first | exact hk.2 | grind) (.int .i64 t293)) (fun _ hk => by first | exact hk.2 | grind) (.slice Ao74 y298.length co74)) (fun _ hk => by first | exact trivial | grind), bf_ HB⟩
           ·rw [if_neg c64] at H
            exact absurd H (by simp)
          ·rw [if_neg c63] at H
           exact absurd H (by simp)
         ·rw [if_neg c62] at H
          exact absurd H (by simp)

end Go.Proofs.Ytppmbdfbhahngaa.PFnExactFairJoin
