-- printed by a program of this session (wip/printx) out of the translation; Lean checks it
import Derived.Test.YtnklakficjpmoaaPFnExactBufLaneOfx0
import Derived.Test.YtnklakficjpmoaaPFnExactBufLaneOfx5
namespace Go.Proofs.Ytnklakficjpmoaa.PFnExactBufLaneOf
open Go.RowKit Go.Proofs.YtnklakficjpmoaaW.PrintWords Go.Proofs.YtnklakficjpmoaaW.PrintLast Go.Proofs.YtnklakficjpmoaaW.PrintMore
attribute [local go_sem] max2_int min2_int max_two min_two max_three min_three max_four min_four   -- for this text's walks alone
set_option linter.unusedVariables false
set_option linter.unusedSimpArgs false

/-! ### impl_BufOk: function 48 (wip/hand) -/
/-! ### a set of whole numbers: a map[int]bool that the call has made -/
section
variable {P : Program} {k e : TypeId} {w w' W : World} {base b g t : Nat} {v : Value} {xs : List Int} {cs : Array Value}
def mapD (xs : List Int) : DataW Unit := xs.foldl (fun D x => D.put (.int .i64 x) (.lit (.bool true))) (.map [])
theorem mapD_snoc (xs : List Int) (x : Int) : mapD (xs ++ [x]) = (mapD xs).put (.int .i64 x) (.lit (.bool true)) := by
 unfold mapD
 rw [List.foldl_append]; rfl
theorem mapF_at (x : Int) : ∀ (xs : List Int) (D : DataW Unit) (z : Bool), (∃ es, D = .map es) → D.atKey (.int .i64 x) (.lit (.bool false)) = .lit (.bool z) →
  (xs.foldl (fun D x => D.put (.int .i64 x) (.lit (.bool true))) D).atKey (.int .i64 x) (.lit (.bool false)) = .lit (.bool (z || xs.contains x))
 | [], D, z, _, h => by simpa using h
 | y :: xs, D, z, hm, h => by
  obtain ⟨es, rfl⟩ := hm
  rw [List.foldl_cons]
  by_cases e_ : x = y
  · subst e_
    rw [mapF_at x xs ((DataW.map es).put (.int .i64 x) (.lit (.bool true))) true ⟨_, rfl⟩ (Go.Maps.atKey_put_same ⟨es, rfl⟩ (by first | rfl | decide | exact trivial | simp [WideAt.IsKeyLit]) _ _)]
    simp
  · rw [mapF_at x xs ((DataW.map es).put (.int .i64 y) (.lit (.bool true))) z ⟨_, rfl⟩ ((Go.Maps.atKey_put_other (k := .int .i64 y) (k' := .int .i64 x) (fun h_ => e_ (by injection h_)) _ _).trans h)]
    simp [e_]
theorem mapD_at (x : Int) (xs : List Int) : (mapD xs).atKey (.int .i64 x) (.lit (.bool false)) = .lit (.bool (xs.contains x)) := by
 have := mapF_at x xs (.map []) false ⟨[], rfl⟩ rfl
 rw [Bool.false_or] at this
 exact this
def MR (P : Program) (k e : TypeId) (w : World) (base : Nat) (v : Value) (xs : List Int) : Prop := ∃ b, v = .map (some b) ∧ base ≤ b ∧ w.ownsMap (H := Unit) P k (plainElem P e) b xs.length (mapD xs)
theorem MR_val (h : MR P k e w base v xs) : ∃ b, v = .map (some b) := by
 obtain ⟨b, hv, _⟩ := h
 exact ⟨b, hv⟩
theorem MR_move (h : MR P k e w base v xs) (hw : ∀ (b : Nat) (o : Obj), w.heap[b]? = some o → (∀ (cs : Array Value) (t : TypeId) (z : Nat × Nat), o ≠ .cells cs t z) → w'.heap[b]? = some o) : MR P k e w' base v xs := by
 obtain ⟨b, hv, hb, es, clock, h1, h2⟩ := h
 exact ⟨b, hv, hb, es, clock, hw b _ h1 (fun _ _ _ e_ => by cases e_), h2⟩
theorem MR_drew (h : MR P k e w base v xs) : MR P k e w.drew base v xs := h
theorem MR_drewN (h : MR P k e w base v xs) (n : Nat) : MR P k e (w.drewN n) base v xs := MR_move h (fun b o ho _ => by simpa using ho)
theorem MR_alloc (h : MR P k e w base v xs) (o : Obj) : MR P k e (w.alloc o) base v xs := MR_move h (fun b o' ho _ => blk_alloc ho o)
theorem MR_below (h : MR P k e w base v xs) (hb : Below w.heap.size w w') : MR P k e w' base v xs := MR_move h (fun b o ho _ => blk_below ho hb)
theorem MR_ne (h : MR P k e w base (.map (some b)) xs) (y : w.heap[g]? = some (.cells cs t (0, 0))) : g ≠ b := by
 obtain ⟨b', hv, _, es, clock, h1, _⟩ := h
 cases hv
 intro e_
 subst e_
 rw [h1] at y
 cases y
theorem MR_set (hne : ∀ b', v = .map (some b') → b' ≠ g) (h : MR P k e w base v xs) (j : Nat) (u : Value) : MR P k e (w.setCell ⟨g, j, none⟩ u) base v xs := by
 obtain ⟨b, hv, hb, es, clock, h1, h2⟩ := h
 exact ⟨b, hv, hb, es, clock, (Below.heap_setCell w ⟨g, j, none⟩ u b (hne b hv)).trans h1, h2⟩
theorem MR_off (h : MR P k e w base v xs) (y : w.heap[g]? = some (.cells cs t (0, 0))) : ∀ b', v = .map (some b') → b' ≠ g := fun b' hv e_ => by
 subst hv
 exact MR_ne h y e_.symm
theorem mf1_ (x : Aside0 (MR P k e w base v xs)) (y : Aside0 (w.heap[g]? = some (.cells cs t (0, 0)))) (u0 : Value) : MR P k e (w.setCell ⟨g, 0, none⟩ u0) base v xs := MR_set (MR_off x.out y.out) x.out _ _
theorem mf2_ (x : Aside0 (MR P k e w base v xs)) (y : Aside0 (w.heap[g]? = some (.cells cs t (0, 0)))) (u0 u1 : Value) : MR P k e ((w.setCell ⟨g, 0, none⟩ u0).setCell ⟨g, 1, none⟩ u1) base v xs := MR_set (MR_off x.out y.out) (mf1_ x y u0) _ _
theorem mr_ {p q : Prop} (x : Aside0 q) (h : q → p := by intro z_; (with_reducible repeat (first | apply MR_alloc | apply MR_drewN | apply MR_drew)); exact z_) : p := h x.out
theorem MR_look (hk : P.underlying k = some (.int .i64)) (he : P.underlying e = some .bool) (ht : P.underlying t = some (.map k e)) (hz : ∀ w : World, (zeroValue e).run P w = .ok (.bool false) w) (h : MR P k e w base (.map (some b)) xs) {x : Int} (hx : (Lit.int .i64 x).wf = true) :
  (Instr.lookup t (.map (some b)) (.int .i64 x) false).run P w = .ok (.bool (xs.contains x)) w := by
 obtain ⟨b', hv, _, h⟩ := h
 cases hv
 obtain ⟨u, ps, hr, hu⟩ := h.lookup (Go.Maps.int_keyed hk) ht (hz w) (plainElem_bool he false) (Go.Maps.keyOf_int_mk hk hx)
 rw [mapD_at] at hu
 rw [hr]
 unfold plainElem at hu
 rw [he] at hu
 cases u <;> simp at hu
 simp [hu.1]
variable {ops : Array Oper} {rest : List Oper} {o : Oper} {a : Act} {Q : Exit → Act → World → Prop}
theorem MR_make (hgd : o.guard = none) {N : Tmp} (_hd : o.dst = some N) (hop : o.op = .makeMap t none) (h : ∀ v w1, MR P k e w1 W.heap.size v [] → Below W.heap.size W w1 → wpList P ops Q rest (a.put o.dst v) w1) : wpList P ops Q (o :: rest) a W := by
 refine Kd.event_run (v := .map (some W.heap.size)) (w1 := W.alloc (.map #[] 0)) hgd (by simp [execOp, hop, run_makeMap, Result.andThen]) ?_
 exact h _ _ ⟨_, rfl, Nat.le_refl _, World.ownsMap_made W P k _⟩ (below_alloc (Below.refl _ _) _)
theorem MR_put (hg : o.guard = none) (m x v : Operand) (hop : o.op = Op.mapUpdate t m x v) (hk : P.underlying k = some (.int .i64)) (he : P.underlying e = some .bool) (ht : P.underlying t = some (.map k e)) {w0 : World}
  (h : MR P k e W w0.heap.size (.map (some b)) xs) (hB : Below w0.heap.size w0 W) (hn : xs.length < 17592186044416) {y : Int} (hm : a.eval m = .map (some b)) (hx : a.eval x = .int .i64 y) (hv : a.eval v = .bool true) (hwf : (Lit.int .i64 y).wf = true)
  (hK : ∀ w', MR P k e w' w0.heap.size (.map (some b)) (xs ++ [y]) → Below w0.heap.size w0 w' → W.grownBy w' (some b) → wpList P ops Q rest (a.put o.dst undef) w') : wpList P ops Q (o :: rest) a W := by
 obtain ⟨b', hv', hb', h⟩ := h
 cases hv'
 refine wpList_mapUpdate_own W hg m x v t hop k e (Go.Maps.int_keyed hk) ht (plainElem P e) b xs.length (mapD xs) hm h (Nat.lt_of_lt_of_le hn (by decide)) _ _ _ hx hv (Go.Maps.keyOf_int_mk hk hwf) _ _ (plainElem_bool he true) (fun w' h1 h2 => ?_)
 refine hK w' ⟨b, rfl, hb', ?_⟩ ?_ h2
 · rw [mapD_snoc, List.length_append]; exact h1
 · exact pw_below_grown hB (some b) hB.size h2 (fun k_ hk_ => by cases hk_; exact hb')
end
def impl_seen.f (l0 : List Int) (a1 : Int) : Option Bool := some (l0.contains a1)
theorem seen_is {l : List Int} {x : Int} {r : Bool} (h : impl_seen.f l x = some r) : l.contains x = r := Option.some.inj h
theorem held_wf {a b : Int} (h : impl_heldOk.f a b = some true) : (Lit.int .i64 a).wf = true := by
 unfold impl_heldOk.f impl_within.f at h
 by_cases h1 : a ≥ 0 <;> by_cases h2 : a ≤ 1000000000000 <;> simp [h1, h2, Lit.wf, IntKind.min, IntKind.max, IntKind.bits, IntKind.signed] at h ⊢ <;> omega
theorem MR_lower {P : Program} {k e : TypeId} {w : World} {base base' : Nat} {v : Value} {xs : List Int} (h : MR P k e w base v xs) (hb : base' ≤ base) : MR P k e w base' v xs := by
 obtain ⟨b, h1, h2, h3⟩ := h
 exact ⟨b, h1, Nat.le_trans hb h2, h3⟩
/-! ### impl_BufOk: function 48 -/
mutual
def impl_BufOk.j0 : Nat → Bool → Int → Int → Int → Int → Bool → List (S80) → Option (Bool)
  | 0, _, _, _, _, _, _, _ => none
  | k + 1, x17, x121000, x121001, x121002, x121003, x121004, x121005 => if x17 = true then (some false) else (impl_BufOk.l0 k (([] : List Int)) x121005 (x121005.length : Int) 0 x121000 x121001 x121002 x121003 x121004 x121005)
def impl_BufOk.l0 : Nat → List Int → List (S80) → Int → Int → Int → Int → Int → Int → Bool → List (S80) → Option (Bool)
  | 0, _, _, _, _, _, _, _, _, _, _ => none
  | k + 1, x3, x20, x21, x22, x121000, x121001, x121002, x121003, x121004, x121005 => if x22 < x21 then (if 0 ≤ x22 then (if x22 < (x20.length : Int) then ((impl_isFlow.f ((rd_T80 x20 x22).f0)).bind fun t128 => (if t128 = true then (if x22 > 0 then (if 0 ≤ (wrap64 (x22 - 1)) then (if (wrap64 (x22 - 1)) < (x121005.length : Int) then (if ((rd_T80 x121005 (wrap64 (x22 - 1))).f0) ≥ ((rd_T80 x20 x22).f0) then (impl_BufOk.j2 k x3 x20 x21 x22 true x121000 x121001 x121002 x121003 x121004 x121005 ((rd_T80 x20 x22).f0) ((rd_T80 x20 x22).f1)) else (if (((rd_T80 x20 x22).f1).length : Int) = 0 then (impl_BufOk.j2 k x3 x20 x21 x22 true x121000 x121001 x121002 x121003 x121004 x121005 ((rd_T80 x20 x22).f0) ((rd_T80 x20 x22).f1)) else ((impl_Lane_fits.f k ((rd_T80 x20 x22).f0) ((rd_T80 x20 x22).f1) x121000 x121001 x121002 x121003 x121004).bind fun t130 => (impl_BufOk.j2 k x3 x20 x21 x22 (!t130) x121000 x121001 x121002 x121003 x121004 x121005 ((rd_T80 x20 x22).f0) ((rd_T80 x20 x22).f1))))) else (none)) else (none)) else (if (((rd_T80 x20 x22).f1).length : Int) = 0 then (impl_BufOk.j2 k x3 x20 x21 x22 true x121000 x121001 x121002 x121003 x121004 x121005 ((rd_T80 x20 x22).f0) ((rd_T80 x20 x22).f1)) else ((impl_Lane_fits.f k ((rd_T80 x20 x22).f0) ((rd_T80 x20 x22).f1) x121000 x121001 x121002 x121003 x121004).bind fun t131 => (impl_BufOk.j2 k x3 x20 x21 x22 (!t131) x121000 x121001 x121002 x121003 x121004 x121005 ((rd_T80 x20 x22).f0) ((rd_T80 x20 x22).f1))))) else (impl_BufOk.j2 k x3 x20 x21 x22 true x121000 x121001 x121002 x121003 x121004 x121005 ((rd_T80 x20 x22).f0) ((rd_T80 x20 x22).f1)))) else (none)) else (none)) else ((impl_Buf_bytes.f k x121000 x121001 x121002 x121003 x121004 x121005).bind fun t125 => (some (decide (t125 ≤ x121002))))
def impl_BufOk.j2 : Nat → List Int → List (S80) → Int → Int → Bool → Int → Int → Int → Int → Bool → List (S80) → Int → List (S52) → Option (Bool)
  | 0, _, _, _, _, _, _, _, _, _, _, _, _, _ => none
  | k + 1, x3, x20, x21, x22, x59, x121000, x121001, x121002, x121003, x121004, x121005, x128000, x128001 => if x59 = true then (some false) else (impl_BufOk.l1 k x3 x20 x21 x22 x128001 (x128001.length : Int) 0 x121000 x121001 x121002 x121003 x121004 x121005)
def impl_BufOk.l1 : Nat → List Int → List (S80) → Int → Int → List (S52) → Int → Int → Int → Int → Int → Int → Bool → List (S80) → Option (Bool)
  | 0, _, _, _, _, _, _, _, _, _, _, _, _, _ => none
  | k + 1, x3, x20, x21, x22, x61, x62, x63, x121000, x121001, x121002, x121003, x121004, x121005 => if x63 < x62 then (if 0 ≤ x63 then (if x63 < (x61.length : Int) then ((impl_heldOk.f ((rd_T52 x61 x63).f0) ((rd_T52 x61 x63).f1)).bind fun t134 => (if t134 = true then ((impl_seen.f x3 ((rd_T52 x61 x63).f0)).bind fun t135 => (if t135 = true then (some false) else (if x3.length < 17592186044416 then (impl_BufOk.l1 k (x3 ++ [(rd_T52 x61 x63).f0]) x20 x21 x22 x61 x62 (wrap64 (x63 + 1)) x121000 x121001 x121002 x121003 x121004 x121005) else (none)))) else (some false))) else (none)) else (none)) else (impl_BufOk.l0 k x3 x20 x21 (wrap64 (x22 + 1)) x121000 x121001 x121002 x121003 x121004 x121005)
end
def impl_BufOk.f (k : Nat) (a0_0 : Int) (a0_1 : Int) (a0_2 : Int) (a0_3 : Int) (a0_4 : Bool) (l0_5 : List (S80)) : Option (Bool) := (impl_LimitsOk.f a0_0 a0_1 a0_2 a0_3 a0_4).bind fun t121 => (if t121 = true then (impl_BufOk.j0 k (decide ((l0_5.length : Int) > 48)) a0_0 a0_1 a0_2 a0_3 a0_4 l0_5) else (impl_BufOk.j0 k true a0_0 a0_1 a0_2 a0_3 a0_4 l0_5))
theorem impl_BufOk.mono_l : ∀ k, (∀ y0 y1 y2 y3 y4 y5 y6, LeO (impl_BufOk.j0 k y0 y1 y2 y3 y4 y5 y6) (impl_BufOk.j0 (k + 1) y0 y1 y2 y3 y4 y5 y6)) ∧ (∀ y0 y1 y2 y3 y4 y5 y6 y7 y8 y9, LeO (impl_BufOk.l0 k y0 y1 y2 y3 y4 y5 y6 y7 y8 y9) (impl_BufOk.l0 (k + 1) y0 y1 y2 y3 y4 y5 y6 y7 y8 y9)) ∧ (∀ y0 y1 y2 y3 y4 y5 y6 y7 y8 y9 y10 y11 y12, LeO (impl_BufOk.j2 k y0 y1 y2 y3 y4 y5 y6 y7 y8 y9 y10 y11 y12) (impl_BufOk.j2 (k + 1) y0 y1 y2 y3 y4 y5 y6 y7 y8 y9 y10 y11 y12)) ∧ (∀ y0 y1 y2 y3 y4 y5 y6 y7 y8 y9 y10 y11 y12, LeO (impl_BufOk.l1 k y0 y1 y2 y3 y4 y5 y6 y7 y8 y9 y10 y11 y12) (impl_BufOk.l1 (k + 1) y0 y1 y2 y3 y4 y5 y6 y7 y8 y9 y10 y11 y12))
 | 0 => ⟨fun _ _ _ _ _ _ _ r h => by simp [impl_BufOk.j0] at h, fun _ _ _ _ _ _ _ _ _ _ r h => by simp [impl_BufOk.l0] at h, fun _ _ _ _ _ _ _ _ _ _ _ _ _ r h => by simp [impl_BufOk.j2] at h, fun _ _ _ _ _ _ _ _ _ _ _ _ _ r h => by simp [impl_BufOk.l1] at h⟩
 | k + 1 => by
  obtain ⟨ih0, ih1, ih2, ih3⟩ := impl_BufOk.mono_l k
  refine ⟨?_, ?_, ?_, ?_⟩
  ·intro y0 y1 y2 y3 y4 y5 y6
   unfold impl_BufOk.j0
   repeat' first
   | (with_reducible exact ih0 _ _ _ _ _ _ _)
   | (with_reducible exact ih1 _ _ _ _ _ _ _ _ _ _)
   | (with_reducible exact ih2 _ _ _ _ _ _ _ _ _ _ _ _ _)
   | (with_reducible exact ih3 _ _ _ _ _ _ _ _ _ _ _ _ _)
   | (with_reducible exact impl_Buf_bytes.mono _ _ _ _ _ _ _)
   | (with_reducible exact impl_Lane_fits.mono _ _ _ _ _ _ _ _)
   | (with_reducible exact LeO.refl _)
   | (with_reducible exact LeO.none _)
   | (with_reducible refine LeO.ite ?_ ?_)
   | (with_reducible refine LeO.bind ?_ (fun _ => ?_))
   | exact ih0 _ _ _ _ _ _ _
   | exact ih1 _ _ _ _ _ _ _ _ _ _
   | exact ih2 _ _ _ _ _ _ _ _ _ _ _ _ _
   | exact ih3 _ _ _ _ _ _ _ _ _ _ _ _ _
   | exact impl_Buf_bytes.mono _ _ _ _ _ _ _
   | exact impl_Lane_fits.mono _ _ _ _ _ _ _ _
   | exact LeO.none _
   | refine LeO.ite ?_ ?_
   | refine LeO.bind ?_ (fun _ => ?_)
  ·intro y0 y1 y2 y3 y4 y5 y6 y7 y8 y9
   unfold impl_BufOk.l0
   repeat' first
   | (with_reducible exact ih0 _ _ _ _ _ _ _)
   | (with_reducible exact ih1 _ _ _ _ _ _ _ _ _ _)
   | (with_reducible exact ih2 _ _ _ _ _ _ _ _ _ _ _ _ _)
   | (with_reducible exact ih3 _ _ _ _ _ _ _ _ _ _ _ _ _)
   | (with_reducible exact impl_Buf_bytes.mono _ _ _ _ _ _ _)
   | (with_reducible exact impl_Lane_fits.mono _ _ _ _ _ _ _ _)
   | (with_reducible exact LeO.refl _)
   | (with_reducible exact LeO.none _)
   | (with_reducible refine LeO.ite ?_ ?_)
   | (with_reducible refine LeO.bind ?_ (fun _ => ?_))
   | exact ih0 _ _ _ _ _ _ _
   | exact ih1 _ _ _ _ _ _ _ _ _ _
   | exact ih2 _ _ _ _ _ _ _ _ _ _ _ _ _
   | exact ih3 _ _ _ _ _ _ _ _ _ _ _ _ _
   | exact impl_Buf_bytes.mono _ _ _ _ _ _ _
   | exact impl_Lane_fits.mono _ _ _ _ _ _ _ _
   | exact LeO.none _
   | refine LeO.ite ?_ ?_
   | refine LeO.bind ?_ (fun _ => ?_)
  ·intro y0 y1 y2 y3 y4 y5 y6 y7 y8 y9 y10 y11 y12
   unfold impl_BufOk.j2
   repeat' first
   | (with_reducible exact ih0 _ _ _ _ _ _ _)
   | (with_reducible exact ih1 _ _ _ _ _ _ _ _ _ _)
   | (with_reducible exact ih2 _ _ _ _ _ _ _ _ _ _ _ _ _)
   | (with_reducible exact ih3 _ _ _ _ _ _ _ _ _ _ _ _ _)
   | (with_reducible exact impl_Buf_bytes.mono _ _ _ _ _ _ _)
   | (with_reducible exact impl_Lane_fits.mono _ _ _ _ _ _ _ _)
   | (with_reducible exact LeO.refl _)
   | (with_reducible exact LeO.none _)
   | (with_reducible refine LeO.ite ?_ ?_)
   | (with_reducible refine LeO.bind ?_ (fun _ => ?_))
   | exact ih0 _ _ _ _ _ _ _
   | exact ih1 _ _ _ _ _ _ _ _ _ _
   | exact ih2 _ _ _ _ _ _ _ _ _ _ _ _ _
   | exact ih3 _ _ _ _ _ _ _ _ _ _ _ _ _
   | exact impl_Buf_bytes.mono _ _ _ _ _ _ _
   | exact impl_Lane_fits.mono _ _ _ _ _ _ _ _
   | exact LeO.none _
   | refine LeO.ite ?_ ?_
   | refine LeO.bind ?_ (fun _ => ?_)
  ·intro y0 y1 y2 y3 y4 y5 y6 y7 y8 y9 y10 y11 y12
   unfold impl_BufOk.l1
   repeat' first
   | (with_reducible exact ih0 _ _ _ _ _ _ _)
   | (with_reducible exact ih1 _ _ _ _ _ _ _ _ _ _)
   | (with_reducible exact ih2 _ _ _ _ _ _ _ _ _ _ _ _ _)
   | (with_reducible exact ih3 _ _ _ _ _ _ _ _ _ _ _ _ _)
   | (with_reducible exact impl_Buf_bytes.mono _ _ _ _ _ _ _)
   | (with_reducible exact impl_Lane_fits.mono _ _ _ _ _ _ _ _)
   | (with_reducible exact LeO.refl _)
   | (with_reducible exact LeO.none _)
   | (with_reducible refine LeO.ite ?_ ?_)
   | (with_reducible refine LeO.bind ?_ (fun _ => ?_))
   | exact ih0 _ _ _ _ _ _ _
   | exact ih1 _ _ _ _ _ _ _ _ _ _
   | exact ih2 _ _ _ _ _ _ _ _ _ _ _ _ _
   | exact ih3 _ _ _ _ _ _ _ _ _ _ _ _ _
   | exact impl_Buf_bytes.mono _ _ _ _ _ _ _
   | exact impl_Lane_fits.mono _ _ _ _ _ _ _ _
   | exact LeO.none _
   | refine LeO.ite ?_ ?_
   | refine LeO.bind ?_ (fun _ => ?_)
theorem impl_BufOk.mono : ∀ a0 a1 a2 a3 a4 a5 k, LeO (impl_BufOk.f k a0 a1 a2 a3 a4 a5) (impl_BufOk.f (k + 1) a0 a1 a2 a3 a4 a5) := by
 intro a0 a1 a2 a3 a4 a5 k
 obtain ⟨ih0, ih1, ih2, ih3⟩ := impl_BufOk.mono_l k
 unfold impl_BufOk.f
 repeat' first
   | (with_reducible exact ih0 _ _ _ _ _ _ _)
   | (with_reducible exact ih1 _ _ _ _ _ _ _ _ _ _)
   | (with_reducible exact ih2 _ _ _ _ _ _ _ _ _ _ _ _ _)
   | (with_reducible exact ih3 _ _ _ _ _ _ _ _ _ _ _ _ _)
   | (with_reducible exact impl_Buf_bytes.mono _ _ _ _ _ _ _)
   | (with_reducible exact impl_Lane_fits.mono _ _ _ _ _ _ _ _)
   | (with_reducible exact LeO.refl _)
   | (with_reducible exact LeO.none _)
   | (with_reducible refine LeO.ite ?_ ?_)
   | (with_reducible refine LeO.bind ?_ (fun _ => ?_))
   | exact ih0 _ _ _ _ _ _ _
   | exact ih1 _ _ _ _ _ _ _ _ _ _
   | exact ih2 _ _ _ _ _ _ _ _ _ _ _ _ _
   | exact ih3 _ _ _ _ _ _ _ _ _ _ _ _ _
   | exact impl_Buf_bytes.mono _ _ _ _ _ _ _
   | exact impl_Lane_fits.mono _ _ _ _ _ _ _ _
   | exact LeO.none _
   | refine LeO.ite ?_ ?_
   | refine LeO.bind ?_ (fun _ => ?_)
def impl_BufOk.T7 : Bool × List (List Nat × List Nat) := (true, [([], []), ([0], [0]), ([1], [1]), ([2], [2]), ([3, 2], [3]), ([4], [4]), ([5, 4], [4, 5]), ([6, 4, 4], [4, 6]), ([7], [7]), ([8, 7], [7, 8]), ([7], [7]), ([10, 7], [7, 10]), ([9, 11, 7], [7, 9, 11]), ([12, 7], [7, 12]), ([13, 7], [7, 13]), ([7], [7]), ([15, 7], [7, 15]), ([14, 16, 7], [7, 14, 16]), ([7, 17, 4], [4, 7, 17]), ([4, 18], [4, 18]), ([19, 7], [19]), ([20], [20]), ([21, 20], [20, 21]), ([22, 20], [20, 22]), ([23, 20], [20, 23]), ([20, 24], [20, 24]), ([25, 20], [25]), ([26], [26]), ([26], [26]), ([28, 26], [26, 28]), ([27, 29, 26, 26], [26, 27, 29]), ([30, 26], [26, 30]), ([26, 31], [26, 31])])
def impl_BufOk.B7 : List Nat := [0, 1, 3, 7, 15, 31, 63, 127, 255, 511, 255, 1279, 4095, 8191, 16383, 255, 33023, 131071, 262143, 524287, 1048575, 2097151, 4194303, 8388607, 16777215, 33554431, 67108863, 134217727, 134217727, 402653183, 1073741823, 2147483647, 4294967295]
theorem impl_BufOk.tab7 : rtab .any (opsOf Try.f48 7) = impl_BufOk.T7 := by kernel_rfl
theorem impl_BufOk.bits7 : waitsOk impl_BufOk.T7.2 impl_BufOk.B7 = true := by kernel_rfl
set_option maxHeartbeats 8000000 in
set_option maxRecDepth 100000 in
theorem impl_BufOk.calls (k : Nat) (a0_0 : Int) (a0_1 : Int) (a0_2 : Int) (a0_3 : Int) (a0_4 : Bool) (A0_5 : Option Addr) (c0_5 : Nat) (l0_5 : List (S80)) (r : Bool) (w : World) (hr0_5 : Kd.C k80 w A0_5 l0_5.length l0_5) (hc0_5 : l0_5.length ≤ c0_5) (h : impl_BufOk.f k a0_0 a0_1 a0_2 a0_3 a0_4 l0_5 = some r) :
  Calls Try.prog 48 #[.agg #[.int .i64 a0_0, .int .i64 a0_1, .int .i64 a0_2, .int .i64 a0_3, .bool a0_4, .slice A0_5 l0_5.length c0_5]] w fun e w' => e = .returned (.bool r) ∧ Below w.heap.size w w' := by
 have hu47 := Try.underlying47; have hu44 := Try.underlying44; have hu80 := Try.underlying80; have hu52 := Try.underlying52
 have HR0_5 := Aside0.mk hr0_5
 have HC0_5 := Aside0.mk hc0_5
 clear hr0_5 hc0_5; have HB := Aside0.mk (Below.refl w.heap.size w)
 have H : ((impl_LimitsOk.f a0_0 a0_1 a0_2 a0_3 a0_4).bind fun t121 => (if t121 = true then (impl_BufOk.j0 k (decide ((l0_5.length : Int) > 48)) a0_0 a0_1 a0_2 a0_3 a0_4 l0_5) else (impl_BufOk.j0 k true a0_0 a0_1 a0_2 a0_3 a0_4 l0_5))) = some r := h
 clear h
 have HC2 := Aside0.mk H
 clear H
 go_enter Try.func48, Try.ntmps48
 go_upto_region 1 with (first | ((with_reducible refine gate_dst (N := 1) rfl ?_); (try (refine gate_guard (by rfl) ?_; dsimp only)); refine box_event ?hg (N := 1) ?hd (cs := #[.int .i64 a0_0, .int .i64 a0_1, .int .i64 a0_2, .int .i64 a0_3, .bool a0_4, .slice A0_5 l0_5.length c0_5]) (t := 47) ?hr ?_; (case hd => rfl); (case hg => rfl); (case hr => first | (go_simp; done) | (go_simp; rfl)); intro gb120 hg w3 hbox hb; have n0_ := Aside0.mk (below_step (be_ HB) hb); have n1_ := Aside0.mk (hbox); have n2_ := gw_ HB hg; have n3_ := gw_ HB hg; clear HB; have HB := n0_; have BK120 := n1_; have GW120 := n2_; have GE120 := n3_; clear n0_ n1_ n2_ n3_; clear hb hbox hg))
 (try simp only [Act.put, List.setIfInBounds_toArray, List.set_cons_zero, List.set_cons_succ])
 go_cut [17] (fun v17 wc => ∃ (kq : Nat) (x17_1 : Bool), v17 = .bool x17_1 ∧ Aside0 (impl_BufOk.j0 kq x17_1 a0_0 a0_1 a0_2 a0_3 a0_4 l0_5 = some r) ∧ Aside0 (kq ≤ k) ∧ Aside0 (wc.heap[gb120]? = some (.cells #[.int .i64 a0_0, .int .i64 a0_1, .int .i64 a0_2, .int .i64 a0_3, .bool a0_4, (.slice A0_5 l0_5.length c0_5)] 47 (0, 0))) ∧ Aside0 (Below w.heap.size w wc))
 case first =>
  have H := HC2.out
  clear HC2
  replace H := Option.bind_eq_some_iff.mp H
  obtain ⟨t121, A40, H⟩ := H
  replace H : (if t121 = true then (impl_BufOk.j0 k (decide ((l0_5.length : Int) > 48)) a0_0 a0_1 a0_2 a0_3 a0_4 l0_5) else (impl_BufOk.j0 k true a0_0 a0_1 a0_2 a0_3 a0_4 l0_5)) = some r := H
  have A4 := Aside0.mk A40
  clear A40
  by_cases c5 : t121 = true
  ·subst c5
   have H1 : (impl_BufOk.j0 k (decide ((l0_5.length : Int) > 48)) a0_0 a0_1 a0_2 a0_3 a0_4 l0_5) = some r := by rw [if_pos rfl] at H; exact H
   clear H
   have H := H1
   clear H1
   have H' := Aside0.mk H
   clear H; have hcz6_0 := bc_ BK120 0 (.int .i64 a0_0) rfl; have hcz6_1 := bc_ BK120 1 (.int .i64 a0_1) rfl; have hcz6_2 := bc_ BK120 2 (.int .i64 a0_2) rfl; have hcz6_3 := bc_ BK120 3 (.int .i64 a0_3) rfl; have hcz6_4 := bc_ BK120 4 (.bool a0_4) rfl; have hcz6_5 := bc_ BK120 5 (.slice A0_5 l0_5.length c0_5) rfl; have hfz6_0 := blk_frozen BK120.out 0; have hfz6_1 := blk_frozen BK120.out 1; have hfz6_2 := blk_frozen BK120.out 2; have hfz6_3 := blk_frozen BK120.out 3; have hfz6_4 := blk_frozen BK120.out 4; have hfz6_5 := blk_frozen BK120.out 5
   go_wp2_with (first | ((with_reducible refine gate_callee (f := 105) rfl ?_); refine goesL_ (some 10) rfl rfl Try.func105 (by kernel_rfl) rfl #[.agg #[.int .i64 a0_0, .int .i64 a0_1, .int .i64 a0_2, .int .i64 a0_3, .bool a0_4]] rfl mt_ ?_; (with_reducible refine (impl_LimitsOk.calls a0_0 a0_1 a0_2 a0_3 a0_4 true _ A4.out).mono ?_); rintro e w7 ⟨rfl, hb⟩; refine ⟨_, rfl, ?_⟩; have n0_ := bb_ BK120 hb; have n1_ := Aside0.mk (below_step (bf_ HB) hb); clear BK120; clear HB; have BK120 := n0_; have HB := n1_; clear n0_ n1_; (try clear hb); (try clear hb2); (try clear hk); (try clear hi); have hcz8_0 := bc_ BK120 0 (.int .i64 a0_0) rfl; have hcz8_1 := bc_ BK120 1 (.int .i64 a0_1) rfl; have hcz8_2 := bc_ BK120 2 (.int .i64 a0_2) rfl; have hcz8_3 := bc_ BK120 3 (.int .i64 a0_3) rfl; have hcz8_4 := bc_ BK120 4 (.bool a0_4) rfl; have hcz8_5 := bc_ BK120 5 (.slice A0_5 l0_5.length c0_5) rfl; have hfz8_0 := blk_frozen BK120.out 0; have hfz8_1 := blk_frozen BK120.out 1; have hfz8_2 := blk_frozen BK120.out 2; have hfz8_3 := blk_frozen BK120.out 3; have hfz8_4 := blk_frozen BK120.out 4; have hfz8_5 := blk_frozen BK120.out 5))
   go_meet
   case rel => exact ⟨_, (decide ((l0_5.length : Int) > 48)), (by first | rfl | (simp; done) | (simp [*]; done)), H', ⟨by first | omega | exact Nat.le_refl _⟩, ⟨bk_ BK120⟩, ⟨bf_ HB⟩⟩
  ·replace c5 := Bool.eq_false_iff.mpr c5
   subst c5
   have H1 : (impl_BufOk.j0 k true a0_0 a0_1 a0_2 a0_3 a0_4 l0_5) = some r := by rw [if_neg (show ¬ (false = true) by decide)] at H; exact H
   clear H
   have H := H1
   clear H1
   have H' := Aside0.mk H
   clear H; have hcz9_0 := bc_ BK120 0 (.int .i64 a0_0) rfl; have hcz9_1 := bc_ BK120 1 (.int .i64 a0_1) rfl; have hcz9_2 := bc_ BK120 2 (.int .i64 a0_2) rfl; have hcz9_3 := bc_ BK120 3 (.int .i64 a0_3) rfl; have hcz9_4 := bc_ BK120 4 (.bool a0_4) rfl; have hcz9_5 := bc_ BK120 5 (.slice A0_5 l0_5.length c0_5) rfl; have hfz9_0 := blk_frozen BK120.out 0; have hfz9_1 := blk_frozen BK120.out 1; have hfz9_2 := blk_frozen BK120.out 2; have hfz9_3 := blk_frozen BK120.out 3; have hfz9_4 := blk_frozen BK120.out 4; have hfz9_5 := blk_frozen BK120.out 5
   go_wp2_with (first | ((with_reducible refine gate_callee (f := 105) rfl ?_); refine goesL_ (some 10) rfl rfl Try.func105 (by kernel_rfl) rfl #[.agg #[.int .i64 a0_0, .int .i64 a0_1, .int .i64 a0_2, .int .i64 a0_3, .bool a0_4]] rfl mt_ ?_; (with_reducible refine (impl_LimitsOk.calls a0_0 a0_1 a0_2 a0_3 a0_4 false _ A4.out).mono ?_); rintro e w10 ⟨rfl, hb⟩; refine ⟨_, rfl, ?_⟩; have n0_ := bb_ BK120 hb; have n1_ := Aside0.mk (below_step (bf_ HB) hb); clear BK120; clear HB; have BK120 := n0_; have HB := n1_; clear n0_ n1_; (try clear hb); (try clear hb2); (try clear hk); (try clear hi)))
   go_meet
   case rel => exact ⟨_, (true), (by first | rfl | (simp; done) | (simp [*]; done)), H', ⟨by first | omega | exact Nat.le_refl _⟩, ⟨bk_ BK120⟩, ⟨bf_ HB⟩⟩
 case rest =>
  clear HC2; (try clear c1); (try clear p2); (try clear c4); (try clear c5); (try clear c10); (try clear hcz6_0 hcz6_1 hcz6_2 hcz6_3 hcz6_4 hcz6_5 hfz6_0 hfz6_1 hfz6_2 hfz6_3 hfz6_4 hfz6_5); (try clear hcz8_0 hcz8_1 hcz8_2 hcz8_3 hcz8_4 hcz8_5 hfz8_0 hfz8_1 hfz8_2 hfz8_3 hfz8_4 hfz8_5); (try clear hcz9_0 hcz9_1 hcz9_2 hcz9_3 hcz9_4 hcz9_5 hfz9_0 hfz9_1 hfz9_2 hfz9_3 hfz9_4 hfz9_5)
  obtain ⟨kq, x17_1, rfl, HA, HJ1, BK120, HB⟩ := hcut
  cases kq with
  | zero => exact absurd HA.out (by simp [impl_BufOk.j0])
  | succ kj1 =>
   have H := HA.out
   clear HA
   simp only [impl_BufOk.j0] at H
   by_cases c11 : x17_1 = true
   ·subst c11
    have H1 : (some false) = some r := by rw [if_pos rfl] at H; exact H
    clear H
    have H := H1
    clear H1
    obtain rfl := Option.some.inj H
    go_wp2
    go_ret
    exact ⟨by first | rfl | (simp [errW_none, errW_some] <;> rfl) | (simp [*, errW_none, errW_some] <;> rfl), bf_ HB⟩
   ·replace c11 := Bool.eq_false_iff.mpr c11
    subst c11
    have H1 : (impl_BufOk.l0 kj1 (([] : List Int)) l0_5 (l0_5.length : Int) 0 a0_0 a0_1 a0_2 a0_3 a0_4 l0_5) = some r := by rw [if_neg (show ¬ (false = true) by decide)] at H; exact H
    clear H
    have H := H1
    clear H1
    obtain ⟨y122, hy122⟩ : ∃ y_ : List Int, y_ = (([] : List Int)) := ⟨_, rfl⟩
    replace H : (impl_BufOk.l0 kj1 y122 l0_5 (l0_5.length : Int) 0 a0_0 a0_1 a0_2 a0_3 a0_4 l0_5) = some r := by first | (rw [hy122]; with_reducible exact H) | (have H2_ := (Option.bind_some _ _).symm.trans H; rw [hy122]; with_reducible exact H2_) | (have H2_ := (Option.bind_some _ _).symm.trans H; with_reducible exact H2_) | with_reducible exact H | (rw [hy122]; exact H) | exact H
    have Ny122 := Aside0.mk hy122
    clear hy122
    have H' := Aside0.mk H
    clear H
    go_wp2_with (first | ((with_reducible refine gate_dst (N := 18) rfl ?_); (try (refine gate_guard (by rfl) ?_; dsimp only)); refine MR_make (k := 3) (e := 4) (t := 121) (N := 18) ?hg ?hd ?hop ?_; (case hd => rfl); (case hg => rfl); (case hop => rfl); intro v123 w12 ho13 hb; rw [← Ny122.out] at ho13; have n0_ := Aside0.mk (MR_lower ho13 (below_size (bf_ HB))); have n1_ := bb_ BK120 hb; have n2_ := Aside0.mk (below_step (bf_ HB) hb); clear BK120; clear HB; have HO124 := n0_; have BK120 := n1_; have HB := n2_; clear n0_ n1_ n2_; clear hb ho13; have hcz14_0 := bc_ BK120 0 (.int .i64 a0_0) rfl; have hcz14_1 := bc_ BK120 1 (.int .i64 a0_1) rfl; have hcz14_2 := bc_ BK120 2 (.int .i64 a0_2) rfl; have hcz14_3 := bc_ BK120 3 (.int .i64 a0_3) rfl; have hcz14_4 := bc_ BK120 4 (.bool a0_4) rfl; have hcz14_5 := bc_ BK120 5 (.slice A0_5 l0_5.length c0_5) rfl; have hfz14_0 := blk_frozen BK120.out 0; have hfz14_1 := blk_frozen BK120.out 1; have hfz14_2 := blk_frozen BK120.out 2; have hfz14_3 := blk_frozen BK120.out 3; have hfz14_4 := blk_frozen BK120.out 4; have hfz14_5 := blk_frozen BK120.out 5))
    go_loopg [22] kj1 (fun kq v22 w' => ∃ (x3_2 : List Int) (x22_2 : Int), v22 = .int .i64 x22_2 ∧ Aside0 (impl_BufOk.l0 kq x3_2 l0_5 (l0_5.length : Int) x22_2 a0_0 a0_1 a0_2 a0_3 a0_4 l0_5 = some r) ∧ Aside0 (kq ≤ kj1) ∧ Aside0 (MR Try.prog 3 4 w' w.heap.size v123 x3_2) ∧ Aside0 (w'.heap[gb120]? = some (.cells #[.int .i64 a0_0, .int .i64 a0_1, .int .i64 a0_2, .int .i64 a0_3, .bool a0_4, (.slice A0_5 l0_5.length c0_5)] 47 (0, 0))) ∧ Aside0 (Below w.heap.size w w'))
    case atStart => exact ⟨(y122), (0), (by first | rfl | (simp; done) | (simp [*]; done)), H', ⟨Nat.le_refl _⟩, ⟨mr_ HO124⟩, ⟨bk_ BK120⟩, ⟨bf_ HB⟩⟩
    case round =>
     clear H'
     (try clear c1); (try clear p2 p2); (try clear c4); (try clear c5); (try clear c10); (try clear c11); (try clear hcz14_0 hcz14_1 hcz14_2 hcz14_3 hcz14_4 hcz14_5 hfz14_0 hfz14_1 hfz14_2 hfz14_3 hfz14_4 hfz14_5); (try clear hcz6_0 hcz6_1 hcz6_2 hcz6_3 hcz6_4 hcz6_5 hfz6_0 hfz6_1 hfz6_2 hfz6_3 hfz6_4 hfz6_5); (try clear hcz8_0 hcz8_1 hcz8_2 hcz8_3 hcz8_4 hcz8_5 hfz8_0 hfz8_1 hfz8_2 hfz8_3 hfz8_4 hfz8_5); (try clear hcz9_0 hcz9_1 hcz9_2 hcz9_3 hcz9_4 hcz9_5 hfz9_0 hfz9_1 hfz9_2 hfz9_3 hfz9_4 hfz9_5)
     obtain ⟨x3_2, x22_2, rfl, HA, HK2, HO_3, BK120, HB⟩ := hrel
     cases gk with
     | zero => exact absurd HA.out (by simp [impl_BufOk.l0])
     | succ k2 =>
      have H := HA.out
      clear HA
      simp only [impl_BufOk.l0] at H
      by_cases c15 : x22_2 < (l0_5.length : Int)
      ·rw [if_pos c15] at H
       have c15b0 : decide (x22_2 < (l0_5.length : Int)) = true := decide_eq_true c15
       clear c15
       by_cases c16 : 0 ≤ x22_2
       ·rw [if_pos c16] at H
        have c16b0 : decide (0 ≤ x22_2) = true := decide_eq_true c16
        clear c16
        by_cases c17 : x22_2 < (l0_5.length : Int)
        ·rw [if_pos c17] at H
         have c17b0 : decide (x22_2 < (l0_5.length : Int)) = true := decide_eq_true c17
         clear c17
         have HC18 := Aside0.mk H
         clear H
         have p126 : 0 ≤ (x22_2 : Int) := of_decide_eq_true (by first | (with_reducible assumption) | assumption)
         have q126 : x22_2 < (l0_5.length : Int) := of_decide_eq_true (by first | (with_reducible assumption) | assumption)
         obtain ⟨ad126, A126_1, c126_1, e126, hx126_0, hx126_1, hl126_1, hi126_1⟩ := at_T80 HR0_5.out x22_2 p126 q126
         cases e126
         replace hx126_0 := (HB.out.cell (World.block_lt_of_cell? w _ hx126_0)).trans hx126_0
         replace hx126_1 := (HB.out.cell (World.block_lt_of_cell? w _ hx126_1)).trans hx126_1
         have HR126_1 := Aside0.mk hi126_1
         have HC126_1 := Aside0.mk hl126_1
         clear hi126_1 hl126_1
         replace p126 := eq_true p126
         replace q126 := eq_true q126
         go_upto_region 7 with (first | ((with_reducible refine gate_dst (N := 5) rfl ?_); (try (refine gate_guard (by rfl) ?_; dsimp only)); refine box_event ?hg (N := 5) ?hd (cs := #[.int .i64 0, .slice none 0 0]) (t := 80) ?hr ?_; (case hd => rfl); (case hg => rfl); (case hr => first | (go_simp; done) | (go_simp; rfl)); intro gb127 hg w19 hbox hb; have n0_ := Aside0.mk (MR_below (mr_ HO_3) hb); have n1_ := bb_ BK120 hb; have n2_ := Aside0.mk (below_step (bf_ HB) hb); have n3_ := Aside0.mk (hbox); have n4_ := gw_ HB hg; have n5_ := gw_ HB hg; have n6_ := nl_ BK120 hg; have n7_ := ng_ BK120 hg; clear HO_3; clear BK120; clear HB; have HO_3 := n0_; have BK120 := n1_; have HB := n2_; have BK127 := n3_; have GW127 := n4_; have GE127 := n5_; have NB120_127 := n6_; have NB127_120 := n7_; clear n0_ n1_ n2_ n3_ n4_ n5_ n6_ n7_; clear hb hbox hg; have hnb20 := NB127_120.out; have hnc20 := NB120_127.out; have hcz21_0 := bc_ BK127 0 (.int .i64 0) rfl; have hcz21_1 := bc_ BK127 1 (.slice none 0 0) rfl; have hfz21_0 := blk_frozen BK127.out 0; have hfz21_1 := blk_frozen BK127.out 1))
         (try simp only [Act.put, List.setIfInBounds_toArray, List.set_cons_zero, List.set_cons_succ])
         go_cut [59] (fun v59 wc => ∃ (kq : Nat) (x59_17 : Bool), v59 = .bool x59_17 ∧ Aside0 (impl_BufOk.j2 kq x3_2 l0_5 (l0_5.length : Int) x22_2 x59_17 a0_0 a0_1 a0_2 a0_3 a0_4 l0_5 ((rd_T80 l0_5 x22_2).f0) ((rd_T80 l0_5 x22_2).f1) = some r) ∧ Aside0 (kq ≤ k2) ∧ Aside0 (MR Try.prog 3 4 wc w.heap.size v123 x3_2) ∧ Aside0 (wc.heap[gb120]? = some (.cells #[.int .i64 a0_0, .int .i64 a0_1, .int .i64 a0_2, .int .i64 a0_3, .bool a0_4, (.slice (some ad126) l0_5.length c0_5)] 47 (0, 0))) ∧ Aside0 (wc.heap[gb127]? = some (.cells #[.int .i64 ((rd_T80 l0_5 x22_2).f0), (.slice A126_1 ((rd_T80 l0_5 x22_2).f1).length c126_1)] 80 (0, 0))) ∧ Aside0 (Below w.heap.size w wc))
         case first =>
          have H := HC18.out
          clear HC18
          replace H := Option.bind_eq_some_iff.mp H
          obtain ⟨t128, A220, H⟩ := H
          replace H : (if t128 = true then (if x22_2 > 0 then (if 0 ≤ (wrap64 (x22_2 - 1)) then (if (wrap64 (x22_2 - 1)) < (l0_5.length : Int) then (if ((rd_T80 l0_5 (wrap64 (x22_2 - 1))).f0) ≥ ((rd_T80 l0_5 x22_2).f0) then (impl_BufOk.j2 k2 x3_2 l0_5 (l0_5.length : Int) x22_2 true a0_0 a0_1 a0_2 a0_3 a0_4 l0_5 ((rd_T80 l0_5 x22_2).f0) ((rd_T80 l0_5 x22_2).f1)) else (if (((rd_T80 l0_5 x22_2).f1).length : Int) = 0 then (impl_BufOk.j2 k2 x3_2 l0_5 (l0_5.length : Int) x22_2 true a0_0 a0_1 a0_2 a0_3 a0_4 l0_5 ((rd_T80 l0_5 x22_2).f0) ((rd_T80 l0_5 x22_2).f1)) else ((impl_Lane_fits.f k2 ((rd_T80 l0_5 x22_2).f0) ((rd_T80 l0_5 x22_2).f1) a0_0 a0_1 a0_2 a0_3 a0_4).bind fun t130 => (impl_BufOk.j2 k2 x3_2 l0_5 (l0_5.length : Int) x22_2 (!t130) a0_0 a0_1 a0_2 a0_3 a0_4 l0_5 ((rd_T80 l0_5 x22_2).f0) ((rd_T80 l0_5 x22_2).f1))))) else (none)) else (none)) else (if (((rd_T80 l0_5 x22_2).f1).length : Int) = 0 then (impl_BufOk.j2 k2 x3_2 l0_5 (l0_5.length : Int) x22_2 true a0_0 a0_1 a0_2 a0_3 a0_4 l0_5 ((rd_T80 l0_5 x22_2).f0) ((rd_T80 l0_5 x22_2).f1)) else ((impl_Lane_fits.f k2 ((rd_T80 l0_5 x22_2).f0) ((rd_T80 l0_5 x22_2).f1) a0_0 a0_1 a0_2 a0_3 a0_4).bind fun t131 => (impl_BufOk.j2 k2 x3_2 l0_5 (l0_5.length : Int) x22_2 (!t131) a0_0 a0_1 a0_2 a0_3 a0_4 l0_5 ((rd_T80 l0_5 x22_2).f0) ((rd_T80 l0_5 x22_2).f1))))) else (impl_BufOk.j2 k2 x3_2 l0_5 (l0_5.length : Int) x22_2 true a0_0 a0_1 a0_2 a0_3 a0_4 l0_5 ((rd_T80 l0_5 x22_2).f0) ((rd_T80 l0_5 x22_2).f1))) = some r := H
          have A22 := Aside0.mk A220
          clear A220
          by_cases c23 : t128 = true
          ·subst c23
           have H1 : (if x22_2 > 0 then (if 0 ≤ (wrap64 (x22_2 - 1)) then (if (wrap64 (x22_2 - 1)) < (l0_5.length : Int) then (if ((rd_T80 l0_5 (wrap64 (x22_2 - 1))).f0) ≥ ((rd_T80 l0_5 x22_2).f0) then (impl_BufOk.j2 k2 x3_2 l0_5 (l0_5.length : Int) x22_2 true a0_0 a0_1 a0_2 a0_3 a0_4 l0_5 ((rd_T80 l0_5 x22_2).f0) ((rd_T80 l0_5 x22_2).f1)) else (if (((rd_T80 l0_5 x22_2).f1).length : Int) = 0 then (impl_BufOk.j2 k2 x3_2 l0_5 (l0_5.length : Int) x22_2 true a0_0 a0_1 a0_2 a0_3 a0_4 l0_5 ((rd_T80 l0_5 x22_2).f0) ((rd_T80 l0_5 x22_2).f1)) else ((impl_Lane_fits.f k2 ((rd_T80 l0_5 x22_2).f0) ((rd_T80 l0_5 x22_2).f1) a0_0 a0_1 a0_2 a0_3 a0_4).bind fun t130 => (impl_BufOk.j2 k2 x3_2 l0_5 (l0_5.length : Int) x22_2 (!t130) a0_0 a0_1 a0_2 a0_3 a0_4 l0_5 ((rd_T80 l0_5 x22_2).f0) ((rd_T80 l0_5 x22_2).f1))))) else (none)) else (none)) else (if (((rd_T80 l0_5 x22_2).f1).length : Int) = 0 then (impl_BufOk.j2 k2 x3_2 l0_5 (l0_5.length : Int) x22_2 true a0_0 a0_1 a0_2 a0_3 a0_4 l0_5 ((rd_T80 l0_5 x22_2).f0) ((rd_T80 l0_5 x22_2).f1)) else ((impl_Lane_fits.f k2 ((rd_T80 l0_5 x22_2).f0) ((rd_T80 l0_5 x22_2).f1) a0_0 a0_1 a0_2 a0_3 a0_4).bind fun t131 => (impl_BufOk.j2 k2 x3_2 l0_5 (l0_5.length : Int) x22_2 (!t131) a0_0 a0_1 a0_2 a0_3 a0_4 l0_5 ((rd_T80 l0_5 x22_2).f0) ((rd_T80 l0_5 x22_2).f1))))) = some r := by rw [if_pos rfl] at H; exact H
           clear H
           have H := H1
           clear H1
           by_cases c24 : x22_2 > 0
           ·rw [if_pos c24] at H
            have c24b0 : decide (0 < x22_2) = true := decide_eq_true c24
            clear c24
            (first | rw [c24b0] | (simp only [i64_w, i32_w]; rw [c24b0]) | skip)
            obtain ⟨ji25, hji25⟩ : ∃ j_ : Int, (wrap64 (x22_2 - 1)) = j_ := ⟨_, rfl⟩
            replace H : (if 0 ≤ (ji25) then (if (ji25) < (l0_5.length : Int) then (if ((rd_T80 l0_5 (ji25)).f0) ≥ ((rd_T80 l0_5 x22_2).f0) then (impl_BufOk.j2 k2 x3_2 l0_5 (l0_5.length : Int) x22_2 true a0_0 a0_1 a0_2 a0_3 a0_4 l0_5 ((rd_T80 l0_5 x22_2).f0) ((rd_T80 l0_5 x22_2).f1)) else (if (((rd_T80 l0_5 x22_2).f1).length : Int) = 0 then (impl_BufOk.j2 k2 x3_2 l0_5 (l0_5.length : Int) x22_2 true a0_0 a0_1 a0_2 a0_3 a0_4 l0_5 ((rd_T80 l0_5 x22_2).f0) ((rd_T80 l0_5 x22_2).f1)) else ((impl_Lane_fits.f k2 ((rd_T80 l0_5 x22_2).f0) ((rd_T80 l0_5 x22_2).f1) a0_0 a0_1 a0_2 a0_3 a0_4).bind fun t130 => (impl_BufOk.j2 k2 x3_2 l0_5 (l0_5.length : Int) x22_2 (!t130) a0_0 a0_1 a0_2 a0_3 a0_4 l0_5 ((rd_T80 l0_5 x22_2).f0) ((rd_T80 l0_5 x22_2).f1))))) else (none)) else (none)) = some r := by first | (rw [hji25] at H; exact H) | (simp only [hji25] at H ⊢; exact H)
            (try rw [hji25] at A22)
            have hji25w : (IntKind.i64.wrap (x22_2 - 1)) = ji25 := (i64_w _).trans hji25
            by_cases c26 : 0 ≤ (ji25)
            ·rw [if_pos c26] at H
             have c26b0 : decide (0 ≤ (ji25)) = true := decide_eq_true c26
             clear c26
             by_cases c27 : (ji25) < (l0_5.length : Int)
             ·rw [if_pos c27] at H
              have c27b0 : decide ((ji25) < (l0_5.length : Int)) = true := decide_eq_true c27
              clear c27
              by_cases c28 : ((rd_T80 l0_5 (ji25)).f0) ≥ ((rd_T80 l0_5 x22_2).f0)
              ·rw [if_pos c28] at H
               have c28b0 : decide (((rd_T80 l0_5 x22_2).f0) ≤ ((rd_T80 l0_5 (ji25)).f0)) = true := decide_eq_true c28
               clear c28
               have H' := Aside0.mk H
               clear H
               try go_wp2
               have n0_ : Aside0 (MR Try.prog 3 4 ((w19.setCell ⟨gb127, 0, none⟩ (.int .i64 ((rd_T80 l0_5 x22_2).f0))).setCell ⟨gb127, 1, none⟩ (.slice A126_1 ((rd_T80 l0_5 x22_2).f1).length c126_1)) w.heap.size v123 x3_2) := ⟨mf2_ HO_3 BK127 (.int .i64 ((rd_T80 l0_5 x22_2).f0)) (.slice A126_1 ((rd_T80 l0_5 x22_2).f1).length c126_1)⟩
               have n1_ : Aside0 (((w19.setCell ⟨gb127, 0, none⟩ (.int .i64 ((rd_T80 l0_5 x22_2).f0))).setCell ⟨gb127, 1, none⟩ (.slice A126_1 ((rd_T80 l0_5 x22_2).f1).length c126_1)).heap[gb120]? = some (.cells #[.int .i64 a0_0, .int .i64 a0_1, .int .i64 a0_2, .int .i64 a0_3, .bool a0_4, .slice (some ad126) l0_5.length c0_5] 47 (0, 0))) := ⟨by (with_reducible repeat (first | refine blk_drewN ?_ _ | refine blk_drew ?_ | refine blk_alloc ?_ _)); refine blk_far ?_ NB120_127.out _; (with_reducible repeat (first | refine blk_drewN ?_ _ | refine blk_drew ?_ | refine blk_alloc ?_ _)); refine blk_far ?_ NB120_127.out _; exact bk_ BK120⟩
               have n2_ : Aside0 (((w19.setCell ⟨gb127, 0, none⟩ (.int .i64 ((rd_T80 l0_5 x22_2).f0))).setCell ⟨gb127, 1, none⟩ (.slice A126_1 ((rd_T80 l0_5 x22_2).f1).length c126_1)).heap[gb127]? = some (.cells #[.int .i64 ((rd_T80 l0_5 x22_2).f0), .slice A126_1 ((rd_T80 l0_5 x22_2).f1).length c126_1] 80 (0, 0))) := ⟨by (with_reducible repeat (first | refine blk_drewN ?_ _ | refine blk_drew ?_ | refine blk_alloc ?_ _)); refine blk_put (cs := #[.int .i64 ((rd_T80 l0_5 x22_2).f0), .slice none 0 0]) ?_ 1 _ rfl; (with_reducible repeat (first | refine blk_drewN ?_ _ | refine blk_drew ?_ | refine blk_alloc ?_ _)); refine blk_put (cs := #[.int .i64 0, .slice none 0 0]) ?_ 0 _ rfl; exact bk_ BK127⟩
               have n3_ : Aside0 (Below w.heap.size w ((w19.setCell ⟨gb127, 0, none⟩ (.int .i64 ((rd_T80 l0_5 x22_2).f0))).setCell ⟨gb127, 1, none⟩ (.slice A126_1 ((rd_T80 l0_5 x22_2).f1).length c126_1))) := ⟨bf_ HB⟩
               (try clear HO_3); (try clear BK120); (try clear BK127); (try clear HB)
               generalize ((w19.setCell ⟨gb127, 0, none⟩ (.int .i64 ((rd_T80 l0_5 x22_2).f0))).setCell ⟨gb127, 1, none⟩ (.slice A126_1 ((rd_T80 l0_5 x22_2).f1).length c126_1)) = w29 at n0_ n1_ n2_ n3_ ⊢
               have HO_3 := n0_; have BK120 := n1_; have BK127 := n2_; have HB := n3_; clear n0_ n1_ n2_ n3_; have n0_ := Aside0.mk (MR_drew HO_3.out); have n1_ := Aside0.mk (blk_drew BK120.out); have n2_ := Aside0.mk (blk_drew BK127.out); have n3_ := Aside0.mk (below_drew1 HB.out); clear HO_3; clear BK120; clear BK127; clear HB; have HO_3 := n0_; have BK120 := n1_; have BK127 := n2_; have HB := n3_; clear n0_ n1_ n2_ n3_
               have p129 : 0 ≤ ((ji25) : Int) := of_decide_eq_true (by first | (with_reducible assumption) | assumption)
               have q129 : (ji25) < (l0_5.length : Int) := of_decide_eq_true (by first | (with_reducible assumption) | assumption)
               obtain ⟨ad129, A129_1, c129_1, e129, hx129_0, hx129_1, hl129_1, hi129_1⟩ := at_T80 HR0_5.out (ji25) p129 q129
               have hw129_1 := hx129_1; have hw129_0 := hx129_0
               obtain rfl : ad126 = ad129 := (by injection e129)
               replace hx129_0 := (HB.out.cell (World.block_lt_of_cell? w _ hx129_0)).trans hx129_0
               replace hx129_1 := (HB.out.cell (World.block_lt_of_cell? w _ hx129_1)).trans hx129_1
               have HR129_1 := Aside0.mk hi129_1
               have HC129_1 := Aside0.mk hl129_1
               clear hi129_1 hl129_1
               replace p129 := eq_true p129
               replace q129 := eq_true q129
               refine start_ (n := 33) (S := fun w' => w'.cell? ⟨gb127, 0, none⟩ = some (.int .i64 ((rd_T80 l0_5 x22_2).f0)) ∧ w'.cell? ⟨gb127, 1, none⟩ = some (.slice A126_1 ((rd_T80 l0_5 x22_2).f1).length c126_1) ∧ w'.cell? ⟨gb120, 0, none⟩ = some (.int .i64 a0_0) ∧ w'.cell? ⟨gb120, 1, none⟩ = some (.int .i64 a0_1) ∧ w'.cell? ⟨gb120, 2, none⟩ = some (.int .i64 a0_2) ∧ w'.cell? ⟨gb120, 3, none⟩ = some (.int .i64 a0_3) ∧ w'.cell? ⟨gb120, 4, none⟩ = some (.bool a0_4) ∧ w'.cell? ⟨gb120, 5, none⟩ = some (.slice (some ad126) l0_5.length c0_5) ∧ w'.cell? (ad126.add (((ji25)).toNat * 2)) = some (.int .i64 ((rd_T80 l0_5 (ji25)).f0)) ∧ w'.cell? ⟨(ad126.add (((ji25)).toNat * 2)).block, (ad126.add (((ji25)).toNat * 2)).off + 1, none⟩ = some (.slice A129_1 ((rd_T80 l0_5 (ji25)).f1).length c129_1)) (ds := []) (bs 33 0) (by kernel_rfl) rfl rfl ⟨bt_ BK127 0, bt_ BK127 1, bt_ BK120 0, bt_ BK120 1, bt_ BK120 2, bt_ BK120 3, bt_ BK120 4, bt_ BK120 5, ((HB.out.cell (World.block_lt_of_cell? w _ hw129_0)).trans hw129_0), ((HB.out.cell (World.block_lt_of_cell? w _ hw129_1)).trans hw129_1)⟩ (fun hHeld => ?_); refine with_tabW impl_BufOk.tab7 impl_BufOk.bits7 (fun HT_ HW_ => ?_)
               generalize w29.drew = w30 at HO_3 BK120 BK127 HB HR129_1 hx129_0 hx129_1 hHeld ⊢
               refine pure_s (i := 0) (N := some 27) (bs 33 1) (any_of HT_.out (by kernel_rfl)) (h := ?_)
               refine take_ (i := 1) (N := some 28) (v := ?_) (a' := ?_) (bs 33 2) rfl rfl (take_ofW HT_.out HW_.out (by kernel_rfl)) (fun _ _ _ h => h) (Or.inl ⟨by rfl, ?_⟩) hHeld ?_ ?_
               rotate_left
               ·rintro w' ⟨s0, s1, s2, s3, s4, s5, s6, s7, s8, s9⟩
                go_simp
                with_reducible rfl
               rotate_left
               ·simp only [Act.put, List.setIfInBounds_toArray, List.set_cons_zero, List.set_cons_succ, i64_w, i32_w]
                rfl
               refine one_ (i := 2) (N := some 29) (bs 33 3) rfl rfl (one_of HT_.out (by kernel_rfl)) (by decide) (fun K hK => ?_)
               refine goes_ Try.func80 (by kernel_rfl) rfl #[.int .i64 ((rd_T80 l0_5 x22_2).f0)] (by rfl) rfl rfl mt_ ?_
               with_reducible refine (impl_isFlow.calls ((rd_T80 l0_5 x22_2).f0) true _ A22.out).mono ?_
               rintro e w' ⟨rfl, ⟨nd, rfl⟩⟩
               refine ⟨_, rfl, ?_⟩
               refine hK.out _ _ ⟨bt_ BK127 0, bt_ BK127 1, bt_ BK120 0, bt_ BK120 1, bt_ BK120 2, bt_ BK120 3, bt_ BK120 4, bt_ BK120 5, ((HB.out.cell (World.block_lt_of_cell? w _ hw129_0)).trans hw129_0), ((HB.out.cell (World.block_lt_of_cell? w _ hw129_1)).trans hw129_1)⟩ (fun hHeld => ?_)
               clear hK K
               refine norm_ (a' := ?_) ?_ ?_
               rotate_left
               ·show Act.put _ (some 29) _ = _
                simp only [Act.put, List.setIfInBounds_toArray, List.set_cons_zero, List.set_cons_succ, i64_w, i32_w]
                rfl
               refine pure_s (i := 3) (N := some 30) (bs 33 4) (any_of HT_.out (by kernel_rfl)) (h := ?_)
               refine pure_s (i := 4) (N := some 31) (bs 33 5) (any_of HT_.out (by kernel_rfl)) (h := ?_)
               refine pure_s (i := 5) (N := some 32) (bs 33 6) (any_of HT_.out (by kernel_rfl)) (h := ?_)
               refine pure_s (i := 6) (N := some 33) (bs 33 7) (any_of HT_.out (by kernel_rfl)) (h := ?_)
               refine pure_s (i := 7) (N := some 34) (bs 33 8) (any_of HT_.out (by kernel_rfl)) (h := ?_)
               refine pure_s (i := 8) (N := some 35) (bs 33 9) (any_of HT_.out (by kernel_rfl)) (h := ?_)
               refine pure_s (i := 10) (N := some 37) #[oT,oT,oT,oT,oT,oT,oT,oT,oT,oF,oT,oF,oF,oF,oF,oF,oF,oF,oF,oF,oF,oF,oF,oF,oF,oF,oF,oF,oF,oF,oF,oF,oF] (any_of HT_.out (by kernel_rfl)) (h := ?_)
               refine pure_s (i := 11) (N := some 38) #[oT,oT,oT,oT,oT,oT,oT,oT,oT,oF,oT,oT,oF,oF,oF,oF,oF,oF,oF,oF,oF,oF,oF,oF,oF,oF,oF,oF,oF,oF,oF,oF,oF] (any_of HT_.out (by kernel_rfl)) (h := ?_)
               refine pure_s (i := 15) (N := some 42) #[oT,oT,oT,oT,oT,oT,oT,oT,oT,oF,oT,oT,oF,oF,oF,oT,oF,oF,oF,oF,oF,oF,oF,oF,oF,oF,oF,oF,oF,oF,oF,oF,oF] (any_of HT_.out (by kernel_rfl)) (h := ?_)
               refine take_ (i := 9) (N := some 36) (v := ?_) (a' := ?_) #[oT,oT,oT,oT,oT,oT,oT,oT,oT,oT,oT,oT,oF,oF,oF,oT,oF,oF,oF,oF,oF,oF,oF,oF,oF,oF,oF,oF,oF,oF,oF,oF,oF] rfl rfl (take_ofW HT_.out HW_.out (by kernel_rfl)) (fun _ _ _ h => h) (Or.inl ⟨by rfl, ?_⟩) hHeld ?_ ?_
               rotate_left
               ·rintro w' ⟨s0, s1, s2, s3, s4, s5, s6, s7, s8, s9⟩
                go_simp
                with_reducible rfl
               rotate_left
               ·simp only [Act.put, List.setIfInBounds_toArray, List.set_cons_zero, List.set_cons_succ, i64_w, i32_w]
                rfl
               refine pure_s (i := 12) (N := some 39) #[oT,oT,oT,oT,oT,oT,oT,oT,oT,oT,oT,oT,oT,oF,oF,oT,oF,oF,oF,oF,oF,oF,oF,oF,oF,oF,oF,oF,oF,oF,oF,oF,oF] (any_of HT_.out (by kernel_rfl)) (h := ?_)
               refine pure_s (i := 13) (N := some 40) #[oT,oT,oT,oT,oT,oT,oT,oT,oT,oT,oT,oT,oT,oT,oF,oT,oF,oF,oF,oF,oF,oF,oF,oF,oF,oF,oF,oF,oF,oF,oF,oF,oF] (any_of HT_.out (by kernel_rfl)) (h := ?_)
               refine take_ (i := 14) (N := some 41) (v := ?_) (a' := ?_) (bs 33 16) rfl rfl (take_ofW HT_.out HW_.out (by kernel_rfl)) (fun _ _ _ h => h) (Or.inl ⟨by rfl, ?_⟩) hHeld ?_ ?_
               rotate_left
               ·rintro w' ⟨s0, s1, s2, s3, s4, s5, s6, s7, s8, s9⟩
                go_simp
                with_reducible rfl
               rotate_left
               ·simp only [Act.put, List.setIfInBounds_toArray, List.set_cons_zero, List.set_cons_succ, i64_w, i32_w]
                rfl
               refine take_ (i := 16) (N := some 43) (v := ?_) (a' := ?_) (bs 33 17) rfl rfl (take_ofW HT_.out HW_.out (by kernel_rfl)) (fun _ _ _ h => h) (Or.inl ⟨by rfl, ?_⟩) hHeld ?_ ?_
               rotate_left
               ·rintro w' ⟨s0, s1, s2, s3, s4, s5, s6, s7, s8, s9⟩
                go_simp
                with_reducible rfl
               rotate_left
               ·simp only [Act.put, List.setIfInBounds_toArray, List.set_cons_zero, List.set_cons_succ, i64_w, i32_w]
                rfl
               refine pure_s (i := 17) (N := some 44) (bs 33 18) (any_of HT_.out (by kernel_rfl)) (h := ?_)
               refine pure_s (i := 18) (N := some 45) (bs 33 19) (any_of HT_.out (by kernel_rfl)) (h := ?_)
               refine pure_s (i := 19) (N := some 46) (bs 33 20) (any_of HT_.out (by kernel_rfl)) (h := ?_)
               refine pure_s (i := 20) (N := some 47) (bs 33 21) (any_of HT_.out (by kernel_rfl)) (h := ?_)
               refine pure_u (i := 21) (N := some 48) (bs 33 22) (any_of HT_.out (by kernel_rfl)) (h := ?_)
               refine pure_u (i := 22) (N := some 49) (bs 33 23) (any_of HT_.out (by kernel_rfl)) (h := ?_)
               refine pure_u (i := 23) (N := some 50) (bs 33 24) (any_of HT_.out (by kernel_rfl)) (h := ?_)
               refine pure_u (i := 24) (N := some 51) (bs 33 25) (any_of HT_.out (by kernel_rfl)) (h := ?_)
               refine pure_s (i := 25) (N := some 52) (bs 33 26) (any_of HT_.out (by kernel_rfl)) (h := ?_)
               refine pure_s (i := 26) (N := some 53) (bs 33 27) (any_of HT_.out (by kernel_rfl)) (h := ?_)
               refine pure_u (i := 27) (N := some 54) (bs 33 28) (any_of HT_.out (by kernel_rfl)) (h := ?_)
               refine pure_u (i := 28) (N := some 55) (bs 33 29) (any_of HT_.out (by kernel_rfl)) (h := ?_)
               refine pure_u (i := 29) (N := some 56) (bs 33 30) (any_of HT_.out (by kernel_rfl)) (h := ?_)
               refine pure_u (i := 30) (N := some 57) (bs 33 31) (any_of HT_.out (by kernel_rfl)) (h := ?_)
               refine pure_u (i := 31) (N := some 58) (bs 33 32) (any_of HT_.out (by kernel_rfl)) (h := ?_)
               refine pure_s (i := 32) (N := some 59) (bs 33 33) (any_of HT_.out (by kernel_rfl)) (h := ?_)
               refine done_ (done_of HT_.out (by kernel_rfl)) ?_
               try go_wp2
               go_meet
               case rel => exact ⟨_, (true), (by first | rfl | (simp; done) | (simp [*]; done)), H', ⟨by have := HJ1.out; have := HK2.out; first | omega | exact Nat.le_refl _⟩, ⟨mr_ HO_3⟩, ⟨bk_ BK120⟩, ⟨bk_ BK127⟩, ⟨bf_ HB⟩⟩
              ·rw [if_neg c28] at H
               have c28b0 : decide (((rd_T80 l0_5 x22_2).f0) ≤ ((rd_T80 l0_5 (ji25)).f0)) = false := decide_eq_false c28
               clear c28
               by_cases c31 : (((rd_T80 l0_5 x22_2).f1).length : Int) = 0
               ·rw [if_pos c31] at H
                have c31b0 : ((((rd_T80 l0_5 x22_2).f1).length : Int) == 0) = true := beq_iff_eq.mpr c31
                have c31b1 : ((((rd_T80 l0_5 x22_2).f1).length : Int) != 0) = false := bne_eq_false_iff_eq.mpr c31
                clear c31
                have H' := Aside0.mk H
                clear H
                try go_wp2
                have n0_ : Aside0 (MR Try.prog 3 4 ((w19.setCell ⟨gb127, 0, none⟩ (.int .i64 ((rd_T80 l0_5 x22_2).f0))).setCell ⟨gb127, 1, none⟩ (.slice A126_1 ((rd_T80 l0_5 x22_2).f1).length c126_1)) w.heap.size v123 x3_2) := ⟨mf2_ HO_3 BK127 (.int .i64 ((rd_T80 l0_5 x22_2).f0)) (.slice A126_1 ((rd_T80 l0_5 x22_2).f1).length c126_1)⟩
                have n1_ : Aside0 (((w19.setCell ⟨gb127, 0, none⟩ (.int .i64 ((rd_T80 l0_5 x22_2).f0))).setCell ⟨gb127, 1, none⟩ (.slice A126_1 ((rd_T80 l0_5 x22_2).f1).length c126_1)).heap[gb120]? = some (.cells #[.int .i64 a0_0, .int .i64 a0_1, .int .i64 a0_2, .int .i64 a0_3, .bool a0_4, .slice (some ad126) l0_5.length c0_5] 47 (0, 0))) := ⟨by (with_reducible repeat (first | refine blk_drewN ?_ _ | refine blk_drew ?_ | refine blk_alloc ?_ _)); refine blk_far ?_ NB120_127.out _; (with_reducible repeat (first | refine blk_drewN ?_ _ | refine blk_drew ?_ | refine blk_alloc ?_ _)); refine blk_far ?_ NB120_127.out _; exact bk_ BK120⟩
                have n2_ : Aside0 (((w19.setCell ⟨gb127, 0, none⟩ (.int .i64 ((rd_T80 l0_5 x22_2).f0))).setCell ⟨gb127, 1, none⟩ (.slice A126_1 ((rd_T80 l0_5 x22_2).f1).length c126_1)).heap[gb127]? = some (.cells #[.int .i64 ((rd_T80 l0_5 x22_2).f0), .slice A126_1 ((rd_T80 l0_5 x22_2).f1).length c126_1] 80 (0, 0))) := ⟨by (with_reducible repeat (first | refine blk_drewN ?_ _ | refine blk_drew ?_ | refine blk_alloc ?_ _)); refine blk_put (cs := #[.int .i64 ((rd_T80 l0_5 x22_2).f0), .slice none 0 0]) ?_ 1 _ rfl; (with_reducible repeat (first | refine blk_drewN ?_ _ | refine blk_drew ?_ | refine blk_alloc ?_ _)); refine blk_put (cs := #[.int .i64 0, .slice none 0 0]) ?_ 0 _ rfl; exact bk_ BK127⟩
                have n3_ : Aside0 (Below w.heap.size w ((w19.setCell ⟨gb127, 0, none⟩ (.int .i64 ((rd_T80 l0_5 x22_2).f0))).setCell ⟨gb127, 1, none⟩ (.slice A126_1 ((rd_T80 l0_5 x22_2).f1).length c126_1))) := ⟨bf_ HB⟩
                (try clear HO_3); (try clear BK120); (try clear BK127); (try clear HB)
                generalize ((w19.setCell ⟨gb127, 0, none⟩ (.int .i64 ((rd_T80 l0_5 x22_2).f0))).setCell ⟨gb127, 1, none⟩ (.slice A126_1 ((rd_T80 l0_5 x22_2).f1).length c126_1)) = w32 at n0_ n1_ n2_ n3_ ⊢
                have HO_3 := n0_; have BK120 := n1_; have BK127 := n2_; have HB := n3_; clear n0_ n1_ n2_ n3_; have n0_ := Aside0.mk (MR_drew HO_3.out); have n1_ := Aside0.mk (blk_drew BK120.out); have n2_ := Aside0.mk (blk_drew BK127.out); have n3_ := Aside0.mk (below_drew1 HB.out); clear HO_3; clear BK120; clear BK127; clear HB; have HO_3 := n0_; have BK120 := n1_; have BK127 := n2_; have HB := n3_; clear n0_ n1_ n2_ n3_
                have p129 : 0 ≤ ((ji25) : Int) := of_decide_eq_true (by first | (with_reducible assumption) | assumption)
                have q129 : (ji25) < (l0_5.length : Int) := of_decide_eq_true (by first | (with_reducible assumption) | assumption)
                obtain ⟨ad129, A129_1, c129_1, e129, hx129_0, hx129_1, hl129_1, hi129_1⟩ := at_T80 HR0_5.out (ji25) p129 q129
                have hw129_1 := hx129_1; have hw129_0 := hx129_0
                obtain rfl : ad126 = ad129 := (by injection e129)
                replace hx129_0 := (HB.out.cell (World.block_lt_of_cell? w _ hx129_0)).trans hx129_0
                replace hx129_1 := (HB.out.cell (World.block_lt_of_cell? w _ hx129_1)).trans hx129_1
                have HR129_1 := Aside0.mk hi129_1
                have HC129_1 := Aside0.mk hl129_1
                clear hi129_1 hl129_1
                replace p129 := eq_true p129
                replace q129 := eq_true q129
                refine start_ (n := 33) (S := fun w' => w'.cell? ⟨gb127, 0, none⟩ = some (.int .i64 ((rd_T80 l0_5 x22_2).f0)) ∧ w'.cell? ⟨gb127, 1, none⟩ = some (.slice A126_1 ((rd_T80 l0_5 x22_2).f1).length c126_1) ∧ w'.cell? ⟨gb120, 0, none⟩ = some (.int .i64 a0_0) ∧ w'.cell? ⟨gb120, 1, none⟩ = some (.int .i64 a0_1) ∧ w'.cell? ⟨gb120, 2, none⟩ = some (.int .i64 a0_2) ∧ w'.cell? ⟨gb120, 3, none⟩ = some (.int .i64 a0_3) ∧ w'.cell? ⟨gb120, 4, none⟩ = some (.bool a0_4) ∧ w'.cell? ⟨gb120, 5, none⟩ = some (.slice (some ad126) l0_5.length c0_5) ∧ w'.cell? (ad126.add (((ji25)).toNat * 2)) = some (.int .i64 ((rd_T80 l0_5 (ji25)).f0)) ∧ w'.cell? ⟨(ad126.add (((ji25)).toNat * 2)).block, (ad126.add (((ji25)).toNat * 2)).off + 1, none⟩ = some (.slice A129_1 ((rd_T80 l0_5 (ji25)).f1).length c129_1)) (ds := []) (bs 33 0) (by kernel_rfl) rfl rfl ⟨bt_ BK127 0, bt_ BK127 1, bt_ BK120 0, bt_ BK120 1, bt_ BK120 2, bt_ BK120 3, bt_ BK120 4, bt_ BK120 5, ((HB.out.cell (World.block_lt_of_cell? w _ hw129_0)).trans hw129_0), ((HB.out.cell (World.block_lt_of_cell? w _ hw129_1)).trans hw129_1)⟩ (fun hHeld => ?_); refine with_tabW impl_BufOk.tab7 impl_BufOk.bits7 (fun HT_ HW_ => ?_)
                generalize w32.drew = w33 at HO_3 BK120 BK127 HB HR129_1 hx129_0 hx129_1 hHeld ⊢
                refine pure_s (i := 0) (N := some 27) (bs 33 1) (any_of HT_.out (by kernel_rfl)) (h := ?_)
                refine take_ (i := 1) (N := some 28) (v := ?_) (a' := ?_) (bs 33 2) rfl rfl (take_ofW HT_.out HW_.out (by kernel_rfl)) (fun _ _ _ h => h) (Or.inl ⟨by rfl, ?_⟩) hHeld ?_ ?_
                rotate_left
                ·rintro w' ⟨s0, s1, s2, s3, s4, s5, s6, s7, s8, s9⟩
                 go_simp
                 with_reducible rfl
                rotate_left
                ·simp only [Act.put, List.setIfInBounds_toArray, List.set_cons_zero, List.set_cons_succ, i64_w, i32_w]
                 rfl
                refine one_ (i := 2) (N := some 29) (bs 33 3) rfl rfl (one_of HT_.out (by kernel_rfl)) (by decide) (fun K hK => ?_)
                refine goes_ Try.func80 (by kernel_rfl) rfl #[.int .i64 ((rd_T80 l0_5 x22_2).f0)] (by rfl) rfl rfl mt_ ?_
                with_reducible refine (impl_isFlow.calls ((rd_T80 l0_5 x22_2).f0) true _ A22.out).mono ?_
                rintro e w' ⟨rfl, ⟨nd, rfl⟩⟩
                refine ⟨_, rfl, ?_⟩
                refine hK.out _ _ ⟨bt_ BK127 0, bt_ BK127 1, bt_ BK120 0, bt_ BK120 1, bt_ BK120 2, bt_ BK120 3, bt_ BK120 4, bt_ BK120 5, ((HB.out.cell (World.block_lt_of_cell? w _ hw129_0)).trans hw129_0), ((HB.out.cell (World.block_lt_of_cell? w _ hw129_1)).trans hw129_1)⟩ (fun hHeld => ?_)
                clear hK K
                refine norm_ (a' := ?_) ?_ ?_
                rotate_left
                ·show Act.put _ (some 29) _ = _
                 simp only [Act.put, List.setIfInBounds_toArray, List.set_cons_zero, List.set_cons_succ, i64_w, i32_w]
                 rfl
                refine pure_s (i := 3) (N := some 30) (bs 33 4) (any_of HT_.out (by kernel_rfl)) (h := ?_)
                refine pure_s (i := 4) (N := some 31) (bs 33 5) (any_of HT_.out (by kernel_rfl)) (h := ?_)
                refine pure_s (i := 5) (N := some 32) (bs 33 6) (any_of HT_.out (by kernel_rfl)) (h := ?_)
                refine pure_s (i := 6) (N := some 33) (bs 33 7) (any_of HT_.out (by kernel_rfl)) (h := ?_)
                refine pure_s (i := 7) (N := some 34) (bs 33 8) (any_of HT_.out (by kernel_rfl)) (h := ?_)
                refine pure_s (i := 8) (N := some 35) (bs 33 9) (any_of HT_.out (by kernel_rfl)) (h := ?_)
                refine pure_s (i := 10) (N := some 37) #[oT,oT,oT,oT,oT,oT,oT,oT,oT,oF,oT,oF,oF,oF,oF,oF,oF,oF,oF,oF,oF,oF,oF,oF,oF,oF,oF,oF,oF,oF,oF,oF,oF] (any_of HT_.out (by kernel_rfl)) (h := ?_)
                refine pure_s (i := 11) (N := some 38) #[oT,oT,oT,oT,oT,oT,oT,oT,oT,oF,oT,oT,oF,oF,oF,oF,oF,oF,oF,oF,oF,oF,oF,oF,oF,oF,oF,oF,oF,oF,oF,oF,oF] (any_of HT_.out (by kernel_rfl)) (h := ?_)
                refine pure_s (i := 15) (N := some 42) #[oT,oT,oT,oT,oT,oT,oT,oT,oT,oF,oT,oT,oF,oF,oF,oT,oF,oF,oF,oF,oF,oF,oF,oF,oF,oF,oF,oF,oF,oF,oF,oF,oF] (any_of HT_.out (by kernel_rfl)) (h := ?_)
                refine take_ (i := 9) (N := some 36) (v := ?_) (a' := ?_) #[oT,oT,oT,oT,oT,oT,oT,oT,oT,oT,oT,oT,oF,oF,oF,oT,oF,oF,oF,oF,oF,oF,oF,oF,oF,oF,oF,oF,oF,oF,oF,oF,oF] rfl rfl (take_ofW HT_.out HW_.out (by kernel_rfl)) (fun _ _ _ h => h) (Or.inl ⟨by rfl, ?_⟩) hHeld ?_ ?_
                rotate_left
                ·rintro w' ⟨s0, s1, s2, s3, s4, s5, s6, s7, s8, s9⟩
                 go_simp
                 with_reducible rfl
                rotate_left
                ·simp only [Act.put, List.setIfInBounds_toArray, List.set_cons_zero, List.set_cons_succ, i64_w, i32_w]
                 rfl
                refine pure_s (i := 12) (N := some 39) #[oT,oT,oT,oT,oT,oT,oT,oT,oT,oT,oT,oT,oT,oF,oF,oT,oF,oF,oF,oF,oF,oF,oF,oF,oF,oF,oF,oF,oF,oF,oF,oF,oF] (any_of HT_.out (by kernel_rfl)) (h := ?_)
                refine pure_s (i := 13) (N := some 40) #[oT,oT,oT,oT,oT,oT,oT,oT,oT,oT,oT,oT,oT,oT,oF,oT,oF,oF,oF,oF,oF,oF,oF,oF,oF,oF,oF,oF,oF,oF,oF,oF,oF] (any_of HT_.out (by kernel_rfl)) (h := ?_)
                refine take_ (i := 14) (N := some 41) (v := ?_) (a' := ?_) (bs 33 16) rfl rfl (take_ofW HT_.out HW_.out (by kernel_rfl)) (fun _ _ _ h => h) (Or.inl ⟨by rfl, ?_⟩) hHeld ?_ ?_
                rotate_left
                ·rintro w' ⟨s0, s1, s2, s3, s4, s5, s6, s7, s8, s9⟩
                 go_simp
                 with_reducible rfl
                rotate_left
                ·simp only [Act.put, List.setIfInBounds_toArray, List.set_cons_zero, List.set_cons_succ, i64_w, i32_w]
                 rfl
                refine take_ (i := 16) (N := some 43) (v := ?_) (a' := ?_) (bs 33 17) rfl rfl (take_ofW HT_.out HW_.out (by kernel_rfl)) (fun _ _ _ h => h) (Or.inl ⟨by rfl, ?_⟩) hHeld ?_ ?_
                rotate_left
                ·rintro w' ⟨s0, s1, s2, s3, s4, s5, s6, s7, s8, s9⟩
                 go_simp
                 with_reducible rfl
                rotate_left
                ·simp only [Act.put, List.setIfInBounds_toArray, List.set_cons_zero, List.set_cons_succ, i64_w, i32_w]
                 rfl
                refine pure_s (i := 17) (N := some 44) (bs 33 18) (any_of HT_.out (by kernel_rfl)) (h := ?_)
                refine pure_s (i := 18) (N := some 45) (bs 33 19) (any_of HT_.out (by kernel_rfl)) (h := ?_)
                refine pure_s (i := 19) (N := some 46) (bs 33 20) (any_of HT_.out (by kernel_rfl)) (h := ?_)
                refine pure_s (i := 20) (N := some 47) (bs 33 21) (any_of HT_.out (by kernel_rfl)) (h := ?_)
                refine pure_s (i := 21) (N := some 48) (bs 33 22) (any_of HT_.out (by kernel_rfl)) (h := ?_)
                refine take_ (i := 22) (N := some 49) (v := ?_) (a' := ?_) (bs 33 23) rfl rfl (take_ofW HT_.out HW_.out (by kernel_rfl)) (fun _ _ _ h => h) (Or.inl ⟨by rfl, ?_⟩) hHeld ?_ ?_
                rotate_left
                ·rintro w' ⟨s0, s1, s2, s3, s4, s5, s6, s7, s8, s9⟩
                 go_simp
                 with_reducible rfl
                rotate_left
                ·simp only [Act.put, List.setIfInBounds_toArray, List.set_cons_zero, List.set_cons_succ, i64_w, i32_w]
                 rfl
                refine pure_s (i := 23) (N := some 50) (bs 33 24) (any_of HT_.out (by kernel_rfl)) (h := ?_)
                refine pure_s (i := 24) (N := some 51) (bs 33 25) (any_of HT_.out (by kernel_rfl)) (h := ?_)
                refine pure_s (i := 25) (N := some 52) (bs 33 26) (any_of HT_.out (by kernel_rfl)) (h := ?_)
                refine pure_s (i := 26) (N := some 53) (bs 33 27) (any_of HT_.out (by kernel_rfl)) (h := ?_)
                refine pure_u (i := 27) (N := some 54) (bs 33 28) (any_of HT_.out (by kernel_rfl)) (h := ?_)
                refine pure_u (i := 28) (N := some 55) (bs 33 29) (any_of HT_.out (by kernel_rfl)) (h := ?_)
                refine pure_u (i := 29) (N := some 56) (bs 33 30) (any_of HT_.out (by kernel_rfl)) (h := ?_)
                refine pure_u (i := 30) (N := some 57) (bs 33 31) (any_of HT_.out (by kernel_rfl)) (h := ?_)
                refine pure_u (i := 31) (N := some 58) (bs 33 32) (any_of HT_.out (by kernel_rfl)) (h := ?_)
                refine pure_s (i := 32) (N := some 59) (bs 33 33) (any_of HT_.out (by kernel_rfl)) (h := ?_)
                refine done_ (done_of HT_.out (by kernel_rfl)) ?_
                try go_wp2
                go_meet
                case rel => exact ⟨_, (true), (by first | rfl | (simp; done) | (simp [*]; done)), H', ⟨by have := HJ1.out; have := HK2.out; first | omega | exact Nat.le_refl _⟩, ⟨mr_ HO_3⟩, ⟨bk_ BK120⟩, ⟨bk_ BK127⟩, ⟨bf_ HB⟩⟩
               ·rw [if_neg c31] at H
                have c31b0 : ((((rd_T80 l0_5 x22_2).f1).length : Int) == 0) = false := beq_eq_false_iff_ne.mpr c31
                have c31b1 : ((((rd_T80 l0_5 x22_2).f1).length : Int) != 0) = true := bne_iff_ne.mpr c31
                have c31b2 : ¬ (((rd_T80 l0_5 x22_2).f1) = []) := fun h_ => c31 (by rw [h_]; rfl)
                replace H := Option.bind_eq_some_iff.mp H
                obtain ⟨t130, A340, H⟩ := H
                replace H : (impl_BufOk.j2 k2 x3_2 l0_5 (l0_5.length : Int) x22_2 (!t130) a0_0 a0_1 a0_2 a0_3 a0_4 l0_5 ((rd_T80 l0_5 x22_2).f0) ((rd_T80 l0_5 x22_2).f1)) = some r := H
                have A34 := Aside0.mk A340
                clear A340
                have H' := Aside0.mk H
                clear H
                try go_wp2
                have n0_ : Aside0 (MR Try.prog 3 4 ((w19.setCell ⟨gb127, 0, none⟩ (.int .i64 ((rd_T80 l0_5 x22_2).f0))).setCell ⟨gb127, 1, none⟩ (.slice A126_1 ((rd_T80 l0_5 x22_2).f1).length c126_1)) w.heap.size v123 x3_2) := ⟨mf2_ HO_3 BK127 (.int .i64 ((rd_T80 l0_5 x22_2).f0)) (.slice A126_1 ((rd_T80 l0_5 x22_2).f1).length c126_1)⟩
                have n1_ : Aside0 (((w19.setCell ⟨gb127, 0, none⟩ (.int .i64 ((rd_T80 l0_5 x22_2).f0))).setCell ⟨gb127, 1, none⟩ (.slice A126_1 ((rd_T80 l0_5 x22_2).f1).length c126_1)).heap[gb120]? = some (.cells #[.int .i64 a0_0, .int .i64 a0_1, .int .i64 a0_2, .int .i64 a0_3, .bool a0_4, .slice (some ad126) l0_5.length c0_5] 47 (0, 0))) := ⟨by (with_reducible repeat (first | refine blk_drewN ?_ _ | refine blk_drew ?_ | refine blk_alloc ?_ _)); refine blk_far ?_ NB120_127.out _; (with_reducible repeat (first | refine blk_drewN ?_ _ | refine blk_drew ?_ | refine blk_alloc ?_ _)); refine blk_far ?_ NB120_127.out _; exact bk_ BK120⟩
                have n2_ : Aside0 (((w19.setCell ⟨gb127, 0, none⟩ (.int .i64 ((rd_T80 l0_5 x22_2).f0))).setCell ⟨gb127, 1, none⟩ (.slice A126_1 ((rd_T80 l0_5 x22_2).f1).length c126_1)).heap[gb127]? = some (.cells #[.int .i64 ((rd_T80 l0_5 x22_2).f0), .slice A126_1 ((rd_T80 l0_5 x22_2).f1).length c126_1] 80 (0, 0))) := ⟨by (with_reducible repeat (first | refine blk_drewN ?_ _ | refine blk_drew ?_ | refine blk_alloc ?_ _)); refine blk_put (cs := #[.int .i64 ((rd_T80 l0_5 x22_2).f0), .slice none 0 0]) ?_ 1 _ rfl; (with_reducible repeat (first | refine blk_drewN ?_ _ | refine blk_drew ?_ | refine blk_alloc ?_ _)); refine blk_put (cs := #[.int .i64 0, .slice none 0 0]) ?_ 0 _ rfl; exact bk_ BK127⟩
                have n3_ : Aside0 (Below w.heap.size w ((w19.setCell ⟨gb127, 0, none⟩ (.int .i64 ((rd_T80 l0_5 x22_2).f0))).setCell ⟨gb127, 1, none⟩ (.slice A126_1 ((rd_T80 l0_5 x22_2).f1).length c126_1))) := ⟨bf_ HB⟩
                (try clear HO_3); (try clear BK120); (try clear BK127); (try clear HB)
                generalize ((w19.setCell ⟨gb127, 0, none⟩ (.int .i64 ((rd_T80 l0_5 x22_2).f0))).setCell ⟨gb127, 1, none⟩ (.slice A126_1 ((rd_T80 l0_5 x22_2).f1).length c126_1)) = w35 at n0_ n1_ n2_ n3_ ⊢
                have HO_3 := n0_; have BK120 := n1_; have BK127 := n2_; have HB := n3_; clear n0_ n1_ n2_ n3_; have n0_ := Aside0.mk (MR_drew HO_3.out); have n1_ := Aside0.mk (blk_drew BK120.out); have n2_ := Aside0.mk (blk_drew BK127.out); have n3_ := Aside0.mk (below_drew1 HB.out); clear HO_3; clear BK120; clear BK127; clear HB; have HO_3 := n0_; have BK120 := n1_; have BK127 := n2_; have HB := n3_; clear n0_ n1_ n2_ n3_
                have p129 : 0 ≤ ((ji25) : Int) := of_decide_eq_true (by first | (with_reducible assumption) | assumption)
                have q129 : (ji25) < (l0_5.length : Int) := of_decide_eq_true (by first | (with_reducible assumption) | assumption)
                obtain ⟨ad129, A129_1, c129_1, e129, hx129_0, hx129_1, hl129_1, hi129_1⟩ := at_T80 HR0_5.out (ji25) p129 q129
                have hw129_1 := hx129_1; have hw129_0 := hx129_0
                obtain rfl : ad126 = ad129 := (by injection e129)
                replace hx129_0 := (HB.out.cell (World.block_lt_of_cell? w _ hx129_0)).trans hx129_0
                replace hx129_1 := (HB.out.cell (World.block_lt_of_cell? w _ hx129_1)).trans hx129_1
                have HR129_1 := Aside0.mk hi129_1
                have HC129_1 := Aside0.mk hl129_1
                clear hi129_1 hl129_1
                replace p129 := eq_true p129
                replace q129 := eq_true q129
                refine start_ (n := 33) (S := fun w' => w'.cell? ⟨gb127, 0, none⟩ = some (.int .i64 ((rd_T80 l0_5 x22_2).f0)) ∧ w'.cell? ⟨gb127, 1, none⟩ = some (.slice A126_1 ((rd_T80 l0_5 x22_2).f1).length c126_1) ∧ w'.cell? ⟨gb120, 0, none⟩ = some (.int .i64 a0_0) ∧ w'.cell? ⟨gb120, 1, none⟩ = some (.int .i64 a0_1) ∧ w'.cell? ⟨gb120, 2, none⟩ = some (.int .i64 a0_2) ∧ w'.cell? ⟨gb120, 3, none⟩ = some (.int .i64 a0_3) ∧ w'.cell? ⟨gb120, 4, none⟩ = some (.bool a0_4) ∧ w'.cell? ⟨gb120, 5, none⟩ = some (.slice (some ad126) l0_5.length c0_5) ∧ w'.cell? (ad126.add (((ji25)).toNat * 2)) = some (.int .i64 ((rd_T80 l0_5 (ji25)).f0)) ∧ w'.cell? ⟨(ad126.add (((ji25)).toNat * 2)).block, (ad126.add (((ji25)).toNat * 2)).off + 1, none⟩ = some (.slice A129_1 ((rd_T80 l0_5 (ji25)).f1).length c129_1)) (ds := []) (bs 33 0) (by kernel_rfl) rfl rfl ⟨bt_ BK127 0, bt_ BK127 1, bt_ BK120 0, bt_ BK120 1, bt_ BK120 2, bt_ BK120 3, bt_ BK120 4, bt_ BK120 5, ((HB.out.cell (World.block_lt_of_cell? w _ hw129_0)).trans hw129_0), ((HB.out.cell (World.block_lt_of_cell? w _ hw129_1)).trans hw129_1)⟩ (fun hHeld => ?_); refine with_tabW impl_BufOk.tab7 impl_BufOk.bits7 (fun HT_ HW_ => ?_)
                generalize w35.drew = w36 at HO_3 BK120 BK127 HB HR129_1 hx129_0 hx129_1 hHeld ⊢
                refine pure_s (i := 0) (N := some 27) (bs 33 1) (any_of HT_.out (by kernel_rfl)) (h := ?_)
                refine take_ (i := 1) (N := some 28) (v := ?_) (a' := ?_) (bs 33 2) rfl rfl (take_ofW HT_.out HW_.out (by kernel_rfl)) (fun _ _ _ h => h) (Or.inl ⟨by rfl, ?_⟩) hHeld ?_ ?_
                rotate_left
                ·rintro w' ⟨s0, s1, s2, s3, s4, s5, s6, s7, s8, s9⟩
                 go_simp
                 with_reducible rfl
                rotate_left
                ·simp only [Act.put, List.setIfInBounds_toArray, List.set_cons_zero, List.set_cons_succ, i64_w, i32_w]
                 rfl
                refine one_ (i := 2) (N := some 29) (bs 33 3) rfl rfl (one_of HT_.out (by kernel_rfl)) (by decide) (fun K hK => ?_)
                refine goes_ Try.func80 (by kernel_rfl) rfl #[.int .i64 ((rd_T80 l0_5 x22_2).f0)] (by rfl) rfl rfl mt_ ?_
                with_reducible refine (impl_isFlow.calls ((rd_T80 l0_5 x22_2).f0) true _ A22.out).mono ?_
                rintro e w' ⟨rfl, ⟨nd, rfl⟩⟩
                refine ⟨_, rfl, ?_⟩
                refine hK.out _ _ ⟨bt_ BK127 0, bt_ BK127 1, bt_ BK120 0, bt_ BK120 1, bt_ BK120 2, bt_ BK120 3, bt_ BK120 4, bt_ BK120 5, ((HB.out.cell (World.block_lt_of_cell? w _ hw129_0)).trans hw129_0), ((HB.out.cell (World.block_lt_of_cell? w _ hw129_1)).trans hw129_1)⟩ (fun hHeld => ?_)
                clear hK K
                refine norm_ (a' := ?_) ?_ ?_
                rotate_left
                ·show Act.put _ (some 29) _ = _
                 simp only [Act.put, List.setIfInBounds_toArray, List.set_cons_zero, List.set_cons_succ, i64_w, i32_w]
                 rfl
                refine pure_s (i := 3) (N := some 30) (bs 33 4) (any_of HT_.out (by kernel_rfl)) (h := ?_)
                refine pure_s (i := 4) (N := some 31) (bs 33 5) (any_of HT_.out (by kernel_rfl)) (h := ?_)
                refine pure_s (i := 5) (N := some 32) (bs 33 6) (any_of HT_.out (by kernel_rfl)) (h := ?_)
                refine pure_s (i := 6) (N := some 33) (bs 33 7) (any_of HT_.out (by kernel_rfl)) (h := ?_)
                refine pure_s (i := 7) (N := some 34) (bs 33 8) (any_of HT_.out (by kernel_rfl)) (h := ?_)
                refine pure_s (i := 8) (N := some 35) (bs 33 9) (any_of HT_.out (by kernel_rfl)) (h := ?_)
                refine pure_s (i := 10) (N := some 37) #[oT,oT,oT,oT,oT,oT,oT,oT,oT,oF,oT,oF,oF,oF,oF,oF,oF,oF,oF,oF,oF,oF,oF,oF,oF,oF,oF,oF,oF,oF,oF,oF,oF] (any_of HT_.out (by kernel_rfl)) (h := ?_)
                refine pure_s (i := 11) (N := some 38) #[oT,oT,oT,oT,oT,oT,oT,oT,oT,oF,oT,oT,oF,oF,oF,oF,oF,oF,oF,oF,oF,oF,oF,oF,oF,oF,oF,oF,oF,oF,oF,oF,oF] (any_of HT_.out (by kernel_rfl)) (h := ?_)
                refine pure_s (i := 15) (N := some 42) #[oT,oT,oT,oT,oT,oT,oT,oT,oT,oF,oT,oT,oF,oF,oF,oT,oF,oF,oF,oF,oF,oF,oF,oF,oF,oF,oF,oF,oF,oF,oF,oF,oF] (any_of HT_.out (by kernel_rfl)) (h := ?_)
                refine take_ (i := 9) (N := some 36) (v := ?_) (a' := ?_) #[oT,oT,oT,oT,oT,oT,oT,oT,oT,oT,oT,oT,oF,oF,oF,oT,oF,oF,oF,oF,oF,oF,oF,oF,oF,oF,oF,oF,oF,oF,oF,oF,oF] rfl rfl (take_ofW HT_.out HW_.out (by kernel_rfl)) (fun _ _ _ h => h) (Or.inl ⟨by rfl, ?_⟩) hHeld ?_ ?_
                rotate_left
                ·rintro w' ⟨s0, s1, s2, s3, s4, s5, s6, s7, s8, s9⟩
                 go_simp
                 with_reducible rfl
                rotate_left
                ·simp only [Act.put, List.setIfInBounds_toArray, List.set_cons_zero, List.set_cons_succ, i64_w, i32_w]
                 rfl
                refine pure_s (i := 12) (N := some 39) #[oT,oT,oT,oT,oT,oT,oT,oT,oT,oT,oT,oT,oT,oF,oF,oT,oF,oF,oF,oF,oF,oF,oF,oF,oF,oF,oF,oF,oF,oF,oF,oF,oF] (any_of HT_.out (by kernel_rfl)) (h := ?_)
                refine pure_s (i := 13) (N := some 40) #[oT,oT,oT,oT,oT,oT,oT,oT,oT,oT,oT,oT,oT,oT,oF,oT,oF,oF,oF,oF,oF,oF,oF,oF,oF,oF,oF,oF,oF,oF,oF,oF,oF] (any_of HT_.out (by kernel_rfl)) (h := ?_)
                refine take_ (i := 14) (N := some 41) (v := ?_) (a' := ?_) (bs 33 16) rfl rfl (take_ofW HT_.out HW_.out (by kernel_rfl)) (fun _ _ _ h => h) (Or.inl ⟨by rfl, ?_⟩) hHeld ?_ ?_
                rotate_left
                ·rintro w' ⟨s0, s1, s2, s3, s4, s5, s6, s7, s8, s9⟩
                 go_simp
                 with_reducible rfl
                rotate_left
                ·simp only [Act.put, List.setIfInBounds_toArray, List.set_cons_zero, List.set_cons_succ, i64_w, i32_w]
                 rfl
                refine take_ (i := 16) (N := some 43) (v := ?_) (a' := ?_) (bs 33 17) rfl rfl (take_ofW HT_.out HW_.out (by kernel_rfl)) (fun _ _ _ h => h) (Or.inl ⟨by rfl, ?_⟩) hHeld ?_ ?_
                rotate_left
                ·rintro w' ⟨s0, s1, s2, s3, s4, s5, s6, s7, s8, s9⟩
                 go_simp
                 with_reducible rfl
                rotate_left
                ·simp only [Act.put, List.setIfInBounds_toArray, List.set_cons_zero, List.set_cons_succ, i64_w, i32_w]
                 rfl
                refine pure_s (i := 17) (N := some 44) (bs 33 18) (any_of HT_.out (by kernel_rfl)) (h := ?_)
                refine pure_s (i := 18) (N := some 45) (bs 33 19) (any_of HT_.out (by kernel_rfl)) (h := ?_)
                refine pure_s (i := 19) (N := some 46) (bs 33 20) (any_of HT_.out (by kernel_rfl)) (h := ?_)
                refine pure_s (i := 20) (N := some 47) (bs 33 21) (any_of HT_.out (by kernel_rfl)) (h := ?_)
                refine pure_s (i := 21) (N := some 48) (bs 33 22) (any_of HT_.out (by kernel_rfl)) (h := ?_)
                refine take_ (i := 22) (N := some 49) (v := ?_) (a' := ?_) (bs 33 23) rfl rfl (take_ofW HT_.out HW_.out (by kernel_rfl)) (fun _ _ _ h => h) (Or.inl ⟨by rfl, ?_⟩) hHeld ?_ ?_
                rotate_left
                ·rintro w' ⟨s0, s1, s2, s3, s4, s5, s6, s7, s8, s9⟩
                 go_simp
                 with_reducible rfl
                rotate_left
                ·simp only [Act.put, List.setIfInBounds_toArray, List.set_cons_zero, List.set_cons_succ, i64_w, i32_w]
                 rfl
                refine pure_s (i := 23) (N := some 50) (bs 33 24) (any_of HT_.out (by kernel_rfl)) (h := ?_)
                refine pure_s (i := 24) (N := some 51) (bs 33 25) (any_of HT_.out (by kernel_rfl)) (h := ?_)
                refine pure_s (i := 25) (N := some 52) (bs 33 26) (any_of HT_.out (by kernel_rfl)) (h := ?_)
                refine pure_s (i := 26) (N := some 53) (bs 33 27) (any_of HT_.out (by kernel_rfl)) (h := ?_)
                refine pure_s (i := 28) (N := some 55) #[oT,oT,oT,oT,oT,oT,oT,oT,oT,oT,oT,oT,oT,oT,oT,oT,oT,oT,oT,oT,oT,oT,oT,oT,oT,oT,oT,oF,oT,oF,oF,oF,oF] (any_of HT_.out (by kernel_rfl)) (h := ?_)
                refine take_ (i := 27) (N := some 54) (v := ?_) (a' := ?_) (bs 33 29) rfl rfl (take_ofW HT_.out HW_.out (by kernel_rfl)) (fun _ _ _ h => h) (Or.inl ⟨by rfl, ?_⟩) hHeld ?_ ?_
                rotate_left
                ·rintro w' ⟨s0, s1, s2, s3, s4, s5, s6, s7, s8, s9⟩
                 go_simp
                 with_reducible rfl
                rotate_left
                ·simp only [Act.put, List.setIfInBounds_toArray, List.set_cons_zero, List.set_cons_succ, i64_w, i32_w]
                 rfl
                refine take_ (i := 29) (N := some 56) (v := ?_) (a' := ?_) (bs 33 30) rfl rfl (take_ofW HT_.out HW_.out (by kernel_rfl)) (fun _ _ _ h => h) (Or.inl ⟨by rfl, ?_⟩) hHeld ?_ ?_
                rotate_left
                ·rintro w' ⟨s0, s1, s2, s3, s4, s5, s6, s7, s8, s9⟩
                 go_simp
                 with_reducible rfl
                rotate_left
                ·simp only [Act.put, List.setIfInBounds_toArray, List.set_cons_zero, List.set_cons_succ, i64_w, i32_w]
                 rfl
                refine one_ (i := 30) (N := some 57) (bs 33 31) rfl rfl (one_of HT_.out (by kernel_rfl)) (by decide) (fun K hK => ?_)
                refine goes_ Try.func87 (by kernel_rfl) rfl #[.agg #[.int .i64 ((rd_T80 l0_5 x22_2).f0), .slice A126_1 ((rd_T80 l0_5 x22_2).f1).length c126_1], .agg #[.int .i64 a0_0, .int .i64 a0_1, .int .i64 a0_2, .int .i64 a0_3, .bool a0_4]] (by rfl) rfl rfl mt_ ?_
                with_reducible refine (impl_Lane_fits.calls k2 ((rd_T80 l0_5 x22_2).f0) _ _ ((rd_T80 l0_5 x22_2).f1) a0_0 a0_1 a0_2 a0_3 a0_4 t130 _ ?side1 ?side2 A34.out).mono ?_
                (case side1 => repeat (first | exact (Kd.C_below HR126_1.out (bf_ HB)) | (with_reducible refine Kd.C_alloc ?_ _) | (with_reducible refine Kd.C_drewN ?_ _) | (with_reducible refine Kd.C_drew ?_)))
                (case side2 => exact HC126_1.out)
                rintro e w37 ⟨rfl, hb⟩
                refine ⟨_, rfl, ?_⟩
                have n0_ := Aside0.mk (MR_below (mr_ HO_3) hb); have n1_ := bb_ BK120 hb; have n2_ := bb_ BK127 hb; have n3_ := Aside0.mk (below_step (bf_ HB) hb); clear HO_3; clear BK120; clear BK127; clear HB; have HO_3 := n0_; have BK120 := n1_; have BK127 := n2_; have HB := n3_; clear n0_ n1_ n2_ n3_; (try clear hb); (try clear hb2); (try clear hk); (try clear hi)
                refine hK.out _ _ ⟨bt_ BK127 0, bt_ BK127 1, bt_ BK120 0, bt_ BK120 1, bt_ BK120 2, bt_ BK120 3, bt_ BK120 4, bt_ BK120 5, ((HB.out.cell (World.block_lt_of_cell? w _ hw129_0)).trans hw129_0), ((HB.out.cell (World.block_lt_of_cell? w _ hw129_1)).trans hw129_1)⟩ (fun hHeld => ?_)
                clear hK K
                refine norm_ (a' := ?_) ?_ ?_
                rotate_left
                ·show Act.put _ (some 57) _ = _
                 simp only [Act.put, List.setIfInBounds_toArray, List.set_cons_zero, List.set_cons_succ, i64_w, i32_w]
                 rfl
                refine pure_s (i := 31) (N := some 58) (bs 33 32) (any_of HT_.out (by kernel_rfl)) (h := ?_)
                refine pure_s (i := 32) (N := some 59) (bs 33 33) (any_of HT_.out (by kernel_rfl)) (h := ?_)
                refine done_ (done_of HT_.out (by kernel_rfl)) ?_
                try go_wp2
                go_meet
                case rel => exact ⟨_, (!t130), (by first | rfl | (simp; done) | (simp [*]; done)), H', ⟨by have := HJ1.out; have := HK2.out; first | omega | exact Nat.le_refl _⟩, ⟨mr_ HO_3⟩, ⟨bk_ BK120⟩, ⟨bk_ BK127⟩, ⟨bf_ HB⟩⟩
             ·rw [if_neg c27] at H
              exact absurd H (by simp)
            ·rw [if_neg c26] at H
             exact absurd H (by simp)
           ·rw [if_neg c24] at H
            have c24b0 : decide (0 < x22_2) = false := decide_eq_false c24
            clear c24
            (first | rw [c24b0] | (simp only [i64_w, i32_w]; rw [c24b0]) | skip)
            by_cases c38 : (((rd_T80 l0_5 x22_2).f1).length : Int) = 0
            ·rw [if_pos c38] at H
             have c38b0 : ((((rd_T80 l0_5 x22_2).f1).length : Int) == 0) = true := beq_iff_eq.mpr c38
             have c38b1 : ((((rd_T80 l0_5 x22_2).f1).length : Int) != 0) = false := bne_eq_false_iff_eq.mpr c38
             clear c38
             have H' := Aside0.mk H
             clear H
             try go_wp2
             have n0_ : Aside0 (MR Try.prog 3 4 ((w19.setCell ⟨gb127, 0, none⟩ (.int .i64 ((rd_T80 l0_5 x22_2).f0))).setCell ⟨gb127, 1, none⟩ (.slice A126_1 ((rd_T80 l0_5 x22_2).f1).length c126_1)) w.heap.size v123 x3_2) := ⟨mf2_ HO_3 BK127 (.int .i64 ((rd_T80 l0_5 x22_2).f0)) (.slice A126_1 ((rd_T80 l0_5 x22_2).f1).length c126_1)⟩
             have n1_ : Aside0 (((w19.setCell ⟨gb127, 0, none⟩ (.int .i64 ((rd_T80 l0_5 x22_2).f0))).setCell ⟨gb127, 1, none⟩ (.slice A126_1 ((rd_T80 l0_5 x22_2).f1).length c126_1)).heap[gb120]? = some (.cells #[.int .i64 a0_0, .int .i64 a0_1, .int .i64 a0_2, .int .i64 a0_3, .bool a0_4, .slice (some ad126) l0_5.length c0_5] 47 (0, 0))) := ⟨by (with_reducible repeat (first | refine blk_drewN ?_ _ | refine blk_drew ?_ | refine blk_alloc ?_ _)); refine blk_far ?_ NB120_127.out _; (with_reducible repeat (first | refine blk_drewN ?_ _ | refine blk_drew ?_ | refine blk_alloc ?_ _)); refine blk_far ?_ NB120_127.out _; exact bk_ BK120⟩
             have n2_ : Aside0 (((w19.setCell ⟨gb127, 0, none⟩ (.int .i64 ((rd_T80 l0_5 x22_2).f0))).setCell ⟨gb127, 1, none⟩ (.slice A126_1 ((rd_T80 l0_5 x22_2).f1).length c126_1)).heap[gb127]? = some (.cells #[.int .i64 ((rd_T80 l0_5 x22_2).f0), .slice A126_1 ((rd_T80 l0_5 x22_2).f1).length c126_1] 80 (0, 0))) := ⟨by (with_reducible repeat (first | refine blk_drewN ?_ _ | refine blk_drew ?_ | refine blk_alloc ?_ _)); refine blk_put (cs := #[.int .i64 ((rd_T80 l0_5 x22_2).f0), .slice none 0 0]) ?_ 1 _ rfl; (with_reducible repeat (first | refine blk_drewN ?_ _ | refine blk_drew ?_ | refine blk_alloc ?_ _)); refine blk_put (cs := #[.int .i64 0, .slice none 0 0]) ?_ 0 _ rfl; exact bk_ BK127⟩
             have n3_ : Aside0 (Below w.heap.size w ((w19.setCell ⟨gb127, 0, none⟩ (.int .i64 ((rd_T80 l0_5 x22_2).f0))).setCell ⟨gb127, 1, none⟩ (.slice A126_1 ((rd_T80 l0_5 x22_2).f1).length c126_1))) := ⟨bf_ HB⟩
             (try clear HO_3); (try clear BK120); (try clear BK127); (try clear HB)
             generalize ((w19.setCell ⟨gb127, 0, none⟩ (.int .i64 ((rd_T80 l0_5 x22_2).f0))).setCell ⟨gb127, 1, none⟩ (.slice A126_1 ((rd_T80 l0_5 x22_2).f1).length c126_1)) = w39 at n0_ n1_ n2_ n3_ ⊢
             have HO_3 := n0_; have BK120 := n1_; have BK127 := n2_; have HB := n3_; clear n0_ n1_ n2_ n3_; have n0_ := Aside0.mk (MR_drew HO_3.out); have n1_ := Aside0.mk (blk_drew BK120.out); have n2_ := Aside0.mk (blk_drew BK127.out); have n3_ := Aside0.mk (below_drew1 HB.out); clear HO_3; clear BK120; clear BK127; clear HB; have HO_3 := n0_; have BK120 := n1_; have BK127 := n2_; have HB := n3_; clear n0_ n1_ n2_ n3_
             refine start_ (n := 33) (S := fun w' => w'.cell? ⟨gb127, 0, none⟩ = some (.int .i64 ((rd_T80 l0_5 x22_2).f0)) ∧ w'.cell? ⟨gb127, 1, none⟩ = some (.slice A126_1 ((rd_T80 l0_5 x22_2).f1).length c126_1)) (ds := []) (bs 33 0) (by kernel_rfl) rfl rfl ⟨bt_ BK127 0, bt_ BK127 1⟩ (fun hHeld => ?_); refine with_tabW impl_BufOk.tab7 impl_BufOk.bits7 (fun HT_ HW_ => ?_)
             generalize w39.drew = w40 at HO_3 BK120 BK127 HB hHeld ⊢
             refine pure_s (i := 0) (N := some 27) (bs 33 1) (any_of HT_.out (by kernel_rfl)) (h := ?_)
             refine take_ (i := 1) (N := some 28) (v := ?_) (a' := ?_) (bs 33 2) rfl rfl (take_ofW HT_.out HW_.out (by kernel_rfl)) (fun _ _ _ h => h) (Or.inl ⟨by rfl, ?_⟩) hHeld ?_ ?_
             rotate_left
             ·rintro w' ⟨s0, s1⟩
              go_simp
              with_reducible rfl
             rotate_left
             ·simp only [Act.put, List.setIfInBounds_toArray, List.set_cons_zero, List.set_cons_succ, i64_w, i32_w]
              rfl
             refine one_ (i := 2) (N := some 29) (bs 33 3) rfl rfl (one_of HT_.out (by kernel_rfl)) (by decide) (fun K hK => ?_)
             refine goes_ Try.func80 (by kernel_rfl) rfl #[.int .i64 ((rd_T80 l0_5 x22_2).f0)] (by rfl) rfl rfl mt_ ?_
             with_reducible refine (impl_isFlow.calls ((rd_T80 l0_5 x22_2).f0) true _ A22.out).mono ?_
             rintro e w' ⟨rfl, ⟨nd, rfl⟩⟩
             refine ⟨_, rfl, ?_⟩
             refine hK.out _ _ ⟨bt_ BK127 0, bt_ BK127 1⟩ (fun hHeld => ?_)
             clear hK K
             refine norm_ (a' := ?_) ?_ ?_
             rotate_left
             ·show Act.put _ (some 29) _ = _
              simp only [Act.put, List.setIfInBounds_toArray, List.set_cons_zero, List.set_cons_succ, i64_w, i32_w]
              rfl
             refine pure_s (i := 3) (N := some 30) (bs 33 4) (any_of HT_.out (by kernel_rfl)) (h := ?_)
             refine pure_s (i := 4) (N := some 31) (bs 33 5) (any_of HT_.out (by kernel_rfl)) (h := ?_)
             refine pure_s (i := 5) (N := some 32) (bs 33 6) (any_of HT_.out (by kernel_rfl)) (h := ?_)
             refine pure_s (i := 6) (N := some 33) (bs 33 7) (any_of HT_.out (by kernel_rfl)) (h := ?_)
             refine pure_s (i := 7) (N := some 34) (bs 33 8) (any_of HT_.out (by kernel_rfl)) (h := ?_)
             refine pure_u (i := 8) (N := some 35) (bs 33 9) (any_of HT_.out (by kernel_rfl)) (h := ?_)
             refine pure_u (i := 9) (N := some 36) (bs 33 10) (any_of HT_.out (by kernel_rfl)) (h := ?_)
             refine pure_u (i := 10) (N := some 37) (bs 33 11) (any_of HT_.out (by kernel_rfl)) (h := ?_)
             refine pure_u (i := 11) (N := some 38) (bs 33 12) (any_of HT_.out (by kernel_rfl)) (h := ?_)
             refine pure_u (i := 12) (N := some 39) (bs 33 13) (any_of HT_.out (by kernel_rfl)) (h := ?_)
             refine pure_u (i := 13) (N := some 40) (bs 33 14) (any_of HT_.out (by kernel_rfl)) (h := ?_)
             refine pure_u (i := 14) (N := some 41) (bs 33 15) (any_of HT_.out (by kernel_rfl)) (h := ?_)
             refine pure_u (i := 15) (N := some 42) (bs 33 16) (any_of HT_.out (by kernel_rfl)) (h := ?_)
             refine pure_u (i := 16) (N := some 43) (bs 33 17) (any_of HT_.out (by kernel_rfl)) (h := ?_)
             refine pure_u (i := 17) (N := some 44) (bs 33 18) (any_of HT_.out (by kernel_rfl)) (h := ?_)
             refine pure_s (i := 18) (N := some 45) (bs 33 19) (any_of HT_.out (by kernel_rfl)) (h := ?_)
             refine pure_s (i := 19) (N := some 46) (bs 33 20) (any_of HT_.out (by kernel_rfl)) (h := ?_)
             refine pure_s (i := 20) (N := some 47) (bs 33 21) (any_of HT_.out (by kernel_rfl)) (h := ?_)
             refine pure_s (i := 21) (N := some 48) (bs 33 22) (any_of HT_.out (by kernel_rfl)) (h := ?_)
             refine take_ (i := 22) (N := some 49) (v := ?_) (a' := ?_) (bs 33 23) rfl rfl (take_ofW HT_.out HW_.out (by kernel_rfl)) (fun _ _ _ h => h) (Or.inl ⟨by rfl, ?_⟩) hHeld ?_ ?_
             rotate_left
             ·rintro w' ⟨s0, s1⟩
              go_simp
              with_reducible rfl
             rotate_left
             ·simp only [Act.put, List.setIfInBounds_toArray, List.set_cons_zero, List.set_cons_succ, i64_w, i32_w]
              rfl
             refine pure_s (i := 23) (N := some 50) (bs 33 24) (any_of HT_.out (by kernel_rfl)) (h := ?_)
             refine pure_s (i := 24) (N := some 51) (bs 33 25) (any_of HT_.out (by kernel_rfl)) (h := ?_)
             refine pure_s (i := 25) (N := some 52) (bs 33 26) (any_of HT_.out (by kernel_rfl)) (h := ?_)
             refine pure_s (i := 26) (N := some 53) (bs 33 27) (any_of HT_.out (by kernel_rfl)) (h := ?_)
             refine pure_u (i := 27) (N := some 54) (bs 33 28) (any_of HT_.out (by kernel_rfl)) (h := ?_)
             refine pure_u (i := 28) (N := some 55) (bs 33 29) (any_of HT_.out (by kernel_rfl)) (h := ?_)
             refine pure_u (i := 29) (N := some 56) (bs 33 30) (any_of HT_.out (by kernel_rfl)) (h := ?_)
             refine pure_u (i := 30) (N := some 57) (bs 33 31) (any_of HT_.out (by kernel_rfl)) (h := ?_)
             refine pure_u (i := 31) (N := some 58) (bs 33 32) (any_of HT_.out (by kernel_rfl)) (h := ?_)
             refine pure_s (i := 32) (N := some 59) (bs 33 33) (any_of HT_.out (by kernel_rfl)) (h := ?_)
             refine done_ (done_of HT_.out (by kernel_rfl)) ?_
             try go_wp2
             go_meet
             case rel => exact ⟨_, (true), (by first | rfl | (simp; done) | (simp [*]; done)), H', ⟨by have := HJ1.out; have := HK2.out; first | omega | exact Nat.le_refl _⟩, ⟨mr_ HO_3⟩, ⟨bk_ BK120⟩, ⟨bk_ BK127⟩, ⟨bf_ HB⟩⟩
            ·rw [if_neg c38] at H
             have c38b0 : ((((rd_T80 l0_5 x22_2).f1).length : Int) == 0) = false := beq_eq_false_iff_ne.mpr c38
             have c38b1 : ((((rd_T80 l0_5 x22_2).f1).length : Int) != 0) = true := bne_iff_ne.mpr c38
             have c38b2 : ¬ (((rd_T80 l0_5 x22_2).f1) = []) := fun h_ => c38 (by rw [h_]; rfl)
             replace H := Option.bind_eq_some_iff.mp H
             obtain ⟨t131, A410, H⟩ := H
             replace H : (impl_BufOk.j2 k2 x3_2 l0_5 (l0_5.length : Int) x22_2 (!t131) a0_0 a0_1 a0_2 a0_3 a0_4 l0_5 ((rd_T80 l0_5 x22_2).f0) ((rd_T80 l0_5 x22_2).f1)) = some r := H
             have A41 := Aside0.mk A410
             clear A410
             have H' := Aside0.mk H
             clear H
             try go_wp2
             have n0_ : Aside0 (MR Try.prog 3 4 ((w19.setCell ⟨gb127, 0, none⟩ (.int .i64 ((rd_T80 l0_5 x22_2).f0))).setCell ⟨gb127, 1, none⟩ (.slice A126_1 ((rd_T80 l0_5 x22_2).f1).length c126_1)) w.heap.size v123 x3_2) := ⟨mf2_ HO_3 BK127 (.int .i64 ((rd_T80 l0_5 x22_2).f0)) (.slice A126_1 ((rd_T80 l0_5 x22_2).f1).length c126_1)⟩
             have n1_ : Aside0 (((w19.setCell ⟨gb127, 0, none⟩ (.int .i64 ((rd_T80 l0_5 x22_2).f0))).setCell ⟨gb127, 1, none⟩ (.slice A126_1 ((rd_T80 l0_5 x22_2).f1).length c126_1)).heap[gb120]? = some (.cells #[.int .i64 a0_0, .int .i64 a0_1, .int .i64 a0_2, .int .i64 a0_3, .bool a0_4, .slice (some ad126) l0_5.length c0_5] 47 (0, 0))) := ⟨by (with_reducible repeat (first | refine blk_drewN ?_ _ | refine blk_drew ?_ | refine blk_alloc ?_ _)); refine blk_far ?_ NB120_127.out _; (with_reducible repeat (first | refine blk_drewN ?_ _ | refine blk_drew ?_ | refine blk_alloc ?_ _)); refine blk_far ?_ NB120_127.out _; exact bk_ BK120⟩
             have n2_ : Aside0 (((w19.setCell ⟨gb127, 0, none⟩ (.int .i64 ((rd_T80 l0_5 x22_2).f0))).setCell ⟨gb127, 1, none⟩ (.slice A126_1 ((rd_T80 l0_5 x22_2).f1).length c126_1)).heap[gb127]? = some (.cells #[.int .i64 ((rd_T80 l0_5 x22_2).f0), .slice A126_1 ((rd_T80 l0_5 x22_2).f1).length c126_1] 80 (0, 0))) := ⟨by (with_reducible repeat (first | refine blk_drewN ?_ _ | refine blk_drew ?_ | refine blk_alloc ?_ _)); refine blk_put (cs := #[.int .i64 ((rd_T80 l0_5 x22_2).f0), .slice none 0 0]) ?_ 1 _ rfl; (with_reducible repeat (first | refine blk_drewN ?_ _ | refine blk_drew ?_ | refine blk_alloc ?_ _)); refine blk_put (cs := #[.int .i64 0, .slice none 0 0]) ?_ 0 _ rfl; exact bk_ BK127⟩
             have n3_ : Aside0 (Below w.heap.size w ((w19.setCell ⟨gb127, 0, none⟩ (.int .i64 ((rd_T80 l0_5 x22_2).f0))).setCell ⟨gb127, 1, none⟩ (.slice A126_1 ((rd_T80 l0_5 x22_2).f1).length c126_1))) := ⟨bf_ HB⟩
             (try clear HO_3); (try clear BK120); (try clear BK127); (try clear HB)
             generalize ((w19.setCell ⟨gb127, 0, none⟩ (.int .i64 ((rd_T80 l0_5 x22_2).f0))).setCell ⟨gb127, 1, none⟩ (.slice A126_1 ((rd_T80 l0_5 x22_2).f1).length c126_1)) = w42 at n0_ n1_ n2_ n3_ ⊢
             have HO_3 := n0_; have BK120 := n1_; have BK127 := n2_; have HB := n3_; clear n0_ n1_ n2_ n3_; have n0_ := Aside0.mk (MR_drew HO_3.out); have n1_ := Aside0.mk (blk_drew BK120.out); have n2_ := Aside0.mk (blk_drew BK127.out); have n3_ := Aside0.mk (below_drew1 HB.out); clear HO_3; clear BK120; clear BK127; clear HB; have HO_3 := n0_; have BK120 := n1_; have BK127 := n2_; have HB := n3_; clear n0_ n1_ n2_ n3_
             refine start_ (n := 33) (S := fun w' => w'.cell? ⟨gb127, 0, none⟩ = some (.int .i64 ((rd_T80 l0_5 x22_2).f0)) ∧ w'.cell? ⟨gb127, 1, none⟩ = some (.slice A126_1 ((rd_T80 l0_5 x22_2).f1).length c126_1) ∧ w'.cell? ⟨gb120, 0, none⟩ = some (.int .i64 a0_0) ∧ w'.cell? ⟨gb120, 1, none⟩ = some (.int .i64 a0_1) ∧ w'.cell? ⟨gb120, 2, none⟩ = some (.int .i64 a0_2) ∧ w'.cell? ⟨gb120, 3, none⟩ = some (.int .i64 a0_3) ∧ w'.cell? ⟨gb120, 4, none⟩ = some (.bool a0_4) ∧ w'.cell? ⟨gb120, 5, none⟩ = some (.slice (some ad126) l0_5.length c0_5)) (ds := []) (bs 33 0) (by kernel_rfl) rfl rfl ⟨bt_ BK127 0, bt_ BK127 1, bt_ BK120 0, bt_ BK120 1, bt_ BK120 2, bt_ BK120 3, bt_ BK120 4, bt_ BK120 5⟩ (fun hHeld => ?_); refine with_tabW impl_BufOk.tab7 impl_BufOk.bits7 (fun HT_ HW_ => ?_)
             generalize w42.drew = w43 at HO_3 BK120 BK127 HB hHeld ⊢
             refine pure_s (i := 0) (N := some 27) (bs 33 1) (any_of HT_.out (by kernel_rfl)) (h := ?_)
             refine take_ (i := 1) (N := some 28) (v := ?_) (a' := ?_) (bs 33 2) rfl rfl (take_ofW HT_.out HW_.out (by kernel_rfl)) (fun _ _ _ h => h) (Or.inl ⟨by rfl, ?_⟩) hHeld ?_ ?_
             rotate_left
             ·rintro w' ⟨s0, s1, s2, s3, s4, s5, s6, s7⟩
              go_simp
              with_reducible rfl
             rotate_left
             ·simp only [Act.put, List.setIfInBounds_toArray, List.set_cons_zero, List.set_cons_succ, i64_w, i32_w]
              rfl
             refine one_ (i := 2) (N := some 29) (bs 33 3) rfl rfl (one_of HT_.out (by kernel_rfl)) (by decide) (fun K hK => ?_)
             refine goes_ Try.func80 (by kernel_rfl) rfl #[.int .i64 ((rd_T80 l0_5 x22_2).f0)] (by rfl) rfl rfl mt_ ?_
             with_reducible refine (impl_isFlow.calls ((rd_T80 l0_5 x22_2).f0) true _ A22.out).mono ?_
             rintro e w' ⟨rfl, ⟨nd, rfl⟩⟩
             refine ⟨_, rfl, ?_⟩
             refine hK.out _ _ ⟨bt_ BK127 0, bt_ BK127 1, bt_ BK120 0, bt_ BK120 1, bt_ BK120 2, bt_ BK120 3, bt_ BK120 4, bt_ BK120 5⟩ (fun hHeld => ?_)
             clear hK K
             refine norm_ (a' := ?_) ?_ ?_
             rotate_left
             ·show Act.put _ (some 29) _ = _
              simp only [Act.put, List.setIfInBounds_toArray, List.set_cons_zero, List.set_cons_succ, i64_w, i32_w]
              rfl
             refine pure_s (i := 3) (N := some 30) (bs 33 4) (any_of HT_.out (by kernel_rfl)) (h := ?_)
             refine pure_s (i := 4) (N := some 31) (bs 33 5) (any_of HT_.out (by kernel_rfl)) (h := ?_)
             refine pure_s (i := 5) (N := some 32) (bs 33 6) (any_of HT_.out (by kernel_rfl)) (h := ?_)
             refine pure_s (i := 6) (N := some 33) (bs 33 7) (any_of HT_.out (by kernel_rfl)) (h := ?_)
             refine pure_s (i := 7) (N := some 34) (bs 33 8) (any_of HT_.out (by kernel_rfl)) (h := ?_)
             refine pure_u (i := 8) (N := some 35) (bs 33 9) (any_of HT_.out (by kernel_rfl)) (h := ?_)
             refine pure_u (i := 9) (N := some 36) (bs 33 10) (any_of HT_.out (by kernel_rfl)) (h := ?_)
             refine pure_u (i := 10) (N := some 37) (bs 33 11) (any_of HT_.out (by kernel_rfl)) (h := ?_)
             refine pure_u (i := 11) (N := some 38) (bs 33 12) (any_of HT_.out (by kernel_rfl)) (h := ?_)
             refine pure_u (i := 12) (N := some 39) (bs 33 13) (any_of HT_.out (by kernel_rfl)) (h := ?_)
             refine pure_u (i := 13) (N := some 40) (bs 33 14) (any_of HT_.out (by kernel_rfl)) (h := ?_)
             refine pure_u (i := 14) (N := some 41) (bs 33 15) (any_of HT_.out (by kernel_rfl)) (h := ?_)
             refine pure_u (i := 15) (N := some 42) (bs 33 16) (any_of HT_.out (by kernel_rfl)) (h := ?_)
             refine pure_u (i := 16) (N := some 43) (bs 33 17) (any_of HT_.out (by kernel_rfl)) (h := ?_)
             refine pure_u (i := 17) (N := some 44) (bs 33 18) (any_of HT_.out (by kernel_rfl)) (h := ?_)
             refine pure_s (i := 18) (N := some 45) (bs 33 19) (any_of HT_.out (by kernel_rfl)) (h := ?_)
             refine pure_s (i := 19) (N := some 46) (bs 33 20) (any_of HT_.out (by kernel_rfl)) (h := ?_)
             refine pure_s (i := 20) (N := some 47) (bs 33 21) (any_of HT_.out (by kernel_rfl)) (h := ?_)
             refine pure_s (i := 21) (N := some 48) (bs 33 22) (any_of HT_.out (by kernel_rfl)) (h := ?_)
             refine take_ (i := 22) (N := some 49) (v := ?_) (a' := ?_) (bs 33 23) rfl rfl (take_ofW HT_.out HW_.out (by kernel_rfl)) (fun _ _ _ h => h) (Or.inl ⟨by rfl, ?_⟩) hHeld ?_ ?_
             rotate_left
             ·rintro w' ⟨s0, s1, s2, s3, s4, s5, s6, s7⟩
              go_simp
              with_reducible rfl
             rotate_left
             ·simp only [Act.put, List.setIfInBounds_toArray, List.set_cons_zero, List.set_cons_succ, i64_w, i32_w]
              rfl
             refine pure_s (i := 23) (N := some 50) (bs 33 24) (any_of HT_.out (by kernel_rfl)) (h := ?_)
             refine pure_s (i := 24) (N := some 51) (bs 33 25) (any_of HT_.out (by kernel_rfl)) (h := ?_)
             refine pure_s (i := 25) (N := some 52) (bs 33 26) (any_of HT_.out (by kernel_rfl)) (h := ?_)
             refine pure_s (i := 26) (N := some 53) (bs 33 27) (any_of HT_.out (by kernel_rfl)) (h := ?_)
             refine pure_s (i := 28) (N := some 55) #[oT,oT,oT,oT,oT,oT,oT,oT,oT,oT,oT,oT,oT,oT,oT,oT,oT,oT,oT,oT,oT,oT,oT,oT,oT,oT,oT,oF,oT,oF,oF,oF,oF] (any_of HT_.out (by kernel_rfl)) (h := ?_)
             refine take_ (i := 27) (N := some 54) (v := ?_) (a' := ?_) (bs 33 29) rfl rfl (take_ofW HT_.out HW_.out (by kernel_rfl)) (fun _ _ _ h => h) (Or.inl ⟨by rfl, ?_⟩) hHeld ?_ ?_
             rotate_left
             ·rintro w' ⟨s0, s1, s2, s3, s4, s5, s6, s7⟩
              go_simp
              with_reducible rfl
             rotate_left
             ·simp only [Act.put, List.setIfInBounds_toArray, List.set_cons_zero, List.set_cons_succ, i64_w, i32_w]
              rfl
             refine take_ (i := 29) (N := some 56) (v := ?_) (a' := ?_) (bs 33 30) rfl rfl (take_ofW HT_.out HW_.out (by kernel_rfl)) (fun _ _ _ h => h) (Or.inl ⟨by rfl, ?_⟩) hHeld ?_ ?_
             rotate_left
             ·rintro w' ⟨s0, s1, s2, s3, s4, s5, s6, s7⟩
              go_simp
              with_reducible rfl
             rotate_left
             ·simp only [Act.put, List.setIfInBounds_toArray, List.set_cons_zero, List.set_cons_succ, i64_w, i32_w]
              rfl
             refine one_ (i := 30) (N := some 57) (bs 33 31) rfl rfl (one_of HT_.out (by kernel_rfl)) (by decide) (fun K hK => ?_)
             refine goes_ Try.func87 (by kernel_rfl) rfl #[.agg #[.int .i64 ((rd_T80 l0_5 x22_2).f0), .slice A126_1 ((rd_T80 l0_5 x22_2).f1).length c126_1], .agg #[.int .i64 a0_0, .int .i64 a0_1, .int .i64 a0_2, .int .i64 a0_3, .bool a0_4]] (by rfl) rfl rfl mt_ ?_
             with_reducible refine (impl_Lane_fits.calls k2 ((rd_T80 l0_5 x22_2).f0) _ _ ((rd_T80 l0_5 x22_2).f1) a0_0 a0_1 a0_2 a0_3 a0_4 t131 _ ?side1 ?side2 A41.out).mono ?_
             (case side1 => repeat (first | exact (Kd.C_below HR126_1.out (bf_ HB)) | (with_reducible refine Kd.C_alloc ?_ _) | (with_reducible refine Kd.C_drewN ?_ _) | (with_reducible refine Kd.C_drew ?_)))
             (case side2 => exact HC126_1.out)
             rintro e w44 ⟨rfl, hb⟩
             refine ⟨_, rfl, ?_⟩
             have n0_ := Aside0.mk (MR_below (mr_ HO_3) hb); have n1_ := bb_ BK120 hb; have n2_ := bb_ BK127 hb; have n3_ := Aside0.mk (below_step (bf_ HB) hb); clear HO_3; clear BK120; clear BK127; clear HB; have HO_3 := n0_; have BK120 := n1_; have BK127 := n2_; have HB := n3_; clear n0_ n1_ n2_ n3_; (try clear hb); (try clear hb2); (try clear hk); (try clear hi)
             refine hK.out _ _ ⟨bt_ BK127 0, bt_ BK127 1, bt_ BK120 0, bt_ BK120 1, bt_ BK120 2, bt_ BK120 3, bt_ BK120 4, bt_ BK120 5⟩ (fun hHeld => ?_)
             clear hK K
             refine norm_ (a' := ?_) ?_ ?_
             rotate_left
             ·show Act.put _ (some 57) _ = _
              simp only [Act.put, List.setIfInBounds_toArray, List.set_cons_zero, List.set_cons_succ, i64_w, i32_w]
              rfl
             refine pure_s (i := 31) (N := some 58) (bs 33 32) (any_of HT_.out (by kernel_rfl)) (h := ?_)
             refine pure_s (i := 32) (N := some 59) (bs 33 33) (any_of HT_.out (by kernel_rfl)) (h := ?_)
             refine done_ (done_of HT_.out (by kernel_rfl)) ?_
             try go_wp2
             go_meet
             case rel => exact ⟨_, (!t131), (by first | rfl | (simp; done) | (simp [*]; done)), H', ⟨by have := HJ1.out; have := HK2.out; first | omega | exact Nat.le_refl _⟩, ⟨mr_ HO_3⟩, ⟨bk_ BK120⟩, ⟨bk_ BK127⟩, ⟨bf_ HB⟩⟩
          ·replace c23 := Bool.eq_false_iff.mpr c23
           subst c23
           have H1 : (impl_BufOk.j2 k2 x3_2 l0_5 (l0_5.length : Int) x22_2 true a0_0 a0_1 a0_2 a0_3 a0_4 l0_5 ((rd_T80 l0_5 x22_2).f0) ((rd_T80 l0_5 x22_2).f1)) = some r := by rw [if_neg (show ¬ (false = true) by decide)] at H; exact H
           clear H
           have H := H1
           clear H1
           have H' := Aside0.mk H
           clear H
           try go_wp2
           have n0_ : Aside0 (MR Try.prog 3 4 ((w19.setCell ⟨gb127, 0, none⟩ (.int .i64 ((rd_T80 l0_5 x22_2).f0))).setCell ⟨gb127, 1, none⟩ (.slice A126_1 ((rd_T80 l0_5 x22_2).f1).length c126_1)) w.heap.size v123 x3_2) := ⟨mf2_ HO_3 BK127 (.int .i64 ((rd_T80 l0_5 x22_2).f0)) (.slice A126_1 ((rd_T80 l0_5 x22_2).f1).length c126_1)⟩
           have n1_ : Aside0 (((w19.setCell ⟨gb127, 0, none⟩ (.int .i64 ((rd_T80 l0_5 x22_2).f0))).setCell ⟨gb127, 1, none⟩ (.slice A126_1 ((rd_T80 l0_5 x22_2).f1).length c126_1)).heap[gb120]? = some (.cells #[.int .i64 a0_0, .int .i64 a0_1, .int .i64 a0_2, .int .i64 a0_3, .bool a0_4, .slice (some ad126) l0_5.length c0_5] 47 (0, 0))) := ⟨by (with_reducible repeat (first | refine blk_drewN ?_ _ | refine blk_drew ?_ | refine blk_alloc ?_ _)); refine blk_far ?_ NB120_127.out _; (with_reducible repeat (first | refine blk_drewN ?_ _ | refine blk_drew ?_ | refine blk_alloc ?_ _)); refine blk_far ?_ NB120_127.out _; exact bk_ BK120⟩
           have n2_ : Aside0 (((w19.setCell ⟨gb127, 0, none⟩ (.int .i64 ((rd_T80 l0_5 x22_2).f0))).setCell ⟨gb127, 1, none⟩ (.slice A126_1 ((rd_T80 l0_5 x22_2).f1).length c126_1)).heap[gb127]? = some (.cells #[.int .i64 ((rd_T80 l0_5 x22_2).f0), .slice A126_1 ((rd_T80 l0_5 x22_2).f1).length c126_1] 80 (0, 0))) := ⟨by (with_reducible repeat (first | refine blk_drewN ?_ _ | refine blk_drew ?_ | refine blk_alloc ?_ _)); refine blk_put (cs := #[.int .i64 ((rd_T80 l0_5 x22_2).f0), .slice none 0 0]) ?_ 1 _ rfl; (with_reducible repeat (first | refine blk_drewN ?_ _ | refine blk_drew ?_ | refine blk_alloc ?_ _)); refine blk_put (cs := #[.int .i64 0, .slice none 0 0]) ?_ 0 _ rfl; exact bk_ BK127⟩
           have n3_ : Aside0 (Below w.heap.size w ((w19.setCell ⟨gb127, 0, none⟩ (.int .i64 ((rd_T80 l0_5 x22_2).f0))).setCell ⟨gb127, 1, none⟩ (.slice A126_1 ((rd_T80 l0_5 x22_2).f1).length c126_1))) := ⟨bf_ HB⟩
           (try clear HO_3); (try clear BK120); (try clear BK127); (try clear HB)
           generalize ((w19.setCell ⟨gb127, 0, none⟩ (.int .i64 ((rd_T80 l0_5 x22_2).f0))).setCell ⟨gb127, 1, none⟩ (.slice A126_1 ((rd_T80 l0_5 x22_2).f1).length c126_1)) = w45 at n0_ n1_ n2_ n3_ ⊢
           have HO_3 := n0_; have BK120 := n1_; have BK127 := n2_; have HB := n3_; clear n0_ n1_ n2_ n3_; have n0_ := Aside0.mk (MR_drew HO_3.out); have n1_ := Aside0.mk (blk_drew BK120.out); have n2_ := Aside0.mk (blk_drew BK127.out); have n3_ := Aside0.mk (below_drew1 HB.out); clear HO_3; clear BK120; clear BK127; clear HB; have HO_3 := n0_; have BK120 := n1_; have BK127 := n2_; have HB := n3_; clear n0_ n1_ n2_ n3_
           refine start_ (n := 33) (S := fun w' => w'.cell? ⟨gb127, 0, none⟩ = some (.int .i64 ((rd_T80 l0_5 x22_2).f0)) ∧ w'.cell? ⟨gb127, 1, none⟩ = some (.slice A126_1 ((rd_T80 l0_5 x22_2).f1).length c126_1)) (ds := []) (bs 33 0) (by kernel_rfl) rfl rfl ⟨bt_ BK127 0, bt_ BK127 1⟩ (fun hHeld => ?_); refine with_tabW impl_BufOk.tab7 impl_BufOk.bits7 (fun HT_ HW_ => ?_)
           generalize w45.drew = w46 at HO_3 BK120 BK127 HB hHeld ⊢
           refine pure_s (i := 0) (N := some 27) (bs 33 1) (any_of HT_.out (by kernel_rfl)) (h := ?_)
           refine take_ (i := 1) (N := some 28) (v := ?_) (a' := ?_) (bs 33 2) rfl rfl (take_ofW HT_.out HW_.out (by kernel_rfl)) (fun _ _ _ h => h) (Or.inl ⟨by rfl, ?_⟩) hHeld ?_ ?_
           rotate_left
           ·rintro w' ⟨s0, s1⟩
            go_simp
            with_reducible rfl
           rotate_left
           ·simp only [Act.put, List.setIfInBounds_toArray, List.set_cons_zero, List.set_cons_succ, i64_w, i32_w]
            rfl
           refine one_ (i := 2) (N := some 29) (bs 33 3) rfl rfl (one_of HT_.out (by kernel_rfl)) (by decide) (fun K hK => ?_)
           refine goes_ Try.func80 (by kernel_rfl) rfl #[.int .i64 ((rd_T80 l0_5 x22_2).f0)] (by rfl) rfl rfl mt_ ?_
           with_reducible refine (impl_isFlow.calls ((rd_T80 l0_5 x22_2).f0) false _ A22.out).mono ?_
           rintro e w' ⟨rfl, ⟨nd, rfl⟩⟩
           refine ⟨_, rfl, ?_⟩
           refine hK.out _ _ ⟨bt_ BK127 0, bt_ BK127 1⟩ (fun hHeld => ?_)
           clear hK K
           refine norm_ (a' := ?_) ?_ ?_
           rotate_left
           ·show Act.put _ (some 29) _ = _
            simp only [Act.put, List.setIfInBounds_toArray, List.set_cons_zero, List.set_cons_succ, i64_w, i32_w]
            rfl
           refine pure_s (i := 3) (N := some 30) (bs 33 4) (any_of HT_.out (by kernel_rfl)) (h := ?_)
           refine pure_s (i := 4) (N := some 31) (bs 33 5) (any_of HT_.out (by kernel_rfl)) (h := ?_)
           refine pure_u (i := 5) (N := some 32) (bs 33 6) (any_of HT_.out (by kernel_rfl)) (h := ?_)
           refine pure_u (i := 6) (N := some 33) (bs 33 7) (any_of HT_.out (by kernel_rfl)) (h := ?_)
           refine pure_u (i := 7) (N := some 34) (bs 33 8) (any_of HT_.out (by kernel_rfl)) (h := ?_)
           refine pure_u (i := 8) (N := some 35) (bs 33 9) (any_of HT_.out (by kernel_rfl)) (h := ?_)
           refine pure_u (i := 9) (N := some 36) (bs 33 10) (any_of HT_.out (by kernel_rfl)) (h := ?_)
           refine pure_u (i := 10) (N := some 37) (bs 33 11) (any_of HT_.out (by kernel_rfl)) (h := ?_)
           refine pure_u (i := 11) (N := some 38) (bs 33 12) (any_of HT_.out (by kernel_rfl)) (h := ?_)
           refine pure_u (i := 12) (N := some 39) (bs 33 13) (any_of HT_.out (by kernel_rfl)) (h := ?_)
           refine pure_u (i := 13) (N := some 40) (bs 33 14) (any_of HT_.out (by kernel_rfl)) (h := ?_)
           refine pure_u (i := 14) (N := some 41) (bs 33 15) (any_of HT_.out (by kernel_rfl)) (h := ?_)
           refine pure_u (i := 15) (N := some 42) (bs 33 16) (any_of HT_.out (by kernel_rfl)) (h := ?_)
           refine pure_u (i := 16) (N := some 43) (bs 33 17) (any_of HT_.out (by kernel_rfl)) (h := ?_)
           refine pure_u (i := 17) (N := some 44) (bs 33 18) (any_of HT_.out (by kernel_rfl)) (h := ?_)
           refine pure_u (i := 18) (N := some 45) (bs 33 19) (any_of HT_.out (by kernel_rfl)) (h := ?_)
           refine pure_s (i := 19) (N := some 46) (bs 33 20) (any_of HT_.out (by kernel_rfl)) (h := ?_)
           refine pure_s (i := 20) (N := some 47) (bs 33 21) (any_of HT_.out (by kernel_rfl)) (h := ?_)
           refine pure_u (i := 21) (N := some 48) (bs 33 22) (any_of HT_.out (by kernel_rfl)) (h := ?_)
           refine pure_u (i := 22) (N := some 49) (bs 33 23) (any_of HT_.out (by kernel_rfl)) (h := ?_)
           refine pure_u (i := 23) (N := some 50) (bs 33 24) (any_of HT_.out (by kernel_rfl)) (h := ?_)
           refine pure_u (i := 24) (N := some 51) (bs 33 25) (any_of HT_.out (by kernel_rfl)) (h := ?_)
           refine pure_s (i := 25) (N := some 52) (bs 33 26) (any_of HT_.out (by kernel_rfl)) (h := ?_)
           refine pure_s (i := 26) (N := some 53) (bs 33 27) (any_of HT_.out (by kernel_rfl)) (h := ?_)
           refine pure_u (i := 27) (N := some 54) (bs 33 28) (any_of HT_.out (by kernel_rfl)) (h := ?_)
           refine pure_u (i := 28) (N := some 55) (bs 33 29) (any_of HT_.out (by kernel_rfl)) (h := ?_)
           refine pure_u (i := 29) (N := some 56) (bs 33 30) (any_of HT_.out (by kernel_rfl)) (h := ?_)
           refine pure_u (i := 30) (N := some 57) (bs 33 31) (any_of HT_.out (by kernel_rfl)) (h := ?_)
           refine pure_u (i := 31) (N := some 58) (bs 33 32) (any_of HT_.out (by kernel_rfl)) (h := ?_)
           refine pure_s (i := 32) (N := some 59) (bs 33 33) (any_of HT_.out (by kernel_rfl)) (h := ?_)
           refine done_ (done_of HT_.out (by kernel_rfl)) ?_
           try go_wp2
           go_meet
           case rel => exact ⟨_, (true), (by first | rfl | (simp; done) | (simp [*]; done)), H', ⟨by have := HJ1.out; have := HK2.out; first | omega | exact Nat.le_refl _⟩, ⟨mr_ HO_3⟩, ⟨bk_ BK120⟩, ⟨bk_ BK127⟩, ⟨bf_ HB⟩⟩
         case rest =>
          clear HC18; (try clear c1); (try clear c2); (try clear p2); (try clear c3); (try clear c8); (try clear c12); (try clear c23); (try clear c38); (try clear c38b0); (try clear c38b1); (try clear c38b2)
          obtain ⟨kq, x59_17, rfl, HA, HJ17, HO_3, BK120, BK127, HB⟩ := hcut
          cases kq with
          | zero => exact absurd HA.out (by simp [impl_BufOk.j2])
          | succ kj17 =>
           have H := HA.out
           clear HA
           simp only [impl_BufOk.j2] at H
           by_cases c47 : x59_17 = true
           ·subst c47
            have H1 : (some false) = some r := by rw [if_pos rfl] at H; exact H
            clear H
            have H := H1
            clear H1
            obtain rfl := Option.some.inj H
            go_wp2
            go_ret
            exact ⟨by first | rfl | (simp [errW_none, errW_some] <;> rfl) | (simp [*, errW_none, errW_some] <;> rfl), bf_ HB⟩
           ·replace c47 := Bool.eq_false_iff.mpr c47
            subst c47
            have H1 : (impl_BufOk.l1 kj17 x3_2 l0_5 (l0_5.length : Int) x22_2 ((rd_T80 l0_5 x22_2).f1) (((rd_T80 l0_5 x22_2).f1).length : Int) 0 a0_0 a0_1 a0_2 a0_3 a0_4 l0_5) = some r := by rw [if_neg (show ¬ (false = true) by decide)] at H; exact H
            clear H
            have H := H1
            clear H1
            have H' := Aside0.mk H
            clear H; have hnb48 := NB127_120.out; have hnc48 := NB120_127.out
            have hcz49_0 : wc.cell? ⟨gb127, 0, none⟩ = some (.int .i64 ((rd_T80 l0_5 x22_2).f0)) := (blk_cell BK127.out 0).trans rfl
            have hcz49_1 : wc.cell? ⟨gb127, 1, none⟩ = some (.slice A126_1 ((rd_T80 l0_5 x22_2).f1).length c126_1) := (blk_cell BK127.out 1).trans rfl
            have hfz49_0 := blk_frozen BK127.out 0; have hfz49_1 := blk_frozen BK127.out 1
            go_wp2
            go_loopg [63] kj17 (fun kq v63 w' => ∃ (x3_4 : List Int) (x63_4 : Int), v63 = .int .i64 x63_4 ∧ Aside0 (impl_BufOk.l1 kq x3_4 l0_5 (l0_5.length : Int) x22_2 ((rd_T80 l0_5 x22_2).f1) (((rd_T80 l0_5 x22_2).f1).length : Int) x63_4 a0_0 a0_1 a0_2 a0_3 a0_4 l0_5 = some r) ∧ Aside0 (kq ≤ kj17) ∧ Aside0 (MR Try.prog 3 4 w' w.heap.size v123 x3_4) ∧ Aside0 (w'.heap[gb120]? = some (.cells #[.int .i64 a0_0, .int .i64 a0_1, .int .i64 a0_2, .int .i64 a0_3, .bool a0_4, (.slice (some ad126) l0_5.length c0_5)] 47 (0, 0))) ∧ Aside0 (w'.heap[gb127]? = some (.cells #[.int .i64 ((rd_T80 l0_5 x22_2).f0), (.slice A126_1 ((rd_T80 l0_5 x22_2).f1).length c126_1)] 80 (0, 0))) ∧ Aside0 (Below w.heap.size w w'))
            case atStart => exact ⟨(x3_2), (0), (by first | rfl | (simp; done) | (simp [*]; done)), H', ⟨Nat.le_refl _⟩, ⟨mr_ HO_3⟩, ⟨bk_ BK120⟩, ⟨bk_ BK127⟩, ⟨bf_ HB⟩⟩
            case round =>
             clear H'
             (try clear c1); (try clear c2); (try clear p2 p2); (try clear c3); (try clear c4); (try clear c8); (try clear c12); (try clear c23); (try clear c38); (try clear c38b0); (try clear c38b1); (try clear c38b2); (try clear c47); (try clear c48); (try clear hcz49_0 hcz49_1 hfz49_0 hfz49_1)
             obtain ⟨x3_4, x63_4, rfl, HA, HK4, HO_3, BK120, BK127, HB⟩ := hrel
             cases gk with
             | zero => exact absurd HA.out (by simp [impl_BufOk.l1])
             | succ k4 =>
              have H := HA.out
              clear HA
              simp only [impl_BufOk.l1] at H
              by_cases c50 : x63_4 < (((rd_T80 l0_5 x22_2).f1).length : Int)
              ·rw [if_pos c50] at H
               have c50b0 : decide (x63_4 < (((rd_T80 l0_5 x22_2).f1).length : Int)) = true := decide_eq_true c50
               clear c50
               by_cases c51 : 0 ≤ x63_4
               ·rw [if_pos c51] at H
                have c51b0 : decide (0 ≤ x63_4) = true := decide_eq_true c51
                clear c51
                by_cases c52 : x63_4 < (((rd_T80 l0_5 x22_2).f1).length : Int)
                ·rw [if_pos c52] at H
                 have c52b0 : decide (x63_4 < (((rd_T80 l0_5 x22_2).f1).length : Int)) = true := decide_eq_true c52
                 clear c52
                 replace H := Option.bind_eq_some_iff.mp H
                 obtain ⟨t134, A530, H⟩ := H
                 replace H : (if t134 = true then ((impl_seen.f x3_4 ((rd_T52 ((rd_T80 l0_5 x22_2).f1) x63_4).f0)).bind fun t135 => (if t135 = true then (some false) else (if x3_4.length < 17592186044416 then (impl_BufOk.l1 k4 (x3_4 ++ [(rd_T52 ((rd_T80 l0_5 x22_2).f1) x63_4).f0]) l0_5 (l0_5.length : Int) x22_2 ((rd_T80 l0_5 x22_2).f1) (((rd_T80 l0_5 x22_2).f1).length : Int) (wrap64 (x63_4 + 1)) a0_0 a0_1 a0_2 a0_3 a0_4 l0_5) else (none)))) else (some false)) = some r := H
                 have A53 := Aside0.mk A530
                 clear A530
                 by_cases c54 : t134 = true
                 ·subst c54
                  have H1 : ((impl_seen.f x3_4 ((rd_T52 ((rd_T80 l0_5 x22_2).f1) x63_4).f0)).bind fun t135 => (if t135 = true then (some false) else (if x3_4.length < 17592186044416 then (impl_BufOk.l1 k4 (x3_4 ++ [(rd_T52 ((rd_T80 l0_5 x22_2).f1) x63_4).f0]) l0_5 (l0_5.length : Int) x22_2 ((rd_T80 l0_5 x22_2).f1) (((rd_T80 l0_5 x22_2).f1).length : Int) (wrap64 (x63_4 + 1)) a0_0 a0_1 a0_2 a0_3 a0_4 l0_5) else (none)))) = some r := by rw [if_pos rfl] at H; exact H
                  clear H
                  have H := H1
                  clear H1
                  replace H := Option.bind_eq_some_iff.mp H
                  obtain ⟨t135, A550, H⟩ := H
                  replace H : (if t135 = true then (some false) else (if x3_4.length < 17592186044416 then (impl_BufOk.l1 k4 (x3_4 ++ [(rd_T52 ((rd_T80 l0_5 x22_2).f1) x63_4).f0]) l0_5 (l0_5.length : Int) x22_2 ((rd_T80 l0_5 x22_2).f1) (((rd_T80 l0_5 x22_2).f1).length : Int) (wrap64 (x63_4 + 1)) a0_0 a0_1 a0_2 a0_3 a0_4 l0_5) else (none))) = some r := H
                  have A55 := Aside0.mk A550
                  clear A550
                  by_cases c56 : t135 = true
                  ·subst c56
                   have H1 : (some false) = some r := by rw [if_pos rfl] at H; exact H
                   clear H
                   have H := H1
                   clear H1
                   obtain rfl := Option.some.inj H
                   have p132 : 0 ≤ (x63_4 : Int) := of_decide_eq_true (by first | (with_reducible assumption) | assumption)
                   have q132 : x63_4 < (((rd_T80 l0_5 x22_2).f1).length : Int) := of_decide_eq_true (by first | (with_reducible assumption) | assumption)
                   obtain ⟨ad132, e132, hx132_0, hx132_1⟩ := at_T52 HR126_1.out x63_4 p132 q132
                   cases e132
                   replace hx132_0 := (HB.out.cell (World.block_lt_of_cell? w _ hx132_0)).trans hx132_0
                   replace hx132_1 := (HB.out.cell (World.block_lt_of_cell? w _ hx132_1)).trans hx132_1
                   replace p132 := eq_true p132
                   replace q132 := eq_true q132
                   go_wp2_with (first | ((with_reducible refine gate_dst (N := 7) rfl ?_); (try (refine gate_guard (by rfl) ?_; dsimp only)); refine box_event ?hg (N := 7) ?hd (cs := #[.int .i64 0, .int .i64 0]) (t := 52) ?hr ?_; (case hd => rfl); (case hg => rfl); (case hr => first | (go_simp; done) | (go_simp; rfl)); intro gb133 hg w57 hbox hb; have n0_ := Aside0.mk (MR_below (mr_ HO_3) hb); have n1_ := bb_ BK120 hb; have n2_ := bb_ BK127 hb; have n3_ := Aside0.mk (below_step (bf_ HB) hb); have n4_ := Aside0.mk (hbox); have n5_ := gw_ HB hg; have n6_ := gw_ HB hg; have n7_ := nl_ BK120 hg; have n8_ := ng_ BK120 hg; have n9_ := nl_ BK127 hg; have n10_ := ng_ BK127 hg; clear HO_3; clear BK120; clear BK127; clear HB; have HO_3 := n0_; have BK120 := n1_; have BK127 := n2_; have HB := n3_; have BK133 := n4_; have GW133 := n5_; have GE133 := n6_; have NB120_133 := n7_; have NB133_120 := n8_; have NB127_133 := n9_; have NB133_127 := n10_; clear n0_ n1_ n2_ n3_ n4_ n5_ n6_ n7_ n8_ n9_ n10_; clear hb hbox hg; have hnb58 := NB133_120.out; have hnc58 := NB120_133.out; have hnb59 := NB133_127.out; have hnc59 := NB127_133.out; have hcz60_0 := bc_ BK133 0 (.int .i64 0) rfl; have hcz60_1 := bc_ BK133 1 (.int .i64 0) rfl; have hfz60_0 := blk_frozen BK133.out 0; have hfz60_1 := blk_frozen BK133.out 1) | ((with_reducible refine gate_callee (f := 81) rfl ?_); refine goesL_ (some 68) rfl rfl Try.func81 (by kernel_rfl) rfl #[.agg #[.int .i64 ((rd_T52 ((rd_T80 l0_5 x22_2).f1) x63_4).f0), .int .i64 ((rd_T52 ((rd_T80 l0_5 x22_2).f1) x63_4).f1)]] rfl mt_ ?_; (with_reducible refine (impl_heldOk.calls ((rd_T52 ((rd_T80 l0_5 x22_2).f1) x63_4).f0) ((rd_T52 ((rd_T80 l0_5 x22_2).f1) x63_4).f1) true _ A53.out).mono ?_); rintro e w61 ⟨rfl, hb⟩; refine ⟨_, rfl, ?_⟩; have n0_ := Aside0.mk (MR_below (mf2_ HO_3 BK133 (.int .i64 ((rd_T52 ((rd_T80 l0_5 x22_2).f1) x63_4).f0)) (.int .i64 ((rd_T52 ((rd_T80 l0_5 x22_2).f1) x63_4).f1))) hb); have n1_ := bm_ BK120 hb; have n2_ := bm_ BK127 hb; have n3_ := Aside0.mk (blk_below (g := gb133) (o := .cells #[.int .i64 ((rd_T52 ((rd_T80 l0_5 x22_2).f1) x63_4).f0), .int .i64 ((rd_T52 ((rd_T80 l0_5 x22_2).f1) x63_4).f1)] 52 (0, 0)) (by (with_reducible repeat (first | refine blk_drewN ?_ _ | refine blk_drew ?_ | refine blk_alloc ?_ _)); refine blk_put (cs := #[.int .i64 ((rd_T52 ((rd_T80 l0_5 x22_2).f1) x63_4).f0), .int .i64 0]) ?_ 1 _ rfl; (with_reducible repeat (first | refine blk_drewN ?_ _ | refine blk_drew ?_ | refine blk_alloc ?_ _)); refine blk_put (cs := #[.int .i64 0, .int .i64 0]) ?_ 0 _ rfl; exact bk_ BK133) hb); have n4_ := Aside0.mk (below_step (bf_ HB) hb); clear HO_3; clear BK120; clear BK127; clear BK133; clear HB; have HO_3 := n0_; have BK120 := n1_; have BK127 := n2_; have BK133 := n3_; have HB := n4_; clear n0_ n1_ n2_ n3_ n4_; (try clear hb); (try clear hb2); (try clear hk); (try clear hi); have hcz62_0 : w61.cell? ⟨gb133, 0, none⟩ = some (.int .i64 ((rd_T52 ((rd_T80 l0_5 x22_2).f1) x63_4).f0)) := (blk_cell BK133.out 0).trans rfl; have hcz62_1 : w61.cell? ⟨gb133, 1, none⟩ = some (.int .i64 ((rd_T52 ((rd_T80 l0_5 x22_2).f1) x63_4).f1)) := (blk_cell BK133.out 1).trans rfl; have hfz62_0 := blk_frozen BK133.out 0; have hfz62_1 := blk_frozen BK133.out 1; obtain ⟨mb63, eo63⟩ := MR_val HO_3.out; subst eo63; have hlk63 := MR_look (t := 121) Try.underlying3 Try.underlying4 Try.underlying121 (fun _ => rfl) HO_3.out (x := ((rd_T52 ((rd_T80 l0_5 x22_2).f1) x63_4).f0)) (held_wf A53.out); rw [seen_is A55.out] at hlk63))
                   go_ret
                   exact ⟨by first | rfl | (simp [errW_none, errW_some] <;> rfl) | (simp [*, errW_none, errW_some] <;> rfl), bf_ HB⟩
                  ·replace c56 := Bool.eq_false_iff.mpr c56
                   subst c56
                   have H1 : (if x3_4.length < 17592186044416 then (impl_BufOk.l1 k4 (x3_4 ++ [(rd_T52 ((rd_T80 l0_5 x22_2).f1) x63_4).f0]) l0_5 (l0_5.length : Int) x22_2 ((rd_T80 l0_5 x22_2).f1) (((rd_T80 l0_5 x22_2).f1).length : Int) (wrap64 (x63_4 + 1)) a0_0 a0_1 a0_2 a0_3 a0_4 l0_5) else (none)) = some r := by rw [if_neg (show ¬ (false = true) by decide)] at H; exact H
                   clear H
                   have H := H1
                   clear H1
                   by_cases c64 : x3_4.length < 17592186044416
                   ·rw [if_pos c64] at H
                    have LMc64 := Aside0.mk c64
                    clear c64
                    obtain ⟨y136, hy136⟩ : ∃ y_ : List Int, y_ = (x3_4 ++ [(rd_T52 ((rd_T80 l0_5 x22_2).f1) x63_4).f0]) := ⟨_, rfl⟩
                    replace H : (impl_BufOk.l1 k4 y136 l0_5 (l0_5.length : Int) x22_2 ((rd_T80 l0_5 x22_2).f1) (((rd_T80 l0_5 x22_2).f1).length : Int) (wrap64 (x63_4 + 1)) a0_0 a0_1 a0_2 a0_3 a0_4 l0_5) = some r := by first | (rw [hy136]; with_reducible exact H) | (have H2_ := (Option.bind_some _ _).symm.trans H; rw [hy136]; with_reducible exact H2_) | (have H2_ := (Option.bind_some _ _).symm.trans H; with_reducible exact H2_) | with_reducible exact H | (rw [hy136]; exact H) | exact H
                    have Ny136 := Aside0.mk hy136
                    clear hy136
                    have H' := Aside0.mk H
                    clear H
                    have p132 : 0 ≤ (x63_4 : Int) := of_decide_eq_true (by first | (with_reducible assumption) | assumption)
                    have q132 : x63_4 < (((rd_T80 l0_5 x22_2).f1).length : Int) := of_decide_eq_true (by first | (with_reducible assumption) | assumption)
                    obtain ⟨ad132, e132, hx132_0, hx132_1⟩ := at_T52 HR126_1.out x63_4 p132 q132
                    cases e132
                    replace hx132_0 := (HB.out.cell (World.block_lt_of_cell? w _ hx132_0)).trans hx132_0
                    replace hx132_1 := (HB.out.cell (World.block_lt_of_cell? w _ hx132_1)).trans hx132_1
                    replace p132 := eq_true p132
                    replace q132 := eq_true q132
                    go_wp2_with (first | ((with_reducible refine gate_dst (N := 7) rfl ?_); (try (refine gate_guard (by rfl) ?_; dsimp only)); refine box_event ?hg (N := 7) ?hd (cs := #[.int .i64 0, .int .i64 0]) (t := 52) ?hr ?_; (case hd => rfl); (case hg => rfl); (case hr => first | (go_simp; done) | (go_simp; rfl)); intro gb133 hg w65 hbox hb; have n0_ := Aside0.mk (MR_below (mr_ HO_3) hb); have n1_ := bb_ BK120 hb; have n2_ := bb_ BK127 hb; have n3_ := Aside0.mk (below_step (bf_ HB) hb); have n4_ := Aside0.mk (hbox); have n5_ := gw_ HB hg; have n6_ := gw_ HB hg; have n7_ := nl_ BK120 hg; have n8_ := ng_ BK120 hg; have n9_ := nl_ BK127 hg; have n10_ := ng_ BK127 hg; clear HO_3; clear BK120; clear BK127; clear HB; have HO_3 := n0_; have BK120 := n1_; have BK127 := n2_; have HB := n3_; have BK133 := n4_; have GW133 := n5_; have GE133 := n6_; have NB120_133 := n7_; have NB133_120 := n8_; have NB127_133 := n9_; have NB133_127 := n10_; clear n0_ n1_ n2_ n3_ n4_ n5_ n6_ n7_ n8_ n9_ n10_; clear hb hbox hg; have hnb66 := NB133_120.out; have hnc66 := NB120_133.out; have hnb67 := NB133_127.out; have hnc67 := NB127_133.out; have hcz68_0 := bc_ BK133 0 (.int .i64 0) rfl; have hcz68_1 := bc_ BK133 1 (.int .i64 0) rfl; have hfz68_0 := blk_frozen BK133.out 0; have hfz68_1 := blk_frozen BK133.out 1) | ((with_reducible refine gate_callee (f := 81) rfl ?_); refine goesL_ (some 68) rfl rfl Try.func81 (by kernel_rfl) rfl #[.agg #[.int .i64 ((rd_T52 ((rd_T80 l0_5 x22_2).f1) x63_4).f0), .int .i64 ((rd_T52 ((rd_T80 l0_5 x22_2).f1) x63_4).f1)]] rfl mt_ ?_; (with_reducible refine (impl_heldOk.calls ((rd_T52 ((rd_T80 l0_5 x22_2).f1) x63_4).f0) ((rd_T52 ((rd_T80 l0_5 x22_2).f1) x63_4).f1) true _ A53.out).mono ?_); rintro e w69 ⟨rfl, hb⟩; refine ⟨_, rfl, ?_⟩; have n0_ := Aside0.mk (MR_below (mf2_ HO_3 BK133 (.int .i64 ((rd_T52 ((rd_T80 l0_5 x22_2).f1) x63_4).f0)) (.int .i64 ((rd_T52 ((rd_T80 l0_5 x22_2).f1) x63_4).f1))) hb); have n1_ := bm_ BK120 hb; have n2_ := bm_ BK127 hb; have n3_ := Aside0.mk (blk_below (g := gb133) (o := .cells #[.int .i64 ((rd_T52 ((rd_T80 l0_5 x22_2).f1) x63_4).f0), .int .i64 ((rd_T52 ((rd_T80 l0_5 x22_2).f1) x63_4).f1)] 52 (0, 0)) (by (with_reducible repeat (first | refine blk_drewN ?_ _ | refine blk_drew ?_ | refine blk_alloc ?_ _)); refine blk_put (cs := #[.int .i64 ((rd_T52 ((rd_T80 l0_5 x22_2).f1) x63_4).f0), .int .i64 0]) ?_ 1 _ rfl; (with_reducible repeat (first | refine blk_drewN ?_ _ | refine blk_drew ?_ | refine blk_alloc ?_ _)); refine blk_put (cs := #[.int .i64 0, .int .i64 0]) ?_ 0 _ rfl; exact bk_ BK133) hb); have n4_ := Aside0.mk (below_step (bf_ HB) hb); clear HO_3; clear BK120; clear BK127; clear BK133; clear HB; have HO_3 := n0_; have BK120 := n1_; have BK127 := n2_; have BK133 := n3_; have HB := n4_; clear n0_ n1_ n2_ n3_ n4_; (try clear hb); (try clear hb2); (try clear hk); (try clear hi); have hcz70_0 : w69.cell? ⟨gb133, 0, none⟩ = some (.int .i64 ((rd_T52 ((rd_T80 l0_5 x22_2).f1) x63_4).f0)) := (blk_cell BK133.out 0).trans rfl; have hcz70_1 : w69.cell? ⟨gb133, 1, none⟩ = some (.int .i64 ((rd_T52 ((rd_T80 l0_5 x22_2).f1) x63_4).f1)) := (blk_cell BK133.out 1).trans rfl; have hfz70_0 := blk_frozen BK133.out 0; have hfz70_1 := blk_frozen BK133.out 1; obtain ⟨mb71, eo71⟩ := MR_val HO_3.out; subst eo71; have hlk71 := MR_look (t := 121) Try.underlying3 Try.underlying4 Try.underlying121 (fun _ => rfl) HO_3.out (x := ((rd_T52 ((rd_T80 l0_5 x22_2).f1) x63_4).f0)) (held_wf A53.out); rw [seen_is A55.out] at hlk71) | (at_mapUpdate; refine MR_put (k := 3) (e := 4) (t := 121) (w0 := w) rfl (.tmp 76) (.tmp 78) (.const (.bool true)) rfl Try.underlying3 Try.underlying4 Try.underlying121 (mr_ HO_3) (bf_ HB) ?aL ?am ?ax ?av (held_wf A53.out) ?_; (case aL => have := LMc64.out; omega); (case am => rfl); (case ax => rfl); (case av => rfl); intro w72 ho hb hg; rw [← Ny136.out] at ho; have n0_ := Aside0.mk (blk_grown (g := gb120) (o := .cells #[.int .i64 a0_0, .int .i64 a0_1, .int .i64 a0_2, .int .i64 a0_3, .bool a0_4, .slice (some ad126) l0_5.length c0_5] 47 (0, 0)) (bk_ BK120) hg (fun e_ => MR_ne HO_3.out BK120.out (Option.some.inj e_))); have n1_ := Aside0.mk (blk_grown (g := gb127) (o := .cells #[.int .i64 ((rd_T80 l0_5 x22_2).f0), .slice (some ad132) ((rd_T80 l0_5 x22_2).f1).length c126_1] 80 (0, 0)) (bk_ BK127) hg (fun e_ => MR_ne HO_3.out BK127.out (Option.some.inj e_))); have n2_ := Aside0.mk (blk_grown (g := gb133) (o := .cells #[.int .i64 ((rd_T52 ((rd_T80 l0_5 x22_2).f1) x63_4).f0), .int .i64 ((rd_T52 ((rd_T80 l0_5 x22_2).f1) x63_4).f1)] 52 (0, 0)) (bk_ BK133) hg (fun e_ => MR_ne HO_3.out BK133.out (Option.some.inj e_))); have n3_ := Aside0.mk (hb); have n4_ := Aside0.mk (ho); clear BK120; clear BK127; clear BK133; clear HB; clear HO_3; have BK120 := n0_; have BK127 := n1_; have BK133 := n2_; have HB := n3_; have HO138 := n4_; clear n0_ n1_ n2_ n3_ n4_; clear ho hb hg))
                    go_roundg k4
                    case measure => have := HJ1.out; have := HK2.out; have := HJ17.out; have := HK4.out; omega
                    case rel => exact ⟨(y136), (wrap64 (x63_4 + 1)), (by first | rfl | (simp; done) | (simp [*]; done)), H', ⟨by have := HJ1.out; have := HK2.out; have := HJ17.out; have := HK4.out; omega⟩, ⟨mr_ HO138⟩, ⟨bk_ BK120⟩, ⟨bk_ BK127⟩, ⟨bf_ HB⟩⟩
                   ·rw [if_neg c64] at H
                    exact absurd H (by simp)
                 ·replace c54 := Bool.eq_false_iff.mpr c54
                  subst c54
                  have H1 : (some false) = some r := by rw [if_neg (show ¬ (false = true) by decide)] at H; exact H
                  clear H
                  have H := H1
                  clear H1
                  obtain rfl := Option.some.inj H
                  have p132 : 0 ≤ (x63_4 : Int) := of_decide_eq_true (by first | (with_reducible assumption) | assumption)
                  have q132 : x63_4 < (((rd_T80 l0_5 x22_2).f1).length : Int) := of_decide_eq_true (by first | (with_reducible assumption) | assumption)
                  obtain ⟨ad132, e132, hx132_0, hx132_1⟩ := at_T52 HR126_1.out x63_4 p132 q132
                  cases e132
                  replace hx132_0 := (HB.out.cell (World.block_lt_of_cell? w _ hx132_0)).trans hx132_0
                  replace hx132_1 := (HB.out.cell (World.block_lt_of_cell? w _ hx132_1)).trans hx132_1
                  replace p132 := eq_true p132
                  replace q132 := eq_true q132
                  go_wp2_with (first | ((with_reducible refine gate_dst (N := 7) rfl ?_); (try (refine gate_guard (by rfl) ?_; dsimp only)); refine box_event ?hg (N := 7) ?hd (cs := #[.int .i64 0, .int .i64 0]) (t := 52) ?hr ?_; (case hd => rfl); (case hg => rfl); (case hr => first | (go_simp; done) | (go_simp; rfl)); intro gb133 hg w73 hbox hb; have n0_ := Aside0.mk (MR_below (mr_ HO_3) hb); have n1_ := bb_ BK120 hb; have n2_ := bb_ BK127 hb; have n3_ := Aside0.mk (below_step (bf_ HB) hb); have n4_ := Aside0.mk (hbox); have n5_ := gw_ HB hg; have n6_ := gw_ HB hg; have n7_ := nl_ BK120 hg; have n8_ := ng_ BK120 hg; have n9_ := nl_ BK127 hg; have n10_ := ng_ BK127 hg; clear HO_3; clear BK120; clear BK127; clear HB; have HO_3 := n0_; have BK120 := n1_; have BK127 := n2_; have HB := n3_; have BK133 := n4_; have GW133 := n5_; have GE133 := n6_; have NB120_133 := n7_; have NB133_120 := n8_; have NB127_133 := n9_; have NB133_127 := n10_; clear n0_ n1_ n2_ n3_ n4_ n5_ n6_ n7_ n8_ n9_ n10_; clear hb hbox hg; have hnb74 := NB133_120.out; have hnc74 := NB120_133.out; have hnb75 := NB133_127.out; have hnc75 := NB127_133.out; have hcz76_0 := bc_ BK133 0 (.int .i64 0) rfl; have hcz76_1 := bc_ BK133 1 (.int .i64 0) rfl; have hfz76_0 := blk_frozen BK133.out 0; have hfz76_1 := blk_frozen BK133.out 1) | ((with_reducible refine gate_callee (f := 81) rfl ?_); refine goesL_ (some 68) rfl rfl Try.func81 (by kernel_rfl) rfl #[.agg #[.int .i64 ((rd_T52 ((rd_T80 l0_5 x22_2).f1) x63_4).f0), .int .i64 ((rd_T52 ((rd_T80 l0_5 x22_2).f1) x63_4).f1)]] rfl mt_ ?_; (with_reducible refine (impl_heldOk.calls ((rd_T52 ((rd_T80 l0_5 x22_2).f1) x63_4).f0) ((rd_T52 ((rd_T80 l0_5 x22_2).f1) x63_4).f1) false _ A53.out).mono ?_); rintro e w77 ⟨rfl, hb⟩; refine ⟨_, rfl, ?_⟩; have n0_ := Aside0.mk (MR_below (mf2_ HO_3 BK133 (.int .i64 ((rd_T52 ((rd_T80 l0_5 x22_2).f1) x63_4).f0)) (.int .i64 ((rd_T52 ((rd_T80 l0_5 x22_2).f1) x63_4).f1))) hb); have n1_ := bm_ BK120 hb; have n2_ := bm_ BK127 hb; have n3_ := Aside0.mk (blk_below (g := gb133) (o := .cells #[.int .i64 ((rd_T52 ((rd_T80 l0_5 x22_2).f1) x63_4).f0), .int .i64 ((rd_T52 ((rd_T80 l0_5 x22_2).f1) x63_4).f1)] 52 (0, 0)) (by (with_reducible repeat (first | refine blk_drewN ?_ _ | refine blk_drew ?_ | refine blk_alloc ?_ _)); refine blk_put (cs := #[.int .i64 ((rd_T52 ((rd_T80 l0_5 x22_2).f1) x63_4).f0), .int .i64 0]) ?_ 1 _ rfl; (with_reducible repeat (first | refine blk_drewN ?_ _ | refine blk_drew ?_ | refine blk_alloc ?_ _)); refine blk_put (cs := #[.int .i64 0, .int .i64 0]) ?_ 0 _ rfl; exact bk_ BK133) hb); have n4_ := Aside0.mk (below_step (bf_ HB) hb); clear HO_3; clear BK120; clear BK127; clear BK133; clear HB; have HO_3 := n0_; have BK120 := n1_; have BK127 := n2_; have BK133 := n3_; have HB := n4_; clear n0_ n1_ n2_ n3_ n4_; (try clear hb); (try clear hb2); (try clear hk); (try clear hi)))
                  go_ret
                  exact ⟨by first | rfl | (simp [errW_none, errW_some] <;> rfl) | (simp [*, errW_none, errW_some] <;> rfl), bf_ HB⟩
                ·rw [if_neg c52] at H
                 exact absurd H (by simp)
               ·rw [if_neg c51] at H
                exact absurd H (by simp)
              ·rw [if_neg c50] at H
               have c50b0 : decide (x63_4 < (((rd_T80 l0_5 x22_2).f1).length : Int)) = false := decide_eq_false c50
               clear c50
               have H' := Aside0.mk H
               clear H
               go_wp2
               go_roundg k4
               case measure => have := HJ1.out; have := HK2.out; have := HJ17.out; have := HK4.out; omega
               case rel => exact ⟨(x3_4), (wrap64 (x22_2 + 1)), (by first | rfl | (simp; done) | (simp [*]; done)), H', ⟨by have := HJ1.out; have := HK2.out; have := HJ17.out; have := HK4.out; omega⟩, ⟨mr_ HO_3⟩, ⟨bk_ BK120⟩, ⟨bf_ HB⟩⟩
        ·rw [if_neg c17] at H
         exact absurd H (by simp)
       ·rw [if_neg c16] at H
        exact absurd H (by simp)
      ·rw [if_neg c15] at H
       have c15b0 : decide (x22_2 < (l0_5.length : Int)) = false := decide_eq_false c15
       clear c15
       replace H := Option.bind_eq_some_iff.mp H
       obtain ⟨t125, A780, H⟩ := H
       replace H : (some (decide (t125 ≤ a0_2))) = some r := H
       have A78 := Aside0.mk A780
       clear A780
       obtain rfl := Option.some.inj H
       try go_wp2
       have n0_ := Aside0.mk (MR_drew HO_3.out); have n1_ := Aside0.mk (blk_drew BK120.out); have n2_ := Aside0.mk (below_drew1 HB.out); clear HO_3; clear BK120; clear HB; have HO_3 := n0_; have BK120 := n1_; have HB := n2_; clear n0_ n1_ n2_
       refine start_ (n := 7) (S := fun w' => w'.cell? ⟨gb120, 0, none⟩ = some (.int .i64 a0_0) ∧ w'.cell? ⟨gb120, 1, none⟩ = some (.int .i64 a0_1) ∧ w'.cell? ⟨gb120, 2, none⟩ = some (.int .i64 a0_2) ∧ w'.cell? ⟨gb120, 3, none⟩ = some (.int .i64 a0_3) ∧ w'.cell? ⟨gb120, 4, none⟩ = some (.bool a0_4) ∧ w'.cell? ⟨gb120, 5, none⟩ = some (.slice A0_5 l0_5.length c0_5)) (ds := []) (bs 7 0) (by kernel_rfl) rfl rfl ⟨bt_ BK120 0, bt_ BK120 1, bt_ BK120 2, bt_ BK120 3, bt_ BK120 4, bt_ BK120 5⟩ (fun hHeld => ?_)
       generalize wr.drew = w79 at HO_3 BK120 HB hHeld ⊢
       refine pure_s (i := 2) (N := some 83) #[oF,oF,oT,oF,oF,oF,oF] (by kernel_rfl) (h := ?_)
       refine pure_s (i := 3) (N := some 84) #[oF,oF,oT,oT,oF,oF,oF] (by kernel_rfl) (h := ?_)
       refine take_ (i := 0) (N := some 81) (v := ?_) (a' := ?_) #[oT,oF,oT,oT,oF,oF,oF] rfl rfl (by kernel_rfl) (fun _ _ _ h => h) (Or.inl ⟨by rfl, ?_⟩) hHeld ?_ ?_
       rotate_left
       ·rintro w' ⟨s0, s1, s2, s3, s4, s5⟩
        go_simp
        with_reducible rfl
       rotate_left
       ·simp only [Act.put, List.setIfInBounds_toArray, List.set_cons_zero, List.set_cons_succ, i64_w, i32_w]
        rfl
       refine take_ (i := 4) (N := some 85) (v := ?_) (a' := ?_) #[oT,oF,oT,oT,oT,oF,oF] rfl rfl (by kernel_rfl) (fun _ _ _ h => h) (Or.inl ⟨by rfl, ?_⟩) hHeld ?_ ?_
       rotate_left
       ·rintro w' ⟨s0, s1, s2, s3, s4, s5⟩
        go_simp
        with_reducible rfl
       rotate_left
       ·simp only [Act.put, List.setIfInBounds_toArray, List.set_cons_zero, List.set_cons_succ, i64_w, i32_w]
        rfl
       refine one_ (i := 1) (N := some 82) (bs 7 5) rfl rfl (by kernel_rfl) (by decide) (fun K hK => ?_)
       refine goes_ Try.func106 (by kernel_rfl) rfl #[.agg #[.int .i64 a0_0, .int .i64 a0_1, .int .i64 a0_2, .int .i64 a0_3, .bool a0_4, .slice A0_5 l0_5.length c0_5]] (by rfl) rfl rfl mt_ ?_
       with_reducible refine (impl_Buf_bytes.calls k2 a0_0 a0_1 a0_2 a0_3 a0_4 _ _ l0_5 t125 _ ?side1 ?side2 A78.out).mono ?_
       (case side1 => repeat (first | exact (Kd.C_below HR0_5.out HB.out) | (with_reducible refine Kd.C_alloc ?_ _) | (with_reducible refine Kd.C_drewN ?_ _) | (with_reducible refine Kd.C_drew ?_)))
       (case side2 => exact HC0_5.out)
       rintro e w80 ⟨rfl, hb⟩
       refine ⟨_, rfl, ?_⟩
       have n0_ := Aside0.mk (MR_below (mr_ HO_3) hb); have n1_ := bb_ BK120 hb; have n2_ := Aside0.mk (below_step (bf_ HB) hb); clear HO_3; clear BK120; clear HB; have HO_3 := n0_; have BK120 := n1_; have HB := n2_; clear n0_ n1_ n2_; (try clear hb); (try clear hb2); (try clear hk); (try clear hi)
       refine hK.out _ _ ⟨bt_ BK120 0, bt_ BK120 1, bt_ BK120 2, bt_ BK120 3, bt_ BK120 4, bt_ BK120 5⟩ (fun hHeld => ?_)
       clear hK K
       refine norm_ (a' := ?_) ?_ ?_
       rotate_left
       ·show Act.put _ (some 82) _ = _
        simp only [Act.put, List.setIfInBounds_toArray, List.set_cons_zero, List.set_cons_succ, i64_w, i32_w]
        rfl
       refine pure_s (i := 5) (N := some 86) (bs 7 6) (by kernel_rfl) (h := ?_)
       refine pure_s (i := 6) (N := some 2) (bs 7 7) (by kernel_rfl) (h := ?_)
       refine done_ (by kernel_rfl) ?_
       try go_wp2
       go_ret
       exact ⟨by first | rfl | (simp [errW_none, errW_some] <;> rfl) | (simp [*, errW_none, errW_some] <;> rfl), bf_ HB⟩

/-! What is told of arguments that came in -/

end Go.Proofs.Ytnklakficjpmoaa.PFnExactBufLaneOf
