/- Short forms of steps that the print writes out: plain theorems with default tactics. No condition. -/
import Derived.Test.YtnklakficjpmoaaWTab
import Derived.Test.YtnklakficjpmoaaWMore
import Derived.WalkKit
namespace Go.Proofs.YtnklakficjpmoaaW.PrintLast
open Go.RowKit
set_option linter.unusedVariables false
abbrev oT : Bool := true
abbrev oF : Bool := false
/-- An operation that yields in every world. -/
theorem pure_s {P : Program} {md : Region.Mode} {ops : Array Oper} {Q : Exit → Act → World → Prop} {S : World → Prop} {ds : List Nat} {i : Nat} {N : Option Tmp} {oi : Oper} {v : Value} {fuel : Nat} {l : Array Bool} {a a' : Act} {w : World} (l' : Array Bool) (hc : anyB md ops l l' i = true)
    (hi : ops[i]? = some oi := by rfl) (hN : oi.dst = N := by rfl) (hQ : ∀ c a w, Q (.panic c) (a.put oi.dst v) w → Q (.panic c) a w := by exact fun _ _ _ h => h)
    (hy : Yields P ops oi v a := by exact Or.inl ⟨by rfl, by intro w'; go_simp; with_reducible rfl⟩)
    (ha : a.put N v = a' := by simp only [Act.put, List.setIfInBounds_toArray, List.set_cons_zero, List.set_cons_succ, i64_w, i32_w]; rfl)
    (h : wpAnyLast P md ops Q S ds fuel l' a' w) : wpAnyLast P md ops Q S ds (fuel + 1) l a w := pure_ l' hi hN hc hQ hy ha h
/-- An operation that is passed over: its guard is not met. -/
theorem pure_u {P : Program} {md : Region.Mode} {ops : Array Oper} {Q : Exit → Act → World → Prop} {S : World → Prop} {ds : List Nat} {i : Nat} {N : Option Tmp} {oi : Oper} {fuel : Nat} {l : Array Bool} {a a' : Act} {w : World} (l' : Array Bool) (hc : anyB md ops l l' i = true)
    (hi : ops[i]? = some oi := by rfl) (hN : oi.dst = N := by rfl) (hQ : ∀ c a w, Q (.panic c) (a.put oi.dst undef) w → Q (.panic c) a w := by exact fun _ _ _ h => h)
    (hy : Yields P ops oi undef a := by exact Or.inr ⟨by rfl, rfl⟩)
    (ha : a.put N undef = a' := by simp only [Act.put, List.setIfInBounds_toArray, List.set_cons_zero, List.set_cons_succ, i64_w, i32_w]; rfl)
    (h : wpAnyLast P md ops Q S ds fuel l' a' w) : wpAnyLast P md ops Q S ds (fuel + 1) l a w := pure_ l' hi hN hc hQ hy ha h
section
open Go.Proofs.YtnklakficjpmoaaW.PrintWords Go.Proofs.YtnklakficjpmoaaW.PrintMore
/-- A block's cells, allocations and draws later. -/
theorem bk_ {p q : Prop} (x : Aside0 q) (h : q → p := by intro z_; (with_reducible repeat (first | refine blk_drewN ?_ _ | refine blk_drew ?_ | refine blk_alloc ?_ _)); exact z_) : p := h x.out
/-- A row, allocations and draws later. -/
theorem kr_ {p q : Prop} (x : Aside0 q) (h : q → p := by intro z_; (with_reducible repeat (first | apply Kd.R_alloc | apply Kd.R_drewN | apply Kd.R_drew)); exact z_) : p := h x.out
/-- What lay below is as it was, allocations and draws later. -/
theorem be_ {p q : Prop} (x : Aside0 q) (h : q → p := by intro z_; repeat (first | (with_reducible first | exact z_ | apply below_alloc | apply pw_below_drewN | apply below_drew1) | exact z_)) : p := h x.out
/-- A block's cells behind a step that leaves what lay below. -/
theorem bb_ {g : Nat} {o : Obj} {w0 w w' : World} (x : Aside0 (w0.heap[g]? = some o)) (hb : Below w.heap.size w w') (h : w0.heap[g]? = some o → w.heap[g]? = some o := by intro z_; (with_reducible repeat (first | refine blk_drewN ?_ _ | refine blk_drew ?_ | refine blk_alloc ?_ _)); exact z_) : Aside0 (w'.heap[g]? = some o) := ⟨blk_below (h x.out) hb⟩
/-- A cell of a block. -/
theorem bc_ {w : World} {g t : Nat} {cs : Array Value} (x : Aside0 (w.heap[g]? = some (.cells cs t (0, 0)))) (i : Nat) (v : Value) (h : cs[i]? = some v) : w.cell? ⟨g, i, none⟩ = some v := (blk_cell x.out i).trans h
/-- What lay below is as it was, behind stores into newer blocks, too. -/
theorem bf_ {p q : Prop} (x : Aside0 q) (h : q → p := by intro z_; repeat (first | (with_reducible first | exact z_ | apply below_alloc | apply pw_below_drewN | apply below_drew1 | refine below_set ?_ (Aside0.out (by assumption))) | exact z_)) : p := h x.out
/-- A block's cells, stores into other blocks later, too. -/
theorem bl_ {p q : Prop} (x : Aside0 q) (h : q → p := by intro z_; repeat (first | (with_reducible first | exact z_ | refine blk_drewN ?_ _ | refine blk_drew ?_ | refine blk_alloc ?_ _) | refine blk_far ?_ (Aside0.out (by assumption)) _ | exact z_)) : p := h x.out
theorem bm_ {g : Nat} {o : Obj} {w0 w w' : World} (x : Aside0 (w0.heap[g]? = some o)) (hb : Below w.heap.size w w') (h : w0.heap[g]? = some o → w.heap[g]? = some o := by intro z_; repeat (first | (with_reducible first | exact z_ | refine blk_drewN ?_ _ | refine blk_drew ?_ | refine blk_alloc ?_ _) | refine blk_far ?_ (Aside0.out (by assumption)) _ | exact z_)) : Aside0 (w'.heap[g]? = some o) := ⟨blk_below (h x.out) hb⟩
/-- A newer block is another one. -/
theorem nl_ {g g' : Nat} {o : Obj} {w0 w : World} (x : Aside0 (w0.heap[g]? = some o)) (hg : g' = w.heap.size) (h : w0.heap[g]? = some o → w.heap[g]? = some o := by intro z_; (with_reducible repeat (first | refine blk_drewN ?_ _ | refine blk_drew ?_ | refine blk_alloc ?_ _)); exact z_) : Aside0 (g ≠ g') := ⟨by rw [hg]; exact Nat.ne_of_lt (blk_lt (h x.out))⟩
theorem ng_ {g g' : Nat} {o : Obj} {w0 w : World} (x : Aside0 (w0.heap[g]? = some o)) (hg : g' = w.heap.size) (h : w0.heap[g]? = some o → w.heap[g]? = some o := by intro z_; (with_reducible repeat (first | refine blk_drewN ?_ _ | refine blk_drew ?_ | refine blk_alloc ?_ _)); exact z_) : Aside0 (g' ≠ g) := ⟨by rw [hg]; exact Nat.ne_of_gt (blk_lt (h x.out))⟩
theorem gw_ {g : Nat} {w0 w w' : World} (x : Aside0 (Below w.heap.size w w0)) (hg : g = w'.heap.size) (h : Below w.heap.size w w0 → Below w.heap.size w w' := by intro z_; repeat (first | (with_reducible first | exact z_ | apply below_alloc | apply pw_below_drewN | apply below_drew1 | refine below_set ?_ (Aside0.out (by assumption))) | exact z_)) : Aside0 (w.heap.size ≤ g) := ⟨by rw [hg]; exact below_size (h x.out)⟩
/-- A cell of a block, its value as the block has it. -/
theorem bt_ {w : World} {g t : Nat} {cs : Array Value} (x : Aside0 (w.heap[g]? = some (.cells cs t (0, 0)))) (i : Nat) {v : Value} (h : cs[i]? = some v := by rfl) : w.cell? ⟨g, i, none⟩ = some v := (blk_cell x.out i).trans h
/-- What a row reads, allocations and draws later. -/
theorem cr_ {p q : Prop} (x : Aside0 q) (h : q → p := by intro z_; repeat (first | exact (Kd.R_reads' z_).2.2 | (with_reducible refine Kd.C_alloc ?_ _) | (with_reducible refine Kd.C_drewN ?_ _) | (with_reducible refine Kd.C_drew ?_))) : p := h x.out
section
variable {α : Type} {d : Kd α} {e base g t : Nat} {ok : Nat → Prop} {w : World} {u : Value} {xs : List α} {cs : Array Value}
theorem rf1_ (x : Aside0 (d.R e w base ok u xs)) (y : Aside0 (w.heap[g]? = some (.cells cs t (0, 0)))) (v0 : Value) (ht : ∀ q, q ∈ e :: d.E → q ≠ t := by decide) : d.R e (w.setCell ⟨g, 0, none⟩ v0) base ok u xs :=
  Kd.R_mono (Kd.R_far (p := ⟨g, 0, none⟩) (Kd.R_types x.out y.out ht) (fun _ hk => hk.2) v0) (fun _ h => h.1)
theorem rf2_ (x : Aside0 (d.R e w base ok u xs)) (y : Aside0 (w.heap[g]? = some (.cells cs t (0, 0)))) (v0 v1 : Value) (ht : ∀ q, q ∈ e :: d.E → q ≠ t := by decide) : d.R e ((w.setCell ⟨g, 0, none⟩ v0).setCell ⟨g, 1, none⟩ v1) base ok u xs :=
  Kd.R_mono (Kd.R_far (p := ⟨g, 1, none⟩) (Kd.R_far (p := ⟨g, 0, none⟩) (Kd.R_types x.out y.out ht) (fun _ hk => hk.2) v0) (fun _ hk => hk.2) v1) (fun _ h => h.1)
theorem rf3_ (x : Aside0 (d.R e w base ok u xs)) (y : Aside0 (w.heap[g]? = some (.cells cs t (0, 0)))) (v0 v1 v2 : Value) (ht : ∀ q, q ∈ e :: d.E → q ≠ t := by decide) : d.R e (((w.setCell ⟨g, 0, none⟩ v0).setCell ⟨g, 1, none⟩ v1).setCell ⟨g, 2, none⟩ v2) base ok u xs :=
  Kd.R_mono (Kd.R_far (p := ⟨g, 2, none⟩) (Kd.R_far (p := ⟨g, 1, none⟩) (Kd.R_far (p := ⟨g, 0, none⟩) (Kd.R_types x.out y.out ht) (fun _ hk => hk.2) v0) (fun _ hk => hk.2) v1) (fun _ hk => hk.2) v2) (fun _ h => h.1)
theorem rf4_ (x : Aside0 (d.R e w base ok u xs)) (y : Aside0 (w.heap[g]? = some (.cells cs t (0, 0)))) (v0 v1 v2 v3 : Value) (ht : ∀ q, q ∈ e :: d.E → q ≠ t := by decide) : d.R e ((((w.setCell ⟨g, 0, none⟩ v0).setCell ⟨g, 1, none⟩ v1).setCell ⟨g, 2, none⟩ v2).setCell ⟨g, 3, none⟩ v3) base ok u xs :=
  Kd.R_mono (Kd.R_far (p := ⟨g, 3, none⟩) (Kd.R_far (p := ⟨g, 2, none⟩) (Kd.R_far (p := ⟨g, 1, none⟩) (Kd.R_far (p := ⟨g, 0, none⟩) (Kd.R_types x.out y.out ht) (fun _ hk => hk.2) v0) (fun _ hk => hk.2) v1) (fun _ hk => hk.2) v2) (fun _ hk => hk.2) v3) (fun _ h => h.1)
theorem rf5_ (x : Aside0 (d.R e w base ok u xs)) (y : Aside0 (w.heap[g]? = some (.cells cs t (0, 0)))) (v0 v1 v2 v3 v4 : Value) (ht : ∀ q, q ∈ e :: d.E → q ≠ t := by decide) : d.R e (((((w.setCell ⟨g, 0, none⟩ v0).setCell ⟨g, 1, none⟩ v1).setCell ⟨g, 2, none⟩ v2).setCell ⟨g, 3, none⟩ v3).setCell ⟨g, 4, none⟩ v4) base ok u xs :=
  Kd.R_mono (Kd.R_far (p := ⟨g, 4, none⟩) (Kd.R_far (p := ⟨g, 3, none⟩) (Kd.R_far (p := ⟨g, 2, none⟩) (Kd.R_far (p := ⟨g, 1, none⟩) (Kd.R_far (p := ⟨g, 0, none⟩) (Kd.R_types x.out y.out ht) (fun _ hk => hk.2) v0) (fun _ hk => hk.2) v1) (fun _ hk => hk.2) v2) (fun _ hk => hk.2) v3) (fun _ hk => hk.2) v4) (fun _ h => h.1)
end
/-- A call through a variable of function type. -/
theorem goesV_ {P : Program} {ops : Array Oper} {Q : Exit → Act → World → Prop} {oi : Oper} {N : Option Tmp} {a : Act} {w : World} {K : Act → World → Prop} {f : FuncId} {fn : Func} {as_ : Array Operand} {ts : Array TypeId} {t : Tmp} (hf : P.funcs[f]? = some fn) (hname : (fn.name == "runtime.NumGoroutine") = false) (hb : fn.body.isSome = true) (args lb : Array Value)
    (hw : Region.wanted oi (yielded ops a.tmps) = true) (hN : oi.dst = N) (hop : oi.op = .call { callee := .value (.tmp t), args := as_, argTypes := ts }) (ht : a.eval (.tmp t) = .func (.func f) #[] lb) (hargs : as_.map a.eval = args)
    (h : Calls P f (args ++ lb) w fun e w' => ∃ v, e = .returned v ∧ K (a.put N v) w') : if Region.wanted oi (yielded ops a.tmps) = true then Oper.wp P oi a w K Q else K (a.put N undef) w := by
  refine call_ f (args ++ lb) hw hN ?_ h
  have he := enters_ hf hname hb (args ++ lb) w
  unfold execOp
  simp [hop, resolve, Deferred.ofValue, invoke, ht, hargs, he]
/-- A list of arguments, one by one. -/
theorem mt_ {p : Prop} (h : p := by (try simp only [List.map_toArray, List.map_cons, List.map_nil]); first | done | rfl | (simp only [List.length_drop, List.length_take]; rfl)) : p := h
end
/-- The first place at which p holds, or -1. -/
def idxP {α : Type} (p : α → Bool) : List α → Int
  | [] => -1
  | x :: t => if p x = true then 0 else if idxP p t < 0 then -1 else idxP p t + 1
theorem idxP_hit {α : Type} {p : α → Bool} : ∀ (l : List α) (k : Nat) (x : α), l[k]? = some x → p x = true → (∀ j y, j < k → l[j]? = some y → p y = false) → idxP p l = k
  | [], k, x, h, _, _ => by simp at h
  | y :: t, 0, x, h, hp, _ => by
    simp only [List.getElem?_cons_zero, Option.some.injEq] at h
    subst h
    rw [idxP, if_pos hp]; rfl
  | y :: t, k + 1, x, h, hp, hn => by
    have h0 := hn 0 y (by omega) rfl
    have ih := idxP_hit t k x (by simpa using h) hp (fun j z hj hz => hn (j + 1) z (by omega) (by simpa using hz))
    rw [idxP, h0, ih]
    simp only [Bool.false_eq_true, if_false]
    rw [if_neg (by omega)]; omega
theorem idxP_miss {α : Type} {p : α → Bool} : ∀ (l : List α), (∀ (j : Nat) y, l[j]? = some y → p y = false) → idxP p l = -1
  | [], _ => rfl
  | y :: t, h => by
    have h0 := h 0 y rfl
    have ih := idxP_miss t (fun j z hz => h (j + 1) z (by simpa using hz))
    rw [idxP, h0, ih]; rfl
/-- The first m of n have come up. -/
def bs (n m : Nat) : Array Bool := (List.replicate m true ++ List.replicate (n - m) false).toArray
/-- Two may come up: a read and a last store that leaves what is read as it is. The read is taken first. -/
def lateB (md : Region.Mode) (ops : Array Oper) (l l' lj : Array Bool) (i j : Nat) : Bool :=
  (Region.ready md ops l == [i, j]) && (Region.ready md ops lj == [i]) && (l.setIfInBounds i true == l') && (l.setIfInBounds j true == lj) && (Region.ready md ops l').contains j && !(i == j)
theorem late_ {P : Program} {md : Region.Mode} {ops : Array Oper} {Q : Exit → Act → World → Prop} {S : World → Prop} {ds : List Nat} {i j : Nat} {N : Tmp} {oi oj : Oper} {v : Value} {fuel : Nat} {l : Array Bool} {a a' : Act} {w w1 : World} (l' lj : Array Bool)
    (hi : ops[i]? = some oi) (hj : ops[j]? = some oj) (hN : oi.dst = some N) (hjd : oj.dst = none) (hc : lateB md ops l l' lj i j = true) (hdj : j ∈ ds)
    (h1 : (execOp a.eval oi).run P w = .ok (.value v) w) (h2 : (execOp a.eval oj).run P w = .ok .skip w1) (h3 : (execOp a.eval oi).run P w1 = .ok (.value v) w1) (ha : a.put (some N) v = a')
    {ty : TypeId} {pp xx : Operand} (hop : oj.op = .store ty pp xx) (hep : a'.eval pp = a.eval pp) (hex : a'.eval xx = a.eval xx) (hwi : Region.wanted oi (yielded ops a.tmps) = true) (hwj : Region.wanted oj (yielded ops a.tmps) = true) (hwj' : Region.wanted oj (yielded ops a'.tmps) = true)
    (h : wpAnyLast P md ops Q S ds (fuel + 1) l' a' w) : wpAnyLast P md ops Q S ds (fuel + 1 + 1) l a w := by
  simp only [lateB, Bool.and_eq_true, beq_iff_eq] at hc
  obtain ⟨⟨⟨⟨⟨c1, c2⟩, c3⟩, c4⟩, c5⟩, c6⟩ := hc
  subst c3
  subst c4
  subst ha
  have hE : execOp (a.put (some N) v).eval oj = execOp a.eval oj := by
    unfold execOp
    rw [hop]
    simp only [hep, hex]
  refine wpAnyLast_all c1 (by simp) (fun x hx => ?_)
  rcases List.mem_cons.1 hx with rfl | hx
  · refine wpOp_step hi (fun K' hK => ?_)
    rw [if_pos hwi]
    unfold Oper.wp
    rw [h1, Oper.upon_value, hN]
    exact hK _ _ ⟨fun _ hs => hs, h⟩
  · obtain rfl := List.mem_singleton.1 hx
    have hj' := h.2 x (by simpa using c5)
    unfold wpOp at hj' ⊢
    rw [hj] at hj' ⊢
    simp only at hj' ⊢
    rw [if_pos hwj'] at hj'
    rw [if_pos hwj]
    rcases hj' with hj' | ⟨hA, hL⟩
    · left
      unfold Oper.wp at hj' ⊢
      rw [hE, h2, Oper.upon_skip, hjd] at hj'
      rw [h2, Oper.upon_skip, hjd]
      refine ⟨fun hn => absurd hdj hn, ?_⟩
      refine wpAnyLast_all c2 (by simp) (fun y hy => ?_)
      obtain rfl := List.mem_singleton.1 hy
      refine wpOp_step hi (fun K' hK => ?_)
      rw [show (a.put none undef) = a from rfl, if_pos hwi]
      unfold Oper.wp
      rw [h3, Oper.upon_value, hN]
      refine hK _ _ ⟨fun _ hs => hs, ?_⟩
      have := hj'.2
      rw [show ((a.put (some N) v).put none undef) = a.put (some N) v from rfl] at this
      rwa [Array.setIfInBounds_comm _ _ (show y ≠ x from fun e => by subst e; simp at c6)] at this
    · right
      exact ⟨by unfold Oper.asks at hA ⊢; rw [hE] at hA; exact hA, hL⟩
end Go.Proofs.YtnklakficjpmoaaW.PrintLast
