/- The program's HeapDrop and the reference's answer alike, for every list of items and number, and what is handed back is new memory. No condition. -/
import Derived.Test.YtnklakficjpmoaaPFnExactHeapDropx
import Derived.Laws.BitsLemmas
namespace Go.Proofs.Ytnklakficjpmoaa.Pure
open Go.RowKit Go.Proofs.Ytnklakficjpmoaa.PFnExactHeapDrop Go.Proofs.YtnklakficjpmoaaW.PrintWords Go.Proofs.YtnklakficjpmoaaW.PrintLast Go.Proofs.YtnklakficjpmoaaW.PrintMore
set_option linter.unusedVariables false
set_option linter.unusedSimpArgs false

def EvP {α : Type} (g : Nat → Option α) (P : α → Prop) : Prop := ∃ r, Ev g r ∧ P r
theorem EvP.ret {α : Type} {r : α} {P : α → Prop} (h : P r) : EvP (fun _ => some r) P := ⟨r, Ev.now r, h⟩
theorem EvP.bind {α β : Type} {g : Nat → Option α} {f : Nat → α → Option β} {P : α → Prop} {Q : β → Prop} (h : EvP g P) (k : ∀ r, P r → EvP (fun n => f n r) Q) : EvP (fun n => (g n).bind (f n)) Q := by
  obtain ⟨r, hr, hp⟩ := h
  obtain ⟨q, hq, hQ⟩ := k r hp
  exact ⟨q, Ev.bind hr hq, hQ⟩
theorem EvP.ite {α : Type} {c : Prop} [Decidable c] {a b : Nat → Option α} {Q : α → Prop} (h : c → EvP a Q) (h' : ¬ c → EvP b Q) : EvP (fun n => if c then a n else b n) Q := by
  by_cases hc : c
  · simp only [if_pos hc]; exact h hc
  · simp only [if_neg hc]; exact h' hc
theorem EvP.yes {α : Type} {c : Prop} [Decidable c] {a b : Nat → Option α} {Q : α → Prop} (hc : c) (h : EvP a Q) : EvP (fun n => if c then a n else b n) Q := by
  simp only [if_pos hc]; exact h
theorem EvP.no {α : Type} {c : Prop} [Decidable c] {a b : Nat → Option α} {Q : α → Prop} (hc : ¬ c) (h : EvP b Q) : EvP (fun n => if c then a n else b n) Q := by
  simp only [if_neg hc]; exact h
theorem EvP.step {α : Type} {g : Nat → Option α} {Q : α → Prop} (h : EvP (fun k => g (k + 1)) Q) : EvP g Q := by
  obtain ⟨r, hr, hq⟩ := h
  exact ⟨r, Ev.step (fun _ => rfl) hr, hq⟩
theorem EvP.mono {α : Type} {g : Nat → Option α} {P Q : α → Prop} (h : EvP g P) (hpq : ∀ r, P r → Q r) : EvP g Q := by
  obtain ⟨r, hr, hp⟩ := h
  exact ⟨r, hr, hpq r hp⟩
theorem EvP.rounds {α : Type} {g : Nat → Option α} {r : α} (h : EvP g (fun x => x = r)) : ∃ k, g k = some r := by
  obtain ⟨q, hq, rfl⟩ := h
  exact hq.rounds
theorem w64 {x : Int} (h0 : -9223372036854775808 ≤ x) (h1 : x ≤ 9223372036854775807) : wrap64 x = x := by unfold wrap64; omega
theorem tdiv_pos {a b : Int} (h : 0 ≤ a) : Int.tdiv a b = a / b := Int.tdiv_eq_ediv_of_nonneg h
theorem neSelf (x : Int) : (x != x) = false := by simp
def itemOf (x : S126) : S68 := ⟨x.f0, x.f1⟩
theorem rd68 {l : List S68} {i : Int} (h0 : 0 ≤ i) (h1 : i < (l.length : Int)) : l[i.toNat]? = some (rd_T68 l i) := by
  unfold rd_T68
  rw [List.getD_eq_getElem?_getD, List.getElem?_eq_getElem (by omega)]; rfl
theorem rd126 {l : List S126} {i : Int} (h0 : 0 ≤ i) (h1 : i < (l.length : Int)) : l[i.toNat]? = some (rd_T126 l i) := by
  unfold rd_T126
  rw [List.getD_eq_getElem?_getD, List.getElem?_eq_getElem (by omega)]; rfl
theorem toItem_ok (a b : Int) : EvP (fun _ => laws_toItem.f a b) (fun r => r = (a, b)) := EvP.ret rfl
theorem toItemS_l0 {l : List S126} (hl : (l.length : Int) ≤ 100000000) : ∀ (d : Nat) (out : List S68) (i : Int), 0 ≤ i → i + d = (l.length : Int) → out.length = l.length → (∀ j : Nat, (j : Int) < i → out[j]? = (l[j]?).map itemOf) → EvP (fun k => laws_toItemS.l0 k l out i) (fun r => r = l.map itemOf)
  | 0, out, i, h0, hi, ho, hv => by
    refine EvP.step ?_
    simp only [laws_toItemS.l0]
    refine EvP.no (by omega) (EvP.ret ?_)
    apply List.ext_getElem?
    intro j
    rw [List.getElem?_map]
    by_cases hj : j < l.length
    · exact hv j (by omega)
    · rw [List.getElem?_eq_none (by omega), List.getElem?_eq_none (by omega)]; rfl
  | d + 1, out, i, h0, hi, ho, hv => by
    refine EvP.step ?_
    simp only [laws_toItemS.l0]
    refine EvP.yes (by omega) (EvP.yes h0 (EvP.bind (toItem_ok _ _) ?_))
    rintro _ rfl
    refine EvP.yes (by omega) ?_
    rw [w64 (by omega) (by omega)]
    refine toItemS_l0 hl d _ (i + 1) (by omega) (by omega) (by rw [List.length_set]; exact ho) (fun j hj => ?_)
    rw [List.getElem?_set]
    by_cases e : i.toNat = j
    · rw [if_pos e, if_pos (by omega), ← e, rd126 h0 (by omega)]; rfl
    · rw [if_neg e]; exact hv j (by omega)
theorem toHeap_ok {l : List S126} (hl : (l.length : Int) ≤ 100000000) : EvP (fun k => laws_toHeap.f k l) (fun r => r = l.map itemOf) := by
  unfold laws_toHeap.f laws_toItemS.f
  refine EvP.bind (EvP.yes (by omega) (EvP.yes (by omega) (toItemS_l0 hl l.length _ 0 (by omega) (by omega) (by simp) (fun j hj => by omega)))) ?_
  rintro _ rfl
  exact EvP.ret rfl
theorem eqItem_ok (x y : S68) : EvP (fun _ => laws_eqItem.f x.f0 x.f1 y.f0 y.f1) (fun r => r = true ↔ x = y) := by
  obtain ⟨a, b⟩ := x
  obtain ⟨c, d⟩ := y
  unfold laws_eqItem.f
  simp only [S68.mk.injEq]
  refine EvP.ite (fun h1 => ?_) (fun h => EvP.ret ⟨(fun h => by cases h), fun z => absurd z.1 h⟩)
  exact EvP.ite (fun h2 => EvP.ret ⟨fun _ => ⟨h1, h2⟩, fun _ => rfl⟩) (fun h => EvP.ret ⟨(fun h => by cases h), fun z => absurd z.2 h⟩)
theorem eqItemS_l0 {a b : List S68} (hl : a.length = b.length) (hm : (a.length : Int) ≤ 100000000) : ∀ (d : Nat) (i : Int), 0 ≤ i → i + d = (a.length : Int) → (∀ j : Nat, (j : Int) < i → a[j]? = b[j]?) → EvP (fun k => laws_eqItemS.l0 k a b i) (fun r => r = true ↔ a = b)
  | 0, i, h0, hi, hv => by
    refine EvP.step ?_
    simp only [laws_eqItemS.l0]
    refine EvP.no (by omega) (EvP.ret ⟨fun _ => ?_, fun _ => rfl⟩)
    apply List.ext_getElem?
    intro j
    by_cases hj : j < a.length
    · exact hv j (by omega)
    · rw [List.getElem?_eq_none (by omega), List.getElem?_eq_none (by omega)]
  | d + 1, i, h0, hi, hv => by
    refine EvP.step ?_
    simp only [laws_eqItemS.l0]
    refine EvP.yes (by omega) (EvP.yes h0 (EvP.yes (by omega) (EvP.bind (eqItem_ok (rd_T68 a i) (rd_T68 b i)) (fun t ht => ?_))))
    refine EvP.ite (fun h => ?_) (fun h => EvP.ret ⟨(fun h => by cases h), fun z => absurd (ht.2 (by rw [z])) h⟩)
    rw [w64 (by omega) (by omega)]
    refine eqItemS_l0 hl hm d (i + 1) (by omega) (by omega) (fun j hj => ?_)
    by_cases e : j = i.toNat
    · rw [e, rd68 h0 (by omega), rd68 h0 (by omega), ht.1 h]
    · exact hv j (by omega)
theorem eqHeap_same {l : List S68} (hm : (l.length : Int) ≤ 100000000) : EvP (fun k => laws_eqHeap.f k l l) (fun r => r = true) := by
  unfold laws_eqHeap.f laws_eqItemS.f
  refine EvP.bind (EvP.yes rfl (eqItemS_l0 rfl hm l.length 0 (by omega) (by omega) (fun j hj => by omega))) (fun t ht => ?_)
  exact EvP.yes (ht.2 rfl) (EvP.ret rfl)
theorem szHeap_ok (l : List S126) (hm : l.length ≤ 9223372036854775807) : EvP (fun _ => laws_szHeap.f l 1048576) (fun r => r = -1 ∨ (0 ≤ r ∧ (l.length : Int) ≤ 1048576)) := by
  unfold laws_szHeap.f laws_szItemS.f
  rw [w64 (by omega) (by omega)]
  refine EvP.bind (P := fun r => r = -1 ∨ (0 ≤ r ∧ (l.length : Int) ≤ 1048576)) (EvP.ite (fun h => EvP.ret (.inl rfl)) (fun h => EvP.ret (.inr (by omega)))) (fun t ht => ?_)
  exact EvP.ite (fun h => EvP.ret (.inl rfl)) (fun h => EvP.ret (by omega))
def imk (x : Int) : S68 := ⟨x, x + 1⟩
theorem rdset68 {l : List S68} {i : Int} {v : S68} (h0 : 0 ≤ i) (h1 : i < (l.length : Int)) : rd_T68 (l.set i.toNat v) i = v := by
  unfold rd_T68
  rw [List.getD_eq_getElem?_getD, List.getElem?_set_self (by omega)]; rfl
def MarkedI (l : List S68) (n : Int) : Prop := ∀ j : Nat, (j : Int) < n → l[j]? = some (imk (1 + 2 * (j : Int)))
theorem markItem_l0 {n : Nat} (hn : (n : Int) ≤ 100000000) : ∀ (d : Nat) (l : List S68) (x i : Int), 0 ≤ i → i + d = (n : Int) → l.length = n → x = 1 + 2 * i → MarkedI l i →
    EvP (fun k => laws_markItemS.l0 k l x i) (fun r => r.1 = 1 + 2 * (n : Int) ∧ r.2.length = n ∧ MarkedI r.2 n)
  | 0, l, x, i, h0, hi, hl, hx, hm => by
    refine EvP.step ?_
    simp only [laws_markItemS.l0]
    have e : i = (n : Int) := by omega
    subst e
    exact EvP.no (by omega) (EvP.ret ⟨by omega, hl, hm⟩)
  | d + 1, l, x, i, h0, hi, hl, hx, hm => by
    have h1 : i < (l.length : Int) := by omega
    have e1 : wrap64 (x + 1) = x + 1 := w64 (by omega) (by omega)
    have e2 : wrap64 (x + 1 + 1) = x + 2 := by rw [w64 (by omega) (by omega)]; omega
    have e7 : wrap64 (i + 1) = i + 1 := w64 (by omega) (by omega)
    refine EvP.step ?_
    simp only [laws_markItemS.l0, e1, e2, e7]
    refine EvP.yes h1 (EvP.yes h0 ?_)
    refine EvP.bind (EvP.ret rfl) ?_
    rintro _ rfl
    simp only [rdset68 h0 h1, List.set_set]
    refine markItem_l0 hn d _ (x + 2) (i + 1) (by omega) (by omega) (by rw [List.length_set]; exact hl) (by omega) (fun j hj => ?_)
    rw [List.getElem?_set]
    by_cases e : i.toNat = j
    · rw [if_pos e, if_pos (by omega)]
      have : (j : Int) = i := by omega
      rw [this, ← hx]; rfl
    · rw [if_neg e]; exact hm j (by omega)
theorem markHeap_ok {l : List S68} (hl : (l.length : Int) ≤ 100000000) :
    EvP (fun k => laws_markHeap.f k l 1) (fun r => r.1 = 1 + 2 * (l.length : Int) ∧ r.2.length = l.length ∧ MarkedI r.2 l.length) := by
  unfold laws_markHeap.f laws_markItemS.f
  refine EvP.bind (markItem_l0 hl l.length l 1 0 (by omega) (by omega) rfl (by omega) (fun j hj => by omega)) ?_
  intro r h
  exact EvP.ret h
theorem heldItem_l0 {n : Nat} (hn : (n : Int) ≤ 100000000) {l : List S68} (hl : l.length = n) (hm : MarkedI l n) : ∀ (d : Nat) (x i : Int), 0 ≤ i → i + d = (n : Int) → x = 1 + 2 * i →
    EvP (fun k => laws_heldItemS.l0 k l x i) (fun r => r = 1 + 2 * (n : Int))
  | 0, x, i, h0, hi, hx => by
    refine EvP.step ?_
    simp only [laws_heldItemS.l0]
    exact EvP.no (by omega) (EvP.ret (by omega))
  | d + 1, x, i, h0, hi, hx => by
    have h1 : i < (l.length : Int) := by omega
    have e1 : wrap64 (x + 1) = x + 1 := w64 (by omega) (by omega)
    have e2 : wrap64 (x + 1 + 1) = x + 2 := by rw [w64 (by omega) (by omega)]; omega
    have e7 : wrap64 (i + 1) = i + 1 := w64 (by omega) (by omega)
    have hv : rd_T68 l i = imk x := by
      have := hm i.toNat (by omega)
      rw [rd68 h0 h1] at this
      rw [Option.some.inj this, hx, Int.toNat_of_nonneg h0]
    refine EvP.step ?_
    simp only [laws_heldItemS.l0, e1, e2, e7, hv, imk]
    refine EvP.yes h1 (EvP.yes h0 (EvP.yes (by first | trivial | rfl) (EvP.yes (by first | trivial | rfl) ?_)))
    exact heldItem_l0 hn hl hm d (x + 2) (i + 1) (by omega) (by omega) (by omega)
theorem heldHeap_ok {l : List S68} {n : Nat} (hn : (n : Int) ≤ 100000000) (hl : l.length = n) (hm : MarkedI l n) :
    EvP (fun k => laws_heldHeap.f k l 1) (fun r => r = 1 + 2 * (n : Int)) := by
  unfold laws_heldHeap.f laws_heldItemS.f
  refine EvP.bind (heldItem_l0 hn hl hm n 1 0 (by omega) (by omega) (by omega)) ?_
  rintro _ rfl
  exact EvP.no (by omega) (EvP.ret rfl)
def aheadB (a b : S68) : Bool := decide (a.f0 < b.f0 ∨ (a.f0 = b.f0 ∧ a.f1 < b.f1))
theorem ahead_iff {a b : S68} : aheadB a b = true ↔ (a.f0 < b.f0 ∨ (a.f0 = b.f0 ∧ a.f1 < b.f1)) := by unfold aheadB; rw [decide_eq_true_iff]
theorem ahead_no {a b : S68} : aheadB a b = false ↔ ¬ (a.f0 < b.f0 ∨ (a.f0 = b.f0 ∧ a.f1 < b.f1)) := by unfold aheadB; rw [decide_eq_false_iff_not]
theorem specAhead_ok (a b : S68) : EvP (fun _ => spec_Ahead.f a.f0 a.f1 b.f0 b.f1) (fun r => r = aheadB a b) := by
  unfold spec_Ahead.f
  refine EvP.ite (fun h => EvP.ret ?_) (fun h => EvP.ite (fun h2 => EvP.ret ?_) (fun h2 => EvP.ret ?_))
  · exact (ahead_iff.2 (.inl h)).symm
  · unfold aheadB
    refine decide_eq_decide.2 ⟨fun h3 => .inr ⟨h2, h3⟩, fun h3 => ?_⟩
    rcases h3 with h3 | h3
    · exact absurd h3 h
    · exact h3.2
  · refine (ahead_no.2 ?_).symm
    rintro (h3 | h3)
    · exact h h3
    · exact h2 h3.1
theorem implAhead_ok (a b : S68) : EvP (fun _ => impl_Ahead.f a.f0 a.f1 b.f0 b.f1) (fun r => r = aheadB a b) := by
  unfold impl_Ahead.f
  refine EvP.ite (fun h => EvP.ret ?_) (fun h => EvP.ite (fun h2 => EvP.ret ?_) (fun h2 => EvP.ret ?_))
  · exact (ahead_iff.2 (.inl h)).symm
  · unfold aheadB
    refine decide_eq_decide.2 ⟨fun h3 => .inr ⟨h2, h3⟩, fun h3 => ?_⟩
    rcases h3 with h3 | h3
    · exact absurd h3 h
    · exact h3.2
  · refine (ahead_no.2 ?_).symm
    rintro (h3 | h3)
    · exact h h3
    · exact h2 h3.1
def atI (l : List S68) (id : Int) : Int := idxP (fun x => x.f1 == id) l
theorem atI_in (l : List S68) (id : Int) : -1 ≤ atI l id ∧ atI l id < (l.length : Int) := by
  unfold atI
  induction l with
  | nil => simp [idxP]
  | cons x t ih =>
    rw [idxP]
    simp only [List.length_cons]
    split
    · omega
    · split <;> omega
theorem specAtI_l0 {id : Int} {l : List S68} (hl : (l.length : Int) ≤ 1048576) : ∀ (n : Nat) (i : Int), 0 ≤ i → i + n = (l.length : Int) → (∀ j : Nat, (j : Int) < i → ∀ y, l[j]? = some y → (y.f1 == id) = false) → EvP (fun k => spec_l15At.l0 k l id i) (fun r => r = atI l id)
  | 0, i, h0, hi, hv => by
    refine EvP.step ?_
    simp only [spec_l15At.l0]
    refine EvP.no (by omega) (EvP.ret ?_)
    unfold atI
    rw [idxP_miss l (fun j y hy => by
      by_cases hj : j < l.length
      · exact hv j (by omega) y hy
      · rw [List.getElem?_eq_none (by omega)] at hy; cases hy)]
  | n + 1, i, h0, hi, hv => by
    refine EvP.step ?_
    simp only [spec_l15At.l0]
    have hx := rd68 (l := l) h0 (by omega)
    refine EvP.yes (by omega) (EvP.yes h0 (EvP.ite (fun h => EvP.ret ?_) (fun h => ?_)))
    · unfold atI
      rw [idxP_hit l i.toNat (rd_T68 l i) hx (by simp [h]) (fun j y hj hy => hv j (by omega) y hy)]
      omega
    · rw [w64 (by omega) (by omega)]
      refine specAtI_l0 hl n (i + 1) (by omega) (by omega) (fun j hj y hy => ?_)
      by_cases e : j = i.toNat
      · subst e
        rw [hx] at hy
        cases hy
        simpa using h
      · exact hv j (by omega) y hy
theorem specAtI_ok (id : Int) {l : List S68} (hl : (l.length : Int) ≤ 1048576) : EvP (fun k => spec_l15At.f k l id) (fun r => r = atI l id) := by
  unfold spec_l15At.f
  exact specAtI_l0 hl l.length 0 (by omega) (by omega) (fun j hj => by omega)
theorem implPlace_ok (id : Int) {l : List S68} (hl : (l.length : Int) ≤ 1048576) : EvP (fun _ => impl_Heap_place.f l id) (fun r => r = atI l id) := by
  unfold impl_Heap_place.f
  exact EvP.yes (by omega) (EvP.ret rfl)
def ItemP (x : S68) : Prop := 0 ≤ x.f0 ∧ x.f0 ≤ 1000000000000 ∧ 0 ≤ x.f1 ∧ x.f1 ≤ 9999
theorem specItem_ok (x : S68) : EvP (fun _ => spec_ItemOk.f x.f0 x.f1) (fun r => r = true ↔ ItemP x) := by
  unfold spec_ItemOk.f ItemP
  refine EvP.ite (fun h1 => ?_) (fun h => EvP.ret ⟨(fun h => by cases h), fun z => absurd z.1 h⟩)
  refine EvP.ite (fun h2 => ?_) (fun h => EvP.ret ⟨(fun h => by cases h), fun z => absurd z.2.1 h⟩)
  refine EvP.ite (fun h3 => EvP.ret ?_) (fun h => EvP.ret ⟨(fun h => by cases h), fun z => absurd z.2.2.1 h⟩)
  rw [decide_eq_true_iff]
  exact ⟨fun h => ⟨h1, h2, h3, h⟩, fun h => h.2.2.2⟩
theorem implWithin_ok (a b c : Int) : EvP (fun _ => impl_within.f a b c) (fun r => r = true ↔ b ≤ a ∧ a ≤ c) := by
  unfold impl_within.f
  refine EvP.ite (fun h => EvP.ret ?_) (fun h => EvP.ret ⟨(fun h => by cases h), fun z => absurd z.1 h⟩)
  rw [decide_eq_true_iff]
  exact ⟨fun h2 => ⟨h, h2⟩, fun h2 => h2.2⟩
theorem implItem_ok (x : S68) : EvP (fun _ => impl_ItemOk.f x.f0 x.f1) (fun r => r = true ↔ ItemP x) := by
  unfold impl_ItemOk.f ItemP
  refine EvP.bind (implWithin_ok _ _ _) (fun t ht => EvP.ite (fun h => ?_) (fun h => EvP.ret ⟨(fun h => by cases h), fun z => absurd (ht.2 ⟨z.1, z.2.1⟩) h⟩))
  refine EvP.bind (implWithin_ok _ _ _) (fun u hu => EvP.ret ?_)
  exact ⟨fun g => ⟨(ht.1 h).1, (ht.1 h).2, (hu.1 g).1, (hu.1 g).2⟩, fun g => hu.2 ⟨g.2.2.1, g.2.2.2⟩⟩
theorem parE {i : Int} (h0 : 0 < i) (h1 : i ≤ 100000000) : wrap64 (Int.tdiv (wrap64 (i - 1)) 2) = (i - 1) / 2 := by
  rw [w64 (x := i - 1) (by omega) (by omega), tdiv_pos (by omega), w64 (by omega) (by omega)]
def HeapAt (l : List S68) (j : Int) : Prop := ItemP (rd_T68 l j) ∧ atI l (rd_T68 l j).f1 = j ∧ (0 < j → aheadB (rd_T68 l j) (rd_T68 l ((j - 1) / 2)) = false)
def HeapFrom (l : List S68) (i : Int) : Prop := ∀ j, i ≤ j → j < (l.length : Int) → HeapAt l j
theorem HeapFrom.step {l : List S68} {i : Int} (h : HeapAt l i) : HeapFrom l i ↔ HeapFrom l (i + 1) :=
  ⟨fun g j h0 h1 => g j (by omega) h1, fun g j h0 h1 => by
    by_cases e : j = i
    · rw [e]; exact h
    · exact g j (by omega) h1⟩
def HeapP (l : List S68) : Prop := (l.length : Int) ≤ 64 ∧ HeapFrom l 0
theorem specHeap_l0 {l : List S68} (hl : (l.length : Int) ≤ 1048576) : ∀ (n : Nat) (i : Int), 0 ≤ i → i + n = (l.length : Int) → EvP (fun k => spec_HeapOk.l0 k i l) (fun r => r = true ↔ HeapFrom l i)
  | 0, i, h0, hi => by
    refine EvP.step ?_
    simp only [spec_HeapOk.l0]
    exact EvP.no (by omega) (EvP.ret ⟨fun _ j h1 h2 => by omega, fun _ => rfl⟩)
  | n + 1, i, h0, hi => by
    have h1 : i < (l.length : Int) := by omega
    have ih := specHeap_l0 hl n (i + 1) (by omega) (by omega)
    have hbad : ¬ HeapAt l i → EvP (fun k => spec_HeapOk.j1 k i true l) (fun r => r = true ↔ HeapFrom l i) := fun hn =>
      EvP.step (by simp only [spec_HeapOk.j1]; exact EvP.yes trivial (EvP.ret ⟨(fun h => by cases h), fun g => absurd (g i (by omega) h1) hn⟩))
    have hno : ¬ HeapAt l i → (false = true ↔ HeapFrom l i) := fun hn => ⟨(fun h => by cases h), fun g => absurd (g i (by omega) h1) hn⟩
    refine EvP.step ?_
    simp only [spec_HeapOk.l0]
    refine EvP.yes h1 (EvP.yes h0 (EvP.bind (specItem_ok (rd_T68 l i)) (fun t ht => EvP.ite (fun h => ?_) (fun h => hbad (fun g => h (ht.2 g.1))))))
    refine EvP.bind (specAtI_ok _ hl) ?_
    rintro _ rfl
    by_cases hat : atI l (rd_T68 l i).f1 = i
    · rw [show (atI l (rd_T68 l i).f1 != i) = false by simp [hat]]
      refine EvP.step ?_
      simp only [spec_HeapOk.j1]
      refine EvP.no (by simp) (EvP.ite (fun hp => ?_) (fun hp => ?_))
      · rw [parE hp (by omega), w64 (x := i + 1) (by omega) (by omega)]
        refine EvP.yes h0 (EvP.yes h1 (EvP.yes (by omega) (EvP.yes (by omega) (EvP.bind (specAhead_ok (rd_T68 l i) (rd_T68 l ((i - 1) / 2))) ?_))))
        rintro _ rfl
        refine EvP.ite (fun ha => EvP.ret (hno (fun g => by rw [g.2.2 hp] at ha; cases ha))) (fun ha => ?_)
        refine ih.mono (fun r hr => hr.trans (HeapFrom.step ⟨ht.1 h, hat, fun _ => by simpa using ha⟩).symm)
      · rw [w64 (x := i + 1) (by omega) (by omega)]
        refine ih.mono (fun r hr => hr.trans (HeapFrom.step ⟨ht.1 h, hat, fun g => absurd g hp⟩).symm)
    · rw [show (atI l (rd_T68 l i).f1 != i) = true by simp [hat]]
      exact hbad (fun g => hat g.2.1)
theorem specHeap_ok {l : List S68} (hl : (l.length : Int) ≤ 1048576) : EvP (fun k => spec_HeapOk.f k l) (fun r => r = true ↔ HeapP l) := by
  unfold spec_HeapOk.f HeapP
  refine EvP.ite (fun h => EvP.ret ⟨(fun h => by cases h), fun z => absurd z.1 (by omega)⟩) (fun h => ?_)
  refine (specHeap_l0 hl l.length 0 (by omega) (by omega)).mono (fun r hr => hr.trans ⟨fun g => ⟨by omega, g⟩, fun g => g.2⟩)
theorem implHeap_l0 {l : List S68} (hl : (l.length : Int) ≤ 1048576) : ∀ (n : Nat) (i : Int), 0 ≤ i → i + n = (l.length : Int) → EvP (fun k => impl_HeapOk.l0 k l (l.length : Int) i l) (fun r => r = true ↔ (l.length : Int) ≤ 64 ∧ HeapFrom l i)
  | 0, i, h0, hi => by
    refine EvP.step ?_
    simp only [impl_HeapOk.l0]
    refine EvP.no (by omega) (EvP.ret ?_)
    rw [decide_eq_true_iff]
    exact ⟨fun h => ⟨h, fun j h1 h2 => by omega⟩, fun h => h.1⟩
  | n + 1, i, h0, hi => by
    have h1 : i < (l.length : Int) := by omega
    have ih := implHeap_l0 hl n (i + 1) (by omega) (by omega)
    have hno : ¬ HeapAt l i → (false = true ↔ (l.length : Int) ≤ 64 ∧ HeapFrom l i) := fun hn => ⟨(fun h => by cases h), fun g => absurd (g.2 i (by omega) h1) hn⟩
    refine EvP.step ?_
    simp only [impl_HeapOk.l0]
    refine EvP.yes h1 (EvP.yes h0 (EvP.yes h1 (EvP.bind (implItem_ok (rd_T68 l i)) (fun t ht => EvP.ite (fun h => ?_) (fun h => EvP.ret (hno (fun g => h (ht.2 g.1))))))))
    refine EvP.bind (implPlace_ok _ hl) ?_
    rintro _ rfl
    refine EvP.ite (fun hat => ?_) (fun hat => EvP.ret (hno (fun g => hat g.2.1)))
    rw [w64 (x := i + 1) (by omega) (by omega)]
    refine EvP.ite (fun hp => ?_) (fun hp => ?_)
    · rw [parE hp (by omega)]
      refine EvP.yes (by omega) (EvP.yes (by omega) (EvP.bind (implAhead_ok (rd_T68 l i) (rd_T68 l ((i - 1) / 2))) ?_))
      rintro _ rfl
      refine EvP.ite (fun ha => EvP.ret (hno (fun g => by rw [g.2.2 hp] at ha; cases ha))) (fun ha => ?_)
      refine ih.mono (fun r hr => hr.trans (and_congr Iff.rfl (HeapFrom.step ⟨ht.1 h, hat, fun _ => by simpa using ha⟩).symm))
    · refine ih.mono (fun r hr => hr.trans (and_congr Iff.rfl (HeapFrom.step ⟨ht.1 h, hat, fun g => absurd g hp⟩).symm))
theorem implHeap_ok {l : List S68} (hl : (l.length : Int) ≤ 1048576) : EvP (fun k => impl_HeapOk.f k l) (fun r => r = true ↔ HeapP l) := by
  unfold impl_HeapOk.f HeapP
  exact implHeap_l0 hl l.length 0 (by omega) (by omega)
def swp (l : List S68) (i j : Int) : List S68 := (l.set i.toNat (rd_T68 l j)).set j.toNat (rd_T68 l i)
theorem swp_len (l : List S68) (i j : Int) : (swp l i j).length = l.length := by unfold swp; rw [List.length_set, List.length_set]
theorem specSwap_ok {l : List S68} {i j : Int} (hl : (l.length : Int) ≤ 1048576) (i0 : 0 ≤ i) (i1 : i < (l.length : Int)) (j0 : 0 ≤ j) (j1 : j < (l.length : Int)) : EvP (fun _ => spec_l15Swap.f l i j) (fun r => r = swp l i j) := by
  unfold spec_l15Swap.f
  refine EvP.bind (EvP.ret rfl) ?_
  rintro _ rfl
  refine EvP.yes (by simp only [List.length_nil]; omega) (EvP.bind (EvP.ret rfl) ?_)
  rintro _ rfl
  simp only [List.nil_append]
  exact EvP.yes j0 (EvP.yes j1 (EvP.yes i0 (EvP.yes i1 (EvP.yes i1 (EvP.yes j1 (EvP.ret rfl))))))
theorem no_trans {a b c : S68} (h1 : aheadB a b = false) (h2 : aheadB b c = false) : aheadB a c = false := by
  rw [ahead_no] at *; omega
theorem no_asymm {a b : S68} (h : aheadB a b = true) : aheadB b a = false := by
  rw [ahead_iff] at h; rw [ahead_no]; omega
theorem no_self (a : S68) : aheadB a a = false := by rw [ahead_no]; omega
theorem rd68_set {l : List S68} {i k : Int} {v : S68} (i0 : 0 ≤ i) (i1 : i < (l.length : Int)) (k0 : 0 ≤ k) : rd_T68 (l.set i.toNat v) k = if k = i then v else rd_T68 l k := by
  by_cases e : k = i
  · rw [if_pos e, e]; exact rdset68 i0 i1
  · rw [if_neg e]
    unfold rd_T68
    rw [List.getD_eq_getElem?_getD, List.getD_eq_getElem?_getD, List.getElem?_set, if_neg (by omega)]
theorem rd_swp {l : List S68} {i j k : Int} (i0 : 0 ≤ i) (i1 : i < (l.length : Int)) (j0 : 0 ≤ j) (j1 : j < (l.length : Int)) (k0 : 0 ≤ k) : rd_T68 (swp l i j) k = if k = j then rd_T68 l i else if k = i then rd_T68 l j else rd_T68 l k := by
  unfold swp
  rw [rd68_set j0 (by rw [List.length_set]; exact j1) k0, rd68_set i0 i1 k0]
theorem rd68E {l : List S68} {i : Int} (h0 : 0 ≤ i) (h1 : i < (l.length : Int)) : rd_T68 l i = l[i.toNat]'(by omega) := by
  have := rd68 h0 h1
  rw [List.getElem?_eq_getElem (by omega)] at this
  exact (Option.some.inj this).symm
theorem swp_perm {l : List S68} {i j : Int} (i0 : 0 ≤ i) (i1 : i < (l.length : Int)) (j0 : 0 ≤ j) (j1 : j < (l.length : Int)) : (swp l i j).Perm l := by
  unfold swp
  rw [rd68E i0 i1, rd68E j0 j1]
  exact List.set_set_perm (by omega) (by omega)
def Ord (l : List S68) : Prop := ∀ j : Int, 0 < j → j < (l.length : Int) → aheadB (rd_T68 l j) (rd_T68 l ((j - 1) / 2)) = false
structure OrdX (l : List S68) (i : Int) : Prop where
  off : ∀ j : Int, 0 < j → j < (l.length : Int) → j ≠ i → (j - 1) / 2 ≠ i → aheadB (rd_T68 l j) (rd_T68 l ((j - 1) / 2)) = false
  skip : 0 < i → ∀ j : Int, 0 < j → j < (l.length : Int) → (j - 1) / 2 = i → aheadB (rd_T68 l j) (rd_T68 l ((i - 1) / 2)) = false
def TopP (l : List S68) (i : Int) : Prop := 0 < i → aheadB (rd_T68 l i) (rd_T68 l ((i - 1) / 2)) = false
def KidsP (l : List S68) (i : Int) : Prop := ∀ j : Int, 0 < j → j < (l.length : Int) → (j - 1) / 2 = i → aheadB (rd_T68 l j) (rd_T68 l i) = false
theorem ord_of {l : List S68} {i : Int} (h : OrdX l i) (t : TopP l i) (c : KidsP l i) : Ord l := fun j h0 h1 => by
  by_cases e : j = i
  · subst e; exact t h0
  · by_cases e2 : (j - 1) / 2 = i
    · rw [e2]; exact c j h0 h1 e2
    · exact h.off j h0 h1 e e2
theorem up_step {l : List S68} {i : Int} (h0 : 0 < i) (h1 : i < (l.length : Int)) (h : OrdX l i) (ha : aheadB (rd_T68 l i) (rd_T68 l ((i - 1) / 2)) = true) :
    OrdX (swp l i ((i - 1) / 2)) ((i - 1) / 2) ∧ KidsP (swp l i ((i - 1) / 2)) ((i - 1) / 2) := by
  have q0 : 0 ≤ (i - 1) / 2 := by omega
  have q1 : (i - 1) / 2 < (l.length : Int) := by omega
  have R : ∀ k, 0 ≤ k → rd_T68 (swp l i ((i - 1) / 2)) k = if k = (i - 1) / 2 then rd_T68 l i else if k = i then rd_T68 l ((i - 1) / 2) else rd_T68 l k := fun k hk => rd_swp (by omega) h1 q0 q1 hk
  refine ⟨⟨fun j j0 j1 jn pn => ?_, fun g j j0 j1 pj => ?_⟩, fun j j0 j1 pj => ?_⟩
  · rw [swp_len] at j1
    rw [R j (by omega), R ((j - 1) / 2) (by omega), if_neg jn, if_neg pn]
    by_cases e : j = i
    · subst e; exact absurd rfl pn
    · rw [if_neg e]
      by_cases e2 : (j - 1) / 2 = i
      · rw [if_pos e2]; exact h.skip h0 j j0 j1 e2
      · rw [if_neg e2]; exact h.off j j0 j1 e e2
  · rw [swp_len] at j1
    rw [R j (by omega), R (((i - 1) / 2 - 1) / 2) (by omega), if_neg (by omega), if_neg (show ¬ ((i - 1) / 2 - 1) / 2 = (i - 1) / 2 by omega), if_neg (show ¬ ((i - 1) / 2 - 1) / 2 = i by omega)]
    have hq := h.off ((i - 1) / 2) g q1 (by omega) (by omega)
    by_cases e : j = i
    · rw [if_pos e]; exact hq
    · rw [if_neg e]
      have := h.off j j0 j1 e (by omega)
      rw [pj] at this
      exact no_trans this hq
  · rw [swp_len] at j1
    rw [R j (by omega), R ((i - 1) / 2) q0, if_neg (by omega), if_pos rfl]
    by_cases e : j = i
    · rw [if_pos e]; exact no_asymm ha
    · rw [if_neg e]
      have := h.off j j0 j1 e (by omega)
      rw [pj] at this
      exact no_trans this (no_asymm ha)
/-- up: both come to the same -/
theorem up_ok : ∀ (n : Nat) (l : List S68) (i : Int), (l.length : Int) ≤ 1048576 → 0 ≤ i → i ≤ n → i < (l.length : Int) → ∃ r : List S68 × Int, r.1.length = l.length ∧ 0 ≤ r.2 ∧ r.2 < (l.length : Int) ∧
    EvP (fun k => spec_l15Up.f k l i) (fun x => x = r) ∧ EvP (fun k => impl_Heap_up.l0 k i l) (fun x => x = (r.2, r.1)) ∧ r.1.Perm l ∧ (OrdX l i → OrdX r.1 r.2 ∧ TopP r.1 r.2) ∧ (OrdX l i → KidsP l i → Ord r.1)
  | 0, l, i, hl, h0, hn, h1 => by
    have e : i = 0 := by omega
    have ht : TopP l i := fun g => by omega
    refine ⟨(l, i), rfl, h0, h1, ?_, ?_, .refl _, fun h => ⟨h, ht⟩, fun h c => ord_of h ht c⟩
    · refine EvP.step ?_
      simp only [spec_l15Up.f]
      refine EvP.yes e (EvP.step ?_)
      simp only [spec_l15Up.j0]
      exact EvP.yes trivial (EvP.ret rfl)
    · refine EvP.step ?_
      simp only [impl_Heap_up.l0]
      exact EvP.no (by omega) (EvP.ret rfl)
  | n + 1, l, i, hl, h0, hn, h1 => by
    by_cases e : i = 0
    · have ht : TopP l i := fun g => by omega
      refine ⟨(l, i), rfl, h0, h1, ?_, ?_, .refl _, fun h => ⟨h, ht⟩, fun h c => ord_of h ht c⟩
      · refine EvP.step ?_
        simp only [spec_l15Up.f]
        refine EvP.yes e (EvP.step ?_)
        simp only [spec_l15Up.j0]
        exact EvP.yes trivial (EvP.ret rfl)
      · refine EvP.step ?_
        simp only [impl_Heap_up.l0]
        exact EvP.no (by omega) (EvP.ret rfl)
    · have hp := parE (i := i) (by omega) (by omega)
      have q0 : 0 ≤ (i - 1) / 2 := by omega
      have q1 : (i - 1) / 2 < (l.length : Int) := by omega
      by_cases ha : aheadB (rd_T68 l i) (rd_T68 l ((i - 1) / 2)) = true
      · obtain ⟨r, r1, r2, r3, hs, hm, hpm, hox, hor⟩ := up_ok n (swp l i ((i - 1) / 2)) ((i - 1) / 2) (by rw [swp_len]; exact hl) q0 (by omega) (by rw [swp_len]; exact q1)
        rw [swp_len] at r1 r3
        have hst := fun h => up_step (l := l) (i := i) (by omega) h1 h ha
        refine ⟨r, r1, r2, r3, ?_, ?_, hpm.trans (swp_perm h0 h1 q0 q1), fun h => hox (hst h).1, fun h _ => hor (hst h).1 (hst h).2⟩
        · refine EvP.step ?_
          simp only [spec_l15Up.f, hp]
          refine EvP.no e (EvP.yes h0 (EvP.yes h1 (EvP.yes q0 (EvP.yes q1 (EvP.bind (specAhead_ok _ _) ?_)))))
          rintro _ rfl
          rw [ha]
          refine EvP.step ?_
          simp only [spec_l15Up.j0, hp]
          refine EvP.no (by simp) (EvP.bind (specSwap_ok hl h0 h1 q0 q1) ?_)
          rintro _ rfl
          refine EvP.bind hs ?_
          rintro _ rfl
          exact EvP.ret rfl
        · refine EvP.step ?_
          simp only [impl_Heap_up.l0, hp]
          refine EvP.yes (by omega) (EvP.yes h0 (EvP.yes h1 (EvP.yes q0 (EvP.yes q1 (EvP.bind (implAhead_ok _ _) ?_)))))
          rintro _ rfl
          exact EvP.yes ha hm
      · have hf : aheadB (rd_T68 l i) (rd_T68 l ((i - 1) / 2)) = false := by simpa using ha
        refine ⟨(l, i), rfl, h0, h1, ?_, ?_, .refl _, fun h => ⟨h, fun _ => hf⟩, fun h c => ord_of h (fun _ => hf) c⟩
        · refine EvP.step ?_
          simp only [spec_l15Up.f, hp]
          refine EvP.no e (EvP.yes h0 (EvP.yes h1 (EvP.yes q0 (EvP.yes q1 (EvP.bind (specAhead_ok _ _) ?_)))))
          rintro _ rfl
          rw [hf]
          refine EvP.step ?_
          simp only [spec_l15Up.j0]
          exact EvP.yes rfl (EvP.ret rfl)
        · refine EvP.step ?_
          simp only [impl_Heap_up.l0, hp]
          refine EvP.yes (by omega) (EvP.yes h0 (EvP.yes h1 (EvP.yes q0 (EvP.yes q1 (EvP.bind (implAhead_ok _ _) ?_)))))
          rintro _ rfl
          exact EvP.no ha (EvP.ret rfl)
/-- the child that is moved up, or the place itself -/
def bestOf (l : List S68) (i : Int) : Int :=
  if 2 * i + 1 < (l.length : Int) then
    if 2 * i + 2 < (l.length : Int) then
      if aheadB (rd_T68 l (2 * i + 1)) (rd_T68 l i) then (if aheadB (rd_T68 l (2 * i + 2)) (rd_T68 l (2 * i + 1)) then 2 * i + 2 else 2 * i + 1)
      else (if aheadB (rd_T68 l (2 * i + 2)) (rd_T68 l i) then 2 * i + 2 else i)
    else (if aheadB (rd_T68 l (2 * i + 1)) (rd_T68 l i) then 2 * i + 1 else i)
  else i
theorem bestOf_in {l : List S68} {i : Int} (h0 : 0 ≤ i) (h1 : i < (l.length : Int)) : bestOf l i = i ∨ (i < bestOf l i ∧ bestOf l i < (l.length : Int)) := by
  unfold bestOf
  split
  · split
    · split
      · split <;> omega
      · split <;> omega
    · split <;> omega
  · exact .inl rfl
theorem bestOf_kids {l : List S68} {i : Int} (h0 : 0 ≤ i) (e : bestOf l i = i) : KidsP l i := by
  intro j j0 j1 pj
  have hj : j = 2 * i + 1 ∨ j = 2 * i + 2 := by omega
  unfold bestOf at e
  have nf : ∀ {a b : S68}, ¬ aheadB a b = true → aheadB a b = false := fun h => by simpa using h
  rcases hj with rfl | rfl
  · rw [if_pos j1] at e
    split at e
    · split at e
      · split at e <;> omega
      · rename_i h1 h2
        exact nf h2
    · split at e
      · omega
      · rename_i h1 h2
        exact nf h2
  · rw [if_pos (by omega), if_pos j1] at e
    split at e
    · split at e <;> omega
    · split at e
      · omega
      · rename_i h1 h2
        exact nf h2
theorem bestOf_step {l : List S68} {i : Int} (h0 : 0 ≤ i) (e : bestOf l i ≠ i) : (bestOf l i - 1) / 2 = i ∧ aheadB (rd_T68 l (bestOf l i)) (rd_T68 l i) = true ∧
    (∀ j : Int, 0 < j → j < (l.length : Int) → (j - 1) / 2 = i → aheadB (rd_T68 l j) (rd_T68 l (bestOf l i)) = false) := by
  have nf : ∀ {a b : S68}, ¬ aheadB a b = true → aheadB a b = false := fun h => by simpa using h
  have hj : ∀ j : Int, 0 < j → (j - 1) / 2 = i → j = 2 * i + 1 ∨ j = 2 * i + 2 := fun j j0 pj => by omega
  unfold bestOf at e ⊢
  split
  · rename_i c1
    rw [if_pos c1] at e
    split
    · rename_i c2
      rw [if_pos c2] at e
      split
      · rename_i a1
        rw [if_pos a1] at e
        split
        · rename_i a2
          refine ⟨by omega, ?_, fun j j0 j1 pj => ?_⟩
          · rw [ahead_iff] at *; omega
          · rcases hj j j0 pj with rfl | rfl
            · exact no_asymm a2
            · exact no_self _
        · rename_i a2
          refine ⟨by omega, a1, fun j j0 j1 pj => ?_⟩
          rcases hj j j0 pj with rfl | rfl
          · exact no_self _
          · exact nf a2
      · rename_i a1
        rw [if_neg a1] at e
        split
        · rename_i a2
          refine ⟨by omega, a2, fun j j0 j1 pj => ?_⟩
          rcases hj j j0 pj with rfl | rfl
          · exact no_trans (nf a1) (no_asymm a2)
          · exact no_self _
        · rename_i a2
          rw [if_neg a2] at e
          exact absurd rfl e
    · rename_i c2
      rw [if_neg c2] at e
      split
      · rename_i a1
        refine ⟨by omega, a1, fun j j0 j1 pj => ?_⟩
        rcases hj j j0 pj with rfl | rfl
        · exact no_self _
        · exact absurd j1 c2
      · rename_i a1
        rw [if_neg a1] at e
        exact absurd rfl e
  · rename_i c1
    rw [if_neg c1] at e
    exact absurd rfl e
theorem down_step {l : List S68} {i : Int} (h0 : 0 ≤ i) (h1 : i < (l.length : Int)) (e : bestOf l i ≠ i) (h : OrdX l i) (t : TopP l i) : OrdX (swp l i (bestOf l i)) (bestOf l i) ∧ TopP (swp l i (bestOf l i)) (bestOf l i) := by
  obtain ⟨b0, b1, b2⟩ := bestOf_step h0 e
  have hin := bestOf_in h0 h1
  generalize bestOf l i = c at *
  have c0 : i < c := by omega
  have c1 : c < (l.length : Int) := by omega
  have R : ∀ k, 0 ≤ k → rd_T68 (swp l i c) k = if k = c then rd_T68 l i else if k = i then rd_T68 l c else rd_T68 l k := fun k hk => rd_swp h0 h1 (by omega) c1 hk
  refine ⟨⟨fun j j0 j1 jn pn => ?_, fun g j j0 j1 pj => ?_⟩, fun g => ?_⟩
  · rw [swp_len] at j1
    rw [R j (by omega), R ((j - 1) / 2) (by omega), if_neg jn, if_neg pn]
    by_cases ei : j = i
    · rw [if_pos ei, if_neg (by omega)]
      rw [ei]
      exact h.skip (by omega) c (by omega) c1 b0
    · rw [if_neg ei]
      by_cases ep : (j - 1) / 2 = i
      · rw [if_pos ep]; exact b2 j j0 j1 ep
      · rw [if_neg ep]; exact h.off j j0 j1 ei ep
  · rw [swp_len] at j1
    rw [R j (by omega), R ((c - 1) / 2) (by omega), b0, if_neg (by omega), if_neg (show ¬ j = i by omega), if_neg (by omega), if_pos rfl]
    have := h.off j j0 j1 (by omega) (by omega)
    rw [pj] at this
    exact this
  · rw [R c (by omega), R ((c - 1) / 2) (by omega), b0, if_pos rfl, if_neg (by omega), if_pos rfl]
    exact no_asymm b1
theorem specDown_best {l : List S68} {i : Int} (hl : (l.length : Int) ≤ 1048576) (h0 : 0 ≤ i) (h1 : i < (l.length : Int)) {Q : List S68 → Prop}
    (h : EvP (fun k => if bestOf l i = i then some l else (spec_l15Swap.f l i (bestOf l i)).bind fun t => (spec_l15Down.f k t (bestOf l i)).bind fun u => some u) Q) : EvP (fun k => spec_l15Down.f k l i) Q := by
  have a1 : wrap64 (wrap64 (2 * i) + 1) = 2 * i + 1 := by rw [w64 (x := 2 * i) (by omega) (by omega), w64 (by omega) (by omega)]
  have a2 : wrap64 (wrap64 (2 * i) + 2) = 2 * i + 2 := by rw [w64 (x := 2 * i) (by omega) (by omega), w64 (by omega) (by omega)]
  have a3 : wrap64 (2 * i + 1 + 1) = 2 * i + 2 := by rw [w64 (by omega) (by omega)]; omega
  have a4 : wrap64 (2 * i + 2 + 1) = 2 * i + 3 := by rw [w64 (by omega) (by omega)]; omega
  have fin : ∀ (b x : Int), b = bestOf l i → EvP (fun k => spec_l15Down.j1 k l i b x false) Q := fun b x hb => by
    refine EvP.step ?_
    simp only [spec_l15Down.j1]
    rw [hb]
    exact EvP.no (by simp) h
  have last : ∀ b, b = bestOf l i → EvP (fun k => spec_l15Down.l0 k l i b (2 * i + 3)) Q := fun b hb => by
    refine EvP.step ?_
    simp only [spec_l15Down.l0, a2]
    exact EvP.no (by omega) (fin b _ hb)
  have two : ∀ b, (0 ≤ b ∧ b < (l.length : Int)) → (if 2 * i + 2 < (l.length : Int) then (if aheadB (rd_T68 l (2 * i + 2)) (rd_T68 l b) then 2 * i + 2 else b) else b) = bestOf l i → EvP (fun k => spec_l15Down.l0 k l i b (2 * i + 2)) Q := fun b hb0 hb => by
    refine EvP.step ?_
    simp only [spec_l15Down.l0, a2]
    refine EvP.yes (by omega) ?_
    by_cases h2 : 2 * i + 2 < (l.length : Int)
    · rw [if_pos h2] at hb
      rw [decide_eq_true h2]
      refine EvP.step ?_
      simp only [spec_l15Down.j1, a4]
      refine EvP.yes trivial (EvP.yes (by omega) (EvP.yes h2 (EvP.yes hb0.1 (EvP.yes hb0.2 (EvP.bind (specAhead_ok _ _) ?_)))))
      rintro _ rfl
      refine EvP.ite (fun ha => last _ ?_) (fun ha => last _ ?_)
      · rw [if_pos ha] at hb; exact hb
      · rw [if_neg ha] at hb; exact hb
    · rw [if_neg h2] at hb
      rw [decide_eq_false h2]
      exact fin b _ hb
  refine EvP.step ?_
  simp only [spec_l15Down.f, a1]
  refine EvP.step ?_
  simp only [spec_l15Down.l0, a2]
  refine EvP.yes (by omega) ?_
  by_cases hc : 2 * i + 1 < (l.length : Int)
  · rw [decide_eq_true hc]
    refine EvP.step ?_
    simp only [spec_l15Down.j1, a3]
    refine EvP.yes trivial (EvP.yes (by omega) (EvP.yes hc (EvP.yes h0 (EvP.yes h1 (EvP.bind (specAhead_ok _ _) ?_)))))
    rintro _ rfl
    refine EvP.ite (fun ha => two _ ⟨by omega, hc⟩ ?_) (fun ha => two _ ⟨h0, h1⟩ ?_)
    · unfold bestOf
      rw [if_pos hc, if_pos ha, if_pos ha]
    · unfold bestOf
      rw [if_pos hc, if_neg ha, if_neg ha]
  · rw [decide_eq_false hc]
    refine fin i _ ?_
    unfold bestOf
    rw [if_neg hc]
theorem implDown_best {l : List S68} {i : Int} (hl : (l.length : Int) ≤ 1048576) (h0 : 0 ≤ i) (h1 : i < (l.length : Int)) {Q : List S68 → Prop}
    (h : EvP (fun k => if bestOf l i = i then some l else impl_Heap_down.l0 k (bestOf l i) (swp l i (bestOf l i))) Q) : EvP (fun k => impl_Heap_down.l0 k i l) Q := by
  have a1 : wrap64 (wrap64 (2 * i) + 1) = 2 * i + 1 := by rw [w64 (x := 2 * i) (by omega) (by omega), w64 (by omega) (by omega)]
  have a3 : wrap64 (2 * i + 1 + 1) = 2 * i + 2 := by rw [w64 (by omega) (by omega)]; omega
  have lt1 : 2 * i + 1 ≠ i := by omega
  have lt2 : 2 * i + 2 ≠ i := by omega
  have go : ∀ b, b ≠ i → bestOf l i = b → EvP (fun k => impl_Heap_down.l0 k b (swp l i b)) Q := fun b hb e => by
    rw [e] at h
    obtain ⟨r, hr, hq⟩ := h
    refine ⟨r, ?_, hq⟩
    simpa only [if_neg hb] using hr
  have stay : bestOf l i = i → EvP (fun _ => some l) Q := fun e => by
    obtain ⟨r, hr, hq⟩ := h
    refine ⟨r, ?_, hq⟩
    simpa only [if_pos e] using hr
  refine EvP.step ?_
  simp only [impl_Heap_down.l0, a1, a3]
  by_cases h2 : 2 * i + 2 < (l.length : Int)
  · refine EvP.yes h2 (EvP.yes (by omega) (EvP.yes (by omega) (EvP.yes (by omega) (EvP.bind (implAhead_ok _ _) ?_))))
    rintro _ rfl
    refine EvP.step ?_
    simp only [impl_Heap_down.j1, a3]
    have hb : bestOf l i = if aheadB (rd_T68 l (2 * i + 2)) (rd_T68 l (2 * i + 1)) then (if aheadB (rd_T68 l (2 * i + 2)) (rd_T68 l i) then 2 * i + 2 else i) else (if aheadB (rd_T68 l (2 * i + 1)) (rd_T68 l i) then 2 * i + 1 else i) := by
      unfold bestOf
      rw [if_pos (show 2 * i + 1 < (l.length : Int) by omega), if_pos h2]
      have t1 : aheadB (rd_T68 l (2 * i + 2)) (rd_T68 l (2 * i + 1)) = true → aheadB (rd_T68 l (2 * i + 1)) (rd_T68 l i) = true → aheadB (rd_T68 l (2 * i + 2)) (rd_T68 l i) = true := by
        rw [ahead_iff, ahead_iff, ahead_iff]; omega
      have t2 : ¬ aheadB (rd_T68 l (2 * i + 1)) (rd_T68 l i) = true → aheadB (rd_T68 l (2 * i + 2)) (rd_T68 l i) = true → aheadB (rd_T68 l (2 * i + 2)) (rd_T68 l (2 * i + 1)) = true := by
        rw [ahead_iff, ahead_iff, ahead_iff]; omega
      by_cases u1 : aheadB (rd_T68 l (2 * i + 1)) (rd_T68 l i) = true
      · by_cases u2 : aheadB (rd_T68 l (2 * i + 2)) (rd_T68 l (2 * i + 1)) = true
        · rw [if_pos u1, if_pos u2, if_pos u2, if_pos (t1 u2 u1)]
        · rw [if_pos u1, if_neg u2, if_neg u2, if_pos u1]
      · by_cases u3 : aheadB (rd_T68 l (2 * i + 2)) (rd_T68 l i) = true
        · rw [if_neg u1, if_pos u3, if_pos (t2 u1 u3)]
        · rw [if_neg u1, if_neg u3]
          split
          · rfl
          · rfl
    refine EvP.ite (fun hu => ?_) (fun hu => ?_)
    · rw [if_pos hu] at hb
      refine EvP.no (by omega) (EvP.yes (by omega) (EvP.yes h2 (EvP.yes h0 (EvP.yes h1 (EvP.bind (implAhead_ok _ _) ?_)))))
      rintro _ rfl
      refine EvP.ite (fun hv => ?_) (fun hv => ?_)
      · rw [if_pos hv] at hb
        exact go _ lt2 hb
      · rw [if_neg hv] at hb
        exact stay hb
    · rw [if_neg hu] at hb
      refine EvP.no (by omega) (EvP.yes (by omega) (EvP.yes (by omega) (EvP.yes h0 (EvP.yes h1 (EvP.bind (implAhead_ok _ _) ?_)))))
      rintro _ rfl
      refine EvP.ite (fun hv => ?_) (fun hv => ?_)
      · rw [if_pos hv] at hb
        exact go _ lt1 hb
      · rw [if_neg hv] at hb
        exact stay hb
  · refine EvP.no h2 (EvP.step ?_)
    simp only [impl_Heap_down.j1]
    refine EvP.no (by simp) (EvP.ite (fun h3 => stay ?_) (fun h3 => ?_))
    · unfold bestOf
      rw [if_neg (by omega)]
    · have hb : bestOf l i = if aheadB (rd_T68 l (2 * i + 1)) (rd_T68 l i) then 2 * i + 1 else i := by
        unfold bestOf
        rw [if_pos (by omega), if_neg h2]
      refine EvP.yes (by omega) (EvP.yes (by omega) (EvP.yes h0 (EvP.yes h1 (EvP.bind (implAhead_ok _ _) ?_))))
      rintro _ rfl
      refine EvP.ite (fun hv => ?_) (fun hv => ?_)
      · rw [if_pos hv] at hb
        exact go _ lt1 hb
      · rw [if_neg hv] at hb
        exact stay hb
/-- down: both come to the same -/
theorem down_ok : ∀ (n : Nat) (l : List S68) (i : Int), (l.length : Int) ≤ 1048576 → 0 ≤ i → i < (l.length : Int) → (l.length : Int) - i ≤ n → ∃ r : List S68, r.length = l.length ∧
    EvP (fun k => spec_l15Down.f k l i) (fun x => x = r) ∧ EvP (fun k => impl_Heap_down.l0 k i l) (fun x => x = r) ∧ r.Perm l ∧ (OrdX l i → TopP l i → Ord r)
  | 0, l, i, hl, h0, h1, hn => by omega
  | n + 1, l, i, hl, h0, h1, hn => by
    by_cases e : bestOf l i = i
    · refine ⟨l, rfl, specDown_best hl h0 h1 (EvP.yes e (EvP.ret rfl)), implDown_best hl h0 h1 (EvP.yes e (EvP.ret rfl)), .refl _, fun h t => ord_of h t (bestOf_kids h0 e)⟩
    · have hb := bestOf_in h0 h1
      obtain ⟨r, r1, hs, hm, hpm, hor⟩ := down_ok n (swp l i (bestOf l i)) (bestOf l i) (by rw [swp_len]; exact hl) (by omega) (by rw [swp_len]; omega) (by rw [swp_len]; omega)
      rw [swp_len] at r1
      have hst := fun h t => down_step (l := l) (i := i) h0 h1 e h t
      refine ⟨r, r1, specDown_best hl h0 h1 (EvP.no e ?_), implDown_best hl h0 h1 (EvP.no e hm), hpm.trans (swp_perm h0 h1 (by omega) (by omega)), fun h t => hor (hst h t).1 (hst h t).2⟩
      refine EvP.bind (specSwap_ok hl h0 h1 (by omega) (by omega)) ?_
      rintro _ rfl
      refine EvP.bind hs ?_
      rintro _ rfl
      exact EvP.ret rfl
theorem set_perm_erase {l : List S68} {p : Nat} {v : S68} (h : p < l.length) : (l.set p v).Perm (v :: l.eraseIdx p) := by
  rw [List.set_eq_take_append_cons_drop, if_pos h, List.eraseIdx_eq_take_drop_succ]
  exact List.perm_middle
theorem ord_set {l : List S68} {p : Int} {v : S68} (h : Ord l) (h0 : 0 ≤ p) (h1 : p < (l.length : Int)) : OrdX (l.set p.toNat v) p := by
  refine ⟨fun j j0 j1 jn pn => ?_, fun g j j0 j1 pj => ?_⟩
  · rw [List.length_set] at j1
    rw [rd68_set h0 h1 (by omega), rd68_set h0 h1 (by omega), if_neg jn, if_neg pn]
    exact h j j0 j1
  · rw [List.length_set] at j1
    rw [rd68_set h0 h1 (by omega), rd68_set h0 h1 (by omega), if_neg (by omega), if_neg (by omega)]
    have a := h j j0 j1
    rw [pj] at a
    exact no_trans a (h p g h1)
theorem rd68_take {l : List S68} {n : Nat} {k : Int} (k0 : 0 ≤ k) (k1 : k < (n : Int)) : rd_T68 (l.take n) k = rd_T68 l k := by
  unfold rd_T68
  rw [List.getD_eq_getElem?_getD, List.getD_eq_getElem?_getD, List.getElem?_take, if_pos (by omega)]
theorem ord_take {l : List S68} (h : Ord l) (n : Nat) : Ord (l.take n) := fun j j0 j1 => by
  rw [List.length_take] at j1
  rw [rd68_take (by omega) (by omega), rd68_take (by omega) (by omega)]
  exact h j j0 (by omega)
theorem implItems_ok {l : List S68} (hl : (l.length : Int) ≤ 1048576) : EvP (fun _ => impl_copyHeap.f l) (fun r => r = l) := by
  unfold impl_copyHeap.f impl_Item_65.f
  refine EvP.bind (P := fun r => r = l) (EvP.bind (EvP.ret rfl) ?_) ?_
  · rintro _ rfl
    exact EvP.yes (by simp only [List.length_nil]; omega) (EvP.ret (List.nil_append l))
  · rintro _ rfl
    exact EvP.ret rfl
/-- what is left without the item at p -/
theorem out_ok {l : List S68} {p : Int} (hl : (l.length : Int) ≤ 1048576) (h0 : 0 ≤ p) (h1 : p < (l.length : Int)) : ∃ r : List S68, (r.length : Int) + 1 = (l.length : Int) ∧
    EvP (fun k => spec_l15Out.f k l p) (fun x => x = r) ∧ EvP (fun k => impl_Heap_remove.f k l p) (fun x => x = r) ∧ r.Perm (l.eraseIdx p.toNat) ∧ (Ord l → Ord r) := by
  have e : wrap64 ((l.length : Int) - 1) = (l.length : Int) - 1 := w64 (by omega) (by omega)
  have ht : ((l.take ((l.length : Int) - 1).toNat).length : Int) = (l.length : Int) - 1 := by rw [List.length_take]; omega
  by_cases hp : p = (l.length : Int) - 1
  · refine ⟨l.take ((l.length : Int) - 1).toNat, by omega, ?_, ?_, ?_, fun h => ord_take h _⟩
    · unfold spec_l15Out.f
      simp only [e]
      refine EvP.bind (EvP.ret rfl) ?_
      rintro _ rfl
      refine EvP.yes (by omega) (EvP.yes (by omega) (EvP.bind (EvP.ret rfl) ?_))
      rintro _ rfl
      refine EvP.yes (by simp only [List.length_nil]; omega) (EvP.bind (EvP.ret rfl) ?_)
      rintro _ rfl
      exact EvP.yes hp (EvP.ret (List.nil_append _))
    · unfold impl_Heap_remove.f
      simp only [e]
      refine EvP.yes (by omega) (EvP.yes (by omega) (EvP.yes (by omega) (EvP.bind (EvP.ret rfl) ?_)))
      rintro _ rfl
      exact EvP.no (by omega) (EvP.ret rfl)
    · rw [← hp, List.eraseIdx_eq_take_drop_succ, List.drop_of_length_le (by omega), List.append_nil]
  · have hs : (((l.take ((l.length : Int) - 1).toNat).set p.toNat (rd_T68 l ((l.length : Int) - 1))).length : Int) = (l.length : Int) - 1 := by rw [List.length_set]; exact ht
    obtain ⟨u, u1, u2, u3, us, um, up, uo, _⟩ := up_ok p.toNat ((l.take ((l.length : Int) - 1).toNat).set p.toNat (rd_T68 l ((l.length : Int) - 1))) p (by omega) h0 (by omega) (by omega)
    obtain ⟨r, r1, rs, rm, rp, ro⟩ := down_ok u.1.length u.1 u.2 (by omega) u2 (by omega) (by omega)
    refine ⟨r, by omega, ?_, ?_, ?_, fun h => ?_⟩
    · unfold spec_l15Out.f
      simp only [e]
      refine EvP.bind (EvP.ret rfl) ?_
      rintro _ rfl
      refine EvP.yes (by omega) (EvP.yes (by omega) (EvP.bind (EvP.ret rfl) ?_))
      rintro _ rfl
      refine EvP.yes (by simp only [List.length_nil]; omega) (EvP.bind (EvP.ret rfl) ?_)
      rintro _ rfl
      simp only [List.nil_append]
      refine EvP.no hp (EvP.yes (by omega) (EvP.yes h0 (EvP.yes (by omega) (EvP.bind us ?_))))
      rintro _ rfl
      refine EvP.bind rs ?_
      rintro _ rfl
      exact EvP.ret rfl
    · unfold impl_Heap_remove.f
      simp only [e]
      refine EvP.yes (by omega) (EvP.yes (by omega) (EvP.yes (by omega) (EvP.bind (EvP.ret rfl) ?_)))
      rintro _ rfl
      refine EvP.yes (by omega) (EvP.yes h0 (EvP.yes (by omega) ?_))
      unfold impl_Heap_up.f impl_Heap_down.f
      refine EvP.bind um ?_
      rintro _ rfl
      refine EvP.bind rm ?_
      rintro _ rfl
      exact EvP.ret rfl
    · refine (rp.trans up).trans ((set_perm_erase (by omega)).trans ?_)
      have hlast : l = l.take ((l.length : Int) - 1).toNat ++ [rd_T68 l ((l.length : Int) - 1)] := by
        have hd := List.take_append_drop ((l.length : Int) - 1).toNat l
        rw [List.drop_eq_getElem_cons (by omega), List.drop_of_length_le (by omega), ← rd68E (by omega) (by omega)] at hd
        exact hd.symm
      have he : l.eraseIdx p.toNat = (l.take ((l.length : Int) - 1).toNat).eraseIdx p.toNat ++ [rd_T68 l ((l.length : Int) - 1)] := by
        conv => lhs; rw [hlast]
        rw [List.eraseIdx_append_of_lt_length (by omega)]
      rw [he]
      exact (List.perm_append_comm (l₁ := [rd_T68 l ((l.length : Int) - 1)])).trans (.refl _)
    · have hx := uo (ord_set (ord_take h _) h0 (by omega))
      exact ro hx.1 hx.2

theorem drop_ok (id : Int) {l : List S68} (hl : (l.length : Int) ≤ 1048576) : ∃ R : List S68 × Int, (R.1.length : Int) ≤ 1048576 ∧
    EvP (fun k => spec_HeapDrop.f k l id) (fun r => r = R) ∧ EvP (fun k => impl_HeapDrop.f k l id) (fun r => r = R) := by
  have hin := atI_in l id
  by_cases hF : HeapP l
  · by_cases hneg : atI l id < 0
    · refine ⟨([], 4), by simp, ?_, ?_⟩
      · unfold spec_HeapDrop.f
        refine EvP.bind (specHeap_ok hl) (fun t ht => EvP.yes (ht.2 hF) (EvP.bind (specAtI_ok id hl) ?_))
        rintro _ rfl
        exact EvP.yes hneg (EvP.ret rfl)
      · unfold impl_HeapDrop.f
        refine EvP.bind (implPlace_ok id hl) ?_
        rintro _ rfl
        exact EvP.bind (implHeap_ok hl) (fun t ht => EvP.yes (ht.2 hF) (EvP.yes hneg (EvP.ret rfl)))
    · obtain ⟨r, r1, rs, rm, _, _⟩ := out_ok hl (show 0 ≤ atI l id by omega) hin.2
      refine ⟨(r, 0), by dsimp only; omega, ?_, ?_⟩
      · unfold spec_HeapDrop.f
        refine EvP.bind (specHeap_ok hl) (fun t ht => EvP.yes (ht.2 hF) (EvP.bind (specAtI_ok id hl) ?_))
        rintro _ rfl
        refine EvP.no hneg (EvP.bind rs ?_)
        rintro _ rfl
        exact EvP.ret rfl
      · unfold impl_HeapDrop.f
        refine EvP.bind (implPlace_ok id hl) ?_
        rintro _ rfl
        refine EvP.bind (implHeap_ok hl) (fun t ht => EvP.yes (ht.2 hF) (EvP.no hneg (EvP.bind (implItems_ok hl) ?_)))
        rintro _ rfl
        refine EvP.bind rm ?_
        rintro _ rfl
        exact EvP.ret rfl
  · refine ⟨([], 1), by simp, ?_, ?_⟩
    · unfold spec_HeapDrop.f
      exact EvP.bind (specHeap_ok hl) (fun t ht => EvP.no (fun g => hF (ht.1 g)) (EvP.ret rfl))
    · unfold impl_HeapDrop.f
      refine EvP.bind (implPlace_ok id hl) ?_
      rintro _ rfl
      exact EvP.bind (implHeap_ok hl) (fun t ht => EvP.no (fun g => hF (ht.1 g)) (EvP.ret rfl))
theorem FnExactHeapDrop : laws_FnExactHeapDrop.Pure := by
  intro l id hw hid
  have hm : l.length ≤ 9223372036854775807 := hw.1
  refine EvP.rounds ?_
  unfold laws_FnExactHeapDrop.f
  refine EvP.bind (szHeap_ok l hm) ?_
  intro z hz
  refine EvP.ite (fun _ => EvP.ret rfl) (fun hz0 => ?_)
  have hs : ((l.map itemOf).length : Int) ≤ 1048576 := by rw [List.length_map]; omega
  obtain ⟨⟨rl, rc⟩, hR, hsp, him⟩ := drop_ok id hs
  dsimp only at hR
  have toH := toHeap_ok (l := l) (by omega)
  refine EvP.bind toH ?_
  rintro _ rfl
  refine EvP.bind hsp ?_
  rintro _ rfl
  refine EvP.bind toH ?_
  rintro _ rfl
  refine EvP.bind him ?_
  rintro _ rfl
  dsimp only
  refine EvP.bind (eqHeap_same (l := rl) (by omega)) ?_
  rintro _ rfl
  refine EvP.yes rfl ?_
  rw [neSelf]
  refine EvP.step ?_
  simp only [laws_FnExactHeapDrop.j0]
  refine EvP.no (by simp) ?_
  refine EvP.bind toH ?_
  rintro _ rfl
  refine EvP.bind (eqHeap_same (by omega)) ?_
  rintro _ rfl
  refine EvP.yes rfl ?_
  refine EvP.bind (markHeap_ok (l := l.map itemOf) (by omega)) ?_
  rintro ⟨m, ml⟩ ⟨hm1, _, _⟩
  dsimp only at hm1 ⊢
  refine EvP.no (by omega) ?_
  refine EvP.bind (eqHeap_same (l := rl) (by omega)) ?_
  rintro _ rfl
  refine EvP.yes rfl ?_
  rw [neSelf]
  refine EvP.step ?_
  simp only [laws_FnExactHeapDrop.j1]
  refine EvP.no (by simp) ?_
  refine EvP.bind (markHeap_ok (l := rl) (by omega)) ?_
  rintro ⟨q, ql⟩ ⟨hq1, hq2, hq3⟩
  dsimp only at hq1 hq2 hq3 ⊢
  refine EvP.bind (heldHeap_ok (n := rl.length) (by omega) hq2 hq3) ?_
  rintro _ rfl
  refine EvP.no (by omega) (EvP.yes hq1.symm ?_)
  refine EvP.bind toH ?_
  rintro _ rfl
  refine EvP.bind him ?_
  rintro _ rfl
  dsimp only
  refine EvP.bind (eqHeap_same (l := rl) (by omega)) ?_
  rintro _ rfl
  refine EvP.yes rfl ?_
  rw [neSelf]
  refine EvP.step ?_
  simp only [laws_FnExactHeapDrop.j2]
  refine EvP.no (by simp) ?_
  refine EvP.bind (heldHeap_ok (n := rl.length) (by omega) hq2 hq3) ?_
  rintro _ rfl
  exact EvP.no (by omega) (EvP.yes hq1.symm (EvP.ret rfl))

end Go.Proofs.Ytnklakficjpmoaa.Pure
