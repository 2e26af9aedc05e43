/- The program's HeapOrder and the reference's answer alike, for every list of items, and what is handed back is new memory. No condition. -/
import Derived.Test.YtnklakficjpmoaaPFnExactHeapOrderx
import Derived.Laws.BitsLemmas
namespace Go.Proofs.Ytnklakficjpmoaa.Pure
open Go.RowKit Go.Proofs.Ytnklakficjpmoaa.PFnExactHeapOrder Go.Proofs.YtnklakficjpmoaaW.PrintWords Go.Proofs.YtnklakficjpmoaaW.PrintLast Go.Proofs.YtnklakficjpmoaaW.PrintMore
set_option linter.unusedVariables false
set_option linter.unusedSimpArgs false

def EvP {α : Type} (g : Nat → Option α) (P : α → Prop) : Prop := ∃ r, Ev g r ∧ P r
theorem EvP.ret {α : Type} {r : α} {P : α → Prop} (h : P r) : EvP (fun _ => some r) P := ⟨r, Ev.now r, h⟩
theorem EvP.bind {α β : Type} {g : Nat → Option α} {f : Nat → α → Option β} {P : α → Prop} {Q : β → Prop} (h : EvP g P) (k : ∀ r, P r → EvP (fun n => f n r) Q) : EvP (fun n => (g n).bind (f n)) Q := by
  obtain ⟨r, hr, hp⟩ := h
  obtain ⟨q, hq, hQ⟩ := k r hp
  exact ⟨q, Ev.bind hr hq, hQ⟩
theorem EvP.ite {α : Type} {c : Prop} [Decidable c] {a b : Nat → Option α} {Q : α → Prop} (h : c → EvP a Q) (h' : ¬ c → EvP b Q) : EvP (fun n => if c then a n else b n) Q := by
  by_cases hc : c
  · simp only [if_pos hc]; exact h hc
  · simp only [if_neg hc]; exact h' hc
theorem EvP.yes {α : Type} {c : Prop} [Decidable c] {a b : Nat → Option α} {Q : α → Prop} (hc : c) (h : EvP a Q) : EvP (fun n => if c then a n else b n) Q := by
  simp only [if_pos hc]; exact h
theorem EvP.no {α : Type} {c : Prop} [Decidable c] {a b : Nat → Option α} {Q : α → Prop} (hc : ¬ c) (h : EvP b Q) : EvP (fun n => if c then a n else b n) Q := by
  simp only [if_neg hc]; exact h
theorem EvP.step {α : Type} {g : Nat → Option α} {Q : α → Prop} (h : EvP (fun k => g (k + 1)) Q) : EvP g Q := by
  obtain ⟨r, hr, hq⟩ := h
  exact ⟨r, Ev.step (fun _ => rfl) hr, hq⟩
theorem EvP.mono {α : Type} {g : Nat → Option α} {P Q : α → Prop} (h : EvP g P) (hpq : ∀ r, P r → Q r) : EvP g Q := by
  obtain ⟨r, hr, hp⟩ := h
  exact ⟨r, hr, hpq r hp⟩
theorem EvP.rounds {α : Type} {g : Nat → Option α} {r : α} (h : EvP g (fun x => x = r)) : ∃ k, g k = some r := by
  obtain ⟨q, hq, rfl⟩ := h
  exact hq.rounds
theorem w64 {x : Int} (h0 : -9223372036854775808 ≤ x) (h1 : x ≤ 9223372036854775807) : wrap64 x = x := by unfold wrap64; omega
theorem tdiv_pos {a b : Int} (h : 0 ≤ a) : Int.tdiv a b = a / b := Int.tdiv_eq_ediv_of_nonneg h
def itemOf (x : S126) : S68 := ⟨x.f0, x.f1⟩
theorem rd68 {l : List S68} {i : Int} (h0 : 0 ≤ i) (h1 : i < (l.length : Int)) : l[i.toNat]? = some (rd_T68 l i) := by
  unfold rd_T68
  rw [List.getD_eq_getElem?_getD, List.getElem?_eq_getElem (by omega)]; rfl
theorem rd126 {l : List S126} {i : Int} (h0 : 0 ≤ i) (h1 : i < (l.length : Int)) : l[i.toNat]? = some (rd_T126 l i) := by
  unfold rd_T126
  rw [List.getD_eq_getElem?_getD, List.getElem?_eq_getElem (by omega)]; rfl
theorem toItem_ok (a b : Int) : EvP (fun _ => laws_toItem.f a b) (fun r => r = (a, b)) := EvP.ret rfl
theorem toItemS_l0 {l : List S126} (hl : (l.length : Int) ≤ 100000000) : ∀ (d : Nat) (out : List S68) (i : Int), 0 ≤ i → i + d = (l.length : Int) → out.length = l.length → (∀ j : Nat, (j : Int) < i → out[j]? = (l[j]?).map itemOf) → EvP (fun k => laws_toItemS.l0 k l out i) (fun r => r = l.map itemOf)
  | 0, out, i, h0, hi, ho, hv => by
    refine EvP.step ?_
    simp only [laws_toItemS.l0]
    refine EvP.no (by omega) (EvP.ret ?_)
    apply List.ext_getElem?
    intro j
    rw [List.getElem?_map]
    by_cases hj : j < l.length
    · exact hv j (by omega)
    · rw [List.getElem?_eq_none (by omega), List.getElem?_eq_none (by omega)]; rfl
  | d + 1, out, i, h0, hi, ho, hv => by
    refine EvP.step ?_
    simp only [laws_toItemS.l0]
    refine EvP.yes (by omega) (EvP.yes h0 (EvP.bind (toItem_ok _ _) ?_))
    rintro _ rfl
    refine EvP.yes (by omega) ?_
    rw [w64 (by omega) (by omega)]
    refine toItemS_l0 hl d _ (i + 1) (by omega) (by omega) (by rw [List.length_set]; exact ho) (fun j hj => ?_)
    rw [List.getElem?_set]
    by_cases e : i.toNat = j
    · rw [if_pos e, if_pos (by omega), ← e, rd126 h0 (by omega)]; rfl
    · rw [if_neg e]; exact hv j (by omega)
theorem toHeap_ok {l : List S126} (hl : (l.length : Int) ≤ 100000000) : EvP (fun k => laws_toHeap.f k l) (fun r => r = l.map itemOf) := by
  unfold laws_toHeap.f laws_toItemS.f
  refine EvP.bind (EvP.yes (by omega) (EvP.yes (by omega) (toItemS_l0 hl l.length _ 0 (by omega) (by omega) (by simp) (fun j hj => by omega)))) ?_
  rintro _ rfl
  exact EvP.ret rfl
theorem eqItem_ok (x y : S68) : EvP (fun _ => laws_eqItem.f x.f0 x.f1 y.f0 y.f1) (fun r => r = true ↔ x = y) := by
  obtain ⟨a, b⟩ := x
  obtain ⟨c, d⟩ := y
  unfold laws_eqItem.f
  simp only [S68.mk.injEq]
  refine EvP.ite (fun h1 => ?_) (fun h => EvP.ret ⟨(fun h => by cases h), fun z => absurd z.1 h⟩)
  exact EvP.ite (fun h2 => EvP.ret ⟨fun _ => ⟨h1, h2⟩, fun _ => rfl⟩) (fun h => EvP.ret ⟨(fun h => by cases h), fun z => absurd z.2 h⟩)
theorem eqItemS_l0 {a b : List S68} (hl : a.length = b.length) (hm : (a.length : Int) ≤ 100000000) : ∀ (d : Nat) (i : Int), 0 ≤ i → i + d = (a.length : Int) → (∀ j : Nat, (j : Int) < i → a[j]? = b[j]?) → EvP (fun k => laws_eqItemS.l0 k a b i) (fun r => r = true ↔ a = b)
  | 0, i, h0, hi, hv => by
    refine EvP.step ?_
    simp only [laws_eqItemS.l0]
    refine EvP.no (by omega) (EvP.ret ⟨fun _ => ?_, fun _ => rfl⟩)
    apply List.ext_getElem?
    intro j
    by_cases hj : j < a.length
    · exact hv j (by omega)
    · rw [List.getElem?_eq_none (by omega), List.getElem?_eq_none (by omega)]
  | d + 1, i, h0, hi, hv => by
    refine EvP.step ?_
    simp only [laws_eqItemS.l0]
    refine EvP.yes (by omega) (EvP.yes h0 (EvP.yes (by omega) (EvP.bind (eqItem_ok (rd_T68 a i) (rd_T68 b i)) (fun t ht => ?_))))
    refine EvP.ite (fun h => ?_) (fun h => EvP.ret ⟨(fun h => by cases h), fun z => absurd (ht.2 (by rw [z])) h⟩)
    rw [w64 (by omega) (by omega)]
    refine eqItemS_l0 hl hm d (i + 1) (by omega) (by omega) (fun j hj => ?_)
    by_cases e : j = i.toNat
    · rw [e, rd68 h0 (by omega), rd68 h0 (by omega), ht.1 h]
    · exact hv j (by omega)
theorem eqHeap_same {l : List S68} (hm : (l.length : Int) ≤ 100000000) : EvP (fun k => laws_eqHeap.f k l l) (fun r => r = true) := by
  unfold laws_eqHeap.f laws_eqItemS.f
  refine EvP.bind (EvP.yes rfl (eqItemS_l0 rfl hm l.length 0 (by omega) (by omega) (fun j hj => by omega))) (fun t ht => ?_)
  exact EvP.yes (ht.2 rfl) (EvP.ret rfl)
theorem szHeap_ok (l : List S126) (hm : l.length ≤ 9223372036854775807) : EvP (fun _ => laws_szHeap.f l 1048576) (fun r => r = -1 ∨ (0 ≤ r ∧ (l.length : Int) ≤ 1048576)) := by
  unfold laws_szHeap.f laws_szItemS.f
  rw [w64 (by omega) (by omega)]
  refine EvP.bind (P := fun r => r = -1 ∨ (0 ≤ r ∧ (l.length : Int) ≤ 1048576)) (EvP.ite (fun h => EvP.ret (.inl rfl)) (fun h => EvP.ret (.inr (by omega)))) (fun t ht => ?_)
  exact EvP.ite (fun h => EvP.ret (.inl rfl)) (fun h => EvP.ret (by omega))
def imk (x : Int) : S68 := ⟨x, x + 1⟩
theorem rdset68 {l : List S68} {i : Int} {v : S68} (h0 : 0 ≤ i) (h1 : i < (l.length : Int)) : rd_T68 (l.set i.toNat v) i = v := by
  unfold rd_T68
  rw [List.getD_eq_getElem?_getD, List.getElem?_set_self (by omega)]; rfl
def MarkedI (l : List S68) (n : Int) : Prop := ∀ j : Nat, (j : Int) < n → l[j]? = some (imk (1 + 2 * (j : Int)))
theorem markItem_l0 {n : Nat} (hn : (n : Int) ≤ 100000000) : ∀ (d : Nat) (l : List S68) (x i : Int), 0 ≤ i → i + d = (n : Int) → l.length = n → x = 1 + 2 * i → MarkedI l i →
    EvP (fun k => laws_markItemS.l0 k l x i) (fun r => r.1 = 1 + 2 * (n : Int) ∧ r.2.length = n ∧ MarkedI r.2 n)
  | 0, l, x, i, h0, hi, hl, hx, hm => by
    refine EvP.step ?_
    simp only [laws_markItemS.l0]
    have e : i = (n : Int) := by omega
    subst e
    exact EvP.no (by omega) (EvP.ret ⟨by omega, hl, hm⟩)
  | d + 1, l, x, i, h0, hi, hl, hx, hm => by
    have h1 : i < (l.length : Int) := by omega
    have e1 : wrap64 (x + 1) = x + 1 := w64 (by omega) (by omega)
    have e2 : wrap64 (x + 1 + 1) = x + 2 := by rw [w64 (by omega) (by omega)]; omega
    have e7 : wrap64 (i + 1) = i + 1 := w64 (by omega) (by omega)
    refine EvP.step ?_
    simp only [laws_markItemS.l0, e1, e2, e7]
    refine EvP.yes h1 (EvP.yes h0 ?_)
    refine EvP.bind (EvP.ret rfl) ?_
    rintro _ rfl
    simp only [rdset68 h0 h1, List.set_set]
    refine markItem_l0 hn d _ (x + 2) (i + 1) (by omega) (by omega) (by rw [List.length_set]; exact hl) (by omega) (fun j hj => ?_)
    rw [List.getElem?_set]
    by_cases e : i.toNat = j
    · rw [if_pos e, if_pos (by omega)]
      have : (j : Int) = i := by omega
      rw [this, ← hx]; rfl
    · rw [if_neg e]; exact hm j (by omega)
theorem markHeap_ok {l : List S68} (hl : (l.length : Int) ≤ 100000000) :
    EvP (fun k => laws_markHeap.f k l 1) (fun r => r.1 = 1 + 2 * (l.length : Int) ∧ r.2.length = l.length ∧ MarkedI r.2 l.length) := by
  unfold laws_markHeap.f laws_markItemS.f
  refine EvP.bind (markItem_l0 hl l.length l 1 0 (by omega) (by omega) rfl (by omega) (fun j hj => by omega)) ?_
  intro r h
  exact EvP.ret h
theorem heldItem_l0 {n : Nat} (hn : (n : Int) ≤ 100000000) {l : List S68} (hl : l.length = n) (hm : MarkedI l n) : ∀ (d : Nat) (x i : Int), 0 ≤ i → i + d = (n : Int) → x = 1 + 2 * i →
    EvP (fun k => laws_heldItemS.l0 k l x i) (fun r => r = 1 + 2 * (n : Int))
  | 0, x, i, h0, hi, hx => by
    refine EvP.step ?_
    simp only [laws_heldItemS.l0]
    exact EvP.no (by omega) (EvP.ret (by omega))
  | d + 1, x, i, h0, hi, hx => by
    have h1 : i < (l.length : Int) := by omega
    have e1 : wrap64 (x + 1) = x + 1 := w64 (by omega) (by omega)
    have e2 : wrap64 (x + 1 + 1) = x + 2 := by rw [w64 (by omega) (by omega)]; omega
    have e7 : wrap64 (i + 1) = i + 1 := w64 (by omega) (by omega)
    have hv : rd_T68 l i = imk x := by
      have := hm i.toNat (by omega)
      rw [rd68 h0 h1] at this
      rw [Option.some.inj this, hx, Int.toNat_of_nonneg h0]
    refine EvP.step ?_
    simp only [laws_heldItemS.l0, e1, e2, e7, hv, imk]
    refine EvP.yes h1 (EvP.yes h0 (EvP.yes (by first | trivial | rfl) (EvP.yes (by first | trivial | rfl) ?_)))
    exact heldItem_l0 hn hl hm d (x + 2) (i + 1) (by omega) (by omega) (by omega)
def aheadB (a b : S68) : Bool := decide (a.f0 < b.f0 ∨ (a.f0 = b.f0 ∧ a.f1 < b.f1))
theorem ahead_iff {a b : S68} : aheadB a b = true ↔ (a.f0 < b.f0 ∨ (a.f0 = b.f0 ∧ a.f1 < b.f1)) := by unfold aheadB; rw [decide_eq_true_iff]
theorem ahead_no {a b : S68} : aheadB a b = false ↔ ¬ (a.f0 < b.f0 ∨ (a.f0 = b.f0 ∧ a.f1 < b.f1)) := by unfold aheadB; rw [decide_eq_false_iff_not]
theorem specAhead_ok (a b : S68) : EvP (fun _ => spec_Ahead.f a.f0 a.f1 b.f0 b.f1) (fun r => r = aheadB a b) := by
  unfold spec_Ahead.f
  refine EvP.ite (fun h => EvP.ret ?_) (fun h => EvP.ite (fun h2 => EvP.ret ?_) (fun h2 => EvP.ret ?_))
  · exact (ahead_iff.2 (.inl h)).symm
  · unfold aheadB
    refine decide_eq_decide.2 ⟨fun h3 => .inr ⟨h2, h3⟩, fun h3 => ?_⟩
    rcases h3 with h3 | h3
    · exact absurd h3 h
    · exact h3.2
  · refine (ahead_no.2 ?_).symm
    rintro (h3 | h3)
    · exact h h3
    · exact h2 h3.1
theorem implAhead_ok (a b : S68) : EvP (fun _ => impl_Ahead.f a.f0 a.f1 b.f0 b.f1) (fun r => r = aheadB a b) := by
  unfold impl_Ahead.f
  refine EvP.ite (fun h => EvP.ret ?_) (fun h => EvP.ite (fun h2 => EvP.ret ?_) (fun h2 => EvP.ret ?_))
  · exact (ahead_iff.2 (.inl h)).symm
  · unfold aheadB
    refine decide_eq_decide.2 ⟨fun h3 => .inr ⟨h2, h3⟩, fun h3 => ?_⟩
    rcases h3 with h3 | h3
    · exact absurd h3 h
    · exact h3.2
  · refine (ahead_no.2 ?_).symm
    rintro (h3 | h3)
    · exact h h3
    · exact h2 h3.1
def atI (l : List S68) (id : Int) : Int := idxP (fun x => x.f1 == id) l
theorem specAtI_l0 {id : Int} {l : List S68} (hl : (l.length : Int) ≤ 1048576) : ∀ (n : Nat) (i : Int), 0 ≤ i → i + n = (l.length : Int) → (∀ j : Nat, (j : Int) < i → ∀ y, l[j]? = some y → (y.f1 == id) = false) → EvP (fun k => spec_l15At.l0 k l id i) (fun r => r = atI l id)
  | 0, i, h0, hi, hv => by
    refine EvP.step ?_
    simp only [spec_l15At.l0]
    refine EvP.no (by omega) (EvP.ret ?_)
    unfold atI
    rw [idxP_miss l (fun j y hy => by
      by_cases hj : j < l.length
      · exact hv j (by omega) y hy
      · rw [List.getElem?_eq_none (by omega)] at hy; cases hy)]
  | n + 1, i, h0, hi, hv => by
    refine EvP.step ?_
    simp only [spec_l15At.l0]
    have hx := rd68 (l := l) h0 (by omega)
    refine EvP.yes (by omega) (EvP.yes h0 (EvP.ite (fun h => EvP.ret ?_) (fun h => ?_)))
    · unfold atI
      rw [idxP_hit l i.toNat (rd_T68 l i) hx (by simp [h]) (fun j y hj hy => hv j (by omega) y hy)]
      omega
    · rw [w64 (by omega) (by omega)]
      refine specAtI_l0 hl n (i + 1) (by omega) (by omega) (fun j hj y hy => ?_)
      by_cases e : j = i.toNat
      · subst e
        rw [hx] at hy
        cases hy
        simpa using h
      · exact hv j (by omega) y hy
theorem specAtI_ok (id : Int) {l : List S68} (hl : (l.length : Int) ≤ 1048576) : EvP (fun k => spec_l15At.f k l id) (fun r => r = atI l id) := by
  unfold spec_l15At.f
  exact specAtI_l0 hl l.length 0 (by omega) (by omega) (fun j hj => by omega)
theorem implPlace_ok (id : Int) {l : List S68} (hl : (l.length : Int) ≤ 1048576) : EvP (fun _ => impl_Heap_place.f l id) (fun r => r = atI l id) := by
  unfold impl_Heap_place.f
  exact EvP.yes (by omega) (EvP.ret rfl)
def ItemP (x : S68) : Prop := 0 ≤ x.f0 ∧ x.f0 ≤ 1000000000000 ∧ 0 ≤ x.f1 ∧ x.f1 ≤ 9999
theorem specItem_ok (x : S68) : EvP (fun _ => spec_ItemOk.f x.f0 x.f1) (fun r => r = true ↔ ItemP x) := by
  unfold spec_ItemOk.f ItemP
  refine EvP.ite (fun h1 => ?_) (fun h => EvP.ret ⟨(fun h => by cases h), fun z => absurd z.1 h⟩)
  refine EvP.ite (fun h2 => ?_) (fun h => EvP.ret ⟨(fun h => by cases h), fun z => absurd z.2.1 h⟩)
  refine EvP.ite (fun h3 => EvP.ret ?_) (fun h => EvP.ret ⟨(fun h => by cases h), fun z => absurd z.2.2.1 h⟩)
  rw [decide_eq_true_iff]
  exact ⟨fun h => ⟨h1, h2, h3, h⟩, fun h => h.2.2.2⟩
theorem implWithin_ok (a b c : Int) : EvP (fun _ => impl_within.f a b c) (fun r => r = true ↔ b ≤ a ∧ a ≤ c) := by
  unfold impl_within.f
  refine EvP.ite (fun h => EvP.ret ?_) (fun h => EvP.ret ⟨(fun h => by cases h), fun z => absurd z.1 h⟩)
  rw [decide_eq_true_iff]
  exact ⟨fun h2 => ⟨h, h2⟩, fun h2 => h2.2⟩
theorem implItem_ok (x : S68) : EvP (fun _ => impl_ItemOk.f x.f0 x.f1) (fun r => r = true ↔ ItemP x) := by
  unfold impl_ItemOk.f ItemP
  refine EvP.bind (implWithin_ok _ _ _) (fun t ht => EvP.ite (fun h => ?_) (fun h => EvP.ret ⟨(fun h => by cases h), fun z => absurd (ht.2 ⟨z.1, z.2.1⟩) h⟩))
  refine EvP.bind (implWithin_ok _ _ _) (fun u hu => EvP.ret ?_)
  exact ⟨fun g => ⟨(ht.1 h).1, (ht.1 h).2, (hu.1 g).1, (hu.1 g).2⟩, fun g => hu.2 ⟨g.2.2.1, g.2.2.2⟩⟩
theorem parE {i : Int} (h0 : 0 < i) (h1 : i ≤ 100000000) : wrap64 (Int.tdiv (wrap64 (i - 1)) 2) = (i - 1) / 2 := by
  rw [w64 (x := i - 1) (by omega) (by omega), tdiv_pos (by omega), w64 (by omega) (by omega)]
def HeapAt (l : List S68) (j : Int) : Prop := ItemP (rd_T68 l j) ∧ atI l (rd_T68 l j).f1 = j ∧ (0 < j → aheadB (rd_T68 l j) (rd_T68 l ((j - 1) / 2)) = false)
def HeapFrom (l : List S68) (i : Int) : Prop := ∀ j, i ≤ j → j < (l.length : Int) → HeapAt l j
theorem HeapFrom.step {l : List S68} {i : Int} (h : HeapAt l i) : HeapFrom l i ↔ HeapFrom l (i + 1) :=
  ⟨fun g j h0 h1 => g j (by omega) h1, fun g j h0 h1 => by
    by_cases e : j = i
    · rw [e]; exact h
    · exact g j (by omega) h1⟩
def HeapP (l : List S68) : Prop := (l.length : Int) ≤ 64 ∧ HeapFrom l 0
theorem specHeap_l0 {l : List S68} (hl : (l.length : Int) ≤ 1048576) : ∀ (n : Nat) (i : Int), 0 ≤ i → i + n = (l.length : Int) → EvP (fun k => spec_HeapOk.l0 k i l) (fun r => r = true ↔ HeapFrom l i)
  | 0, i, h0, hi => by
    refine EvP.step ?_
    simp only [spec_HeapOk.l0]
    exact EvP.no (by omega) (EvP.ret ⟨fun _ j h1 h2 => by omega, fun _ => rfl⟩)
  | n + 1, i, h0, hi => by
    have h1 : i < (l.length : Int) := by omega
    have ih := specHeap_l0 hl n (i + 1) (by omega) (by omega)
    have hbad : ¬ HeapAt l i → EvP (fun k => spec_HeapOk.j1 k i true l) (fun r => r = true ↔ HeapFrom l i) := fun hn =>
      EvP.step (by simp only [spec_HeapOk.j1]; exact EvP.yes trivial (EvP.ret ⟨(fun h => by cases h), fun g => absurd (g i (by omega) h1) hn⟩))
    have hno : ¬ HeapAt l i → (false = true ↔ HeapFrom l i) := fun hn => ⟨(fun h => by cases h), fun g => absurd (g i (by omega) h1) hn⟩
    refine EvP.step ?_
    simp only [spec_HeapOk.l0]
    refine EvP.yes h1 (EvP.yes h0 (EvP.bind (specItem_ok (rd_T68 l i)) (fun t ht => EvP.ite (fun h => ?_) (fun h => hbad (fun g => h (ht.2 g.1))))))
    refine EvP.bind (specAtI_ok _ hl) ?_
    rintro _ rfl
    by_cases hat : atI l (rd_T68 l i).f1 = i
    · rw [show (atI l (rd_T68 l i).f1 != i) = false by simp [hat]]
      refine EvP.step ?_
      simp only [spec_HeapOk.j1]
      refine EvP.no (by simp) (EvP.ite (fun hp => ?_) (fun hp => ?_))
      · rw [parE hp (by omega), w64 (x := i + 1) (by omega) (by omega)]
        refine EvP.yes h0 (EvP.yes h1 (EvP.yes (by omega) (EvP.yes (by omega) (EvP.bind (specAhead_ok (rd_T68 l i) (rd_T68 l ((i - 1) / 2))) ?_))))
        rintro _ rfl
        refine EvP.ite (fun ha => EvP.ret (hno (fun g => by rw [g.2.2 hp] at ha; cases ha))) (fun ha => ?_)
        refine ih.mono (fun r hr => hr.trans (HeapFrom.step ⟨ht.1 h, hat, fun _ => by simpa using ha⟩).symm)
      · rw [w64 (x := i + 1) (by omega) (by omega)]
        refine ih.mono (fun r hr => hr.trans (HeapFrom.step ⟨ht.1 h, hat, fun g => absurd g hp⟩).symm)
    · rw [show (atI l (rd_T68 l i).f1 != i) = true by simp [hat]]
      exact hbad (fun g => hat g.2.1)
theorem specHeap_ok {l : List S68} (hl : (l.length : Int) ≤ 1048576) : EvP (fun k => spec_HeapOk.f k l) (fun r => r = true ↔ HeapP l) := by
  unfold spec_HeapOk.f HeapP
  refine EvP.ite (fun h => EvP.ret ⟨(fun h => by cases h), fun z => absurd z.1 (by omega)⟩) (fun h => ?_)
  refine (specHeap_l0 hl l.length 0 (by omega) (by omega)).mono (fun r hr => hr.trans ⟨fun g => ⟨by omega, g⟩, fun g => g.2⟩)
theorem implHeap_l0 {l : List S68} (hl : (l.length : Int) ≤ 1048576) : ∀ (n : Nat) (i : Int), 0 ≤ i → i + n = (l.length : Int) → EvP (fun k => impl_HeapOk.l0 k l (l.length : Int) i l) (fun r => r = true ↔ (l.length : Int) ≤ 64 ∧ HeapFrom l i)
  | 0, i, h0, hi => by
    refine EvP.step ?_
    simp only [impl_HeapOk.l0]
    refine EvP.no (by omega) (EvP.ret ?_)
    rw [decide_eq_true_iff]
    exact ⟨fun h => ⟨h, fun j h1 h2 => by omega⟩, fun h => h.1⟩
  | n + 1, i, h0, hi => by
    have h1 : i < (l.length : Int) := by omega
    have ih := implHeap_l0 hl n (i + 1) (by omega) (by omega)
    have hno : ¬ HeapAt l i → (false = true ↔ (l.length : Int) ≤ 64 ∧ HeapFrom l i) := fun hn => ⟨(fun h => by cases h), fun g => absurd (g.2 i (by omega) h1) hn⟩
    refine EvP.step ?_
    simp only [impl_HeapOk.l0]
    refine EvP.yes h1 (EvP.yes h0 (EvP.yes h1 (EvP.bind (implItem_ok (rd_T68 l i)) (fun t ht => EvP.ite (fun h => ?_) (fun h => EvP.ret (hno (fun g => h (ht.2 g.1))))))))
    refine EvP.bind (implPlace_ok _ hl) ?_
    rintro _ rfl
    refine EvP.ite (fun hat => ?_) (fun hat => EvP.ret (hno (fun g => hat g.2.1)))
    rw [w64 (x := i + 1) (by omega) (by omega)]
    refine EvP.ite (fun hp => ?_) (fun hp => ?_)
    · rw [parE hp (by omega)]
      refine EvP.yes (by omega) (EvP.yes (by omega) (EvP.bind (implAhead_ok (rd_T68 l i) (rd_T68 l ((i - 1) / 2))) ?_))
      rintro _ rfl
      refine EvP.ite (fun ha => EvP.ret (hno (fun g => by rw [g.2.2 hp] at ha; cases ha))) (fun ha => ?_)
      refine ih.mono (fun r hr => hr.trans (and_congr Iff.rfl (HeapFrom.step ⟨ht.1 h, hat, fun _ => by simpa using ha⟩).symm))
    · refine ih.mono (fun r hr => hr.trans (and_congr Iff.rfl (HeapFrom.step ⟨ht.1 h, hat, fun g => absurd g hp⟩).symm))
theorem implHeap_ok {l : List S68} (hl : (l.length : Int) ≤ 1048576) : EvP (fun k => impl_HeapOk.f k l) (fun r => r = true ↔ HeapP l) := by
  unfold impl_HeapOk.f HeapP
  exact implHeap_l0 hl l.length 0 (by omega) (by omega)

def lei (a b : S68) : Bool := !impl_HeapOrder.ah b a
theorem ah_eq (a b : S68) : impl_HeapOrder.ah a b = aheadB a b := by
  unfold impl_HeapOrder.ah aheadB
  by_cases h1 : a.f0 < b.f0 <;> by_cases h2 : a.f0 = b.f0 <;> by_cases h3 : a.f1 < b.f1 <;> simp [h1, h2, h3]
theorem lei_iff {a b : S68} : lei a b = true ↔ ¬ (b.f0 < a.f0 ∨ (b.f0 = a.f0 ∧ b.f1 < a.f1)) := by
  unfold lei
  rw [ah_eq, Bool.not_eq_true', ahead_no]
theorem lei_tr {a b c : S68} (h1 : lei a b = true) (h2 : lei b c = true) : lei a c = true := by
  rw [lei_iff] at *; omega
theorem lei_tot (a b : S68) : (lei a b || lei b a) = true := by
  rw [Bool.or_eq_true]
  by_cases h : lei a b = true
  · exact .inl h
  · refine .inr ?_
    rw [lei_iff] at *; omega
theorem lei_anti {a b : S68} (h1 : lei a b = true) (h2 : lei b a = true) : a = b := by
  rw [lei_iff] at *
  obtain ⟨x, y⟩ := a
  obtain ⟨z, t⟩ := b
  dsimp only at h1 h2
  have e1 : x = z := by omega
  have e2 : y = t := by omega
  rw [e1, e2]
theorem lei_of_ahead {a b : S68} (h : aheadB a b = true) : lei a b = true := by
  rw [lei_iff]; rw [ahead_iff] at h; omega
def Srt (l : List S68) : Prop := l.Pairwise (fun a b => lei a b = true)
theorem ins_srt {out : List S68} {x : S68} {a : Int} (hs : Srt out) (h0 : 0 ≤ a) (h1 : a ≤ (out.length : Int)) (hd : ∀ j : Int, a ≤ j → j < (out.length : Int) → aheadB x (rd_T68 out j) = true) (hu : 0 < a → aheadB x (rd_T68 out (a - 1)) = false) : Srt (([] ++ out.take a.toNat) ++ ([x] ++ out.drop a.toNat)) := by
  rw [List.nil_append]
  have hsplit : (out.take a.toNat ++ out.drop a.toNat).Pairwise (fun a b => lei a b = true) := by rw [List.take_append_drop]; exact hs
  obtain ⟨s1, s2, s3⟩ := List.pairwise_append.1 hsplit
  refine List.pairwise_append.2 ⟨s1, (List.pairwise_cons (a := x) (l := out.drop a.toNat)).2 ⟨fun q hq => ?_, s2⟩, fun p hp q hq => ?_⟩
  · obtain ⟨j, hj, e⟩ := List.mem_iff_getElem.1 hq
    rw [List.getElem_drop] at e
    rw [List.length_drop] at hj
    have := hd ((a.toNat + j : Nat) : Int) (by omega) (by omega)
    have hr := rd68 (l := out) (i := ((a.toNat + j : Nat) : Int)) (by omega) (by omega)
    rw [Int.toNat_natCast, List.getElem?_eq_getElem (by omega), e] at hr
    rw [← Option.some.inj hr] at this
    exact lei_of_ahead this
  · rcases List.mem_cons.1 hq with rfl | hq
    · obtain ⟨j, hj, e⟩ := List.mem_iff_getElem.1 hp
      rw [List.getElem_take] at e
      rw [List.length_take] at hj
      have ha : 0 < a := by omega
      have hr := rd68 (l := out) (i := a - 1) (by omega) (by omega)
      rw [List.getElem?_eq_getElem (by omega)] at hr
      have hl : lei (out[(a - 1).toNat]'(by omega)) q = true := by
        have := hu ha
        rw [← Option.some.inj hr] at this
        rw [lei_iff]; exact ahead_no.1 this
      by_cases e2 : j = (a - 1).toNat
      · subst e2; rw [← e]; exact hl
      · refine lei_tr ?_ hl
        rw [← e]
        exact List.pairwise_iff_getElem.1 hs j (a - 1).toNat (by omega) (by omega) (by omega)
    · exact s3 p hp q hq
theorem ins_perm {out : List S68} {x : S68} {n : Nat} : (([] ++ out.take n) ++ ([x] ++ out.drop n)).Perm (x :: out) := by
  rw [List.nil_append]
  refine (List.perm_append_comm).trans ?_
  refine List.Perm.cons (l₁ := out.drop n ++ out.take n) x ?_
  refine (List.perm_append_comm).trans ?_
  rw [List.take_append_drop]
theorem ord_l1 {h out : List S68} {i : Int} {Q : List S68 → Prop} (h0 : 0 ≤ i) (h1 : i < (h.length : Int)) (hol : (out.length : Int) ≤ 1048576) (hs : Srt out)
    (hnext : ∀ out' : List S68, Srt out' → out'.Perm (rd_T68 h i :: out) → EvP (fun k => spec_HeapOrder.l0 k out' (wrap64 (i + 1)) h) Q) :
    ∀ (n : Nat) (a : Int), a = (n : Int) → a ≤ (out.length : Int) → (∀ j : Int, a ≤ j → j < (out.length : Int) → aheadB (rd_T68 h i) (rd_T68 out j) = true) → EvP (fun k => spec_HeapOrder.l1 k out i a h) Q
  | 0, a, ha, hal, hd => by
    refine EvP.step ?_
    simp only [spec_HeapOrder.l1]
    have hk := hnext _ (ins_srt hs (by omega) hal hd (by omega)) ins_perm
    refine EvP.no (by omega) (EvP.yes h0 (EvP.yes h1 (EvP.bind (EvP.ret (P := fun z => z = [rd_T68 h i]) rfl) ?_)))
    rintro _ rfl
    refine EvP.yes (by omega) (EvP.yes hal (EvP.bind (EvP.ret (P := fun z => z = out.drop a.toNat) rfl) ?_))
    rintro _ rfl
    refine EvP.yes (by simp only [List.length_cons, List.length_nil, List.length_drop]; omega) (EvP.bind (EvP.ret (P := fun z => z = [rd_T68 h i] ++ out.drop a.toNat) rfl) ?_)
    rintro _ rfl
    refine EvP.bind (EvP.ret (P := fun z => z = ([] : List S68)) rfl) ?_
    rintro _ rfl
    refine EvP.bind (EvP.ret (P := fun z => z = out.take a.toNat) rfl) ?_
    rintro _ rfl
    refine EvP.yes (by simp only [List.length_nil, List.length_take]; omega) (EvP.bind (EvP.ret (P := fun z => z = [] ++ out.take a.toNat) rfl) ?_)
    rintro _ rfl
    exact EvP.yes (by simp only [List.length_append, List.length_cons, List.length_nil, List.length_take, List.length_drop]; omega) hk
  | n + 1, a, ha, hal, hd => by
    have ew : wrap64 (a - 1) = a - 1 := w64 (by omega) (by omega)
    refine EvP.step ?_
    simp only [spec_HeapOrder.l1, ew]
    refine EvP.yes (by omega) (EvP.yes h0 (EvP.yes h1 (EvP.yes (by omega) (EvP.yes (by omega) (EvP.bind (specAhead_ok (rd_T68 h i) (rd_T68 out (a - 1))) ?_)))))
    rintro _ rfl
    refine EvP.ite (fun hah => ?_) (fun hah => ?_)
    · refine ord_l1 h0 h1 hol hs hnext n (a - 1) (by omega) (by omega) (fun j hj1 hj2 => ?_)
      by_cases e : j = a - 1
      · rw [e]; exact hah
      · exact hd j (by omega) hj2
    · have hk := hnext _ (ins_srt hs (by omega) hal hd (fun _ => by simpa using hah)) ins_perm
      refine EvP.bind (EvP.ret (P := fun z => z = [rd_T68 h i]) rfl) ?_
      rintro _ rfl
      refine EvP.yes (by omega) (EvP.yes hal (EvP.bind (EvP.ret (P := fun z => z = out.drop a.toNat) rfl) ?_))
      rintro _ rfl
      refine EvP.yes (by simp only [List.length_cons, List.length_nil, List.length_drop]; omega) (EvP.bind (EvP.ret (P := fun z => z = [rd_T68 h i] ++ out.drop a.toNat) rfl) ?_)
      rintro _ rfl
      refine EvP.bind (EvP.ret (P := fun z => z = ([] : List S68)) rfl) ?_
      rintro _ rfl
      refine EvP.bind (EvP.ret (P := fun z => z = out.take a.toNat) rfl) ?_
      rintro _ rfl
      refine EvP.yes (by simp only [List.length_nil, List.length_take]; omega) (EvP.bind (EvP.ret (P := fun z => z = [] ++ out.take a.toNat) rfl) ?_)
      rintro _ rfl
      exact EvP.yes (by simp only [List.length_append, List.length_cons, List.length_nil, List.length_take, List.length_drop]; omega) hk
theorem ord_l0 {h : List S68} (hl : (h.length : Int) ≤ 1048576) : ∀ (d : Nat) (out : List S68) (i : Int), 0 ≤ i → i + d = (h.length : Int) → Srt out → out.Perm (h.take i.toNat) → EvP (fun k => spec_HeapOrder.l0 k out i h) (fun r => r = impl_HeapOrder.sorted h)
  | 0, out, i, h0, hi, hs, hp => by
    refine EvP.step ?_
    simp only [spec_HeapOrder.l0]
    refine EvP.no (by omega) (EvP.ret ?_)
    rw [List.take_of_length_le (by omega)] at hp
    refine List.Perm.eq_of_pairwise (le := fun a b => lei a b = true) (fun a b _ _ h1 h2 => lei_anti h1 h2) hs ?_ (hp.trans (List.mergeSort_perm h _).symm)
    exact List.pairwise_mergeSort (le := fun x y => !impl_HeapOrder.ah y x) (fun a b c h1 h2 => lei_tr h1 h2) (fun a b => lei_tot a b) h
  | d + 1, out, i, h0, hi, hs, hp => by
    refine EvP.step ?_
    simp only [spec_HeapOrder.l0]
    refine EvP.yes (by omega) ?_
    have hlen : out.length = i.toNat := by rw [hp.length_eq, List.length_take]; omega
    refine ord_l1 h0 (by omega) (by omega) hs (fun out' hs' hp' => ?_) out.length (out.length : Int) rfl (Int.le_refl _) (fun j h1 h2 => by omega)
    rw [w64 (by omega) (by omega)]
    refine ord_l0 hl d out' (i + 1) (by omega) (by omega) hs' ?_
    refine hp'.trans ?_
    have e : h.take (i + 1).toNat = h.take i.toNat ++ [rd_T68 h i] := by
      rw [show (i + 1).toNat = i.toNat + 1 by omega, List.take_add_one, rd68 h0 (by omega)]; rfl
    rw [e]
    exact (List.Perm.cons _ hp).trans (List.perm_append_singleton _ _).symm
theorem itemClone_ok {l : List S68} (hl : (l.length : Int) ≤ 1048576) : EvP (fun _ => impl_Item_65.f l) (fun r => r = l) := by
  unfold impl_Item_65.f
  refine EvP.bind (EvP.ret (P := fun z => z = ([] : List S68)) rfl) ?_
  rintro _ rfl
  exact EvP.yes (by simp only [List.length_nil]; omega) (EvP.ret (List.nil_append _))
theorem order_ok {l : List S68} (hl : (l.length : Int) ≤ 1048576) : ∃ R : List S68, (R.length : Int) ≤ 1048576 ∧
    EvP (fun k => spec_HeapOrder.f k l) (fun r => r = R) ∧ EvP (fun k => impl_HeapOrder.f k l) (fun r => r = R) := by
  by_cases hF : HeapP l
  · refine ⟨impl_HeapOrder.sorted l, by unfold impl_HeapOrder.sorted; rw [List.length_mergeSort]; exact hl, ?_, ?_⟩
    · unfold spec_HeapOrder.f
      refine EvP.bind (EvP.ret (P := fun z => z = ([] : List S68)) rfl) ?_
      rintro _ rfl
      exact EvP.bind (specHeap_ok hl) (fun t ht => EvP.yes (ht.2 hF) (ord_l0 hl l.length [] 0 (by omega) (by omega) List.Pairwise.nil (List.Perm.refl _)))
    · unfold impl_HeapOrder.f
      refine EvP.bind (implHeap_ok hl) (fun t ht => EvP.yes (ht.2 hF) (EvP.bind (itemClone_ok hl) ?_))
      rintro _ rfl
      exact EvP.yes (by omega) (EvP.ret rfl)
  · refine ⟨[], by simp, ?_, ?_⟩
    · unfold spec_HeapOrder.f
      refine EvP.bind (EvP.ret (P := fun z => z = ([] : List S68)) rfl) ?_
      rintro _ rfl
      exact EvP.bind (specHeap_ok hl) (fun t ht => EvP.no (fun g => hF (ht.1 g)) (EvP.ret rfl))
    · unfold impl_HeapOrder.f
      exact EvP.bind (implHeap_ok hl) (fun t ht => EvP.no (fun g => hF (ht.1 g)) (EvP.ret rfl))
theorem eqItems_same {l : List S68} (hm : (l.length : Int) ≤ 100000000) : EvP (fun k => laws_eqItemS.f k l l) (fun r => r = true) := by
  unfold laws_eqItemS.f
  exact (EvP.yes rfl (eqItemS_l0 rfl hm l.length 0 (by omega) (by omega) (fun j hj => by omega))).mono (fun r hr => hr.2 rfl)
theorem markItems_ok {l : List S68} (hl : (l.length : Int) ≤ 100000000) :
    EvP (fun k => laws_markItemS.f k l 1) (fun r => r.1 = 1 + 2 * (l.length : Int) ∧ r.2.length = l.length ∧ MarkedI r.2 l.length) := by
  unfold laws_markItemS.f
  exact markItem_l0 hl l.length l 1 0 (by omega) (by omega) rfl (by omega) (fun j hj => by omega)
theorem heldItems_ok {l : List S68} {n : Nat} (hn : (n : Int) ≤ 100000000) (hl : l.length = n) (hm : MarkedI l n) :
    EvP (fun k => laws_heldItemS.f k l 1) (fun r => r = 1 + 2 * (n : Int)) := by
  unfold laws_heldItemS.f
  exact heldItem_l0 hn hl hm n 1 0 (by omega) (by omega) (by omega)
theorem FnExactHeapOrder : laws_FnExactHeapOrder.Pure := by
  intro l hw
  have hm : l.length ≤ 9223372036854775807 := hw.1
  refine EvP.rounds ?_
  unfold laws_FnExactHeapOrder.f
  refine EvP.bind (szHeap_ok l hm) ?_
  intro z hz
  refine EvP.ite (fun _ => EvP.ret rfl) (fun hz0 => ?_)
  have hs : ((l.map itemOf).length : Int) ≤ 1048576 := by rw [List.length_map]; omega
  obtain ⟨R, hR, hsp, him⟩ := order_ok hs
  have toH := toHeap_ok (l := l) (by omega)
  refine EvP.bind toH ?_
  rintro _ rfl
  refine EvP.bind hsp ?_
  intro q hq; obtain rfl := hq.symm
  refine EvP.bind toH ?_
  rintro _ rfl
  refine EvP.bind him ?_
  intro q hq; obtain rfl := hq.symm
  refine EvP.bind (eqItems_same (l := R) (by omega)) ?_
  rintro _ rfl
  refine EvP.yes rfl ?_
  refine EvP.bind toH ?_
  rintro _ rfl
  refine EvP.bind (eqHeap_same (by omega)) ?_
  rintro _ rfl
  refine EvP.yes rfl ?_
  refine EvP.bind (markHeap_ok (l := l.map itemOf) (by omega)) ?_
  rintro ⟨m, ml⟩ ⟨hm1, _, _⟩
  dsimp only at hm1 ⊢
  refine EvP.no (by omega) ?_
  refine EvP.bind (eqItems_same (l := R) (by omega)) ?_
  rintro _ rfl
  refine EvP.step ?_
  simp only [laws_FnExactHeapOrder.j0]
  refine EvP.no (by simp) ?_
  refine EvP.bind (markItems_ok (l := R) (by omega)) ?_
  rintro ⟨q, ql⟩ ⟨hq1, hq2, hq3⟩
  dsimp only at hq1 hq2 hq3 ⊢
  refine EvP.bind (heldItems_ok (n := R.length) (by omega) hq2 hq3) ?_
  rintro _ rfl
  refine EvP.no (by omega) (EvP.yes hq1.symm ?_)
  refine EvP.bind toH ?_
  rintro _ rfl
  refine EvP.bind him ?_
  intro q2 hq2'; obtain rfl := hq2'.symm
  refine EvP.bind (eqItems_same (l := R) (by omega)) ?_
  rintro _ rfl
  refine EvP.yes rfl ?_
  refine EvP.bind (heldItems_ok (n := R.length) (by omega) hq2 hq3) ?_
  rintro _ rfl
  exact EvP.no (by omega) (EvP.yes hq1.symm (EvP.ret rfl))

end Go.Proofs.Ytnklakficjpmoaa.Pure
