/- The program's FairJoin and the reference's answer alike, for every fair list, number and weight, and what is handed back is new memory. No condition. -/
import Derived.Test.YtppmbdfbhahngaaPFnExactFairJoinx
import Derived.Laws.BitsLemmas
namespace Go.Proofs.Ytppmbdfbhahngaa.Pure
open Go.RowKit Go.Proofs.Ytppmbdfbhahngaa.PFnExactFairJoin Go.Proofs.YtppmbdfbhahngaaW.PrintWords Go.Proofs.YtppmbdfbhahngaaW.PrintLast Go.Proofs.YtppmbdfbhahngaaW.PrintMore
set_option linter.unusedVariables false
set_option linter.unusedSimpArgs false

def EvP {α : Type} (g : Nat → Option α) (P : α → Prop) : Prop := ∃ r, Ev g r ∧ P r
theorem EvP.ret {α : Type} {r : α} {P : α → Prop} (h : P r) : EvP (fun _ => some r) P := ⟨r, Ev.now r, h⟩
theorem EvP.bind {α β : Type} {g : Nat → Option α} {f : Nat → α → Option β} {P : α → Prop} {Q : β → Prop} (h : EvP g P) (k : ∀ r, P r → EvP (fun n => f n r) Q) : EvP (fun n => (g n).bind (f n)) Q := by
  obtain ⟨r, hr, hp⟩ := h
  obtain ⟨q, hq, hQ⟩ := k r hp
  exact ⟨q, Ev.bind hr hq, hQ⟩
theorem EvP.ite {α : Type} {c : Prop} [Decidable c] {a b : Nat → Option α} {Q : α → Prop} (h : c → EvP a Q) (h' : ¬ c → EvP b Q) : EvP (fun n => if c then a n else b n) Q := by
  by_cases hc : c
  · simp only [if_pos hc]; exact h hc
  · simp only [if_neg hc]; exact h' hc
theorem EvP.yes {α : Type} {c : Prop} [Decidable c] {a b : Nat → Option α} {Q : α → Prop} (hc : c) (h : EvP a Q) : EvP (fun n => if c then a n else b n) Q := by
  simp only [if_pos hc]; exact h
theorem EvP.no {α : Type} {c : Prop} [Decidable c] {a b : Nat → Option α} {Q : α → Prop} (hc : ¬ c) (h : EvP b Q) : EvP (fun n => if c then a n else b n) Q := by
  simp only [if_neg hc]; exact h
theorem EvP.step {α : Type} {g : Nat → Option α} {Q : α → Prop} (h : EvP (fun k => g (k + 1)) Q) : EvP g Q := by
  obtain ⟨r, hr, hq⟩ := h
  exact ⟨r, Ev.step (fun _ => rfl) hr, hq⟩
theorem EvP.mono {α : Type} {g : Nat → Option α} {P Q : α → Prop} (h : EvP g P) (hpq : ∀ r, P r → Q r) : EvP g Q := by
  obtain ⟨r, hr, hp⟩ := h
  exact ⟨r, hr, hpq r hp⟩
theorem EvP.rounds {α : Type} {g : Nat → Option α} {r : α} (h : EvP g (fun x => x = r)) : ∃ k, g k = some r := by
  obtain ⟨q, hq, rfl⟩ := h
  exact hq.rounds
theorem w64 {x : Int} (h0 : -9223372036854775808 ≤ x) (h1 : x ≤ 9223372036854775807) : wrap64 x = x := by unfold wrap64; omega
theorem mx_le (a b : Int) : a ≤ mx a b ∧ b ≤ mx a b ∧ (mx a b = a ∨ mx a b = b) := by unfold mx; split <;> omega
theorem mn_le (a b : Int) : mn a b ≤ a ∧ mn a b ≤ b ∧ (mn a b = a ∨ mn a b = b) := by unfold mn; split <;> omega
def TagP (a b c : Int) : Prop := (0 ≤ a ∧ a ≤ 1000000000000) ∧ (0 ≤ b ∧ b ≤ 1000000000000) ∧ 0 ≤ c ∧ c ≤ 1000000000000
def NarrowP (a b c d : Int) : Prop := TagP a b c ∧ (0 ≤ d ∧ d ≤ 10000000) ∧ mx (mx a b) c - d ≤ mn (mn a b) c
theorem top_in {a b c : Int} (h : TagP a b c) : 0 ≤ mx (mx a b) c ∧ mx (mx a b) c ≤ 1000000000000 := by
  obtain ⟨h1, h2, h3⟩ := h
  have e1 := mx_le a b
  have e2 := mx_le (mx a b) c
  omega
theorem specAll_ok (a b c x y : Int) : EvP (fun _ => spec_l13All.f a b c x y) (fun r => r = true ↔ (x ≤ a ∧ a ≤ y) ∧ (x ≤ b ∧ b ≤ y) ∧ x ≤ c ∧ c ≤ y) := by
  unfold spec_l13All.f
  refine EvP.ite (fun h1 => ?_) (fun h => EvP.ret ⟨(fun h => by cases h), fun z => by omega⟩)
  refine EvP.ite (fun h2 => ?_) (fun h => EvP.ret ⟨(fun h => by cases h), fun z => by omega⟩)
  refine EvP.ite (fun h3 => ?_) (fun h => EvP.ret ⟨(fun h => by cases h), fun z => by omega⟩)
  refine EvP.ite (fun h4 => ?_) (fun h => EvP.ret ⟨(fun h => by cases h), fun z => by omega⟩)
  refine EvP.ite (fun h5 => EvP.ret ?_) (fun h => EvP.ret ⟨(fun h => by cases h), fun z => by omega⟩)
  rw [decide_eq_true_iff]; omega
theorem specTag_ok (a b c : Int) : EvP (fun _ => spec_TagOk.f a b c) (fun r => r = true ↔ TagP a b c) := by
  unfold spec_TagOk.f
  exact EvP.bind (specAll_ok a b c _ _) (fun r h => EvP.ret h)
theorem specDelta_ok (a : Int) : EvP (fun _ => spec_l13Delta.f a) (fun r => r = true ↔ 0 ≤ a ∧ a ≤ 10000000) := by
  unfold spec_l13Delta.f
  refine EvP.ite (fun h => EvP.ret ?_) (fun h => EvP.ret ⟨(fun h => by cases h), fun z => by omega⟩)
  rw [decide_eq_true_iff]; omega
theorem specTop_ok (a b c : Int) : EvP (fun _ => spec_VecTop.f a b c) (fun r => r = mx (mx a b) c) := EvP.ret rfl
theorem implTop_ok (a b c : Int) : EvP (fun _ => impl_VecTop.f a b c) (fun r => r = mx (mx a b) c) := EvP.ret rfl
theorem specNarrow_ok (a b c d : Int) : EvP (fun _ => spec_Narrow.f a b c d) (fun r => r = true ↔ NarrowP a b c d) := by
  unfold spec_Narrow.f
  refine EvP.bind (specTag_ok a b c) (fun t ht => ?_)
  refine EvP.ite (fun h1 => ?_) (fun h => EvP.ret ⟨(fun h => by cases h), fun z => absurd (ht.2 z.1) h⟩)
  refine EvP.bind (specDelta_ok d) (fun u hu => ?_)
  refine EvP.ite (fun h2 => ?_) (fun h => EvP.ret ⟨(fun h => by cases h), fun z => absurd (hu.2 z.2.1) h⟩)
  refine EvP.bind (specTop_ok a b c) ?_
  rintro _ rfl
  have hT := ht.1 h1
  have hD := hu.1 h2
  have hm := top_in hT
  refine EvP.ret ?_
  rw [decide_eq_true_iff, w64 (by omega) (by omega)]
  exact ⟨fun h => ⟨hT, hD, by omega⟩, fun z => by have := z.2.2; omega⟩
theorem within_ev (a b c : Int) : EvP (fun _ => impl_within.f a b c) (fun r => r = true ↔ b ≤ a ∧ a ≤ c) := by
  unfold impl_within.f
  refine EvP.ite (fun h => EvP.ret ?_) (fun h => EvP.ret ⟨(fun h => by cases h), fun z => by omega⟩)
  rw [decide_eq_true_iff]; omega
theorem isFrom_ok (a b c x y : Int) : EvP (fun _ => impl_Vec_isFrom.f a b c x y) (fun r => r = true ↔ (x ≤ a ∧ a ≤ y) ∧ (x ≤ b ∧ b ≤ y) ∧ x ≤ c ∧ c ≤ y) := by
  unfold impl_Vec_isFrom.f
  refine EvP.bind (within_ev a x y) (fun t ht => ?_)
  refine EvP.ite (fun h1 => ?_) (fun h => EvP.ret ⟨(fun h => by cases h), fun z => absurd (ht.2 z.1) h⟩)
  refine EvP.bind (within_ev b x y) (fun u hu => ?_)
  refine EvP.ite (fun h2 => ?_) (fun h => EvP.ret ⟨(fun h => by cases h), fun z => absurd (hu.2 z.2.1) h⟩)
  refine EvP.bind (within_ev c x y) (fun v hv => EvP.ret ?_)
  have h3 := ht.1 h1
  have h4 := hu.1 h2
  rw [hv]; exact ⟨fun h => ⟨h3, h4, h⟩, fun z => z.2.2⟩
theorem implTag_ok (a b c : Int) : EvP (fun _ => impl_TagOk.f a b c) (fun r => r = true ↔ TagP a b c) := by
  unfold impl_TagOk.f
  exact EvP.bind (isFrom_ok a b c _ _) (fun r h => EvP.ret h)
theorem implDelta_ok (a : Int) : EvP (fun _ => impl_isDelta.f a) (fun r => r = true ↔ 0 ≤ a ∧ a ≤ 10000000) := by
  unfold impl_isDelta.f
  exact EvP.bind (within_ev a _ _) (fun r h => EvP.ret h)
theorem implNarrow_ok (a b c d : Int) : EvP (fun _ => impl_Narrow.f a b c d) (fun r => r = true ↔ NarrowP a b c d) := by
  unfold impl_Narrow.f
  refine EvP.bind (implTag_ok a b c) (fun t ht => ?_)
  refine EvP.ite (fun h1 => ?_) (fun h => EvP.ret ⟨(fun h => by cases h), fun z => absurd (ht.2 z.1) h⟩)
  refine EvP.bind (implDelta_ok d) (fun u hu => ?_)
  refine EvP.ite (fun h2 => ?_) (fun h => EvP.ret ⟨(fun h => by cases h), fun z => absurd (hu.2 z.2.1) h⟩)
  refine EvP.bind (implTop_ok a b c) ?_
  rintro _ rfl
  have hT := ht.1 h1
  have hD := hu.1 h2
  have hm := top_in hT
  have e1 := mn_le a b
  have e2 := mn_le (mn a b) c
  refine EvP.bind (isFrom_ok a b c _ _) (fun v hv => EvP.ret ?_)
  rw [hv, w64 (by omega) (by omega)]
  obtain ⟨z1, z2, z3⟩ := id hT
  exact ⟨fun h => ⟨hT, hD, by omega⟩, fun z => by have := z.2.2; omega⟩
def strideOf (w : Int) : Int := if 1 ≤ w ∧ w ≤ 10 then 2520 / w else 0
theorem stride_in {w : Int} (h0 : 1 ≤ w) (h1 : w ≤ 10) : 252 ≤ 2520 / w ∧ 2520 / w ≤ 2520 := by
  constructor
  · exact (Int.le_ediv_iff_mul_le (by omega)).2 (by omega)
  · exact Int.ediv_le_self _ (by decide)
theorem strideOf_in (w : Int) : 0 ≤ strideOf w ∧ strideOf w ≤ 2520 := by
  unfold strideOf
  split
  · rename_i h; have := stride_in h.1 h.2; omega
  · omega
theorem strideOf_zero (w : Int) : strideOf w = 0 ↔ ¬ (1 ≤ w ∧ w ≤ 10) := by
  unfold strideOf
  split
  · rename_i h; have := stride_in h.1 h.2; exact ⟨fun e => by omega, fun n => absurd h n⟩
  · rename_i h; exact ⟨fun _ => h, fun _ => rfl⟩
theorem specStride_ok (w : Int) : EvP (fun _ => spec_Stride.f w) (fun r => r = strideOf w) := by
  unfold spec_Stride.f
  refine EvP.ite (fun h => EvP.ret ?_) (fun h => ?_)
  · exact ((strideOf_zero w).2 (by omega)).symm
  refine EvP.ite (fun h => EvP.ret ?_) (fun h' => ?_)
  · exact ((strideOf_zero w).2 (by omega)).symm
  refine EvP.no (by omega) (EvP.ret ?_)
  have := stride_in (w := w) (by omega) (by omega)
  unfold strideOf
  rw [w64 (by omega) (by omega), if_pos (by omega)]
theorem isFlow_ok (a : Int) : EvP (fun _ => impl_isFlow.f a) (fun r => r = true ↔ 0 ≤ a ∧ a ≤ 9999) := by
  unfold impl_isFlow.f
  exact EvP.bind (within_ev a _ _) (fun r h => EvP.ret h)
theorem isWeight_ok (a : Int) : EvP (fun _ => impl_isWeight.f a) (fun r => r = true ↔ 1 ≤ a ∧ a ≤ 10) := by
  unfold impl_isWeight.f
  exact EvP.bind (within_ev a _ _) (fun r h => EvP.ret h)
theorem implStride_ok (w : Int) : EvP (fun _ => impl_Stride.f w) (fun r => r = strideOf w) := by
  unfold impl_Stride.f
  refine EvP.bind (isWeight_ok w) (fun t ht => ?_)
  refine EvP.ite (fun h => ?_) (fun h => EvP.ret ?_)
  · have hw := ht.1 h
    refine EvP.no (by omega) (EvP.ret ?_)
    have := stride_in (w := w) (by omega) (by omega)
    unfold strideOf
    rw [w64 (by omega) (by omega), if_pos (by omega)]
  · exact ((strideOf_zero w).2 (fun z => h (ht.2 z))).symm
def kidOf (x : S81) : S46 := ⟨x.f0, x.f1, x.f2, ⟨x.f3.f0, x.f3.f1, x.f3.f2⟩⟩
theorem rdk {l : List S46} {i : Int} (h0 : 0 ≤ i) (h1 : i < (l.length : Int)) : l[i.toNat]? = some (rd_T46 l i) := by
  unfold rd_T46
  rw [List.getD_eq_getElem?_getD, List.getElem?_eq_getElem (by omega)]; rfl
theorem rdk85 {l : List S81} {i : Int} (h0 : 0 ≤ i) (h1 : i < (l.length : Int)) : l[i.toNat]? = some (rd_T81 l i) := by
  unfold rd_T81
  rw [List.getD_eq_getElem?_getD, List.getElem?_eq_getElem (by omega)]; rfl
theorem toVec_ok (a b c : Int) : EvP (fun _ => laws_toVec.f a b c) (fun r => r = (a, b, c)) := EvP.ret rfl
theorem toKid_ok (a b : Int) (c : Bool) (d e f : Int) : EvP (fun _ => laws_toKid.f a b c d e f) (fun r => r = (a, b, c, d, e, f)) := by
  unfold laws_toKid.f
  refine EvP.bind (toVec_ok d e f) ?_
  rintro _ rfl
  exact EvP.ret rfl
theorem toKidS_l0 {l : List S81} (hl : (l.length : Int) ≤ 100000000) : ∀ (d : Nat) (out : List S46) (i : Int), 0 ≤ i → i + d = (l.length : Int) → out.length = l.length → (∀ j : Nat, (j : Int) < i → out[j]? = (l[j]?).map kidOf) → EvP (fun k => laws_toKidS.l0 k l out i) (fun r => r = l.map kidOf)
  | 0, out, i, h0, hi, ho, hv => by
    refine EvP.step ?_
    simp only [laws_toKidS.l0]
    refine EvP.no (by omega) (EvP.ret ?_)
    apply List.ext_getElem?
    intro j
    rw [List.getElem?_map]
    by_cases hj : j < l.length
    · exact hv j (by omega)
    · rw [List.getElem?_eq_none (by omega), List.getElem?_eq_none (by omega)]; rfl
  | d + 1, out, i, h0, hi, ho, hv => by
    refine EvP.step ?_
    simp only [laws_toKidS.l0]
    refine EvP.yes (by omega) (EvP.yes h0 (EvP.bind (toKid_ok _ _ _ _ _ _) ?_))
    rintro _ rfl
    refine EvP.yes (by omega) ?_
    rw [w64 (by omega) (by omega)]
    refine toKidS_l0 hl d _ (i + 1) (by omega) (by omega) (by rw [List.length_set]; exact ho) (fun j hj => ?_)
    rw [List.getElem?_set]
    by_cases e : i.toNat = j
    · rw [if_pos e, if_pos (by omega), ← e, rdk85 h0 (by omega)]; rfl
    · rw [if_neg e]; exact hv j (by omega)
theorem toKidS_ok {l : List S81} (hl : (l.length : Int) ≤ 100000000) : EvP (fun k => laws_toKidS.f k l) (fun r => r = l.map kidOf) := by
  unfold laws_toKidS.f
  exact EvP.yes (by omega) (EvP.yes (by omega) (toKidS_l0 hl l.length _ 0 (by omega) (by omega) (by simp) (fun j hj => by omega)))
theorem eqVec_ok (a b c d e f : Int) : EvP (fun _ => laws_eqVec.f a b c d e f) (fun r => r = true ↔ a = d ∧ b = e ∧ c = f) := by
  unfold laws_eqVec.f
  refine EvP.ite (fun h1 => ?_) (fun h => EvP.ret ⟨(fun h => by cases h), fun z => absurd z.1 h⟩)
  refine EvP.ite (fun h2 => ?_) (fun h => EvP.ret ⟨(fun h => by cases h), fun z => absurd z.2.1 h⟩)
  exact EvP.ite (fun h3 => EvP.ret ⟨fun _ => ⟨h1, h2, h3⟩, fun _ => rfl⟩) (fun h => EvP.ret ⟨(fun h => by cases h), fun z => absurd z.2.2 h⟩)
theorem eqKid_ok (x y : S46) : EvP (fun _ => laws_eqKid.f x.f0 x.f1 x.f2 x.f3.f0 x.f3.f1 x.f3.f2 y.f0 y.f1 y.f2 y.f3.f0 y.f3.f1 y.f3.f2) (fun r => r = true ↔ x = y) := by
  obtain ⟨a, b, c, ⟨d, e, f⟩⟩ := x
  obtain ⟨a', b', c', ⟨d', e', f'⟩⟩ := y
  unfold laws_eqKid.f
  simp only [S46.mk.injEq, S28.mk.injEq]
  refine EvP.ite (fun h1 => ?_) (fun h => EvP.ret ⟨(fun h => by cases h), fun z => absurd z.1 h⟩)
  refine EvP.ite (fun h2 => ?_) (fun h => EvP.ret ⟨(fun h => by cases h), fun z => absurd z.2.1 h⟩)
  refine EvP.ite (fun h3 => EvP.ret ⟨(fun h => by cases h), fun z => by simp [z.2.2.1] at h3⟩) (fun h3 => ?_)
  refine EvP.bind (eqVec_ok d e f d' e' f') (fun t ht => ?_)
  refine EvP.ite (fun h4 => EvP.ret ⟨fun _ => ⟨h1, h2, ?_, ht.1 h4⟩, fun _ => rfl⟩) (fun h => EvP.ret ⟨(fun h => by cases h), fun z => absurd (ht.2 z.2.2.2) h⟩)
  simpa using h3
theorem eqKidS_l0 {a b : List S46} (hl : a.length = b.length) (hm : (a.length : Int) ≤ 100000000) : ∀ (d : Nat) (i : Int), 0 ≤ i → i + d = (a.length : Int) → (∀ j : Nat, (j : Int) < i → a[j]? = b[j]?) → EvP (fun k => laws_eqKidS.l0 k a b i) (fun r => r = true ↔ a = b)
  | 0, i, h0, hi, hv => by
    refine EvP.step ?_
    simp only [laws_eqKidS.l0]
    refine EvP.no (by omega) (EvP.ret ⟨fun _ => ?_, fun _ => rfl⟩)
    apply List.ext_getElem?
    intro j
    by_cases hj : j < a.length
    · exact hv j (by omega)
    · rw [List.getElem?_eq_none (by omega), List.getElem?_eq_none (by omega)]
  | d + 1, i, h0, hi, hv => by
    refine EvP.step ?_
    simp only [laws_eqKidS.l0]
    refine EvP.yes (by omega) (EvP.yes h0 (EvP.yes (by omega) (EvP.bind (eqKid_ok (rd_T46 a i) (rd_T46 b i)) (fun t ht => ?_))))
    refine EvP.ite (fun h => ?_) (fun h => EvP.ret ⟨(fun h => by cases h), fun z => absurd (ht.2 (by rw [z])) h⟩)
    rw [w64 (by omega) (by omega)]
    refine eqKidS_l0 hl hm d (i + 1) (by omega) (by omega) (fun j hj => ?_)
    by_cases e : j = i.toNat
    · rw [e, rdk h0 (by omega), rdk h0 (by omega), ht.1 h]
    · exact hv j (by omega)
theorem eqKidS_ok {a b : List S46} (hm : (a.length : Int) ≤ 100000000) : EvP (fun k => laws_eqKidS.f k a b) (fun r => r = true ↔ a = b) := by
  unfold laws_eqKidS.f
  refine EvP.ite (fun h => eqKidS_l0 (by omega) hm a.length 0 (by omega) (by omega) (fun j hj => by omega)) (fun h => EvP.ret ⟨(fun h => by cases h), fun z => absurd (by rw [z]) h⟩)
theorem szKidS_ok (l : List S81) (hm : l.length ≤ 9223372036854775807) : EvP (fun _ => laws_szKidS.f l 1048576) (fun r => r = -1 ∨ (0 ≤ r ∧ (l.length : Int) ≤ 1048576)) := by
  unfold laws_szKidS.f
  rw [w64 (by omega) (by omega)]
  exact EvP.ite (fun h => EvP.ret (.inl rfl)) (fun h => EvP.ret (.inr (by omega)))
theorem szFair_ok (a b c d : Int) (l : List S81) (hm : l.length ≤ 9223372036854775807) : EvP (fun _ => laws_szFair.f a b c d l 1048576) (fun r => r = -1 ∨ (0 ≤ r ∧ (l.length : Int) ≤ 1048576)) := by
  unfold laws_szFair.f
  refine EvP.bind (szKidS_ok l hm) (fun t ht => ?_)
  exact EvP.ite (fun h => EvP.ret (.inl rfl)) (fun h => EvP.ret (by omega))
theorem toFair_ok {a b c d : Int} {l : List S81} (hl : (l.length : Int) ≤ 100000000) : EvP (fun k => laws_toFair.f k a b c d l) (fun r => r = (a, b, c, d, l.map kidOf)) := by
  unfold laws_toFair.f
  refine EvP.bind (toVec_ok b c d) ?_
  rintro _ rfl
  refine EvP.bind (toKidS_ok hl) ?_
  rintro _ rfl
  exact EvP.ret rfl
theorem eqFair_ok {a b c d a' b' c' d' : Int} {l m : List S46} (hl : (l.length : Int) ≤ 100000000) : EvP (fun k => laws_eqFair.f k a b c d l a' b' c' d' m) (fun r => r = true ↔ a = a' ∧ b = b' ∧ c = c' ∧ d = d' ∧ l = m) := by
  unfold laws_eqFair.f
  refine EvP.ite (fun h1 => ?_) (fun h => EvP.ret ⟨(fun h => by cases h), fun z => absurd z.1 h⟩)
  refine EvP.bind (eqVec_ok b c d b' c' d') (fun t ht => ?_)
  refine EvP.ite (fun h2 => ?_) (fun h => EvP.ret ⟨(fun h => by cases h), fun z => absurd (ht.2 ⟨z.2.1, z.2.2.1, z.2.2.2.1⟩) h⟩)
  refine EvP.bind (eqKidS_ok hl) (fun u hu => ?_)
  have h3 := ht.1 h2
  exact EvP.ite (fun h4 => EvP.ret ⟨fun _ => ⟨h1, h3.1, h3.2.1, h3.2.2, hu.1 h4⟩, fun _ => rfl⟩) (fun h => EvP.ret ⟨(fun h => by cases h), fun z => absurd (hu.2 z.2.2.2.2) h⟩)
def topOf (x : S46) : Int := mx (mx x.f3.f0 x.f3.f1) x.f3.f2
def FairKid (d T : Int) (x : S46) : Prop := (0 ≤ x.f0 ∧ x.f0 ≤ 9999) ∧ (1 ≤ x.f1 ∧ x.f1 ≤ 10) ∧ NarrowP x.f3.f0 x.f3.f1 x.f3.f2 d ∧ topOf x ≤ T + strideOf x.f1 * 2000 ∧ (x.f2 = true → T ≤ topOf x)
def FairAt (d T : Int) (l : List S46) (i : Int) : Prop := FairKid d T (rd_T46 l i) ∧ (0 < i → (rd_T46 l (i - 1)).f0 < (rd_T46 l i).f0)
def FairFrom (d T : Int) (l : List S46) (i : Int) : Prop := ∀ j, i ≤ j → j < (l.length : Int) → FairAt d T l j
def FairP (d a b c : Int) (l : List S46) : Prop := NarrowP a b c d ∧ mx (mx a b) c ≤ 100000000000 ∧ (l.length : Int) ≤ 48 ∧ FairFrom d (mx (mx a b) c) l 0
theorem FairFrom.step {d T i : Int} {l : List S46} (h : FairAt d T l i) : FairFrom d T l i ↔ FairFrom d T l (i + 1) :=
  ⟨fun g j h0 h1 => g j (by omega) h1, fun g j h0 h1 => by
    by_cases e : j = i
    · rw [e]; exact h
    · exact g j (by omega) h1⟩
theorem specBad_ok (i d a b c : Int) (l : List S46) (u v : Int) (w : Bool) (x y z : Int) : EvP (fun k => spec_FairOk.j2 k i true d a b c l u v w x y z) (fun r => r = false) := by
  refine EvP.step ?_
  simp only [spec_FairOk.j2]
  exact EvP.yes (by simp) (EvP.ret rfl)
theorem specFair_l0 {d a b c : Int} {l : List S46} (hl : (l.length : Int) ≤ 48) (hT0 : 0 ≤ mx (mx a b) c) (hT1 : mx (mx a b) c ≤ 100000000000) : ∀ (n : Nat) (i : Int), 0 ≤ i → i + n = (l.length : Int) → EvP (fun k => spec_FairOk.l0 k i d a b c l) (fun r => r = true ↔ FairFrom d (mx (mx a b) c) l i)
  | 0, i, h0, hi => by
    refine EvP.step ?_
    simp only [spec_FairOk.l0]
    exact EvP.no (by omega) (EvP.ret ⟨fun _ j h1 h2 => by omega, fun _ => rfl⟩)
  | n + 1, i, h0, hi => by
    have bad : ∀ (u v : Int) (w : Bool) (x y z : Int), ¬ FairAt d (mx (mx a b) c) l i → EvP (fun k => spec_FairOk.j2 k i true d a b c l u v w x y z) (fun r => r = true ↔ FairFrom d (mx (mx a b) c) l i) := fun u v w x y z h =>
      (specBad_ok i d a b c l u v w x y z).mono (fun r e => ⟨(fun e' => by rw [e] at e'; cases e'), fun g => absurd (g i (by omega) (by omega)) h⟩)
    have rest : ∀ (t : Bool), (t = true ↔ NarrowP (rd_T46 l i).f3.f0 (rd_T46 l i).f3.f1 (rd_T46 l i).f3.f2 d) → (0 ≤ (rd_T46 l i).f0 ∧ (rd_T46 l i).f0 ≤ 9999) → (1 ≤ (rd_T46 l i).f1 ∧ (rd_T46 l i).f1 ≤ 10) → (0 < i → (rd_T46 l (i - 1)).f0 < (rd_T46 l i).f0) →
        EvP (fun k => spec_FairOk.j2 k i (!t) d a b c l ((rd_T46 l i).f0) ((rd_T46 l i).f1) ((rd_T46 l i).f2) ((rd_T46 l i).f3.f0) ((rd_T46 l i).f3.f1) ((rd_T46 l i).f3.f2)) (fun r => r = true ↔ FairFrom d (mx (mx a b) c) l i) := by
      intro t ht hf hw ho
      cases t with
      | false => exact bad _ _ _ _ _ _ (fun g => by have := ht.2 g.1.2.2.1; cases this)
      | true =>
        have hn := ht.1 rfl
        have hs := strideOf_in (rd_T46 l i).f1
        refine EvP.step ?_
        simp only [spec_FairOk.j2]
        refine EvP.no (by simp) (EvP.bind (specTop_ok _ _ _) ?_)
        rintro _ rfl
        refine EvP.bind (specTop_ok _ _ _) ?_
        rintro _ rfl
        refine EvP.bind (specStride_ok _) ?_
        rintro _ rfl
        rw [w64 (x := strideOf _ * 2000) (by omega) (by omega), w64 (by omega) (by omega)]
        refine EvP.ite (fun h => EvP.ret ⟨(fun h => by cases h), fun g => ?_⟩) (fun h1 => ?_)
        · have := (g i (by omega) (by omega)).1.2.2.2.1
          unfold topOf at this; omega
        have good : ((rd_T46 l i).f2 = true → mx (mx a b) c ≤ topOf (rd_T46 l i)) → FairAt d (mx (mx a b) c) l i := fun g => ⟨⟨hf, hw, hn, by unfold topOf; omega, g⟩, ho⟩
        refine EvP.ite (fun h2 => ?_) (fun h2 => ?_)
        · refine EvP.bind (specTop_ok _ _ _) ?_
          rintro _ rfl
          refine EvP.bind (specTop_ok _ _ _) ?_
          rintro _ rfl
          refine EvP.ite (fun h => EvP.ret ⟨(fun h => by cases h), fun g => ?_⟩) (fun h3 => ?_)
          · have := (g i (by omega) (by omega)).1.2.2.2.2 h2
            unfold topOf at this; omega
          rw [w64 (by omega) (by omega), FairFrom.step (good (fun _ => by unfold topOf; omega))]
          exact specFair_l0 hl hT0 hT1 n (i + 1) (by omega) (by omega)
        · rw [w64 (by omega) (by omega), FairFrom.step (good (fun e => absurd e h2))]
          exact specFair_l0 hl hT0 hT1 n (i + 1) (by omega) (by omega)
    refine EvP.step ?_
    simp only [spec_FairOk.l0]
    refine EvP.yes (by omega) (EvP.yes h0 ?_)
    refine EvP.ite (fun h => bad _ _ _ _ _ _ (fun g => by have := g.1.1; omega)) (fun h1 => ?_)
    refine EvP.ite (fun h => bad _ _ _ _ _ _ (fun g => by have := g.1.1; omega)) (fun h2 => ?_)
    refine EvP.ite (fun h3 => ?_) (fun h3 => ?_)
    · rw [w64 (by omega) (by omega)]
      refine EvP.yes (by omega) (EvP.yes (by omega) ?_)
      refine EvP.ite (fun h => bad _ _ _ _ _ _ (fun g => by have := g.2 h3; omega)) (fun h4 => ?_)
      refine EvP.bind (specStride_ok _) ?_
      rintro _ rfl
      refine EvP.ite (fun h => bad _ _ _ _ _ _ (fun g => (strideOf_zero _).1 h g.1.2.1)) (fun h5 => ?_)
      refine EvP.bind (specNarrow_ok _ _ _ _) (fun t ht => ?_)
      exact rest t ht (by omega) (Decidable.not_not.1 (fun g => h5 ((strideOf_zero _).2 g))) (fun _ => by omega)
    · refine EvP.bind (specStride_ok _) ?_
      rintro _ rfl
      refine EvP.ite (fun h => bad _ _ _ _ _ _ (fun g => (strideOf_zero _).1 h g.1.2.1)) (fun h5 => ?_)
      refine EvP.bind (specNarrow_ok _ _ _ _) (fun t ht => ?_)
      exact rest t ht (by omega) (Decidable.not_not.1 (fun g => h5 ((strideOf_zero _).2 g))) (fun g => absurd g h3)
theorem specFair_ok (d a b c : Int) (l : List S46) : EvP (fun k => spec_FairOk.f k d a b c l) (fun r => r = true ↔ FairP d a b c l) := by
  have bad : ¬ FairP d a b c l → EvP (fun k => spec_FairOk.j0 k true d a b c l) (fun r => r = true ↔ FairP d a b c l) := fun h => by
    refine EvP.step ?_
    simp only [spec_FairOk.j0]
    exact EvP.yes (by simp) (EvP.ret ⟨(fun h => by cases h), fun g => absurd g h⟩)
  unfold spec_FairOk.f
  refine EvP.bind (specNarrow_ok _ _ _ _) (fun t ht => ?_)
  refine EvP.ite (fun h1 => ?_) (fun h => bad (fun g => h (ht.2 g.1)))
  refine EvP.bind (specTop_ok _ _ _) ?_
  rintro _ rfl
  refine EvP.ite (fun h => bad (fun g => by have := g.2.1; omega)) (fun h2 => ?_)
  have hn := ht.1 h1
  have hm := top_in hn.1
  refine EvP.step ?_
  simp only [spec_FairOk.j0]
  refine EvP.ite (fun h => EvP.ret ⟨(fun h => by cases h), fun g => ?_⟩) (fun h3 => ?_)
  · have := g.2.2.1
    rw [decide_eq_true_iff] at h; omega
  · rw [decide_eq_true_iff] at h3
    exact (specFair_l0 (by omega) hm.1 (by omega) l.length 0 (by omega) (by omega)).mono (fun r e => e.trans ⟨fun g => ⟨hn, by omega, by omega, g⟩, fun g => g.2.2.2⟩)
theorem implKid_ok {d a b c : Int} {l : List S46} (hT0 : 0 ≤ mx (mx a b) c) (hT1 : mx (mx a b) c ≤ 100000000000) (x : S46) : EvP (fun _ => impl_Fair_kidOk.f d a b c l x.f0 x.f1 x.f2 x.f3.f0 x.f3.f1 x.f3.f2) (fun r => r = true ↔ FairKid d (mx (mx a b) c) x) := by
  have hs := strideOf_in x.f1
  unfold impl_Fair_kidOk.f
  refine EvP.bind (implTop_ok _ _ _) ?_
  rintro _ rfl
  refine EvP.bind (implTop_ok _ _ _) ?_
  rintro _ rfl
  refine EvP.bind (isFlow_ok _) (fun t ht => ?_)
  refine EvP.ite (fun h1 => ?_) (fun h => EvP.ret ⟨(fun h => by cases h), fun z => absurd (ht.2 z.1) h⟩)
  refine EvP.bind (isWeight_ok _) (fun u hu => ?_)
  refine EvP.ite (fun h2 => ?_) (fun h => EvP.ret ⟨(fun h => by cases h), fun z => absurd (hu.2 z.2.1) h⟩)
  refine EvP.bind (implNarrow_ok _ _ _ _) (fun v hv => ?_)
  refine EvP.ite (fun h3 => ?_) (fun h => EvP.ret ⟨(fun h => by cases h), fun z => absurd (hv.2 z.2.2.1) h⟩)
  refine EvP.bind (implStride_ok _) ?_
  rintro _ rfl
  rw [w64 (x := strideOf _ * 2000) (by omega) (by omega), w64 (by omega) (by omega)]
  refine EvP.ite (fun h4 => ?_) (fun h => EvP.ret ⟨(fun h => by cases h), fun z => absurd z.2.2.2.1 h⟩)
  have hf := ht.1 h1
  have hw := hu.1 h2
  have hn := hv.1 h3
  refine EvP.ite (fun h5 => EvP.ret ?_) (fun h5 => EvP.ret ⟨fun _ => ⟨hf, hw, hn, h4, fun e => absurd e h5⟩, fun _ => rfl⟩)
  rw [decide_eq_true_iff]
  exact ⟨fun e => ⟨hf, hw, hn, h4, fun _ => e⟩, fun z => z.2.2.2.2 h5⟩
theorem implFair_l0 {d a b c : Int} {l : List S46} (hl : (l.length : Int) ≤ 48) (hT0 : 0 ≤ mx (mx a b) c) (hT1 : mx (mx a b) c ≤ 100000000000) : ∀ (n : Nat) (i : Int), 0 ≤ i → i + n = (l.length : Int) → EvP (fun k => impl_FairOk.l0 k l (l.length : Int) i d a b c l) (fun r => r = true ↔ FairFrom d (mx (mx a b) c) l i)
  | 0, i, h0, hi => by
    refine EvP.step ?_
    simp only [impl_FairOk.l0]
    exact EvP.no (by omega) (EvP.ret ⟨fun _ j h1 h2 => by omega, fun _ => rfl⟩)
  | n + 1, i, h0, hi => by
    refine EvP.step ?_
    simp only [impl_FairOk.l0]
    refine EvP.yes (by omega) (EvP.yes h0 (EvP.yes (by omega) (EvP.bind (implKid_ok hT0 hT1 (rd_T46 l i)) (fun t ht => ?_))))
    refine EvP.ite (fun h1 => ?_) (fun h => EvP.ret ⟨(fun h => by cases h), fun g => absurd (ht.2 (g i (by omega) (by omega)).1) h⟩)
    have hk := ht.1 h1
    rw [w64 (x := i + 1) (by omega) (by omega)]
    refine EvP.ite (fun h3 => ?_) (fun h3 => ?_)
    · rw [w64 (by omega) (by omega)]
      refine EvP.yes (by omega) (EvP.yes (by omega) ?_)
      refine EvP.ite (fun h => EvP.ret ⟨(fun h => by cases h), fun g => ?_⟩) (fun h4 => ?_)
      · have := (g i (by omega) (by omega)).2 h3
        omega
      · rw [FairFrom.step ⟨hk, fun _ => by omega⟩]
        exact implFair_l0 hl hT0 hT1 n (i + 1) (by omega) (by omega)
    · rw [FairFrom.step ⟨hk, fun g => absurd g h3⟩]
      exact implFair_l0 hl hT0 hT1 n (i + 1) (by omega) (by omega)
theorem implFair_ok (d a b c : Int) (l : List S46) : EvP (fun k => impl_FairOk.f k d a b c l) (fun r => r = true ↔ FairP d a b c l) := by
  have bad : ¬ FairP d a b c l → EvP (fun k => impl_FairOk.j0 k true d a b c l) (fun r => r = true ↔ FairP d a b c l) := fun h => by
    refine EvP.step ?_
    simp only [impl_FairOk.j0]
    exact EvP.yes (by simp) (EvP.ret ⟨(fun h => by cases h), fun g => absurd g h⟩)
  unfold impl_FairOk.f
  refine EvP.bind (implNarrow_ok _ _ _ _) (fun t ht => ?_)
  refine EvP.ite (fun h1 => ?_) (fun h => bad (fun g => h (ht.2 g.1)))
  refine EvP.bind (implTop_ok _ _ _) ?_
  rintro _ rfl
  refine EvP.ite (fun h => bad (fun g => by have := g.2.1; omega)) (fun h2 => ?_)
  have hn := ht.1 h1
  have hm := top_in hn.1
  refine EvP.step ?_
  simp only [impl_FairOk.j0]
  refine EvP.ite (fun h => EvP.ret ⟨(fun h => by cases h), fun g => ?_⟩) (fun h3 => ?_)
  · have := g.2.2.1
    rw [decide_eq_true_iff] at h; omega
  · rw [decide_eq_true_iff] at h3
    exact (implFair_l0 (by omega) hm.1 (by omega) l.length 0 (by omega) (by omega)).mono (fun r e => e.trans ⟨fun g => ⟨hn, by omega, by omega, g⟩, fun g => g.2.2.2⟩)
def atOf (l : List S46) (id : Int) : Int := idxP (fun x => x.f0 == id) l
theorem atOf_in (l : List S46) (id : Int) : ∀ (n : Nat), n = l.length → -1 ≤ atOf l id ∧ atOf l id < (l.length : Int) := by
  intro n hn
  unfold atOf
  induction l generalizing n with
  | nil => simp [idxP]
  | cons x t ih =>
    have := ih t.length rfl
    rw [idxP]
    simp only [List.length_cons]
    split
    · omega
    · split <;> omega
theorem specAt_l0 {d a b c id : Int} {l : List S46} (hl : (l.length : Int) ≤ 1048576) : ∀ (n : Nat) (i : Int), 0 ≤ i → i + n = (l.length : Int) → (∀ j : Nat, (j : Int) < i → ∀ y, l[j]? = some y → (y.f0 == id) = false) → EvP (fun k => spec_l18At.l0 k id i d a b c l) (fun r => r = atOf l id)
  | 0, i, h0, hi, hv => by
    refine EvP.step ?_
    simp only [spec_l18At.l0]
    refine EvP.no (by omega) (EvP.ret ?_)
    unfold atOf
    rw [idxP_miss l (fun j y hy => by
      by_cases hj : j < l.length
      · exact hv j (by omega) y hy
      · rw [List.getElem?_eq_none (by omega)] at hy; cases hy)]
  | n + 1, i, h0, hi, hv => by
    refine EvP.step ?_
    simp only [spec_l18At.l0]
    have hx := rdk (l := l) h0 (by omega)
    refine EvP.yes (by omega) (EvP.yes h0 (EvP.ite (fun h => EvP.ret ?_) (fun h => ?_)))
    · unfold atOf
      rw [idxP_hit l i.toNat (rd_T46 l i) hx (by simp [h]) (fun j y hj hy => hv j (by omega) y hy)]
      omega
    · rw [w64 (by omega) (by omega)]
      refine specAt_l0 hl n (i + 1) (by omega) (by omega) (fun j hj y hy => ?_)
      by_cases e : j = i.toNat
      · subst e
        rw [hx] at hy
        cases hy
        simpa using h
      · exact hv j (by omega) y hy
theorem specAt_ok (d a b c id : Int) {l : List S46} (hl : (l.length : Int) ≤ 1048576) : EvP (fun k => spec_l18At.f k d a b c l id) (fun r => r = atOf l id) := by
  unfold spec_l18At.f
  exact specAt_l0 hl l.length 0 (by omega) (by omega) (fun j hj => by omega)
theorem implAt_ok (d a b c id : Int) {l : List S46} (hl : (l.length : Int) ≤ 1048576) : EvP (fun _ => impl_Fair_at.f d a b c l id) (fun r => r = atOf l id) := by
  unfold impl_Fair_at.f
  exact EvP.yes (by omega) (EvP.ret rfl)
def kmk (x : Int) : S46 := ⟨x, x + 1, (Int.tmod (x + 2) 3 == 0), ⟨x + 3, x + 4, x + 5⟩⟩
theorem rdset {l : List S46} {i : Int} {v : S46} (h0 : 0 ≤ i) (h1 : i < (l.length : Int)) : rd_T46 (l.set i.toNat v) i = v := by
  unfold rd_T46
  rw [List.getD_eq_getElem?_getD, List.getElem?_set_self (by omega)]; rfl
def Marked (l : List S46) (n : Int) : Prop := ∀ j : Nat, (j : Int) < n → l[j]? = some (kmk (1 + 6 * (j : Int)))
theorem markKid_l0 {n : Nat} (hn : (n : Int) ≤ 100000000) : ∀ (d : Nat) (l : List S46) (x i : Int), 0 ≤ i → i + d = (n : Int) → l.length = n → x = 1 + 6 * i → Marked l i →
    EvP (fun k => laws_markKidS.l0 k l x i) (fun r => r.1 = 1 + 6 * (n : Int) ∧ r.2.length = n ∧ Marked r.2 n)
  | 0, l, x, i, h0, hi, hl, hx, hm => by
    refine EvP.step ?_
    simp only [laws_markKidS.l0]
    have e : i = (n : Int) := by omega
    subst e
    exact EvP.no (by omega) (EvP.ret ⟨by omega, hl, hm⟩)
  | d + 1, l, x, i, h0, hi, hl, hx, hm => by
    have h1 : i < (l.length : Int) := by omega
    have e1 : wrap64 (x + 1) = x + 1 := w64 (by omega) (by omega)
    have e2 : wrap64 (x + 1 + 1) = x + 2 := by rw [w64 (by omega) (by omega)]; omega
    have e3 : wrap64 (x + 2 + 1) = x + 3 := by rw [w64 (by omega) (by omega)]; omega
    have e4 : wrap64 (x + 3 + 1) = x + 4 := by rw [w64 (by omega) (by omega)]; omega
    have e5 : wrap64 (x + 4 + 1) = x + 5 := by rw [w64 (by omega) (by omega)]; omega
    have e6 : wrap64 (x + 5 + 1) = x + 6 := by rw [w64 (by omega) (by omega)]; omega
    have e7 : wrap64 (i + 1) = i + 1 := w64 (by omega) (by omega)
    refine EvP.step ?_
    simp only [laws_markKidS.l0, e1, e2, e3, e4, e5, e6, e7]
    refine EvP.yes h1 (EvP.yes h0 ?_)
    refine EvP.bind (EvP.ret rfl) ?_
    rintro _ rfl
    simp only [rdset h0 h1, List.set_set]
    refine EvP.bind (EvP.ret rfl) ?_
    rintro _ rfl
    simp only [rdset h0 h1, List.set_set]
    refine EvP.bind (EvP.ret rfl) ?_
    rintro _ rfl
    simp only [rdset h0 h1, List.set_set]
    refine EvP.bind (EvP.ret rfl) ?_
    rintro _ rfl
    simp only [rdset h0 h1, List.set_set]
    refine EvP.bind (EvP.ret rfl) ?_
    rintro _ rfl
    simp only [rdset h0 h1, List.set_set]
    refine markKid_l0 hn d _ (x + 6) (i + 1) (by omega) (by omega) (by rw [List.length_set]; exact hl) (by omega) (fun j hj => ?_)
    rw [List.getElem?_set]
    by_cases e : i.toNat = j
    · rw [if_pos e, if_pos (by omega)]
      have : (j : Int) = i := by omega
      rw [this, ← hx]; rfl
    · rw [if_neg e]; exact hm j (by omega)
theorem markFair_ok (a b c d : Int) {l : List S46} (hl : (l.length : Int) ≤ 100000000) :
    EvP (fun k => laws_markFair.f k a b c d l 1) (fun r => r.1 = 1 + 6 * (l.length : Int) ∧ r.2.length = l.length ∧ Marked r.2 l.length) := by
  unfold laws_markFair.f laws_markKidS.f
  refine EvP.bind (markKid_l0 hl l.length l 1 0 (by omega) (by omega) rfl (by omega) (fun j hj => by omega)) ?_
  intro r h
  exact EvP.ret h
theorem heldKid_l0 {n : Nat} (hn : (n : Int) ≤ 100000000) {l : List S46} (hl : l.length = n) (hm : Marked l n) : ∀ (d : Nat) (x i : Int), 0 ≤ i → i + d = (n : Int) → x = 1 + 6 * i →
    EvP (fun k => laws_heldKidS.l0 k l x i) (fun r => r = 1 + 6 * (n : Int))
  | 0, x, i, h0, hi, hx => by
    refine EvP.step ?_
    simp only [laws_heldKidS.l0]
    exact EvP.no (by omega) (EvP.ret (by omega))
  | d + 1, x, i, h0, hi, hx => by
    have h1 : i < (l.length : Int) := by omega
    have e1 : wrap64 (x + 1) = x + 1 := w64 (by omega) (by omega)
    have e2 : wrap64 (x + 1 + 1) = x + 2 := by rw [w64 (by omega) (by omega)]; omega
    have e3 : wrap64 (x + 2 + 1) = x + 3 := by rw [w64 (by omega) (by omega)]; omega
    have e4 : wrap64 (x + 3 + 1) = x + 4 := by rw [w64 (by omega) (by omega)]; omega
    have e5 : wrap64 (x + 4 + 1) = x + 5 := by rw [w64 (by omega) (by omega)]; omega
    have e6 : wrap64 (x + 5 + 1) = x + 6 := by rw [w64 (by omega) (by omega)]; omega
    have e7 : wrap64 (i + 1) = i + 1 := w64 (by omega) (by omega)
    have hv : rd_T46 l i = kmk x := by
      have := hm i.toNat (by omega)
      rw [rdk h0 h1] at this
      rw [Option.some.inj this, hx, Int.toNat_of_nonneg h0]
    refine EvP.step ?_
    simp only [laws_heldKidS.l0, e1, e2, e3, e4, e5, e6, e7, hv, kmk]
    refine EvP.yes h1 (EvP.yes h0 (EvP.yes (by first | trivial | rfl) (EvP.yes (by first | trivial | rfl) (EvP.no (by simp) (EvP.yes (by first | trivial | rfl) (EvP.yes (by first | trivial | rfl) (EvP.yes (by first | trivial | rfl) ?_)))))))
    exact heldKid_l0 hn hl hm d (x + 6) (i + 1) (by omega) (by omega) (by omega)
theorem heldFair_ok (a b c d : Int) {l : List S46} {n : Nat} (hn : (n : Int) ≤ 100000000) (hl : l.length = n) (hm : Marked l n) :
    EvP (fun k => laws_heldFair.f k a b c d l 1) (fun r => r = 1 + 6 * (n : Int)) := by
  unfold laws_heldFair.f laws_heldKidS.f
  refine EvP.bind (heldKid_l0 hn hl hm n 1 0 (by omega) (by omega) (by omega)) ?_
  rintro _ rfl
  exact EvP.no (by omega) (EvP.ret rfl)
theorem eqFair_same (a b c d : Int) {l : List S46} (hl : (l.length : Int) ≤ 100000000) : EvP (fun k => laws_eqFair.f k a b c d l a b c d l) (fun r => r = true) :=
  (eqFair_ok hl).mono (fun r h => h.2 ⟨rfl, rfl, rfl, rfl, rfl⟩)
theorem neSelf (x : Int) : (x != x) = false := by simp
theorem implCopy_ok (d a b c : Int) {l : List S46} (hl : (l.length : Int) ≤ 100000000) : EvP (fun _ => impl_copyFair.f d a b c l) (fun r => r = (d, a, b, c, l)) := by
  unfold impl_copyFair.f
  refine EvP.bind (P := fun r => r = l) ?_ ?_
  · unfold impl_Kid_69.f
    refine EvP.bind (EvP.ret rfl) ?_
    rintro _ rfl
    refine EvP.yes (by simp only [List.length_nil]; omega) (EvP.ret ?_)
    rw [List.nil_append]
  rintro _ rfl
  exact EvP.ret rfl

theorem drop_rdK {l : List S46} {i : Int} (h0 : 0 ≤ i) (h1 : i < (l.length : Int)) : l.drop i.toNat = rd_T46 l i :: l.drop (i + 1).toNat := by
  have := rdk h0 h1
  rw [show (i + 1).toNat = i.toNat + 1 by omega, List.drop_eq_getElem_cons (by omega)]
  rw [List.getElem?_eq_getElem (by omega)] at this
  injection this with this
  rw [this]
theorem take_rdK {l : List S46} {i : Int} (h0 : 0 ≤ i) (h1 : i < (l.length : Int)) : l.take (i + 1).toNat = l.take i.toNat ++ [rd_T46 l i] := by
  have := rdk h0 h1
  rw [show (i + 1).toNat = i.toNat + 1 by omega, List.take_succ_eq_append_getElem (by omega)]
  rw [List.getElem?_eq_getElem (by omega)] at this
  injection this with this
  rw [this]
/-- where a new member comes -/
structure PlaceP (l : List S46) (id p : Int) : Prop where
  lo : 0 ≤ p
  hi : p ≤ (l.length : Int)
  bel : ∀ j, 0 ≤ j → j < p → (rd_T46 l j).f0 < id
  abv : ∀ j, p ≤ j → j < (l.length : Int) → id < (rd_T46 l j).f0
theorem asc_at {d T : Int} {l : List S46} (h : FairFrom d T l 0) : ∀ (n : Nat) (i : Int), 0 ≤ i → i + n < (l.length : Int) → (rd_T46 l i).f0 ≤ (rd_T46 l (i + n)).f0
  | 0, i, _, _ => by rw [show i + ((0 : Nat) : Int) = i by omega]; exact Int.le_refl _
  | n + 1, i, h0, h1 => by
    have ih := asc_at h n i h0 (by omega)
    have := (h (i + (n + 1 : Nat)) (by omega) h1).2 (by omega)
    rw [show i + ((n + 1 : Nat) : Int) - 1 = i + (n : Int) by omega] at this
    omega
theorem place_of {d T id : Int} {l : List S46} (h : FairFrom d T l 0) (hne : ∀ j, 0 ≤ j → j < (l.length : Int) → (rd_T46 l j).f0 ≠ id) {p : Int} (h0 : 0 ≤ p) (h1 : p ≤ (l.length : Int)) (hb : ∀ j, 0 ≤ j → j < p → (rd_T46 l j).f0 < id)
    (ha : p = (l.length : Int) ∨ ¬ (rd_T46 l p).f0 < id) : PlaceP l id p := by
  refine ⟨h0, h1, hb, fun j hj hl => ?_⟩
  rcases ha with ha | ha
  · omega
  · have h2 := asc_at h (j - p).toNat p h0 (by omega)
    rw [show p + (((j - p).toNat : Nat) : Int) = j by omega] at h2
    have := hne p h0 (by omega)
    omega
def kidN (id w : Int) : S46 := ⟨id, w, false, ⟨0, 0, 0⟩⟩
theorem implJoin_l0 {d a b c id w T : Int} {l : List S46} (hl : (l.length : Int) ≤ 48) (h : FairFrom d T l 0) (hne : ∀ j, 0 ≤ j → j < (l.length : Int) → (rd_T46 l j).f0 ≠ id) : ∀ (n : Nat) (i : Int), 0 ≤ i → i + n = (l.length : Int) → (∀ j, 0 ≤ j → j < i → (rd_T46 l j).f0 < id) →
    EvP (fun k => impl_FairJoin.l0 k id w i d a b c l) (fun r => ∃ p, PlaceP l id p ∧ r = (d, a, b, c, l.take p.toNat ++ kidN id w :: l.drop p.toNat, 0))
  | 0, i, h0, hi, hb => by
    refine EvP.step ?_
    simp only [impl_FairJoin.l0]
    refine EvP.no (by omega) (EvP.bind (implCopy_ok d a b c (by omega)) ?_)
    rintro _ rfl
    dsimp only
    exact EvP.yes h0 (EvP.yes (by omega) (EvP.yes (by omega) (EvP.ret ⟨i, place_of h hne h0 (by omega) hb (.inl (by omega)), rfl⟩)))
  | n + 1, i, h0, hi, hb => by
    have ih := fun hb => implJoin_l0 (d := d) (a := a) (b := b) (c := c) (id := id) (w := w) hl h hne n (i + 1) (by omega) (by omega) hb
    refine EvP.step ?_
    simp only [impl_FairJoin.l0]
    rw [w64 (x := i + 1) (by omega) (by omega)]
    refine EvP.yes (by omega) (EvP.yes h0 (EvP.ite (fun hlt => ?_) (fun hge => EvP.bind (implCopy_ok d a b c (by omega)) ?_)))
    · refine ih (fun j hj0 hj1 => ?_)
      by_cases e : j = i
      · rw [e]; exact hlt
      · exact hb j hj0 (by omega)
    · rintro _ rfl
      dsimp only
      exact EvP.yes (by omega) (EvP.yes (by omega) (EvP.ret ⟨i, place_of h hne h0 (by omega) hb (.inr hge), rfl⟩))
/-- what the reference has so far, before member i -/
def joined (l : List S46) (x : S46) (p i : Int) : List S46 := if i ≤ p then l.take i.toNat else l.take p.toNat ++ x :: (l.drop p.toNat).take (i - p).toNat
theorem drop_take_rdK {l : List S46} {p i : Int} (h0 : 0 ≤ p) (hp : p ≤ i) (h1 : i < (l.length : Int)) : (l.drop p.toNat).take (i + 1 - p).toNat = (l.drop p.toNat).take (i - p).toNat ++ [rd_T46 l i] := by
  have := rdk (show 0 ≤ i by omega) h1
  rw [show (i + 1 - p).toNat = (i - p).toNat + 1 by omega, List.take_add_one, List.getElem?_drop, show p.toNat + (i - p).toNat = i.toNat by omega, this]
  rfl
theorem joined_below {l : List S46} {x : S46} {p i : Int} (h0 : 0 ≤ i) (hi : i < p) (h1 : i < (l.length : Int)) : joined l x p (i + 1) = joined l x p i ++ [rd_T46 l i] := by
  unfold joined
  rw [if_pos (by omega), if_pos (by omega), take_rdK h0 h1]
theorem joined_at {l : List S46} {x : S46} {p : Int} (h0 : 0 ≤ p) (h1 : p < (l.length : Int)) : joined l x p (p + 1) = (joined l x p p ++ [x]) ++ [rd_T46 l p] := by
  unfold joined
  rw [if_neg (by omega), if_pos (by omega), drop_take_rdK h0 (by omega) h1, show (p - p).toNat = 0 by omega, List.take_zero, List.nil_append, List.append_assoc]
  rfl
theorem joined_above {l : List S46} {x : S46} {p i : Int} (h0 : 0 ≤ p) (hi : p < i) (h1 : i < (l.length : Int)) : joined l x p (i + 1) = joined l x p i ++ [rd_T46 l i] := by
  unfold joined
  rw [if_neg (by omega), if_neg (by omega), drop_take_rdK h0 (by omega) h1, List.append_assoc, List.cons_append]
theorem joined_len {l : List S46} {x : S46} {p i : Int} (h0 : 0 ≤ i) (hp : 0 ≤ p) (hi : i ≤ (l.length : Int)) : ((joined l x p i).length : Int) ≤ i + 1 := by
  unfold joined
  split
  · rw [List.length_take]; omega
  · rw [List.length_append, List.length_cons, List.length_take, List.length_take, List.length_drop]; omega
theorem specJoin_l0 {d a b c id w p : Int} {l : List S46} (hl : (l.length : Int) ≤ 48) (hp : PlaceP l id p) : ∀ (n : Nat) (i : Int), 0 ≤ i → i + n = (l.length : Int) →
    EvP (fun k => spec_FairJoin.l0 k id i d a b c l d a b c (joined l (kidN id w) p i) id w false 0 0 0) (fun r => r = (d, a, b, c, l.take p.toNat ++ kidN id w :: l.drop p.toNat, 0))
  | 0, i, h0, hi => by
    have hjl := joined_len (l := l) (x := kidN id w) (p := p) h0 hp.lo (by omega)
    refine EvP.step ?_
    simp only [spec_FairJoin.l0]
    refine EvP.no (by omega) ?_
    by_cases e : i ≤ p
    · have e2 : p = (l.length : Int) := by have := hp.hi; omega
      have hj : joined l (kidN id w) p i = l := by
        unfold joined
        rw [if_pos e, List.take_of_length_le (by omega)]
      rw [hj]
      refine EvP.yes rfl (EvP.yes (by omega) (EvP.ret ?_))
      rw [List.take_of_length_le (by omega), List.drop_of_length_le (by omega)]
      rfl
    · have hj : joined l (kidN id w) p i = l.take p.toNat ++ kidN id w :: l.drop p.toNat := by
        unfold joined
        rw [if_neg e, List.take_of_length_le (l := l.drop p.toNat) (by rw [List.length_drop]; omega)]
      rw [hj]
      refine EvP.no ?_ (EvP.ret rfl)
      have := hp.lo
      rw [List.length_append, List.length_cons, List.length_take, List.length_drop]
      omega
  | n + 1, i, h0, hi => by
    have ih := specJoin_l0 (d := d) (a := a) (b := b) (c := c) (w := w) hl hp n (i + 1) (by omega) (by omega)
    have hjl := joined_len (l := l) (x := kidN id w) (p := p) h0 hp.lo (by omega)
    have h1 : i < (l.length : Int) := by omega
    have hplo := hp.lo
    refine EvP.step ?_
    simp only [spec_FairJoin.l0]
    rw [w64 (x := i + 1) (by omega) (by omega), w64 (x := i - 1) (by omega) (by omega)]
    refine EvP.yes h1 (EvP.yes h0 ?_)
    by_cases e1 : i < p
    · have := hp.bel i h0 e1
      refine EvP.no (by omega) ?_
      rw [joined_below h0 e1 h1] at ih
      first | exact EvP.yes (by omega) (EvP.yes h1 (EvP.yes (by omega) ih)) | exact EvP.yes (by omega) ih
    · by_cases e2 : i = p
      · subst e2
        have := hp.abv i (by omega) h1
        rw [joined_at h0 h1] at ih
        refine EvP.yes (by omega) (EvP.ite (fun hz => ?_) (fun hz => ?_))
        · refine EvP.yes (by omega) ?_
          simp only [Option.bind_some]
          refine EvP.yes (by rw [List.length_append, List.length_singleton]; omega) ?_
          exact ih
        · have hb := hp.bel (i - 1) (by omega) (by omega)
          refine EvP.yes (by omega) (EvP.yes (by omega) (EvP.yes hb (EvP.yes (by omega) ?_)))
          simp only [Option.bind_some]
          refine EvP.yes (by rw [List.length_append, List.length_singleton]; omega) ?_
          exact ih
      · have := hp.abv i (by omega) h1
        have h3 := hp.abv (i - 1) (by omega) (by omega)
        rw [joined_above hplo (by omega) h1] at ih
        refine EvP.yes (by omega) (EvP.no (by omega) (EvP.yes (by omega) (EvP.yes (by omega) (EvP.no (by omega) ?_))))
        exact EvP.yes (by omega) ih
theorem atOf_none {l : List S46} {id : Int} (h : atOf l id < 0) : ∀ j, 0 ≤ j → j < (l.length : Int) → (rd_T46 l j).f0 ≠ id := by
  intro j h0 h1 e
  have hm := rdk (l := l) h0 h1
  unfold atOf at h
  have key : ∀ (t : List S46) (n : Nat) (x : S46), t[n]? = some x → x.f0 = id → 0 ≤ idxP (fun x => x.f0 == id) t := by
    intro t
    induction t with
    | nil => intro n x hx; simp at hx
    | cons y t ih =>
      intro n x hx hid
      rw [idxP]
      split
      · omega
      · rename_i hy
        cases n with
        | zero =>
          simp at hx
          subst hx
          exact absurd (by simp [hid]) hy
        | succ n =>
          have := ih n x (by simpa using hx) hid
          split <;> omega
  have := key l j.toNat _ hm e
  omega
theorem rest_ok (d a b c id w : Int) {l : List S46} (hl : (l.length : Int) ≤ 1048576) : ∃ R : Int × Int × Int × Int × List S46 × Int, (R.2.2.2.2.1.length : Int) ≤ 1048576 ∧
    EvP (fun k => spec_FairJoin.f k d a b c l id w) (fun r => r = R) ∧ EvP (fun k => impl_FairJoin.f k d a b c l id w) (fun r => r = R) := by
  have hin := atOf_in l id _ rfl
  have hsw := strideOf_zero w
  by_cases hF : FairP d a b c l
  · by_cases hok : 0 ≤ id ∧ id ≤ 9999 ∧ 1 ≤ w ∧ w ≤ 10
    · obtain ⟨i0, i1, w0, w1⟩ := hok
      have hsz : ¬ strideOf w = 0 := fun e => hsw.1 e ⟨w0, w1⟩
      by_cases hat : atOf l id ≥ 0
      · refine ⟨(0, 0, 0, 0, [], 2), by simp, ?_, ?_⟩
        · unfold spec_FairJoin.f
          refine EvP.bind (specFair_ok d a b c l) (fun t ht => EvP.yes (ht.2 hF) (EvP.no (by omega) (EvP.no (by omega) (EvP.bind (specStride_ok w) ?_))))
          rintro _ rfl
          refine EvP.step ?_
          simp only [spec_FairJoin.j0]
          refine EvP.no (by simpa using hsz) (EvP.bind (specAt_ok d a b c id hl) ?_)
          rintro _ rfl
          exact EvP.yes hat (EvP.ret rfl)
        · unfold impl_FairJoin.f
          refine EvP.bind (implFair_ok d a b c l) (fun t ht => EvP.yes (ht.2 hF) (EvP.bind (isFlow_ok id) (fun t1 h1 => EvP.yes (h1.2 ⟨i0, i1⟩) (EvP.bind (isWeight_ok w) (fun t2 h2 => ?_)))))
          refine EvP.step ?_
          simp only [impl_FairJoin.j0]
          refine EvP.no (by rw [h2.2 ⟨w0, w1⟩]; simp) (EvP.bind (implAt_ok d a b c id hl) ?_)
          rintro _ rfl
          exact EvP.yes hat (EvP.ret rfl)
      · have hne := atOf_none (l := l) (id := id) (by omega)
        have h48 := hF.2.2.1
        by_cases hfull : (l.length : Int) = 48
        · refine ⟨(0, 0, 0, 0, [], 3), by simp, ?_, ?_⟩
          · unfold spec_FairJoin.f
            refine EvP.bind (specFair_ok d a b c l) (fun t ht => EvP.yes (ht.2 hF) (EvP.no (by omega) (EvP.no (by omega) (EvP.bind (specStride_ok w) ?_))))
            rintro _ rfl
            refine EvP.step ?_
            simp only [spec_FairJoin.j0]
            refine EvP.no (by simpa using hsz) (EvP.bind (specAt_ok d a b c id hl) ?_)
            rintro _ rfl
            exact EvP.no hat (EvP.yes hfull (EvP.ret rfl))
          · unfold impl_FairJoin.f
            refine EvP.bind (implFair_ok d a b c l) (fun t ht => EvP.yes (ht.2 hF) (EvP.bind (isFlow_ok id) (fun t1 h1 => EvP.yes (h1.2 ⟨i0, i1⟩) (EvP.bind (isWeight_ok w) (fun t2 h2 => ?_)))))
            refine EvP.step ?_
            simp only [impl_FairJoin.j0]
            refine EvP.no (by rw [h2.2 ⟨w0, w1⟩]; simp) (EvP.bind (implAt_ok d a b c id hl) ?_)
            rintro _ rfl
            exact EvP.no hat (EvP.yes hfull (EvP.ret rfl))
        · have hI := implJoin_l0 (d := d) (a := a) (b := b) (c := c) (id := id) (w := w) h48 hF.2.2.2 hne l.length 0 (by omega) (by omega) (fun j h0 h1 => by omega)
          obtain ⟨r, hr, p, hp, rfl⟩ := hI
          refine ⟨(d, a, b, c, l.take p.toNat ++ kidN id w :: l.drop p.toNat, 0), by dsimp only; rw [List.length_append, List.length_cons, List.length_take, List.length_drop]; omega, ?_, ?_⟩
          · unfold spec_FairJoin.f
            refine EvP.bind (specFair_ok d a b c l) (fun t ht => EvP.yes (ht.2 hF) (EvP.no (by omega) (EvP.no (by omega) (EvP.bind (specStride_ok w) ?_))))
            rintro _ rfl
            refine EvP.step ?_
            simp only [spec_FairJoin.j0]
            refine EvP.no (by simpa using hsz) (EvP.bind (specAt_ok d a b c id hl) ?_)
            rintro _ rfl
            refine EvP.no hat (EvP.no hfull ?_)
            have := specJoin_l0 (d := d) (a := a) (b := b) (c := c) (w := w) h48 hp l.length 0 (by omega) (by omega)
            unfold joined at this
            rw [if_pos hp.lo, Int.toNat_zero, List.take_zero] at this
            exact this
          · unfold impl_FairJoin.f
            refine EvP.bind (implFair_ok d a b c l) (fun t ht => EvP.yes (ht.2 hF) (EvP.bind (isFlow_ok id) (fun t1 h1 => EvP.yes (h1.2 ⟨i0, i1⟩) (EvP.bind (isWeight_ok w) (fun t2 h2 => ?_)))))
            refine EvP.step ?_
            simp only [impl_FairJoin.j0]
            refine EvP.no (by rw [h2.2 ⟨w0, w1⟩]; simp) (EvP.bind (implAt_ok d a b c id hl) ?_)
            rintro _ rfl
            exact EvP.no hat (EvP.no hfull ⟨_, hr, rfl⟩)
    · refine ⟨(0, 0, 0, 0, [], 1), by simp, ?_, ?_⟩
      · unfold spec_FairJoin.f
        have hbad : EvP (fun k => spec_FairJoin.j0 k id w true d a b c l) (fun r => r = (0, 0, 0, 0, [], 1)) := EvP.step (by simp only [spec_FairJoin.j0]; exact EvP.yes trivial (EvP.ret rfl))
        refine EvP.bind (specFair_ok d a b c l) (fun t ht => EvP.yes (ht.2 hF) (EvP.ite (fun _ => hbad) (fun h0 => EvP.ite (fun _ => hbad) (fun h1 => EvP.bind (specStride_ok w) ?_))))
        rintro _ rfl
        have : strideOf w = 0 := hsw.2 (fun h => hok ⟨by omega, by omega, h.1, h.2⟩)
        rw [this]
        exact hbad
      · unfold impl_FairJoin.f
        have hbad : EvP (fun k => impl_FairJoin.j0 k id w true d a b c l) (fun r => r = (0, 0, 0, 0, [], 1)) := EvP.step (by simp only [impl_FairJoin.j0]; exact EvP.yes trivial (EvP.ret rfl))
        refine EvP.bind (implFair_ok d a b c l) (fun t ht => EvP.yes (ht.2 hF) (EvP.bind (isFlow_ok id) (fun t1 h1 => EvP.ite (fun e1 => EvP.bind (isWeight_ok w) (fun t2 h2 => ?_)) (fun _ => hbad))))
        have : t2 = false := by
          cases t2 with
          | false => rfl
          | true => exact absurd ⟨(h1.1 e1).1, (h1.1 e1).2, (h2.1 rfl).1, (h2.1 rfl).2⟩ hok
        rw [this]
        exact hbad
  · refine ⟨(0, 0, 0, 0, [], 1), by simp, ?_, ?_⟩
    · unfold spec_FairJoin.f
      refine EvP.bind (specFair_ok d a b c l) (fun t ht => EvP.no (fun g => hF (ht.1 g)) (EvP.step ?_))
      simp only [spec_FairJoin.j0]
      exact EvP.yes trivial (EvP.ret rfl)
    · unfold impl_FairJoin.f
      refine EvP.bind (implFair_ok d a b c l) (fun t ht => EvP.no (fun g => hF (ht.1 g)) (EvP.step ?_))
      simp only [impl_FairJoin.j0]
      exact EvP.yes trivial (EvP.ret rfl)
theorem FnExactFairJoin : laws_FnExactFairJoin.Pure := by
  intro d a b c l id w hw hid hww
  obtain ⟨hf, hv, hlm, hl⟩ := hw
  have hm : l.length ≤ 9223372036854775807 := hlm
  refine EvP.rounds ?_
  unfold laws_FnExactFairJoin.f
  refine EvP.bind (szFair_ok d a b c l hm) ?_
  intro z hz
  refine EvP.ite (fun _ => EvP.ret rfl) (fun hz0 => ?_)
  have hs : ((l.map kidOf).length : Int) ≤ 1048576 := by rw [List.length_map]; omega
  obtain ⟨⟨r0, r1, r2, r3, rl, rc⟩, hR, hsp, him⟩ := rest_ok d a b c id w hs
  dsimp only at hR
  have toF := toFair_ok (a := d) (b := a) (c := b) (d := c) (l := l) (by omega)
  refine EvP.bind toF ?_
  rintro _ rfl
  refine EvP.bind hsp ?_
  rintro _ rfl
  refine EvP.bind toF ?_
  rintro _ rfl
  refine EvP.bind him ?_
  rintro _ rfl
  dsimp only
  refine EvP.bind (eqFair_same r0 r1 r2 r3 (l := rl) (by omega)) ?_
  rintro _ rfl
  refine EvP.yes rfl ?_
  rw [neSelf]
  refine EvP.step ?_
  simp only [laws_FnExactFairJoin.j0]
  refine EvP.no (by simp) ?_
  refine EvP.bind toF ?_
  rintro _ rfl
  refine EvP.bind (eqFair_same d a b c (by omega)) ?_
  rintro _ rfl
  refine EvP.yes rfl ?_
  refine EvP.bind (markFair_ok d a b c (l := l.map kidOf) (by omega)) ?_
  rintro ⟨m, ml⟩ ⟨hm1, _, _⟩
  dsimp only at hm1 ⊢
  refine EvP.no (by omega) ?_
  refine EvP.bind (eqFair_same r0 r1 r2 r3 (l := rl) (by omega)) ?_
  rintro _ rfl
  refine EvP.yes rfl ?_
  rw [neSelf]
  refine EvP.step ?_
  simp only [laws_FnExactFairJoin.j1]
  refine EvP.no (by simp) ?_
  refine EvP.bind (markFair_ok r0 r1 r2 r3 (l := rl) (by omega)) ?_
  rintro ⟨q, ql⟩ ⟨hq1, hq2, hq3⟩
  dsimp only at hq1 hq2 hq3 ⊢
  refine EvP.bind (heldFair_ok r0 r1 r2 r3 (n := rl.length) (by omega) hq2 hq3) ?_
  rintro _ rfl
  refine EvP.no (by omega) (EvP.yes hq1.symm ?_)
  refine EvP.bind toF ?_
  rintro _ rfl
  refine EvP.bind him ?_
  rintro _ rfl
  dsimp only
  refine EvP.bind (eqFair_same r0 r1 r2 r3 (l := rl) (by omega)) ?_
  rintro _ rfl
  refine EvP.yes rfl ?_
  rw [neSelf]
  refine EvP.step ?_
  simp only [laws_FnExactFairJoin.j2]
  refine EvP.no (by simp) ?_
  refine EvP.bind (heldFair_ok r0 r1 r2 r3 (n := rl.length) (by omega) hq2 hq3) ?_
  rintro _ rfl
  exact EvP.no (by omega) (EvP.yes hq1.symm (EvP.ret rfl))

end Go.Proofs.Ytppmbdfbhahngaa.Pure
