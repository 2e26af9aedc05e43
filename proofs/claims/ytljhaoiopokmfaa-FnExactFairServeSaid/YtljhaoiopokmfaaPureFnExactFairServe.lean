/- The program's FairServe and the reference's answer alike, for every fair list, charge and sign, and what is handed back is new memory. No condition. -/
import Derived.Test.YtljhaoiopokmfaaPFnExactFairServex
import Derived.Laws.BitsLemmas
namespace Go.Proofs.Ytljhaoiopokmfaa.Pure
open Go.RowKit Go.Proofs.Ytljhaoiopokmfaa.PFnExactFairServe Go.Proofs.YtljhaoiopokmfaaW.PrintWords Go.Proofs.YtljhaoiopokmfaaW.PrintLast Go.Proofs.YtljhaoiopokmfaaW.PrintMore
set_option linter.unusedVariables false
set_option linter.unusedSimpArgs false

def EvP {α : Type} (g : Nat → Option α) (P : α → Prop) : Prop := ∃ r, Ev g r ∧ P r
theorem EvP.of {α : Type} {o : Option α} {P : α → Prop} (h : ∃ r, o = some r ∧ P r) : EvP (fun _ => o) P := by
  obtain ⟨r, rfl, hp⟩ := h
  exact ⟨r, Ev.now r, hp⟩
theorem EvP.ret {α : Type} {r : α} {P : α → Prop} (h : P r) : EvP (fun _ => some r) P := ⟨r, Ev.now r, h⟩
theorem EvP.bind {α β : Type} {g : Nat → Option α} {f : Nat → α → Option β} {P : α → Prop} {Q : β → Prop} (h : EvP g P) (k : ∀ r, P r → EvP (fun n => f n r) Q) : EvP (fun n => (g n).bind (f n)) Q := by
  obtain ⟨r, hr, hp⟩ := h
  obtain ⟨q, hq, hQ⟩ := k r hp
  exact ⟨q, Ev.bind hr hq, hQ⟩
theorem EvP.ite {α : Type} {c : Prop} [Decidable c] {a b : Nat → Option α} {Q : α → Prop} (h : c → EvP a Q) (h' : ¬ c → EvP b Q) : EvP (fun n => if c then a n else b n) Q := by
  by_cases hc : c
  · simp only [if_pos hc]; exact h hc
  · simp only [if_neg hc]; exact h' hc
theorem EvP.yes {α : Type} {c : Prop} [Decidable c] {a b : Nat → Option α} {Q : α → Prop} (hc : c) (h : EvP a Q) : EvP (fun n => if c then a n else b n) Q := by
  simp only [if_pos hc]; exact h
theorem EvP.no {α : Type} {c : Prop} [Decidable c] {a b : Nat → Option α} {Q : α → Prop} (hc : ¬ c) (h : EvP b Q) : EvP (fun n => if c then a n else b n) Q := by
  simp only [if_neg hc]; exact h
theorem EvP.step {α : Type} {g : Nat → Option α} {Q : α → Prop} (h : EvP (fun k => g (k + 1)) Q) : EvP g Q := by
  obtain ⟨r, hr, hq⟩ := h
  exact ⟨r, Ev.step (fun _ => rfl) hr, hq⟩
theorem EvP.mono {α : Type} {g : Nat → Option α} {P Q : α → Prop} (h : EvP g P) (hpq : ∀ r, P r → Q r) : EvP g Q := by
  obtain ⟨r, hr, hp⟩ := h
  exact ⟨r, hr, hpq r hp⟩
theorem EvP.rounds {α : Type} {g : Nat → Option α} {r : α} (h : EvP g (fun x => x = r)) : ∃ k, g k = some r := by
  obtain ⟨q, hq, rfl⟩ := h
  exact hq.rounds
theorem w64 {x : Int} (h0 : -9223372036854775808 ≤ x) (h1 : x ≤ 9223372036854775807) : wrap64 x = x := by unfold wrap64; omega
def TagP (a b c : Int) : Prop := (0 ≤ a ∧ a ≤ 1000000000000) ∧ (0 ≤ b ∧ b ≤ 1000000000000) ∧ 0 ≤ c ∧ c ≤ 1000000000000
def NarrowP (a b c d : Int) : Prop := TagP a b c ∧ (0 ≤ d ∧ d ≤ 10000000) ∧ mx (mx a b) c - d ≤ mn (mn a b) c
theorem mx_le (a b : Int) : a ≤ mx a b ∧ b ≤ mx a b ∧ (mx a b = a ∨ mx a b = b) := by unfold mx; split <;> omega
theorem mn_le (a b : Int) : mn a b ≤ a ∧ mn a b ≤ b ∧ (mn a b = a ∨ mn a b = b) := by unfold mn; split <;> omega
theorem top_in {a b c : Int} (h : TagP a b c) : 0 ≤ mx (mx a b) c ∧ mx (mx a b) c ≤ 1000000000000 := by
  obtain ⟨h1, h2, h3⟩ := h
  have e1 := mx_le a b
  have e2 := mx_le (mx a b) c
  omega
theorem specAll_ok (a b c x y : Int) : EvP (fun _ => spec_l13All.f a b c x y) (fun r => r = true ↔ (x ≤ a ∧ a ≤ y) ∧ (x ≤ b ∧ b ≤ y) ∧ x ≤ c ∧ c ≤ y) := by
  unfold spec_l13All.f
  refine EvP.ite (fun h1 => ?_) (fun h => EvP.ret ⟨(fun h => by cases h), fun z => by omega⟩)
  refine EvP.ite (fun h2 => ?_) (fun h => EvP.ret ⟨(fun h => by cases h), fun z => by omega⟩)
  refine EvP.ite (fun h3 => ?_) (fun h => EvP.ret ⟨(fun h => by cases h), fun z => by omega⟩)
  refine EvP.ite (fun h4 => ?_) (fun h => EvP.ret ⟨(fun h => by cases h), fun z => by omega⟩)
  refine EvP.ite (fun h5 => EvP.ret ?_) (fun h => EvP.ret ⟨(fun h => by cases h), fun z => by omega⟩)
  rw [decide_eq_true_iff]; omega
theorem specTag_ok (a b c : Int) : EvP (fun _ => spec_TagOk.f a b c) (fun r => r = true ↔ TagP a b c) := by
  unfold spec_TagOk.f
  exact EvP.bind (specAll_ok a b c _ _) (fun r h => EvP.ret h)
theorem specDelta_ok (a : Int) : EvP (fun _ => spec_l13Delta.f a) (fun r => r = true ↔ 0 ≤ a ∧ a ≤ 10000000) := by
  unfold spec_l13Delta.f
  refine EvP.ite (fun h => EvP.ret ?_) (fun h => EvP.ret ⟨(fun h => by cases h), fun z => by omega⟩)
  rw [decide_eq_true_iff]; omega
theorem specTop_ok (a b c : Int) : EvP (fun _ => spec_VecTop.f a b c) (fun r => r = mx (mx a b) c) := EvP.ret rfl
theorem implTop_ok (a b c : Int) : EvP (fun _ => impl_VecTop.f a b c) (fun r => r = mx (mx a b) c) := EvP.ret rfl
theorem specNarrow_ok (a b c d : Int) : EvP (fun _ => spec_Narrow.f a b c d) (fun r => r = true ↔ NarrowP a b c d) := by
  unfold spec_Narrow.f
  refine EvP.bind (specTag_ok a b c) (fun t ht => ?_)
  refine EvP.ite (fun h1 => ?_) (fun h => EvP.ret ⟨(fun h => by cases h), fun z => absurd (ht.2 z.1) h⟩)
  refine EvP.bind (specDelta_ok d) (fun u hu => ?_)
  refine EvP.ite (fun h2 => ?_) (fun h => EvP.ret ⟨(fun h => by cases h), fun z => absurd (hu.2 z.2.1) h⟩)
  refine EvP.bind (specTop_ok a b c) ?_
  rintro _ rfl
  have hT := ht.1 h1
  have hD := hu.1 h2
  have hm := top_in hT
  refine EvP.ret ?_
  rw [decide_eq_true_iff, w64 (by omega) (by omega)]
  exact ⟨fun h => ⟨hT, hD, by omega⟩, fun z => by have := z.2.2; omega⟩
theorem within_ev (a b c : Int) : EvP (fun _ => impl_within.f a b c) (fun r => r = true ↔ b ≤ a ∧ a ≤ c) := by
  unfold impl_within.f
  refine EvP.ite (fun h => EvP.ret ?_) (fun h => EvP.ret ⟨(fun h => by cases h), fun z => by omega⟩)
  rw [decide_eq_true_iff]; omega
theorem isFrom_ok (a b c x y : Int) : EvP (fun _ => impl_Vec_isFrom.f a b c x y) (fun r => r = true ↔ (x ≤ a ∧ a ≤ y) ∧ (x ≤ b ∧ b ≤ y) ∧ x ≤ c ∧ c ≤ y) := by
  unfold impl_Vec_isFrom.f
  refine EvP.bind (within_ev a x y) (fun t ht => ?_)
  refine EvP.ite (fun h1 => ?_) (fun h => EvP.ret ⟨(fun h => by cases h), fun z => absurd (ht.2 z.1) h⟩)
  refine EvP.bind (within_ev b x y) (fun u hu => ?_)
  refine EvP.ite (fun h2 => ?_) (fun h => EvP.ret ⟨(fun h => by cases h), fun z => absurd (hu.2 z.2.1) h⟩)
  refine EvP.bind (within_ev c x y) (fun v hv => EvP.ret ?_)
  have h3 := ht.1 h1
  have h4 := hu.1 h2
  rw [hv]; exact ⟨fun h => ⟨h3, h4, h⟩, fun z => z.2.2⟩
theorem implTag_ok (a b c : Int) : EvP (fun _ => impl_TagOk.f a b c) (fun r => r = true ↔ TagP a b c) := by
  unfold impl_TagOk.f
  exact EvP.bind (isFrom_ok a b c _ _) (fun r h => EvP.ret h)
theorem implDelta_ok (a : Int) : EvP (fun _ => impl_isDelta.f a) (fun r => r = true ↔ 0 ≤ a ∧ a ≤ 10000000) := by
  unfold impl_isDelta.f
  exact EvP.bind (within_ev a _ _) (fun r h => EvP.ret h)
theorem implNarrow_ok (a b c d : Int) : EvP (fun _ => impl_Narrow.f a b c d) (fun r => r = true ↔ NarrowP a b c d) := by
  unfold impl_Narrow.f
  refine EvP.bind (implTag_ok a b c) (fun t ht => ?_)
  refine EvP.ite (fun h1 => ?_) (fun h => EvP.ret ⟨(fun h => by cases h), fun z => absurd (ht.2 z.1) h⟩)
  refine EvP.bind (implDelta_ok d) (fun u hu => ?_)
  refine EvP.ite (fun h2 => ?_) (fun h => EvP.ret ⟨(fun h => by cases h), fun z => absurd (hu.2 z.2.1) h⟩)
  refine EvP.bind (implTop_ok a b c) ?_
  rintro _ rfl
  have hT := ht.1 h1
  have hD := hu.1 h2
  have hm := top_in hT
  have e1 := mn_le a b
  have e2 := mn_le (mn a b) c
  refine EvP.bind (isFrom_ok a b c _ _) (fun v hv => EvP.ret ?_)
  rw [hv, w64 (by omega) (by omega)]
  obtain ⟨z1, z2, z3⟩ := id hT
  exact ⟨fun h => ⟨hT, hD, by omega⟩, fun z => by have := z.2.2; omega⟩
def strideOf (w : Int) : Int := if 1 ≤ w ∧ w ≤ 10 then 2520 / w else 0
theorem stride_in {w : Int} (h0 : 1 ≤ w) (h1 : w ≤ 10) : 252 ≤ 2520 / w ∧ 2520 / w ≤ 2520 := by
  constructor
  · exact (Int.le_ediv_iff_mul_le (by omega)).2 (by omega)
  · exact Int.ediv_le_self _ (by decide)
theorem strideOf_in (w : Int) : 0 ≤ strideOf w ∧ strideOf w ≤ 2520 := by
  unfold strideOf
  split
  · rename_i h; have := stride_in h.1 h.2; omega
  · omega
theorem strideOf_zero (w : Int) : strideOf w = 0 ↔ ¬ (1 ≤ w ∧ w ≤ 10) := by
  unfold strideOf
  split
  · rename_i h; have := stride_in h.1 h.2; exact ⟨fun e => by omega, fun n => absurd h n⟩
  · rename_i h; exact ⟨fun _ => h, fun _ => rfl⟩
theorem specStride_ok (w : Int) : EvP (fun _ => spec_Stride.f w) (fun r => r = strideOf w) := by
  unfold spec_Stride.f
  refine EvP.ite (fun h => EvP.ret ?_) (fun h => ?_)
  · exact ((strideOf_zero w).2 (by omega)).symm
  refine EvP.ite (fun h => EvP.ret ?_) (fun h' => ?_)
  · exact ((strideOf_zero w).2 (by omega)).symm
  refine EvP.no (by omega) (EvP.ret ?_)
  have := stride_in (w := w) (by omega) (by omega)
  unfold strideOf
  rw [w64 (by omega) (by omega), if_pos (by omega)]
theorem isFlow_ok (a : Int) : EvP (fun _ => impl_isFlow.f a) (fun r => r = true ↔ 0 ≤ a ∧ a ≤ 9999) := by
  unfold impl_isFlow.f
  exact EvP.bind (within_ev a _ _) (fun r h => EvP.ret h)
theorem isWeight_ok (a : Int) : EvP (fun _ => impl_isWeight.f a) (fun r => r = true ↔ 1 ≤ a ∧ a ≤ 10) := by
  unfold impl_isWeight.f
  exact EvP.bind (within_ev a _ _) (fun r h => EvP.ret h)
theorem implStride_ok (w : Int) : EvP (fun _ => impl_Stride.f w) (fun r => r = strideOf w) := by
  unfold impl_Stride.f
  refine EvP.bind (isWeight_ok w) (fun t ht => ?_)
  refine EvP.ite (fun h => ?_) (fun h => EvP.ret ?_)
  · have hw := ht.1 h
    refine EvP.no (by omega) (EvP.ret ?_)
    have := stride_in (w := w) (by omega) (by omega)
    unfold strideOf
    rw [w64 (by omega) (by omega), if_pos (by omega)]
  · exact ((strideOf_zero w).2 (fun z => h (ht.2 z))).symm
def kidOf (x : S85) : S38 := ⟨x.f0, x.f1, x.f2, ⟨x.f3.f0, x.f3.f1, x.f3.f2⟩⟩
theorem rdk {l : List S38} {i : Int} (h0 : 0 ≤ i) (h1 : i < (l.length : Int)) : l[i.toNat]? = some (rd_T38 l i) := by
  unfold rd_T38
  rw [List.getD_eq_getElem?_getD, List.getElem?_eq_getElem (by omega)]; rfl
theorem rdk85 {l : List S85} {i : Int} (h0 : 0 ≤ i) (h1 : i < (l.length : Int)) : l[i.toNat]? = some (rd_T85 l i) := by
  unfold rd_T85
  rw [List.getD_eq_getElem?_getD, List.getElem?_eq_getElem (by omega)]; rfl
theorem toVec_ok (a b c : Int) : EvP (fun _ => laws_toVec.f a b c) (fun r => r = (a, b, c)) := EvP.ret rfl
theorem toKid_ok (a b : Int) (c : Bool) (d e f : Int) : EvP (fun _ => laws_toKid.f a b c d e f) (fun r => r = (a, b, c, d, e, f)) := by
  unfold laws_toKid.f
  refine EvP.bind (toVec_ok d e f) ?_
  rintro _ rfl
  exact EvP.ret rfl
theorem toKidS_l0 {l : List S85} (hl : (l.length : Int) ≤ 100000000) : ∀ (d : Nat) (out : List S38) (i : Int), 0 ≤ i → i + d = (l.length : Int) → out.length = l.length → (∀ j : Nat, (j : Int) < i → out[j]? = (l[j]?).map kidOf) → EvP (fun k => laws_toKidS.l0 k l out i) (fun r => r = l.map kidOf)
  | 0, out, i, h0, hi, ho, hv => by
    refine EvP.step ?_
    simp only [laws_toKidS.l0]
    refine EvP.no (by omega) (EvP.ret ?_)
    apply List.ext_getElem?
    intro j
    rw [List.getElem?_map]
    by_cases hj : j < l.length
    · exact hv j (by omega)
    · rw [List.getElem?_eq_none (by omega), List.getElem?_eq_none (by omega)]; rfl
  | d + 1, out, i, h0, hi, ho, hv => by
    refine EvP.step ?_
    simp only [laws_toKidS.l0]
    refine EvP.yes (by omega) (EvP.yes h0 (EvP.bind (toKid_ok _ _ _ _ _ _) ?_))
    rintro _ rfl
    refine EvP.yes (by omega) ?_
    rw [w64 (by omega) (by omega)]
    refine toKidS_l0 hl d _ (i + 1) (by omega) (by omega) (by rw [List.length_set]; exact ho) (fun j hj => ?_)
    rw [List.getElem?_set]
    by_cases e : i.toNat = j
    · rw [if_pos e, if_pos (by omega), ← e, rdk85 h0 (by omega)]; rfl
    · rw [if_neg e]; exact hv j (by omega)
theorem toKidS_ok {l : List S85} (hl : (l.length : Int) ≤ 100000000) : EvP (fun k => laws_toKidS.f k l) (fun r => r = l.map kidOf) := by
  unfold laws_toKidS.f
  exact EvP.yes (by omega) (EvP.yes (by omega) (toKidS_l0 hl l.length _ 0 (by omega) (by omega) (by simp) (fun j hj => by omega)))
theorem eqVec_ok (a b c d e f : Int) : EvP (fun _ => laws_eqVec.f a b c d e f) (fun r => r = true ↔ a = d ∧ b = e ∧ c = f) := by
  unfold laws_eqVec.f
  refine EvP.ite (fun h1 => ?_) (fun h => EvP.ret ⟨(fun h => by cases h), fun z => absurd z.1 h⟩)
  refine EvP.ite (fun h2 => ?_) (fun h => EvP.ret ⟨(fun h => by cases h), fun z => absurd z.2.1 h⟩)
  exact EvP.ite (fun h3 => EvP.ret ⟨fun _ => ⟨h1, h2, h3⟩, fun _ => rfl⟩) (fun h => EvP.ret ⟨(fun h => by cases h), fun z => absurd z.2.2 h⟩)
theorem eqKid_ok (x y : S38) : EvP (fun _ => laws_eqKid.f x.f0 x.f1 x.f2 x.f3.f0 x.f3.f1 x.f3.f2 y.f0 y.f1 y.f2 y.f3.f0 y.f3.f1 y.f3.f2) (fun r => r = true ↔ x = y) := by
  obtain ⟨a, b, c, ⟨d, e, f⟩⟩ := x
  obtain ⟨a', b', c', ⟨d', e', f'⟩⟩ := y
  unfold laws_eqKid.f
  simp only [S38.mk.injEq, S29.mk.injEq]
  refine EvP.ite (fun h1 => ?_) (fun h => EvP.ret ⟨(fun h => by cases h), fun z => absurd z.1 h⟩)
  refine EvP.ite (fun h2 => ?_) (fun h => EvP.ret ⟨(fun h => by cases h), fun z => absurd z.2.1 h⟩)
  refine EvP.ite (fun h3 => EvP.ret ⟨(fun h => by cases h), fun z => by simp [z.2.2.1] at h3⟩) (fun h3 => ?_)
  refine EvP.bind (eqVec_ok d e f d' e' f') (fun t ht => ?_)
  refine EvP.ite (fun h4 => EvP.ret ⟨fun _ => ⟨h1, h2, ?_, ht.1 h4⟩, fun _ => rfl⟩) (fun h => EvP.ret ⟨(fun h => by cases h), fun z => absurd (ht.2 z.2.2.2) h⟩)
  simpa using h3
theorem eqKidS_l0 {a b : List S38} (hl : a.length = b.length) (hm : (a.length : Int) ≤ 100000000) : ∀ (d : Nat) (i : Int), 0 ≤ i → i + d = (a.length : Int) → (∀ j : Nat, (j : Int) < i → a[j]? = b[j]?) → EvP (fun k => laws_eqKidS.l0 k a b i) (fun r => r = true ↔ a = b)
  | 0, i, h0, hi, hv => by
    refine EvP.step ?_
    simp only [laws_eqKidS.l0]
    refine EvP.no (by omega) (EvP.ret ⟨fun _ => ?_, fun _ => rfl⟩)
    apply List.ext_getElem?
    intro j
    by_cases hj : j < a.length
    · exact hv j (by omega)
    · rw [List.getElem?_eq_none (by omega), List.getElem?_eq_none (by omega)]
  | d + 1, i, h0, hi, hv => by
    refine EvP.step ?_
    simp only [laws_eqKidS.l0]
    refine EvP.yes (by omega) (EvP.yes h0 (EvP.yes (by omega) (EvP.bind (eqKid_ok (rd_T38 a i) (rd_T38 b i)) (fun t ht => ?_))))
    refine EvP.ite (fun h => ?_) (fun h => EvP.ret ⟨(fun h => by cases h), fun z => absurd (ht.2 (by rw [z])) h⟩)
    rw [w64 (by omega) (by omega)]
    refine eqKidS_l0 hl hm d (i + 1) (by omega) (by omega) (fun j hj => ?_)
    by_cases e : j = i.toNat
    · rw [e, rdk h0 (by omega), rdk h0 (by omega), ht.1 h]
    · exact hv j (by omega)
theorem eqKidS_ok {a b : List S38} (hm : (a.length : Int) ≤ 100000000) : EvP (fun k => laws_eqKidS.f k a b) (fun r => r = true ↔ a = b) := by
  unfold laws_eqKidS.f
  refine EvP.ite (fun h => eqKidS_l0 (by omega) hm a.length 0 (by omega) (by omega) (fun j hj => by omega)) (fun h => EvP.ret ⟨(fun h => by cases h), fun z => absurd (by rw [z]) h⟩)
theorem szKidS_ok (l : List S85) (hm : l.length ≤ 9223372036854775807) : EvP (fun _ => laws_szKidS.f l 1048576) (fun r => r = -1 ∨ (0 ≤ r ∧ (l.length : Int) ≤ 1048576)) := by
  unfold laws_szKidS.f
  rw [w64 (by omega) (by omega)]
  exact EvP.ite (fun h => EvP.ret (.inl rfl)) (fun h => EvP.ret (.inr (by omega)))
theorem szFair_ok (a b c d : Int) (l : List S85) (hm : l.length ≤ 9223372036854775807) : EvP (fun _ => laws_szFair.f a b c d l 1048576) (fun r => r = -1 ∨ (0 ≤ r ∧ (l.length : Int) ≤ 1048576)) := by
  unfold laws_szFair.f
  refine EvP.bind (szKidS_ok l hm) (fun t ht => ?_)
  exact EvP.ite (fun h => EvP.ret (.inl rfl)) (fun h => EvP.ret (by omega))
theorem toFair_ok {a b c d : Int} {l : List S85} (hl : (l.length : Int) ≤ 100000000) : EvP (fun k => laws_toFair.f k a b c d l) (fun r => r = (a, b, c, d, l.map kidOf)) := by
  unfold laws_toFair.f
  refine EvP.bind (toVec_ok b c d) ?_
  rintro _ rfl
  refine EvP.bind (toKidS_ok hl) ?_
  rintro _ rfl
  exact EvP.ret rfl
theorem eqFair_ok {a b c d a' b' c' d' : Int} {l m : List S38} (hl : (l.length : Int) ≤ 100000000) : EvP (fun k => laws_eqFair.f k a b c d l a' b' c' d' m) (fun r => r = true ↔ a = a' ∧ b = b' ∧ c = c' ∧ d = d' ∧ l = m) := by
  unfold laws_eqFair.f
  refine EvP.ite (fun h1 => ?_) (fun h => EvP.ret ⟨(fun h => by cases h), fun z => absurd z.1 h⟩)
  refine EvP.bind (eqVec_ok b c d b' c' d') (fun t ht => ?_)
  refine EvP.ite (fun h2 => ?_) (fun h => EvP.ret ⟨(fun h => by cases h), fun z => absurd (ht.2 ⟨z.2.1, z.2.2.1, z.2.2.2.1⟩) h⟩)
  refine EvP.bind (eqKidS_ok hl) (fun u hu => ?_)
  have h3 := ht.1 h2
  exact EvP.ite (fun h4 => EvP.ret ⟨fun _ => ⟨h1, h3.1, h3.2.1, h3.2.2, hu.1 h4⟩, fun _ => rfl⟩) (fun h => EvP.ret ⟨(fun h => by cases h), fun z => absurd (hu.2 z.2.2.2.2) h⟩)
def topOf (x : S38) : Int := mx (mx x.f3.f0 x.f3.f1) x.f3.f2
def FairKid (d T : Int) (x : S38) : Prop := (0 ≤ x.f0 ∧ x.f0 ≤ 9999) ∧ (1 ≤ x.f1 ∧ x.f1 ≤ 10) ∧ NarrowP x.f3.f0 x.f3.f1 x.f3.f2 d ∧ topOf x ≤ T + strideOf x.f1 * 2000 ∧ (x.f2 = true → T ≤ topOf x)
def FairAt (d T : Int) (l : List S38) (i : Int) : Prop := FairKid d T (rd_T38 l i) ∧ (0 < i → (rd_T38 l (i - 1)).f0 < (rd_T38 l i).f0)
def FairFrom (d T : Int) (l : List S38) (i : Int) : Prop := ∀ j, i ≤ j → j < (l.length : Int) → FairAt d T l j
def FairP (d a b c : Int) (l : List S38) : Prop := NarrowP a b c d ∧ mx (mx a b) c ≤ 100000000000 ∧ (l.length : Int) ≤ 48 ∧ FairFrom d (mx (mx a b) c) l 0
theorem FairFrom.step {d T i : Int} {l : List S38} (h : FairAt d T l i) : FairFrom d T l i ↔ FairFrom d T l (i + 1) :=
  ⟨fun g j h0 h1 => g j (by omega) h1, fun g j h0 h1 => by
    by_cases e : j = i
    · rw [e]; exact h
    · exact g j (by omega) h1⟩
theorem specBad_ok (i d a b c : Int) (l : List S38) (u v : Int) (w : Bool) (x y z : Int) : EvP (fun k => spec_FairOk.j2 k i true d a b c l u v w x y z) (fun r => r = false) := by
  refine EvP.step ?_
  simp only [spec_FairOk.j2]
  exact EvP.yes (by simp) (EvP.ret rfl)
theorem specFair_l0 {d a b c : Int} {l : List S38} (hl : (l.length : Int) ≤ 48) (hT0 : 0 ≤ mx (mx a b) c) (hT1 : mx (mx a b) c ≤ 100000000000) : ∀ (n : Nat) (i : Int), 0 ≤ i → i + n = (l.length : Int) → EvP (fun k => spec_FairOk.l0 k i d a b c l) (fun r => r = true ↔ FairFrom d (mx (mx a b) c) l i)
  | 0, i, h0, hi => by
    refine EvP.step ?_
    simp only [spec_FairOk.l0]
    exact EvP.no (by omega) (EvP.ret ⟨fun _ j h1 h2 => by omega, fun _ => rfl⟩)
  | n + 1, i, h0, hi => by
    have bad : ∀ (u v : Int) (w : Bool) (x y z : Int), ¬ FairAt d (mx (mx a b) c) l i → EvP (fun k => spec_FairOk.j2 k i true d a b c l u v w x y z) (fun r => r = true ↔ FairFrom d (mx (mx a b) c) l i) := fun u v w x y z h =>
      (specBad_ok i d a b c l u v w x y z).mono (fun r e => ⟨(fun e' => by rw [e] at e'; cases e'), fun g => absurd (g i (by omega) (by omega)) h⟩)
    have rest : ∀ (t : Bool), (t = true ↔ NarrowP (rd_T38 l i).f3.f0 (rd_T38 l i).f3.f1 (rd_T38 l i).f3.f2 d) → (0 ≤ (rd_T38 l i).f0 ∧ (rd_T38 l i).f0 ≤ 9999) → (1 ≤ (rd_T38 l i).f1 ∧ (rd_T38 l i).f1 ≤ 10) → (0 < i → (rd_T38 l (i - 1)).f0 < (rd_T38 l i).f0) →
        EvP (fun k => spec_FairOk.j2 k i (!t) d a b c l ((rd_T38 l i).f0) ((rd_T38 l i).f1) ((rd_T38 l i).f2) ((rd_T38 l i).f3.f0) ((rd_T38 l i).f3.f1) ((rd_T38 l i).f3.f2)) (fun r => r = true ↔ FairFrom d (mx (mx a b) c) l i) := by
      intro t ht hf hw ho
      cases t with
      | false => exact bad _ _ _ _ _ _ (fun g => by have := ht.2 g.1.2.2.1; cases this)
      | true =>
        have hn := ht.1 rfl
        have hs := strideOf_in (rd_T38 l i).f1
        refine EvP.step ?_
        simp only [spec_FairOk.j2]
        refine EvP.no (by simp) (EvP.bind (specTop_ok _ _ _) ?_)
        rintro _ rfl
        refine EvP.bind (specTop_ok _ _ _) ?_
        rintro _ rfl
        refine EvP.bind (specStride_ok _) ?_
        rintro _ rfl
        rw [w64 (x := strideOf _ * 2000) (by omega) (by omega), w64 (by omega) (by omega)]
        refine EvP.ite (fun h => EvP.ret ⟨(fun h => by cases h), fun g => ?_⟩) (fun h1 => ?_)
        · have := (g i (by omega) (by omega)).1.2.2.2.1
          unfold topOf at this; omega
        have good : ((rd_T38 l i).f2 = true → mx (mx a b) c ≤ topOf (rd_T38 l i)) → FairAt d (mx (mx a b) c) l i := fun g => ⟨⟨hf, hw, hn, by unfold topOf; omega, g⟩, ho⟩
        refine EvP.ite (fun h2 => ?_) (fun h2 => ?_)
        · refine EvP.bind (specTop_ok _ _ _) ?_
          rintro _ rfl
          refine EvP.bind (specTop_ok _ _ _) ?_
          rintro _ rfl
          refine EvP.ite (fun h => EvP.ret ⟨(fun h => by cases h), fun g => ?_⟩) (fun h3 => ?_)
          · have := (g i (by omega) (by omega)).1.2.2.2.2 h2
            unfold topOf at this; omega
          rw [w64 (by omega) (by omega), FairFrom.step (good (fun _ => by unfold topOf; omega))]
          exact specFair_l0 hl hT0 hT1 n (i + 1) (by omega) (by omega)
        · rw [w64 (by omega) (by omega), FairFrom.step (good (fun e => absurd e h2))]
          exact specFair_l0 hl hT0 hT1 n (i + 1) (by omega) (by omega)
    refine EvP.step ?_
    simp only [spec_FairOk.l0]
    refine EvP.yes (by omega) (EvP.yes h0 ?_)
    refine EvP.ite (fun h => bad _ _ _ _ _ _ (fun g => by have := g.1.1; omega)) (fun h1 => ?_)
    refine EvP.ite (fun h => bad _ _ _ _ _ _ (fun g => by have := g.1.1; omega)) (fun h2 => ?_)
    refine EvP.ite (fun h3 => ?_) (fun h3 => ?_)
    · rw [w64 (by omega) (by omega)]
      refine EvP.yes (by omega) (EvP.yes (by omega) ?_)
      refine EvP.ite (fun h => bad _ _ _ _ _ _ (fun g => by have := g.2 h3; omega)) (fun h4 => ?_)
      refine EvP.bind (specStride_ok _) ?_
      rintro _ rfl
      refine EvP.ite (fun h => bad _ _ _ _ _ _ (fun g => (strideOf_zero _).1 h g.1.2.1)) (fun h5 => ?_)
      refine EvP.bind (specNarrow_ok _ _ _ _) (fun t ht => ?_)
      exact rest t ht (by omega) (Decidable.not_not.1 (fun g => h5 ((strideOf_zero _).2 g))) (fun _ => by omega)
    · refine EvP.bind (specStride_ok _) ?_
      rintro _ rfl
      refine EvP.ite (fun h => bad _ _ _ _ _ _ (fun g => (strideOf_zero _).1 h g.1.2.1)) (fun h5 => ?_)
      refine EvP.bind (specNarrow_ok _ _ _ _) (fun t ht => ?_)
      exact rest t ht (by omega) (Decidable.not_not.1 (fun g => h5 ((strideOf_zero _).2 g))) (fun g => absurd g h3)
theorem specFair_ok (d a b c : Int) (l : List S38) : EvP (fun k => spec_FairOk.f k d a b c l) (fun r => r = true ↔ FairP d a b c l) := by
  have bad : ¬ FairP d a b c l → EvP (fun k => spec_FairOk.j0 k true d a b c l) (fun r => r = true ↔ FairP d a b c l) := fun h => by
    refine EvP.step ?_
    simp only [spec_FairOk.j0]
    exact EvP.yes (by simp) (EvP.ret ⟨(fun h => by cases h), fun g => absurd g h⟩)
  unfold spec_FairOk.f
  refine EvP.bind (specNarrow_ok _ _ _ _) (fun t ht => ?_)
  refine EvP.ite (fun h1 => ?_) (fun h => bad (fun g => h (ht.2 g.1)))
  refine EvP.bind (specTop_ok _ _ _) ?_
  rintro _ rfl
  refine EvP.ite (fun h => bad (fun g => by have := g.2.1; omega)) (fun h2 => ?_)
  have hn := ht.1 h1
  have hm := top_in hn.1
  refine EvP.step ?_
  simp only [spec_FairOk.j0]
  refine EvP.ite (fun h => EvP.ret ⟨(fun h => by cases h), fun g => ?_⟩) (fun h3 => ?_)
  · have := g.2.2.1
    rw [decide_eq_true_iff] at h; omega
  · rw [decide_eq_true_iff] at h3
    exact (specFair_l0 (by omega) hm.1 (by omega) l.length 0 (by omega) (by omega)).mono (fun r e => e.trans ⟨fun g => ⟨hn, by omega, by omega, g⟩, fun g => g.2.2.2⟩)
theorem implKid_ok {d a b c : Int} {l : List S38} (hT0 : 0 ≤ mx (mx a b) c) (hT1 : mx (mx a b) c ≤ 100000000000) (x : S38) : EvP (fun _ => impl_Fair_kidOk.f d a b c l x.f0 x.f1 x.f2 x.f3.f0 x.f3.f1 x.f3.f2) (fun r => r = true ↔ FairKid d (mx (mx a b) c) x) := by
  have hs := strideOf_in x.f1
  unfold impl_Fair_kidOk.f
  refine EvP.bind (implTop_ok _ _ _) ?_
  rintro _ rfl
  refine EvP.bind (implTop_ok _ _ _) ?_
  rintro _ rfl
  refine EvP.bind (isFlow_ok _) (fun t ht => ?_)
  refine EvP.ite (fun h1 => ?_) (fun h => EvP.ret ⟨(fun h => by cases h), fun z => absurd (ht.2 z.1) h⟩)
  refine EvP.bind (isWeight_ok _) (fun u hu => ?_)
  refine EvP.ite (fun h2 => ?_) (fun h => EvP.ret ⟨(fun h => by cases h), fun z => absurd (hu.2 z.2.1) h⟩)
  refine EvP.bind (implNarrow_ok _ _ _ _) (fun v hv => ?_)
  refine EvP.ite (fun h3 => ?_) (fun h => EvP.ret ⟨(fun h => by cases h), fun z => absurd (hv.2 z.2.2.1) h⟩)
  refine EvP.bind (implStride_ok _) ?_
  rintro _ rfl
  rw [w64 (x := strideOf _ * 2000) (by omega) (by omega), w64 (by omega) (by omega)]
  refine EvP.ite (fun h4 => ?_) (fun h => EvP.ret ⟨(fun h => by cases h), fun z => absurd z.2.2.2.1 h⟩)
  have hf := ht.1 h1
  have hw := hu.1 h2
  have hn := hv.1 h3
  refine EvP.ite (fun h5 => EvP.ret ?_) (fun h5 => EvP.ret ⟨fun _ => ⟨hf, hw, hn, h4, fun e => absurd e h5⟩, fun _ => rfl⟩)
  rw [decide_eq_true_iff]
  exact ⟨fun e => ⟨hf, hw, hn, h4, fun _ => e⟩, fun z => z.2.2.2.2 h5⟩
theorem implFair_l0 {d a b c : Int} {l : List S38} (hl : (l.length : Int) ≤ 48) (hT0 : 0 ≤ mx (mx a b) c) (hT1 : mx (mx a b) c ≤ 100000000000) : ∀ (n : Nat) (i : Int), 0 ≤ i → i + n = (l.length : Int) → EvP (fun k => impl_FairOk.l0 k l (l.length : Int) i d a b c l) (fun r => r = true ↔ FairFrom d (mx (mx a b) c) l i)
  | 0, i, h0, hi => by
    refine EvP.step ?_
    simp only [impl_FairOk.l0]
    exact EvP.no (by omega) (EvP.ret ⟨fun _ j h1 h2 => by omega, fun _ => rfl⟩)
  | n + 1, i, h0, hi => by
    refine EvP.step ?_
    simp only [impl_FairOk.l0]
    refine EvP.yes (by omega) (EvP.yes h0 (EvP.yes (by omega) (EvP.bind (implKid_ok hT0 hT1 (rd_T38 l i)) (fun t ht => ?_))))
    refine EvP.ite (fun h1 => ?_) (fun h => EvP.ret ⟨(fun h => by cases h), fun g => absurd (ht.2 (g i (by omega) (by omega)).1) h⟩)
    have hk := ht.1 h1
    rw [w64 (x := i + 1) (by omega) (by omega)]
    refine EvP.ite (fun h3 => ?_) (fun h3 => ?_)
    · rw [w64 (by omega) (by omega)]
      refine EvP.yes (by omega) (EvP.yes (by omega) ?_)
      refine EvP.ite (fun h => EvP.ret ⟨(fun h => by cases h), fun g => ?_⟩) (fun h4 => ?_)
      · have := (g i (by omega) (by omega)).2 h3
        omega
      · rw [FairFrom.step ⟨hk, fun _ => by omega⟩]
        exact implFair_l0 hl hT0 hT1 n (i + 1) (by omega) (by omega)
    · rw [FairFrom.step ⟨hk, fun g => absurd g h3⟩]
      exact implFair_l0 hl hT0 hT1 n (i + 1) (by omega) (by omega)
theorem implFair_ok (d a b c : Int) (l : List S38) : EvP (fun k => impl_FairOk.f k d a b c l) (fun r => r = true ↔ FairP d a b c l) := by
  have bad : ¬ FairP d a b c l → EvP (fun k => impl_FairOk.j0 k true d a b c l) (fun r => r = true ↔ FairP d a b c l) := fun h => by
    refine EvP.step ?_
    simp only [impl_FairOk.j0]
    exact EvP.yes (by simp) (EvP.ret ⟨(fun h => by cases h), fun g => absurd g h⟩)
  unfold impl_FairOk.f
  refine EvP.bind (implNarrow_ok _ _ _ _) (fun t ht => ?_)
  refine EvP.ite (fun h1 => ?_) (fun h => bad (fun g => h (ht.2 g.1)))
  refine EvP.bind (implTop_ok _ _ _) ?_
  rintro _ rfl
  refine EvP.ite (fun h => bad (fun g => by have := g.2.1; omega)) (fun h2 => ?_)
  have hn := ht.1 h1
  have hm := top_in hn.1
  refine EvP.step ?_
  simp only [impl_FairOk.j0]
  refine EvP.ite (fun h => EvP.ret ⟨(fun h => by cases h), fun g => ?_⟩) (fun h3 => ?_)
  · have := g.2.2.1
    rw [decide_eq_true_iff] at h; omega
  · rw [decide_eq_true_iff] at h3
    exact (implFair_l0 (by omega) hm.1 (by omega) l.length 0 (by omega) (by omega)).mono (fun r e => e.trans ⟨fun g => ⟨hn, by omega, by omega, g⟩, fun g => g.2.2.2⟩)
def pickStep (l : List S38) (best i : Int) : Int := if (rd_T38 l i).f2 = true ∧ (best < 0 ∨ topOf (rd_T38 l i) < topOf (rd_T38 l best)) then i else best
def pickFrom (l : List S38) : Nat → Int → Int → Int
  | 0, best, _ => best
  | d + 1, best, i => pickFrom l d (pickStep l best i) (i + 1)
def pickOf (l : List S38) : Int := pickFrom l l.length (-1) 0
theorem pickStep_in {l : List S38} {best i : Int} (h0 : 0 ≤ i) (h1 : -1 ≤ best ∧ best < i) : -1 ≤ pickStep l best i ∧ pickStep l best i < i + 1 := by
  unfold pickStep; split <;> omega
theorem pickFrom_in (l : List S38) : ∀ (d : Nat) (best i : Int), 0 ≤ i → (-1 ≤ best ∧ best < i) → -1 ≤ pickFrom l d best i ∧ pickFrom l d best i < i + d
  | 0, best, i, _, h1 => by unfold pickFrom; omega
  | d + 1, best, i, h0, h1 => by
    have := pickFrom_in l d (pickStep l best i) (i + 1) (by omega) (pickStep_in h0 h1)
    unfold pickFrom; omega
theorem pickOf_in (l : List S38) : -1 ≤ pickOf l ∧ pickOf l < (l.length : Int) := by
  have := pickFrom_in l l.length (-1) 0 (by omega) (by omega)
  unfold pickOf; omega
theorem pickStep_at {l : List S38} {best i : Int} (h : (rd_T38 l i).f2 = true) (g : best < 0 ∨ topOf (rd_T38 l i) < topOf (rd_T38 l best)) : pickStep l best i = i := if_pos ⟨h, g⟩
theorem pickStep_off {l : List S38} {best i : Int} (h : ¬ ((rd_T38 l i).f2 = true ∧ (best < 0 ∨ topOf (rd_T38 l i) < topOf (rd_T38 l best)))) : pickStep l best i = best := if_neg h
theorem specPick_l0 {d a b c : Int} {l : List S38} (hl : (l.length : Int) ≤ 48) : ∀ (n : Nat) (best i : Int), 0 ≤ i → i + n = (l.length : Int) → (-1 ≤ best ∧ best < i) → EvP (fun k => spec_FairPick.l0 k best i d a b c l) (fun r => r = if pickFrom l n best i < 0 then -1 else (rd_T38 l (pickFrom l n best i)).f0)
  | 0, best, i, h0, hi, hb => by
    refine EvP.step ?_
    simp only [spec_FairPick.l0]
    refine EvP.no (by omega) (EvP.ite (fun h => EvP.ret ?_) (fun h => EvP.yes (by omega) (EvP.yes (by omega) (EvP.ret ?_))))
    · unfold pickFrom; rw [if_pos h]
    · unfold pickFrom; rw [if_neg h]
  | n + 1, best, i, h0, hi, hb => by
    have go : ∀ x, pickStep l best i = x → EvP (fun k => spec_FairPick.l0 k x (wrap64 (i + 1)) d a b c l) (fun r => r = if pickFrom l (n + 1) best i < 0 then -1 else (rd_T38 l (pickFrom l (n + 1) best i)).f0) := by
      intro x e
      have := pickStep_in (l := l) h0 hb
      rw [w64 (by omega) (by omega)]
      unfold pickFrom
      rw [e]
      exact specPick_l0 hl n x (i + 1) (by omega) (by omega) (by omega)
    refine EvP.step ?_
    simp only [spec_FairPick.l0]
    refine EvP.yes (by omega) (EvP.yes h0 ?_)
    refine EvP.ite (fun h1 => ?_) (fun h1 => go _ (pickStep_off (fun z => h1 z.1)))
    refine EvP.ite (fun h2 => go _ (pickStep_at h1 (.inl h2))) (fun h2 => ?_)
    refine EvP.bind (specTop_ok _ _ _) ?_
    rintro _ rfl
    refine EvP.yes (by omega) (EvP.yes (by omega) (EvP.bind (specTop_ok _ _ _) ?_))
    rintro _ rfl
    exact EvP.ite (fun h3 => go _ (pickStep_at h1 (.inr h3))) (fun h3 => go _ (pickStep_off (fun z => z.2.elim h2 h3)))
theorem specPick_ok (d a b c : Int) (l : List S38) : EvP (fun k => spec_FairPick.f k d a b c l) (fun r => (FairP d a b c l → r = if pickOf l < 0 then -1 else (rd_T38 l (pickOf l)).f0) ∧ (¬ FairP d a b c l → r = -1)) := by
  unfold spec_FairPick.f
  refine EvP.bind (specFair_ok d a b c l) (fun t ht => ?_)
  refine EvP.ite (fun h => ?_) (fun h => EvP.ret ⟨fun g => absurd (ht.2 g) h, fun _ => rfl⟩)
  have hp := ht.1 h
  refine (specPick_l0 hp.2.2.1 l.length (-1) 0 (by omega) (by omega) (by omega)).mono (fun r e => ⟨fun _ => e, fun g => absurd hp g⟩)
theorem implPick_l0 {d a b c : Int} {l : List S38} (hl : (l.length : Int) ≤ 48) : ∀ (n : Nat) (best i : Int), 0 ≤ i → i + n = (l.length : Int) → (-1 ≤ best ∧ best < i) → EvP (fun k => impl_Fair_pick.l0 k best l (l.length : Int) i d a b c l) (fun r => r = pickFrom l n best i)
  | 0, best, i, h0, hi, hb => by
    refine EvP.step ?_
    simp only [impl_Fair_pick.l0]
    exact EvP.no (by omega) (EvP.ret rfl)
  | n + 1, best, i, h0, hi, hb => by
    have go : ∀ x, pickStep l best i = x → EvP (fun k => impl_Fair_pick.l0 k x l (l.length : Int) (wrap64 (i + 1)) d a b c l) (fun r => r = pickFrom l (n + 1) best i) := by
      intro x e
      have := pickStep_in (l := l) h0 hb
      rw [w64 (by omega) (by omega)]
      unfold pickFrom
      rw [e]
      exact implPick_l0 hl n x (i + 1) (by omega) (by omega) (by omega)
    refine EvP.step ?_
    simp only [impl_Fair_pick.l0]
    refine EvP.yes (by omega) (EvP.yes h0 (EvP.yes (by omega) ?_))
    refine EvP.ite (fun h1 => ?_) (fun h1 => go _ (pickStep_off (fun z => h1 z.1)))
    refine EvP.ite (fun h2 => go _ (pickStep_at h1 (.inl h2))) (fun h2 => ?_)
    refine EvP.bind (implTop_ok _ _ _) ?_
    rintro _ rfl
    refine EvP.yes (by omega) (EvP.yes (by omega) (EvP.bind (implTop_ok _ _ _) ?_))
    rintro _ rfl
    exact EvP.ite (fun h3 => go _ (pickStep_at h1 (.inr h3))) (fun h3 => go _ (pickStep_off (fun z => z.2.elim h2 h3)))
theorem implPickAt_ok (d a b c : Int) {l : List S38} (hl : (l.length : Int) ≤ 48) : EvP (fun k => impl_Fair_pick.f k d a b c l) (fun r => r = pickOf l) := by
  unfold impl_Fair_pick.f
  exact implPick_l0 hl l.length (-1) 0 (by omega) (by omega) (by omega)
def atOf (l : List S38) (id : Int) : Int := idxP (fun x => x.f0 == id) l
theorem specAt_l0 {d a b c id : Int} {l : List S38} (hl : (l.length : Int) ≤ 1048576) : ∀ (n : Nat) (i : Int), 0 ≤ i → i + n = (l.length : Int) → (∀ j : Nat, (j : Int) < i → ∀ y, l[j]? = some y → (y.f0 == id) = false) → EvP (fun k => spec_l18At.l0 k id i d a b c l) (fun r => r = atOf l id)
  | 0, i, h0, hi, hv => by
    refine EvP.step ?_
    simp only [spec_l18At.l0]
    refine EvP.no (by omega) (EvP.ret ?_)
    unfold atOf
    rw [idxP_miss l (fun j y hy => by
      by_cases hj : j < l.length
      · exact hv j (by omega) y hy
      · rw [List.getElem?_eq_none (by omega)] at hy; cases hy)]
  | n + 1, i, h0, hi, hv => by
    refine EvP.step ?_
    simp only [spec_l18At.l0]
    have hx := rdk (l := l) h0 (by omega)
    refine EvP.yes (by omega) (EvP.yes h0 (EvP.ite (fun h => EvP.ret ?_) (fun h => ?_)))
    · unfold atOf
      rw [idxP_hit l i.toNat (rd_T38 l i) hx (by simp [h]) (fun j y hj hy => hv j (by omega) y hy)]
      omega
    · rw [w64 (by omega) (by omega)]
      refine specAt_l0 hl n (i + 1) (by omega) (by omega) (fun j hj y hy => ?_)
      by_cases e : j = i.toNat
      · subst e
        rw [hx] at hy
        cases hy
        simpa using h
      · exact hv j (by omega) y hy
theorem specAt_ok (d a b c id : Int) {l : List S38} (hl : (l.length : Int) ≤ 1048576) : EvP (fun k => spec_l18At.f k d a b c l id) (fun r => r = atOf l id) := by
  unfold spec_l18At.f
  exact specAt_l0 hl l.length 0 (by omega) (by omega) (fun j hj => by omega)
def In (x y a b c : Int) : Prop := (x ≤ a ∧ a ≤ y) ∧ (x ≤ b ∧ b ≤ y) ∧ x ≤ c ∧ c ≤ y
def FinP (a b c x y z w : Int) : Prop := TagP a b c ∧ In 1 2000 x y z ∧ 1 ≤ w ∧ w ≤ 10
def FinR (a b c x y z w : Int) (r : Int × Int × Int × Bool) : Prop :=
  (FinP a b c x y z w ∧ TagP (a + x * strideOf w) (b + y * strideOf w) (c + z * strideOf w) → r = (a + x * strideOf w, b + y * strideOf w, c + z * strideOf w, true)) ∧
  (¬ (FinP a b c x y z w ∧ TagP (a + x * strideOf w) (b + y * strideOf w) (c + z * strideOf w)) → r = (0, 0, 0, false))
theorem fin_w {a x w : Int} (h : 0 ≤ a ∧ a ≤ 1000000000000) (hx : 1 ≤ x ∧ x ≤ 2000) : wrap64 (a + wrap64 (x * strideOf w)) = a + x * strideOf w := by
  have hs := strideOf_in w
  have h1 : 0 ≤ x * strideOf w := Int.mul_nonneg (by omega) hs.1
  have h2 : x * strideOf w ≤ 2000 * 2520 := Int.mul_le_mul hx.2 hs.2 hs.1 (by omega)
  rw [w64 (x := x * strideOf w) (by omega) (by omega), w64 (by omega) (by omega)]
theorem specCharge_ok (a b c : Int) : EvP (fun _ => spec_ChargeOk.f a b c) (fun r => r = true ↔ In 1 2000 a b c) := by
  unfold spec_ChargeOk.f
  exact EvP.bind (specAll_ok a b c _ _) (fun r h => EvP.ret h)
theorem implCharge_ok (a b c : Int) : EvP (fun _ => impl_ChargeOk.f a b c) (fun r => r = true ↔ In 1 2000 a b c) := by
  unfold impl_ChargeOk.f
  exact EvP.bind (isFrom_ok a b c _ _) (fun r h => EvP.ret h)
theorem specFin_step {w x v : Int} {xs ys : List Int} {P : Int × Int × Int × Bool → Prop} (hx : 0 ≤ x) (hx3 : x < 3) (hl : xs.length = 3) (hy : ys.length = 3)
    (hv : wrap64 (rd xs x + wrap64 (rd ys x * strideOf w)) = v)
    (h : EvP (fun k => spec_Finish.l0 k w (xs.set x.toNat v) ys (x + 1)) P) : EvP (fun k => spec_Finish.l0 k w xs ys x) P := by
  refine EvP.step ?_
  simp only [spec_Finish.l0]
  refine EvP.yes hx3 (EvP.yes hx (EvP.yes (by omega) (EvP.yes (by omega) ?_)))
  refine EvP.bind (specStride_ok w) ?_
  rintro _ rfl
  rw [hv, w64 (x := x + 1) (by omega) (by omega)]
  exact h
theorem specFin_ok (a b c x y z w : Int) : EvP (fun k => spec_Finish.f k a b c x y z w) (FinR a b c x y z w) := by
  have bad : ¬ FinP a b c x y z w → EvP (fun k => spec_Finish.j0 k w true a b c x y z) (FinR a b c x y z w) := by
    intro h
    refine EvP.step ?_
    simp only [spec_Finish.j0]
    exact EvP.yes (by simp) (EvP.ret ⟨fun g => absurd g.1 h, fun _ => rfl⟩)
  unfold spec_Finish.f
  refine EvP.bind (specTag_ok a b c) (fun t ht => ?_)
  refine EvP.ite (fun h1 => ?_) (fun h1 => bad (fun g => h1 (ht.2 g.1)))
  refine EvP.bind (specCharge_ok x y z) (fun u hu => ?_)
  refine EvP.ite (fun h2 => ?_) (fun h2 => bad (fun g => h2 (hu.2 g.2.1)))
  refine EvP.bind (specStride_ok w) ?_
  rintro _ rfl
  by_cases hw : strideOf w = 0
  · rw [show (strideOf w == 0) = true from beq_iff_eq.2 hw]
    exact bad (fun g => (strideOf_zero w).1 hw g.2.2)
  rw [show (strideOf w == 0) = false from beq_eq_false_iff_ne.2 hw]
  have hw' : 1 ≤ w ∧ w ≤ 10 := by
    by_cases q : 1 ≤ w ∧ w ≤ 10
    · exact q
    · exact absurd ((strideOf_zero w).2 q) hw
  have hT := ht.1 h1
  have hC := hu.1 h2
  refine EvP.step ?_
  simp only [spec_Finish.j0]
  refine EvP.no (by simp) ?_
  refine EvP.bind (P := fun r => r = [a, b, c]) (EvP.ret rfl) ?_
  rintro _ rfl
  refine EvP.bind (P := fun r => r = [x, y, z]) (EvP.ret rfl) ?_
  rintro _ rfl
  obtain ⟨k1, k2, k3⟩ := id hT
  obtain ⟨q1, q2, q3⟩ := id hC
  refine specFin_step (v := a + x * strideOf w) (by omega) (by omega) rfl rfl (fin_w k1 q1) ?_
  refine specFin_step (v := b + y * strideOf w) (by omega) (by omega) rfl rfl (fin_w k2 q2) ?_
  refine specFin_step (v := c + z * strideOf w) (by omega) (by omega) rfl rfl (fin_w k3 q3) ?_
  refine EvP.step ?_
  simp only [spec_Finish.l0]
  refine EvP.no (by omega) ?_
  have hof : EvP (fun _ => spec_l13Of.f (((([a, b, c] : List Int).set (0 : Int).toNat (a + x * strideOf w)).set ((0 : Int) + 1).toNat (b + y * strideOf w)).set ((0 : Int) + 1 + 1).toNat (c + z * strideOf w))) (fun r => r = (a + x * strideOf w, b + y * strideOf w, c + z * strideOf w)) := by
    unfold spec_l13Of.f
    simp only [List.length_set, List.length_cons, List.length_nil]
    exact EvP.yes (by omega) (EvP.yes (by omega) (EvP.yes (by omega) (EvP.ret rfl)))
  refine EvP.bind hof ?_
  rintro _ rfl
  dsimp only
  refine EvP.bind (specTag_ok _ _ _) (fun t ht' => ?_)
  refine EvP.ite (fun h3 => ?_) (fun h3 => EvP.ret ⟨fun g => absurd (ht'.2 g.2) h3, fun _ => rfl⟩)
  refine EvP.bind hof ?_
  rintro _ rfl
  exact EvP.ret ⟨fun _ => rfl, fun g => absurd ⟨⟨hT, hC, hw'⟩, ht'.1 h3⟩ g⟩
theorem implDove_ok (a b c d : Int) : EvP (fun _ => impl_Dovetail.f a b c d) (fun r =>
    (TagP a b c ∧ (0 ≤ d ∧ d ≤ 10000000) → r = (mx a (mx (mx a b) c - d), mx b (mx (mx a b) c - d), mx c (mx (mx a b) c - d))) ∧
    (¬ (TagP a b c ∧ (0 ≤ d ∧ d ≤ 10000000)) → r = (0, 0, 0))) := by
  unfold impl_Dovetail.f
  refine EvP.bind (implTag_ok a b c) (fun t ht => ?_)
  refine EvP.ite (fun h1 => ?_) (fun h1 => EvP.ret ⟨fun z => absurd (ht.2 z.1) h1, fun _ => rfl⟩)
  refine EvP.bind (implDelta_ok d) (fun u hu => ?_)
  refine EvP.ite (fun h2 => ?_) (fun h2 => EvP.ret ⟨fun z => absurd (hu.2 z.2) h2, fun _ => rfl⟩)
  have hT := ht.1 h1
  have hd := hu.1 h2
  have hm := top_in hT
  refine EvP.bind (P := fun r => r = (mx a (mx (mx a b) c - d), mx b (mx (mx a b) c - d), mx c (mx (mx a b) c - d))) (EvP.of ⟨_, rfl, ?_⟩) ?_
  · rw [w64 (x := mx (mx a b) c - d) (by omega) (by omega)]
  rintro _ rfl
  exact EvP.ret ⟨fun _ => rfl, fun z => absurd ⟨hT, hd⟩ z⟩
theorem specDove_step {a b c d x : Int} {xs : List Int} {P : Int × Int × Int → Prop} (hd : wrap64 (mx (mx a b) c - d) = mx (mx a b) c - d) (hx : 0 ≤ x) (hx3 : x < 3) (hl : xs.length = 3)
    (h : EvP (fun k => spec_Dovetail.l0 k d (xs.set x.toNat (mx (rd xs x) (mx (mx a b) c - d))) (x + 1) a b c) P) : EvP (fun k => spec_Dovetail.l0 k d xs x a b c) P := by
  refine EvP.step ?_
  simp only [spec_Dovetail.l0]
  refine EvP.yes hx3 (EvP.yes hx (EvP.yes (by omega) ?_))
  refine EvP.bind (specTop_ok a b c) ?_
  rintro _ rfl
  rw [hd, w64 (x := x + 1) (by omega) (by omega)]
  exact h
theorem specDove_ok (a b c d : Int) : EvP (fun k => spec_Dovetail.f k a b c d) (fun r =>
    (TagP a b c ∧ (0 ≤ d ∧ d ≤ 10000000) → r = (mx a (mx (mx a b) c - d), mx b (mx (mx a b) c - d), mx c (mx (mx a b) c - d))) ∧
    (¬ (TagP a b c ∧ (0 ≤ d ∧ d ≤ 10000000)) → r = (0, 0, 0))) := by
  have bad : ¬ (TagP a b c ∧ (0 ≤ d ∧ d ≤ 10000000)) → EvP (fun k => spec_Dovetail.j0 k d true a b c) (fun r =>
    (TagP a b c ∧ (0 ≤ d ∧ d ≤ 10000000) → r = (mx a (mx (mx a b) c - d), mx b (mx (mx a b) c - d), mx c (mx (mx a b) c - d))) ∧
    (¬ (TagP a b c ∧ (0 ≤ d ∧ d ≤ 10000000)) → r = (0, 0, 0))) := by
    intro h
    refine EvP.step ?_
    simp only [spec_Dovetail.j0]
    exact EvP.yes (by simp) (EvP.ret ⟨fun z => absurd z h, fun _ => rfl⟩)
  unfold spec_Dovetail.f
  refine EvP.bind (specTag_ok a b c) (fun t ht => ?_)
  refine EvP.ite (fun h1 => ?_) (fun h1 => bad (fun z => h1 (ht.2 z.1)))
  refine EvP.bind (specDelta_ok d) (fun u hu => ?_)
  cases u with
  | false => exact bad (fun z => by have := hu.2 z.2; cases this)
  | true =>
    have hT := ht.1 h1
    have hd := hu.1 rfl
    have hm := top_in hT
    have hw : wrap64 (mx (mx a b) c - d) = mx (mx a b) c - d := w64 (by omega) (by omega)
    refine EvP.step ?_
    simp only [spec_Dovetail.j0]
    refine EvP.no (by simp) ?_
    refine EvP.bind (P := fun r => r = [a, b, c]) (EvP.ret rfl) ?_
    rintro _ rfl
    refine specDove_step hw (by omega) (by omega) rfl ?_
    refine specDove_step hw (by omega) (by omega) rfl ?_
    refine specDove_step hw (by omega) (by omega) rfl ?_
    refine EvP.step ?_
    simp only [spec_Dovetail.l0]
    refine EvP.no (by omega) ?_
    refine EvP.bind (P := fun r => r = (mx a (mx (mx a b) c - d), mx b (mx (mx a b) c - d), mx c (mx (mx a b) c - d))) ?_ ?_
    · unfold spec_l13Of.f
      simp only [List.length_set, List.length_cons, List.length_nil]
      exact EvP.yes (by omega) (EvP.yes (by omega) (EvP.yes (by omega) (EvP.ret rfl)))
    rintro _ rfl
    exact EvP.ret ⟨fun _ => rfl, fun z => absurd ⟨hT, hd⟩ z⟩
def kmk (x : Int) : S38 := ⟨x, x + 1, (Int.tmod (x + 2) 3 == 0), ⟨x + 3, x + 4, x + 5⟩⟩
theorem rdset {l : List S38} {i : Int} {v : S38} (h0 : 0 ≤ i) (h1 : i < (l.length : Int)) : rd_T38 (l.set i.toNat v) i = v := by
  unfold rd_T38
  rw [List.getD_eq_getElem?_getD, List.getElem?_set_self (by omega)]; rfl
def Marked (l : List S38) (n : Int) : Prop := ∀ j : Nat, (j : Int) < n → l[j]? = some (kmk (1 + 6 * (j : Int)))
theorem markKid_l0 {n : Nat} (hn : (n : Int) ≤ 100000000) : ∀ (d : Nat) (l : List S38) (x i : Int), 0 ≤ i → i + d = (n : Int) → l.length = n → x = 1 + 6 * i → Marked l i →
    EvP (fun k => laws_markKidS.l0 k l x i) (fun r => r.1 = 1 + 6 * (n : Int) ∧ r.2.length = n ∧ Marked r.2 n)
  | 0, l, x, i, h0, hi, hl, hx, hm => by
    refine EvP.step ?_
    simp only [laws_markKidS.l0]
    have e : i = (n : Int) := by omega
    subst e
    exact EvP.no (by omega) (EvP.ret ⟨by omega, hl, hm⟩)
  | d + 1, l, x, i, h0, hi, hl, hx, hm => by
    have h1 : i < (l.length : Int) := by omega
    have e1 : wrap64 (x + 1) = x + 1 := w64 (by omega) (by omega)
    have e2 : wrap64 (x + 1 + 1) = x + 2 := by rw [w64 (by omega) (by omega)]; omega
    have e3 : wrap64 (x + 2 + 1) = x + 3 := by rw [w64 (by omega) (by omega)]; omega
    have e4 : wrap64 (x + 3 + 1) = x + 4 := by rw [w64 (by omega) (by omega)]; omega
    have e5 : wrap64 (x + 4 + 1) = x + 5 := by rw [w64 (by omega) (by omega)]; omega
    have e6 : wrap64 (x + 5 + 1) = x + 6 := by rw [w64 (by omega) (by omega)]; omega
    have e7 : wrap64 (i + 1) = i + 1 := w64 (by omega) (by omega)
    refine EvP.step ?_
    simp only [laws_markKidS.l0, e1, e2, e3, e4, e5, e6, e7]
    refine EvP.yes h1 (EvP.yes h0 ?_)
    refine EvP.bind (EvP.ret rfl) ?_
    rintro _ rfl
    simp only [rdset h0 h1, List.set_set]
    refine EvP.bind (EvP.ret rfl) ?_
    rintro _ rfl
    simp only [rdset h0 h1, List.set_set]
    refine EvP.bind (EvP.ret rfl) ?_
    rintro _ rfl
    simp only [rdset h0 h1, List.set_set]
    refine EvP.bind (EvP.ret rfl) ?_
    rintro _ rfl
    simp only [rdset h0 h1, List.set_set]
    refine EvP.bind (EvP.ret rfl) ?_
    rintro _ rfl
    simp only [rdset h0 h1, List.set_set]
    refine markKid_l0 hn d _ (x + 6) (i + 1) (by omega) (by omega) (by rw [List.length_set]; exact hl) (by omega) (fun j hj => ?_)
    rw [List.getElem?_set]
    by_cases e : i.toNat = j
    · rw [if_pos e, if_pos (by omega)]
      have : (j : Int) = i := by omega
      rw [this, ← hx]; rfl
    · rw [if_neg e]; exact hm j (by omega)
theorem markFair_ok (a b c d : Int) {l : List S38} (hl : (l.length : Int) ≤ 100000000) :
    EvP (fun k => laws_markFair.f k a b c d l 1) (fun r => r.1 = 1 + 6 * (l.length : Int) ∧ r.2.length = l.length ∧ Marked r.2 l.length) := by
  unfold laws_markFair.f laws_markKidS.f
  refine EvP.bind (markKid_l0 hl l.length l 1 0 (by omega) (by omega) rfl (by omega) (fun j hj => by omega)) ?_
  intro r h
  exact EvP.ret h
theorem heldKid_l0 {n : Nat} (hn : (n : Int) ≤ 100000000) {l : List S38} (hl : l.length = n) (hm : Marked l n) : ∀ (d : Nat) (x i : Int), 0 ≤ i → i + d = (n : Int) → x = 1 + 6 * i →
    EvP (fun k => laws_heldKidS.l0 k l x i) (fun r => r = 1 + 6 * (n : Int))
  | 0, x, i, h0, hi, hx => by
    refine EvP.step ?_
    simp only [laws_heldKidS.l0]
    exact EvP.no (by omega) (EvP.ret (by omega))
  | d + 1, x, i, h0, hi, hx => by
    have h1 : i < (l.length : Int) := by omega
    have e1 : wrap64 (x + 1) = x + 1 := w64 (by omega) (by omega)
    have e2 : wrap64 (x + 1 + 1) = x + 2 := by rw [w64 (by omega) (by omega)]; omega
    have e3 : wrap64 (x + 2 + 1) = x + 3 := by rw [w64 (by omega) (by omega)]; omega
    have e4 : wrap64 (x + 3 + 1) = x + 4 := by rw [w64 (by omega) (by omega)]; omega
    have e5 : wrap64 (x + 4 + 1) = x + 5 := by rw [w64 (by omega) (by omega)]; omega
    have e6 : wrap64 (x + 5 + 1) = x + 6 := by rw [w64 (by omega) (by omega)]; omega
    have e7 : wrap64 (i + 1) = i + 1 := w64 (by omega) (by omega)
    have hv : rd_T38 l i = kmk x := by
      have := hm i.toNat (by omega)
      rw [rdk h0 h1] at this
      rw [Option.some.inj this, hx, Int.toNat_of_nonneg h0]
    refine EvP.step ?_
    simp only [laws_heldKidS.l0, e1, e2, e3, e4, e5, e6, e7, hv, kmk]
    refine EvP.yes h1 (EvP.yes h0 (EvP.yes (by first | trivial | rfl) (EvP.yes (by first | trivial | rfl) (EvP.no (by simp) (EvP.yes (by first | trivial | rfl) (EvP.yes (by first | trivial | rfl) (EvP.yes (by first | trivial | rfl) ?_)))))))
    exact heldKid_l0 hn hl hm d (x + 6) (i + 1) (by omega) (by omega) (by omega)
theorem heldFair_ok (a b c d : Int) {l : List S38} {n : Nat} (hn : (n : Int) ≤ 100000000) (hl : l.length = n) (hm : Marked l n) :
    EvP (fun k => laws_heldFair.f k a b c d l 1) (fun r => r = 1 + 6 * (n : Int)) := by
  unfold laws_heldFair.f laws_heldKidS.f
  refine EvP.bind (heldKid_l0 hn hl hm n 1 0 (by omega) (by omega) (by omega)) ?_
  rintro _ rfl
  exact EvP.no (by omega) (EvP.ret rfl)
theorem eqFair_same (a b c d : Int) {l : List S38} (hl : (l.length : Int) ≤ 100000000) : EvP (fun k => laws_eqFair.f k a b c d l a b c d l) (fun r => r = true) :=
  (eqFair_ok hl).mono (fun r h => h.2 ⟨rfl, rfl, rfl, rfl, rfl⟩)
theorem neSelf (x : Int) : (x != x) = false := by simp
theorem specCopy_ok (d a b c : Int) {l : List S38} (hl : (l.length : Int) ≤ 100000000) : EvP (fun _ => spec_l18Copy.f d a b c l) (fun r => r = (d, a, b, c, l)) := by
  unfold spec_l18Copy.f
  refine EvP.bind (EvP.ret rfl) ?_
  rintro _ rfl
  refine EvP.yes (by simp only [List.length_nil]; omega) (EvP.ret ?_)
  rw [List.nil_append]

theorem implCopy'_ok (d a b c : Int) {l : List S38} (hl : (l.length : Int) ≤ 100000000) : EvP (fun _ => impl_copyFair.f d a b c l) (fun r => r = (d, a, b, c, l)) := by
  unfold impl_copyFair.f
  refine EvP.bind (P := fun r => r = l) ?_ ?_
  · unfold impl_Kid.f
    refine EvP.bind (EvP.ret rfl) ?_
    rintro _ rfl
    refine EvP.yes (by simp only [List.length_nil]; omega) (EvP.ret ?_)
    rw [List.nil_append]
  rintro _ rfl
  exact EvP.ret rfl
theorem implFin'_ok (a b c x y z w : Int) : EvP (fun k => impl_Finish.f k a b c x y z w) (FinR a b c x y z w) := by
  have bad : ¬ FinP a b c x y z w → EvP (fun k => impl_Finish.j0 k w true a b c x y z) (FinR a b c x y z w) := by
    intro h
    refine EvP.step ?_
    simp only [impl_Finish.j0]
    exact EvP.yes (by simp) (EvP.ret ⟨fun g => absurd g.1 h, fun _ => rfl⟩)
  unfold impl_Finish.f
  refine EvP.bind (implTag_ok a b c) (fun t ht => ?_)
  refine EvP.ite (fun h1 => ?_) (fun h1 => bad (fun g => h1 (ht.2 g.1)))
  refine EvP.bind (implCharge_ok x y z) (fun u hu => ?_)
  refine EvP.ite (fun h2 => ?_) (fun h2 => bad (fun g => h2 (hu.2 g.2.1)))
  refine EvP.bind (isWeight_ok w) (fun v hv => ?_)
  cases v with
  | false => exact bad (fun g => by have := hv.2 g.2.2; cases this)
  | true =>
    have hT := ht.1 h1
    have hC := hu.1 h2
    have hw' := hv.1 rfl
    obtain ⟨k1, k2, k3⟩ := id hT
    obtain ⟨q1, q2, q3⟩ := id hC
    refine EvP.step ?_
    simp only [impl_Finish.j0]
    refine EvP.no (by simp) ?_
    have one : ∀ {p q : Int}, 0 ≤ p ∧ p ≤ 1000000000000 → 1 ≤ q ∧ q ≤ 2000 → EvP (fun _ => impl_Finish_1.f p q w) (fun r => r = p + q * strideOf w) := by
      intro p q hp hq
      unfold impl_Finish_1.f
      refine EvP.bind (implStride_ok w) ?_
      rintro _ rfl
      exact EvP.ret (fin_w hp hq)
    refine EvP.bind (P := fun r => r = (a + x * strideOf w, b + y * strideOf w, c + z * strideOf w)) ?_ ?_
    · unfold impl_both_105.f
      refine EvP.bind (one k1 q1) ?_
      rintro _ rfl
      refine EvP.bind (one k2 q2) ?_
      rintro _ rfl
      refine EvP.bind (one k3 q3) ?_
      rintro _ rfl
      exact EvP.ret rfl
    rintro _ rfl
    dsimp only
    refine EvP.bind (implTag_ok _ _ _) (fun t ht' => ?_)
    exact EvP.ite (fun h3 => EvP.ret ⟨fun _ => rfl, fun g => absurd ⟨⟨hT, hC, hw'⟩, ht'.1 h3⟩ g⟩) (fun h3 => EvP.ret ⟨fun g => absurd (ht'.2 g.2) h3, fun _ => rfl⟩)
theorem implMost_ok (a b c d e f : Int) : EvP (fun _ => impl_VecMost.f a b c d e f) (fun r => r = (mx a d, mx b e, mx c f)) := EvP.of ⟨_, rfl, rfl⟩
theorem specMost_ok (a b c d e f : Int) : EvP (fun _ => spec_VecMost.f a b c d e f) (fun r => r = (mx a d, mx b e, mx c f)) := EvP.ret rfl
theorem rd_at {l : List S38} {i : Int} (h0 : 0 ≤ i) (h1 : i < (l.length : Int)) : l[i.toNat]? = some (rd_T38 l i) := by
  unfold rd_T38
  rw [List.getD_eq_getElem?_getD, List.getElem?_eq_getElem (by omega)]; rfl
theorem idsUp {d T : Int} {l : List S38} (h : FairFrom d T l 0) : ∀ (n : Nat) (i : Int), 0 ≤ i → i + (n + 1 : Nat) < (l.length : Int) → (rd_T38 l i).f0 < (rd_T38 l (i + (n + 1 : Nat))).f0
  | 0, i, h0, h1 => by
    have := (h (i + 1) (by omega) (by omega)).2 (by omega)
    rw [show i + 1 - 1 = i by omega] at this
    exact this
  | n + 1, i, h0, h1 => by
    have ih := idsUp h n i h0 (by omega)
    have := (h (i + (n + 1 + 1 : Nat)) (by omega) (by omega)).2 (by omega)
    rw [show i + ((n + 1 + 1 : Nat) : Int) - 1 = i + ((n + 1 : Nat) : Int) by omega] at this
    omega
theorem atPick {d T : Int} {l : List S38} (h : FairFrom d T l 0) {p : Int} (h0 : -1 ≤ p) (h1 : p < (l.length : Int)) : atOf l (if p < 0 then -1 else (rd_T38 l p).f0) = p := by
  unfold atOf
  by_cases hp : p < 0
  · rw [if_pos hp]
    have e : p = -1 := by omega
    rw [e]
    refine idxP_miss l (fun j y hy => ?_)
    have hj : j < l.length := (List.getElem?_eq_some_iff.1 hy).1
    have hk := (h j (by omega) (by omega)).1.1
    have hr := rd_at (l := l) (i := (j : Int)) (by omega) (by omega)
    rw [Int.toNat_natCast, hy] at hr
    rw [← Option.some.inj hr] at hk
    simp only [beq_eq_false_iff_ne, ne_eq]
    omega
  · rw [if_neg hp]
    have e := idxP_hit (p := fun x : S38 => x.f0 == (rd_T38 l p).f0) l p.toNat (rd_T38 l p) (rd_at (by omega) h1) (by simp) (fun j y hj hy => by
      have hr := rd_at (l := l) (i := (j : Int)) (by omega) (by omega)
      rw [Int.toNat_natCast, hy] at hr
      have hu := idsUp h (p.toNat - j - 1) j (by omega) (by omega)
      rw [show (j : Int) + ((p.toNat - j - 1 + 1 : Nat) : Int) = p by omega, ← Option.some.inj hr] at hu
      simp only [beq_eq_false_iff_ne, ne_eq]
      omega)
    rw [e]; omega
theorem FinR.one {a b c x y z w : Int} {r s : Int × Int × Int × Bool} (h : FinR a b c x y z w r) (g : FinR a b c x y z w s) : r = s := by
  unfold FinR at h g
  by_cases q : FinP a b c x y z w ∧ TagP (a + x * strideOf w) (b + y * strideOf w) (c + z * strideOf w)
  · rw [h.1 q, g.1 q]
  · rw [h.2 q, g.2 q]
theorem serve_ok (d a b c x y z : Int) (m : Bool) {l : List S38} (hl : (l.length : Int) ≤ 1048576) : ∃ R : Int × Int × Int × Int × List S38 × Int, (R.2.2.2.2.1.length : Int) ≤ 1048576 ∧
    EvP (fun k => spec_FairServe.f k d a b c l x y z m) (fun r => r = R) ∧ EvP (fun k => impl_FairServe.f k d a b c l x y z m) (fun r => r = R) := by
  have sbad : EvP (fun k => spec_FairServe.j0 k m true d a b c l x y z) (fun r => r = (0, 0, 0, 0, [], 1)) := by
    refine EvP.step ?_
    simp only [spec_FairServe.j0]
    exact EvP.yes (by simp) (EvP.ret rfl)
  have ibad : EvP (fun k => impl_FairServe.j0 k m true d a b c l x y z) (fun r => r = (0, 0, 0, 0, [], 1)) := by
    refine EvP.step ?_
    simp only [impl_FairServe.j0]
    exact EvP.yes (by simp) (EvP.ret rfl)
  by_cases hF : FairP d a b c l
  · by_cases hC : In 1 2000 x y z
    · have hin := pickOf_in l
      have hat := atPick hF.2.2.2 hin.1 hin.2
      have sgo : ∀ (P : Int × Int × Int × Int × List S38 × Int → Prop), EvP (fun k => spec_FairServe.j0 k m false d a b c l x y z) P → EvP (fun k => spec_FairServe.f k d a b c l x y z m) P := by
        intro P h
        unfold spec_FairServe.f
        refine EvP.bind (specFair_ok d a b c l) (fun t ht => EvP.yes (ht.2 hF) ?_)
        refine EvP.bind (specCharge_ok x y z) (fun t ht => ?_)
        rw [ht.2 hC]
        exact h
      have igo : ∀ (P : Int × Int × Int × Int × List S38 × Int → Prop), EvP (fun k => impl_FairServe.j0 k m false d a b c l x y z) P → EvP (fun k => impl_FairServe.f k d a b c l x y z m) P := by
        intro P h
        unfold impl_FairServe.f
        refine EvP.bind (implFair_ok d a b c l) (fun t ht => EvP.yes (ht.2 hF) ?_)
        refine EvP.bind (implCharge_ok x y z) (fun t ht => ?_)
        rw [ht.2 hC]
        exact h
      have h48 := hF.2.2.1
      generalize hp : pickOf l = p at hin hat
      have spk : EvP (fun k => spec_FairPick.f k d a b c l) (fun r => r = if p < 0 then -1 else (rd_T38 l p).f0) := (specPick_ok d a b c l).mono (fun r e => hp ▸ e.1 hF)
      have ipk : EvP (fun k => impl_Fair_pick.f k d a b c l) (fun r => r = p) := hp ▸ implPickAt_ok d a b c h48
      by_cases hneg : p < 0
      · refine ⟨(0, 0, 0, 0, [], 4), by simp, sgo _ ?_, igo _ ?_⟩
        · refine EvP.step ?_
          simp only [spec_FairServe.j0]
          refine EvP.no (by simp) ?_
          refine EvP.bind spk ?_
          rintro _ rfl
          refine EvP.bind (specAt_ok d a b c _ hl) ?_
          rintro _ rfl
          rw [hat]
          exact EvP.yes hneg (EvP.ret rfl)
        · refine EvP.step ?_
          simp only [impl_FairServe.j0]
          refine EvP.no (by simp) ?_
          refine EvP.bind ipk ?_
          rintro _ rfl
          exact EvP.yes hneg (EvP.ret rfl)
      · have h0 : 0 ≤ p := by omega
        have h1 := hin.2
        generalize hk : rd_T38 l p = q
        by_cases ht : mx (mx (mx a q.f3.f0) (mx b q.f3.f1)) (mx c q.f3.f2) > 100000000000
        · refine ⟨(0, 0, 0, 0, [], 7), by simp, sgo _ ?_, igo _ ?_⟩
          · refine EvP.step ?_
            simp only [spec_FairServe.j0]
            refine EvP.no (by simp) ?_
            refine EvP.bind spk ?_
            rintro _ rfl
            refine EvP.bind (specAt_ok d a b c _ hl) ?_
            rintro _ rfl
            rw [hat]
            refine EvP.no hneg ?_
            refine EvP.bind (specCopy_ok d a b c (by omega)) ?_
            rintro _ rfl
            refine EvP.yes h0 (EvP.yes h1 ?_)
            rw [hk]
            refine EvP.bind (specMost_ok _ _ _ _ _ _) ?_
            rintro _ rfl
            refine EvP.bind (specTop_ok _ _ _) ?_
            rintro _ rfl
            exact EvP.yes ht (EvP.ret rfl)
          · refine EvP.step ?_
            simp only [impl_FairServe.j0]
            refine EvP.no (by simp) ?_
            refine EvP.bind ipk ?_
            rintro _ rfl
            refine EvP.no hneg ?_
            refine EvP.bind (implCopy'_ok d a b c (by omega)) ?_
            rintro _ rfl
            refine EvP.yes h0 (EvP.yes h1 ?_)
            simp only [hk]
            refine EvP.bind (implMost_ok _ _ _ _ _ _) ?_
            rintro _ rfl
            refine EvP.bind (implTop_ok _ _ _) ?_
            rintro _ rfl
            exact EvP.yes ht (EvP.ret rfl)
        · obtain ⟨fi, hfi, hfr⟩ : ∃ fi, EvP (fun k => impl_Finish.f k q.f3.f0 q.f3.f1 q.f3.f2 x y z q.f1) (fun r => r = fi) ∧ EvP (fun k => spec_Finish.f k q.f3.f0 q.f3.f1 q.f3.f2 x y z q.f1) (fun r => r = fi) := by
            by_cases g : FinP q.f3.f0 q.f3.f1 q.f3.f2 x y z q.f1 ∧ TagP (q.f3.f0 + x * strideOf q.f1) (q.f3.f1 + y * strideOf q.f1) (q.f3.f2 + z * strideOf q.f1)
            · exact ⟨_, (implFin'_ok _ _ _ _ _ _ _).mono (fun r h => h.1 g), (specFin_ok _ _ _ _ _ _ _).mono (fun r h => h.1 g)⟩
            · exact ⟨_, (implFin'_ok _ _ _ _ _ _ _).mono (fun r h => h.2 g), (specFin_ok _ _ _ _ _ _ _).mono (fun r h => h.2 g)⟩
          obtain ⟨dv, hdi, hds⟩ : ∃ dv, EvP (fun _ => impl_Dovetail.f fi.1 fi.2.1 fi.2.2.1 d) (fun r => r = dv) ∧ EvP (fun k => spec_Dovetail.f k fi.1 fi.2.1 fi.2.2.1 d) (fun r => r = dv) := by
            by_cases g : TagP fi.1 fi.2.1 fi.2.2.1 ∧ (0 ≤ d ∧ d ≤ 10000000)
            · exact ⟨_, (implDove_ok _ _ _ _).mono (fun r h => h.1 g), (specDove_ok _ _ _ _).mono (fun r h => h.1 g)⟩
            · exact ⟨_, (implDove_ok _ _ _ _).mono (fun r h => h.2 g), (specDove_ok _ _ _ _).mono (fun r h => h.2 g)⟩
          refine ⟨(d, mx a q.f3.f0, mx b q.f3.f1, mx c q.f3.f2, l.set p.toNat ⟨q.f0, q.f1, m, ⟨dv.1, dv.2.1, dv.2.2⟩⟩, 0), by dsimp only; rw [List.length_set]; exact hl, sgo _ ?_, igo _ ?_⟩
          · refine EvP.step ?_
            simp only [spec_FairServe.j0]
            refine EvP.no (by simp) ?_
            refine EvP.bind spk ?_
            rintro _ rfl
            refine EvP.bind (specAt_ok d a b c _ hl) ?_
            rintro _ rfl
            rw [hat]
            refine EvP.no hneg ?_
            refine EvP.bind (specCopy_ok d a b c (by omega)) ?_
            rintro _ rfl
            refine EvP.yes h0 (EvP.yes h1 ?_)
            simp only [hk]
            refine EvP.bind (specMost_ok _ _ _ _ _ _) ?_
            rintro _ rfl
            refine EvP.bind (specTop_ok _ _ _) ?_
            rintro _ rfl
            refine EvP.no ht ?_
            refine EvP.bind hfr ?_
            rintro _ rfl
            refine EvP.bind hds ?_
            rintro _ rfl
            refine EvP.yes h1 ?_
            refine EvP.bind (EvP.ret rfl) ?_
            rintro _ rfl
            simp only [rdset h0 h1, List.set_set]
            exact EvP.ret rfl
          · refine EvP.step ?_
            simp only [impl_FairServe.j0]
            refine EvP.no (by simp) ?_
            refine EvP.bind ipk ?_
            rintro _ rfl
            refine EvP.no hneg ?_
            refine EvP.bind (implCopy'_ok d a b c (by omega)) ?_
            rintro _ rfl
            refine EvP.yes h0 (EvP.yes h1 ?_)
            simp only [hk]
            refine EvP.bind (implMost_ok _ _ _ _ _ _) ?_
            rintro _ rfl
            refine EvP.bind (implTop_ok _ _ _) ?_
            rintro _ rfl
            refine EvP.no ht ?_
            refine EvP.bind hfi ?_
            rintro _ rfl
            refine EvP.bind hdi ?_
            rintro _ rfl
            refine EvP.bind (EvP.ret rfl) ?_
            rintro _ rfl
            simp only [rdset h0 h1, List.set_set]
            exact EvP.ret rfl
    · refine ⟨(0, 0, 0, 0, [], 1), by simp, ?_, ?_⟩
      · unfold spec_FairServe.f
        refine EvP.bind (specFair_ok d a b c l) (fun t ht => EvP.yes (ht.2 hF) ?_)
        refine EvP.bind (specCharge_ok x y z) (fun t ht => ?_)
        cases t with
        | true => exact absurd (ht.1 rfl) hC
        | false => exact sbad
      · unfold impl_FairServe.f
        refine EvP.bind (implFair_ok d a b c l) (fun t ht => EvP.yes (ht.2 hF) ?_)
        refine EvP.bind (implCharge_ok x y z) (fun t ht => ?_)
        cases t with
        | true => exact absurd (ht.1 rfl) hC
        | false => exact ibad
  · refine ⟨(0, 0, 0, 0, [], 1), by simp, ?_, ?_⟩
    · unfold spec_FairServe.f
      exact EvP.bind (specFair_ok d a b c l) (fun t ht => EvP.no (fun g => hF (ht.1 g)) sbad)
    · unfold impl_FairServe.f
      exact EvP.bind (implFair_ok d a b c l) (fun t ht => EvP.no (fun g => hF (ht.1 g)) ibad)
theorem FnExactFairServe : laws_FnExactFairServe.Pure := by
  intro d a b c l x y z mo hw hid
  obtain ⟨hf, hv, hlm, hl⟩ := hw
  have hm : l.length ≤ 9223372036854775807 := hlm
  refine EvP.rounds ?_
  unfold laws_FnExactFairServe.f
  refine EvP.bind (szFair_ok d a b c l hm) ?_
  intro sz_ hz
  refine EvP.ite (fun _ => EvP.ret rfl) (fun hz0 => ?_)
  have hs : ((l.map kidOf).length : Int) ≤ 1048576 := by rw [List.length_map]; omega
  obtain ⟨⟨r0, r1, r2, r3, rl, rc⟩, hR, hsp, him⟩ := serve_ok d a b c x y z mo hs
  dsimp only at hR
  have toF := toFair_ok (a := d) (b := a) (c := b) (d := c) (l := l) (by omega)
  refine EvP.bind toF ?_
  rintro _ rfl
  refine EvP.bind (P := fun r => r = (x, y, z)) (EvP.ret rfl) ?_
  rintro _ rfl
  refine EvP.bind hsp ?_
  rintro _ rfl
  refine EvP.bind toF ?_
  rintro _ rfl
  refine EvP.bind (P := fun r => r = (x, y, z)) (EvP.ret rfl) ?_
  rintro _ rfl
  refine EvP.bind him ?_
  rintro _ rfl
  dsimp only
  refine EvP.bind (eqFair_same r0 r1 r2 r3 (l := rl) (by omega)) ?_
  rintro _ rfl
  refine EvP.yes rfl ?_
  rw [neSelf]
  refine EvP.step ?_
  simp only [laws_FnExactFairServe.j0]
  refine EvP.no (by simp) ?_
  refine EvP.bind toF ?_
  rintro _ rfl
  refine EvP.bind (eqFair_same d a b c (by omega)) ?_
  rintro _ rfl
  refine EvP.yes rfl ?_
  refine EvP.bind (markFair_ok d a b c (l := l.map kidOf) (by omega)) ?_
  rintro ⟨m, ml⟩ ⟨hm1, _, _⟩
  dsimp only at hm1 ⊢
  refine EvP.no (by omega) ?_
  refine EvP.bind (eqFair_same r0 r1 r2 r3 (l := rl) (by omega)) ?_
  rintro _ rfl
  refine EvP.yes rfl ?_
  rw [neSelf]
  refine EvP.step ?_
  simp only [laws_FnExactFairServe.j1]
  refine EvP.no (by simp) ?_
  refine EvP.bind (markFair_ok r0 r1 r2 r3 (l := rl) (by omega)) ?_
  rintro ⟨q, ql⟩ ⟨hq1, hq2, hq3⟩
  dsimp only at hq1 hq2 hq3 ⊢
  refine EvP.bind (heldFair_ok r0 r1 r2 r3 (n := rl.length) (by omega) hq2 hq3) ?_
  rintro _ rfl
  refine EvP.no (by omega) (EvP.yes hq1.symm ?_)
  refine EvP.bind toF ?_
  rintro _ rfl
  refine EvP.bind (P := fun r => r = (x, y, z)) (EvP.ret rfl) ?_
  rintro _ rfl
  refine EvP.bind him ?_
  rintro _ rfl
  dsimp only
  refine EvP.bind (eqFair_same r0 r1 r2 r3 (l := rl) (by omega)) ?_
  rintro _ rfl
  refine EvP.yes rfl ?_
  rw [neSelf]
  refine EvP.step ?_
  simp only [laws_FnExactFairServe.j2]
  refine EvP.no (by simp) ?_
  refine EvP.bind (heldFair_ok r0 r1 r2 r3 (n := rl.length) (by omega) hq2 hq3) ?_
  rintro _ rfl
  exact EvP.no (by omega) (EvP.yes hq1.symm (EvP.ret rfl))

end Go.Proofs.Ytljhaoiopokmfaa.Pure
