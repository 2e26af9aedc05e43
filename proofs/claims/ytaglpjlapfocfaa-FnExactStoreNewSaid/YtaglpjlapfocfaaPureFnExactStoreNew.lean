/- The program's StoreNew and the reference's answer alike, for every argument, and what is handed back is new memory. No condition. -/
import Derived.Test.YtaglpjlapfocfaaPFnExactStoreNewx
import Derived.Laws.BitsLemmas
namespace Go.Proofs.Ytaglpjlapfocfaa.Pure
open Go.RowKit Go.Proofs.Ytaglpjlapfocfaa.PFnExactStoreNew Go.Proofs.YtaglpjlapfocfaaW.PrintWords Go.Proofs.YtaglpjlapfocfaaW.PrintLast Go.Proofs.YtaglpjlapfocfaaW.PrintMore
set_option linter.unusedVariables false
set_option linter.unusedSimpArgs false

def EvP {α : Type} (g : Nat → Option α) (P : α → Prop) : Prop := ∃ r, Ev g r ∧ P r
theorem EvP.ret {α : Type} {r : α} {P : α → Prop} (h : P r) : EvP (fun _ => some r) P := ⟨r, Ev.now r, h⟩
theorem EvP.bind {α β : Type} {g : Nat → Option α} {f : Nat → α → Option β} {P : α → Prop} {Q : β → Prop} (h : EvP g P) (k : ∀ r, P r → EvP (fun n => f n r) Q) : EvP (fun n => (g n).bind (f n)) Q := by
  obtain ⟨r, hr, hp⟩ := h
  obtain ⟨q, hq, hQ⟩ := k r hp
  exact ⟨q, Ev.bind hr hq, hQ⟩
theorem EvP.ite {α : Type} {c : Prop} [Decidable c] {a b : Nat → Option α} {Q : α → Prop} (h : c → EvP a Q) (h' : ¬ c → EvP b Q) : EvP (fun n => if c then a n else b n) Q := by
  by_cases hc : c
  · simp only [if_pos hc]; exact h hc
  · simp only [if_neg hc]; exact h' hc
theorem EvP.yes {α : Type} {c : Prop} [Decidable c] {a b : Nat → Option α} {Q : α → Prop} (hc : c) (h : EvP a Q) : EvP (fun n => if c then a n else b n) Q := by
  simp only [if_pos hc]; exact h
theorem EvP.no {α : Type} {c : Prop} [Decidable c] {a b : Nat → Option α} {Q : α → Prop} (hc : ¬ c) (h : EvP b Q) : EvP (fun n => if c then a n else b n) Q := by
  simp only [if_neg hc]; exact h
theorem EvP.step {α : Type} {g : Nat → Option α} {Q : α → Prop} (h : EvP (fun k => g (k + 1)) Q) : EvP g Q := by
  obtain ⟨r, hr, hq⟩ := h
  exact ⟨r, Ev.step (fun _ => rfl) hr, hq⟩
theorem EvP.rounds {α : Type} {g : Nat → Option α} {r : α} (h : EvP g (fun x => x = r)) : ∃ k, g k = some r := by
  obtain ⟨q, hq, rfl⟩ := h
  exact hq.rounds
theorem w64 {x : Int} (h0 : -9223372036854775808 ≤ x) (h1 : x ≤ 9223372036854775807) : wrap64 x = x := by unfold wrap64; omega
def Bs (s : List Int) : Prop := ∀ x ∈ s, 0 ≤ x ∧ x ≤ 255
theorem Bs.set {s : List Int} (h : Bs s) (i : Nat) {x : Int} (h0 : 0 ≤ x) (h1 : x ≤ 255) : Bs (s.set i x) := fun y hy => by
  rcases List.mem_or_eq_of_mem_set hy with hy | rfl
  · exact h y hy
  · exact ⟨h0, h1⟩
theorem rd_get (s : List Int) (i : Int) (h0 : 0 ≤ i) (h1 : i < (s.length : Int)) : rd s i = s[i.toNat]'(by omega) := by
  unfold rd
  rw [List.getD_eq_getElem?_getD, List.getElem?_eq_getElem (by omega)]
  rfl
theorem some_no {P : Prop} [Decidable P] (h : ¬ P) : (some false : Option Bool) = some (decide P) := by rw [decide_eq_false h]
theorem some_iff {P Q : Prop} [Decidable P] [Decidable Q] (h : Q ↔ P) : (some (decide Q) : Option Bool) = some (decide P) := by rw [decide_eq_decide.2 h]
theorem within_ok (a b c : Int) : impl_within.f a b c = some (decide (b ≤ a ∧ a ≤ c)) := by
  unfold impl_within.f
  split
  · exact some_iff (by omega)
  · exact some_no (by omega)
theorem rd_set (l : List Int) (i j : Int) (v : Int) (hi : 0 ≤ i) (hj : 0 ≤ j) (hl : i < (l.length : Int)) : rd (l.set i.toNat v) j = if j = i then v else rd l j := by
  unfold rd
  rw [List.getD_eq_getElem?_getD, List.getD_eq_getElem?_getD]
  by_cases h : j = i
  · subst h
    rw [if_pos rfl, List.getElem?_set_self (by omega)]; rfl
  · rw [if_neg h, List.getElem?_set_ne (by omega)]
theorem list_ext_rd {a b : List Int} (hl : a.length = b.length) (h : ∀ i : Int, 0 ≤ i → i < (a.length : Int) → rd a i = rd b i) : a = b := by
  apply List.ext_getElem hl
  intro i h1 h2
  have := h (i : Int) (by omega) (by omega)
  rw [rd_get a _ (by omega) (by omega), rd_get b _ (by omega) (by omega)] at this
  simpa using this
theorem eqIntS_l0 {a b : List Int} (hl : a.length = b.length) (hm : (a.length : Int) ≤ 100000000) : ∀ (d : Nat) (i : Int), 0 ≤ i → i + d = (a.length : Int) → (∀ j : Int, 0 ≤ j → j < i → rd a j = rd b j) →
    EvP (fun k => laws_eqIntS.l0 k a b i) (fun r => r = decide (a = b)) := by
  intro d
  induction d with
  | zero =>
    intro i h0 hd hr
    refine EvP.step ?_
    simp only [laws_eqIntS.l0]
    exact EvP.no (by omega) (EvP.ret (decide_eq_true (list_ext_rd hl (fun j h1 h2 => hr j h1 (by omega)))).symm)
  | succ d ih =>
    intro i h0 hd hr
    refine EvP.step ?_
    simp only [laws_eqIntS.l0]
    refine EvP.yes (by omega) (EvP.yes h0 (EvP.yes (by omega) (EvP.ite (fun he => ?_) (fun he => EvP.ret ?_))))
    · simp only [w64 (x := i + 1) (by omega) (by omega)]
      exact ih (i + 1) (by omega) (by omega) (fun j h1 h2 => by
        by_cases e : j = i
        · rw [e]; exact he
        · exact hr j h1 (by omega))
    · symm
      exact decide_eq_false (fun e => he (by rw [e]))
theorem eqIntS_ok {a b : List Int} (hm : (a.length : Int) ≤ 100000000) : EvP (fun k => laws_eqIntS.f k a b) (fun r => r = decide (a = b)) := by
  unfold laws_eqIntS.f
  refine EvP.ite (fun hl => ?_) (fun hl => EvP.ret ?_)
  · exact eqIntS_l0 (by omega) hm a.length 0 (by omega) (by omega) (fun j h1 h2 => by omega)
  · symm
    exact decide_eq_false (fun e => hl (by rw [e]))
/-- The numbers k, k + 1, .. -/
def upFrom (k : Int) (n : Nat) : List Int := (List.range n).map fun (i : Nat) => k + (i : Int)
theorem upFrom_length (k : Int) (n : Nat) : (upFrom k n).length = n := by simp [upFrom]
theorem rd_upFrom (k : Int) (n : Nat) (i : Int) (h0 : 0 ≤ i) (h1 : i < (n : Int)) : rd (upFrom k n) i = k + i := by
  rw [rd_get _ i h0 (by rw [upFrom_length]; exact h1)]
  simp [upFrom]; omega
theorem eqByteS_l0 {a b : List Int} (hl : a.length = b.length) (hm : (a.length : Int) ≤ 100000000) : ∀ (d : Nat) (i : Int), 0 ≤ i → i + d = (a.length : Int) → (∀ j : Int, 0 ≤ j → j < i → rd a j = rd b j) →
    EvP (fun k => laws_eqByteS.l0 k a b i) (fun r => r = decide (a = b)) := by
  intro d
  induction d with
  | zero =>
    intro i h0 hd hr
    refine EvP.step ?_
    simp only [laws_eqByteS.l0]
    exact EvP.no (by omega) (EvP.ret (decide_eq_true (list_ext_rd hl (fun j h1 h2 => hr j h1 (by omega)))).symm)
  | succ d ih =>
    intro i h0 hd hr
    refine EvP.step ?_
    simp only [laws_eqByteS.l0]
    refine EvP.yes (by omega) (EvP.yes h0 (EvP.yes (by omega) (EvP.ite (fun he => ?_) (fun he => EvP.ret ?_))))
    · simp only [w64 (x := i + 1) (by omega) (by omega)]
      exact ih (i + 1) (by omega) (by omega) (fun j h1 h2 => by
        by_cases e : j = i
        · rw [e]; exact he
        · exact hr j h1 (by omega))
    · symm
      exact decide_eq_false (fun e => he (by rw [e]))
theorem eqByteS_ok {a b : List Int} (hm : (a.length : Int) ≤ 100000000) : EvP (fun k => laws_eqByteS.f k a b) (fun r => r = decide (a = b)) := by
  unfold laws_eqByteS.f
  refine EvP.ite (fun hl => ?_) (fun hl => EvP.ret ?_)
  · exact eqByteS_l0 (by omega) hm a.length 0 (by omega) (by omega) (fun j h1 h2 => by omega)
  · symm
    exact decide_eq_false (fun e => hl (by rw [e]))
/-- The numbers k, k + 1, .. as bytes -/
def upByte (k : Int) (n : Nat) : List Int := (List.range n).map fun (i : Nat) => (k + (i : Int)) % 256
theorem upByte_length (k : Int) (n : Nat) : (upByte k n).length = n := by simp [upByte]
theorem rd_upByte (k : Int) (n : Nat) (i : Int) (h0 : 0 ≤ i) (h1 : i < (n : Int)) : rd (upByte k n) i = (k + i) % 256 := by
  rw [rd_get _ i h0 (by rw [upByte_length]; exact h1)]
  simp [upByte]; omega
theorem markIntS_l0 {n : Nat} {k0 : Int} (hk : 0 ≤ k0 ∧ k0 ≤ 1000000000000) (hm : (n : Int) ≤ 100000000) : ∀ (d : Nat) (l : List Int) (i : Int), 0 ≤ i → i + d = (n : Int) → l.length = n → (∀ j : Int, 0 ≤ j → j < i → rd l j = k0 + j) →
    EvP (fun k => laws_markIntS.l0 k l (k0 + i) i) (fun r => r = (k0 + n, upFrom k0 n)) := by
  intro d
  induction d with
  | zero =>
    intro l i h0 hd hl hr
    refine EvP.step ?_
    simp only [laws_markIntS.l0]
    refine EvP.no (by omega) (EvP.ret ?_)
    rw [show i = (n : Int) by omega, list_ext_rd (a := l) (b := upFrom k0 n) (by rw [hl, upFrom_length]) (fun j h1 h2 => by rw [hr j h1 (by omega), rd_upFrom k0 n j h1 (by omega)])]
  | succ d ih =>
    intro l i h0 hd hl hr
    refine EvP.step ?_
    simp only [laws_markIntS.l0]
    refine EvP.yes (by omega) (EvP.yes h0 ?_)
    simp only [show k0 + i + 1 = k0 + (i + 1) by omega, w64 (x := i + 1) (by omega) (by omega), w64 (x := k0 + (i + 1)) (by omega) (by omega)]
    refine ih _ (i + 1) (by omega) (by omega) (by rw [List.length_set]; exact hl) (fun j h1 h2 => ?_)
    rw [rd_set l i j _ h0 h1 (by omega)]
    by_cases e : j = i
    · rw [if_pos e, e]
    · rw [if_neg e]; exact hr j h1 (by omega)
theorem markIntS_ok {l : List Int} {k0 : Int} (hk : 0 ≤ k0 ∧ k0 ≤ 1000000000000) (hm : (l.length : Int) ≤ 100000000) : EvP (fun k => laws_markIntS.f k l k0) (fun r => r = (k0 + l.length, upFrom k0 l.length)) := by
  have := markIntS_l0 hk hm l.length l 0 (by omega) (by omega) rfl (fun j h1 h2 => by omega)
  simpa [laws_markIntS.f] using this
theorem heldIntS_l0 {n : Nat} {k0 : Int} (hk : 0 ≤ k0 ∧ k0 ≤ 1000000000000) (hm : (n : Int) ≤ 100000000) : ∀ (d : Nat) (i : Int), 0 ≤ i → i + d = (n : Int) →
    EvP (fun k => laws_heldIntS.l0 k (upFrom k0 n) (k0 + i) i) (fun r => r = k0 + n) := by
  intro d
  induction d with
  | zero =>
    intro i h0 hd
    refine EvP.step ?_
    simp only [laws_heldIntS.l0, upFrom_length]
    exact EvP.no (by omega) (EvP.ret (by omega))
  | succ d ih =>
    intro i h0 hd
    refine EvP.step ?_
    simp only [laws_heldIntS.l0, upFrom_length]
    refine EvP.yes (by omega) (EvP.yes h0 (EvP.yes (rd_upFrom k0 n i h0 (by omega)) ?_))
    simp only [show k0 + i + 1 = k0 + (i + 1) by omega, w64 (x := i + 1) (by omega) (by omega), w64 (x := k0 + (i + 1)) (by omega) (by omega)]
    exact ih (i + 1) (by omega) (by omega)
theorem heldIntS_ok {n : Nat} {k0 : Int} (hk : 0 ≤ k0 ∧ k0 ≤ 1000000000000) (hm : (n : Int) ≤ 100000000) : EvP (fun k => laws_heldIntS.f k (upFrom k0 n) k0) (fun r => r = k0 + n) := by
  have := heldIntS_l0 hk hm n 0 (by omega) (by omega)
  simpa [laws_heldIntS.f] using this
theorem markByteS_l0 {n : Nat} {k0 : Int} (hk : 0 ≤ k0 ∧ k0 ≤ 1000000000000) (hm : (n : Int) ≤ 100000000) : ∀ (d : Nat) (l : List Int) (i : Int), 0 ≤ i → i + d = (n : Int) → l.length = n → (∀ j : Int, 0 ≤ j → j < i → rd l j = (k0 + j) % 256) →
    EvP (fun k => laws_markByteS.l0 k l (k0 + i) i) (fun r => r = (k0 + n, upByte k0 n)) := by
  intro d
  induction d with
  | zero =>
    intro l i h0 hd hl hr
    refine EvP.step ?_
    simp only [laws_markByteS.l0]
    refine EvP.no (by omega) (EvP.ret ?_)
    rw [show i = (n : Int) by omega, list_ext_rd (a := l) (b := upByte k0 n) (by rw [hl, upByte_length]) (fun j h1 h2 => by rw [hr j h1 (by omega), rd_upByte k0 n j h1 (by omega)])]
  | succ d ih =>
    intro l i h0 hd hl hr
    refine EvP.step ?_
    simp only [laws_markByteS.l0]
    refine EvP.yes (by omega) (EvP.yes h0 ?_)
    simp only [show k0 + i + 1 = k0 + (i + 1) by omega, w64 (x := i + 1) (by omega) (by omega), w64 (x := k0 + (i + 1)) (by omega) (by omega)]
    refine ih _ (i + 1) (by omega) (by omega) (by rw [List.length_set]; exact hl) (fun j h1 h2 => ?_)
    rw [rd_set l i j _ h0 h1 (by omega)]
    by_cases e : j = i
    · rw [if_pos e, e]
    · rw [if_neg e]; exact hr j h1 (by omega)
theorem markByteS_ok {l : List Int} {k0 : Int} (hk : 0 ≤ k0 ∧ k0 ≤ 1000000000000) (hm : (l.length : Int) ≤ 100000000) : EvP (fun k => laws_markByteS.f k l k0) (fun r => r = (k0 + l.length, upByte k0 l.length)) := by
  have := markByteS_l0 hk hm l.length l 0 (by omega) (by omega) rfl (fun j h1 h2 => by omega)
  simpa [laws_markByteS.f] using this
theorem heldByteS_l0 {n : Nat} {k0 : Int} (hk : 0 ≤ k0 ∧ k0 ≤ 1000000000000) (hm : (n : Int) ≤ 100000000) : ∀ (d : Nat) (i : Int), 0 ≤ i → i + d = (n : Int) →
    EvP (fun k => laws_heldByteS.l0 k (upByte k0 n) (k0 + i) i) (fun r => r = k0 + n) := by
  intro d
  induction d with
  | zero =>
    intro i h0 hd
    refine EvP.step ?_
    simp only [laws_heldByteS.l0, upByte_length]
    exact EvP.no (by omega) (EvP.ret (by omega))
  | succ d ih =>
    intro i h0 hd
    refine EvP.step ?_
    simp only [laws_heldByteS.l0, upByte_length]
    refine EvP.yes (by omega) (EvP.yes h0 (EvP.yes (rd_upByte k0 n i h0 (by omega)) ?_))
    simp only [show k0 + i + 1 = k0 + (i + 1) by omega, w64 (x := i + 1) (by omega) (by omega), w64 (x := k0 + (i + 1)) (by omega) (by omega)]
    exact ih (i + 1) (by omega) (by omega)
theorem heldByteS_ok {n : Nat} {k0 : Int} (hk : 0 ≤ k0 ∧ k0 ≤ 1000000000000) (hm : (n : Int) ≤ 100000000) : EvP (fun k => laws_heldByteS.f k (upByte k0 n) k0) (fun r => r = k0 + n) := by
  have := heldByteS_l0 hk hm n 0 (by omega) (by omega)
  simpa [laws_heldByteS.f] using this
theorem eqSlab_ok {f g : Int} {l m : List Int} (hl : (l.length : Int) ≤ 100000000) : EvP (fun k => laws_eqSlab.f k f l g m) (fun r => r = true ↔ f = g ∧ l = m) := by
  unfold laws_eqSlab.f
  refine EvP.ite (fun e => EvP.bind (eqIntS_ok hl) ?_) (fun e => EvP.ret ⟨(fun h => by cases h), fun h => absurd h.1 e⟩)
  rintro _ rfl
  by_cases h : l = m
  · exact EvP.yes (by simp [h]) (EvP.ret ⟨fun _ => ⟨e, h⟩, fun _ => rfl⟩)
  · exact EvP.no (by simp [h]) (EvP.ret ⟨(fun h => by cases h), fun z => absurd z.2 h⟩)
theorem markSlab_ok {f : Int} {l : List Int} (hl : (l.length : Int) ≤ 100000000) : EvP (fun k => laws_markSlab.f k f l 1) (fun r => r = (1 + (l.length : Int), upFrom 1 l.length)) := by
  unfold laws_markSlab.f
  refine EvP.bind (markIntS_ok (by omega) hl) ?_
  rintro _ rfl
  exact EvP.ret rfl
theorem heldSlab_ok {f : Int} {n : Nat} (hl : (n : Int) ≤ 100000000) : EvP (fun k => laws_heldSlab.f k f (upFrom 1 n) 1) (fun r => r = 1 + (n : Int)) := by
  unfold laws_heldSlab.f
  refine EvP.bind (heldIntS_ok (by omega) hl) ?_
  rintro _ rfl
  exact EvP.no (by omega) (EvP.ret rfl)
def newNext (n : Nat) : List Int := (List.range n).map fun (i : Nat) => if i + 1 = n then -1 else (i : Int) + 1
theorem newNext_length (n : Nat) : (newNext n).length = n := by simp [newNext]
theorem rd_newNext (n : Nat) (i : Int) (h0 : 0 ≤ i) (h1 : i < (n : Int)) : rd (newNext n) i = if i + 1 = (n : Int) then -1 else i + 1 := by
  rw [rd_get _ i h0 (by rw [newNext_length]; exact h1)]
  simp only [newNext, List.getElem_map, List.getElem_range]
  split <;> split <;> omega
def slabNew (n : Int) : Int × List Int := if 0 ≤ n ∧ n ≤ 128 then (if n = 0 then -1 else 0, newNext n.toNat) else (0, [])
theorem rd_snoc (l : List Int) (v i : Int) (h0 : 0 ≤ i) (h1 : i ≤ (l.length : Int)) : rd (l ++ [v]) i = if i = (l.length : Int) then v else rd l i := by
  unfold rd
  rw [List.getD_eq_getElem?_getD, List.getD_eq_getElem?_getD]
  by_cases h : i = (l.length : Int)
  · rw [if_pos h, List.getElem?_append_right (by omega), show i.toNat - l.length = 0 by omega]; rfl
  · rw [if_neg h, List.getElem?_append_left (by omega)]
theorem specNew_l0 {n : Int} (hn : 0 ≤ n ∧ n ≤ 128) : ∀ (d : Nat) (i f : Int) (l : List Int), 0 ≤ i → i + d = n → f = (if i = 0 then -1 else 0) → (l.length : Int) = i → (∀ j : Int, 0 ≤ j → j < i → rd l j = if j + 1 = n then -1 else j + 1) →
    EvP (fun k => spec_SlabNew.l0 k n i f l) (fun r => r = (if n = 0 then -1 else 0, newNext n.toNat)) := by
  intro d
  induction d with
  | zero =>
    intro i f l h0 hd hf hl hr
    refine EvP.step ?_
    simp only [spec_SlabNew.l0]
    refine EvP.no (by omega) (EvP.ret ?_)
    rw [hf, show i = n by omega, list_ext_rd (a := l) (b := newNext n.toNat) (by rw [newNext_length]; omega) (fun j h1 h2 => by rw [hr j h1 (by omega), rd_newNext _ j h1 (by omega), show (n.toNat : Int) = n by omega])]
  | succ d ih =>
    intro i f l h0 hd hf hl hr
    refine EvP.step ?_
    simp only [spec_SlabNew.l0]
    simp only [w64 (x := i + 1) (by omega) (by omega), w64 (x := n - 1) (by omega) (by omega)]
    refine EvP.yes (by omega) (EvP.ite (fun h => EvP.yes (by omega) ?_) (fun h => EvP.yes (by omega) ?_))
    all_goals
      refine ih (i + 1) 0 _ (by omega) (by omega) (by rw [if_neg (by omega)]) (by rw [List.length_append]; simp only [List.length_cons, List.length_nil]; omega) (fun j j0 j1 => ?_)
      rw [rd_snoc l _ j j0 (by omega)]
      by_cases e : j = (l.length : Int)
      · rw [if_pos e]; split <;> omega
      · rw [if_neg e]; exact hr j j0 (by omega)
theorem specNew_ok (n : Int) : EvP (fun k => spec_SlabNew.f k n) (fun r => r = slabNew n) := by
  unfold spec_SlabNew.f slabNew
  have bad : ¬ (0 ≤ n ∧ n ≤ 128) → EvP (fun k => spec_SlabNew.j0 k n true) (fun r => r = if 0 ≤ n ∧ n ≤ 128 then (if n = 0 then -1 else 0, newNext n.toNat) else (0, [])) := fun h => by
    refine EvP.step ?_
    simp only [spec_SlabNew.j0]
    refine EvP.yes (by simp) (EvP.ret ?_)
    rw [if_neg h]
  refine EvP.ite (fun h => bad (by omega)) (fun h => ?_)
  by_cases h2 : n > 128
  · rw [decide_eq_true h2]; exact bad (by omega)
  · rw [decide_eq_false h2]
    refine EvP.step ?_
    simp only [spec_SlabNew.j0]
    refine EvP.no (by simp) ?_
    rw [if_pos ⟨by omega, by omega⟩]
    exact specNew_l0 (by omega) n.toNat 0 (-1) [] (by omega) (by omega) rfl rfl (fun j h1 h2 => by omega)
theorem implNew_l0 {n : Int} (hn : 0 ≤ n ∧ n ≤ 128) : ∀ (d : Nat) (i f : Int) (l : List Int), 0 ≤ i → i + d = n → f = (if i = 0 then -1 else 0) → (l.length : Int) = i → (∀ j : Int, 0 ≤ j → j < i → rd l j = j + 1) →
    EvP (fun k => impl_SlabNew.l0 k n n i f l) (fun r => r = (if n = 0 then -1 else 0, newNext n.toNat)) := by
  intro d
  induction d with
  | zero =>
    intro i f l h0 hd hf hl hr
    refine EvP.step ?_
    simp only [impl_SlabNew.l0]
    refine EvP.no (by omega) (EvP.ite (fun hp => ?_) (fun hp => EvP.ret ?_))
    · simp only [w64 (x := n - 1) (by omega) (by omega)]
      refine EvP.yes (by omega) (EvP.yes (by omega) (EvP.ret ?_))
      rw [hf, show i = n by omega, list_ext_rd (a := l.set (n - 1).toNat (-1)) (b := newNext n.toNat) (by rw [newNext_length, List.length_set]; omega) (fun j h1 h2 => ?_)]
      rw [List.length_set] at h2
      rw [rd_set l (n - 1) j (-1) (by omega) h1 (by omega), rd_newNext _ j h1 (by omega), show (n.toNat : Int) = n by omega]
      by_cases e : j = n - 1
      · rw [if_pos e, if_pos (by omega)]
      · rw [if_neg e, if_neg (by omega)]; exact hr j h1 (by omega)
    · have e : n = 0 := by omega
      subst e
      have e2 : l = [] := List.eq_nil_of_length_eq_zero (by omega)
      subst e2
      rw [hf, show i = 0 by omega]; rfl
  | succ d ih =>
    intro i f l h0 hd hf hl hr
    refine EvP.step ?_
    simp only [impl_SlabNew.l0]
    simp only [w64 (x := i + 1) (by omega) (by omega)]
    refine EvP.yes (by omega) (EvP.yes (by omega) ?_)
    refine ih (i + 1) 0 _ (by omega) (by omega) (by rw [if_neg (by omega)]) (by rw [List.length_append]; simp only [List.length_cons, List.length_nil]; omega) (fun j j0 j1 => ?_)
    rw [rd_snoc l _ j j0 (by omega)]
    by_cases e : j = (l.length : Int)
    · rw [if_pos e]; omega
    · rw [if_neg e]; exact hr j j0 (by omega)
theorem implNew_ok (n : Int) : EvP (fun k => impl_SlabNew.f k n) (fun r => r = slabNew n) := by
  unfold impl_SlabNew.f slabNew
  simp only [within_ok, Option.bind_some]
  refine EvP.ite (fun h => ?_) (fun h => EvP.ret ?_)
  · have h : 0 ≤ n ∧ n ≤ 128 := by simpa using h
    rw [if_pos h]
    exact implNew_l0 h n.toNat 0 (-1) [] (by omega) (by omega) rfl rfl (fun j h1 h2 => by omega)
  · rw [if_neg (by simpa using h)]
theorem eqStore_ok {f g : Int} {l m d e : List Int} (hl : (l.length : Int) ≤ 100000000) (hd : (d.length : Int) ≤ 100000000) : EvP (fun k => laws_eqStore.f k f l d g m e) (fun r => r = true ↔ f = g ∧ l = m ∧ d = e) := by
  unfold laws_eqStore.f
  refine EvP.bind (eqSlab_ok hl) ?_
  intro b hb
  refine EvP.ite (fun h => EvP.bind (eqByteS_ok hd) ?_) (fun h => EvP.ret ⟨(fun h => by cases h), fun z => absurd (hb.2 ⟨z.1, z.2.1⟩) h⟩)
  rintro _ rfl
  by_cases h2 : d = e
  · exact EvP.yes (by simp [h2]) (EvP.ret ⟨fun _ => ⟨(hb.1 h).1, (hb.1 h).2, h2⟩, fun _ => rfl⟩)
  · exact EvP.no (by simp [h2]) (EvP.ret ⟨(fun h => by cases h), fun z => absurd z.2.2 h2⟩)
theorem markStore_ok {f : Int} {l d : List Int} (hl : (l.length : Int) ≤ 100000000) (hd : (d.length : Int) ≤ 100000000) : EvP (fun k => laws_markStore.f k f l d 1) (fun r => r = (1 + (l.length : Int) + (d.length : Int), upFrom 1 l.length, upByte (1 + (l.length : Int)) d.length)) := by
  unfold laws_markStore.f
  refine EvP.bind (markSlab_ok hl) ?_
  rintro _ rfl
  refine EvP.bind (markByteS_ok (k0 := 1 + (l.length : Int)) (by omega) hd) ?_
  rintro _ rfl
  exact EvP.ret rfl
theorem heldStore_ok {f : Int} {n m : Nat} (hl : (n : Int) ≤ 100000000) (hd : (m : Int) ≤ 100000000) : EvP (fun k => laws_heldStore.f k f (upFrom 1 n) (upByte (1 + (n : Int)) m) 1) (fun r => r = 1 + (n : Int) + (m : Int)) := by
  unfold laws_heldStore.f
  refine EvP.bind (heldSlab_ok hl) ?_
  rintro _ rfl
  refine EvP.no (by omega) (EvP.bind (heldByteS_ok (k0 := 1 + (n : Int)) (by omega) hd) ?_)
  rintro _ rfl
  exact EvP.no (by omega) (EvP.ret rfl)

theorem slabNew_len (n : Int) : ((slabNew n).2.length : Int) ≤ 128 := by
  unfold slabNew
  split
  · simp only [newNext_length]; omega
  · simp
theorem FnExactStoreNew : laws_FnExactStoreNew.Pure := by
  intro n hw
  refine EvP.rounds ?_
  unfold laws_FnExactStoreNew.f
  have spec : EvP (fun k => spec_StoreNew.f k n) (fun r => r = if 0 ≤ n ∧ n ≤ 128 then ((slabNew n).1, (slabNew n).2, List.replicate (n * 16).toNat 0) else (0, [], [])) := by
    unfold spec_StoreNew.f
    refine EvP.ite (fun h => EvP.ret (by rw [if_neg (by omega)])) (fun h => EvP.ite (fun h2 => EvP.ret (by rw [if_neg (by omega)])) (fun h2 => ?_))
    refine EvP.bind (specNew_ok n) ?_
    rintro _ rfl
    rw [w64 (x := n * 16) (by omega) (by omega)]
    refine EvP.yes (by omega) (EvP.yes (by omega) (EvP.ret ?_))
    rw [if_pos (by omega)]
  have impl : EvP (fun k => impl_StoreNew.f k n) (fun r => r = if 0 ≤ n ∧ n ≤ 128 then ((slabNew n).1, (slabNew n).2, List.replicate (n * 16).toNat 0) else (0, [], [])) := by
    unfold impl_StoreNew.f
    simp only [within_ok, Option.bind_some]
    refine EvP.ite (fun h => ?_) (fun h => EvP.ret (by rw [if_neg (by simpa using h)]))
    have h : 0 ≤ n ∧ n ≤ 128 := by simpa using h
    refine EvP.bind (implNew_ok n) ?_
    rintro _ rfl
    rw [w64 (x := n * 16) (by omega) (by omega)]
    refine EvP.yes (by omega) (EvP.yes (by omega) (EvP.ret ?_))
    rw [if_pos h]
  have hl : (((if 0 ≤ n ∧ n ≤ 128 then ((slabNew n).1, (slabNew n).2, List.replicate (n * 16).toNat (0 : Int)) else (0, [], [])) : Int × List Int × List Int).2.1.length : Int) ≤ 128 ∧ (((if 0 ≤ n ∧ n ≤ 128 then ((slabNew n).1, (slabNew n).2, List.replicate (n * 16).toNat (0 : Int)) else (0, [], [])) : Int × List Int × List Int).2.2.length : Int) ≤ 2048 := by
    have := slabNew_len n
    split
    · simp only [List.length_replicate]; omega
    · simp
  generalize (if 0 ≤ n ∧ n ≤ 128 then ((slabNew n).1, (slabNew n).2, List.replicate (n * 16).toNat (0 : Int)) else (0, [], []) : Int × List Int × List Int) = s at spec impl hl
  obtain ⟨f, l, d⟩ := s
  dsimp only at hl
  refine EvP.bind spec ?_
  rintro _ rfl
  refine EvP.bind impl ?_
  rintro _ rfl
  refine EvP.bind (eqStore_ok (f := f) (l := l) (d := d) (by omega) (by omega)) ?_
  intro b hb
  refine EvP.yes (hb.2 ⟨rfl, rfl, rfl⟩) (EvP.bind (markStore_ok (f := f) (l := l) (d := d) (by omega) (by omega)) ?_)
  rintro _ rfl
  refine EvP.bind (heldStore_ok (f := f) (n := l.length) (m := d.length) (by omega) (by omega)) ?_
  rintro _ rfl
  refine EvP.no (by omega) (EvP.yes rfl (EvP.bind impl ?_))
  rintro _ rfl
  refine EvP.bind (eqStore_ok (f := f) (l := l) (d := d) (by omega) (by omega)) ?_
  intro b hb
  refine EvP.yes (hb.2 ⟨rfl, rfl, rfl⟩) (EvP.bind (heldStore_ok (f := f) (n := l.length) (m := d.length) (by omega) (by omega)) ?_)
  rintro _ rfl
  exact EvP.no (by omega) (EvP.yes rfl (EvP.ret rfl))

end Go.Proofs.Ytaglpjlapfocfaa.Pure
