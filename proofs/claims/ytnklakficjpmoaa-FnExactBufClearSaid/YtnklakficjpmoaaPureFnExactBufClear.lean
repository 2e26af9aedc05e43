/- The program's BufClear and the reference's answer alike, for every buffer and flow, and what is handed back is new memory. No condition. -/
import Derived.Test.YtnklakficjpmoaaPFnExactBufClearx12
import Derived.Laws.BitsLemmas
namespace Go.Proofs.Ytnklakficjpmoaa.Pure
open Go.RowKit Go.Proofs.Ytnklakficjpmoaa.PFnExactBufClear Go.Proofs.YtnklakficjpmoaaW.PrintWords Go.Proofs.YtnklakficjpmoaaW.PrintLast Go.Proofs.YtnklakficjpmoaaW.PrintMore
set_option linter.unusedVariables false
set_option linter.unusedSimpArgs false

def EvP {α : Type} (g : Nat → Option α) (P : α → Prop) : Prop := ∃ r, Ev g r ∧ P r
theorem EvP.ret {α : Type} {r : α} {P : α → Prop} (h : P r) : EvP (fun _ => some r) P := ⟨r, Ev.now r, h⟩
theorem EvP.bind {α β : Type} {g : Nat → Option α} {f : Nat → α → Option β} {P : α → Prop} {Q : β → Prop} (h : EvP g P) (k : ∀ r, P r → EvP (fun n => f n r) Q) : EvP (fun n => (g n).bind (f n)) Q := by
  obtain ⟨r, hr, hp⟩ := h
  obtain ⟨q, hq, hQ⟩ := k r hp
  exact ⟨q, Ev.bind hr hq, hQ⟩
theorem EvP.ite {α : Type} {c : Prop} [Decidable c] {a b : Nat → Option α} {Q : α → Prop} (h : c → EvP a Q) (h' : ¬ c → EvP b Q) : EvP (fun n => if c then a n else b n) Q := by
  by_cases hc : c
  · simp only [if_pos hc]; exact h hc
  · simp only [if_neg hc]; exact h' hc
theorem EvP.yes {α : Type} {c : Prop} [Decidable c] {a b : Nat → Option α} {Q : α → Prop} (hc : c) (h : EvP a Q) : EvP (fun n => if c then a n else b n) Q := by
  simp only [if_pos hc]; exact h
theorem EvP.no {α : Type} {c : Prop} [Decidable c] {a b : Nat → Option α} {Q : α → Prop} (hc : ¬ c) (h : EvP b Q) : EvP (fun n => if c then a n else b n) Q := by
  simp only [if_neg hc]; exact h
theorem EvP.step {α : Type} {g : Nat → Option α} {Q : α → Prop} (h : EvP (fun k => g (k + 1)) Q) : EvP g Q := by
  obtain ⟨r, hr, hq⟩ := h
  exact ⟨r, Ev.step (fun _ => rfl) hr, hq⟩
theorem EvP.mono {α : Type} {g : Nat → Option α} {P Q : α → Prop} (h : EvP g P) (hpq : ∀ r, P r → Q r) : EvP g Q := by
  obtain ⟨r, hr, hp⟩ := h
  exact ⟨r, hr, hpq r hp⟩
theorem EvP.rounds {α : Type} {g : Nat → Option α} {r : α} (h : EvP g (fun x => x = r)) : ∃ k, g k = some r := by
  obtain ⟨q, hq, rfl⟩ := h
  exact hq.rounds
theorem w64 {x : Int} (h0 : -9223372036854775808 ≤ x) (h1 : x ≤ 9223372036854775807) : wrap64 x = x := by unfold wrap64; omega
theorem rd_get (s : List Int) (i : Int) (h0 : 0 ≤ i) (h1 : i < (s.length : Int)) : rd s i = s[i.toNat]'(by omega) := by
  unfold rd
  rw [List.getD_eq_getElem?_getD, List.getElem?_eq_getElem (by omega)]
  rfl
theorem rd_set (l : List Int) (i j : Int) (v : Int) (hi : 0 ≤ i) (hj : 0 ≤ j) (hl : i < (l.length : Int)) : rd (l.set i.toNat v) j = if j = i then v else rd l j := by
  unfold rd
  rw [List.getD_eq_getElem?_getD, List.getD_eq_getElem?_getD]
  by_cases h : j = i
  · subst h
    rw [if_pos rfl, List.getElem?_set_self (by omega)]; rfl
  · rw [if_neg h, List.getElem?_set_ne (by omega)]
theorem list_ext_rd {a b : List Int} (hl : a.length = b.length) (h : ∀ i : Int, 0 ≤ i → i < (a.length : Int) → rd a i = rd b i) : a = b := by
  apply List.ext_getElem hl
  intro i h1 h2
  have := h (i : Int) (by omega) (by omega)
  rw [rd_get a _ (by omega) (by omega), rd_get b _ (by omega) (by omega)] at this
  simpa using this
theorem eqIntS_l0 {a b : List Int} (hl : a.length = b.length) (hm : (a.length : Int) ≤ 100000000) : ∀ (d : Nat) (i : Int), 0 ≤ i → i + d = (a.length : Int) → (∀ j : Int, 0 ≤ j → j < i → rd a j = rd b j) →
    EvP (fun k => laws_eqIntS.l0 k a b i) (fun r => r = decide (a = b)) := by
  intro d
  induction d with
  | zero =>
    intro i h0 hd hr
    refine EvP.step ?_
    simp only [laws_eqIntS.l0]
    exact EvP.no (by omega) (EvP.ret (decide_eq_true (list_ext_rd hl (fun j h1 h2 => hr j h1 (by omega)))).symm)
  | succ d ih =>
    intro i h0 hd hr
    refine EvP.step ?_
    simp only [laws_eqIntS.l0]
    refine EvP.yes (by omega) (EvP.yes h0 (EvP.yes (by omega) (EvP.ite (fun he => ?_) (fun he => EvP.ret ?_))))
    · simp only [w64 (x := i + 1) (by omega) (by omega)]
      exact ih (i + 1) (by omega) (by omega) (fun j h1 h2 => by
        by_cases e : j = i
        · rw [e]; exact he
        · exact hr j h1 (by omega))
    · symm
      exact decide_eq_false (fun e => he (by rw [e]))
theorem eqIntS_ok {a b : List Int} (hm : (a.length : Int) ≤ 100000000) : EvP (fun k => laws_eqIntS.f k a b) (fun r => r = decide (a = b)) := by
  unfold laws_eqIntS.f
  refine EvP.ite (fun hl => ?_) (fun hl => EvP.ret ?_)
  · exact eqIntS_l0 (by omega) hm a.length 0 (by omega) (by omega) (fun j h1 h2 => by omega)
  · symm
    exact decide_eq_false (fun e => hl (by rw [e]))
/-- The numbers k, k + 1, .. -/
def upFrom (k : Int) (n : Nat) : List Int := (List.range n).map fun (i : Nat) => k + (i : Int)
theorem upFrom_length (k : Int) (n : Nat) : (upFrom k n).length = n := by simp [upFrom]
theorem rd_upFrom (k : Int) (n : Nat) (i : Int) (h0 : 0 ≤ i) (h1 : i < (n : Int)) : rd (upFrom k n) i = k + i := by
  rw [rd_get _ i h0 (by rw [upFrom_length]; exact h1)]
  simp [upFrom]; omega
theorem markIntS_l0 {n : Nat} {k0 : Int} (hk : 0 ≤ k0 ∧ k0 ≤ 100000000000000) (hm : (n : Int) ≤ 100000000) : ∀ (d : Nat) (l : List Int) (i : Int), 0 ≤ i → i + d = (n : Int) → l.length = n → (∀ j : Int, 0 ≤ j → j < i → rd l j = k0 + j) →
    EvP (fun k => laws_markIntS.l0 k l (k0 + i) i) (fun r => r = (k0 + n, upFrom k0 n)) := by
  intro d
  induction d with
  | zero =>
    intro l i h0 hd hl hr
    refine EvP.step ?_
    simp only [laws_markIntS.l0]
    refine EvP.no (by omega) (EvP.ret ?_)
    rw [show i = (n : Int) by omega, list_ext_rd (a := l) (b := upFrom k0 n) (by rw [hl, upFrom_length]) (fun j h1 h2 => by rw [hr j h1 (by omega), rd_upFrom k0 n j h1 (by omega)])]
  | succ d ih =>
    intro l i h0 hd hl hr
    refine EvP.step ?_
    simp only [laws_markIntS.l0]
    refine EvP.yes (by omega) (EvP.yes h0 ?_)
    simp only [show k0 + i + 1 = k0 + (i + 1) by omega, w64 (x := i + 1) (by omega) (by omega), w64 (x := k0 + (i + 1)) (by omega) (by omega)]
    refine ih _ (i + 1) (by omega) (by omega) (by rw [List.length_set]; exact hl) (fun j h1 h2 => ?_)
    rw [rd_set l i j _ h0 h1 (by omega)]
    by_cases e : j = i
    · rw [if_pos e, e]
    · rw [if_neg e]; exact hr j h1 (by omega)
theorem markIntS_ok {l : List Int} {k0 : Int} (hk : 0 ≤ k0 ∧ k0 ≤ 100000000000000) (hm : (l.length : Int) ≤ 100000000) : EvP (fun k => laws_markIntS.f k l k0) (fun r => r = (k0 + l.length, upFrom k0 l.length)) := by
  have := markIntS_l0 hk hm l.length l 0 (by omega) (by omega) rfl (fun j h1 h2 => by omega)
  simpa [laws_markIntS.f] using this
theorem heldIntS_l0 {n : Nat} {k0 : Int} (hk : 0 ≤ k0 ∧ k0 ≤ 100000000000000) (hm : (n : Int) ≤ 100000000) : ∀ (d : Nat) (i : Int), 0 ≤ i → i + d = (n : Int) →
    EvP (fun k => laws_heldIntS.l0 k (upFrom k0 n) (k0 + i) i) (fun r => r = k0 + n) := by
  intro d
  induction d with
  | zero =>
    intro i h0 hd
    refine EvP.step ?_
    simp only [laws_heldIntS.l0, upFrom_length]
    exact EvP.no (by omega) (EvP.ret (by omega))
  | succ d ih =>
    intro i h0 hd
    refine EvP.step ?_
    simp only [laws_heldIntS.l0, upFrom_length]
    refine EvP.yes (by omega) (EvP.yes h0 (EvP.yes (rd_upFrom k0 n i h0 (by omega)) ?_))
    simp only [show k0 + i + 1 = k0 + (i + 1) by omega, w64 (x := i + 1) (by omega) (by omega), w64 (x := k0 + (i + 1)) (by omega) (by omega)]
    exact ih (i + 1) (by omega) (by omega)
theorem heldIntS_ok {n : Nat} {k0 : Int} (hk : 0 ≤ k0 ∧ k0 ≤ 100000000000000) (hm : (n : Int) ≤ 100000000) : EvP (fun k => laws_heldIntS.f k (upFrom k0 n) k0) (fun r => r = k0 + n) := by
  have := heldIntS_l0 hk hm n 0 (by omega) (by omega)
  simpa [laws_heldIntS.f] using this
def heldOf (x : S42) : S52 := ⟨x.f0, x.f1⟩
def laneOf (x : S133) : S80 := ⟨x.f0, x.f1.map heldOf⟩
theorem rd52 {l : List S52} {i : Int} (h0 : 0 ≤ i) (h1 : i < (l.length : Int)) : l[i.toNat]? = some (rd_T52 l i) := by
  unfold rd_T52
  rw [List.getD_eq_getElem?_getD, List.getElem?_eq_getElem (by omega)]; rfl
theorem rd42 {l : List S42} {i : Int} (h0 : 0 ≤ i) (h1 : i < (l.length : Int)) : l[i.toNat]? = some (rd_T42 l i) := by
  unfold rd_T42
  rw [List.getD_eq_getElem?_getD, List.getElem?_eq_getElem (by omega)]; rfl
theorem rd80 {l : List S80} {i : Int} (h0 : 0 ≤ i) (h1 : i < (l.length : Int)) : l[i.toNat]? = some (rd_T80 l i) := by
  unfold rd_T80
  rw [List.getD_eq_getElem?_getD, List.getElem?_eq_getElem (by omega)]; rfl
theorem rd133 {l : List S133} {i : Int} (h0 : 0 ≤ i) (h1 : i < (l.length : Int)) : l[i.toNat]? = some (rd_T133 l i) := by
  unfold rd_T133
  rw [List.getD_eq_getElem?_getD, List.getElem?_eq_getElem (by omega)]; rfl
theorem mem80 {l : List S80} {i : Int} (h0 : 0 ≤ i) (h1 : i < (l.length : Int)) : rd_T80 l i ∈ l := List.mem_of_getElem? (rd80 h0 h1)
theorem mem133 {l : List S133} {i : Int} (h0 : 0 ≤ i) (h1 : i < (l.length : Int)) : rd_T133 l i ∈ l := List.mem_of_getElem? (rd133 h0 h1)
theorem drop80 {l : List S80} {i : Int} (h0 : 0 ≤ i) (h1 : i < (l.length : Int)) : l.drop i.toNat = rd_T80 l i :: l.drop (i + 1).toNat := by
  have h2 := rd80 h0 h1
  rw [List.getElem?_eq_getElem (by omega)] at h2
  rw [List.drop_eq_getElem_cons (by omega), Option.some.inj h2, show (i + 1).toNat = i.toNat + 1 by omega]
theorem drop52 {l : List S52} {i : Int} (h0 : 0 ≤ i) (h1 : i < (l.length : Int)) : l.drop i.toNat = rd_T52 l i :: l.drop (i + 1).toNat := by
  have h2 := rd52 h0 h1
  rw [List.getElem?_eq_getElem (by omega)] at h2
  rw [List.drop_eq_getElem_cons (by omega), Option.some.inj h2, show (i + 1).toNat = i.toNat + 1 by omega]
theorem take52 {l : List S52} {i : Int} (h0 : 0 ≤ i) (h1 : i < (l.length : Int)) : l.take (i + 1).toNat = l.take i.toNat ++ [rd_T52 l i] := by
  have h2 := rd52 h0 h1
  rw [List.getElem?_eq_getElem (by omega)] at h2
  rw [show (i + 1).toNat = i.toNat + 1 by omega, List.take_succ_eq_append_getElem (by omega), Option.some.inj h2]
theorem toHeld_ok (a b : Int) : EvP (fun _ => laws_toHeld.f a b) (fun r => r = (a, b)) := EvP.ret rfl
theorem toHeldS_l0 {l : List S42} (hl : (l.length : Int) ≤ 100000000) : ∀ (d : Nat) (out : List S52) (i : Int), 0 ≤ i → i + d = (l.length : Int) → out.length = l.length → (∀ j : Nat, (j : Int) < i → out[j]? = (l[j]?).map heldOf) → EvP (fun k => laws_toHeldS.l0 k l out i) (fun r => r = l.map heldOf)
  | 0, out, i, h0, hi, ho, hv => by
    refine EvP.step ?_
    simp only [laws_toHeldS.l0]
    refine EvP.no (by omega) (EvP.ret ?_)
    apply List.ext_getElem?
    intro j
    rw [List.getElem?_map]
    by_cases hj : j < l.length
    · exact hv j (by omega)
    · rw [List.getElem?_eq_none (by omega), List.getElem?_eq_none (by omega)]; rfl
  | d + 1, out, i, h0, hi, ho, hv => by
    refine EvP.step ?_
    simp only [laws_toHeldS.l0]
    refine EvP.yes (by omega) (EvP.yes h0 (EvP.bind (toHeld_ok _ _) ?_))
    rintro _ rfl
    refine EvP.yes (by omega) ?_
    rw [w64 (by omega) (by omega)]
    refine toHeldS_l0 hl d _ (i + 1) (by omega) (by omega) (by rw [List.length_set]; exact ho) (fun j hj => ?_)
    rw [List.getElem?_set]
    by_cases e : i.toNat = j
    · rw [if_pos e, if_pos (by omega), ← e, rd42 h0 (by omega)]; rfl
    · rw [if_neg e]; exact hv j (by omega)
theorem toHeldS_ok {l : List S42} (hl : (l.length : Int) ≤ 100000000) : EvP (fun k => laws_toHeldS.f k l) (fun r => r = l.map heldOf) := by
  unfold laws_toHeldS.f
  exact EvP.yes (by omega) (EvP.yes (by omega) (toHeldS_l0 hl l.length _ 0 (by omega) (by omega) (by simp) (fun j hj => by omega)))
theorem toLaneS_l0 {l : List S133} (hl : (l.length : Int) ≤ 100000000) (hh : ∀ x ∈ l, (x.f1.length : Int) ≤ 100000000) : ∀ (d : Nat) (out : List S80) (i : Int), 0 ≤ i → i + d = (l.length : Int) → out.length = l.length → (∀ j : Nat, (j : Int) < i → out[j]? = (l[j]?).map laneOf) → EvP (fun k => laws_toLaneS.l0 k l out i) (fun r => r = l.map laneOf)
  | 0, out, i, h0, hi, ho, hv => by
    refine EvP.step ?_
    simp only [laws_toLaneS.l0]
    refine EvP.no (by omega) (EvP.ret ?_)
    apply List.ext_getElem?
    intro j
    rw [List.getElem?_map]
    by_cases hj : j < l.length
    · exact hv j (by omega)
    · rw [List.getElem?_eq_none (by omega), List.getElem?_eq_none (by omega)]; rfl
  | d + 1, out, i, h0, hi, ho, hv => by
    refine EvP.step ?_
    simp only [laws_toLaneS.l0]
    refine EvP.yes (by omega) (EvP.yes h0 (EvP.bind (P := fun r => r = ((rd_T133 l i).f0, (rd_T133 l i).f1.map heldOf)) ?_ ?_))
    · unfold laws_toLane.f
      refine EvP.bind (toHeldS_ok (hh _ (mem133 h0 (by omega)))) ?_
      rintro _ rfl
      exact EvP.ret rfl
    rintro _ rfl
    refine EvP.yes (by omega) ?_
    rw [w64 (by omega) (by omega)]
    refine toLaneS_l0 hl hh d _ (i + 1) (by omega) (by omega) (by rw [List.length_set]; exact ho) (fun j hj => ?_)
    rw [List.getElem?_set]
    by_cases e : i.toNat = j
    · rw [if_pos e, if_pos (by omega), ← e, rd133 h0 (by omega)]; rfl
    · rw [if_neg e]; exact hv j (by omega)
theorem toBuf_ok {p b a m : Int} {c : Bool} {l : List S133} (hl : (l.length : Int) ≤ 100000000) (hh : ∀ x ∈ l, (x.f1.length : Int) ≤ 100000000) : EvP (fun k => laws_toBuf.f k p b a m c l) (fun r => r = (p, b, a, m, c, l.map laneOf)) := by
  unfold laws_toBuf.f
  refine EvP.bind (P := fun r => r = (p, b, a, m, c)) (EvP.ret rfl) ?_
  rintro _ rfl
  refine EvP.bind (P := fun r => r = l.map laneOf) ?_ ?_
  · unfold laws_toLaneS.f
    exact EvP.yes (by omega) (EvP.yes (by omega) (toLaneS_l0 hl hh l.length _ 0 (by omega) (by omega) (by simp) (fun j hj => by omega)))
  rintro _ rfl
  exact EvP.ret rfl
theorem szLaneS_l0 {l : List S133} (hm : ∀ x ∈ l, x.f1.length ≤ 9223372036854775807) (hl : (l.length : Int) ≤ 1048576) : ∀ (d : Nat) (z i : Int), 0 ≤ i → i + d = (l.length : Int) → 0 ≤ z → z ≤ 1048576 →
    EvP (fun k => laws_szLaneS.l0 k l z i) (fun r => r = -1 ∨ (0 ≤ r ∧ ∀ j : Int, i ≤ j → j < (l.length : Int) → ((rd_T133 l j).f1.length : Int) ≤ 1048576))
  | 0, z, i, h0, hi, z0, z1 => by
    refine EvP.step ?_
    simp only [laws_szLaneS.l0]
    exact EvP.no (by omega) (EvP.ret (.inr ⟨z0, fun j hj hj2 => by omega⟩))
  | d + 1, z, i, h0, hi, z0, z1 => by
    have hx := hm _ (mem133 (l := l) (i := i) h0 (by omega))
    refine EvP.step ?_
    simp only [laws_szLaneS.l0]
    refine EvP.yes (by omega) (EvP.yes h0 ?_)
    have e : wrap64 (z - ((rd_T133 l i).f1.length : Int)) = z - ((rd_T133 l i).f1.length : Int) := w64 (by omega) (by omega)
    refine EvP.bind (P := fun r => r = -1 ∨ (0 ≤ r ∧ r ≤ 1048576 ∧ ((rd_T133 l i).f1.length : Int) ≤ 1048576)) ?_ ?_
    · unfold laws_szLane.f laws_szHeldS.f
      rw [e]
      refine EvP.bind (P := fun r => r = -1 ∨ (0 ≤ r ∧ r ≤ 1048576 ∧ ((rd_T133 l i).f1.length : Int) ≤ 1048576)) ?_ ?_
      · exact EvP.ite (fun _ => EvP.ret (.inl rfl)) (fun _ => EvP.ret (.inr ⟨by omega, by omega, by omega⟩))
      · rintro r hr
        exact EvP.ite (fun _ => EvP.ret (.inl rfl)) (fun _ => EvP.ret (.inr (by omega)))
    rintro r hr
    refine EvP.ite (fun _ => EvP.ret (.inl rfl)) (fun hn => ?_)
    rw [w64 (x := i + 1) (by omega) (by omega)]
    refine (szLaneS_l0 hm hl d r (i + 1) (by omega) (by omega) (by omega) (by omega)).mono ?_
    rintro q (h | ⟨h, hj⟩)
    · exact .inl h
    · refine .inr ⟨h, fun j h1 h2 => ?_⟩
      by_cases e : j = i
      · subst e; omega
      · exact hj j (by omega) h2
theorem szBuf_ok (p b a m : Int) (c : Bool) (l : List S133) (hl : l.length ≤ 9223372036854775807) (hm : ∀ x ∈ l, x.f1.length ≤ 9223372036854775807) : EvP (fun k => laws_szBuf.f k p b a m c l 1048576) (fun r => r = -1 ∨ (0 ≤ r ∧ (l.length : Int) ≤ 1048576 ∧ ∀ x ∈ l, (x.f1.length : Int) ≤ 1048576)) := by
  unfold laws_szBuf.f laws_szLaneS.f
  have e : wrap64 (1048576 - (l.length : Int)) = 1048576 - (l.length : Int) := w64 (by omega) (by omega)
  rw [e]
  refine EvP.bind (P := fun r => r = -1 ∨ (0 ≤ r ∧ (l.length : Int) ≤ 1048576 ∧ ∀ x ∈ l, (x.f1.length : Int) ≤ 1048576)) ?_ ?_
  · refine EvP.ite (fun _ => EvP.ret (.inl rfl)) (fun hn => ?_)
    refine (szLaneS_l0 hm (by omega) l.length _ 0 (by omega) (by omega) (by omega) (by omega)).mono ?_
    rintro q (h | ⟨h, hj⟩)
    · exact .inl h
    · refine .inr ⟨h, by omega, fun x hx => ?_⟩
      obtain ⟨n, hn1, hn2⟩ := List.getElem_of_mem hx
      have h1 := hj n (by omega) (by omega)
      have h2 := rd133 (l := l) (i := n) (by omega) (by omega)
      rw [show ((n : Int)).toNat = n by omega, List.getElem?_eq_getElem hn1, hn2] at h2
      rw [← Option.some.inj h2] at h1
      exact h1
  · rintro r hr
    refine EvP.ite (fun _ => EvP.ret (.inl rfl)) (fun hn => EvP.ret ?_)
    rcases hr with h | h
    · omega
    · exact .inr h
theorem eqHeldS_same {l : List S52} (hl : (l.length : Int) ≤ 100000000) : EvP (fun k => laws_eqHeldS.f k l l) (fun r => r = true) := by
  have go : ∀ (d : Nat) (i : Int), 0 ≤ i → i + d = (l.length : Int) → EvP (fun k => laws_eqHeldS.l0 k l l i) (fun r => r = true) := by
    intro d
    induction d with
    | zero =>
      intro i h0 hi
      refine EvP.step ?_
      simp only [laws_eqHeldS.l0]
      exact EvP.no (by omega) (EvP.ret rfl)
    | succ d ih =>
      intro i h0 hi
      refine EvP.step ?_
      simp only [laws_eqHeldS.l0]
      refine EvP.yes (by omega) (EvP.yes h0 (EvP.yes (by omega) (EvP.bind (P := fun r => r = true) (EvP.yes rfl (EvP.yes rfl (EvP.ret rfl))) ?_)))
      rintro _ rfl
      rw [w64 (by omega) (by omega)]
      exact EvP.yes rfl (ih (i + 1) (by omega) (by omega))
  unfold laws_eqHeldS.f
  exact EvP.yes rfl (go l.length 0 (by omega) (by omega))
theorem eqBuf_same (p b a m : Int) (c : Bool) {l : List S80} (hl : (l.length : Int) ≤ 100000000) (hh : ∀ x ∈ l, (x.f1.length : Int) ≤ 100000000) : EvP (fun k => laws_eqBuf.f k p b a m c l p b a m c l) (fun r => r = true) := by
  have go : ∀ (d : Nat) (i : Int), 0 ≤ i → i + d = (l.length : Int) → EvP (fun k => laws_eqLaneS.l0 k l l i) (fun r => r = true) := by
    intro d
    induction d with
    | zero =>
      intro i h0 hi
      refine EvP.step ?_
      simp only [laws_eqLaneS.l0]
      exact EvP.no (by omega) (EvP.ret rfl)
    | succ d ih =>
      intro i h0 hi
      refine EvP.step ?_
      simp only [laws_eqLaneS.l0]
      refine EvP.yes (by omega) (EvP.yes h0 (EvP.yes (by omega) (EvP.bind (P := fun r => r = true) ?_ ?_)))
      · unfold laws_eqLane.f
        refine EvP.yes rfl (EvP.bind (eqHeldS_same (hh _ (mem80 h0 (by omega)))) ?_)
        rintro _ rfl
        exact EvP.yes rfl (EvP.ret rfl)
      rintro _ rfl
      rw [w64 (by omega) (by omega)]
      exact EvP.yes rfl (ih (i + 1) (by omega) (by omega))
  unfold laws_eqBuf.f laws_eqLimits.f
  refine EvP.bind (P := fun r => r = true) (EvP.yes rfl (EvP.yes rfl (EvP.yes rfl (EvP.yes rfl (EvP.no (by simp) (EvP.ret rfl)))))) ?_
  rintro _ rfl
  refine EvP.yes rfl (EvP.bind (P := fun r => r = true) ?_ ?_)
  · unfold laws_eqLaneS.f
    exact EvP.yes rfl (go l.length 0 (by omega) (by omega))
  rintro _ rfl
  exact EvP.yes rfl (EvP.ret rfl)
def HeldP (h : S52) : Prop := (0 ≤ h.f0 ∧ h.f0 ≤ 1000000000000) ∧ 1 ≤ h.f1 ∧ h.f1 ≤ 1600
def LimP (p b a m : Int) : Prop := (1 ≤ p ∧ p ≤ 64) ∧ (1 ≤ b ∧ b ≤ 100000) ∧ (1 ≤ a ∧ a ≤ 1000000) ∧ 0 ≤ m ∧ m ≤ 100000
def sumH (xs : List S52) : Int := (xs.map (fun h => h.f1)).sum
def hsum (xs : List S52) : Int := wrap64 (sumH xs)
def allH (l : List S80) : List S52 := l.flatMap (fun x => x.f1)
def idsH (xs : List S52) : List Int := xs.map (fun h => h.f0)
def Fresh : List Int → List Int → Prop
  | _, [] => True
  | seen, x :: xs => x ∉ seen ∧ Fresh (seen ++ [x]) xs
def LaneAt (p b : Int) (l : List S80) (i : Int) : Prop :=
  (0 ≤ (rd_T80 l i).f0 ∧ (rd_T80 l i).f0 ≤ 9999) ∧ (0 < i → (rd_T80 l (i - 1)).f0 < (rd_T80 l i).f0) ∧ 1 ≤ ((rd_T80 l i).f1.length : Int) ∧ ((rd_T80 l i).f1.length : Int) ≤ p ∧ (∀ h ∈ (rd_T80 l i).f1, HeldP h) ∧ hsum (rd_T80 l i).f1 ≤ b
def LanesFrom (p b : Int) (l : List S80) (i : Int) : Prop := ∀ j : Int, i ≤ j → j < (l.length : Int) → LaneAt p b l j
theorem LanesFrom.cons {p b i : Int} {l : List S80} (h1 : i < (l.length : Int)) : LanesFrom p b l i ↔ LaneAt p b l i ∧ LanesFrom p b l (i + 1) := by
  constructor
  · exact fun h => ⟨h i (by omega) h1, fun j hj hl => h j (by omega) hl⟩
  · rintro ⟨h, hs⟩ j hj hl
    by_cases e : j = i
    · subst e; exact h
    · exact hs j (by omega) hl
theorem LanesFrom.nil {p b i : Int} {l : List S80} (h1 : (l.length : Int) ≤ i) : LanesFrom p b l i := fun j hj hl => by omega
theorem w_w (x y : Int) : wrap64 (wrap64 x + y) = wrap64 (x + y) := by unfold wrap64; omega
theorem w_w2 (x y : Int) : wrap64 (x + wrap64 y) = wrap64 (x + y) := by unfold wrap64; omega
theorem sum_drop {xs : List S52} {i : Int} (h0 : 0 ≤ i) (h1 : i < (xs.length : Int)) : sumH (xs.drop i.toNat) = (rd_T52 xs i).f1 + sumH (xs.drop (i + 1).toNat) := by
  rw [drop52 h0 h1]; unfold sumH; simp
theorem sum_app (xs ys : List S52) : sumH (xs ++ ys) = sumH xs + sumH ys := by unfold sumH; simp
theorem specBytes_l0 {xs : List S52} (hl : (xs.length : Int) ≤ 1000000000) : ∀ (d : Nat) (z i : Int), 0 ≤ i → i + d = (xs.length : Int) → EvP (fun k => spec_l17Bytes.l0 k xs (wrap64 z) i) (fun r => r = wrap64 (z + sumH (xs.drop i.toNat)))
  | 0, z, i, h0, hi => by
    refine EvP.step ?_
    simp only [spec_l17Bytes.l0]
    refine EvP.no (by omega) (EvP.ret ?_)
    rw [List.drop_of_length_le (by omega)]; simp [sumH]
  | d + 1, z, i, h0, hi => by
    refine EvP.step ?_
    simp only [spec_l17Bytes.l0]
    refine EvP.yes (by omega) (EvP.yes h0 ?_)
    rw [w64 (x := i + 1) (by omega) (by omega), w_w]
    refine (specBytes_l0 hl d (z + (rd_T52 xs i).f1) (i + 1) (by omega) (by omega)).mono ?_
    rintro _ rfl
    rw [sum_drop h0 (by omega), Int.add_assoc]
theorem specBytes_ok {xs : List S52} (hl : (xs.length : Int) ≤ 1000000000) : EvP (fun k => spec_l17Bytes.f k xs) (fun r => r = hsum xs) := by
  unfold spec_l17Bytes.f
  have h := specBytes_l0 hl xs.length 0 0 (by omega) (by omega)
  rw [show wrap64 0 = 0 from w64 (by omega) (by omega)] at h
  refine h.mono ?_
  rintro _ rfl
  unfold hsum
  simp
theorem implBytes_l0 {xs : List S52} (hl : (xs.length : Int) ≤ 1000000000) : ∀ (d : Nat) (z i : Int), 0 ≤ i → i + d = (xs.length : Int) → EvP (fun k => impl_Lane_bytes.l0 k (wrap64 z) xs (xs.length : Int) i) (fun r => r = wrap64 (z + sumH (xs.drop i.toNat)))
  | 0, z, i, h0, hi => by
    refine EvP.step ?_
    simp only [impl_Lane_bytes.l0]
    refine EvP.no (by omega) (EvP.ret ?_)
    rw [List.drop_of_length_le (by omega)]; simp [sumH]
  | d + 1, z, i, h0, hi => by
    refine EvP.step ?_
    simp only [impl_Lane_bytes.l0]
    refine EvP.yes (by omega) (EvP.yes h0 (EvP.yes (by omega) ?_))
    rw [w64 (x := i + 1) (by omega) (by omega), w_w]
    refine (implBytes_l0 hl d (z + (rd_T52 xs i).f1) (i + 1) (by omega) (by omega)).mono ?_
    rintro _ rfl
    rw [sum_drop h0 (by omega), Int.add_assoc]
theorem implBytes_ok (f : Int) {xs : List S52} (hl : (xs.length : Int) ≤ 1000000000) : EvP (fun k => impl_Lane_bytes.f k f xs) (fun r => r = hsum xs) := by
  unfold impl_Lane_bytes.f
  have h := implBytes_l0 hl xs.length 0 0 (by omega) (by omega)
  rw [show wrap64 0 = 0 from w64 (by omega) (by omega)] at h
  refine h.mono ?_
  rintro _ rfl
  unfold hsum
  simp
theorem allH_drop {l : List S80} {i : Int} (h0 : 0 ≤ i) (h1 : i < (l.length : Int)) : allH (l.drop i.toNat) = (rd_T80 l i).f1 ++ allH (l.drop (i + 1).toNat) := by
  rw [drop80 h0 h1]; unfold allH; simp
theorem allH_take {l : List S80} {i : Int} (h0 : 0 ≤ i) (h1 : i < (l.length : Int)) : allH (l.take (i + 1).toNat) = allH (l.take i.toNat) ++ (rd_T80 l i).f1 := by
  have h2 := rd80 h0 h1
  rw [List.getElem?_eq_getElem (by omega)] at h2
  rw [show (i + 1).toNat = i.toNat + 1 by omega, List.take_succ_eq_append_getElem (by omega), Option.some.inj h2]
  unfold allH
  rw [List.flatMap_append]; simp
theorem allH_len {l : List S80} (hh : ∀ x ∈ l, (x.f1.length : Int) ≤ 1048576) : ((allH l).length : Int) ≤ 1048576 * (l.length : Int) := by
  induction l with
  | nil => simp [allH]
  | cons x l ih =>
    have h1 := ih (fun y hy => hh y (by simp [hy]))
    have h2 := hh x (by simp)
    have e : allH (x :: l) = x.f1 ++ allH l := by unfold allH; simp
    rw [e, List.length_append, List.length_cons]
    omega
theorem bufBytes_l0 {l : List S80} (hl : (l.length : Int) ≤ 1048576) (hh : ∀ x ∈ l, (x.f1.length : Int) ≤ 1048576) : ∀ (d : Nat) (z i : Int), 0 ≤ i → i + d = (l.length : Int) → EvP (fun k => impl_Buf_bytes.l0 k (wrap64 z) l (l.length : Int) i) (fun r => r = wrap64 (z + sumH (allH (l.drop i.toNat))))
  | 0, z, i, h0, hi => by
    refine EvP.step ?_
    simp only [impl_Buf_bytes.l0]
    refine EvP.no (by omega) (EvP.ret ?_)
    rw [List.drop_of_length_le (by omega)]; simp [sumH, allH]
  | d + 1, z, i, h0, hi => by
    have hx := hh _ (mem80 (l := l) (i := i) h0 (by omega))
    refine EvP.step ?_
    simp only [impl_Buf_bytes.l0]
    refine EvP.yes (by omega) (EvP.yes h0 (EvP.yes (by omega) ?_))
    refine EvP.bind (implBytes_ok _ (by omega)) ?_
    rintro _ rfl
    unfold hsum
    rw [w64 (x := i + 1) (by omega) (by omega), w_w, w_w2]
    refine (bufBytes_l0 hl hh d (z + sumH (rd_T80 l i).f1) (i + 1) (by omega) (by omega)).mono ?_
    rintro _ rfl
    rw [allH_drop h0 (by omega), sum_app, Int.add_assoc]
theorem bufBytes_ok (p b a m : Int) (c : Bool) {l : List S80} (hl : (l.length : Int) ≤ 1048576) (hh : ∀ x ∈ l, (x.f1.length : Int) ≤ 1048576) : EvP (fun k => impl_Buf_bytes.f k p b a m c l) (fun r => r = hsum (allH l)) := by
  unfold impl_Buf_bytes.f
  have h := bufBytes_l0 hl hh l.length 0 0 (by omega) (by omega)
  rw [show wrap64 0 = 0 from w64 (by omega) (by omega)] at h
  refine h.mono ?_
  rintro _ rfl
  unfold hsum
  simp
theorem within_ev2 (a b c : Int) : EvP (fun _ => impl_within.f a b c) (fun r => r = true ↔ b ≤ a ∧ a ≤ c) := by
  unfold impl_within.f
  refine EvP.ite (fun h => EvP.ret ?_) (fun h => EvP.ret ⟨(fun h => by cases h), fun z => by omega⟩)
  rw [decide_eq_true_iff]; omega
theorem implHeld_ok (h : S52) : EvP (fun _ => impl_heldOk.f h.f0 h.f1) (fun r => r = true ↔ HeldP h) := by
  unfold impl_heldOk.f HeldP
  refine EvP.bind (within_ev2 h.f0 _ _) (fun t ht => ?_)
  refine EvP.ite (fun h1 => ?_) (fun h1 => EvP.ret ⟨(fun h => by cases h), fun z => absurd (ht.2 z.1) h1⟩)
  refine EvP.bind (within_ev2 h.f1 _ _) (fun u hu => EvP.ret ?_)
  rw [hu]; exact ⟨fun g => ⟨ht.1 h1, g⟩, fun g => g.2⟩
theorem specHeld_ok (h : S52) : EvP (fun _ => spec_l17HeldOk.f h.f0 h.f1) (fun r => r = true ↔ HeldP h) := by
  unfold spec_l17HeldOk.f HeldP
  refine EvP.ite (fun h1 => ?_) (fun h1 => EvP.ret ⟨(fun h => by cases h), fun z => absurd z.1.1 h1⟩)
  refine EvP.ite (fun h2 => ?_) (fun h1 => EvP.ret ⟨(fun h => by cases h), fun z => absurd z.1.2 h1⟩)
  refine EvP.ite (fun h3 => EvP.ret ?_) (fun h1 => EvP.ret ⟨(fun h => by cases h), fun z => absurd z.2.1 h1⟩)
  rw [decide_eq_true_iff]; exact ⟨fun g => ⟨⟨h1, h2⟩, h3, g⟩, fun g => g.2.2⟩
theorem implLim_ok (p b a m : Int) (c : Bool) : EvP (fun _ => impl_LimitsOk.f p b a m c) (fun r => r = true ↔ LimP p b a m) := by
  unfold impl_LimitsOk.f LimP
  refine EvP.bind (within_ev2 p _ _) (fun t ht => ?_)
  refine EvP.ite (fun h1 => ?_) (fun h1 => EvP.ret ⟨(fun h => by cases h), fun z => absurd (ht.2 z.1) h1⟩)
  refine EvP.bind (within_ev2 b _ _) (fun u hu => ?_)
  refine EvP.ite (fun h2 => ?_) (fun h1 => EvP.ret ⟨(fun h => by cases h), fun z => absurd (hu.2 z.2.1) h1⟩)
  refine EvP.bind (within_ev2 a _ _) (fun v hv => ?_)
  refine EvP.ite (fun h3 => ?_) (fun h1 => EvP.ret ⟨(fun h => by cases h), fun z => absurd (hv.2 z.2.2.1) h1⟩)
  refine EvP.bind (within_ev2 m _ _) (fun x hx => EvP.ret ?_)
  rw [hx]; exact ⟨fun g => ⟨ht.1 h1, hu.1 h2, hv.1 h3, g⟩, fun g => g.2.2.2⟩
theorem specLim_ok (p b a m : Int) (c : Bool) : EvP (fun _ => spec_LimitsOk.f p b a m c) (fun r => r = true ↔ LimP p b a m) := by
  unfold spec_LimitsOk.f LimP
  refine EvP.ite (fun h1 => EvP.ret ⟨(fun h => by cases h), fun z => by omega⟩) (fun h1 => ?_)
  refine EvP.ite (fun h2 => EvP.ret ⟨(fun h => by cases h), fun z => by omega⟩) (fun h2 => ?_)
  refine EvP.ite (fun h3 => EvP.ret ⟨(fun h => by cases h), fun z => by omega⟩) (fun h3 => ?_)
  refine EvP.ite (fun h4 => EvP.ret ⟨(fun h => by cases h), fun z => by omega⟩) (fun h4 => ?_)
  refine EvP.ite (fun h5 => ?_) (fun h5 => EvP.ret ⟨(fun h => by cases h), fun z => by omega⟩)
  refine EvP.ite (fun h6 => ?_) (fun h6 => EvP.ret ⟨(fun h => by cases h), fun z => by omega⟩)
  refine EvP.ite (fun h7 => EvP.ret ?_) (fun h7 => EvP.ret ⟨(fun h => by cases h), fun z => by omega⟩)
  rw [decide_eq_true_iff]; omega
def BufEnd (a : Int) (l : List S80) (seen xs : List Int) : Prop := Fresh seen xs ∧ hsum (allH l) ≤ a
def BufP (p b a m : Int) (l : List S80) : Prop := LimP p b a m ∧ (l.length : Int) ≤ 48 ∧ LanesFrom p b l 0 ∧ BufEnd a l [] (idsH (allH l))
theorem ids_cons (h : S52) (xs : List S52) : idsH (h :: xs) = h.f0 :: idsH xs := rfl
theorem ids_app (xs ys : List S52) : idsH (xs ++ ys) = idsH xs ++ idsH ys := by unfold idsH; simp
theorem fits_ok {p b a m f : Int} {c : Bool} {xs : List S52} (hl : (xs.length : Int) ≤ 1048576) : EvP (fun k => impl_Lane_fits.f k f xs p b a m c) (fun r => r = true ↔ (xs.length : Int) ≤ p ∧ hsum xs ≤ b) := by
  unfold impl_Lane_fits.f
  refine EvP.ite (fun h => ?_) (fun h => EvP.ret ⟨(fun h => by cases h), fun z => absurd z.1 h⟩)
  refine EvP.bind (implBytes_ok f (by omega)) ?_
  rintro _ rfl
  refine EvP.ret ?_
  rw [decide_eq_true_iff]; exact ⟨fun g => ⟨h, g⟩, fun g => g.2⟩
def RestP (p b a : Int) (l : List S80) (i : Int) (seen xs : List Int) : Prop := LanesFrom p b l i ∧ BufEnd a l seen (xs ++ idsH (allH (l.drop i.toNat)))
theorem implIn_l1 {p b a m i : Int} {c : Bool} {l : List S80} {xs : List S52} (hl : (xs.length : Int) ≤ 1048576) (hi : 0 ≤ i) (next : ∀ seen : List Int, (seen.length : Int) ≤ 1048576 * (i + 1) → EvP (fun k => impl_BufOk.l0 k seen l (l.length : Int) (wrap64 (i + 1)) p b a m c l) (fun r => r = true ↔ RestP p b a l (i + 1) seen [])) :
    ∀ (d : Nat) (q : Int) (seen : List Int), 0 ≤ q → q + d = (xs.length : Int) → i ≤ 1048576 → (seen.length : Int) ≤ 1048576 * i + q →
    EvP (fun k => impl_BufOk.l1 k seen l (l.length : Int) i xs (xs.length : Int) q p b a m c l) (fun r => r = true ↔ (∀ h ∈ xs.drop q.toNat, HeldP h) ∧ RestP p b a l (i + 1) seen (idsH (xs.drop q.toNat)))
  | 0, q, seen, h0, hq, hi2, hs => by
    refine EvP.step ?_
    simp only [impl_BufOk.l1]
    refine EvP.no (by omega) ((next seen (by omega)).mono ?_)
    intro r hr
    rw [hr, List.drop_of_length_le (by omega)]
    exact ⟨fun g => ⟨(fun h hh => by cases hh), g⟩, fun g => g.2⟩
  | d + 1, q, seen, h0, hq, hi2, hs => by
    refine EvP.step ?_
    simp only [impl_BufOk.l1]
    refine EvP.yes (by omega) (EvP.yes h0 (EvP.yes (by omega) ?_))
    have hd := drop52 h0 (show q < (xs.length : Int) by omega)
    refine EvP.bind (implHeld_ok (rd_T52 xs q)) (fun t ht => ?_)
    refine EvP.ite (fun h1 => ?_) (fun h1 => EvP.ret ⟨(fun h => by cases h), fun z => absurd (ht.2 (z.1 _ (by rw [hd]; simp))) h1⟩)
    refine EvP.bind (P := fun r => r = seen.contains (rd_T52 xs q).f0) (EvP.ret rfl) ?_
    rintro _ rfl
    refine EvP.ite (fun h2 => EvP.ret ⟨(fun h => by cases h), fun z => ?_⟩) (fun h2 => ?_)
    · have h3 := z.2.2.1
      rw [hd, ids_cons] at h3
      exact absurd (by simpa using h2) h3.1
    · refine EvP.yes (by omega) ?_
      rw [w64 (x := q + 1) (by omega) (by omega)]
      refine (implIn_l1 hl hi next d (q + 1) (seen ++ [(rd_T52 xs q).f0]) (by omega) (by omega) hi2 (by rw [List.length_append]; simp only [List.length_cons, List.length_nil]; omega)).mono ?_
      intro r hr
      rw [hr, hd]
      constructor
      · rintro ⟨g1, g2, g3, g4⟩
        refine ⟨fun h hh => ?_, g2, ?_, g4⟩
        · rcases List.mem_cons.1 hh with rfl | hh
          · exact ht.1 h1
          · exact g1 h hh
        · rw [ids_cons]; exact ⟨by simpa using h2, g3⟩
      · rintro ⟨g1, g2, g3, g4⟩
        rw [ids_cons] at g3
        exact ⟨fun h hh => g1 h (List.mem_cons_of_mem _ hh), g2, g3.2, g4⟩
theorem implOut_l0 {p b a m : Int} {c : Bool} {l : List S80} (hl : (l.length : Int) ≤ 48) (hh : ∀ x ∈ l, (x.f1.length : Int) ≤ 1048576) : ∀ (d : Nat) (i : Int) (seen : List Int), 0 ≤ i → i + d = (l.length : Int) → (seen.length : Int) ≤ 1048576 * i →
    EvP (fun k => impl_BufOk.l0 k seen l (l.length : Int) i p b a m c l) (fun r => r = true ↔ RestP p b a l i seen [])
  | 0, i, seen, h0, hi, hs => by
    refine EvP.step ?_
    simp only [impl_BufOk.l0]
    refine EvP.no (by omega) ?_
    refine EvP.bind (bufBytes_ok p b a m c (by omega) hh) ?_
    rintro _ rfl
    refine EvP.ret ?_
    rw [decide_eq_true_iff]
    unfold RestP BufEnd
    rw [List.drop_of_length_le (by omega)]
    exact ⟨fun g => ⟨LanesFrom.nil (by omega), trivial, g⟩, fun g => g.2.2⟩
  | d + 1, i, seen, h0, hi, hs => by
    have h1 : i < (l.length : Int) := by omega
    have hx := hh _ (mem80 h0 h1)
    have hrest : RestP p b a l i seen [] ↔ LaneAt p b l i ∧ RestP p b a l (i + 1) seen (idsH (rd_T80 l i).f1) := by
      unfold RestP
      rw [LanesFrom.cons h1, allH_drop h0 h1, ids_app, List.nil_append]
      exact ⟨fun g => ⟨g.1.1, g.1.2, g.2⟩, fun g => ⟨⟨g.1, g.2.1⟩, g.2.2⟩⟩
    have next : ∀ seen : List Int, (seen.length : Int) ≤ 1048576 * (i + 1) → EvP (fun k => impl_BufOk.l0 k seen l (l.length : Int) (wrap64 (i + 1)) p b a m c l) (fun r => r = true ↔ RestP p b a l (i + 1) seen []) := fun seen hs => by
      rw [w64 (x := i + 1) (by omega) (by omega)]
      exact implOut_l0 hl hh d (i + 1) seen (by omega) (by omega) hs
    have bad : ¬ LaneAt p b l i → EvP (fun k => impl_BufOk.j2 k seen l (l.length : Int) i true p b a m c l (rd_T80 l i).f0 (rd_T80 l i).f1) (fun r => r = true ↔ RestP p b a l i seen []) := fun z => by
      refine EvP.step ?_
      simp only [impl_BufOk.j2]
      exact EvP.yes (by simp) (EvP.ret ⟨(fun h => by cases h), fun g => absurd (hrest.1 g).1 z⟩)
    have good : (0 ≤ (rd_T80 l i).f0 ∧ (rd_T80 l i).f0 ≤ 9999) → (0 < i → (rd_T80 l (i - 1)).f0 < (rd_T80 l i).f0) → ((rd_T80 l i).f1.length : Int) ≠ 0 →
        EvP (fun k => (impl_Lane_fits.f k (rd_T80 l i).f0 (rd_T80 l i).f1 p b a m c).bind fun t => impl_BufOk.j2 k seen l (l.length : Int) i (!t) p b a m c l (rd_T80 l i).f0 (rd_T80 l i).f1) (fun r => r = true ↔ RestP p b a l i seen []) := fun z1 z2 z3 => by
      refine EvP.bind (fits_ok hx) (fun t ht => ?_)
      cases t with
      | false => exact bad (fun g => by have := ht.2 ⟨g.2.2.2.1, g.2.2.2.2.2⟩; cases this)
      | true =>
        have hf := ht.1 rfl
        refine EvP.step ?_
        simp only [impl_BufOk.j2]
        refine EvP.no (by simp) ?_
        refine (implIn_l1 hx h0 next (rd_T80 l i).f1.length 0 seen (by omega) (by omega) (by omega) (by omega)).mono ?_
        intro r hr
        rw [hr, hrest]
        simp only [Int.toNat_zero, List.drop_zero]
        exact ⟨fun g => ⟨⟨z1, z2, by omega, hf.1, g.1, hf.2⟩, g.2⟩, fun g => ⟨g.1.2.2.2.2.1, g.2⟩⟩
    refine EvP.step ?_
    simp only [impl_BufOk.l0]
    refine EvP.yes h1 (EvP.yes h0 (EvP.yes h1 ?_))
    refine EvP.bind (P := fun r => r = true ↔ 0 ≤ (rd_T80 l i).f0 ∧ (rd_T80 l i).f0 ≤ 9999) ?_ (fun t ht => ?_)
    · unfold impl_isFlow.f
      exact EvP.bind (within_ev2 _ _ _) (fun r h => EvP.ret h)
    refine EvP.ite (fun e1 => ?_) (fun e1 => bad (fun g => e1 (ht.2 g.1)))
    have z1 := ht.1 e1
    refine EvP.ite (fun e2 => ?_) (fun e2 => ?_)
    · rw [w64 (x := i - 1) (by omega) (by omega)]
      refine EvP.yes (by omega) (EvP.yes (by omega) ?_)
      refine EvP.ite (fun e3 => bad (fun g => by have := g.2.1 e2; omega)) (fun e3 => ?_)
      refine EvP.ite (fun e4 => bad (fun g => by have := g.2.2.1; omega)) (fun e4 => ?_)
      exact good z1 (fun _ => by omega) e4
    · refine EvP.ite (fun e4 => bad (fun g => by have := g.2.2.1; omega)) (fun e4 => ?_)
      exact good z1 (fun g => absurd g e2) e4
theorem implBuf_ok (p b a m : Int) (c : Bool) {l : List S80} (hh : ∀ x ∈ l, (x.f1.length : Int) ≤ 1048576) : EvP (fun k => impl_BufOk.f k p b a m c l) (fun r => r = true ↔ BufP p b a m l) := by
  have bad : ¬ BufP p b a m l → EvP (fun k => impl_BufOk.j0 k true p b a m c l) (fun r => r = true ↔ BufP p b a m l) := fun z => by
    refine EvP.step ?_
    simp only [impl_BufOk.j0]
    exact EvP.yes (by simp) (EvP.ret ⟨(fun h => by cases h), fun g => absurd g z⟩)
  unfold impl_BufOk.f
  refine EvP.bind (implLim_ok p b a m c) (fun t ht => ?_)
  refine EvP.ite (fun h1 => ?_) (fun h1 => bad (fun g => h1 (ht.2 g.1)))
  by_cases h2 : (l.length : Int) > 48
  · rw [decide_eq_true h2]
    exact bad (fun g => by have := g.2.1; omega)
  · rw [decide_eq_false h2]
    refine EvP.step ?_
    simp only [impl_BufOk.j0]
    refine EvP.no (by simp) ?_
    refine (implOut_l0 (p := p) (b := b) (a := a) (m := m) (c := c) (by omega) hh l.length 0 [] (by omega) (by omega) (by simp)).mono ?_
    intro r hr
    rw [hr]
    unfold RestP BufP
    simp only [Int.toNat_zero, List.drop_zero, List.nil_append]
    exact ⟨fun g => ⟨ht.1 h1, by omega, g⟩, fun g => g.2.2⟩
theorem idIn_ok (x : Int) {xs : List S52} (hl : (xs.length : Int) ≤ 1000000000) : EvP (fun k => spec_l17Id.f k xs x) (fun r => r = true ↔ x ∈ idsH xs) := by
  have go : ∀ (d : Nat) (i : Int), 0 ≤ i → i + d = (xs.length : Int) → EvP (fun k => spec_l17Id.l0 k xs x i) (fun r => r = true ↔ x ∈ idsH (xs.drop i.toNat)) := by
    intro d
    induction d with
    | zero =>
      intro i h0 hi
      refine EvP.step ?_
      simp only [spec_l17Id.l0]
      refine EvP.no (by omega) (EvP.ret ?_)
      rw [List.drop_of_length_le (by omega)]
      exact ⟨(fun h => by cases h), (fun h => by cases h)⟩
    | succ d ih =>
      intro i h0 hi
      have hd := drop52 h0 (show i < (xs.length : Int) by omega)
      refine EvP.step ?_
      simp only [spec_l17Id.l0]
      refine EvP.yes (by omega) (EvP.yes h0 ?_)
      refine EvP.ite (fun e => EvP.ret ⟨fun _ => by rw [hd]; exact List.mem_cons.2 (.inl e.symm), fun _ => rfl⟩) (fun e => ?_)
      rw [w64 (by omega) (by omega)]
      refine (ih (i + 1) (by omega) (by omega)).mono ?_
      intro r hr
      rw [hr, hd]
      exact ⟨fun g => List.mem_cons_of_mem _ g, fun g => (List.mem_cons.1 g).resolve_left (fun z => e z.symm)⟩
  unfold spec_l17Id.f
  exact go xs.length 0 (by omega) (by omega)
theorem specAll_l0 {p b a m : Int} {c : Bool} {l : List S80} (hl : (l.length : Int) ≤ 48) (hh : ∀ x ∈ l, (x.f1.length : Int) ≤ 1048576) : ∀ (d : Nat) (i : Int), 0 ≤ i → i + d = (l.length : Int) → EvP (fun k => spec_l17All.l0 k (allH (l.take i.toNat)) i p b a m c l) (fun r => r = allH l)
  | 0, i, h0, hi => by
    refine EvP.step ?_
    simp only [spec_l17All.l0]
    refine EvP.no (by omega) (EvP.ret ?_)
    rw [List.take_of_length_le (by omega)]
  | d + 1, i, h0, hi => by
    have hx := hh _ (mem80 (l := l) (i := i) h0 (by omega))
    have h2 := allH_len (l := l.take i.toNat) (fun x hx => hh x (List.mem_of_mem_take hx))
    rw [List.length_take] at h2
    refine EvP.step ?_
    simp only [spec_l17All.l0]
    refine EvP.yes (by omega) (EvP.yes h0 (EvP.yes (by omega) ?_))
    rw [w64 (x := i + 1) (by omega) (by omega), ← allH_take h0 (by omega)]
    exact specAll_l0 hl hh d (i + 1) (by omega) (by omega)
theorem specIds_l2 {p b a m : Int} {c : Bool} {l : List S80} {xs : List S52} (hl : (xs.length : Int) ≤ 1000000000) : ∀ (d : Nat) (q : Int), 0 ≤ q → q + d = (xs.length : Int) → EvP (fun k => spec_BufOk.l2 k xs q p b a m c l) (fun r => r = true ↔ Fresh (idsH (xs.take q.toNat)) (idsH (xs.drop q.toNat)) ∧ hsum xs ≤ a)
  | 0, q, h0, hq => by
    refine EvP.step ?_
    simp only [spec_BufOk.l2]
    refine EvP.no (by omega) (EvP.bind (specBytes_ok hl) ?_)
    rintro _ rfl
    refine EvP.ret ?_
    rw [decide_eq_true_iff, List.drop_of_length_le (by omega)]
    exact ⟨fun g => ⟨trivial, g⟩, fun g => g.2⟩
  | d + 1, q, h0, hq => by
    have hd := drop52 h0 (show q < (xs.length : Int) by omega)
    have ht := take52 h0 (show q < (xs.length : Int) by omega)
    refine EvP.step ?_
    simp only [spec_BufOk.l2]
    refine EvP.yes (by omega) (EvP.yes h0 (EvP.yes (by omega) ?_))
    refine EvP.bind (idIn_ok (rd_T52 xs q).f0 (xs := xs.take q.toNat) (by rw [List.length_take]; omega)) (fun t hin => ?_)
    rw [hd, ids_cons]
    refine EvP.ite (fun e => EvP.ret ⟨(fun h => by cases h), fun g => absurd (hin.1 e) g.1.1⟩) (fun e => ?_)
    rw [w64 (by omega) (by omega)]
    refine (specIds_l2 hl d (q + 1) (by omega) (by omega)).mono ?_
    intro r hr
    rw [hr, ht, ids_app]
    exact ⟨fun g => ⟨⟨fun z => e (hin.2 z), g.1⟩, g.2⟩, fun g => ⟨g.1.2, g.2⟩⟩
theorem specIn_l1 {p b a m i f : Int} {c : Bool} {l : List S80} {xs : List S52} (hl : (xs.length : Int) ≤ 1048576) {N : Prop} (next : EvP (fun k => spec_BufOk.l0 k (wrap64 (i + 1)) p b a m c l) (fun r => r = true ↔ N)) :
    ∀ (d : Nat) (q : Int), 0 ≤ q → q + d = (xs.length : Int) → EvP (fun k => spec_BufOk.l1 k i q p b a m c l f xs) (fun r => r = true ↔ (∀ h ∈ xs.drop q.toNat, HeldP h) ∧ hsum xs ≤ b ∧ N)
  | 0, q, h0, hq => by
    refine EvP.step ?_
    simp only [spec_BufOk.l1]
    refine EvP.no (by omega) (EvP.bind (specBytes_ok (by omega)) ?_)
    rintro _ rfl
    rw [List.drop_of_length_le (by omega)]
    refine EvP.ite (fun e => EvP.ret ⟨(fun h => by cases h), fun g => by have := g.2.1; omega⟩) (fun e => next.mono ?_)
    intro r hr
    rw [hr]
    exact ⟨fun g => ⟨(fun h hh => by cases hh), by omega, g⟩, fun g => g.2.2⟩
  | d + 1, q, h0, hq => by
    have hd := drop52 h0 (show q < (xs.length : Int) by omega)
    refine EvP.step ?_
    simp only [spec_BufOk.l1]
    refine EvP.yes (by omega) (EvP.yes h0 ?_)
    refine EvP.bind (specHeld_ok (rd_T52 xs q)) (fun t ht => ?_)
    refine EvP.ite (fun h1 => ?_) (fun h1 => EvP.ret ⟨(fun h => by cases h), fun z => absurd (ht.2 (z.1 _ (by rw [hd]; simp))) h1⟩)
    rw [w64 (by omega) (by omega)]
    refine (specIn_l1 hl next d (q + 1) (by omega) (by omega)).mono ?_
    intro r hr
    rw [hr, hd]
    constructor
    · rintro ⟨g1, g2⟩
      refine ⟨fun h hh => ?_, g2⟩
      rcases List.mem_cons.1 hh with rfl | hh
      · exact ht.1 h1
      · exact g1 h hh
    · rintro ⟨g1, g2⟩
      exact ⟨fun h hh => g1 h (List.mem_cons_of_mem _ hh), g2⟩
theorem specOut_l0 {p b a m : Int} {c : Bool} {l : List S80} (hl : (l.length : Int) ≤ 48) (hh : ∀ x ∈ l, (x.f1.length : Int) ≤ 1048576) : ∀ (d : Nat) (i : Int), 0 ≤ i → i + d = (l.length : Int) →
    EvP (fun k => spec_BufOk.l0 k i p b a m c l) (fun r => r = true ↔ LanesFrom p b l i ∧ BufEnd a l [] (idsH (allH l)))
  | 0, i, h0, hi => by
    have h2 := allH_len hh
    refine EvP.step ?_
    simp only [spec_BufOk.l0]
    refine EvP.no (by omega) ?_
    refine EvP.bind (P := fun r => r = allH l) ?_ ?_
    · unfold spec_l17All.f
      have h := specAll_l0 (p := p) (b := b) (a := a) (m := m) (c := c) hl hh l.length 0 (by omega) (by omega)
      simpa [allH] using h
    rintro _ rfl
    refine (specIds_l2 (by omega) (allH l).length 0 (by omega) (by omega)).mono ?_
    intro r hr
    rw [hr]
    simp only [Int.toNat_zero, List.drop_zero, List.take_zero]
    exact ⟨fun g => ⟨LanesFrom.nil (by omega), g⟩, fun g => g.2⟩
  | d + 1, i, h0, hi => by
    have h1 : i < (l.length : Int) := by omega
    have hx := hh _ (mem80 h0 h1)
    have next : EvP (fun k => spec_BufOk.l0 k (wrap64 (i + 1)) p b a m c l) (fun r => r = true ↔ LanesFrom p b l (i + 1) ∧ BufEnd a l [] (idsH (allH l))) := by
      rw [w64 (x := i + 1) (by omega) (by omega)]
      exact specOut_l0 hl hh d (i + 1) (by omega) (by omega)
    rw [show (fun r : Bool => r = true ↔ LanesFrom p b l i ∧ BufEnd a l [] (idsH (allH l))) = (fun r : Bool => r = true ↔ LaneAt p b l i ∧ LanesFrom p b l (i + 1) ∧ BufEnd a l [] (idsH (allH l))) from funext (fun r => by rw [LanesFrom.cons h1, and_assoc])]
    have bad : ¬ LaneAt p b l i → EvP (fun k => spec_BufOk.j2 k i true p b a m c l (rd_T80 l i).f0 (rd_T80 l i).f1) (fun r => r = true ↔ LaneAt p b l i ∧ LanesFrom p b l (i + 1) ∧ BufEnd a l [] (idsH (allH l))) := fun z => by
      refine EvP.step ?_
      simp only [spec_BufOk.j2]
      exact EvP.yes (by simp) (EvP.ret ⟨(fun h => by cases h), fun g => absurd g.1 z⟩)
    have bad3 : ¬ LaneAt p b l i → EvP (fun k => spec_BufOk.j3 k i true p b a m c l (rd_T80 l i).f0 (rd_T80 l i).f1) (fun r => r = true ↔ LaneAt p b l i ∧ LanesFrom p b l (i + 1) ∧ BufEnd a l [] (idsH (allH l))) := fun z => by
      refine EvP.step ?_
      simp only [spec_BufOk.j3]
      exact EvP.yes (by simp) (EvP.ret ⟨(fun h => by cases h), fun g => absurd g.1 z⟩)
    have good : (0 ≤ (rd_T80 l i).f0 ∧ (rd_T80 l i).f0 ≤ 9999) → (0 < i → (rd_T80 l (i - 1)).f0 < (rd_T80 l i).f0) →
        EvP (fun k => spec_BufOk.j2 k i false p b a m c l (rd_T80 l i).f0 (rd_T80 l i).f1) (fun r => r = true ↔ LaneAt p b l i ∧ LanesFrom p b l (i + 1) ∧ BufEnd a l [] (idsH (allH l))) := fun z1 z2 => by
      refine EvP.step ?_
      simp only [spec_BufOk.j2]
      refine EvP.no (by simp) ?_
      refine EvP.ite (fun e => bad3 (fun g => by have := g.2.2.1; omega)) (fun e => ?_)
      by_cases e2 : ((rd_T80 l i).f1.length : Int) > p
      · rw [decide_eq_true e2]
        exact bad3 (fun g => by have := g.2.2.2.1; omega)
      · rw [decide_eq_false e2]
        refine EvP.step ?_
        simp only [spec_BufOk.j3]
        refine EvP.no (by simp) ?_
        refine (specIn_l1 hx next (rd_T80 l i).f1.length 0 (by omega) (by omega)).mono ?_
        intro r hr
        rw [hr]
        simp only [Int.toNat_zero, List.drop_zero]
        exact ⟨fun g => ⟨⟨z1, z2, by omega, by omega, g.1, g.2.1⟩, g.2.2⟩, fun g => ⟨g.1.2.2.2.2.1, g.1.2.2.2.2.2, g.2⟩⟩
    refine EvP.step ?_
    simp only [spec_BufOk.l0]
    refine EvP.yes h1 (EvP.yes h0 ?_)
    refine EvP.ite (fun e => bad (fun g => by have := g.1.1; omega)) (fun e => ?_)
    refine EvP.ite (fun e => bad (fun g => by have := g.1.2; omega)) (fun e' => ?_)
    refine EvP.ite (fun e2 => ?_) (fun e2 => good ⟨by omega, by omega⟩ (fun g => absurd g e2))
    rw [w64 (x := i - 1) (by omega) (by omega)]
    refine EvP.yes (by omega) (EvP.yes (by omega) ?_)
    by_cases e3 : (rd_T80 l (i - 1)).f0 ≥ (rd_T80 l i).f0
    · rw [decide_eq_true e3]
      exact bad (fun g => by have := g.2.1 e2; omega)
    · rw [decide_eq_false e3]
      exact good ⟨by omega, by omega⟩ (fun _ => by omega)
theorem specBuf_ok (p b a m : Int) (c : Bool) {l : List S80} (hh : ∀ x ∈ l, (x.f1.length : Int) ≤ 1048576) : EvP (fun k => spec_BufOk.f k p b a m c l) (fun r => r = true ↔ BufP p b a m l) := by
  have bad : ¬ BufP p b a m l → EvP (fun k => spec_BufOk.j0 k true p b a m c l) (fun r => r = true ↔ BufP p b a m l) := fun z => by
    refine EvP.step ?_
    simp only [spec_BufOk.j0]
    exact EvP.yes (by simp) (EvP.ret ⟨(fun h => by cases h), fun g => absurd g z⟩)
  unfold spec_BufOk.f
  refine EvP.bind (specLim_ok p b a m c) (fun t ht => ?_)
  refine EvP.ite (fun h1 => ?_) (fun h1 => bad (fun g => h1 (ht.2 g.1)))
  by_cases h2 : (l.length : Int) > 48
  · rw [decide_eq_true h2]
    exact bad (fun g => by have := g.2.1; omega)
  · rw [decide_eq_false h2]
    refine EvP.step ?_
    simp only [spec_BufOk.j0]
    refine EvP.no (by simp) ?_
    refine (specOut_l0 (p := p) (b := b) (a := a) (m := m) (c := c) (by omega) hh l.length 0 (by omega) (by omega)).mono ?_
    intro r hr
    rw [hr]
    unfold BufP
    exact ⟨fun g => ⟨ht.1 h1, by omega, g⟩, fun g => g.2.2⟩
def laneIx (l : List S80) (id : Int) : Int := idxP (fun x => x.f0 == id) l
theorem laneIx_in (l : List S80) (id : Int) : ∀ (n : Nat), n = l.length → -1 ≤ laneIx l id ∧ laneIx l id < (l.length : Int) := by
  intro n hn
  unfold laneIx
  induction l generalizing n with
  | nil => simp [idxP]
  | cons x t ih =>
    have := ih t.length rfl
    rw [idxP]
    simp only [List.length_cons]
    split
    · omega
    · split <;> omega
def laneH (l : List S80) (id : Int) : List S52 := if laneIx l id < 0 then [] else (rd_T80 l (laneIx l id)).f1
theorem specLane_l0 {p b a m id : Int} {c : Bool} {l : List S80} (hl : (l.length : Int) ≤ 1048576) : ∀ (n : Nat) (i : Int), 0 ≤ i → i + n = (l.length : Int) → (∀ j : Nat, (j : Int) < i → ∀ y, l[j]? = some y → (y.f0 == id) = false) → EvP (fun k => spec_l17Lane.l0 k id i p b a m c l) (fun r => r = laneH l id)
  | 0, i, h0, hi, hv => by
    refine EvP.step ?_
    simp only [spec_l17Lane.l0]
    refine EvP.no (by omega) (EvP.ret ?_)
    unfold laneH laneIx
    rw [idxP_miss l (fun j y hy => by
      by_cases hj : j < l.length
      · exact hv j (by omega) y hy
      · rw [List.getElem?_eq_none (by omega)] at hy; cases hy), if_pos (by omega)]
  | n + 1, i, h0, hi, hv => by
    refine EvP.step ?_
    simp only [spec_l17Lane.l0]
    have hx := rd80 (l := l) h0 (by omega)
    refine EvP.yes (by omega) (EvP.yes h0 (EvP.ite (fun h => EvP.ret ?_) (fun h => ?_)))
    · unfold laneH laneIx
      rw [idxP_hit l i.toNat (rd_T80 l i) hx (by simp [h]) (fun j y hj hy => hv j (by omega) y hy), if_neg (by omega), show ((i.toNat : Nat) : Int) = i by omega]
    · rw [w64 (by omega) (by omega)]
      refine specLane_l0 hl n (i + 1) (by omega) (by omega) (fun j hj y hy => ?_)
      by_cases e : j = i.toNat
      · subst e
        rw [hx] at hy
        cases hy
        simpa using h
      · exact hv j (by omega) y hy
theorem specLane_ok (p b a m id : Int) (c : Bool) {l : List S80} (hl : (l.length : Int) ≤ 1048576) : EvP (fun k => spec_l17Lane.f k p b a m c l id) (fun r => r = laneH l id) := by
  unfold spec_l17Lane.f
  exact specLane_l0 hl l.length 0 (by omega) (by omega) (fun j hj => by omega)
theorem implLane_ok (p b a m id : Int) (c : Bool) {l : List S80} (hl : (l.length : Int) ≤ 1048576) : EvP (fun _ => impl_Buf_laneAt.f p b a m c l id) (fun r => r = laneIx l id) := by
  unfold impl_Buf_laneAt.f
  exact EvP.yes (by omega) (EvP.ret rfl)
theorem rdm80 (pre t : List S80) (h : S80) : rd_T80 (pre ++ h :: t) (pre.length : Int) = h := by
  unfold rd_T80
  rw [List.getD_eq_getElem?_getD, Int.toNat_natCast, List.getElem?_append_right (Nat.le_refl _), Nat.sub_self]; rfl
theorem rdm52 (pre t : List S52) (h : S52) : rd_T52 (pre ++ h :: t) (pre.length : Int) = h := by
  unfold rd_T52
  rw [List.getD_eq_getElem?_getD, Int.toNat_natCast, List.getElem?_append_right (Nat.le_refl _), Nat.sub_self]; rfl
theorem setm {α : Type} (pre t : List α) (h h' : α) : (pre ++ h :: t).set (((pre.length : Nat) : Int)).toNat h' = pre ++ h' :: t := by
  rw [Int.toNat_natCast, List.set_append_right _ _ (Nat.le_refl _), Nat.sub_self]; rfl
theorem snocm {α : Type} (pre t : List α) (h : α) : pre ++ h :: t = (pre ++ [h]) ++ t := by simp
theorem lenm {α : Type} (pre : List α) (h : α) (hl : pre.length ≤ 1000000000) : wrap64 ((pre.length : Int) + 1) = (((pre ++ [h]).length : Nat) : Int) := by
  rw [w64 (by omega) (by omega), List.length_append, List.length_singleton]; omega
theorem ltm {α : Type} (pre t : List α) (h : α) : (pre.length : Int) < (((pre ++ h :: t).length : Nat) : Int) := by
  rw [List.length_append, List.length_cons]; omega
theorem nltm {α : Type} (pre : List α) : ¬ (pre.length : Int) < (((pre ++ []).length : Nat) : Int) := by
  rw [List.append_nil]; omega
def withL (f : Int) (xs : List S52) : Bool → List S80 → List S80
  | inn, [] => if inn = true then [] else [⟨f, xs⟩]
  | inn, h :: t => if inn = true then (if h.f0 = f then withL f xs true t else h :: withL f xs true t)
    else if h.f0 ≥ f then (if h.f0 = f then ⟨f, xs⟩ :: withL f xs true t else ⟨f, xs⟩ :: h :: withL f xs true t) else h :: withL f xs false t
theorem withL_in (f : Int) (xs : List S52) : ∀ l : List S80, withL f xs true l = l.filter (fun x => !(x.f0 == f))
  | [] => rfl
  | h :: t => by
    rw [withL, if_pos rfl]
    by_cases e : h.f0 = f
    · rw [if_pos e, withL_in f xs t, List.filter_cons, if_neg (by simp [e])]
    · rw [if_neg e, withL_in f xs t, List.filter_cons, if_pos (by simp [e])]
theorem with_l0 {p b a m f : Int} {c : Bool} {xs : List S52} (hx : (xs.length : Int) ≤ 1048576) : ∀ (s pre out : List S80) (inn : Bool), ((pre ++ s).length : Int) ≤ 1048576 → (∀ x ∈ s, (x.f1.length : Int) ≤ 1048576) → (out.length : Int) + 2 * s.length ≤ 6000000 →
    EvP (fun k => spec_l17With.l0 k f xs inn (pre.length : Int) p b a m c (pre ++ s) p b a m c out) (fun r => r = (p, b, a, m, c, out ++ withL f xs inn s)) := by
  intro s
  induction s with
  | nil =>
    intro pre out inn hl hh ho
    simp only [List.length_nil] at ho
    refine EvP.step ?_
    simp only [spec_l17With.l0]
    refine EvP.no (nltm pre) ?_
    by_cases hi : inn = true
    · refine EvP.yes hi (EvP.ret ?_)
      rw [withL, if_pos hi, List.append_nil]
    · refine EvP.no hi (EvP.bind (EvP.ret rfl) ?_)
      rintro _ rfl
      refine EvP.yes (by simp only [List.length_nil]; omega) (EvP.yes (by omega) (EvP.ret ?_))
      rw [withL, if_neg hi]; rfl
  | cons h t ih =>
    intro pre out inn hl hh ho
    simp only [List.length_cons, List.length_append] at ho hl
    have hlt := ltm pre t h
    have hrd := rdm80 pre t h
    have hw : wrap64 ((pre.length : Int) + 1) = (((pre ++ [h]).length : Nat) : Int) := lenm pre h (by omega)
    have hl2 : (((pre ++ [h]) ++ t).length : Int) ≤ 1048576 := by simp only [List.length_append, List.length_singleton]; omega
    have hh2 : ∀ x ∈ t, (x.f1.length : Int) ≤ 1048576 := fun x hx => hh x (List.mem_cons_of_mem _ hx)
    have hh1 := hh h (List.mem_cons_self ..)
    refine EvP.step ?_
    simp only [spec_l17With.l0]
    refine EvP.yes hlt ?_
    by_cases hi : inn = true
    · subst hi
      refine EvP.yes rfl (EvP.step ?_)
      simp only [spec_l17With.j1]
      refine EvP.no (by simp) (EvP.yes (by omega) (EvP.yes hlt ?_))
      rw [hrd, withL, if_pos rfl]
      by_cases e : h.f0 = f
      · refine EvP.yes e ?_
        rw [if_pos e, hw, snocm pre t h]
        exact ih (pre ++ [h]) out true hl2 hh2 (by omega)
      · refine EvP.no e (EvP.bind (EvP.ret rfl) ?_)
        rintro _ rfl
        refine EvP.yes (by simp only [List.length_nil]; omega) (EvP.yes (by omega) ?_)
        rw [if_neg e, hw, snocm pre t h, show out ++ h :: withL f xs true t = (out ++ [h]) ++ withL f xs true t by simp]
        exact ih (pre ++ [h]) (out ++ [h]) true hl2 hh2 (by simp only [List.length_append, List.length_singleton]; omega)
    · have hi' : inn = false := by simpa using hi
      subst hi'
      refine EvP.no (by simp) (EvP.yes (by omega) (EvP.step ?_))
      simp only [spec_l17With.j1]
      rw [hrd, withL, if_neg (by simp)]
      by_cases g : h.f0 ≥ f
      · refine EvP.yes (by simpa using g) (EvP.bind (EvP.ret rfl) ?_)
        rintro _ rfl
        refine EvP.yes (by simp only [List.length_nil]; omega) (EvP.yes (by omega) (EvP.bind (EvP.ret rfl) ?_))
        rintro _ rfl
        refine EvP.yes (by omega) (EvP.yes hlt ?_)
        rw [if_pos g]
        by_cases e : h.f0 = f
        · refine EvP.yes e ?_
          rw [if_pos e, hw, snocm pre t h, show out ++ (⟨f, xs⟩ : S80) :: withL f xs true t = (out ++ [(⟨f, xs⟩ : S80)]) ++ withL f xs true t by simp]
          exact ih (pre ++ [h]) (out ++ [(⟨f, xs⟩ : S80)]) true hl2 hh2 (by simp only [List.length_append, List.length_singleton]; omega)
        · refine EvP.no e (EvP.bind (EvP.ret rfl) ?_)
          rintro _ rfl
          refine EvP.yes (by simp only [List.length_nil]; omega) (EvP.yes (by simp only [List.length_append, List.length_singleton]; omega) ?_)
          rw [if_neg e, hw, snocm pre t h, show out ++ (⟨f, xs⟩ : S80) :: h :: withL f xs true t = ((out ++ [(⟨f, xs⟩ : S80)]) ++ [h]) ++ withL f xs true t by simp]
          exact ih (pre ++ [h]) _ true hl2 hh2 (by simp only [List.length_append, List.length_singleton]; omega)
      · refine EvP.no (by simpa using g) (EvP.yes (by omega) (EvP.yes hlt ?_))
        have e : ¬ h.f0 = f := by omega
        refine EvP.no e (EvP.bind (EvP.ret rfl) ?_)
        rintro _ rfl
        refine EvP.yes (by simp only [List.length_nil]; omega) (EvP.yes (by omega) ?_)
        rw [if_neg g, hw, snocm pre t h, show out ++ h :: withL f xs false t = (out ++ [h]) ++ withL f xs false t by simp]
        exact ih (pre ++ [h]) (out ++ [h]) false hl2 hh2 (by simp only [List.length_append, List.length_singleton]; omega)
theorem with_ok (p b a m f : Int) (c : Bool) {xs : List S52} {l : List S80} (hx : (xs.length : Int) ≤ 1048576) (hl : (l.length : Int) ≤ 1048576) (hh : ∀ x ∈ l, (x.f1.length : Int) ≤ 1048576) :
    EvP (fun k => spec_l17With.f k p b a m c l f xs) (fun r => r = (p, b, a, m, c, withL f xs ((xs.length : Int) == 0) l)) := by
  unfold spec_l17With.f
  exact with_l0 (p := p) (b := b) (a := a) (m := m) (c := c) hx l [] [] _ hl hh (by simp only [List.length_nil]; omega)
theorem copy_l0 {p b a m : Int} {c : Bool} : ∀ (s pre out : List S80), ((pre ++ s).length : Int) ≤ 1048576 → (∀ x ∈ s, (x.f1.length : Int) ≤ 1048576) → (out.length : Int) + s.length ≤ 3000000 →
    EvP (fun k => impl_copyBuf.l0 k (pre ++ s) ((pre ++ s).length : Int) (pre.length : Int) p b a m c out) (fun r => r = (p, b, a, m, c, out ++ s)) := by
  intro s
  induction s with
  | nil =>
    intro pre out hl hh ho
    refine EvP.step ?_
    simp only [impl_copyBuf.l0]
    refine EvP.no (nltm pre) (EvP.ret ?_)
    rw [List.append_nil]
  | cons h t ih =>
    intro pre out hl hh ho
    simp only [List.length_cons, List.length_append] at ho hl
    have hlt := ltm pre t h
    have hw : wrap64 ((pre.length : Int) + 1) = (((pre ++ [h]).length : Nat) : Int) := lenm pre h (by omega)
    have hl2 : (((pre ++ [h]) ++ t).length : Int) ≤ 1048576 := by simp only [List.length_append, List.length_singleton]; omega
    have hh1 := hh h (List.mem_cons_self ..)
    refine EvP.step ?_
    simp only [impl_copyBuf.l0]
    refine EvP.yes hlt (EvP.yes (by omega) (EvP.yes hlt ?_))
    rw [rdm80 pre t h]
    refine EvP.bind (P := fun r => r = h.f1) ?_ ?_
    · unfold impl_Held.f
      refine EvP.bind (EvP.ret rfl) ?_
      rintro _ rfl
      exact EvP.yes (by simp only [List.length_nil]; omega) (EvP.ret rfl)
    rintro _ rfl
    refine EvP.yes (by omega) ?_
    rw [hw, snocm pre t h, show out ++ h :: t = (out ++ [h]) ++ t by simp]
    exact ih (pre ++ [h]) (out ++ [h]) hl2 (fun x hx => hh x (List.mem_cons_of_mem _ hx)) (by simp only [List.length_append, List.length_singleton]; omega)
theorem copy_ok (p b a m : Int) (c : Bool) {l : List S80} (hl : (l.length : Int) ≤ 1048576) (hh : ∀ x ∈ l, (x.f1.length : Int) ≤ 1048576) : EvP (fun k => impl_copyBuf.f k p b a m c l) (fun r => r = (p, b, a, m, c, l)) := by
  unfold impl_copyBuf.f
  exact copy_l0 (p := p) (b := b) (a := a) (m := m) (c := c) l [] [] hl hh (by simp only [List.length_nil]; omega)
def Asc (l : List S80) : Prop := l.Pairwise (fun x y => x.f0 < y.f0)
theorem asc_of {p b : Int} {l : List S80} (h : LanesFrom p b l 0) : Asc l := by
  have step : ∀ (d i : Nat) (x y : S80), l[i]? = some x → l[i + 1 + d]? = some y → x.f0 < y.f0 := by
    intro d
    induction d with
    | zero =>
      intro i x y hx hy
      obtain ⟨h1, e1⟩ := List.getElem?_eq_some_iff.1 hy
      have := (h ((i + 1 : Nat) : Int) (by omega) (by omega)).2.1 (by omega)
      have ex : rd_T80 l ((i : Nat) : Int) = x := Option.some.inj ((rd80 (by omega) (by omega)).symm.trans (by rw [Int.toNat_natCast]; exact hx))
      have ey : rd_T80 l ((i + 1 : Nat) : Int) = y := Option.some.inj ((rd80 (by omega) (by omega)).symm.trans (by rw [Int.toNat_natCast]; exact hy))
      rw [show ((i + 1 : Nat) : Int) - 1 = ((i : Nat) : Int) by omega, ex, ey] at this
      exact this
    | succ d ih =>
      intro i x y hx hy
      obtain ⟨h1, e1⟩ := List.getElem?_eq_some_iff.1 hy
      obtain ⟨z, hz⟩ : ∃ z, l[i + 1 + d]? = some z := ⟨_, List.getElem?_eq_getElem (by omega)⟩
      have := (h ((i + 1 + (d + 1) : Nat) : Int) (by omega) (by omega)).2.1 (by omega)
      have ex : rd_T80 l ((i + 1 + d : Nat) : Int) = z := Option.some.inj ((rd80 (by omega) (by omega)).symm.trans (by rw [Int.toNat_natCast]; exact hz))
      have ey : rd_T80 l ((i + 1 + (d + 1) : Nat) : Int) = y := Option.some.inj ((rd80 (by omega) (by omega)).symm.trans (by rw [Int.toNat_natCast]; exact hy))
      rw [show ((i + 1 + (d + 1) : Nat) : Int) - 1 = ((i + 1 + d : Nat) : Int) by omega, ex, ey] at this
      exact Int.lt_trans (ih i x z hx hz) this
  unfold Asc
  rw [List.pairwise_iff_getElem]
  intro i j hi hj hij
  obtain ⟨d, rfl⟩ : ∃ d, j = i + 1 + d := ⟨j - (i + 1), by omega⟩
  exact step d i _ _ (List.getElem?_eq_getElem hi) (List.getElem?_eq_getElem hj)
theorem laneIx_cons (x : S80) (t : List S80) (id : Int) : laneIx (x :: t) id = if (x.f0 == id) = true then 0 else if laneIx t id < 0 then -1 else laneIx t id + 1 := by
  unfold laneIx
  rw [idxP]
theorem filter_miss {l : List S80} {f : Int} (h : ∀ x ∈ l, f < x.f0) : l.filter (fun x => !(x.f0 == f)) = l := by
  rw [List.filter_eq_self]
  intro x hx
  have := h x hx
  simp; omega
theorem without_at : ∀ {l : List S80} {f : Int}, Asc l → 0 ≤ laneIx l f → l.filter (fun x => !(x.f0 == f)) = l.eraseIdx (laneIx l f).toNat
  | [], f, _, h => by simp [laneIx, idxP] at h
  | x :: t, f, ha, h => by
    have ha' := List.pairwise_cons.1 ha
    rw [laneIx_cons] at h ⊢
    by_cases e : x.f0 = f
    · rw [if_pos (by simp [e]), List.filter_cons, if_neg (by simp [e]), filter_miss (fun y hy => by have := ha'.1 y hy; omega)]
      rfl
    · rw [if_neg (by simp [e])] at h ⊢
      by_cases g : laneIx t f < 0
      · rw [if_pos g] at h; omega
      · rw [if_neg g, List.filter_cons, if_pos (by simp [e]), without_at ha'.2 (by omega), show (laneIx t f + 1).toNat = (laneIx t f).toNat + 1 by omega]
        rfl
def mkH : Int → List S52 → List S52
  | _, [] => []
  | x, _ :: t => ⟨x, x + 1⟩ :: mkH (x + 2) t
def mkL : Int → List S80 → List S80
  | _, [] => []
  | x, h :: t => ⟨x, mkH (x + 1) h.f1⟩ :: mkL (x + 1 + 2 * (h.f1.length : Int)) t
def endL : Int → List S80 → Int
  | x, [] => x
  | x, h :: t => endL (x + 1 + 2 * (h.f1.length : Int)) t
theorem endL_le : ∀ (s : List S80) (x : Int), (∀ y ∈ s, (y.f1.length : Int) ≤ 1048576) → x ≤ endL x s ∧ endL x s ≤ x + 2097153 * (s.length : Int)
  | [], x, _ => by rw [endL, List.length_nil]; omega
  | h :: t, x, hh => by
    have h1 := hh h (List.mem_cons_self ..)
    have h2 := endL_le t (x + 1 + 2 * (h.f1.length : Int)) (fun y hy => hh y (List.mem_cons_of_mem _ hy))
    rw [endL, List.length_cons]
    omega
theorem markHeld_l0 : ∀ (s pre : List S52) (x : Int), 0 ≤ x → x + 2 * (s.length : Int) ≤ 100000000000000000 → ((pre ++ s).length : Int) ≤ 1048576 → EvP (fun k => laws_markHeldS.l0 k (pre ++ s) x (pre.length : Int)) (fun r => r = (x + 2 * (s.length : Int), pre ++ mkH x s)) := by
  intro s
  induction s with
  | nil =>
    intro pre x h0 h1 hl
    refine EvP.step ?_
    simp only [laws_markHeldS.l0]
    refine EvP.no (nltm pre) (EvP.ret ?_)
    simp [mkH]
  | cons h t ih =>
    intro pre x h0 h1 hl
    simp only [List.length_cons, List.length_append] at hl h1
    have hlt := ltm pre t h
    have hw : wrap64 ((pre.length : Int) + 1) = (((pre ++ [(⟨x, x + 1⟩ : S52)]).length : Nat) : Int) := lenm pre _ (by omega)
    refine EvP.step ?_
    simp only [laws_markHeldS.l0]
    refine EvP.yes hlt (EvP.yes (by omega) (EvP.bind (EvP.ret rfl) ?_))
    rintro _ rfl
    rw [w64 (x := x + 1) (by omega) (by omega), w64 (x := x + 1 + 1) (by omega) (by omega)]
    simp only [rdm52, setm]
    rw [hw, snocm pre t (⟨x, x + 1⟩ : S52), mkH, snocm pre (mkH (x + 2) t) (⟨x, x + 1⟩ : S52), show x + 1 + 1 = x + 2 by omega, show x + 2 * (((h :: t).length : Nat) : Int) = x + 2 + 2 * (t.length : Int) by rw [List.length_cons]; omega]
    exact ih (pre ++ [(⟨x, x + 1⟩ : S52)]) (x + 2) (by omega) (by omega) (by simp only [List.length_append, List.length_singleton]; omega)
theorem markHeld_ok {s : List S52} {x : Int} (h0 : 0 ≤ x) (h1 : x + 2 * (s.length : Int) ≤ 100000000000000000) (hl : (s.length : Int) ≤ 1048576) : EvP (fun k => laws_markHeldS.f k s x) (fun r => r = (x + 2 * (s.length : Int), mkH x s)) := by
  unfold laws_markHeldS.f
  exact markHeld_l0 s [] x h0 h1 hl
theorem markLane_l0 : ∀ (s pre : List S80) (x : Int), 0 ≤ x → x + 2097153 * (s.length : Int) ≤ 100000000000000000 → ((pre ++ s).length : Int) ≤ 1048576 → (∀ y ∈ s, (y.f1.length : Int) ≤ 1048576) → EvP (fun k => laws_markLaneS.l0 k (pre ++ s) x (pre.length : Int)) (fun r => r = (endL x s, pre ++ mkL x s)) := by
  intro s
  induction s with
  | nil =>
    intro pre x h0 h1 hl hh
    refine EvP.step ?_
    simp only [laws_markLaneS.l0]
    refine EvP.no (nltm pre) (EvP.ret ?_)
    rw [mkL, endL]
  | cons h t ih =>
    intro pre x h0 h1 hl hh
    simp only [List.length_cons, List.length_append] at hl h1
    have hlt := ltm pre t h
    have hh1 := hh h (List.mem_cons_self ..)
    have hw : wrap64 ((pre.length : Int) + 1) = (((pre ++ [(⟨x, mkH (x + 1) h.f1⟩ : S80)]).length : Nat) : Int) := lenm pre _ (by omega)
    refine EvP.step ?_
    simp only [laws_markLaneS.l0]
    refine EvP.yes hlt (EvP.yes (by omega) ?_)
    rw [w64 (x := x + 1) (by omega) (by omega)]
    simp only [rdm80]
    refine EvP.bind (markHeld_ok (by omega) (by omega) hh1) ?_
    rintro _ rfl
    simp only [setm]
    rw [hw, snocm pre t (⟨x, mkH (x + 1) h.f1⟩ : S80), mkL, snocm pre (mkL _ t) (⟨x, mkH (x + 1) h.f1⟩ : S80), endL]
    exact ih (pre ++ [(⟨x, mkH (x + 1) h.f1⟩ : S80)]) _ (by omega) (by omega) (by simp only [List.length_append, List.length_singleton]; omega) (fun y hy => hh y (List.mem_cons_of_mem _ hy))
theorem markBuf_ok (p b a m : Int) (c : Bool) {l : List S80} (hl : (l.length : Int) ≤ 1048576) (hh : ∀ y ∈ l, (y.f1.length : Int) ≤ 1048576) : EvP (fun k => laws_markBuf.f k p b a m c l 1) (fun r => r = (endL 1 l, mkL 1 l)) := by
  unfold laws_markBuf.f laws_markLaneS.f
  refine EvP.bind (markLane_l0 l [] 1 (by omega) (by omega) hl hh) ?_
  rintro _ rfl
  exact EvP.ret rfl
theorem heldHeld_l0 : ∀ (s pre : List S52) (x : Int), 0 ≤ x → x + 2 * (s.length : Int) ≤ 100000000000000000 → ((pre ++ s).length : Int) ≤ 1048576 → EvP (fun k => laws_heldHeldS.l0 k (pre ++ mkH x s) x (pre.length : Int)) (fun r => r = x + 2 * (s.length : Int)) := by
  intro s
  induction s with
  | nil =>
    intro pre x h0 h1 hl
    refine EvP.step ?_
    simp only [laws_heldHeldS.l0, mkH]
    refine EvP.no (nltm pre) (EvP.ret ?_)
    rw [List.length_nil]; simp
  | cons h t ih =>
    intro pre x h0 h1 hl
    simp only [List.length_cons, List.length_append] at hl h1
    have hlt := ltm pre (mkH (x + 2) t) (⟨x, x + 1⟩ : S52)
    have hw : wrap64 ((pre.length : Int) + 1) = (((pre ++ [(⟨x, x + 1⟩ : S52)]).length : Nat) : Int) := lenm pre _ (by omega)
    refine EvP.step ?_
    simp only [laws_heldHeldS.l0, mkH, rdm52]
    refine EvP.yes hlt (EvP.yes (by omega) (EvP.yes (by first | trivial | rfl) ?_))
    rw [w64 (x := x + 1) (by omega) (by omega), w64 (x := x + 1 + 1) (by omega) (by omega)]
    refine EvP.yes (by omega) ?_
    rw [hw, snocm pre (mkH (x + 2) t) (⟨x, x + 1⟩ : S52), show x + 1 + 1 = x + 2 by omega, show x + 2 * (((h :: t).length : Nat) : Int) = x + 2 + 2 * (t.length : Int) by rw [List.length_cons]; omega]
    exact ih (pre ++ [(⟨x, x + 1⟩ : S52)]) (x + 2) (by omega) (by omega) (by simp only [List.length_append, List.length_singleton]; omega)
theorem heldLane_l0 : ∀ (s pre : List S80) (x : Int), 0 ≤ x → x + 2097153 * (s.length : Int) ≤ 100000000000000000 → ((pre ++ s).length : Int) ≤ 1048576 → (∀ y ∈ s, (y.f1.length : Int) ≤ 1048576) → EvP (fun k => laws_heldLaneS.l0 k (pre ++ mkL x s) x (pre.length : Int)) (fun r => r = endL x s) := by
  intro s
  induction s with
  | nil =>
    intro pre x h0 h1 hl hh
    refine EvP.step ?_
    simp only [laws_heldLaneS.l0, mkL]
    refine EvP.no (nltm pre) (EvP.ret ?_)
    rw [endL]
  | cons h t ih =>
    intro pre x h0 h1 hl hh
    simp only [List.length_cons, List.length_append] at hl h1
    have hh1 := hh h (List.mem_cons_self ..)
    have hlt := ltm pre (mkL (x + 1 + 2 * (h.f1.length : Int)) t) (⟨x, mkH (x + 1) h.f1⟩ : S80)
    have hw : wrap64 ((pre.length : Int) + 1) = (((pre ++ [(⟨x, mkH (x + 1) h.f1⟩ : S80)]).length : Nat) : Int) := lenm pre _ (by omega)
    refine EvP.step ?_
    simp only [laws_heldLaneS.l0, mkL, rdm80]
    refine EvP.yes hlt (EvP.yes (by omega) (EvP.yes (by first | trivial | rfl) ?_))
    rw [w64 (x := x + 1) (by omega) (by omega)]
    refine EvP.bind (P := fun r => r = x + 1 + 2 * (h.f1.length : Int)) ?_ ?_
    · unfold laws_heldHeldS.f
      exact heldHeld_l0 h.f1 [] (x + 1) (by omega) (by omega) hh1
    rintro _ rfl
    refine EvP.no (by omega) ?_
    rw [hw, snocm pre (mkL _ t) (⟨x, mkH (x + 1) h.f1⟩ : S80), endL]
    exact ih (pre ++ [(⟨x, mkH (x + 1) h.f1⟩ : S80)]) _ (by omega) (by omega) (by simp only [List.length_append, List.length_singleton]; omega) (fun y hy => hh y (List.mem_cons_of_mem _ hy))
theorem heldBuf_ok (p b a m : Int) (c : Bool) {l : List S80} (hl : (l.length : Int) ≤ 1048576) (hh : ∀ y ∈ l, (y.f1.length : Int) ≤ 1048576) : EvP (fun k => laws_heldBuf.f k p b a m c (mkL 1 l) 1) (fun r => r = endL 1 l) := by
  unfold laws_heldBuf.f laws_heldLaneS.f
  refine EvP.bind (heldLane_l0 l [] 1 (by omega) (by omega) hl hh) ?_
  rintro _ rfl
  have := endL_le l 1 hh
  exact EvP.no (by omega) (EvP.ret rfl)

theorem clearI_l0 {i p b a m : Int} {c : Bool} {L : List S80} (hi0 : 0 ≤ i) (hi1 : i < (L.length : Int)) : ∀ (s pre : List S52) (ids : List Int), ((pre ++ s).length : Int) ≤ 1048576 → (ids.length : Int) + s.length ≤ 3000000 →
    EvP (fun k => impl_BufClear.l0 k i ids (pre ++ s) ((pre ++ s).length : Int) (pre.length : Int) p b a m c L) (fun r => r = (p, b, a, m, c, L.eraseIdx i.toNat, ids ++ idsH s, 0)) := by
  intro s
  induction s with
  | nil =>
    intro pre ids hl ho
    refine EvP.step ?_
    simp only [impl_BufClear.l0]
    refine EvP.no (nltm pre) (EvP.yes hi0 (EvP.yes hi1 (EvP.ret ?_)))
    simp [idsH]
  | cons h t ih =>
    intro pre ids hl ho
    simp only [List.length_cons, List.length_append] at hl ho
    have hlt := ltm pre t h
    have hw : wrap64 ((pre.length : Int) + 1) = (((pre ++ [h]).length : Nat) : Int) := lenm pre h (by omega)
    refine EvP.step ?_
    simp only [impl_BufClear.l0, rdm52]
    refine EvP.yes hlt (EvP.yes (by omega) (EvP.yes hlt (EvP.yes (by omega) ?_)))
    rw [hw, snocm pre t h, show ids ++ idsH (h :: t) = (ids ++ [h.f0]) ++ idsH t by simp [idsH]]
    exact ih (pre ++ [h]) (ids ++ [h.f0]) (by simp only [List.length_append, List.length_singleton]; omega) (by simp only [List.length_append, List.length_singleton]; omega)
theorem clearS_l0 {f p b a m : Int} {c : Bool} {L : List S80} (hL : (L.length : Int) ≤ 1048576) (hh : ∀ x ∈ L, (x.f1.length : Int) ≤ 1048576) : ∀ (s pre : List S52) (ids : List Int), ((pre ++ s).length : Int) ≤ 1048576 → (ids.length : Int) + s.length ≤ 3000000 →
    EvP (fun k => spec_BufClear.l0 k f (pre ++ s) ids (pre.length : Int) p b a m c L) (fun r => r = (p, b, a, m, c, withL f [] true L, ids ++ idsH s, 0)) := by
  intro s
  induction s with
  | nil =>
    intro pre ids hl ho
    refine EvP.step ?_
    simp only [spec_BufClear.l0]
    refine EvP.no (nltm pre) (EvP.bind (with_ok p b a m f c (xs := []) (by simp) hL hh) ?_)
    rintro _ rfl
    refine EvP.ret ?_
    simp [idsH]
  | cons h t ih =>
    intro pre ids hl ho
    simp only [List.length_cons, List.length_append] at hl ho
    have hlt := ltm pre t h
    have hw : wrap64 ((pre.length : Int) + 1) = (((pre ++ [h]).length : Nat) : Int) := lenm pre h (by omega)
    refine EvP.step ?_
    simp only [spec_BufClear.l0, rdm52]
    refine EvP.yes hlt (EvP.yes (by omega) (EvP.yes (by omega) ?_))
    rw [hw, snocm pre t h, show ids ++ idsH (h :: t) = (ids ++ [h.f0]) ++ idsH t by simp [idsH]]
    exact ih (pre ++ [h]) (ids ++ [h.f0]) (by simp only [List.length_append, List.length_singleton]; omega) (by simp only [List.length_append, List.length_singleton]; omega)
theorem clear_both (p b a m : Int) (c : Bool) (f : Int) {l : List S80} (hl : (l.length : Int) ≤ 1048576) (hh : ∀ x ∈ l, (x.f1.length : Int) ≤ 1048576) : ∃ R : Int × Int × Int × Int × Bool × List S80 × List Int × Int,
    EvP (fun k => spec_BufClear.f k p b a m c l f) (fun r => r = R) ∧ EvP (fun k => impl_BufClear.f k p b a m c l f) (fun r => r = R) ∧ (R.2.2.2.2.2.1.length : Int) ≤ 1048576 ∧ (∀ x ∈ R.2.2.2.2.2.1, (x.f1.length : Int) ≤ 1048576) ∧ (R.2.2.2.2.2.2.1.length : Int) ≤ 1048576 := by
  have hin := laneIx_in l f _ rfl
  by_cases hB : BufP p b a m l
  · by_cases hx : laneIx l f < 0
    · have e' : laneH l f = [] := if_pos hx
      refine ⟨(0, 0, 0, 0, false, [], [], 6), ?_, ?_, by simp, by simp, by simp⟩
      · unfold spec_BufClear.f
        refine EvP.bind (specBuf_ok p b a m c hh) (fun t ht => EvP.yes (ht.2 hB) ?_)
        refine EvP.bind (specLane_ok p b a m f c hl) ?_
        rintro _ rfl
        rw [e']
        exact EvP.yes rfl (EvP.ret rfl)
      · unfold impl_BufClear.f
        refine EvP.bind (implLane_ok p b a m f c hl) ?_
        rintro _ rfl
        exact EvP.bind (implBuf_ok p b a m c hh) (fun t ht => EvP.yes (ht.2 hB) (EvP.yes hx (EvP.ret rfl)))
    · have e' : laneH l f = (rd_T80 l (laneIx l f)).f1 := if_neg hx
      have hmem := mem80 (l := l) (i := laneIx l f) (by omega) hin.2
      have hlen := hh _ hmem
      have h1 := (hB.2.2.1 (laneIx l f) (by omega) hin.2).2.2.1
      refine ⟨(p, b, a, m, c, l.eraseIdx (laneIx l f).toNat, idsH (rd_T80 l (laneIx l f)).f1, 0), ?_, ?_, ?_, fun x hx => hh x (List.mem_of_mem_eraseIdx hx), ?_⟩
      · unfold spec_BufClear.f
        refine EvP.bind (specBuf_ok p b a m c hh) (fun t ht => EvP.yes (ht.2 hB) ?_)
        refine EvP.bind (specLane_ok p b a m f c hl) ?_
        rintro _ rfl
        rw [e']
        refine EvP.no (by omega) ?_
        have := clearS_l0 (f := f) (p := p) (b := b) (a := a) (m := m) (c := c) hl hh (rd_T80 l (laneIx l f)).f1 [] [] hlen (by simp only [List.length_nil]; omega)
        rw [withL_in, without_at (asc_of hB.2.2.1) (by omega)] at this
        exact this
      · unfold impl_BufClear.f
        refine EvP.bind (implLane_ok p b a m f c hl) ?_
        rintro _ rfl
        refine EvP.bind (implBuf_ok p b a m c hh) (fun t ht => EvP.yes (ht.2 hB) (EvP.no hx ?_))
        refine EvP.bind (copy_ok p b a m c hl hh) ?_
        rintro _ rfl
        refine EvP.yes (by omega) (EvP.yes hin.2 ?_)
        exact clearI_l0 (p := p) (b := b) (a := a) (m := m) (c := c) (by omega) hin.2 (rd_T80 l (laneIx l f)).f1 [] [] hlen (by simp only [List.length_nil]; omega)
      · have := List.length_eraseIdx_le l (laneIx l f).toNat
        show (((l.eraseIdx (laneIx l f).toNat).length : Nat) : Int) ≤ 1048576
        omega
      · show (((idsH (rd_T80 l (laneIx l f)).f1).length : Nat) : Int) ≤ 1048576
        unfold idsH
        rw [List.length_map]; exact hlen
  · refine ⟨(0, 0, 0, 0, false, [], [], 1), ?_, ?_, by simp, by simp, by simp⟩
    · unfold spec_BufClear.f
      exact EvP.bind (specBuf_ok p b a m c hh) (fun t ht => EvP.no (fun g => hB (ht.1 g)) (EvP.ret rfl))
    · unfold impl_BufClear.f
      refine EvP.bind (implLane_ok p b a m f c hl) ?_
      rintro _ rfl
      exact EvP.bind (implBuf_ok p b a m c hh) (fun t ht => EvP.no (fun g => hB (ht.1 g)) (EvP.ret rfl))
theorem eqI_same {l : List Int} (hl : (l.length : Int) ≤ 1048576) : EvP (fun k => laws_eqIntS.f k l l) (fun r => r = true) := (eqIntS_ok (a := l) (b := l) (by omega)).mono (fun r h => by rw [h]; simp)
theorem FnExactBufClear : laws_FnExactBufClear.Pure := by
  intro p b a m c l f hw hf
  obtain ⟨_, hlm, hl⟩ := hw
  have hm : l.length ≤ 9223372036854775807 := hlm
  refine EvP.rounds ?_
  unfold laws_FnExactBufClear.f
  refine EvP.bind (szBuf_ok p b a m c l hm (fun x hx => (hl x hx).2.1)) ?_
  intro z hz
  refine EvP.ite (fun _ => EvP.ret rfl) (fun hz0 => ?_)
  have hs : (l.length : Int) ≤ 1048576 ∧ ∀ x ∈ l, (x.f1.length : Int) ≤ 1048576 := by
    rcases hz with h | h
    · omega
    · exact h.2
  have hh : ∀ x ∈ l.map laneOf, (x.f1.length : Int) ≤ 1048576 := fun x hx => by
    obtain ⟨y, hy, rfl⟩ := List.mem_map.1 hx
    have := hs.2 y hy
    unfold laneOf
    rw [List.length_map]; exact this
  have hL : ((l.map laneOf).length : Int) ≤ 1048576 := by rw [List.length_map]; exact hs.1
  have toB := toBuf_ok (p := p) (b := b) (a := a) (m := m) (c := c) (l := l) (by omega) (fun x hx => by have := hs.2 x hx; omega)
  generalize l.map laneOf = L at *
  obtain ⟨⟨r1, r2, r3, r4, r5, rl, ri, rc⟩, hsp, him, h1, h2, h3⟩ := clear_both p b a m c f (l := L) hL hh
  dsimp only at h1 h2 h3
  have eqB := eqBuf_same r1 r2 r3 r4 r5 (l := rl) (by omega) (fun x hx => by have := h2 x hx; omega)
  have eqX := eqBuf_same p b a m c (l := L) (by omega) (fun x hx => by have := hh x hx; omega)
  have eqI := eqI_same h3
  have e1 := endL_le L 1 hh
  have e2 := endL_le rl 1 h2
  have mI := markIntS_ok (l := ri) (k0 := endL 1 rl) (by omega) (by omega)
  have dI := heldIntS_ok (n := ri.length) (k0 := endL 1 rl) (by omega) (by omega)
  refine EvP.bind toB ?_
  rintro _ rfl
  refine EvP.bind hsp ?_
  rintro _ rfl
  refine EvP.bind toB ?_
  rintro _ rfl
  refine EvP.bind him ?_
  rintro _ rfl
  dsimp only
  refine EvP.bind eqB ?_
  rintro _ rfl
  refine EvP.yes rfl (EvP.bind eqI ?_)
  rintro _ rfl
  refine EvP.yes rfl (EvP.step ?_)
  simp only [laws_FnExactBufClear.j0]
  refine EvP.no (by simp) (EvP.bind toB ?_)
  rintro _ rfl
  refine EvP.bind eqX ?_
  rintro _ rfl
  refine EvP.yes rfl (EvP.bind (markBuf_ok p b a m c hL hh) ?_)
  rintro _ rfl
  refine EvP.no (by dsimp only; omega) (EvP.bind eqB ?_)
  rintro _ rfl
  refine EvP.yes rfl (EvP.bind eqI ?_)
  rintro _ rfl
  refine EvP.yes rfl (EvP.step ?_)
  simp only [laws_FnExactBufClear.j1]
  refine EvP.no (by simp) (EvP.bind (markBuf_ok r1 r2 r3 r4 r5 h1 h2) ?_)
  rintro _ rfl
  refine EvP.bind mI ?_
  rintro _ rfl
  dsimp only
  refine EvP.bind (heldBuf_ok r1 r2 r3 r4 r5 h1 h2) ?_
  rintro _ rfl
  refine EvP.no (by omega) (EvP.bind dI ?_)
  rintro _ rfl
  refine EvP.no (by omega) (EvP.yes rfl (EvP.bind toB ?_))
  rintro _ rfl
  refine EvP.bind him ?_
  rintro _ rfl
  dsimp only
  refine EvP.bind eqB ?_
  rintro _ rfl
  refine EvP.yes rfl (EvP.bind eqI ?_)
  rintro _ rfl
  refine EvP.yes rfl (EvP.step ?_)
  simp only [laws_FnExactBufClear.j2]
  refine EvP.no (by simp) (EvP.bind (heldBuf_ok r1 r2 r3 r4 r5 h1 h2) ?_)
  rintro _ rfl
  refine EvP.no (by omega) (EvP.bind dI ?_)
  rintro _ rfl
  exact EvP.no (by omega) (EvP.yes rfl (EvP.ret rfl))

end Go.Proofs.Ytnklakficjpmoaa.Pure
