/- The program's BufLaneOf and the reference's answer alike, for every buffer and stream. No condition. -/
import Derived.Test.YtnklakficjpmoaaPFnExactBufLaneOfx
import Derived.Laws.BitsLemmas
namespace Go.Proofs.Ytnklakficjpmoaa.Pure
open Go.RowKit Go.Proofs.Ytnklakficjpmoaa.PFnExactBufLaneOf Go.Proofs.YtnklakficjpmoaaW.PrintWords Go.Proofs.YtnklakficjpmoaaW.PrintLast Go.Proofs.YtnklakficjpmoaaW.PrintMore
set_option linter.unusedVariables false
set_option linter.unusedSimpArgs false

def EvP {α : Type} (g : Nat → Option α) (P : α → Prop) : Prop := ∃ r, Ev g r ∧ P r
theorem EvP.ret {α : Type} {r : α} {P : α → Prop} (h : P r) : EvP (fun _ => some r) P := ⟨r, Ev.now r, h⟩
theorem EvP.bind {α β : Type} {g : Nat → Option α} {f : Nat → α → Option β} {P : α → Prop} {Q : β → Prop} (h : EvP g P) (k : ∀ r, P r → EvP (fun n => f n r) Q) : EvP (fun n => (g n).bind (f n)) Q := by
  obtain ⟨r, hr, hp⟩ := h
  obtain ⟨q, hq, hQ⟩ := k r hp
  exact ⟨q, Ev.bind hr hq, hQ⟩
theorem EvP.ite {α : Type} {c : Prop} [Decidable c] {a b : Nat → Option α} {Q : α → Prop} (h : c → EvP a Q) (h' : ¬ c → EvP b Q) : EvP (fun n => if c then a n else b n) Q := by
  by_cases hc : c
  · simp only [if_pos hc]; exact h hc
  · simp only [if_neg hc]; exact h' hc
theorem EvP.yes {α : Type} {c : Prop} [Decidable c] {a b : Nat → Option α} {Q : α → Prop} (hc : c) (h : EvP a Q) : EvP (fun n => if c then a n else b n) Q := by
  simp only [if_pos hc]; exact h
theorem EvP.no {α : Type} {c : Prop} [Decidable c] {a b : Nat → Option α} {Q : α → Prop} (hc : ¬ c) (h : EvP b Q) : EvP (fun n => if c then a n else b n) Q := by
  simp only [if_neg hc]; exact h
theorem EvP.step {α : Type} {g : Nat → Option α} {Q : α → Prop} (h : EvP (fun k => g (k + 1)) Q) : EvP g Q := by
  obtain ⟨r, hr, hq⟩ := h
  exact ⟨r, Ev.step (fun _ => rfl) hr, hq⟩
theorem EvP.mono {α : Type} {g : Nat → Option α} {P Q : α → Prop} (h : EvP g P) (hpq : ∀ r, P r → Q r) : EvP g Q := by
  obtain ⟨r, hr, hp⟩ := h
  exact ⟨r, hr, hpq r hp⟩
theorem EvP.rounds {α : Type} {g : Nat → Option α} {r : α} (h : EvP g (fun x => x = r)) : ∃ k, g k = some r := by
  obtain ⟨q, hq, rfl⟩ := h
  exact hq.rounds
theorem w64 {x : Int} (h0 : -9223372036854775808 ≤ x) (h1 : x ≤ 9223372036854775807) : wrap64 x = x := by unfold wrap64; omega
def heldOf (x : S42) : S52 := ⟨x.f0, x.f1⟩
def laneOf (x : S133) : S80 := ⟨x.f0, x.f1.map heldOf⟩
theorem rd52 {l : List S52} {i : Int} (h0 : 0 ≤ i) (h1 : i < (l.length : Int)) : l[i.toNat]? = some (rd_T52 l i) := by
  unfold rd_T52
  rw [List.getD_eq_getElem?_getD, List.getElem?_eq_getElem (by omega)]; rfl
theorem rd42 {l : List S42} {i : Int} (h0 : 0 ≤ i) (h1 : i < (l.length : Int)) : l[i.toNat]? = some (rd_T42 l i) := by
  unfold rd_T42
  rw [List.getD_eq_getElem?_getD, List.getElem?_eq_getElem (by omega)]; rfl
theorem rd80 {l : List S80} {i : Int} (h0 : 0 ≤ i) (h1 : i < (l.length : Int)) : l[i.toNat]? = some (rd_T80 l i) := by
  unfold rd_T80
  rw [List.getD_eq_getElem?_getD, List.getElem?_eq_getElem (by omega)]; rfl
theorem rd133 {l : List S133} {i : Int} (h0 : 0 ≤ i) (h1 : i < (l.length : Int)) : l[i.toNat]? = some (rd_T133 l i) := by
  unfold rd_T133
  rw [List.getD_eq_getElem?_getD, List.getElem?_eq_getElem (by omega)]; rfl
theorem mem80 {l : List S80} {i : Int} (h0 : 0 ≤ i) (h1 : i < (l.length : Int)) : rd_T80 l i ∈ l := List.mem_of_getElem? (rd80 h0 h1)
theorem mem133 {l : List S133} {i : Int} (h0 : 0 ≤ i) (h1 : i < (l.length : Int)) : rd_T133 l i ∈ l := List.mem_of_getElem? (rd133 h0 h1)
theorem drop80 {l : List S80} {i : Int} (h0 : 0 ≤ i) (h1 : i < (l.length : Int)) : l.drop i.toNat = rd_T80 l i :: l.drop (i + 1).toNat := by
  have h2 := rd80 h0 h1
  rw [List.getElem?_eq_getElem (by omega)] at h2
  rw [List.drop_eq_getElem_cons (by omega), Option.some.inj h2, show (i + 1).toNat = i.toNat + 1 by omega]
theorem drop52 {l : List S52} {i : Int} (h0 : 0 ≤ i) (h1 : i < (l.length : Int)) : l.drop i.toNat = rd_T52 l i :: l.drop (i + 1).toNat := by
  have h2 := rd52 h0 h1
  rw [List.getElem?_eq_getElem (by omega)] at h2
  rw [List.drop_eq_getElem_cons (by omega), Option.some.inj h2, show (i + 1).toNat = i.toNat + 1 by omega]
theorem take52 {l : List S52} {i : Int} (h0 : 0 ≤ i) (h1 : i < (l.length : Int)) : l.take (i + 1).toNat = l.take i.toNat ++ [rd_T52 l i] := by
  have h2 := rd52 h0 h1
  rw [List.getElem?_eq_getElem (by omega)] at h2
  rw [show (i + 1).toNat = i.toNat + 1 by omega, List.take_succ_eq_append_getElem (by omega), Option.some.inj h2]
theorem toHeld_ok (a b : Int) : EvP (fun _ => laws_toHeld.f a b) (fun r => r = (a, b)) := EvP.ret rfl
theorem toHeldS_l0 {l : List S42} (hl : (l.length : Int) ≤ 100000000) : ∀ (d : Nat) (out : List S52) (i : Int), 0 ≤ i → i + d = (l.length : Int) → out.length = l.length → (∀ j : Nat, (j : Int) < i → out[j]? = (l[j]?).map heldOf) → EvP (fun k => laws_toHeldS.l0 k l out i) (fun r => r = l.map heldOf)
  | 0, out, i, h0, hi, ho, hv => by
    refine EvP.step ?_
    simp only [laws_toHeldS.l0]
    refine EvP.no (by omega) (EvP.ret ?_)
    apply List.ext_getElem?
    intro j
    rw [List.getElem?_map]
    by_cases hj : j < l.length
    · exact hv j (by omega)
    · rw [List.getElem?_eq_none (by omega), List.getElem?_eq_none (by omega)]; rfl
  | d + 1, out, i, h0, hi, ho, hv => by
    refine EvP.step ?_
    simp only [laws_toHeldS.l0]
    refine EvP.yes (by omega) (EvP.yes h0 (EvP.bind (toHeld_ok _ _) ?_))
    rintro _ rfl
    refine EvP.yes (by omega) ?_
    rw [w64 (by omega) (by omega)]
    refine toHeldS_l0 hl d _ (i + 1) (by omega) (by omega) (by rw [List.length_set]; exact ho) (fun j hj => ?_)
    rw [List.getElem?_set]
    by_cases e : i.toNat = j
    · rw [if_pos e, if_pos (by omega), ← e, rd42 h0 (by omega)]; rfl
    · rw [if_neg e]; exact hv j (by omega)
theorem toHeldS_ok {l : List S42} (hl : (l.length : Int) ≤ 100000000) : EvP (fun k => laws_toHeldS.f k l) (fun r => r = l.map heldOf) := by
  unfold laws_toHeldS.f
  exact EvP.yes (by omega) (EvP.yes (by omega) (toHeldS_l0 hl l.length _ 0 (by omega) (by omega) (by simp) (fun j hj => by omega)))
theorem toLaneS_l0 {l : List S133} (hl : (l.length : Int) ≤ 100000000) (hh : ∀ x ∈ l, (x.f1.length : Int) ≤ 100000000) : ∀ (d : Nat) (out : List S80) (i : Int), 0 ≤ i → i + d = (l.length : Int) → out.length = l.length → (∀ j : Nat, (j : Int) < i → out[j]? = (l[j]?).map laneOf) → EvP (fun k => laws_toLaneS.l0 k l out i) (fun r => r = l.map laneOf)
  | 0, out, i, h0, hi, ho, hv => by
    refine EvP.step ?_
    simp only [laws_toLaneS.l0]
    refine EvP.no (by omega) (EvP.ret ?_)
    apply List.ext_getElem?
    intro j
    rw [List.getElem?_map]
    by_cases hj : j < l.length
    · exact hv j (by omega)
    · rw [List.getElem?_eq_none (by omega), List.getElem?_eq_none (by omega)]; rfl
  | d + 1, out, i, h0, hi, ho, hv => by
    refine EvP.step ?_
    simp only [laws_toLaneS.l0]
    refine EvP.yes (by omega) (EvP.yes h0 (EvP.bind (P := fun r => r = ((rd_T133 l i).f0, (rd_T133 l i).f1.map heldOf)) ?_ ?_))
    · unfold laws_toLane.f
      refine EvP.bind (toHeldS_ok (hh _ (mem133 h0 (by omega)))) ?_
      rintro _ rfl
      exact EvP.ret rfl
    rintro _ rfl
    refine EvP.yes (by omega) ?_
    rw [w64 (by omega) (by omega)]
    refine toLaneS_l0 hl hh d _ (i + 1) (by omega) (by omega) (by rw [List.length_set]; exact ho) (fun j hj => ?_)
    rw [List.getElem?_set]
    by_cases e : i.toNat = j
    · rw [if_pos e, if_pos (by omega), ← e, rd133 h0 (by omega)]; rfl
    · rw [if_neg e]; exact hv j (by omega)
theorem toBuf_ok {p b a m : Int} {c : Bool} {l : List S133} (hl : (l.length : Int) ≤ 100000000) (hh : ∀ x ∈ l, (x.f1.length : Int) ≤ 100000000) : EvP (fun k => laws_toBuf.f k p b a m c l) (fun r => r = (p, b, a, m, c, l.map laneOf)) := by
  unfold laws_toBuf.f
  refine EvP.bind (P := fun r => r = (p, b, a, m, c)) (EvP.ret rfl) ?_
  rintro _ rfl
  refine EvP.bind (P := fun r => r = l.map laneOf) ?_ ?_
  · unfold laws_toLaneS.f
    exact EvP.yes (by omega) (EvP.yes (by omega) (toLaneS_l0 hl hh l.length _ 0 (by omega) (by omega) (by simp) (fun j hj => by omega)))
  rintro _ rfl
  exact EvP.ret rfl
theorem szLaneS_l0 {l : List S133} (hm : ∀ x ∈ l, x.f1.length ≤ 9223372036854775807) (hl : (l.length : Int) ≤ 1048576) : ∀ (d : Nat) (z i : Int), 0 ≤ i → i + d = (l.length : Int) → 0 ≤ z → z ≤ 1048576 →
    EvP (fun k => laws_szLaneS.l0 k l z i) (fun r => r = -1 ∨ (0 ≤ r ∧ ∀ j : Int, i ≤ j → j < (l.length : Int) → ((rd_T133 l j).f1.length : Int) ≤ 1048576))
  | 0, z, i, h0, hi, z0, z1 => by
    refine EvP.step ?_
    simp only [laws_szLaneS.l0]
    exact EvP.no (by omega) (EvP.ret (.inr ⟨z0, fun j hj hj2 => by omega⟩))
  | d + 1, z, i, h0, hi, z0, z1 => by
    have hx := hm _ (mem133 (l := l) (i := i) h0 (by omega))
    refine EvP.step ?_
    simp only [laws_szLaneS.l0]
    refine EvP.yes (by omega) (EvP.yes h0 ?_)
    have e : wrap64 (z - ((rd_T133 l i).f1.length : Int)) = z - ((rd_T133 l i).f1.length : Int) := w64 (by omega) (by omega)
    refine EvP.bind (P := fun r => r = -1 ∨ (0 ≤ r ∧ r ≤ 1048576 ∧ ((rd_T133 l i).f1.length : Int) ≤ 1048576)) ?_ ?_
    · unfold laws_szLane.f laws_szHeldS.f
      rw [e]
      refine EvP.bind (P := fun r => r = -1 ∨ (0 ≤ r ∧ r ≤ 1048576 ∧ ((rd_T133 l i).f1.length : Int) ≤ 1048576)) ?_ ?_
      · exact EvP.ite (fun _ => EvP.ret (.inl rfl)) (fun _ => EvP.ret (.inr ⟨by omega, by omega, by omega⟩))
      · rintro r hr
        exact EvP.ite (fun _ => EvP.ret (.inl rfl)) (fun _ => EvP.ret (.inr (by omega)))
    rintro r hr
    refine EvP.ite (fun _ => EvP.ret (.inl rfl)) (fun hn => ?_)
    rw [w64 (x := i + 1) (by omega) (by omega)]
    refine (szLaneS_l0 hm hl d r (i + 1) (by omega) (by omega) (by omega) (by omega)).mono ?_
    rintro q (h | ⟨h, hj⟩)
    · exact .inl h
    · refine .inr ⟨h, fun j h1 h2 => ?_⟩
      by_cases e : j = i
      · subst e; omega
      · exact hj j (by omega) h2
theorem szBuf_ok (p b a m : Int) (c : Bool) (l : List S133) (hl : l.length ≤ 9223372036854775807) (hm : ∀ x ∈ l, x.f1.length ≤ 9223372036854775807) : EvP (fun k => laws_szBuf.f k p b a m c l 1048576) (fun r => r = -1 ∨ (0 ≤ r ∧ (l.length : Int) ≤ 1048576 ∧ ∀ x ∈ l, (x.f1.length : Int) ≤ 1048576)) := by
  unfold laws_szBuf.f laws_szLaneS.f
  have e : wrap64 (1048576 - (l.length : Int)) = 1048576 - (l.length : Int) := w64 (by omega) (by omega)
  rw [e]
  refine EvP.bind (P := fun r => r = -1 ∨ (0 ≤ r ∧ (l.length : Int) ≤ 1048576 ∧ ∀ x ∈ l, (x.f1.length : Int) ≤ 1048576)) ?_ ?_
  · refine EvP.ite (fun _ => EvP.ret (.inl rfl)) (fun hn => ?_)
    refine (szLaneS_l0 hm (by omega) l.length _ 0 (by omega) (by omega) (by omega) (by omega)).mono ?_
    rintro q (h | ⟨h, hj⟩)
    · exact .inl h
    · refine .inr ⟨h, by omega, fun x hx => ?_⟩
      obtain ⟨n, hn1, hn2⟩ := List.getElem_of_mem hx
      have h1 := hj n (by omega) (by omega)
      have h2 := rd133 (l := l) (i := n) (by omega) (by omega)
      rw [show ((n : Int)).toNat = n by omega, List.getElem?_eq_getElem hn1, hn2] at h2
      rw [← Option.some.inj h2] at h1
      exact h1
  · rintro r hr
    refine EvP.ite (fun _ => EvP.ret (.inl rfl)) (fun hn => EvP.ret ?_)
    rcases hr with h | h
    · omega
    · exact .inr h
theorem eqHeldS_same {l : List S52} (hl : (l.length : Int) ≤ 100000000) : EvP (fun k => laws_eqHeldS.f k l l) (fun r => r = true) := by
  have go : ∀ (d : Nat) (i : Int), 0 ≤ i → i + d = (l.length : Int) → EvP (fun k => laws_eqHeldS.l0 k l l i) (fun r => r = true) := by
    intro d
    induction d with
    | zero =>
      intro i h0 hi
      refine EvP.step ?_
      simp only [laws_eqHeldS.l0]
      exact EvP.no (by omega) (EvP.ret rfl)
    | succ d ih =>
      intro i h0 hi
      refine EvP.step ?_
      simp only [laws_eqHeldS.l0]
      refine EvP.yes (by omega) (EvP.yes h0 (EvP.yes (by omega) (EvP.bind (P := fun r => r = true) (EvP.yes rfl (EvP.yes rfl (EvP.ret rfl))) ?_)))
      rintro _ rfl
      rw [w64 (by omega) (by omega)]
      exact EvP.yes rfl (ih (i + 1) (by omega) (by omega))
  unfold laws_eqHeldS.f
  exact EvP.yes rfl (go l.length 0 (by omega) (by omega))
theorem eqBuf_same (p b a m : Int) (c : Bool) {l : List S80} (hl : (l.length : Int) ≤ 100000000) (hh : ∀ x ∈ l, (x.f1.length : Int) ≤ 100000000) : EvP (fun k => laws_eqBuf.f k p b a m c l p b a m c l) (fun r => r = true) := by
  have go : ∀ (d : Nat) (i : Int), 0 ≤ i → i + d = (l.length : Int) → EvP (fun k => laws_eqLaneS.l0 k l l i) (fun r => r = true) := by
    intro d
    induction d with
    | zero =>
      intro i h0 hi
      refine EvP.step ?_
      simp only [laws_eqLaneS.l0]
      exact EvP.no (by omega) (EvP.ret rfl)
    | succ d ih =>
      intro i h0 hi
      refine EvP.step ?_
      simp only [laws_eqLaneS.l0]
      refine EvP.yes (by omega) (EvP.yes h0 (EvP.yes (by omega) (EvP.bind (P := fun r => r = true) ?_ ?_)))
      · unfold laws_eqLane.f
        refine EvP.yes rfl (EvP.bind (eqHeldS_same (hh _ (mem80 h0 (by omega)))) ?_)
        rintro _ rfl
        exact EvP.yes rfl (EvP.ret rfl)
      rintro _ rfl
      rw [w64 (by omega) (by omega)]
      exact EvP.yes rfl (ih (i + 1) (by omega) (by omega))
  unfold laws_eqBuf.f laws_eqLimits.f
  refine EvP.bind (P := fun r => r = true) (EvP.yes rfl (EvP.yes rfl (EvP.yes rfl (EvP.yes rfl (EvP.no (by simp) (EvP.ret rfl)))))) ?_
  rintro _ rfl
  refine EvP.yes rfl (EvP.bind (P := fun r => r = true) ?_ ?_)
  · unfold laws_eqLaneS.f
    exact EvP.yes rfl (go l.length 0 (by omega) (by omega))
  rintro _ rfl
  exact EvP.yes rfl (EvP.ret rfl)
def HeldP (h : S52) : Prop := (0 ≤ h.f0 ∧ h.f0 ≤ 1000000000000) ∧ 1 ≤ h.f1 ∧ h.f1 ≤ 1600
def LimP (p b a m : Int) : Prop := (1 ≤ p ∧ p ≤ 64) ∧ (1 ≤ b ∧ b ≤ 100000) ∧ (1 ≤ a ∧ a ≤ 1000000) ∧ 0 ≤ m ∧ m ≤ 100000
def sumH (xs : List S52) : Int := (xs.map (fun h => h.f1)).sum
def hsum (xs : List S52) : Int := wrap64 (sumH xs)
def allH (l : List S80) : List S52 := l.flatMap (fun x => x.f1)
def idsH (xs : List S52) : List Int := xs.map (fun h => h.f0)
def Fresh : List Int → List Int → Prop
  | _, [] => True
  | seen, x :: xs => x ∉ seen ∧ Fresh (seen ++ [x]) xs
def LaneAt (p b : Int) (l : List S80) (i : Int) : Prop :=
  (0 ≤ (rd_T80 l i).f0 ∧ (rd_T80 l i).f0 ≤ 9999) ∧ (0 < i → (rd_T80 l (i - 1)).f0 < (rd_T80 l i).f0) ∧ 1 ≤ ((rd_T80 l i).f1.length : Int) ∧ ((rd_T80 l i).f1.length : Int) ≤ p ∧ (∀ h ∈ (rd_T80 l i).f1, HeldP h) ∧ hsum (rd_T80 l i).f1 ≤ b
def LanesFrom (p b : Int) (l : List S80) (i : Int) : Prop := ∀ j : Int, i ≤ j → j < (l.length : Int) → LaneAt p b l j
theorem LanesFrom.cons {p b i : Int} {l : List S80} (h1 : i < (l.length : Int)) : LanesFrom p b l i ↔ LaneAt p b l i ∧ LanesFrom p b l (i + 1) := by
  constructor
  · exact fun h => ⟨h i (by omega) h1, fun j hj hl => h j (by omega) hl⟩
  · rintro ⟨h, hs⟩ j hj hl
    by_cases e : j = i
    · subst e; exact h
    · exact hs j (by omega) hl
theorem LanesFrom.nil {p b i : Int} {l : List S80} (h1 : (l.length : Int) ≤ i) : LanesFrom p b l i := fun j hj hl => by omega
theorem w_w (x y : Int) : wrap64 (wrap64 x + y) = wrap64 (x + y) := by unfold wrap64; omega
theorem w_w2 (x y : Int) : wrap64 (x + wrap64 y) = wrap64 (x + y) := by unfold wrap64; omega
theorem sum_drop {xs : List S52} {i : Int} (h0 : 0 ≤ i) (h1 : i < (xs.length : Int)) : sumH (xs.drop i.toNat) = (rd_T52 xs i).f1 + sumH (xs.drop (i + 1).toNat) := by
  rw [drop52 h0 h1]; unfold sumH; simp
theorem sum_app (xs ys : List S52) : sumH (xs ++ ys) = sumH xs + sumH ys := by unfold sumH; simp
theorem specBytes_l0 {xs : List S52} (hl : (xs.length : Int) ≤ 1000000000) : ∀ (d : Nat) (z i : Int), 0 ≤ i → i + d = (xs.length : Int) → EvP (fun k => spec_l17Bytes.l0 k xs (wrap64 z) i) (fun r => r = wrap64 (z + sumH (xs.drop i.toNat)))
  | 0, z, i, h0, hi => by
    refine EvP.step ?_
    simp only [spec_l17Bytes.l0]
    refine EvP.no (by omega) (EvP.ret ?_)
    rw [List.drop_of_length_le (by omega)]; simp [sumH]
  | d + 1, z, i, h0, hi => by
    refine EvP.step ?_
    simp only [spec_l17Bytes.l0]
    refine EvP.yes (by omega) (EvP.yes h0 ?_)
    rw [w64 (x := i + 1) (by omega) (by omega), w_w]
    refine (specBytes_l0 hl d (z + (rd_T52 xs i).f1) (i + 1) (by omega) (by omega)).mono ?_
    rintro _ rfl
    rw [sum_drop h0 (by omega), Int.add_assoc]
theorem specBytes_ok {xs : List S52} (hl : (xs.length : Int) ≤ 1000000000) : EvP (fun k => spec_l17Bytes.f k xs) (fun r => r = hsum xs) := by
  unfold spec_l17Bytes.f
  have h := specBytes_l0 hl xs.length 0 0 (by omega) (by omega)
  rw [show wrap64 0 = 0 from w64 (by omega) (by omega)] at h
  refine h.mono ?_
  rintro _ rfl
  unfold hsum
  simp
theorem implBytes_l0 {xs : List S52} (hl : (xs.length : Int) ≤ 1000000000) : ∀ (d : Nat) (z i : Int), 0 ≤ i → i + d = (xs.length : Int) → EvP (fun k => impl_Lane_bytes.l0 k (wrap64 z) xs (xs.length : Int) i) (fun r => r = wrap64 (z + sumH (xs.drop i.toNat)))
  | 0, z, i, h0, hi => by
    refine EvP.step ?_
    simp only [impl_Lane_bytes.l0]
    refine EvP.no (by omega) (EvP.ret ?_)
    rw [List.drop_of_length_le (by omega)]; simp [sumH]
  | d + 1, z, i, h0, hi => by
    refine EvP.step ?_
    simp only [impl_Lane_bytes.l0]
    refine EvP.yes (by omega) (EvP.yes h0 (EvP.yes (by omega) ?_))
    rw [w64 (x := i + 1) (by omega) (by omega), w_w]
    refine (implBytes_l0 hl d (z + (rd_T52 xs i).f1) (i + 1) (by omega) (by omega)).mono ?_
    rintro _ rfl
    rw [sum_drop h0 (by omega), Int.add_assoc]
theorem implBytes_ok (f : Int) {xs : List S52} (hl : (xs.length : Int) ≤ 1000000000) : EvP (fun k => impl_Lane_bytes.f k f xs) (fun r => r = hsum xs) := by
  unfold impl_Lane_bytes.f
  have h := implBytes_l0 hl xs.length 0 0 (by omega) (by omega)
  rw [show wrap64 0 = 0 from w64 (by omega) (by omega)] at h
  refine h.mono ?_
  rintro _ rfl
  unfold hsum
  simp
theorem allH_drop {l : List S80} {i : Int} (h0 : 0 ≤ i) (h1 : i < (l.length : Int)) : allH (l.drop i.toNat) = (rd_T80 l i).f1 ++ allH (l.drop (i + 1).toNat) := by
  rw [drop80 h0 h1]; unfold allH; simp
theorem allH_take {l : List S80} {i : Int} (h0 : 0 ≤ i) (h1 : i < (l.length : Int)) : allH (l.take (i + 1).toNat) = allH (l.take i.toNat) ++ (rd_T80 l i).f1 := by
  have h2 := rd80 h0 h1
  rw [List.getElem?_eq_getElem (by omega)] at h2
  rw [show (i + 1).toNat = i.toNat + 1 by omega, List.take_succ_eq_append_getElem (by omega), Option.some.inj h2]
  unfold allH
  rw [List.flatMap_append]; simp
theorem allH_len {l : List S80} (hh : ∀ x ∈ l, (x.f1.length : Int) ≤ 1048576) : ((allH l).length : Int) ≤ 1048576 * (l.length : Int) := by
  induction l with
  | nil => simp [allH]
  | cons x l ih =>
    have h1 := ih (fun y hy => hh y (by simp [hy]))
    have h2 := hh x (by simp)
    have e : allH (x :: l) = x.f1 ++ allH l := by unfold allH; simp
    rw [e, List.length_append, List.length_cons]
    omega
theorem bufBytes_l0 {l : List S80} (hl : (l.length : Int) ≤ 1048576) (hh : ∀ x ∈ l, (x.f1.length : Int) ≤ 1048576) : ∀ (d : Nat) (z i : Int), 0 ≤ i → i + d = (l.length : Int) → EvP (fun k => impl_Buf_bytes.l0 k (wrap64 z) l (l.length : Int) i) (fun r => r = wrap64 (z + sumH (allH (l.drop i.toNat))))
  | 0, z, i, h0, hi => by
    refine EvP.step ?_
    simp only [impl_Buf_bytes.l0]
    refine EvP.no (by omega) (EvP.ret ?_)
    rw [List.drop_of_length_le (by omega)]; simp [sumH, allH]
  | d + 1, z, i, h0, hi => by
    have hx := hh _ (mem80 (l := l) (i := i) h0 (by omega))
    refine EvP.step ?_
    simp only [impl_Buf_bytes.l0]
    refine EvP.yes (by omega) (EvP.yes h0 (EvP.yes (by omega) ?_))
    refine EvP.bind (implBytes_ok _ (by omega)) ?_
    rintro _ rfl
    unfold hsum
    rw [w64 (x := i + 1) (by omega) (by omega), w_w, w_w2]
    refine (bufBytes_l0 hl hh d (z + sumH (rd_T80 l i).f1) (i + 1) (by omega) (by omega)).mono ?_
    rintro _ rfl
    rw [allH_drop h0 (by omega), sum_app, Int.add_assoc]
theorem bufBytes_ok (p b a m : Int) (c : Bool) {l : List S80} (hl : (l.length : Int) ≤ 1048576) (hh : ∀ x ∈ l, (x.f1.length : Int) ≤ 1048576) : EvP (fun k => impl_Buf_bytes.f k p b a m c l) (fun r => r = hsum (allH l)) := by
  unfold impl_Buf_bytes.f
  have h := bufBytes_l0 hl hh l.length 0 0 (by omega) (by omega)
  rw [show wrap64 0 = 0 from w64 (by omega) (by omega)] at h
  refine h.mono ?_
  rintro _ rfl
  unfold hsum
  simp
theorem within_ev2 (a b c : Int) : EvP (fun _ => impl_within.f a b c) (fun r => r = true ↔ b ≤ a ∧ a ≤ c) := by
  unfold impl_within.f
  refine EvP.ite (fun h => EvP.ret ?_) (fun h => EvP.ret ⟨(fun h => by cases h), fun z => by omega⟩)
  rw [decide_eq_true_iff]; omega
theorem implHeld_ok (h : S52) : EvP (fun _ => impl_heldOk.f h.f0 h.f1) (fun r => r = true ↔ HeldP h) := by
  unfold impl_heldOk.f HeldP
  refine EvP.bind (within_ev2 h.f0 _ _) (fun t ht => ?_)
  refine EvP.ite (fun h1 => ?_) (fun h1 => EvP.ret ⟨(fun h => by cases h), fun z => absurd (ht.2 z.1) h1⟩)
  refine EvP.bind (within_ev2 h.f1 _ _) (fun u hu => EvP.ret ?_)
  rw [hu]; exact ⟨fun g => ⟨ht.1 h1, g⟩, fun g => g.2⟩
theorem specHeld_ok (h : S52) : EvP (fun _ => spec_l17HeldOk.f h.f0 h.f1) (fun r => r = true ↔ HeldP h) := by
  unfold spec_l17HeldOk.f HeldP
  refine EvP.ite (fun h1 => ?_) (fun h1 => EvP.ret ⟨(fun h => by cases h), fun z => absurd z.1.1 h1⟩)
  refine EvP.ite (fun h2 => ?_) (fun h1 => EvP.ret ⟨(fun h => by cases h), fun z => absurd z.1.2 h1⟩)
  refine EvP.ite (fun h3 => EvP.ret ?_) (fun h1 => EvP.ret ⟨(fun h => by cases h), fun z => absurd z.2.1 h1⟩)
  rw [decide_eq_true_iff]; exact ⟨fun g => ⟨⟨h1, h2⟩, h3, g⟩, fun g => g.2.2⟩
theorem implLim_ok (p b a m : Int) (c : Bool) : EvP (fun _ => impl_LimitsOk.f p b a m c) (fun r => r = true ↔ LimP p b a m) := by
  unfold impl_LimitsOk.f LimP
  refine EvP.bind (within_ev2 p _ _) (fun t ht => ?_)
  refine EvP.ite (fun h1 => ?_) (fun h1 => EvP.ret ⟨(fun h => by cases h), fun z => absurd (ht.2 z.1) h1⟩)
  refine EvP.bind (within_ev2 b _ _) (fun u hu => ?_)
  refine EvP.ite (fun h2 => ?_) (fun h1 => EvP.ret ⟨(fun h => by cases h), fun z => absurd (hu.2 z.2.1) h1⟩)
  refine EvP.bind (within_ev2 a _ _) (fun v hv => ?_)
  refine EvP.ite (fun h3 => ?_) (fun h1 => EvP.ret ⟨(fun h => by cases h), fun z => absurd (hv.2 z.2.2.1) h1⟩)
  refine EvP.bind (within_ev2 m _ _) (fun x hx => EvP.ret ?_)
  rw [hx]; exact ⟨fun g => ⟨ht.1 h1, hu.1 h2, hv.1 h3, g⟩, fun g => g.2.2.2⟩
theorem specLim_ok (p b a m : Int) (c : Bool) : EvP (fun _ => spec_LimitsOk.f p b a m c) (fun r => r = true ↔ LimP p b a m) := by
  unfold spec_LimitsOk.f LimP
  refine EvP.ite (fun h1 => EvP.ret ⟨(fun h => by cases h), fun z => by omega⟩) (fun h1 => ?_)
  refine EvP.ite (fun h2 => EvP.ret ⟨(fun h => by cases h), fun z => by omega⟩) (fun h2 => ?_)
  refine EvP.ite (fun h3 => EvP.ret ⟨(fun h => by cases h), fun z => by omega⟩) (fun h3 => ?_)
  refine EvP.ite (fun h4 => EvP.ret ⟨(fun h => by cases h), fun z => by omega⟩) (fun h4 => ?_)
  refine EvP.ite (fun h5 => ?_) (fun h5 => EvP.ret ⟨(fun h => by cases h), fun z => by omega⟩)
  refine EvP.ite (fun h6 => ?_) (fun h6 => EvP.ret ⟨(fun h => by cases h), fun z => by omega⟩)
  refine EvP.ite (fun h7 => EvP.ret ?_) (fun h7 => EvP.ret ⟨(fun h => by cases h), fun z => by omega⟩)
  rw [decide_eq_true_iff]; omega
def BufEnd (a : Int) (l : List S80) (seen xs : List Int) : Prop := Fresh seen xs ∧ hsum (allH l) ≤ a
def BufP (p b a m : Int) (l : List S80) : Prop := LimP p b a m ∧ (l.length : Int) ≤ 48 ∧ LanesFrom p b l 0 ∧ BufEnd a l [] (idsH (allH l))
theorem ids_cons (h : S52) (xs : List S52) : idsH (h :: xs) = h.f0 :: idsH xs := rfl
theorem ids_app (xs ys : List S52) : idsH (xs ++ ys) = idsH xs ++ idsH ys := by unfold idsH; simp
theorem fits_ok {p b a m f : Int} {c : Bool} {xs : List S52} (hl : (xs.length : Int) ≤ 1048576) : EvP (fun k => impl_Lane_fits.f k f xs p b a m c) (fun r => r = true ↔ (xs.length : Int) ≤ p ∧ hsum xs ≤ b) := by
  unfold impl_Lane_fits.f
  refine EvP.ite (fun h => ?_) (fun h => EvP.ret ⟨(fun h => by cases h), fun z => absurd z.1 h⟩)
  refine EvP.bind (implBytes_ok f (by omega)) ?_
  rintro _ rfl
  refine EvP.ret ?_
  rw [decide_eq_true_iff]; exact ⟨fun g => ⟨h, g⟩, fun g => g.2⟩
def RestP (p b a : Int) (l : List S80) (i : Int) (seen xs : List Int) : Prop := LanesFrom p b l i ∧ BufEnd a l seen (xs ++ idsH (allH (l.drop i.toNat)))
theorem implIn_l1 {p b a m i : Int} {c : Bool} {l : List S80} {xs : List S52} (hl : (xs.length : Int) ≤ 1048576) (hi : 0 ≤ i) (next : ∀ seen : List Int, (seen.length : Int) ≤ 1048576 * (i + 1) → EvP (fun k => impl_BufOk.l0 k seen l (l.length : Int) (wrap64 (i + 1)) p b a m c l) (fun r => r = true ↔ RestP p b a l (i + 1) seen [])) :
    ∀ (d : Nat) (q : Int) (seen : List Int), 0 ≤ q → q + d = (xs.length : Int) → i ≤ 1048576 → (seen.length : Int) ≤ 1048576 * i + q →
    EvP (fun k => impl_BufOk.l1 k seen l (l.length : Int) i xs (xs.length : Int) q p b a m c l) (fun r => r = true ↔ (∀ h ∈ xs.drop q.toNat, HeldP h) ∧ RestP p b a l (i + 1) seen (idsH (xs.drop q.toNat)))
  | 0, q, seen, h0, hq, hi2, hs => by
    refine EvP.step ?_
    simp only [impl_BufOk.l1]
    refine EvP.no (by omega) ((next seen (by omega)).mono ?_)
    intro r hr
    rw [hr, List.drop_of_length_le (by omega)]
    exact ⟨fun g => ⟨(fun h hh => by cases hh), g⟩, fun g => g.2⟩
  | d + 1, q, seen, h0, hq, hi2, hs => by
    refine EvP.step ?_
    simp only [impl_BufOk.l1]
    refine EvP.yes (by omega) (EvP.yes h0 (EvP.yes (by omega) ?_))
    have hd := drop52 h0 (show q < (xs.length : Int) by omega)
    refine EvP.bind (implHeld_ok (rd_T52 xs q)) (fun t ht => ?_)
    refine EvP.ite (fun h1 => ?_) (fun h1 => EvP.ret ⟨(fun h => by cases h), fun z => absurd (ht.2 (z.1 _ (by rw [hd]; simp))) h1⟩)
    refine EvP.bind (P := fun r => r = seen.contains (rd_T52 xs q).f0) (EvP.ret rfl) ?_
    rintro _ rfl
    refine EvP.ite (fun h2 => EvP.ret ⟨(fun h => by cases h), fun z => ?_⟩) (fun h2 => ?_)
    · have h3 := z.2.2.1
      rw [hd, ids_cons] at h3
      exact absurd (by simpa using h2) h3.1
    · refine EvP.yes (by omega) ?_
      rw [w64 (x := q + 1) (by omega) (by omega)]
      refine (implIn_l1 hl hi next d (q + 1) (seen ++ [(rd_T52 xs q).f0]) (by omega) (by omega) hi2 (by rw [List.length_append]; simp only [List.length_cons, List.length_nil]; omega)).mono ?_
      intro r hr
      rw [hr, hd]
      constructor
      · rintro ⟨g1, g2, g3, g4⟩
        refine ⟨fun h hh => ?_, g2, ?_, g4⟩
        · rcases List.mem_cons.1 hh with rfl | hh
          · exact ht.1 h1
          · exact g1 h hh
        · rw [ids_cons]; exact ⟨by simpa using h2, g3⟩
      · rintro ⟨g1, g2, g3, g4⟩
        rw [ids_cons] at g3
        exact ⟨fun h hh => g1 h (List.mem_cons_of_mem _ hh), g2, g3.2, g4⟩
theorem implOut_l0 {p b a m : Int} {c : Bool} {l : List S80} (hl : (l.length : Int) ≤ 48) (hh : ∀ x ∈ l, (x.f1.length : Int) ≤ 1048576) : ∀ (d : Nat) (i : Int) (seen : List Int), 0 ≤ i → i + d = (l.length : Int) → (seen.length : Int) ≤ 1048576 * i →
    EvP (fun k => impl_BufOk.l0 k seen l (l.length : Int) i p b a m c l) (fun r => r = true ↔ RestP p b a l i seen [])
  | 0, i, seen, h0, hi, hs => by
    refine EvP.step ?_
    simp only [impl_BufOk.l0]
    refine EvP.no (by omega) ?_
    refine EvP.bind (bufBytes_ok p b a m c (by omega) hh) ?_
    rintro _ rfl
    refine EvP.ret ?_
    rw [decide_eq_true_iff]
    unfold RestP BufEnd
    rw [List.drop_of_length_le (by omega)]
    exact ⟨fun g => ⟨LanesFrom.nil (by omega), trivial, g⟩, fun g => g.2.2⟩
  | d + 1, i, seen, h0, hi, hs => by
    have h1 : i < (l.length : Int) := by omega
    have hx := hh _ (mem80 h0 h1)
    have hrest : RestP p b a l i seen [] ↔ LaneAt p b l i ∧ RestP p b a l (i + 1) seen (idsH (rd_T80 l i).f1) := by
      unfold RestP
      rw [LanesFrom.cons h1, allH_drop h0 h1, ids_app, List.nil_append]
      exact ⟨fun g => ⟨g.1.1, g.1.2, g.2⟩, fun g => ⟨⟨g.1, g.2.1⟩, g.2.2⟩⟩
    have next : ∀ seen : List Int, (seen.length : Int) ≤ 1048576 * (i + 1) → EvP (fun k => impl_BufOk.l0 k seen l (l.length : Int) (wrap64 (i + 1)) p b a m c l) (fun r => r = true ↔ RestP p b a l (i + 1) seen []) := fun seen hs => by
      rw [w64 (x := i + 1) (by omega) (by omega)]
      exact implOut_l0 hl hh d (i + 1) seen (by omega) (by omega) hs
    have bad : ¬ LaneAt p b l i → EvP (fun k => impl_BufOk.j2 k seen l (l.length : Int) i true p b a m c l (rd_T80 l i).f0 (rd_T80 l i).f1) (fun r => r = true ↔ RestP p b a l i seen []) := fun z => by
      refine EvP.step ?_
      simp only [impl_BufOk.j2]
      exact EvP.yes (by simp) (EvP.ret ⟨(fun h => by cases h), fun g => absurd (hrest.1 g).1 z⟩)
    have good : (0 ≤ (rd_T80 l i).f0 ∧ (rd_T80 l i).f0 ≤ 9999) → (0 < i → (rd_T80 l (i - 1)).f0 < (rd_T80 l i).f0) → ((rd_T80 l i).f1.length : Int) ≠ 0 →
        EvP (fun k => (impl_Lane_fits.f k (rd_T80 l i).f0 (rd_T80 l i).f1 p b a m c).bind fun t => impl_BufOk.j2 k seen l (l.length : Int) i (!t) p b a m c l (rd_T80 l i).f0 (rd_T80 l i).f1) (fun r => r = true ↔ RestP p b a l i seen []) := fun z1 z2 z3 => by
      refine EvP.bind (fits_ok hx) (fun t ht => ?_)
      cases t with
      | false => exact bad (fun g => by have := ht.2 ⟨g.2.2.2.1, g.2.2.2.2.2⟩; cases this)
      | true =>
        have hf := ht.1 rfl
        refine EvP.step ?_
        simp only [impl_BufOk.j2]
        refine EvP.no (by simp) ?_
        refine (implIn_l1 hx h0 next (rd_T80 l i).f1.length 0 seen (by omega) (by omega) (by omega) (by omega)).mono ?_
        intro r hr
        rw [hr, hrest]
        simp only [Int.toNat_zero, List.drop_zero]
        exact ⟨fun g => ⟨⟨z1, z2, by omega, hf.1, g.1, hf.2⟩, g.2⟩, fun g => ⟨g.1.2.2.2.2.1, g.2⟩⟩
    refine EvP.step ?_
    simp only [impl_BufOk.l0]
    refine EvP.yes h1 (EvP.yes h0 (EvP.yes h1 ?_))
    refine EvP.bind (P := fun r => r = true ↔ 0 ≤ (rd_T80 l i).f0 ∧ (rd_T80 l i).f0 ≤ 9999) ?_ (fun t ht => ?_)
    · unfold impl_isFlow.f
      exact EvP.bind (within_ev2 _ _ _) (fun r h => EvP.ret h)
    refine EvP.ite (fun e1 => ?_) (fun e1 => bad (fun g => e1 (ht.2 g.1)))
    have z1 := ht.1 e1
    refine EvP.ite (fun e2 => ?_) (fun e2 => ?_)
    · rw [w64 (x := i - 1) (by omega) (by omega)]
      refine EvP.yes (by omega) (EvP.yes (by omega) ?_)
      refine EvP.ite (fun e3 => bad (fun g => by have := g.2.1 e2; omega)) (fun e3 => ?_)
      refine EvP.ite (fun e4 => bad (fun g => by have := g.2.2.1; omega)) (fun e4 => ?_)
      exact good z1 (fun _ => by omega) e4
    · refine EvP.ite (fun e4 => bad (fun g => by have := g.2.2.1; omega)) (fun e4 => ?_)
      exact good z1 (fun g => absurd g e2) e4
theorem implBuf_ok (p b a m : Int) (c : Bool) {l : List S80} (hh : ∀ x ∈ l, (x.f1.length : Int) ≤ 1048576) : EvP (fun k => impl_BufOk.f k p b a m c l) (fun r => r = true ↔ BufP p b a m l) := by
  have bad : ¬ BufP p b a m l → EvP (fun k => impl_BufOk.j0 k true p b a m c l) (fun r => r = true ↔ BufP p b a m l) := fun z => by
    refine EvP.step ?_
    simp only [impl_BufOk.j0]
    exact EvP.yes (by simp) (EvP.ret ⟨(fun h => by cases h), fun g => absurd g z⟩)
  unfold impl_BufOk.f
  refine EvP.bind (implLim_ok p b a m c) (fun t ht => ?_)
  refine EvP.ite (fun h1 => ?_) (fun h1 => bad (fun g => h1 (ht.2 g.1)))
  by_cases h2 : (l.length : Int) > 48
  · rw [decide_eq_true h2]
    exact bad (fun g => by have := g.2.1; omega)
  · rw [decide_eq_false h2]
    refine EvP.step ?_
    simp only [impl_BufOk.j0]
    refine EvP.no (by simp) ?_
    refine (implOut_l0 (p := p) (b := b) (a := a) (m := m) (c := c) (by omega) hh l.length 0 [] (by omega) (by omega) (by simp)).mono ?_
    intro r hr
    rw [hr]
    unfold RestP BufP
    simp only [Int.toNat_zero, List.drop_zero, List.nil_append]
    exact ⟨fun g => ⟨ht.1 h1, by omega, g⟩, fun g => g.2.2⟩
theorem idIn_ok (x : Int) {xs : List S52} (hl : (xs.length : Int) ≤ 1000000000) : EvP (fun k => spec_l17Id.f k xs x) (fun r => r = true ↔ x ∈ idsH xs) := by
  have go : ∀ (d : Nat) (i : Int), 0 ≤ i → i + d = (xs.length : Int) → EvP (fun k => spec_l17Id.l0 k xs x i) (fun r => r = true ↔ x ∈ idsH (xs.drop i.toNat)) := by
    intro d
    induction d with
    | zero =>
      intro i h0 hi
      refine EvP.step ?_
      simp only [spec_l17Id.l0]
      refine EvP.no (by omega) (EvP.ret ?_)
      rw [List.drop_of_length_le (by omega)]
      exact ⟨(fun h => by cases h), (fun h => by cases h)⟩
    | succ d ih =>
      intro i h0 hi
      have hd := drop52 h0 (show i < (xs.length : Int) by omega)
      refine EvP.step ?_
      simp only [spec_l17Id.l0]
      refine EvP.yes (by omega) (EvP.yes h0 ?_)
      refine EvP.ite (fun e => EvP.ret ⟨fun _ => by rw [hd]; exact List.mem_cons.2 (.inl e.symm), fun _ => rfl⟩) (fun e => ?_)
      rw [w64 (by omega) (by omega)]
      refine (ih (i + 1) (by omega) (by omega)).mono ?_
      intro r hr
      rw [hr, hd]
      exact ⟨fun g => List.mem_cons_of_mem _ g, fun g => (List.mem_cons.1 g).resolve_left (fun z => e z.symm)⟩
  unfold spec_l17Id.f
  exact go xs.length 0 (by omega) (by omega)
theorem specAll_l0 {p b a m : Int} {c : Bool} {l : List S80} (hl : (l.length : Int) ≤ 48) (hh : ∀ x ∈ l, (x.f1.length : Int) ≤ 1048576) : ∀ (d : Nat) (i : Int), 0 ≤ i → i + d = (l.length : Int) → EvP (fun k => spec_l17All.l0 k (allH (l.take i.toNat)) i p b a m c l) (fun r => r = allH l)
  | 0, i, h0, hi => by
    refine EvP.step ?_
    simp only [spec_l17All.l0]
    refine EvP.no (by omega) (EvP.ret ?_)
    rw [List.take_of_length_le (by omega)]
  | d + 1, i, h0, hi => by
    have hx := hh _ (mem80 (l := l) (i := i) h0 (by omega))
    have h2 := allH_len (l := l.take i.toNat) (fun x hx => hh x (List.mem_of_mem_take hx))
    rw [List.length_take] at h2
    refine EvP.step ?_
    simp only [spec_l17All.l0]
    refine EvP.yes (by omega) (EvP.yes h0 (EvP.yes (by omega) ?_))
    rw [w64 (x := i + 1) (by omega) (by omega), ← allH_take h0 (by omega)]
    exact specAll_l0 hl hh d (i + 1) (by omega) (by omega)
theorem specIds_l2 {p b a m : Int} {c : Bool} {l : List S80} {xs : List S52} (hl : (xs.length : Int) ≤ 1000000000) : ∀ (d : Nat) (q : Int), 0 ≤ q → q + d = (xs.length : Int) → EvP (fun k => spec_BufOk.l2 k xs q p b a m c l) (fun r => r = true ↔ Fresh (idsH (xs.take q.toNat)) (idsH (xs.drop q.toNat)) ∧ hsum xs ≤ a)
  | 0, q, h0, hq => by
    refine EvP.step ?_
    simp only [spec_BufOk.l2]
    refine EvP.no (by omega) (EvP.bind (specBytes_ok hl) ?_)
    rintro _ rfl
    refine EvP.ret ?_
    rw [decide_eq_true_iff, List.drop_of_length_le (by omega)]
    exact ⟨fun g => ⟨trivial, g⟩, fun g => g.2⟩
  | d + 1, q, h0, hq => by
    have hd := drop52 h0 (show q < (xs.length : Int) by omega)
    have ht := take52 h0 (show q < (xs.length : Int) by omega)
    refine EvP.step ?_
    simp only [spec_BufOk.l2]
    refine EvP.yes (by omega) (EvP.yes h0 (EvP.yes (by omega) ?_))
    refine EvP.bind (idIn_ok (rd_T52 xs q).f0 (xs := xs.take q.toNat) (by rw [List.length_take]; omega)) (fun t hin => ?_)
    rw [hd, ids_cons]
    refine EvP.ite (fun e => EvP.ret ⟨(fun h => by cases h), fun g => absurd (hin.1 e) g.1.1⟩) (fun e => ?_)
    rw [w64 (by omega) (by omega)]
    refine (specIds_l2 hl d (q + 1) (by omega) (by omega)).mono ?_
    intro r hr
    rw [hr, ht, ids_app]
    exact ⟨fun g => ⟨⟨fun z => e (hin.2 z), g.1⟩, g.2⟩, fun g => ⟨g.1.2, g.2⟩⟩
theorem specIn_l1 {p b a m i f : Int} {c : Bool} {l : List S80} {xs : List S52} (hl : (xs.length : Int) ≤ 1048576) {N : Prop} (next : EvP (fun k => spec_BufOk.l0 k (wrap64 (i + 1)) p b a m c l) (fun r => r = true ↔ N)) :
    ∀ (d : Nat) (q : Int), 0 ≤ q → q + d = (xs.length : Int) → EvP (fun k => spec_BufOk.l1 k i q p b a m c l f xs) (fun r => r = true ↔ (∀ h ∈ xs.drop q.toNat, HeldP h) ∧ hsum xs ≤ b ∧ N)
  | 0, q, h0, hq => by
    refine EvP.step ?_
    simp only [spec_BufOk.l1]
    refine EvP.no (by omega) (EvP.bind (specBytes_ok (by omega)) ?_)
    rintro _ rfl
    rw [List.drop_of_length_le (by omega)]
    refine EvP.ite (fun e => EvP.ret ⟨(fun h => by cases h), fun g => by have := g.2.1; omega⟩) (fun e => next.mono ?_)
    intro r hr
    rw [hr]
    exact ⟨fun g => ⟨(fun h hh => by cases hh), by omega, g⟩, fun g => g.2.2⟩
  | d + 1, q, h0, hq => by
    have hd := drop52 h0 (show q < (xs.length : Int) by omega)
    refine EvP.step ?_
    simp only [spec_BufOk.l1]
    refine EvP.yes (by omega) (EvP.yes h0 ?_)
    refine EvP.bind (specHeld_ok (rd_T52 xs q)) (fun t ht => ?_)
    refine EvP.ite (fun h1 => ?_) (fun h1 => EvP.ret ⟨(fun h => by cases h), fun z => absurd (ht.2 (z.1 _ (by rw [hd]; simp))) h1⟩)
    rw [w64 (by omega) (by omega)]
    refine (specIn_l1 hl next d (q + 1) (by omega) (by omega)).mono ?_
    intro r hr
    rw [hr, hd]
    constructor
    · rintro ⟨g1, g2⟩
      refine ⟨fun h hh => ?_, g2⟩
      rcases List.mem_cons.1 hh with rfl | hh
      · exact ht.1 h1
      · exact g1 h hh
    · rintro ⟨g1, g2⟩
      exact ⟨fun h hh => g1 h (List.mem_cons_of_mem _ hh), g2⟩
theorem specOut_l0 {p b a m : Int} {c : Bool} {l : List S80} (hl : (l.length : Int) ≤ 48) (hh : ∀ x ∈ l, (x.f1.length : Int) ≤ 1048576) : ∀ (d : Nat) (i : Int), 0 ≤ i → i + d = (l.length : Int) →
    EvP (fun k => spec_BufOk.l0 k i p b a m c l) (fun r => r = true ↔ LanesFrom p b l i ∧ BufEnd a l [] (idsH (allH l)))
  | 0, i, h0, hi => by
    have h2 := allH_len hh
    refine EvP.step ?_
    simp only [spec_BufOk.l0]
    refine EvP.no (by omega) ?_
    refine EvP.bind (P := fun r => r = allH l) ?_ ?_
    · unfold spec_l17All.f
      have h := specAll_l0 (p := p) (b := b) (a := a) (m := m) (c := c) hl hh l.length 0 (by omega) (by omega)
      simpa [allH] using h
    rintro _ rfl
    refine (specIds_l2 (by omega) (allH l).length 0 (by omega) (by omega)).mono ?_
    intro r hr
    rw [hr]
    simp only [Int.toNat_zero, List.drop_zero, List.take_zero]
    exact ⟨fun g => ⟨LanesFrom.nil (by omega), g⟩, fun g => g.2⟩
  | d + 1, i, h0, hi => by
    have h1 : i < (l.length : Int) := by omega
    have hx := hh _ (mem80 h0 h1)
    have next : EvP (fun k => spec_BufOk.l0 k (wrap64 (i + 1)) p b a m c l) (fun r => r = true ↔ LanesFrom p b l (i + 1) ∧ BufEnd a l [] (idsH (allH l))) := by
      rw [w64 (x := i + 1) (by omega) (by omega)]
      exact specOut_l0 hl hh d (i + 1) (by omega) (by omega)
    rw [show (fun r : Bool => r = true ↔ LanesFrom p b l i ∧ BufEnd a l [] (idsH (allH l))) = (fun r : Bool => r = true ↔ LaneAt p b l i ∧ LanesFrom p b l (i + 1) ∧ BufEnd a l [] (idsH (allH l))) from funext (fun r => by rw [LanesFrom.cons h1, and_assoc])]
    have bad : ¬ LaneAt p b l i → EvP (fun k => spec_BufOk.j2 k i true p b a m c l (rd_T80 l i).f0 (rd_T80 l i).f1) (fun r => r = true ↔ LaneAt p b l i ∧ LanesFrom p b l (i + 1) ∧ BufEnd a l [] (idsH (allH l))) := fun z => by
      refine EvP.step ?_
      simp only [spec_BufOk.j2]
      exact EvP.yes (by simp) (EvP.ret ⟨(fun h => by cases h), fun g => absurd g.1 z⟩)
    have bad3 : ¬ LaneAt p b l i → EvP (fun k => spec_BufOk.j3 k i true p b a m c l (rd_T80 l i).f0 (rd_T80 l i).f1) (fun r => r = true ↔ LaneAt p b l i ∧ LanesFrom p b l (i + 1) ∧ BufEnd a l [] (idsH (allH l))) := fun z => by
      refine EvP.step ?_
      simp only [spec_BufOk.j3]
      exact EvP.yes (by simp) (EvP.ret ⟨(fun h => by cases h), fun g => absurd g.1 z⟩)
    have good : (0 ≤ (rd_T80 l i).f0 ∧ (rd_T80 l i).f0 ≤ 9999) → (0 < i → (rd_T80 l (i - 1)).f0 < (rd_T80 l i).f0) →
        EvP (fun k => spec_BufOk.j2 k i false p b a m c l (rd_T80 l i).f0 (rd_T80 l i).f1) (fun r => r = true ↔ LaneAt p b l i ∧ LanesFrom p b l (i + 1) ∧ BufEnd a l [] (idsH (allH l))) := fun z1 z2 => by
      refine EvP.step ?_
      simp only [spec_BufOk.j2]
      refine EvP.no (by simp) ?_
      refine EvP.ite (fun e => bad3 (fun g => by have := g.2.2.1; omega)) (fun e => ?_)
      by_cases e2 : ((rd_T80 l i).f1.length : Int) > p
      · rw [decide_eq_true e2]
        exact bad3 (fun g => by have := g.2.2.2.1; omega)
      · rw [decide_eq_false e2]
        refine EvP.step ?_
        simp only [spec_BufOk.j3]
        refine EvP.no (by simp) ?_
        refine (specIn_l1 hx next (rd_T80 l i).f1.length 0 (by omega) (by omega)).mono ?_
        intro r hr
        rw [hr]
        simp only [Int.toNat_zero, List.drop_zero]
        exact ⟨fun g => ⟨⟨z1, z2, by omega, by omega, g.1, g.2.1⟩, g.2.2⟩, fun g => ⟨g.1.2.2.2.2.1, g.1.2.2.2.2.2, g.2⟩⟩
    refine EvP.step ?_
    simp only [spec_BufOk.l0]
    refine EvP.yes h1 (EvP.yes h0 ?_)
    refine EvP.ite (fun e => bad (fun g => by have := g.1.1; omega)) (fun e => ?_)
    refine EvP.ite (fun e => bad (fun g => by have := g.1.2; omega)) (fun e' => ?_)
    refine EvP.ite (fun e2 => ?_) (fun e2 => good ⟨by omega, by omega⟩ (fun g => absurd g e2))
    rw [w64 (x := i - 1) (by omega) (by omega)]
    refine EvP.yes (by omega) (EvP.yes (by omega) ?_)
    by_cases e3 : (rd_T80 l (i - 1)).f0 ≥ (rd_T80 l i).f0
    · rw [decide_eq_true e3]
      exact bad (fun g => by have := g.2.1 e2; omega)
    · rw [decide_eq_false e3]
      exact good ⟨by omega, by omega⟩ (fun _ => by omega)
theorem specBuf_ok (p b a m : Int) (c : Bool) {l : List S80} (hh : ∀ x ∈ l, (x.f1.length : Int) ≤ 1048576) : EvP (fun k => spec_BufOk.f k p b a m c l) (fun r => r = true ↔ BufP p b a m l) := by
  have bad : ¬ BufP p b a m l → EvP (fun k => spec_BufOk.j0 k true p b a m c l) (fun r => r = true ↔ BufP p b a m l) := fun z => by
    refine EvP.step ?_
    simp only [spec_BufOk.j0]
    exact EvP.yes (by simp) (EvP.ret ⟨(fun h => by cases h), fun g => absurd g z⟩)
  unfold spec_BufOk.f
  refine EvP.bind (specLim_ok p b a m c) (fun t ht => ?_)
  refine EvP.ite (fun h1 => ?_) (fun h1 => bad (fun g => h1 (ht.2 g.1)))
  by_cases h2 : (l.length : Int) > 48
  · rw [decide_eq_true h2]
    exact bad (fun g => by have := g.2.1; omega)
  · rw [decide_eq_false h2]
    refine EvP.step ?_
    simp only [spec_BufOk.j0]
    refine EvP.no (by simp) ?_
    refine (specOut_l0 (p := p) (b := b) (a := a) (m := m) (c := c) (by omega) hh l.length 0 (by omega) (by omega)).mono ?_
    intro r hr
    rw [hr]
    unfold BufP
    exact ⟨fun g => ⟨ht.1 h1, by omega, g⟩, fun g => g.2.2⟩

def laneIx (l : List S80) (id : Int) : Int := idxP (fun x => x.f0 == id) l
theorem laneIx_in (l : List S80) (id : Int) : ∀ (n : Nat), n = l.length → -1 ≤ laneIx l id ∧ laneIx l id < (l.length : Int) := by
  intro n hn
  unfold laneIx
  induction l generalizing n with
  | nil => simp [idxP]
  | cons x t ih =>
    have := ih t.length rfl
    rw [idxP]
    simp only [List.length_cons]
    split
    · omega
    · split <;> omega
def laneH (l : List S80) (id : Int) : List S52 := if laneIx l id < 0 then [] else (rd_T80 l (laneIx l id)).f1
theorem specLane_l0 {p b a m id : Int} {c : Bool} {l : List S80} (hl : (l.length : Int) ≤ 1048576) : ∀ (n : Nat) (i : Int), 0 ≤ i → i + n = (l.length : Int) → (∀ j : Nat, (j : Int) < i → ∀ y, l[j]? = some y → (y.f0 == id) = false) → EvP (fun k => spec_l17Lane.l0 k id i p b a m c l) (fun r => r = laneH l id)
  | 0, i, h0, hi, hv => by
    refine EvP.step ?_
    simp only [spec_l17Lane.l0]
    refine EvP.no (by omega) (EvP.ret ?_)
    unfold laneH laneIx
    rw [idxP_miss l (fun j y hy => by
      by_cases hj : j < l.length
      · exact hv j (by omega) y hy
      · rw [List.getElem?_eq_none (by omega)] at hy; cases hy), if_pos (by omega)]
  | n + 1, i, h0, hi, hv => by
    refine EvP.step ?_
    simp only [spec_l17Lane.l0]
    have hx := rd80 (l := l) h0 (by omega)
    refine EvP.yes (by omega) (EvP.yes h0 (EvP.ite (fun h => EvP.ret ?_) (fun h => ?_)))
    · unfold laneH laneIx
      rw [idxP_hit l i.toNat (rd_T80 l i) hx (by simp [h]) (fun j y hj hy => hv j (by omega) y hy), if_neg (by omega), show ((i.toNat : Nat) : Int) = i by omega]
    · rw [w64 (by omega) (by omega)]
      refine specLane_l0 hl n (i + 1) (by omega) (by omega) (fun j hj y hy => ?_)
      by_cases e : j = i.toNat
      · subst e
        rw [hx] at hy
        cases hy
        simpa using h
      · exact hv j (by omega) y hy
theorem specLane_ok (p b a m id : Int) (c : Bool) {l : List S80} (hl : (l.length : Int) ≤ 1048576) : EvP (fun k => spec_l17Lane.f k p b a m c l id) (fun r => r = laneH l id) := by
  unfold spec_l17Lane.f
  exact specLane_l0 hl l.length 0 (by omega) (by omega) (fun j hj => by omega)
theorem implLane_ok (p b a m id : Int) (c : Bool) {l : List S80} (hl : (l.length : Int) ≤ 1048576) : EvP (fun _ => impl_Buf_laneAt.f p b a m c l id) (fun r => r = laneIx l id) := by
  unfold impl_Buf_laneAt.f
  exact EvP.yes (by omega) (EvP.ret rfl)
theorem both_ok (p b a m : Int) (c : Bool) (id : Int) {l : List S80} (hl : (l.length : Int) ≤ 1048576) (hh : ∀ x ∈ l, (x.f1.length : Int) ≤ 1048576) : ∃ R : Int × Int,
    EvP (fun k => spec_BufLaneOf.f k p b a m c l id) (fun r => r = R) ∧ EvP (fun k => impl_BufLaneOf.f k p b a m c l id) (fun r => r = R) := by
  have hin := laneIx_in l id _ rfl
  by_cases hB : BufP p b a m l
  · have hlen : ((laneH l id).length : Int) ≤ 1048576 := by
      unfold laneH
      split
      · simp
      · exact hh _ (mem80 (by omega) (by omega))
    refine ⟨(((laneH l id).length : Int), hsum (laneH l id)), ?_, ?_⟩
    · unfold spec_BufLaneOf.f
      refine EvP.bind (specBuf_ok p b a m c hh) (fun t ht => EvP.yes (ht.2 hB) ?_)
      refine EvP.bind (specLane_ok p b a m id c hl) ?_
      rintro _ rfl
      refine EvP.bind (specLane_ok p b a m id c hl) ?_
      rintro _ rfl
      refine EvP.bind (specBytes_ok (by omega)) ?_
      rintro _ rfl
      exact EvP.ret rfl
    · unfold impl_BufLaneOf.f
      refine EvP.bind (implLane_ok p b a m id c hl) ?_
      rintro _ rfl
      refine EvP.bind (implBuf_ok p b a m c hh) (fun t ht => EvP.yes (ht.2 hB) ?_)
      refine EvP.ite (fun e => EvP.ret ?_) (fun e => ?_)
      · unfold laneH
        rw [if_pos e]
        have h0 : sumH [] = 0 := rfl
        simp [hsum, h0, wrap64]
      · have e' : laneH l id = (rd_T80 l (laneIx l id)).f1 := if_neg e
        rw [e'] at hlen ⊢
        refine EvP.yes (by omega) (EvP.yes (by omega) ?_)
        refine EvP.bind (implBytes_ok _ (by omega)) ?_
        rintro _ rfl
        exact EvP.ret rfl
  · refine ⟨(-1, -1), ?_, ?_⟩
    · unfold spec_BufLaneOf.f
      exact EvP.bind (specBuf_ok p b a m c hh) (fun t ht => EvP.no (fun g => hB (ht.1 g)) (EvP.ret rfl))
    · unfold impl_BufLaneOf.f
      refine EvP.bind (implLane_ok p b a m id c hl) ?_
      rintro _ rfl
      exact EvP.bind (implBuf_ok p b a m c hh) (fun t ht => EvP.no (fun g => hB (ht.1 g)) (EvP.ret rfl))
theorem FnExactBufLaneOf : laws_FnExactBufLaneOf.Pure := by
  intro p b a m c l id hw hid
  obtain ⟨_, hlm, hl⟩ := hw
  have hm : l.length ≤ 9223372036854775807 := hlm
  refine EvP.rounds ?_
  unfold laws_FnExactBufLaneOf.f
  refine EvP.bind (szBuf_ok p b a m c l hm (fun x hx => (hl x hx).2.1)) ?_
  intro z hz
  refine EvP.ite (fun _ => EvP.ret rfl) (fun hz0 => ?_)
  have hs : (l.length : Int) ≤ 1048576 ∧ ∀ x ∈ l, (x.f1.length : Int) ≤ 1048576 := by
    rcases hz with h | h
    · omega
    · exact h.2
  have hh : ∀ x ∈ l.map laneOf, (x.f1.length : Int) ≤ 1048576 := fun x hx => by
    obtain ⟨y, hy, rfl⟩ := List.mem_map.1 hx
    have := hs.2 y hy
    unfold laneOf
    rw [List.length_map]; exact this
  have toB := toBuf_ok (p := p) (b := b) (a := a) (m := m) (c := c) (l := l) (by omega) (fun x hx => by have := hs.2 x hx; omega)
  obtain ⟨⟨R1, R2⟩, hsp, him⟩ := both_ok p b a m c id (l := l.map laneOf) (by rw [List.length_map]; omega) hh
  refine EvP.bind toB ?_
  rintro _ rfl
  refine EvP.bind hsp ?_
  rintro _ rfl
  refine EvP.bind toB ?_
  rintro _ rfl
  refine EvP.bind him ?_
  rintro _ rfl
  dsimp only
  refine EvP.yes rfl ?_
  rw [show (R2 != R2) = false by simp]
  refine EvP.step ?_
  simp only [laws_FnExactBufLaneOf.j0]
  refine EvP.no (by simp) ?_
  refine EvP.bind toB ?_
  rintro _ rfl
  refine EvP.bind (eqBuf_same p b a m c (by rw [List.length_map]; omega) (fun x hx => by have := hh x hx; omega)) ?_
  rintro _ rfl
  exact EvP.yes rfl (EvP.ret rfl)

end Go.Proofs.Ytnklakficjpmoaa.Pure
