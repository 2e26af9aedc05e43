/- Whatever cost and carry are drawn: charge and new carry are together guess and old carry, the charge is in its bounds, and the carry moves to 0. No condition. -/
import Derived.Test.YtbijdkmchdkgfaaPFnChargeKeepsx
import Derived.Laws.BitsLemmas
namespace Go.Proofs.Ytbijdkmchdkgfaa.Pure
open Go.RowKit Go.Proofs.Ytbijdkmchdkgfaa.PFnChargeKeeps Go.Proofs.YtbijdkmchdkgfaaW.PrintWords Go.Proofs.YtbijdkmchdkgfaaW.PrintLast Go.Proofs.YtbijdkmchdkgfaaW.PrintMore
set_option linter.unusedVariables false
set_option linter.unusedSimpArgs false

def EvP {α : Type} (g : Nat → Option α) (P : α → Prop) : Prop := ∃ r, Ev g r ∧ P r
theorem EvP.of {α : Type} {o : Option α} {P : α → Prop} (h : ∃ r, o = some r ∧ P r) : EvP (fun _ => o) P := by
  obtain ⟨r, rfl, hp⟩ := h
  exact ⟨r, Ev.now r, hp⟩
theorem EvP.ret {α : Type} {r : α} {P : α → Prop} (h : P r) : EvP (fun _ => some r) P := ⟨r, Ev.now r, h⟩
theorem EvP.bind {α β : Type} {g : Nat → Option α} {f : Nat → α → Option β} {P : α → Prop} {Q : β → Prop} (h : EvP g P) (k : ∀ r, P r → EvP (fun n => f n r) Q) : EvP (fun n => (g n).bind (f n)) Q := by
  obtain ⟨r, hr, hp⟩ := h
  obtain ⟨q, hq, hQ⟩ := k r hp
  exact ⟨q, Ev.bind hr hq, hQ⟩
theorem EvP.ite {α : Type} {c : Prop} [Decidable c] {a b : Nat → Option α} {Q : α → Prop} (h : c → EvP a Q) (h' : ¬ c → EvP b Q) : EvP (fun n => if c then a n else b n) Q := by
  by_cases hc : c
  · simp only [if_pos hc]; exact h hc
  · simp only [if_neg hc]; exact h' hc
theorem EvP.yes {α : Type} {c : Prop} [Decidable c] {a b : Nat → Option α} {Q : α → Prop} (hc : c) (h : EvP a Q) : EvP (fun n => if c then a n else b n) Q := by
  simp only [if_pos hc]; exact h
theorem EvP.no {α : Type} {c : Prop} [Decidable c] {a b : Nat → Option α} {Q : α → Prop} (hc : ¬ c) (h : EvP b Q) : EvP (fun n => if c then a n else b n) Q := by
  simp only [if_neg hc]; exact h
theorem EvP.step {α : Type} {g : Nat → Option α} {Q : α → Prop} (h : EvP (fun k => g (k + 1)) Q) : EvP g Q := by
  obtain ⟨r, hr, hq⟩ := h
  exact ⟨r, Ev.step (fun _ => rfl) hr, hq⟩
theorem EvP.rounds {α : Type} {g : Nat → Option α} {r : α} (h : EvP g (fun x => x = r)) : ∃ k, g k = some r := by
  obtain ⟨q, hq, rfl⟩ := h
  exact hq.rounds
theorem w64 {x : Int} (h0 : -9223372036854775808 ≤ x) (h1 : x ≤ 9223372036854775807) : wrap64 x = x := by unfold wrap64; omega
theorem tmod_pos {a b : Int} (h : 0 ≤ a) : Int.tmod a b = a % b := Int.tmod_eq_emod_of_nonneg h
theorem tdiv_pos {a b : Int} (h : 0 ≤ a) : Int.tdiv a b = a / b := Int.tdiv_eq_ediv_of_nonneg h
def Bs (s : List Int) : Prop := ∀ x ∈ s, 0 ≤ x ∧ x ≤ 255
theorem Bs.rdb {s : List Int} (h : Bs s) (i : Int) : 0 ≤ rd s i ∧ rd s i ≤ 255 := by
  by_cases hi : i.toNat < s.length
  · unfold rd
    rw [List.getD_eq_getElem?_getD, List.getElem?_eq_getElem hi]
    exact h _ (List.getElem_mem hi)
  · unfold rd
    rw [List.getD_eq_getElem?_getD, List.getElem?_eq_none (by omega)]
    exact ⟨by decide, by decide⟩
theorem Bs.of {s : List Int} (h : ∀ x ∈ s, (Lit.int .u8 x).wf = true) : Bs s := fun x hx => by
  have := h x hx
  simp [Lit.wf, IntKind.min, IntKind.max, IntKind.bits, IntKind.signed] at this
  omega
structure Cu (s : List Int) (p sd B : Int) : Prop where
  bs : Bs s
  p0 : 0 ≤ p
  p1 : p ≤ B
  s0 : 0 ≤ sd
  s1 : sd ≤ 65520
theorem Cu.le {s : List Int} {p sd B B' : Int} (h : Cu s p sd B) (hB : B ≤ B') : Cu s p sd B' := ⟨h.bs, h.p0, by have := h.p1; omega, h.s0, h.s1⟩
theorem seed_ok {sd : Int} (h0 : 0 ≤ sd) (h1 : sd ≤ 65520) : Int.tmod (wrap64 ((wrap64 (sd * 1103)) + 12345)) 65521 = (sd * 1103 + 12345) % 65521 := by
  rw [w64 (x := sd * 1103) (by omega) (by omega), w64 (by omega) (by omega), tmod_pos (by omega)]
theorem rem_ok {x n : Int} (h0 : 0 ≤ x) (hn : 2 ≤ n) : 0 ≤ Int.tmod x n ∧ Int.tmod x n < n := by
  rw [tmod_pos h0]
  exact ⟨Int.emod_nonneg _ (by omega), Int.emod_lt_of_pos _ (by omega)⟩
theorem pick_ok {s : List Int} {p sd B n : Int} (h : Cu s p sd B) (hB : B ≤ 4611686018427387904) :
    ∃ r, spec_l01Cur_pick.f s p sd n = some r ∧ Cu s r.2.1 r.2.2 (B + 1) ∧ 0 ≤ r.1 ∧ (r.1 < n ∨ r.1 = 0) := by
  obtain ⟨hb, p0, p1, s0, s1⟩ := h
  unfold spec_l01Cur_pick.f
  rw [seed_ok s0 s1, w64 (x := p + 1) (by omega) (by omega)]
  have e0 : 0 ≤ (sd * 1103 + 12345) % 65521 ∧ (sd * 1103 + 12345) % 65521 ≤ 65520 := by omega
  generalize (sd * 1103 + 12345) % 65521 = q at e0
  by_cases hn : n < 2
  · rw [if_pos hn]
    exact ⟨_, rfl, ⟨hb, p0, by dsimp only; omega, s0, s1⟩, by dsimp only; omega, .inr rfl⟩
  rw [if_neg hn]
  by_cases hp : p < (s.length : Int)
  · rw [if_pos hp, if_pos p0, if_neg (by omega)]
    have hr := hb.rdb p
    have hm := rem_ok hr.1 (show (2 : Int) ≤ n by omega)
    rw [w64 (x := rd s p) (by omega) (by omega)]
    exact ⟨_, rfl, ⟨hb, by dsimp only; omega, by dsimp only; omega, s0, s1⟩, hm.1, .inl hm.2⟩
  rw [if_neg hp]
  by_cases hl : (s.length : Int) > 0
  · have hm : 0 ≤ Int.tmod p (s.length : Int) ∧ Int.tmod p (s.length : Int) < (s.length : Int) := by
      rw [tmod_pos p0]
      exact ⟨Int.emod_nonneg _ (by omega), Int.emod_lt_of_pos _ (by omega)⟩
    rw [if_pos hl, if_neg (by omega), if_pos hm.1, if_pos hm.2, if_neg (by omega)]
    have hr := hb.rdb (Int.tmod p (s.length : Int))
    have hv := rem_ok (x := wrap64 ((wrap64 (Int.tdiv q 7)) + (wrap64 (rd s (Int.tmod p (s.length : Int)))))) (n := n) (by
      rw [tdiv_pos e0.1, w64 (x := q / 7) (by omega) (by omega), w64 (x := rd s _) (by omega) (by omega), w64 (by omega) (by omega)]
      omega) (by omega)
    exact ⟨_, rfl, ⟨hb, by dsimp only; omega, by dsimp only; omega, e0.1, e0.2⟩, hv.1, .inl hv.2⟩
  · rw [if_neg hl, if_neg (by omega)]
    have hv := rem_ok (x := 0) (n := n) (by omega) (by omega)
    rw [tmod_pos (by omega)] at hv
    exact ⟨_, rfl, ⟨hb, by dsimp only; omega, by dsimp only; omega, e0.1, e0.2⟩, hv.1, .inl hv.2⟩
theorem pickE {s : List Int} {p sd B n : Int} (h : Cu s p sd B) (hB : B ≤ 4611686018427387904) :
    EvP (fun _ => spec_l01Cur_pick.f s p sd n) (fun r => Cu s r.2.1 r.2.2 (B + 1) ∧ 0 ≤ r.1 ∧ (r.1 < n ∨ r.1 = 0)) := EvP.of (pick_ok h hB)
theorem open_ok {s : List Int} (hb : Bs s) : EvP (fun _ => spec_l01Open.f s) (fun r => r.1 = s ∧ Cu s r.2.1 r.2.2 0) := by
  refine EvP.ret ⟨rfl, hb, ?_, ?_, ?_, ?_⟩ <;> dsimp only <;> omega
theorem big_ok (s : List Int) : EvP (fun _ => laws_big.f s) (fun b => b = false → (s.length : Int) ≤ 1048576) := by
  unfold laws_big.f
  refine EvP.ret (fun h => ?_)
  simp at h
  omega
theorem wide_ok {s : List Int} {p sd B n : Int} (h : Cu s p sd B) (hB : B ≤ 1000000000000) (hn : 2 ≤ n) :
    EvP (fun _ => spec_l01Cur_wide.f s p sd n) (fun r => Cu s r.2.1 r.2.2 (B + 3) ∧ 0 ≤ r.1 ∧ r.1 < n) := by
  unfold spec_l01Cur_wide.f
  refine EvP.bind (pickE (n := 256) h (by omega)) ?_
  rintro ⟨a, p1, s1⟩ ⟨c1, a0, a1⟩
  dsimp only at *
  refine EvP.bind (pickE (n := 256) c1 (by omega)) ?_
  rintro ⟨b, p2, s2⟩ ⟨c2, b0, b1⟩
  dsimp only at *
  refine EvP.bind (pickE (n := 256) c2 (by omega)) ?_
  rintro ⟨d, p3, s3⟩ ⟨c3, d0, d1⟩
  dsimp only at *
  refine EvP.no (by omega) (EvP.ret ⟨c3.le (by omega), ?_⟩)
  dsimp only
  rw [w64 (x := 65536 * a) (by omega) (by omega), w64 (x := 256 * b) (by omega) (by omega), w64 (x := 65536 * a + 256 * b) (by omega) (by omega), w64 (by omega) (by omega)]
  exact rem_ok (by omega) hn
theorem mx_le (a b : Int) : a ≤ mx a b ∧ b ≤ mx a b ∧ (mx a b = a ∨ mx a b = b) := by unfold mx; split <;> omega
theorem mn_le (a b : Int) : mn a b ≤ a ∧ mn a b ≤ b ∧ (mn a b = a ∨ mn a b = b) := by unfold mn; split <;> omega
theorem specAll_ok (a b c x y : Int) : EvP (fun _ => spec_l13All.f a b c x y) (fun r => r = true ↔ (x ≤ a ∧ a ≤ y) ∧ (x ≤ b ∧ b ≤ y) ∧ x ≤ c ∧ c ≤ y) := by
  unfold spec_l13All.f
  refine EvP.ite (fun h1 => ?_) (fun h => EvP.ret ⟨(fun h => by cases h), fun z => by omega⟩)
  refine EvP.ite (fun h2 => ?_) (fun h => EvP.ret ⟨(fun h => by cases h), fun z => by omega⟩)
  refine EvP.ite (fun h3 => ?_) (fun h => EvP.ret ⟨(fun h => by cases h), fun z => by omega⟩)
  refine EvP.ite (fun h4 => ?_) (fun h => EvP.ret ⟨(fun h => by cases h), fun z => by omega⟩)
  refine EvP.ite (fun h5 => EvP.ret ?_) (fun h => EvP.ret ⟨(fun h => by cases h), fun z => by omega⟩)
  rw [decide_eq_true_iff]; omega
theorem within_ev (a b c : Int) : EvP (fun _ => impl_within.f a b c) (fun r => r = true ↔ b ≤ a ∧ a ≤ c) := by
  unfold impl_within.f
  refine EvP.ite (fun h => EvP.ret ?_) (fun h => EvP.ret ⟨(fun h => by cases h), fun z => by omega⟩)
  rw [decide_eq_true_iff]; omega
theorem isFrom_ok (a b c x y : Int) : EvP (fun _ => impl_Vec_isFrom.f a b c x y) (fun r => r = true ↔ (x ≤ a ∧ a ≤ y) ∧ (x ≤ b ∧ b ≤ y) ∧ x ≤ c ∧ c ≤ y) := by
  unfold impl_Vec_isFrom.f
  refine EvP.bind (within_ev a x y) (fun t ht => ?_)
  refine EvP.ite (fun h1 => ?_) (fun h => EvP.ret ⟨(fun h => by cases h), fun z => absurd (ht.2 z.1) h⟩)
  refine EvP.bind (within_ev b x y) (fun u hu => ?_)
  refine EvP.ite (fun h2 => ?_) (fun h => EvP.ret ⟨(fun h => by cases h), fun z => absurd (hu.2 z.2.1) h⟩)
  refine EvP.bind (within_ev c x y) (fun v hv => EvP.ret ?_)
  have h3 := ht.1 h1
  have h4 := hu.1 h2
  rw [hv]; exact ⟨fun h => ⟨h3, h4, h⟩, fun z => z.2.2⟩
theorem rd4 (a b c d : Int) {i : Int} (h0 : 0 ≤ i) (h1 : i < 4) : rd [a, b, c, d] i = a ∨ rd [a, b, c, d] i = b ∨ rd [a, b, c, d] i = c ∨ rd [a, b, c, d] i = d := by
  have : i = 0 ∨ i = 1 ∨ i = 2 ∨ i = 3 := by omega
  rcases this with rfl | rfl | rfl | rfl
  · exact Or.inl rfl
  · exact Or.inr (Or.inl rfl)
  · exact Or.inr (Or.inr (Or.inl rfl))
  · exact Or.inr (Or.inr (Or.inr rfl))
theorem rd3 (a b c : Int) {i : Int} (h0 : 0 ≤ i) (h1 : i < 3) : rd [a, b, c] i = a ∨ rd [a, b, c] i = b ∨ rd [a, b, c] i = c := by
  have : i = 0 ∨ i = 1 ∨ i = 2 := by omega
  rcases this with rfl | rfl | rfl
  · exact Or.inl rfl
  · exact Or.inr (Or.inl rfl)
  · exact Or.inr (Or.inr rfl)
theorem drawCost {s : List Int} {p sd B a : Int} (h : Cu s p sd B) (hB : B ≤ 100000000000) (h0 : 2 ≤ a) (h1 : a ≤ 10000000) :
    EvP (fun _ => spec_l01Cur_cost.f s p sd a) (fun r => Cu s r.2.2.2.1 r.2.2.2.2 (B + 10)) := by
  unfold spec_l01Cur_cost.f
  refine EvP.bind (P := fun r => r = [9, 100, a, a]) (EvP.ret rfl) ?_
  rintro _ rfl
  refine EvP.bind (pickE (n := 4) h (by omega)) ?_
  rintro ⟨i, p1, s1⟩ ⟨c1, i0, i1⟩
  dsimp only at *
  have hi := rd4 9 100 a a i0 (by omega)
  refine EvP.yes i0 (EvP.yes (by simp only [List.length_cons, List.length_nil]; omega) ?_)
  generalize rd [9, 100, a, a] i = n at hi
  refine EvP.bind (wide_ok c1 (by omega) (by omega)) ?_
  rintro ⟨x, p2, s2⟩ ⟨c2, _, _⟩
  refine EvP.bind (wide_ok c2 (by omega) (by omega)) ?_
  rintro ⟨y, p3, s3⟩ ⟨c3, _, _⟩
  refine EvP.bind (wide_ok c3 (by omega) (by omega)) ?_
  rintro ⟨z, p4, s4⟩ ⟨c4, _, _⟩
  exact EvP.ret (c4.le (by omega))
theorem drawCarry {s : List Int} {p sd B : Int} (h : Cu s p sd B) (hB : B ≤ 100000000000) :
    EvP (fun _ => spec_l01Cur_carry.f s p sd) (fun r => Cu s r.2.2.2.1 r.2.2.2.2 (B + 10)) := by
  unfold spec_l01Cur_carry.f
  refine EvP.bind (P := fun r => r = [20, 3000, 2000002]) (EvP.ret rfl) ?_
  rintro _ rfl
  refine EvP.bind (pickE (n := 3) h (by omega)) ?_
  rintro ⟨i, p1, s1⟩ ⟨c1, i0, i1⟩
  dsimp only at *
  have hi := rd3 20 3000 2000002 i0 (by omega)
  refine EvP.yes i0 (EvP.yes (by simp only [List.length_cons, List.length_nil]; omega) ?_)
  generalize rd [20, 3000, 2000002] i = n at hi
  refine EvP.bind (wide_ok c1 (by omega) (by omega)) ?_
  rintro ⟨x, p2, s2⟩ ⟨c2, _, _⟩
  refine EvP.bind (wide_ok c2 (by omega) (by omega)) ?_
  rintro ⟨y, p3, s3⟩ ⟨c3, _, _⟩
  refine EvP.bind (wide_ok c3 (by omega) (by omega)) ?_
  rintro ⟨z, p4, s4⟩ ⟨c4, _, _⟩
  exact EvP.ret (c4.le (by omega))
theorem drawCharge {s : List Int} (hb : Bs s) : EvP (fun _ => spec_DrawCharge.f s) (fun _ => True) := by
  unfold spec_DrawCharge.f
  refine EvP.bind (open_ok hb) ?_
  rintro ⟨s', p, sd⟩ ⟨rfl, c⟩
  refine EvP.bind (pickE (n := 2) c (by omega)) ?_
  rintro ⟨x, p1, s1⟩ ⟨c1, x0, x1⟩
  dsimp only at *
  simp only [w64 (x := 1000 + x) (by omega) (by omega)]
  refine EvP.bind (drawCost c1 (by omega) (by omega) (by omega)) ?_
  rintro ⟨g0, g1, g2, p2, s2⟩ c2
  refine EvP.bind (drawCarry c2 (by omega)) ?_
  rintro ⟨y0, y1, y2, p3, s3⟩ c3
  exact EvP.ret trivial
def In (x y a b c : Int) : Prop := (x ≤ a ∧ a ≤ y) ∧ (x ≤ b ∧ b ≤ y) ∧ x ≤ c ∧ c ≤ y
theorem specCostOk_ok (a b c : Int) : EvP (fun _ => spec_CostOk.f a b c) (fun r => r = true ↔ In 1 1000 a b c) := by
  unfold spec_CostOk.f
  exact EvP.bind (specAll_ok a b c _ _) (fun r h => EvP.ret h)
theorem vec_ok (a b c j : Int) : EvP (fun _ => laws_vec.f a b c j) (fun r => r = if j = 0 then a else if j = 1 then b else c) := by
  unfold laws_vec.f
  refine EvP.ite (fun h => EvP.ret (by rw [if_pos h])) (fun h => ?_)
  rw [if_neg h]
  exact EvP.ite (fun h => EvP.ret (by rw [if_pos h])) (fun h => EvP.ret (by rw [if_neg h]))
theorem specCarryOk_ok (a b c : Int) : EvP (fun _ => spec_CarryOk.f a b c) (fun r => r = true ↔ In (-1000000) 1000000 a b c) := by
  unfold spec_CarryOk.f
  exact EvP.bind (specAll_ok a b c _ _) (fun r h => EvP.ret h)
theorem implCostOk_ok (a b c : Int) : EvP (fun _ => impl_CostOk.f a b c) (fun r => r = true ↔ In 1 1000 a b c) := by
  unfold impl_CostOk.f
  exact EvP.bind (isFrom_ok a b c _ _) (fun r h => EvP.ret h)
theorem implCarryOk_ok (a b c : Int) : EvP (fun _ => impl_CarryOk.f a b c) (fun r => r = true ↔ In (-1000000) 1000000 a b c) := by
  unfold impl_CarryOk.f
  exact EvP.bind (isFrom_ok a b c _ _) (fun r h => EvP.ret h)

def chg (g y : Int) : Int := if g + y < 1 then 1 else if g + y > 2000 then 2000 else g + y
theorem clip_ok (a lo hi : Int) : EvP (fun _ => impl_Clip.f a lo hi) (fun r => r = if a < lo then lo else if a > hi then hi else a) := by
  unfold impl_Clip.f
  refine EvP.ite (fun h => EvP.ret (by rw [if_pos h])) (fun h => ?_)
  rw [if_neg h]
  exact EvP.ite (fun h => EvP.ret (by rw [if_pos h])) (fun h => EvP.ret (by rw [if_neg h]))
theorem each98_ok (a b c : Int) : EvP (fun _ => impl_Vec_each_98.f a b c) (fun r => r = (if a < 1 then 1 else if a > 2000 then 2000 else a, if b < 1 then 1 else if b > 2000 then 2000 else b, if c < 1 then 1 else if c > 2000 then 2000 else c)) := by
  unfold impl_Vec_each_98.f impl_Charge_1.f
  refine EvP.bind (EvP.bind (clip_ok a 1 2000) (fun r h => EvP.ret h)) ?_
  rintro _ rfl
  refine EvP.bind (EvP.bind (clip_ok b 1 2000) (fun r h => EvP.ret h)) ?_
  rintro _ rfl
  refine EvP.bind (EvP.bind (clip_ok c 1 2000) (fun r h => EvP.ret h)) ?_
  rintro _ rfl
  exact EvP.ret rfl
theorem plus_ok (a b c d e f : Int) : EvP (fun _ => impl_Vec_plus.f a b c d e f) (fun r => r = (wrap64 (a + d), wrap64 (b + e), wrap64 (c + f))) := EvP.of ⟨_, rfl, rfl⟩
theorem minus_ok (a b c d e f : Int) : EvP (fun _ => impl_Vec_minus.f a b c d e f) (fun r => r = (wrap64 (a - d), wrap64 (b - e), wrap64 (c - f))) := EvP.of ⟨_, rfl, rfl⟩
theorem charge_ok (g0 g1 g2 y0 y1 y2 : Int) : EvP (fun k => impl_Charge.f k g0 g1 g2 y0 y1 y2) (fun r =>
    (In 1 1000 g0 g1 g2 ∧ In (-1000000) 1000000 y0 y1 y2 → r = (chg g0 y0, chg g1 y1, chg g2 y2, g0 + y0 - chg g0 y0, g1 + y1 - chg g1 y1, g2 + y2 - chg g2 y2)) ∧
    (¬ (In 1 1000 g0 g1 g2 ∧ In (-1000000) 1000000 y0 y1 y2) → r = (0, 0, 0, 0, 0, 0))) := by
  unfold impl_Charge.f
  have bad : ¬ (In 1 1000 g0 g1 g2 ∧ In (-1000000) 1000000 y0 y1 y2) → EvP (fun k => impl_Charge.j0 k true g0 g1 g2 y0 y1 y2) (fun r =>
    (In 1 1000 g0 g1 g2 ∧ In (-1000000) 1000000 y0 y1 y2 → r = (chg g0 y0, chg g1 y1, chg g2 y2, g0 + y0 - chg g0 y0, g1 + y1 - chg g1 y1, g2 + y2 - chg g2 y2)) ∧
    (¬ (In 1 1000 g0 g1 g2 ∧ In (-1000000) 1000000 y0 y1 y2) → r = (0, 0, 0, 0, 0, 0))) := by
    intro h
    refine EvP.step ?_
    simp only [impl_Charge.j0]
    exact EvP.yes (by simp) (EvP.ret ⟨fun z => absurd z h, fun _ => rfl⟩)
  refine EvP.bind (implCostOk_ok g0 g1 g2) (fun t ht => ?_)
  refine EvP.ite (fun h1 => ?_) (fun h1 => bad (fun z => h1 (ht.2 z.1)))
  refine EvP.bind (implCarryOk_ok y0 y1 y2) (fun u hu => ?_)
  cases u with
  | false => exact bad (fun z => by have := hu.2 z.2; cases this)
  | true =>
    have hg := ht.1 h1
    have hy := hu.1 rfl
    obtain ⟨a1, a2, a3⟩ := id hg
    obtain ⟨b1, b2, b3⟩ := id hy
    refine EvP.step ?_
    simp only [impl_Charge.j0]
    refine EvP.no (by simp) ?_
    refine EvP.bind (plus_ok g0 g1 g2 y0 y1 y2) ?_
    rintro _ rfl
    dsimp only
    rw [w64 (x := g0 + y0) (by omega) (by omega), w64 (x := g1 + y1) (by omega) (by omega), w64 (x := g2 + y2) (by omega) (by omega)]
    refine EvP.bind (each98_ok _ _ _) ?_
    rintro _ rfl
    dsimp only
    refine EvP.bind (minus_ok _ _ _ _ _ _) ?_
    rintro _ rfl
    refine EvP.ret ⟨fun _ => ?_, fun z => absurd ⟨hg, hy⟩ z⟩
    dsimp only
    unfold chg
    rw [w64 (by split <;> (try split) <;> omega) (by split <;> (try split) <;> omega), w64 (by split <;> (try split) <;> omega) (by split <;> (try split) <;> omega), w64 (by split <;> (try split) <;> omega) (by split <;> (try split) <;> omega)]
def KeepP (g y c n : Int) : Prop := c + n = g + y ∧ 1 ≤ c ∧ c ≤ 2000 ∧ n ≤ mx 0 y ∧ mn 0 y ≤ n ∧ -2000000 ≤ n ∧ n ≤ 2000000 ∧ -1000000 ≤ y ∧ y ≤ 1000000 ∧ 1 ≤ g ∧ g ≤ 1000
theorem keep_of {g y : Int} (h1 : 1 ≤ g) (h2 : g ≤ 1000) (h3 : -1000000 ≤ y) (h4 : y ≤ 1000000) : KeepP g y (chg g y) (g + y - chg g y) := by
  have e1 := mx_le 0 y
  have e2 := mn_le 0 y
  unfold KeepP chg
  split
  · omega
  · split <;> omega
theorem keep_loop {g0 g1 g2 y0 y1 y2 c0 c1 c2 n0 n1 n2 : Int} (h0 : KeepP g0 y0 c0 n0) (h1 : KeepP g1 y1 c1 n1) (h2 : KeepP g2 y2 c2 n2) : ∀ (d : Nat) (x : Int), 0 ≤ x → x + d = 3 →
    EvP (fun k => laws_FnChargeKeeps.l0 k x g0 g1 g2 y0 y1 y2 c0 c1 c2 n0 n1 n2) (fun r => r = true) := by
  intro d
  induction d with
  | zero =>
    intro x _ hx
    refine EvP.step ?_
    simp only [laws_FnChargeKeeps.l0]
    exact EvP.no (by omega) (EvP.ret rfl)
  | succ d ih =>
    intro x hx hd
    refine EvP.step ?_
    simp only [laws_FnChargeKeeps.l0]
    have hk : KeepP (if x = 0 then g0 else if x = 1 then g1 else g2) (if x = 0 then y0 else if x = 1 then y1 else y2) (if x = 0 then c0 else if x = 1 then c1 else c2) (if x = 0 then n0 else if x = 1 then n1 else n2) := by
      by_cases e : x = 0
      · simp only [if_pos e]; exact h0
      · simp only [if_neg e]
        by_cases e : x = 1
        · simp only [if_pos e]; exact h1
        · simp only [if_neg e]; exact h2
    obtain ⟨k1, k2, k3, k4, k5, k6, k7, k8, k9, ka, kb⟩ := hk
    refine EvP.yes (by omega) ?_
    refine EvP.bind (vec_ok c0 c1 c2 x) ?_
    rintro c rfl
    refine EvP.bind (vec_ok n0 n1 n2 x) ?_
    rintro n rfl
    refine EvP.bind (vec_ok g0 g1 g2 x) ?_
    rintro g rfl
    refine EvP.bind (vec_ok y0 y1 y2 x) ?_
    rintro y rfl
    refine EvP.yes (by rw [k1]) ?_
    refine EvP.bind (vec_ok c0 c1 c2 x) ?_
    rintro _ rfl
    refine EvP.no (by omega) ?_
    refine EvP.bind (vec_ok c0 c1 c2 x) ?_
    rintro _ rfl
    refine EvP.step ?_
    simp only [laws_FnChargeKeeps.j2]
    refine EvP.no (by simp only [decide_eq_true_iff]; omega) ?_
    refine EvP.bind (vec_ok n0 n1 n2 x) ?_
    rintro _ rfl
    refine EvP.bind (vec_ok y0 y1 y2 x) ?_
    rintro _ rfl
    refine EvP.no (by omega) ?_
    refine EvP.bind (vec_ok n0 n1 n2 x) ?_
    rintro _ rfl
    refine EvP.bind (vec_ok y0 y1 y2 x) ?_
    rintro _ rfl
    refine EvP.no (by omega) ?_
    simp only [w64 (x := x + 1) (by omega) (by omega)]
    exact ih (x + 1) (by omega) (by omega)
theorem FnChargeKeeps : laws_FnChargeKeeps.Pure := by
  intro l _ _ hw
  refine EvP.rounds ?_
  unfold laws_FnChargeKeeps.f
  refine EvP.bind (big_ok l) (fun b hb => ?_)
  refine EvP.ite (fun _ => EvP.ret rfl) (fun _ => ?_)
  refine EvP.bind (drawCharge (Bs.of hw)) ?_
  rintro ⟨g0, g1, g2, y0, y1, y2⟩ _
  dsimp only
  refine EvP.bind (charge_ok g0 g1 g2 y0 y1 y2) ?_
  rintro r ⟨hr, hr'⟩
  have bad : ¬ (In 1 1000 g0 g1 g2 ∧ In (-1000000) 1000000 y0 y1 y2) → EvP (fun k => laws_FnChargeKeeps.j0 k true g0 g1 g2 y0 y1 y2 r.1 r.2.1 r.2.2.1 r.2.2.2.1 r.2.2.2.2.1 r.2.2.2.2.2) (fun r => r = true) := by
    intro h
    rw [hr' h]
    refine EvP.step ?_
    simp only [laws_FnChargeKeeps.j0]
    exact EvP.yes (by simp) (EvP.yes (by simp) (EvP.ret (by simp)))
  refine EvP.bind (specCostOk_ok g0 g1 g2) (fun t ht => ?_)
  refine EvP.ite (fun h1 => ?_) (fun h1 => bad (fun z => h1 (ht.2 z.1)))
  refine EvP.bind (specCarryOk_ok y0 y1 y2) (fun u hu => ?_)
  cases u with
  | false => exact bad (fun z => by have := hu.2 z.2; cases this)
  | true =>
    have hg := ht.1 h1
    have hy := hu.1 rfl
    rw [hr ⟨hg, hy⟩]
    obtain ⟨a1, a2, a3⟩ := hg
    obtain ⟨b1, b2, b3⟩ := hy
    refine EvP.step ?_
    simp only [laws_FnChargeKeeps.j0]
    refine EvP.no (by simp) ?_
    exact keep_loop (keep_of a1.1 a1.2 b1.1 b1.2) (keep_of a2.1 a2.2 b2.1 b2.2) (keep_of a3.1 a3.2 b3.1 b3.2) 3 0 (by omega) (by omega)

end Go.Proofs.Ytbijdkmchdkgfaa.Pure
