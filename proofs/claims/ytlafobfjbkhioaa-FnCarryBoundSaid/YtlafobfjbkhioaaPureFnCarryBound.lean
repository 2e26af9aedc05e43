/- Whatever deeds are done: with at most n packets under way at once, the charges' sum differs from the costs of those that came home by at most n times the greatest cost on each resource. No condition. -/
import Derived.Test.YtlafobfjbkhioaaPFnCarryBoundx
import Derived.Laws.BitsLemmas
namespace Go.Proofs.Ytlafobfjbkhioaa.Pure
open Go.RowKit Go.Proofs.Ytlafobfjbkhioaa.PFnCarryBound Go.Proofs.YtlafobfjbkhioaaW.PrintWords Go.Proofs.YtlafobfjbkhioaaW.PrintLast Go.Proofs.YtlafobfjbkhioaaW.PrintMore
set_option linter.unusedVariables false
set_option linter.unusedSimpArgs false

def EvP {α : Type} (g : Nat → Option α) (P : α → Prop) : Prop := ∃ r, Ev g r ∧ P r
theorem EvP.of {α : Type} {o : Option α} {P : α → Prop} (h : ∃ r, o = some r ∧ P r) : EvP (fun _ => o) P := by
  obtain ⟨r, rfl, hp⟩ := h
  exact ⟨r, Ev.now r, hp⟩
theorem EvP.ret {α : Type} {r : α} {P : α → Prop} (h : P r) : EvP (fun _ => some r) P := ⟨r, Ev.now r, h⟩
theorem EvP.bind {α β : Type} {g : Nat → Option α} {f : Nat → α → Option β} {P : α → Prop} {Q : β → Prop} (h : EvP g P) (k : ∀ r, P r → EvP (fun n => f n r) Q) : EvP (fun n => (g n).bind (f n)) Q := by
  obtain ⟨r, hr, hp⟩ := h
  obtain ⟨q, hq, hQ⟩ := k r hp
  exact ⟨q, Ev.bind hr hq, hQ⟩
theorem EvP.ite {α : Type} {c : Prop} [Decidable c] {a b : Nat → Option α} {Q : α → Prop} (h : c → EvP a Q) (h' : ¬ c → EvP b Q) : EvP (fun n => if c then a n else b n) Q := by
  by_cases hc : c
  · simp only [if_pos hc]; exact h hc
  · simp only [if_neg hc]; exact h' hc
theorem EvP.yes {α : Type} {c : Prop} [Decidable c] {a b : Nat → Option α} {Q : α → Prop} (hc : c) (h : EvP a Q) : EvP (fun n => if c then a n else b n) Q := by
  simp only [if_pos hc]; exact h
theorem EvP.no {α : Type} {c : Prop} [Decidable c] {a b : Nat → Option α} {Q : α → Prop} (hc : ¬ c) (h : EvP b Q) : EvP (fun n => if c then a n else b n) Q := by
  simp only [if_neg hc]; exact h
theorem EvP.step {α : Type} {g : Nat → Option α} {Q : α → Prop} (h : EvP (fun k => g (k + 1)) Q) : EvP g Q := by
  obtain ⟨r, hr, hq⟩ := h
  exact ⟨r, Ev.step (fun _ => rfl) hr, hq⟩
theorem EvP.mono {α : Type} {g : Nat → Option α} {P Q : α → Prop} (h : EvP g P) (hpq : ∀ r, P r → Q r) : EvP g Q := by
  obtain ⟨r, hr, hp⟩ := h
  exact ⟨r, hr, hpq r hp⟩
theorem EvP.rounds {α : Type} {g : Nat → Option α} {r : α} (h : EvP g (fun x => x = r)) : ∃ k, g k = some r := by
  obtain ⟨q, hq, rfl⟩ := h
  exact hq.rounds
theorem w64 {x : Int} (h0 : -9223372036854775808 ≤ x) (h1 : x ≤ 9223372036854775807) : wrap64 x = x := by unfold wrap64; omega
theorem w64_lo (x : Int) : -9223372036854775808 ≤ wrap64 x := by unfold wrap64; omega
theorem w64_hi (x : Int) : wrap64 x ≤ 9223372036854775807 := by unfold wrap64; omega
theorem tmod_pos {a b : Int} (h : 0 ≤ a) : Int.tmod a b = a % b := Int.tmod_eq_emod_of_nonneg h
theorem tdiv_pos {a b : Int} (h : 0 ≤ a) : Int.tdiv a b = a / b := Int.tdiv_eq_ediv_of_nonneg h
def Bs (s : List Int) : Prop := ∀ x ∈ s, 0 ≤ x ∧ x ≤ 255
theorem Bs.drop {s : List Int} (h : Bs s) (n : Nat) : Bs (s.drop n) := fun y hy => h y (List.mem_of_mem_drop hy)
theorem Bs.set {s : List Int} (h : Bs s) (i : Nat) {x : Int} (h0 : 0 ≤ x) (h1 : x ≤ 255) : Bs (s.set i x) := fun y hy => by
  rcases List.mem_or_eq_of_mem_set hy with hy | rfl
  · exact h y hy
  · exact ⟨h0, h1⟩
theorem Bs.rdb {s : List Int} (h : Bs s) (i : Int) : 0 ≤ rd s i ∧ rd s i ≤ 255 := by
  by_cases hi : i.toNat < s.length
  · unfold rd
    rw [List.getD_eq_getElem?_getD, List.getElem?_eq_getElem hi]
    exact h _ (List.getElem_mem hi)
  · unfold rd
    rw [List.getD_eq_getElem?_getD, List.getElem?_eq_none (by omega)]
    exact ⟨by decide, by decide⟩
theorem Bs.of {s : List Int} (h : ∀ x ∈ s, (Lit.int .u8 x).wf = true) : Bs s := fun x hx => by
  have := h x hx
  simp [Lit.wf, IntKind.min, IntKind.max, IntKind.bits, IntKind.signed] at this
  omega
theorem mx_le (a b : Int) : a ≤ mx a b ∧ b ≤ mx a b ∧ (mx a b = a ∨ mx a b = b) := by unfold mx; split <;> omega
structure Cu (s : List Int) (p sd B : Int) : Prop where
  bs : Bs s
  p0 : 0 ≤ p
  p1 : p ≤ B
  s0 : 0 ≤ sd
  s1 : sd ≤ 65520
theorem Cu.le {s : List Int} {p sd B B' : Int} (h : Cu s p sd B) (hB : B ≤ B') : Cu s p sd B' := ⟨h.bs, h.p0, by have := h.p1; omega, h.s0, h.s1⟩
theorem seed_ok {sd : Int} (h0 : 0 ≤ sd) (h1 : sd ≤ 65520) : Int.tmod (wrap64 ((wrap64 (sd * 1103)) + 12345)) 65521 = (sd * 1103 + 12345) % 65521 := by
  rw [w64 (x := sd * 1103) (by omega) (by omega), w64 (by omega) (by omega), tmod_pos (by omega)]
theorem rem_ok {x n : Int} (h0 : 0 ≤ x) (hn : 2 ≤ n) : 0 ≤ Int.tmod x n ∧ Int.tmod x n < n := by
  rw [tmod_pos h0]
  exact ⟨Int.emod_nonneg _ (by omega), Int.emod_lt_of_pos _ (by omega)⟩
theorem pick_ok {s : List Int} {p sd B n : Int} (h : Cu s p sd B) (hB : B ≤ 4611686018427387904) :
    ∃ r, spec_l01Cur_pick.f s p sd n = some r ∧ Cu s r.2.1 r.2.2 (B + 1) ∧ 0 ≤ r.1 ∧ (r.1 < n ∨ r.1 = 0) := by
  obtain ⟨hb, p0, p1, s0, s1⟩ := h
  unfold spec_l01Cur_pick.f
  rw [seed_ok s0 s1, w64 (x := p + 1) (by omega) (by omega)]
  have e0 : 0 ≤ (sd * 1103 + 12345) % 65521 ∧ (sd * 1103 + 12345) % 65521 ≤ 65520 := by omega
  generalize (sd * 1103 + 12345) % 65521 = q at e0
  by_cases hn : n < 2
  · rw [if_pos hn]
    exact ⟨_, rfl, ⟨hb, p0, by dsimp only; omega, s0, s1⟩, by dsimp only; omega, .inr rfl⟩
  rw [if_neg hn]
  by_cases hp : p < (s.length : Int)
  · rw [if_pos hp, if_pos p0, if_neg (by omega)]
    have hr := hb.rdb p
    have hm := rem_ok hr.1 (show (2 : Int) ≤ n by omega)
    rw [w64 (x := rd s p) (by omega) (by omega)]
    exact ⟨_, rfl, ⟨hb, by dsimp only; omega, by dsimp only; omega, s0, s1⟩, hm.1, .inl hm.2⟩
  rw [if_neg hp]
  by_cases hl : (s.length : Int) > 0
  · have hm : 0 ≤ Int.tmod p (s.length : Int) ∧ Int.tmod p (s.length : Int) < (s.length : Int) := by
      rw [tmod_pos p0]
      exact ⟨Int.emod_nonneg _ (by omega), Int.emod_lt_of_pos _ (by omega)⟩
    rw [if_pos hl, if_neg (by omega), if_pos hm.1, if_pos hm.2, if_neg (by omega)]
    have hr := hb.rdb (Int.tmod p (s.length : Int))
    have hv := rem_ok (x := wrap64 ((wrap64 (Int.tdiv q 7)) + (wrap64 (rd s (Int.tmod p (s.length : Int)))))) (n := n) (by
      rw [tdiv_pos e0.1, w64 (x := q / 7) (by omega) (by omega), w64 (x := rd s _) (by omega) (by omega), w64 (by omega) (by omega)]
      omega) (by omega)
    exact ⟨_, rfl, ⟨hb, by dsimp only; omega, by dsimp only; omega, e0.1, e0.2⟩, hv.1, .inl hv.2⟩
  · rw [if_neg hl, if_neg (by omega)]
    have hv := rem_ok (x := 0) (n := n) (by omega) (by omega)
    rw [tmod_pos (by omega)] at hv
    exact ⟨_, rfl, ⟨hb, by dsimp only; omega, by dsimp only; omega, e0.1, e0.2⟩, hv.1, .inl hv.2⟩
theorem pickE {s : List Int} {p sd B n : Int} (h : Cu s p sd B) (hB : B ≤ 4611686018427387904) :
    EvP (fun _ => spec_l01Cur_pick.f s p sd n) (fun r => Cu s r.2.1 r.2.2 (B + 1) ∧ 0 ≤ r.1 ∧ (r.1 < n ∨ r.1 = 0)) := EvP.of (pick_ok h hB)
theorem open_ok {s : List Int} (hb : Bs s) : EvP (fun _ => spec_l01Open.f s) (fun r => r.1 = s ∧ Cu s r.2.1 r.2.2 0) := by
  refine EvP.ret ⟨rfl, hb, ?_, ?_, ?_, ?_⟩ <;> dsimp only <;> omega
theorem big_ok (s : List Int) : EvP (fun _ => laws_big.f s) (fun b => b = false → (s.length : Int) ≤ 1048576) := by
  unfold laws_big.f
  refine EvP.ret (fun h => ?_)
  simp at h
  omega
theorem size_ok {s : List Int} {p sd B n : Int} (h : Cu s p sd B) (hB : B ≤ 4611686018427387904) (hl : (s.length : Int) ≤ 1048576) (h0 : 0 ≤ n) (hn : n ≤ 1000) :
    EvP (fun _ => spec_l01Cur_size.f s p sd n) (fun r => Cu s r.2.1 r.2.2 (B + 1) ∧ 0 ≤ r.1 ∧ r.1 ≤ n) := by
  unfold spec_l01Cur_size.f
  have e : 0 ≤ mn n (wrap64 (1 + (wrap64 ((s.length : Int) / 8)))) ∧ mn n (wrap64 (1 + (wrap64 ((s.length : Int) / 8)))) ≤ n := by
    rw [w64 (x := (s.length : Int) / 8) (by omega) (by omega), w64 (by omega) (by omega)]
    unfold mn; omega
  generalize mn n (wrap64 (1 + (wrap64 ((s.length : Int) / 8)))) = m at e
  rw [w64 (x := m + 1) (by omega) (by omega)]
  refine EvP.bind (pickE h hB) ?_
  rintro ⟨x, p', s'⟩ ⟨c, x0, x1⟩
  dsimp only at *
  exact EvP.ret ⟨c, x0, by dsimp only; omega⟩
theorem once_ok {s : List Int} {p sd B n : Int} (h : Cu s p sd B) (hB : B ≤ 4611686018427387904) :
    EvP (fun _ => spec_l01Cur_once.f s p sd n) (fun r => Cu s r.2.1 r.2.2 (B + 1)) := by
  unfold spec_l01Cur_once.f
  refine EvP.bind (pickE h hB) ?_
  rintro ⟨x, p', s'⟩ ⟨c, _, _⟩
  exact EvP.ret c
theorem w64r {x : Int} : -9223372036854775808 ≤ wrap64 x ∧ wrap64 x ≤ 9223372036854775807 := ⟨w64_lo x, w64_hi x⟩
theorem raw_ok {s : List Int} {p sd B : Int} (h : Cu s p sd B) (hB : B ≤ 1000000000000) :
    EvP (fun _ => spec_l01Cur_raw.f s p sd) (fun r => Cu s r.2.1 r.2.2 (B + 2) ∧ -9223372036854775808 ≤ r.1 ∧ r.1 ≤ 9223372036854775807) := by
  unfold spec_l01Cur_raw.f
  refine EvP.bind (pickE (n := 8) h (by omega)) ?_
  rintro ⟨a, p1, s1⟩ ⟨c1, a0, a1⟩
  dsimp only at *
  refine EvP.ite (fun _ => ?_) (fun _ => EvP.ite (fun _ => ?_) (fun _ => ?_))
  · refine EvP.bind (pickE (n := 256) c1 (by omega)) ?_
    rintro ⟨b, p2, s2⟩ ⟨c2, b0, b1⟩
    exact EvP.ret ⟨c2.le (by omega), w64r⟩
  · refine EvP.bind (EvP.ret (P := fun y => y.length = 8 ∧ ∀ i : Int, 0 ≤ i → i < 8 → -9223372036854775808 ≤ rd y i ∧ rd y i ≤ 9223372036854775807) ⟨rfl, fun i h0 h8 => ?_⟩) ?_
    · have : i = 0 ∨ i = 1 ∨ i = 2 ∨ i = 3 ∨ i = 4 ∨ i = 5 ∨ i = 6 ∨ i = 7 := by omega
      rcases this with e | e | e | e | e | e | e | e <;> rw [e] <;> decide
    · rintro y ⟨hy, hv⟩
      refine EvP.bind (pickE (n := 8) c1 (by omega)) ?_
      rintro ⟨b, p2, s2⟩ ⟨c2, b0, b1⟩
      dsimp only at *
      exact EvP.yes b0 (EvP.yes (by omega) (EvP.ret ⟨c2.le (by omega), hv b b0 (by omega)⟩))
  · refine EvP.bind (pickE (n := 14) c1 (by omega)) ?_
    rintro ⟨b, p2, s2⟩ ⟨c2, b0, b1⟩
    exact EvP.ret ⟨c2.le (by omega), w64r⟩
theorem wide_ok {s : List Int} {p sd B n : Int} (h : Cu s p sd B) (hB : B ≤ 1000000000000) (hn : 2 ≤ n) :
    EvP (fun _ => spec_l01Cur_wide.f s p sd n) (fun r => Cu s r.2.1 r.2.2 (B + 3) ∧ 0 ≤ r.1 ∧ r.1 < n) := by
  unfold spec_l01Cur_wide.f
  refine EvP.bind (pickE (n := 256) h (by omega)) ?_
  rintro ⟨a, p1, s1⟩ ⟨c1, a0, a1⟩
  dsimp only at *
  refine EvP.bind (pickE (n := 256) c1 (by omega)) ?_
  rintro ⟨b, p2, s2⟩ ⟨c2, b0, b1⟩
  dsimp only at *
  refine EvP.bind (pickE (n := 256) c2 (by omega)) ?_
  rintro ⟨d, p3, s3⟩ ⟨c3, d0, d1⟩
  dsimp only at *
  refine EvP.no (by omega) (EvP.ret ⟨c3.le (by omega), ?_⟩)
  dsimp only
  rw [w64 (x := 65536 * a) (by omega) (by omega), w64 (x := 256 * b) (by omega) (by omega), w64 (x := 65536 * a + 256 * b) (by omega) (by omega), w64 (by omega) (by omega)]
  exact rem_ok (by omega) hn
theorem rd_set (l : List Int) (i j : Int) (v : Int) (hi : 0 ≤ i) (hj : 0 ≤ j) (hl : i < (l.length : Int)) : rd (l.set i.toNat v) j = if j = i then v else rd l j := by
  unfold rd
  rw [List.getD_eq_getElem?_getD, List.getD_eq_getElem?_getD]
  by_cases h : j = i
  · subst h
    rw [if_pos rfl, List.getElem?_set_self (by omega)]; rfl
  · rw [if_neg h, List.getElem?_set_ne (by omega)]
theorem specAll_ok (a b c x y : Int) : EvP (fun _ => spec_l13All.f a b c x y) (fun r => r = true ↔ (x ≤ a ∧ a ≤ y) ∧ (x ≤ b ∧ b ≤ y) ∧ x ≤ c ∧ c ≤ y) := by
  unfold spec_l13All.f
  refine EvP.ite (fun h1 => ?_) (fun h => EvP.ret ⟨(fun h => by cases h), fun z => by omega⟩)
  refine EvP.ite (fun h2 => ?_) (fun h => EvP.ret ⟨(fun h => by cases h), fun z => by omega⟩)
  refine EvP.ite (fun h3 => ?_) (fun h => EvP.ret ⟨(fun h => by cases h), fun z => by omega⟩)
  refine EvP.ite (fun h4 => ?_) (fun h => EvP.ret ⟨(fun h => by cases h), fun z => by omega⟩)
  refine EvP.ite (fun h5 => EvP.ret ?_) (fun h => EvP.ret ⟨(fun h => by cases h), fun z => by omega⟩)
  rw [decide_eq_true_iff]; omega
theorem within_ev (a b c : Int) : EvP (fun _ => impl_within.f a b c) (fun r => r = true ↔ b ≤ a ∧ a ≤ c) := by
  unfold impl_within.f
  refine EvP.ite (fun h => EvP.ret ?_) (fun h => EvP.ret ⟨(fun h => by cases h), fun z => by omega⟩)
  rw [decide_eq_true_iff]; omega
theorem isFrom_ok (a b c x y : Int) : EvP (fun _ => impl_Vec_isFrom.f a b c x y) (fun r => r = true ↔ (x ≤ a ∧ a ≤ y) ∧ (x ≤ b ∧ b ≤ y) ∧ x ≤ c ∧ c ≤ y) := by
  unfold impl_Vec_isFrom.f
  refine EvP.bind (within_ev a x y) (fun t ht => ?_)
  refine EvP.ite (fun h1 => ?_) (fun h => EvP.ret ⟨(fun h => by cases h), fun z => absurd (ht.2 z.1) h⟩)
  refine EvP.bind (within_ev b x y) (fun u hu => ?_)
  refine EvP.ite (fun h2 => ?_) (fun h => EvP.ret ⟨(fun h => by cases h), fun z => absurd (hu.2 z.2.1) h⟩)
  refine EvP.bind (within_ev c x y) (fun v hv => EvP.ret ?_)
  have h3 := ht.1 h1
  have h4 := hu.1 h2
  rw [hv]; exact ⟨fun h => ⟨h3, h4, h⟩, fun z => z.2.2⟩
theorem rd4 (a b c d : Int) {i : Int} (h0 : 0 ≤ i) (h1 : i < 4) : rd [a, b, c, d] i = a ∨ rd [a, b, c, d] i = b ∨ rd [a, b, c, d] i = c ∨ rd [a, b, c, d] i = d := by
  have : i = 0 ∨ i = 1 ∨ i = 2 ∨ i = 3 := by omega
  rcases this with rfl | rfl | rfl | rfl
  · exact Or.inl rfl
  · exact Or.inr (Or.inl rfl)
  · exact Or.inr (Or.inr (Or.inl rfl))
  · exact Or.inr (Or.inr (Or.inr rfl))
theorem drawCost {s : List Int} {p sd B a : Int} (h : Cu s p sd B) (hB : B ≤ 100000000000) (h0 : 2 ≤ a) (h1 : a ≤ 10000000) :
    EvP (fun _ => spec_l01Cur_cost.f s p sd a) (fun r => Cu s r.2.2.2.1 r.2.2.2.2 (B + 10)) := by
  unfold spec_l01Cur_cost.f
  refine EvP.bind (P := fun r => r = [9, 100, a, a]) (EvP.ret rfl) ?_
  rintro _ rfl
  refine EvP.bind (pickE (n := 4) h (by omega)) ?_
  rintro ⟨i, p1, s1⟩ ⟨c1, i0, i1⟩
  dsimp only at *
  have hi := rd4 9 100 a a i0 (by omega)
  refine EvP.yes i0 (EvP.yes (by simp only [List.length_cons, List.length_nil]; omega) ?_)
  generalize rd [9, 100, a, a] i = n at hi
  refine EvP.bind (wide_ok c1 (by omega) (by omega)) ?_
  rintro ⟨x, p2, s2⟩ ⟨c2, _, _⟩
  refine EvP.bind (wide_ok c2 (by omega) (by omega)) ?_
  rintro ⟨y, p3, s3⟩ ⟨c3, _, _⟩
  refine EvP.bind (wide_ok c3 (by omega) (by omega)) ?_
  rintro ⟨z, p4, s4⟩ ⟨c4, _, _⟩
  exact EvP.ret (c4.le (by omega))
def In (x y a b c : Int) : Prop := (x ≤ a ∧ a ≤ y) ∧ (x ≤ b ∧ b ≤ y) ∧ x ≤ c ∧ c ≤ y
theorem specCostOk_ok (a b c : Int) : EvP (fun _ => spec_CostOk.f a b c) (fun r => r = true ↔ In 1 1000 a b c) := by
  unfold spec_CostOk.f
  exact EvP.bind (specAll_ok a b c _ _) (fun r h => EvP.ret h)
theorem vec_ok (a b c j : Int) : EvP (fun _ => laws_vec.f a b c j) (fun r => r = if j = 0 then a else if j = 1 then b else c) := by
  unfold laws_vec.f
  refine EvP.ite (fun h => EvP.ret (by rw [if_pos h])) (fun h => ?_)
  rw [if_neg h]
  exact EvP.ite (fun h => EvP.ret (by rw [if_pos h])) (fun h => EvP.ret (by rw [if_neg h]))
theorem specCarryOk_ok (a b c : Int) : EvP (fun _ => spec_CarryOk.f a b c) (fun r => r = true ↔ In (-1000000) 1000000 a b c) := by
  unfold spec_CarryOk.f
  exact EvP.bind (specAll_ok a b c _ _) (fun r h => EvP.ret h)
theorem implCostOk_ok (a b c : Int) : EvP (fun _ => impl_CostOk.f a b c) (fun r => r = true ↔ In 1 1000 a b c) := by
  unfold impl_CostOk.f
  exact EvP.bind (isFrom_ok a b c _ _) (fun r h => EvP.ret h)
theorem implCarryOk_ok (a b c : Int) : EvP (fun _ => impl_CarryOk.f a b c) (fun r => r = true ↔ In (-1000000) 1000000 a b c) := by
  unfold impl_CarryOk.f
  exact EvP.bind (isFrom_ok a b c _ _) (fun r h => EvP.ret h)
theorem drawVec {s : List Int} {p sd B : Int} (h : Cu s p sd B) (hB : B ≤ 100000000000) :
    EvP (fun _ => spec_l01Cur_vec.f s p sd) (fun r => Cu s r.2.2.2.1 r.2.2.2.2 (B + 10)) := by
  unfold spec_l01Cur_vec.f
  refine EvP.bind (once_ok h (by omega)) ?_
  rintro ⟨o, p1, s1⟩ c1
  dsimp only at *
  refine EvP.ite (fun _ => ?_) (fun _ => ?_)
  · refine EvP.bind (raw_ok c1 (by omega)) ?_
    rintro ⟨x, p2, s2⟩ ⟨c2, _, _⟩
    refine EvP.bind (raw_ok c2 (by omega)) ?_
    rintro ⟨y, p3, s3⟩ ⟨c3, _, _⟩
    refine EvP.bind (raw_ok c3 (by omega)) ?_
    rintro ⟨z, p4, s4⟩ ⟨c4, _, _⟩
    exact EvP.ret (c4.le (by omega))
  · refine EvP.bind (P := fun r => r.length = 5) (EvP.ret rfl) (fun xs hx => ?_)
    refine EvP.bind (pickE (n := 5) c1 (by omega)) ?_
    rintro ⟨i, p2, s2⟩ ⟨c2, i0, i1⟩
    dsimp only at *
    refine EvP.yes i0 (EvP.yes (by omega) ?_)
    refine EvP.bind (pickE (n := 256) c2 (by omega)) ?_
    rintro ⟨x, p3, s3⟩ ⟨c3, _, _⟩
    refine EvP.bind (pickE (n := 256) c3 (by omega)) ?_
    rintro ⟨y, p4, s4⟩ ⟨c4, _, _⟩
    refine EvP.bind (pickE (n := 256) c4 (by omega)) ?_
    rintro ⟨z, p5, s5⟩ ⟨c5, _, _⟩
    exact EvP.ret (c5.le (by omega))

/-! ### a charge (impl_Vec_each_133: the literal of Charge in round a) -/
def chg (g y : Int) : Int := if g + y < 1 then 1 else if g + y > 2000 then 2000 else g + y
theorem clip_ok (a lo hi : Int) : EvP (fun _ => impl_Clip.f a lo hi) (fun r => r = if a < lo then lo else if a > hi then hi else a) := by
  unfold impl_Clip.f
  refine EvP.ite (fun h => EvP.ret (by rw [if_pos h])) (fun h => ?_)
  rw [if_neg h]
  exact EvP.ite (fun h => EvP.ret (by rw [if_pos h])) (fun h => EvP.ret (by rw [if_neg h]))
theorem eachCh_ok (a b c : Int) : EvP (fun _ => impl_Vec_each_133.f a b c) (fun r => r = (if a < 1 then 1 else if a > 2000 then 2000 else a, if b < 1 then 1 else if b > 2000 then 2000 else b, if c < 1 then 1 else if c > 2000 then 2000 else c)) := by
  unfold impl_Vec_each_133.f impl_Charge_1.f
  refine EvP.bind (EvP.bind (clip_ok a 1 2000) (fun r h => EvP.ret h)) ?_
  rintro _ rfl
  refine EvP.bind (EvP.bind (clip_ok b 1 2000) (fun r h => EvP.ret h)) ?_
  rintro _ rfl
  refine EvP.bind (EvP.bind (clip_ok c 1 2000) (fun r h => EvP.ret h)) ?_
  rintro _ rfl
  exact EvP.ret rfl
theorem plus_ok (a b c d e f : Int) : EvP (fun _ => impl_Vec_plus.f a b c d e f) (fun r => r = (wrap64 (a + d), wrap64 (b + e), wrap64 (c + f))) := EvP.of ⟨_, rfl, rfl⟩
theorem minus_ok (a b c d e f : Int) : EvP (fun _ => impl_Vec_minus.f a b c d e f) (fun r => r = (wrap64 (a - d), wrap64 (b - e), wrap64 (c - f))) := EvP.of ⟨_, rfl, rfl⟩
theorem charge_ok (g0 g1 g2 y0 y1 y2 : Int) : EvP (fun k => impl_Charge.f k g0 g1 g2 y0 y1 y2) (fun r =>
    (In 1 1000 g0 g1 g2 ∧ In (-1000000) 1000000 y0 y1 y2 → r = (chg g0 y0, chg g1 y1, chg g2 y2, g0 + y0 - chg g0 y0, g1 + y1 - chg g1 y1, g2 + y2 - chg g2 y2)) ∧
    (¬ (In 1 1000 g0 g1 g2 ∧ In (-1000000) 1000000 y0 y1 y2) → r = (0, 0, 0, 0, 0, 0))) := by
  unfold impl_Charge.f
  have bad : ¬ (In 1 1000 g0 g1 g2 ∧ In (-1000000) 1000000 y0 y1 y2) → EvP (fun k => impl_Charge.j0 k true g0 g1 g2 y0 y1 y2) (fun r =>
    (In 1 1000 g0 g1 g2 ∧ In (-1000000) 1000000 y0 y1 y2 → r = (chg g0 y0, chg g1 y1, chg g2 y2, g0 + y0 - chg g0 y0, g1 + y1 - chg g1 y1, g2 + y2 - chg g2 y2)) ∧
    (¬ (In 1 1000 g0 g1 g2 ∧ In (-1000000) 1000000 y0 y1 y2) → r = (0, 0, 0, 0, 0, 0))) := by
    intro h
    refine EvP.step ?_
    simp only [impl_Charge.j0]
    exact EvP.yes (by simp) (EvP.ret ⟨fun z => absurd z h, fun _ => rfl⟩)
  refine EvP.bind (implCostOk_ok g0 g1 g2) (fun t ht => ?_)
  refine EvP.ite (fun h1 => ?_) (fun h1 => bad (fun z => h1 (ht.2 z.1)))
  refine EvP.bind (implCarryOk_ok y0 y1 y2) (fun u hu => ?_)
  cases u with
  | false => exact bad (fun z => by have := hu.2 z.2; cases this)
  | true =>
    have hg := ht.1 h1
    have hy := hu.1 rfl
    obtain ⟨a1, a2, a3⟩ := id hg
    obtain ⟨b1, b2, b3⟩ := id hy
    refine EvP.step ?_
    simp only [impl_Charge.j0]
    refine EvP.no (by simp) ?_
    refine EvP.bind (plus_ok g0 g1 g2 y0 y1 y2) ?_
    rintro _ rfl
    dsimp only
    rw [w64 (x := g0 + y0) (by omega) (by omega), w64 (x := g1 + y1) (by omega) (by omega), w64 (x := g2 + y2) (by omega) (by omega)]
    refine EvP.bind (eachCh_ok _ _ _) ?_
    rintro _ rfl
    dsimp only
    refine EvP.bind (minus_ok _ _ _ _ _ _) ?_
    rintro _ rfl
    refine EvP.ret ⟨fun _ => ?_, fun z => absurd ⟨hg, hy⟩ z⟩
    dsimp only
    unfold chg
    rw [w64 (by split <;> (try split) <;> omega) (by split <;> (try split) <;> omega), w64 (by split <;> (try split) <;> omega) (by split <;> (try split) <;> omega), w64 (by split <;> (try split) <;> omega) (by split <;> (try split) <;> omega)]
/-! ### the reference's charge, settling -/
theorem specCharge_step {g y x : Int} {gs ys out : List Int} {P : Int × Int × Int × Int × Int × Int → Prop} (hx : 0 ≤ x) (hx3 : x < 3) (hg : gs.length = 3) (hy : ys.length = 3) (ho : out.length = 3) (eg : rd gs x = g) (ey : rd ys x = y) (g0 : 1 ≤ g ∧ g ≤ 1000) (y0 : -1000000 ≤ y ∧ y ≤ 1000000)
    (h : EvP (fun k => spec_Charge.l0 k gs (ys.set x.toNat (g + y - chg g y)) (out.set x.toNat (chg g y)) (x + 1)) P) : EvP (fun k => spec_Charge.l0 k gs ys out x) P := by
  have hc : 1 ≤ chg g y ∧ chg g y ≤ 2000 := by unfold chg; split <;> (try split) <;> omega
  refine EvP.step ?_
  simp only [spec_Charge.l0]
  refine EvP.yes hx3 (EvP.yes hx (EvP.yes (by omega) (EvP.yes (by omega) ?_)))
  rw [eg, ey, w64 (x := g + y) (by omega) (by omega)]
  refine EvP.bind (P := fun r => r = chg g y) ?_ ?_
  · unfold spec_Clip.f chg
    exact EvP.of (by split <;> (try split) <;> exact ⟨_, rfl, rfl⟩)
  rintro _ rfl
  refine EvP.yes (by omega) (EvP.bind (EvP.ret rfl) ?_)
  rintro _ rfl
  rw [rd_set _ _ _ _ hx hx (by omega), if_pos rfl, w64 (x := y + g) (by omega) (by omega), w64 (x := y + g - chg g y) (by omega) (by omega), w64 (x := x + 1) (by omega) (by omega), show y + g = g + y by omega]
  exact h
theorem specCharge_in {g0 g1 g2 y0 y1 y2 : Int} (hg : In 1 1000 g0 g1 g2) (hy : In (-1000000) 1000000 y0 y1 y2) : EvP (fun k => spec_Charge.f k g0 g1 g2 y0 y1 y2) (fun r => r = (chg g0 y0, chg g1 y1, chg g2 y2, g0 + y0 - chg g0 y0, g1 + y1 - chg g1 y1, g2 + y2 - chg g2 y2)) := by
  unfold spec_Charge.f
  refine EvP.bind (specCostOk_ok g0 g1 g2) (fun t ht => EvP.yes (ht.2 hg) ?_)
  refine EvP.bind (specCarryOk_ok y0 y1 y2) (fun t ht => ?_)
  rw [ht.2 hy]
  refine EvP.step ?_
  simp only [spec_Charge.j0]
  refine EvP.no (by simp) (EvP.bind (P := fun r => r = [g0, g1, g2]) (EvP.ret rfl) ?_)
  rintro _ rfl
  refine EvP.bind (P := fun r => r = [y0, y1, y2]) (EvP.ret rfl) ?_
  rintro _ rfl
  refine specCharge_step (g := g0) (y := y0) (by decide) (by decide) rfl rfl rfl rfl rfl hg.1 hy.1 ?_
  refine specCharge_step (g := g1) (y := y1) (by decide) (by decide) rfl rfl rfl rfl rfl hg.2.1 hy.2.1 ?_
  refine specCharge_step (g := g2) (y := y2) (by decide) (by decide) rfl rfl rfl rfl rfl hg.2.2 hy.2.2 ?_
  refine EvP.step ?_
  simp only [spec_Charge.l0]
  refine EvP.no (by decide) ?_
  refine EvP.bind (P := fun r => r = (chg g0 y0, chg g1 y1, chg g2 y2)) (EvP.of ⟨_, rfl, rfl⟩) ?_
  rintro _ rfl
  refine EvP.bind (P := fun r => r = (g0 + y0 - chg g0 y0, g1 + y1 - chg g1 y1, g2 + y2 - chg g2 y2)) (EvP.of ⟨_, rfl, rfl⟩) ?_
  rintro _ rfl
  exact EvP.ret rfl
theorem specSettle_in {y0 y1 y2 g0 g1 g2 x0 x1 x2 : Int} (hy : In (-1000000) 1000000 y0 y1 y2) (hg : In 1 1000 g0 g1 g2) (hx : In 1 1000 x0 x1 x2) (ho : In (-1000000) 1000000 (y0 + x0 - g0) (y1 + x1 - g1) (y2 + x2 - g2)) :
    EvP (fun k => spec_Settle.f k y0 y1 y2 g0 g1 g2 x0 x1 x2) (fun r => r = (y0 + x0 - g0, y1 + x1 - g1, y2 + x2 - g2, true)) := by
  obtain ⟨⟨a1, a2⟩, ⟨a3, a4⟩, a5, a6⟩ := hy
  obtain ⟨⟨b1, b2⟩, ⟨b3, b4⟩, b5, b6⟩ := hg
  obtain ⟨⟨c1, c2⟩, ⟨c3, c4⟩, c5, c6⟩ := hx
  unfold spec_Settle.f
  refine EvP.bind (specCarryOk_ok y0 y1 y2) (fun t ht => EvP.yes (ht.2 ⟨⟨a1, a2⟩, ⟨a3, a4⟩, a5, a6⟩) ?_)
  refine EvP.bind (specCostOk_ok g0 g1 g2) (fun t ht => EvP.yes (ht.2 ⟨⟨b1, b2⟩, ⟨b3, b4⟩, b5, b6⟩) ?_)
  refine EvP.bind (specCostOk_ok x0 x1 x2) (fun t ht => ?_)
  rw [ht.2 ⟨⟨c1, c2⟩, ⟨c3, c4⟩, c5, c6⟩]
  refine EvP.step ?_
  simp only [spec_Settle.j0]
  refine EvP.no (by simp) ?_
  simp only [w64 (x := y0 + x0) (by omega) (by omega), w64 (x := y1 + x1) (by omega) (by omega), w64 (x := y2 + x2) (by omega) (by omega)]
  simp only [w64 (x := y0 + x0 - g0) (by omega) (by omega), w64 (x := y1 + x1 - g1) (by omega) (by omega), w64 (x := y2 + x2 - g2) (by omega) (by omega)]
  exact EvP.bind (specCarryOk_ok _ _ _) (fun t ht => EvP.yes (ht.2 ho) (EvP.ret rfl))
theorem implSettle_in {y0 y1 y2 g0 g1 g2 x0 x1 x2 : Int} (hy : In (-1000000) 1000000 y0 y1 y2) (hg : In 1 1000 g0 g1 g2) (hx : In 1 1000 x0 x1 x2) (ho : In (-1000000) 1000000 (y0 + x0 - g0) (y1 + x1 - g1) (y2 + x2 - g2)) :
    EvP (fun k => impl_Settle.f k y0 y1 y2 g0 g1 g2 x0 x1 x2) (fun r => r = (y0 + x0 - g0, y1 + x1 - g1, y2 + x2 - g2, true)) := by
  obtain ⟨⟨a1, a2⟩, ⟨a3, a4⟩, a5, a6⟩ := hy
  obtain ⟨⟨b1, b2⟩, ⟨b3, b4⟩, b5, b6⟩ := hg
  obtain ⟨⟨c1, c2⟩, ⟨c3, c4⟩, c5, c6⟩ := hx
  unfold impl_Settle.f
  refine EvP.bind (implCarryOk_ok y0 y1 y2) (fun t ht => EvP.yes (ht.2 ⟨⟨a1, a2⟩, ⟨a3, a4⟩, a5, a6⟩) ?_)
  refine EvP.bind (implCostOk_ok g0 g1 g2) (fun t ht => EvP.yes (ht.2 ⟨⟨b1, b2⟩, ⟨b3, b4⟩, b5, b6⟩) ?_)
  refine EvP.bind (implCostOk_ok x0 x1 x2) (fun t ht => ?_)
  rw [ht.2 ⟨⟨c1, c2⟩, ⟨c3, c4⟩, c5, c6⟩]
  refine EvP.step ?_
  simp only [impl_Settle.j0]
  refine EvP.no (by simp) (EvP.bind (plus_ok _ _ _ _ _ _) ?_)
  rintro _ rfl
  simp only [w64 (x := y0 + x0) (by omega) (by omega), w64 (x := y1 + x1) (by omega) (by omega), w64 (x := y2 + x2) (by omega) (by omega)]
  refine EvP.bind (minus_ok _ _ _ _ _ _) ?_
  rintro _ rfl
  simp only [w64 (x := y0 + x0 - g0) (by omega) (by omega), w64 (x := y1 + x1 - g1) (by omega) (by omega), w64 (x := y2 + x2 - g2) (by omega) (by omega)]
  exact EvP.bind (implCarryOk_ok _ _ _) (fun t ht => EvP.yes (ht.2 ho) (EvP.ret rfl))
/-! ### what is kept while deeds are done -/
def smv (g : S46 → Int) : List S46 → Int
  | [] => 0
  | x :: t => g x + smv g t
theorem smv_app (g : S46 → Int) (l m : List S46) : smv g (l ++ m) = smv g l + smv g m := by
  induction l with
  | nil => simp [smv]
  | cons x t ih => simp only [List.cons_append, smv, ih]; omega
theorem smv_in (g : S46 → Int) (a b : Int) : ∀ (l : List S46), (∀ x ∈ l, a ≤ g x ∧ g x ≤ b) → a * (l.length : Int) ≤ smv g l ∧ smv g l ≤ b * (l.length : Int)
  | [], _ => by simp [smv]
  | x :: t, h => by
    have ih := smv_in g a b t (fun y hy => h y (by simp [hy]))
    have hx := h x (by simp)
    rw [smv, List.length_cons, show ((t.length + 1 : Nat) : Int) = (t.length : Int) + 1 by omega, Int.mul_add, Int.mul_add]
    omega
/-- One resource: n under way, at most m at once; the charges' sum, the carry, the costs at home, the guesses under way. -/
def J (n m S y h O : Int) : Prop := S + y = h + O ∧ O - 999 * m - n ≤ y ∧ y ≤ O + 1000 * (m - n)
theorem J.send {n m S y h O g : Int} (j : J n m S y h O) (g0 : 1 ≤ g) (g1 : g ≤ 1000) (n0 : 0 ≤ n) (nm : n ≤ m) (o0 : n ≤ O) (o1 : O ≤ 1000 * n) : J (n + 1) (mx m (n + 1)) (S + chg g y) (g + y - chg g y) h (O + g) := by
  have := mx_le m (n + 1)
  unfold J chg at *
  split <;> (try split) <;> omega
theorem J.done {n m S y h O g x : Int} (j : J n m S y h O) (g0 : 1 ≤ g) (g1 : g ≤ 1000) (x0 : 1 ≤ x) (x1 : x ≤ 1000) : J (n - 1) m S (y + x - g) (h + x) (O - g) := by
  unfold J at *
  omega
theorem J.carry {n m S y h O : Int} (j : J n m S y h O) (n0 : 0 ≤ n) (nm : n ≤ m) (o0 : n ≤ O) (o1 : O ≤ 1000 * n) : -1000 * m ≤ y ∧ y ≤ 1000 * m := by
  unfold J at j
  omega
structure CS where
  C : List S46
  O : List S46
  y0 : Int
  y1 : Int
  y2 : Int
  h0 : Int
  h1 : Int
  h2 : Int
  m : Int
structure Inv (s : CS) (i : Int) : Prop where
  nm : (s.O.length : Int) ≤ s.m
  mi : s.m ≤ i
  ci : (s.C.length : Int) ≤ i
  cin : ∀ c ∈ s.C, In 1 2000 c.f0 c.f1 c.f2
  oin : ∀ c ∈ s.O, In 1 1000 c.f0 c.f1 c.f2
  j0 : J s.O.length s.m (smv (·.f0) s.C) s.y0 s.h0 (smv (·.f0) s.O)
  j1 : J s.O.length s.m (smv (·.f1) s.C) s.y1 s.h1 (smv (·.f1) s.O)
  j2 : J s.O.length s.m (smv (·.f2) s.C) s.y2 s.h2 (smv (·.f2) s.O)
theorem Inv.sums {s : CS} {i : Int} (v : Inv s i) : ((s.O.length : Int) ≤ smv (·.f0) s.O ∧ smv (·.f0) s.O ≤ 1000 * s.O.length) ∧ ((s.O.length : Int) ≤ smv (·.f1) s.O ∧ smv (·.f1) s.O ≤ 1000 * s.O.length) ∧ ((s.O.length : Int) ≤ smv (·.f2) s.O ∧ smv (·.f2) s.O ≤ 1000 * s.O.length) := by
  have a := smv_in (·.f0) 1 1000 s.O (fun x hx => (v.oin x hx).1)
  have b := smv_in (·.f1) 1 1000 s.O (fun x hx => (v.oin x hx).2.1)
  have c := smv_in (·.f2) 1 1000 s.O (fun x hx => (v.oin x hx).2.2)
  omega
theorem Inv.csums {s : CS} {i : Int} (v : Inv s i) : (0 ≤ smv (·.f0) s.C ∧ smv (·.f0) s.C ≤ 2000 * i) ∧ (0 ≤ smv (·.f1) s.C ∧ smv (·.f1) s.C ≤ 2000 * i) ∧ (0 ≤ smv (·.f2) s.C ∧ smv (·.f2) s.C ≤ 2000 * i) := by
  have a := smv_in (·.f0) 1 2000 s.C (fun x hx => (v.cin x hx).1)
  have b := smv_in (·.f1) 1 2000 s.C (fun x hx => (v.cin x hx).2.1)
  have c := smv_in (·.f2) 1 2000 s.C (fun x hx => (v.cin x hx).2.2)
  have := v.ci
  omega
theorem Inv.carry {s : CS} {i : Int} (v : Inv s i) (hi : i ≤ 1000) : In (-1000000) 1000000 s.y0 s.y1 s.y2 := by
  have z := v.sums
  have a := v.j0.carry (by omega) v.nm z.1.1 z.1.2
  have b := v.j1.carry (by omega) v.nm z.2.1.1 z.2.1.2
  have c := v.j2.carry (by omega) v.nm z.2.2.1 z.2.2.2
  have := v.mi
  exact ⟨⟨by omega, by omega⟩, ⟨by omega, by omega⟩, by omega, by omega⟩
def sent (s : CS) (x : S46) : CS := ⟨s.C ++ [⟨chg x.f0 s.y0, chg x.f1 s.y1, chg x.f2 s.y2⟩], s.O ++ [x], x.f0 + s.y0 - chg x.f0 s.y0, x.f1 + s.y1 - chg x.f1 s.y1, x.f2 + s.y2 - chg x.f2 s.y2, s.h0, s.h1, s.h2, mx s.m (s.O.length + 1)⟩
def back (s : CS) (g x : S46) (t : List S46) : CS := ⟨s.C, t, s.y0 + x.f0 - g.f0, s.y1 + x.f1 - g.f1, s.y2 + x.f2 - g.f2, s.h0 + x.f0, s.h1 + x.f1, s.h2 + x.f2, s.m⟩
theorem Inv.sent {s : CS} {i : Int} (v : Inv s i) {x : S46} (hx : In 1 1000 x.f0 x.f1 x.f2) : Inv (sent s x) (i + 1) := by
  have z := v.sums
  have hm := mx_le s.m (s.O.length + 1)
  have hnm := v.nm
  have hmi := v.mi
  have hci := v.ci
  have hl : (((s.O ++ [x]).length : Nat) : Int) = s.O.length + 1 := by rw [List.length_append, List.length_singleton]; omega
  have hc : ∀ g y : Int, 1 ≤ chg g y ∧ chg g y ≤ 2000 := fun g y => by unfold chg; split <;> (try split) <;> omega
  refine ⟨?_, ?_, ?_, fun c h => ?_, fun c h => ?_, ?_, ?_, ?_⟩
  · show (((s.O ++ [x]).length : Nat) : Int) ≤ mx s.m (s.O.length + 1)
    omega
  · show mx s.m (s.O.length + 1) ≤ i + 1
    omega
  · show (((s.C ++ [_]).length : Nat) : Int) ≤ i + 1
    rw [List.length_append, List.length_singleton]; omega
  · rcases List.mem_append.1 h with h | h
    · exact v.cin c h
    · have : c = _ := List.mem_singleton.1 h
      subst this
      exact ⟨hc _ _, hc _ _, hc _ _⟩
  · rcases List.mem_append.1 h with h | h
    · exact v.oin c h
    · have : c = _ := List.mem_singleton.1 h
      subst this
      exact hx
  · have := v.j0.send hx.1.1 hx.1.2 (by omega) v.nm z.1.1 z.1.2
    show J (((s.O ++ [x]).length : Nat) : Int) _ (smv _ (s.C ++ [_])) _ _ (smv _ (s.O ++ [x]))
    rw [hl, smv_app, smv_app]
    simp only [smv, Int.add_zero]
    exact this
  · have := v.j1.send hx.2.1.1 hx.2.1.2 (by omega) v.nm z.2.1.1 z.2.1.2
    show J (((s.O ++ [x]).length : Nat) : Int) _ (smv _ (s.C ++ [_])) _ _ (smv _ (s.O ++ [x]))
    rw [hl, smv_app, smv_app]
    simp only [smv, Int.add_zero]
    exact this
  · have := v.j2.send hx.2.2.1 hx.2.2.2 (by omega) v.nm z.2.2.1 z.2.2.2
    show J (((s.O ++ [x]).length : Nat) : Int) _ (smv _ (s.C ++ [_])) _ _ (smv _ (s.O ++ [x]))
    rw [hl, smv_app, smv_app]
    simp only [smv, Int.add_zero]
    exact this
theorem Inv.back {s : CS} {i : Int} (v : Inv s i) {g x : S46} {t : List S46} (ho : s.O = g :: t) (hx : In 1 1000 x.f0 x.f1 x.f2) : Inv (back s g x t) (i + 1) := by
  have hg := v.oin g (by rw [ho]; simp)
  have hnm := v.nm
  have hmi := v.mi
  have hci := v.ci
  have hl : (s.O.length : Int) = t.length + 1 := by rw [ho, List.length_cons]; omega
  refine ⟨?_, ?_, ?_, v.cin, fun c h => v.oin c (by rw [ho]; exact List.mem_cons_of_mem _ h), ?_, ?_, ?_⟩
  · show ((t.length : Nat) : Int) ≤ s.m
    omega
  · show s.m ≤ i + 1
    omega
  · show ((s.C.length : Nat) : Int) ≤ i + 1
    omega
  · have := v.j0.done hg.1.1 hg.1.2 hx.1.1 hx.1.2
    rw [hl, ho, show ((t.length : Nat) : Int) + 1 - 1 = t.length by omega] at this
    simp only [smv] at this
    rw [show g.f0 + smv (·.f0) t - g.f0 = smv (·.f0) t by omega] at this
    exact this
  · have := v.j1.done hg.2.1.1 hg.2.1.2 hx.2.1.1 hx.2.1.2
    rw [hl, ho, show ((t.length : Nat) : Int) + 1 - 1 = t.length by omega] at this
    simp only [smv] at this
    rw [show g.f1 + smv (·.f1) t - g.f1 = smv (·.f1) t by omega] at this
    exact this
  · have := v.j2.done hg.2.2.1 hg.2.2.2 hx.2.2.1 hx.2.2.2
    rw [hl, ho, show ((t.length : Nat) : Int) + 1 - 1 = t.length by omega] at this
    simp only [smv] at this
    rw [show g.f2 + smv (·.f2) t - g.f2 = smv (·.f2) t by omega] at this
    exact this
theorem Inv.homes {s : CS} {i : Int} (v : Inv s i) (hi : i ≤ 1000) : (-10000000 ≤ s.h0 ∧ s.h0 ≤ 10000000) ∧ (-10000000 ≤ s.h1 ∧ s.h1 ≤ 10000000) ∧ (-10000000 ≤ s.h2 ∧ s.h2 ≤ 10000000) := by
  have z := v.sums
  have c := v.csums
  have y := v.carry hi
  unfold In at y
  have a := v.j0
  have b := v.j1
  have d := v.j2
  have := v.nm
  have := v.mi
  unfold J at a b d
  omega
theorem vec0 (a b c : Int) : EvP (fun _ => laws_vec.f a b c 0) (fun r => r = a) := (vec_ok a b c 0).mono (fun r h => by rw [h, if_pos rfl])
theorem vec1 (a b c : Int) : EvP (fun _ => laws_vec.f a b c 1) (fun r => r = b) := (vec_ok a b c 1).mono (fun r h => by rw [h, if_neg (by decide), if_pos rfl])
theorem vec2 (a b c : Int) : EvP (fun _ => laws_vec.f a b c 2) (fun r => r = c) := (vec_ok a b c 2).mono (fun r h => by rw [h, if_neg (by decide), if_neg (by decide)])
theorem homeLoop {L : List S51} {x10 : List Int} {n m p q r i a b c : Int} {O : List S46} (i0 : 0 ≤ i) (i1 : i < (L.length : Int)) (i2 : i ≤ 1000) (hp : -100000000 ≤ p ∧ p ≤ 100000000) (hq : -100000000 ≤ q ∧ q ≤ 100000000) (hr : -100000000 ≤ r ∧ r ≤ 100000000) (hx : In 1 1000 (rd_T51 L i).f1.f0 (rd_T51 L i).f1.f1 (rd_T51 L i).f1.f2)
    (h : EvP (fun k => laws_FnCarryBound.l2 k L x10 n (mx m n) O [p + (rd_T51 L i).f1.f0, q + (rd_T51 L i).f1.f1, r + (rd_T51 L i).f1.f2] (i + 1) a b c) (fun r => r = true)) :
    EvP (fun k => laws_FnCarryBound.l3 k L x10 n m O [p, q, r] i 0 a b c) (fun r => r = true) := by
  obtain ⟨⟨c1, c2⟩, ⟨c3, c4⟩, c5, c6⟩ := hx
  refine EvP.step ?_
  simp only [laws_FnCarryBound.l3]
  refine EvP.yes (by decide) (EvP.yes (by decide) (EvP.yes (by simp) (EvP.yes i0 (EvP.yes i1 (EvP.bind (vec0 _ _ _) ?_)))))
  rintro _ rfl
  rw [show rd [p, q, r] 0 = p from rfl, w64 (x := p + (rd_T51 L i).f1.f0) (by omega) (by omega)]
  refine EvP.step ?_
  rw [show wrap64 (0 + 1) = 1 from w64 (x := 0 + 1) (by decide) (by decide)]
  simp only [laws_FnCarryBound.l3]
  refine EvP.yes (by decide) (EvP.yes (by decide) (EvP.yes (by simp) (EvP.yes i0 (EvP.yes i1 (EvP.bind (vec1 _ _ _) ?_)))))
  rintro _ rfl
  rw [show rd (List.set [p, q, r] (0 : Int).toNat (p + (rd_T51 L i).f1.f0)) 1 = q from rfl, w64 (x := q + (rd_T51 L i).f1.f1) (by omega) (by omega)]
  refine EvP.step ?_
  rw [show wrap64 (1 + 1) = 2 from w64 (x := 1 + 1) (by decide) (by decide)]
  simp only [laws_FnCarryBound.l3]
  refine EvP.yes (by decide) (EvP.yes (by decide) (EvP.yes (by simp) (EvP.yes i0 (EvP.yes i1 (EvP.bind (vec2 _ _ _) ?_)))))
  rintro _ rfl
  rw [show rd ((List.set [p, q, r] (0 : Int).toNat (p + (rd_T51 L i).f1.f0)).set (1 : Int).toNat (q + (rd_T51 L i).f1.f1)) 2 = r from rfl, w64 (x := r + (rd_T51 L i).f1.f2) (by omega) (by omega)]
  refine EvP.step ?_
  rw [show wrap64 (2 + 1) = 3 from w64 (x := 2 + 1) (by decide) (by decide)]
  simp only [laws_FnCarryBound.l3]
  refine EvP.no (by decide) ?_
  rw [w64 (x := i + 1) (by omega) (by omega)]
  exact h
theorem runs {L : List S51} (hL : L.length ≤ 1000) : ∀ (n : Nat) (i : Int) (s : CS), 0 ≤ i → i + n = (L.length : Int) → Inv s i →
    ∃ R : List S46 × Int × Int × Int × Int, EvP (fun k => spec_CarryRun.l0 k L s.C s.O i s.y0 s.y1 s.y2) (fun r => r = R) ∧ EvP (fun k => impl_CarryRun.l0 k s.C s.O L (L.length : Int) i s.y0 s.y1 s.y2) (fun r => r = R) ∧
    (R.2.2.2.2 = 0 → ∃ s' : CS, R = (s'.C, s'.y0, s'.y1, s'.y2, 0) ∧ Inv s' (L.length : Int) ∧ ∀ (x10 : List Int) (a b c : Int), EvP (fun k => laws_FnCarryBound.l4 k x10 s'.m s'.O [s'.h0, s'.h1, s'.h2] 0 a b c) (fun r => r = true) → EvP (fun k => laws_FnCarryBound.l2 k L x10 (s.O.length : Int) s.m s.O [s.h0, s.h1, s.h2] i a b c) (fun r => r = true)) := by
  intro n
  induction n with
  | zero =>
    intro i s i0 hi v
    have e : i = (L.length : Int) := by omega
    refine ⟨(s.C, s.y0, s.y1, s.y2, 0), ?_, ?_, fun _ => ⟨s, rfl, e ▸ v, fun x10 a b c h => ?_⟩⟩
    · refine EvP.step ?_
      simp only [spec_CarryRun.l0]
      exact EvP.no (by omega) (EvP.ret rfl)
    · refine EvP.step ?_
      simp only [impl_CarryRun.l0]
      exact EvP.no (by omega) (EvP.ret rfl)
    · refine EvP.step ?_
      simp only [laws_FnCarryBound.l2]
      exact EvP.no (by omega) h
  | succ n ih =>
    intro i s i0 hi v
    have i1 : i < (L.length : Int) := by omega
    have hw := w64 (x := i + 1) (by omega) (by omega)
    have sbad : ∀ d a b c, EvP (fun k => spec_CarryRun.j1 k L s.C s.O i true s.y0 s.y1 s.y2 d a b c) (fun r => r = ([], 0, 0, 0, i + 1)) := fun d a b c => by
      refine EvP.step ?_
      simp only [spec_CarryRun.j1]
      exact EvP.yes (by trivial) (EvP.ret (by rw [hw]))
    have ibad : ∀ d a b c, EvP (fun k => impl_CarryRun.j1 k s.C s.O i L (L.length : Int) i true s.y0 s.y1 s.y2 d a b c) (fun r => r = ([], 0, 0, 0, i + 1)) := fun d a b c => by
      refine EvP.step ?_
      simp only [impl_CarryRun.j1]
      exact EvP.yes (by trivial) (EvP.ret (by rw [hw]))
    have notc : ¬ ((([], 0, 0, 0, i + 1) : List S46 × Int × Int × Int × Int).2.2.2.2 = 0) := by show ¬ (i + 1 = 0); omega
    have hcar := v.carry (by omega)
    by_cases hx : In 1 1000 (rd_T51 L i).f1.f0 (rd_T51 L i).f1.f1 (rd_T51 L i).f1.f2
    · cases hd : (rd_T51 L i).f0 with
      | true =>
        cases ho : s.O with
        | nil =>
          refine ⟨([], 0, 0, 0, i + 1), ?_, ?_, fun h => absurd h notc⟩
          · refine EvP.step ?_
            simp only [spec_CarryRun.l0]
            refine EvP.yes i1 (EvP.yes i0 (EvP.bind (specCostOk_ok _ _ _) (fun t ht => EvP.yes (ht.2 hx) (EvP.yes hd ?_))))
            have := sbad (rd_T51 L i).f0 (rd_T51 L i).f1.f0 (rd_T51 L i).f1.f1 (rd_T51 L i).f1.f2
            rw [ho] at this
            exact this
          · refine EvP.step ?_
            simp only [impl_CarryRun.l0]
            refine EvP.yes i1 (EvP.yes i0 (EvP.yes i1 (EvP.bind (implCostOk_ok _ _ _) (fun t ht => EvP.yes (ht.2 hx) (EvP.yes hd ?_)))))
            have := ibad (rd_T51 L i).f0 (rd_T51 L i).f1.f0 (rd_T51 L i).f1.f1 (rd_T51 L i).f1.f2
            rw [ho] at this
            exact this
        | cons g t =>
          have hg := v.oin g (by rw [ho]; simp)
          have v' := v.back (x := (rd_T51 L i).f1) ho hx
          have hcar' := v'.carry (by omega)
          have hho := v.homes (by omega)
          have hnm := v.nm
          have hmi := v.mi
          have hlen : (s.O.length : Int) = t.length + 1 := by rw [ho, List.length_cons]; omega
          obtain ⟨R, h1, h2, h3⟩ := ih (i + 1) (back s g (rd_T51 L i).f1 t) (by omega) (by omega) v'
          have hne : (((g :: t).length : Int) == 0) = false := by rw [List.length_cons]; simp; omega
          refine ⟨R, ?_, ?_, fun hc => ?_⟩
          · refine EvP.step ?_
            simp only [spec_CarryRun.l0]
            refine EvP.yes i1 (EvP.yes i0 (EvP.bind (specCostOk_ok _ _ _) (fun t' ht => EvP.yes (ht.2 hx) (EvP.yes hd ?_))))
            rw [hne]
            refine EvP.step ?_
            simp only [spec_CarryRun.j1]
            refine EvP.no (by simp) (EvP.yes hd (EvP.yes (by rw [List.length_cons]; omega) ?_))
            refine EvP.bind (specSettle_in hcar hg hx hcar') ?_
            rintro _ rfl
            refine EvP.bind (EvP.ret rfl) ?_
            rintro _ rfl
            refine EvP.yes (by rw [List.length_cons]; omega) (EvP.bind (EvP.ret rfl) ?_)
            rintro _ rfl
            refine EvP.yes (by simp only [List.length_nil, List.drop_succ_cons, List.drop_zero]; omega) ?_
            rw [hw]
            exact h1
          · refine EvP.step ?_
            simp only [impl_CarryRun.l0]
            refine EvP.yes i1 (EvP.yes i0 (EvP.yes i1 (EvP.bind (implCostOk_ok _ _ _) (fun t' ht => EvP.yes (ht.2 hx) (EvP.yes hd ?_)))))
            rw [hne]
            refine EvP.step ?_
            simp only [impl_CarryRun.j1]
            refine EvP.no (by simp) (EvP.yes hd (EvP.yes (by rw [List.length_cons]; omega) ?_))
            refine EvP.bind (implSettle_in hcar hg hx hcar') ?_
            rintro _ rfl
            refine EvP.yes rfl (EvP.yes (by rw [List.length_cons]; omega) ?_)
            rw [hw]
            exact h2
          · obtain ⟨s', e, vs, hl⟩ := h3 hc
            refine ⟨s', e, vs, fun x10 a b c h => ?_⟩
            have hl' := hl x10 a b c h
            refine EvP.step ?_
            simp only [laws_FnCarryBound.l2]
            refine EvP.yes i1 (EvP.yes i0 (EvP.yes hd (EvP.yes (by rw [List.length_cons]; omega) ?_)))
            rw [w64 (x := (((g :: t).length : Nat) : Int) - 1) (by rw [List.length_cons]; omega) (by rw [List.length_cons]; omega)]
            refine homeLoop i0 i1 (by omega) (by omega) (by omega) (by omega) hx ?_
            have em : mx s.m ((((g :: t).length : Nat) : Int) - 1) = s.m := by
              have := mx_le s.m ((((g :: t).length : Nat) : Int) - 1)
              rw [List.length_cons] at *
              omega
            rw [em, show (((g :: t).length : Nat) : Int) - 1 = t.length by rw [List.length_cons]; omega]
            exact hl'
      | false =>
        have v' := v.sent (x := (rd_T51 L i).f1) hx
        have hnm := v.nm
        have hmi := v.mi
        have hci := v.ci
        obtain ⟨R, h1, h2, h3⟩ := ih (i + 1) (sent s (rd_T51 L i).f1) (by omega) (by omega) v'
        refine ⟨R, ?_, ?_, fun hc => ?_⟩
        · refine EvP.step ?_
          simp only [spec_CarryRun.l0]
          refine EvP.yes i1 (EvP.yes i0 (EvP.bind (specCostOk_ok _ _ _) (fun t' ht => EvP.yes (ht.2 hx) (EvP.no (by rw [hd]; simp) ?_))))
          refine EvP.step ?_
          simp only [spec_CarryRun.j1]
          refine EvP.no (by simp) (EvP.no (by rw [hd]; simp) ?_)
          refine EvP.bind (specCharge_in hx hcar) ?_
          rintro _ rfl
          refine EvP.yes (by omega) (EvP.yes (by omega) ?_)
          rw [hw]
          exact h1
        · refine EvP.step ?_
          simp only [impl_CarryRun.l0]
          refine EvP.yes i1 (EvP.yes i0 (EvP.yes i1 (EvP.bind (implCostOk_ok _ _ _) (fun t' ht => EvP.yes (ht.2 hx) (EvP.no (by rw [hd]; simp) ?_)))))
          refine EvP.step ?_
          simp only [impl_CarryRun.j1]
          refine EvP.no (by simp) (EvP.no (by rw [hd]; simp) ?_)
          refine EvP.bind ((charge_ok _ _ _ _ _ _).mono (fun r h => h.1 ⟨hx, hcar⟩)) ?_
          rintro _ rfl
          refine EvP.bind (EvP.ret rfl) ?_
          rintro _ rfl
          refine EvP.yes (by simp only [List.length_cons, List.length_nil]; omega) (EvP.bind (EvP.ret rfl) ?_)
          rintro _ rfl
          refine EvP.yes (by simp only [List.length_cons, List.length_nil]; omega) ?_
          rw [hw]
          exact h2
        · obtain ⟨s', e, vs, hl⟩ := h3 hc
          refine ⟨s', e, vs, fun x10 a b c h => ?_⟩
          have hl' := hl x10 a b c h
          refine EvP.step ?_
          simp only [laws_FnCarryBound.l2]
          refine EvP.yes i1 (EvP.yes i0 (EvP.no (by rw [hd]; simp) (EvP.yes (by omega) ?_)))
          rw [w64 (x := (s.O.length : Int) + 1) (by omega) (by omega), hw]
          have el : (((sent s (rd_T51 L i).f1).O.length : Nat) : Int) = s.O.length + 1 := by
            show (((s.O ++ [_]).length : Nat) : Int) = _
            rw [List.length_append, List.length_singleton]; omega
          rw [el] at hl'
          exact hl'
    · refine ⟨([], 0, 0, 0, i + 1), ?_, ?_, fun h => absurd h notc⟩
      · refine EvP.step ?_
        simp only [spec_CarryRun.l0]
        exact EvP.yes i1 (EvP.yes i0 (EvP.bind (specCostOk_ok _ _ _) (fun t ht => EvP.no (fun g => hx (ht.1 g)) (sbad _ _ _ _))))
      · refine EvP.step ?_
        simp only [impl_CarryRun.l0]
        exact EvP.yes i1 (EvP.yes i0 (EvP.yes i1 (EvP.bind (implCostOk_ok _ _ _) (fun t ht => EvP.no (fun g => hx (ht.1 g)) (ibad _ _ _ _)))))
theorem drop_rdV {C : List S46} {i : Int} (h0 : 0 ≤ i) (h1 : i < (C.length : Int)) : C.drop i.toNat = rd_T46 C i :: C.drop (i + 1).toNat := by
  unfold rd_T46
  rw [List.drop_eq_getElem_cons (by omega), List.getD_eq_getElem?_getD, List.getElem?_eq_getElem (by omega), show (i + 1).toNat = i.toNat + 1 by omega]
  rfl
theorem rd35_mem {C : List S46} {i : Int} (h0 : 0 ≤ i) (h1 : i < (C.length : Int)) : rd_T46 C i ∈ C := by
  have : rd_T46 C i ∈ C.drop i.toNat := by rw [drop_rdV h0 h1]; simp
  exact List.mem_of_mem_drop this
theorem sums {L : List S51} {C : List S46} (hC : ∀ c ∈ C, In 1 2000 c.f0 c.f1 c.f2) (hl : (C.length : Int) ≤ 1000) {a b c : Int} : ∀ (n : Nat) (i p q r : Int), 0 ≤ i → i + n = (C.length : Int) → (0 ≤ p ∧ p ≤ 2000 * i) → (0 ≤ q ∧ q ≤ 2000 * i) → (0 ≤ r ∧ r ≤ 2000 * i) →
    EvP (fun k => laws_FnCarryBound.l2 k L [p + smv (·.f0) (C.drop i.toNat), q + smv (·.f1) (C.drop i.toNat), r + smv (·.f2) (C.drop i.toNat)] 0 0 [] [0, 0, 0] 0 a b c) (fun r => r = true) → EvP (fun k => laws_FnCarryBound.l0 k L C [p, q, r] i a b c) (fun r => r = true) := by
  intro n
  induction n with
  | zero =>
    intro i p q r i0 hi hp hq hr h
    rw [List.drop_of_length_le (by omega)] at h
    simp only [smv, Int.add_zero] at h
    refine EvP.step ?_
    simp only [laws_FnCarryBound.l0]
    exact EvP.no (by omega) h
  | succ n ih =>
    intro i p q r i0 hi hp hq hr h
    have i1 : i < (C.length : Int) := by omega
    rw [drop_rdV i0 i1] at h
    simp only [smv] at h
    obtain ⟨⟨c1, c2⟩, ⟨c3, c4⟩, c5, c6⟩ := hC _ (rd35_mem i0 i1)
    refine EvP.step ?_
    simp only [laws_FnCarryBound.l0]
    refine EvP.yes i1 ?_
    refine EvP.step ?_
    simp only [laws_FnCarryBound.l1]
    refine EvP.yes (by decide) (EvP.yes i0 (EvP.yes i1 (EvP.bind (vec0 _ _ _) ?_)))
    rintro _ rfl
    refine EvP.no (by omega) (EvP.no (by omega) (EvP.yes (by decide) (EvP.yes (by simp) ?_)))
    rw [show rd [p, q, r] 0 = p from rfl, w64 (x := p + (rd_T46 C i).f0) (by omega) (by omega)]
    refine EvP.step ?_
    rw [show wrap64 (0 + 1) = 1 from w64 (x := 0 + 1) (by decide) (by decide)]
    simp only [laws_FnCarryBound.l1]
    refine EvP.yes (by decide) (EvP.yes i0 (EvP.yes i1 (EvP.bind (vec1 _ _ _) ?_)))
    rintro _ rfl
    refine EvP.no (by omega) (EvP.no (by omega) (EvP.yes (by decide) (EvP.yes (by simp) ?_)))
    rw [show rd (List.set [p, q, r] (0 : Int).toNat (p + (rd_T46 C i).f0)) 1 = q from rfl, w64 (x := q + (rd_T46 C i).f1) (by omega) (by omega)]
    refine EvP.step ?_
    rw [show wrap64 (1 + 1) = 2 from w64 (x := 1 + 1) (by decide) (by decide)]
    simp only [laws_FnCarryBound.l1]
    refine EvP.yes (by decide) (EvP.yes i0 (EvP.yes i1 (EvP.bind (vec2 _ _ _) ?_)))
    rintro _ rfl
    refine EvP.no (by omega) (EvP.no (by omega) (EvP.yes (by decide) (EvP.yes (by simp) ?_)))
    rw [show rd ((List.set [p, q, r] (0 : Int).toNat (p + (rd_T46 C i).f0)).set (1 : Int).toNat (q + (rd_T46 C i).f1)) 2 = r from rfl, w64 (x := r + (rd_T46 C i).f2) (by omega) (by omega)]
    refine EvP.step ?_
    rw [show wrap64 (2 + 1) = 3 from w64 (x := 2 + 1) (by decide) (by decide)]
    simp only [laws_FnCarryBound.l1]
    refine EvP.no (by decide) ?_
    rw [w64 (x := i + 1) (by omega) (by omega)]
    refine ih (i + 1) (p + (rd_T46 C i).f0) (q + (rd_T46 C i).f1) (r + (rd_T46 C i).f2) (by omega) (by omega) (by omega) (by omega) (by omega) ?_
    simp only [Int.add_assoc]
    exact h
theorem opens {x10 : List Int} {O : List S46} {m a b c j d T v : Int} {g : S46 → Int} (hv : ∀ x : S46, EvP (fun _ => laws_vec.f x.f0 x.f1 x.f2 j) (fun r => r = g x)) (hc : EvP (fun _ => laws_vec.f a b c j) (fun r => r = v)) (j0 : 0 ≤ j) (j3 : j < 3)
    (hg : ∀ x ∈ O, 1 ≤ g x ∧ g x ≤ 1000) (hO : (O.length : Int) ≤ 1000) (hx : x10.length = 3) (hm : 0 ≤ m ∧ m ≤ 1000) (hd : d ≤ m * 1000) (hd' : -d ≤ m * 1000) (hT : rd x10 j + v = T) (hT' : -100000000 ≤ T ∧ T ≤ 100000000) : ∀ (n : Nat) (i : Int) (hs : List Int), hs.length = 3 → 0 ≤ i → i + n = (O.length : Int) → -100000000 ≤ rd hs j → rd hs j ≤ 100000000 + 1000 * i → rd hs j + smv g (O.drop i.toNat) = T →
    (∀ hs' : List Int, hs'.length = 3 → (∀ e, 0 ≤ e → e ≠ j → rd hs' e = rd hs e) → EvP (fun k => laws_FnCarryBound.l4 k x10 m O hs' (j + 1) a b c) (fun r => r = true)) → EvP (fun k => laws_FnCarryBound.l5 k x10 m O hs j d i a b c) (fun r => r = true) := by
  intro n
  induction n with
  | zero =>
    intro i hs hl i0 hi b0 b1 hsm_ next
    rw [List.drop_of_length_le (by omega)] at hsm_
    simp only [smv, Int.add_zero] at hsm_
    refine EvP.step ?_
    simp only [laws_FnCarryBound.l5]
    rw [w64 (x := m * 1000) (by omega) (by omega), w64 (x := -d) (by omega) (by omega)]
    refine EvP.no (by omega) (EvP.no (by omega) (EvP.no (by omega) (EvP.yes j0 (EvP.yes (by omega) (EvP.bind hc ?_)))))
    rintro _ rfl
    rw [hT, w64 (x := T) (by omega) (by omega), w64 (x := j + 1) (by omega) (by omega)]
    exact EvP.yes (by omega) (EvP.yes (by omega) (next hs hl (fun _ _ _ => rfl)))
  | succ n ih =>
    intro i hs hl i0 hi b0 b1 hsm_ next
    have i1 : i < (O.length : Int) := by omega
    rw [drop_rdV i0 i1] at hsm_
    simp only [smv] at hsm_
    have hgx := hg _ (rd35_mem i0 i1)
    refine EvP.step ?_
    simp only [laws_FnCarryBound.l5]
    refine EvP.yes i1 (EvP.yes j0 (EvP.yes (by omega) (EvP.yes i0 (EvP.bind (hv _) ?_))))
    rintro _ rfl
    rw [w64 (x := rd hs j + g (rd_T46 O i)) (by omega) (by omega), w64 (x := i + 1) (by omega) (by omega)]
    have hr := fun e (e0 : 0 ≤ e) => rd_set hs j e (rd hs j + g (rd_T46 O i)) j0 e0 (by omega)
    refine ih (i + 1) _ (by rw [List.length_set]; exact hl) (by omega) (by omega) ?_ ?_ ?_ (fun hs' hl' he => next hs' hl' (fun e e0 ne => by rw [he e e0 ne, hr e e0, if_neg ne]))
    · rw [hr j j0, if_pos rfl]; omega
    · rw [hr j j0, if_pos rfl]; omega
    · rw [hr j j0, if_pos rfl]; omega
theorem lastLoop {s : CS} {i : Int} (v : Inv s i) (hi : i ≤ 1000) : EvP (fun k => laws_FnCarryBound.l4 k [smv (·.f0) s.C, smv (·.f1) s.C, smv (·.f2) s.C] s.m s.O [s.h0, s.h1, s.h2] 0 s.y0 s.y1 s.y2) (fun r => r = true) := by
  have z := v.sums
  have cs := v.csums
  have ho := v.homes hi
  have hy := v.carry hi
  unfold In at hy
  have hnm := v.nm
  have hmi := v.mi
  have j0 := v.j0
  have j1 := v.j1
  have j2 := v.j2
  unfold J at j0 j1 j2
  have step : ∀ (j : Int) (hs : List Int) (S h : Int), 0 ≤ j → j < 3 → hs.length = 3 → rd [smv (·.f0) s.C, smv (·.f1) s.C, smv (·.f2) s.C] j = S → rd hs j = h → (0 ≤ S ∧ S ≤ 2000000) → (-10000000 ≤ h ∧ h ≤ 10000000) →
      EvP (fun k => laws_FnCarryBound.l5 k [smv (·.f0) s.C, smv (·.f1) s.C, smv (·.f2) s.C] s.m s.O hs j (S - h) 0 s.y0 s.y1 s.y2) (fun r => r = true) → EvP (fun k => laws_FnCarryBound.l4 k [smv (·.f0) s.C, smv (·.f1) s.C, smv (·.f2) s.C] s.m s.O hs j s.y0 s.y1 s.y2) (fun r => r = true) := fun j hs S h a0 a1 hl e1 e2 b1 b2 hh => by
    refine EvP.step ?_
    simp only [laws_FnCarryBound.l4]
    rw [e1, e2, w64 (x := S - h) (by omega) (by omega)]
    exact EvP.yes a1 (EvP.yes a0 (EvP.yes (by simp only [List.length_cons, List.length_nil]; omega) (EvP.yes (by omega) hh)))
  refine step 0 _ (smv (·.f0) s.C) s.h0 (by decide) (by decide) rfl rfl rfl (by omega) ho.1 ?_
  refine opens (g := (·.f0)) (T := s.h0 + smv (·.f0) s.O) (v := s.y0) (fun x => vec0 _ _ _) (vec0 _ _ _) (by decide) (by decide) (fun x hx => (v.oin x hx).1) (by omega) rfl (by omega) (by omega) (by omega) (by show smv (·.f0) s.C + s.y0 = _; omega) (by omega) s.O.length 0 _ rfl (by decide) (by omega) (by show _ ≤ s.h0; omega) (by show s.h0 ≤ _; omega) rfl (fun hs1 l1 e1 => ?_)
  have e11 : rd hs1 1 = s.h1 := e1 1 (by decide) (by decide)
  have e12 : rd hs1 2 = s.h2 := e1 2 (by decide) (by decide)
  refine step 1 hs1 (smv (·.f1) s.C) s.h1 (by decide) (by decide) l1 rfl e11 (by show _ ∧ _; omega) ho.2.1 ?_
  refine opens (g := (·.f1)) (T := s.h1 + smv (·.f1) s.O) (v := s.y1) (fun x => vec1 _ _ _) (vec1 _ _ _) (by decide) (by decide) (fun x hx => (v.oin x hx).2.1) (by omega) rfl (by omega) (by show smv (·.f1) s.C - s.h1 ≤ _; omega) (by show -(smv (·.f1) s.C - s.h1) ≤ _; omega) (by show smv (·.f1) s.C + s.y1 = _; omega) (by omega) s.O.length 0 hs1 l1 (by decide) (by omega) (by omega) (by omega) (by rw [e11]; rfl) (fun hs2 l2 e2 => ?_)
  have e22 : rd hs2 2 = s.h2 := (e2 2 (by decide) (by decide)).trans e12
  refine step 2 hs2 (smv (·.f2) s.C) s.h2 (by decide) (by decide) l2 rfl e22 (by show _ ∧ _; omega) ho.2.2 ?_
  refine opens (g := (·.f2)) (T := s.h2 + smv (·.f2) s.O) (v := s.y2) (fun x => vec2 _ _ _) (vec2 _ _ _) (by decide) (by decide) (fun x hx => (v.oin x hx).2.2) (by omega) rfl (by omega) (by show smv (·.f2) s.C - s.h2 ≤ _; omega) (by show -(smv (·.f2) s.C - s.h2) ≤ _; omega) (by show smv (·.f2) s.C + s.y2 = _; omega) (by omega) s.O.length 0 hs2 l2 (by decide) (by omega) (by omega) (by omega) (by rw [e22]; rfl) (fun hs3 l3 e3 => ?_)
  refine EvP.step ?_
  simp only [laws_FnCarryBound.l4]
  exact EvP.no (by decide) (EvP.ret rfl)
theorem deeds_l0 {s : List Int} : ∀ (d : Nat) (B p sd : Int) (out : List S51) (w : Int), B + 20 * d ≤ 100000 → Cu s p sd B → out.length + d ≤ 100 → -1000 + d ≤ w → w ≤ 1000 - d →
    EvP (fun k => spec_l01Cur_deeds.l0 k out w (d : Int) s p sd) (fun r => r.1.length ≤ 100 ∧ Cu s r.2.1 r.2.2 100000) := by
  intro d
  induction d with
  | zero =>
    intro B p sd out w hB hc ho w0 w1
    refine EvP.step ?_
    simp only [spec_l01Cur_deeds.l0]
    exact EvP.no (by omega) (EvP.ret ⟨by omega, hc.le (by omega)⟩)
  | succ d ih =>
    intro B p sd out w hB hc ho w0 w1
    refine EvP.step ?_
    simp only [spec_l01Cur_deeds.l0]
    rw [w64 (x := ((d + 1 : Nat) : Int) - 1) (by omega) (by omega), show ((d + 1 : Nat) : Int) - 1 = (d : Int) by omega, w64 (x := w - 1) (by omega) (by omega), w64 (x := w + 1) (by omega) (by omega)]
    refine EvP.yes (by omega) (EvP.bind (drawCost hc (by omega) (by decide) (by decide)) (fun a ha => ?_))
    refine EvP.ite (fun hw => ?_) (fun hw => EvP.yes (by omega) (ih (B + 10) _ _ _ (w + 1) (by omega) ha (by rw [List.length_append, List.length_singleton]; omega) (by omega) (by omega)))
    refine EvP.bind (once_ok ha (by omega)) (fun b hb => ?_)
    exact EvP.ite (fun _ => EvP.yes (by omega) (ih (B + 10 + 1) _ _ _ (w - 1) (by omega) hb (by rw [List.length_append, List.length_singleton]; omega) (by omega) (by omega))) (fun _ => EvP.yes (by omega) (ih (B + 10 + 1) _ _ _ (w + 1) (by omega) hb (by rw [List.length_append, List.length_singleton]; omega) (by omega) (by omega)))
theorem drawMore {s : List Int} : ∀ (d : Nat) (B p sd : Int) (out : List S51), B + 20 * d ≤ 1000000 → Cu s p sd B → out.length + d = 1001 → EvP (fun k => spec_DrawCarryRun.l0 k out s p sd) (fun r => r.length ≤ 1100) := by
  intro d
  induction d with
  | zero =>
    intro B p sd out hB hc ho
    refine EvP.step ?_
    simp only [spec_DrawCarryRun.l0]
    refine EvP.bind (pickE hc (by omega)) (fun a ha => ?_)
    rw [w64 (x := 1000 + a.1) (by omega) (by omega)]
    exact EvP.no (by omega) (EvP.ret (by omega))
  | succ d ih =>
    intro B p sd out hB hc ho
    refine EvP.step ?_
    simp only [spec_DrawCarryRun.l0]
    refine EvP.bind (pickE hc (by omega)) (fun a ha => ?_)
    refine EvP.ite (fun _ => ?_) (fun _ => EvP.ret (by omega))
    refine EvP.bind (drawCost ha.1 (by omega) (by decide) (by decide)) (fun b hb => ?_)
    exact EvP.yes (by omega) (ih (B + 1 + 10) _ _ _ (by omega) hb (by rw [List.length_append, List.length_singleton]; omega))
theorem drawRun {s : List Int} (hb : Bs s) (hl : (s.length : Int) ≤ 1048576) : EvP (fun k => spec_DrawCarryRun.f k s) (fun r => r.length ≤ 1100) := by
  unfold spec_DrawCarryRun.f
  refine EvP.bind (open_ok hb) ?_
  rintro ⟨s', p, sd⟩ ⟨e, hc⟩
  dsimp only at e hc ⊢
  subst e
  refine EvP.bind (P := fun r : List S51 × Int × Int => r.1.length ≤ 100 ∧ Cu s' r.2.1 r.2.2 100000) ?_ ?_
  · unfold spec_l01Cur_deeds.f
    refine EvP.bind (size_ok hc (by decide) hl (by decide) (by decide)) (fun z hz => ?_)
    have e : z.1 = ((z.1.toNat : Nat) : Int) := by omega
    rw [e]
    exact deeds_l0 z.1.toNat 1 _ _ [] 0 (by omega) (hz.1.le (by omega)) (by simp only [List.length_nil]; omega) (by omega) (by omega)
  rintro ⟨out, p1, sd1⟩ ⟨ho, hc1⟩
  dsimp only at ho hc1 ⊢
  refine EvP.bind (pickE hc1 (by decide)) (fun a ha => ?_)
  refine EvP.ite (fun _ => ?_) (fun _ => EvP.ite (fun _ => ?_) (fun _ => EvP.ite (fun _ => ?_) (fun _ => EvP.ret (by omega))))
  · refine EvP.bind (once_ok ha.1 (by decide)) (fun b hb' => ?_)
    refine EvP.bind (drawVec hb' (by decide)) (fun c hc' => ?_)
    exact EvP.yes (by omega) (EvP.ret (by rw [List.length_append, List.length_singleton]; omega))
  · exact drawMore (1001 - out.length) (100000 + 1) _ _ out (by omega) ha.1 (by omega)
  · refine EvP.bind (drawCost ha.1 (by decide) (by decide) (by decide)) (fun b hb' => ?_)
    refine EvP.bind (EvP.ret rfl) ?_
    rintro _ rfl
    exact EvP.yes (by simp only [List.length_cons, List.length_nil]; omega) (EvP.ret (by rw [List.length_append, List.length_singleton]; omega))
theorem FnCarryBound : laws_FnCarryBound.Pure := by
  intro s _ _ hw
  have hb := Bs.of hw
  refine EvP.rounds ?_
  unfold laws_FnCarryBound.f
  refine EvP.bind (big_ok s) ?_
  intro z hbig
  refine EvP.ite (fun _ => EvP.ret rfl) (fun hb0 => ?_)
  have hl := hbig (by simpa using hb0)
  obtain ⟨L, hL, hlen⟩ := drawRun hb hl
  have draw : EvP (fun k => spec_DrawCarryRun.f k s) (fun r => r = L) := ⟨L, hL, rfl⟩
  refine EvP.bind draw ?_
  intro r_ e_
  obtain rfl := e_.symm
  by_cases hbig : (L.length : Int) > 1000
  · refine EvP.bind (P := fun r => r = ([], 0, 0, 0, -1)) ?_ ?_
    · unfold spec_CarryRun.f
      exact EvP.yes hbig (EvP.ret rfl)
    rintro _ rfl
    refine EvP.bind draw ?_
    intro r_ e_
    obtain rfl := e_.symm
    refine EvP.bind (P := fun r => r = ([], 0, 0, 0, -1)) ?_ ?_
    · unfold impl_CarryRun.f
      exact EvP.yes hbig (EvP.ret rfl)
    rintro _ rfl
    refine EvP.yes rfl ?_
    refine EvP.step ?_
    simp only [laws_FnCarryBound.j0]
    exact EvP.yes (by decide) (EvP.ret (by decide))
  · have v0 : Inv ⟨[], [], 0, 0, 0, 0, 0, 0, 0⟩ 0 := ⟨by decide, by decide, by decide, (fun c h => by cases h), (fun c h => by cases h), by unfold J; simp [smv], by unfold J; simp [smv], by unfold J; simp [smv]⟩
    obtain ⟨R, h1, h2, h3⟩ := runs (L := L) (by omega) L.length 0 ⟨[], [], 0, 0, 0, 0, 0, 0, 0⟩ (by decide) (by omega) v0
    refine EvP.bind (P := fun r => r = R) ?_ ?_
    · unfold spec_CarryRun.f
      exact EvP.no hbig h1
    intro r_ e_
    obtain rfl := e_.symm
    refine EvP.bind draw ?_
    intro r_ e_
    obtain rfl := e_.symm
    refine EvP.bind (P := fun r => r = R) ?_ ?_
    · unfold impl_CarryRun.f
      exact EvP.no hbig h2
    intro r_ e_
    obtain rfl := e_.symm
    refine EvP.yes rfl ?_
    refine EvP.step ?_
    simp only [laws_FnCarryBound.j0]
    refine EvP.ite (fun _ => EvP.ret (by simp)) (fun hz => ?_)
    have hz : R.2.2.2.2 = 0 := by simpa using hz
    obtain ⟨s', e, vs, hl'⟩ := h3 hz
    subst e
    refine EvP.yes (by trivial) ?_
    have hci := vs.ci
    refine sums vs.cin (by omega) s'.C.length 0 0 0 0 (by decide) (by omega) (by decide) (by decide) (by decide) ?_
    simp only [Int.toNat_zero, List.drop_zero, Int.zero_add]
    exact hl' _ _ _ _ (lastLoop vs (by omega))

end Go.Proofs.Ytlafobfjbkhioaa.Pure
