/- Whatever costs are observed, the estimate stays between the smallest and the greatest of them. No condition. -/
import Derived.Test.YtbijdkmchdkgfaaPFnEstWithinx
import Derived.Laws.BitsLemmas
namespace Go.Proofs.Ytbijdkmchdkgfaa.Pure
open Go.RowKit Go.Proofs.Ytbijdkmchdkgfaa.PFnEstWithin Go.Proofs.YtbijdkmchdkgfaaW.PrintWords Go.Proofs.YtbijdkmchdkgfaaW.PrintLast Go.Proofs.YtbijdkmchdkgfaaW.PrintMore
set_option linter.unusedVariables false
set_option linter.unusedSimpArgs false

def EvP {α : Type} (g : Nat → Option α) (P : α → Prop) : Prop := ∃ r, Ev g r ∧ P r
theorem EvP.of {α : Type} {o : Option α} {P : α → Prop} (h : ∃ r, o = some r ∧ P r) : EvP (fun _ => o) P := by
  obtain ⟨r, rfl, hp⟩ := h
  exact ⟨r, Ev.now r, hp⟩
theorem EvP.ret {α : Type} {r : α} {P : α → Prop} (h : P r) : EvP (fun _ => some r) P := ⟨r, Ev.now r, h⟩
theorem EvP.bind {α β : Type} {g : Nat → Option α} {f : Nat → α → Option β} {P : α → Prop} {Q : β → Prop} (h : EvP g P) (k : ∀ r, P r → EvP (fun n => f n r) Q) : EvP (fun n => (g n).bind (f n)) Q := by
  obtain ⟨r, hr, hp⟩ := h
  obtain ⟨q, hq, hQ⟩ := k r hp
  exact ⟨q, Ev.bind hr hq, hQ⟩
theorem EvP.ite {α : Type} {c : Prop} [Decidable c] {a b : Nat → Option α} {Q : α → Prop} (h : c → EvP a Q) (h' : ¬ c → EvP b Q) : EvP (fun n => if c then a n else b n) Q := by
  by_cases hc : c
  · simp only [if_pos hc]; exact h hc
  · simp only [if_neg hc]; exact h' hc
theorem EvP.yes {α : Type} {c : Prop} [Decidable c] {a b : Nat → Option α} {Q : α → Prop} (hc : c) (h : EvP a Q) : EvP (fun n => if c then a n else b n) Q := by
  simp only [if_pos hc]; exact h
theorem EvP.no {α : Type} {c : Prop} [Decidable c] {a b : Nat → Option α} {Q : α → Prop} (hc : ¬ c) (h : EvP b Q) : EvP (fun n => if c then a n else b n) Q := by
  simp only [if_neg hc]; exact h
theorem EvP.step {α : Type} {g : Nat → Option α} {Q : α → Prop} (h : EvP (fun k => g (k + 1)) Q) : EvP g Q := by
  obtain ⟨r, hr, hq⟩ := h
  exact ⟨r, Ev.step (fun _ => rfl) hr, hq⟩
theorem EvP.mono {α : Type} {g : Nat → Option α} {P Q : α → Prop} (h : EvP g P) (hpq : ∀ r, P r → Q r) : EvP g Q := by
  obtain ⟨r, hr, hp⟩ := h
  exact ⟨r, hr, hpq r hp⟩
theorem EvP.rounds {α : Type} {g : Nat → Option α} {r : α} (h : EvP g (fun x => x = r)) : ∃ k, g k = some r := by
  obtain ⟨q, hq, rfl⟩ := h
  exact hq.rounds
theorem w64 {x : Int} (h0 : -9223372036854775808 ≤ x) (h1 : x ≤ 9223372036854775807) : wrap64 x = x := by unfold wrap64; omega
theorem w64_lo (x : Int) : -9223372036854775808 ≤ wrap64 x := by unfold wrap64; omega
theorem w64_hi (x : Int) : wrap64 x ≤ 9223372036854775807 := by unfold wrap64; omega
theorem tmod_pos {a b : Int} (h : 0 ≤ a) : Int.tmod a b = a % b := Int.tmod_eq_emod_of_nonneg h
theorem tdiv_pos {a b : Int} (h : 0 ≤ a) : Int.tdiv a b = a / b := Int.tdiv_eq_ediv_of_nonneg h
def Bs (s : List Int) : Prop := ∀ x ∈ s, 0 ≤ x ∧ x ≤ 255
theorem Bs.drop {s : List Int} (h : Bs s) (n : Nat) : Bs (s.drop n) := fun y hy => h y (List.mem_of_mem_drop hy)
theorem Bs.rdb {s : List Int} (h : Bs s) (i : Int) : 0 ≤ rd s i ∧ rd s i ≤ 255 := by
  by_cases hi : i.toNat < s.length
  · unfold rd
    rw [List.getD_eq_getElem?_getD, List.getElem?_eq_getElem hi]
    exact h _ (List.getElem_mem hi)
  · unfold rd
    rw [List.getD_eq_getElem?_getD, List.getElem?_eq_none (by omega)]
    exact ⟨by decide, by decide⟩
theorem Bs.of {s : List Int} (h : ∀ x ∈ s, (Lit.int .u8 x).wf = true) : Bs s := fun x hx => by
  have := h x hx
  simp [Lit.wf, IntKind.min, IntKind.max, IntKind.bits, IntKind.signed] at this
  omega
structure Cu (s : List Int) (p sd B : Int) : Prop where
  bs : Bs s
  p0 : 0 ≤ p
  p1 : p ≤ B
  s0 : 0 ≤ sd
  s1 : sd ≤ 65520
theorem Cu.le {s : List Int} {p sd B B' : Int} (h : Cu s p sd B) (hB : B ≤ B') : Cu s p sd B' := ⟨h.bs, h.p0, by have := h.p1; omega, h.s0, h.s1⟩
theorem seed_ok {sd : Int} (h0 : 0 ≤ sd) (h1 : sd ≤ 65520) : Int.tmod (wrap64 ((wrap64 (sd * 1103)) + 12345)) 65521 = (sd * 1103 + 12345) % 65521 := by
  rw [w64 (x := sd * 1103) (by omega) (by omega), w64 (by omega) (by omega), tmod_pos (by omega)]
theorem rem_ok {x n : Int} (h0 : 0 ≤ x) (hn : 2 ≤ n) : 0 ≤ Int.tmod x n ∧ Int.tmod x n < n := by
  rw [tmod_pos h0]
  exact ⟨Int.emod_nonneg _ (by omega), Int.emod_lt_of_pos _ (by omega)⟩
theorem pick_ok {s : List Int} {p sd B n : Int} (h : Cu s p sd B) (hB : B ≤ 4611686018427387904) :
    ∃ r, spec_l01Cur_pick.f s p sd n = some r ∧ Cu s r.2.1 r.2.2 (B + 1) ∧ 0 ≤ r.1 ∧ (r.1 < n ∨ r.1 = 0) := by
  obtain ⟨hb, p0, p1, s0, s1⟩ := h
  unfold spec_l01Cur_pick.f
  rw [seed_ok s0 s1, w64 (x := p + 1) (by omega) (by omega)]
  have e0 : 0 ≤ (sd * 1103 + 12345) % 65521 ∧ (sd * 1103 + 12345) % 65521 ≤ 65520 := by omega
  generalize (sd * 1103 + 12345) % 65521 = q at e0
  by_cases hn : n < 2
  · rw [if_pos hn]
    exact ⟨_, rfl, ⟨hb, p0, by dsimp only; omega, s0, s1⟩, by dsimp only; omega, .inr rfl⟩
  rw [if_neg hn]
  by_cases hp : p < (s.length : Int)
  · rw [if_pos hp, if_pos p0, if_neg (by omega)]
    have hr := hb.rdb p
    have hm := rem_ok hr.1 (show (2 : Int) ≤ n by omega)
    rw [w64 (x := rd s p) (by omega) (by omega)]
    exact ⟨_, rfl, ⟨hb, by dsimp only; omega, by dsimp only; omega, s0, s1⟩, hm.1, .inl hm.2⟩
  rw [if_neg hp]
  by_cases hl : (s.length : Int) > 0
  · have hm : 0 ≤ Int.tmod p (s.length : Int) ∧ Int.tmod p (s.length : Int) < (s.length : Int) := by
      rw [tmod_pos p0]
      exact ⟨Int.emod_nonneg _ (by omega), Int.emod_lt_of_pos _ (by omega)⟩
    rw [if_pos hl, if_neg (by omega), if_pos hm.1, if_pos hm.2, if_neg (by omega)]
    have hr := hb.rdb (Int.tmod p (s.length : Int))
    have hv := rem_ok (x := wrap64 ((wrap64 (Int.tdiv q 7)) + (wrap64 (rd s (Int.tmod p (s.length : Int)))))) (n := n) (by
      rw [tdiv_pos e0.1, w64 (x := q / 7) (by omega) (by omega), w64 (x := rd s _) (by omega) (by omega), w64 (by omega) (by omega)]
      omega) (by omega)
    exact ⟨_, rfl, ⟨hb, by dsimp only; omega, by dsimp only; omega, e0.1, e0.2⟩, hv.1, .inl hv.2⟩
  · rw [if_neg hl, if_neg (by omega)]
    have hv := rem_ok (x := 0) (n := n) (by omega) (by omega)
    rw [tmod_pos (by omega)] at hv
    exact ⟨_, rfl, ⟨hb, by dsimp only; omega, by dsimp only; omega, e0.1, e0.2⟩, hv.1, .inl hv.2⟩
theorem pickE {s : List Int} {p sd B n : Int} (h : Cu s p sd B) (hB : B ≤ 4611686018427387904) :
    EvP (fun _ => spec_l01Cur_pick.f s p sd n) (fun r => Cu s r.2.1 r.2.2 (B + 1) ∧ 0 ≤ r.1 ∧ (r.1 < n ∨ r.1 = 0)) := EvP.of (pick_ok h hB)
theorem open_ok {s : List Int} (hb : Bs s) : EvP (fun _ => spec_l01Open.f s) (fun r => r.1 = s ∧ Cu s r.2.1 r.2.2 0) := by
  refine EvP.ret ⟨rfl, hb, ?_, ?_, ?_, ?_⟩ <;> dsimp only <;> omega
theorem big_ok (s : List Int) : EvP (fun _ => laws_big.f s) (fun b => b = false → (s.length : Int) ≤ 1048576) := by
  unfold laws_big.f
  refine EvP.ret (fun h => ?_)
  simp at h
  omega
theorem once_ok {s : List Int} {p sd B n : Int} (h : Cu s p sd B) (hB : B ≤ 4611686018427387904) :
    EvP (fun _ => spec_l01Cur_once.f s p sd n) (fun r => Cu s r.2.1 r.2.2 (B + 1)) := by
  unfold spec_l01Cur_once.f
  refine EvP.bind (pickE h hB) ?_
  rintro ⟨x, p', s'⟩ ⟨c, _, _⟩
  exact EvP.ret c
theorem w64r {x : Int} : -9223372036854775808 ≤ wrap64 x ∧ wrap64 x ≤ 9223372036854775807 := ⟨w64_lo x, w64_hi x⟩
theorem raw_ok {s : List Int} {p sd B : Int} (h : Cu s p sd B) (hB : B ≤ 1000000000000) :
    EvP (fun _ => spec_l01Cur_raw.f s p sd) (fun r => Cu s r.2.1 r.2.2 (B + 2) ∧ -9223372036854775808 ≤ r.1 ∧ r.1 ≤ 9223372036854775807) := by
  unfold spec_l01Cur_raw.f
  refine EvP.bind (pickE (n := 8) h (by omega)) ?_
  rintro ⟨a, p1, s1⟩ ⟨c1, a0, a1⟩
  dsimp only at *
  refine EvP.ite (fun _ => ?_) (fun _ => EvP.ite (fun _ => ?_) (fun _ => ?_))
  · refine EvP.bind (pickE (n := 256) c1 (by omega)) ?_
    rintro ⟨b, p2, s2⟩ ⟨c2, b0, b1⟩
    exact EvP.ret ⟨c2.le (by omega), w64r⟩
  · refine EvP.bind (EvP.ret (P := fun y => y.length = 8 ∧ ∀ i : Int, 0 ≤ i → i < 8 → -9223372036854775808 ≤ rd y i ∧ rd y i ≤ 9223372036854775807) ⟨rfl, fun i h0 h8 => ?_⟩) ?_
    · have : i = 0 ∨ i = 1 ∨ i = 2 ∨ i = 3 ∨ i = 4 ∨ i = 5 ∨ i = 6 ∨ i = 7 := by omega
      rcases this with e | e | e | e | e | e | e | e <;> rw [e] <;> decide
    · rintro y ⟨hy, hv⟩
      refine EvP.bind (pickE (n := 8) c1 (by omega)) ?_
      rintro ⟨b, p2, s2⟩ ⟨c2, b0, b1⟩
      dsimp only at *
      exact EvP.yes b0 (EvP.yes (by omega) (EvP.ret ⟨c2.le (by omega), hv b b0 (by omega)⟩))
  · refine EvP.bind (pickE (n := 14) c1 (by omega)) ?_
    rintro ⟨b, p2, s2⟩ ⟨c2, b0, b1⟩
    exact EvP.ret ⟨c2.le (by omega), w64r⟩
theorem wide_ok {s : List Int} {p sd B n : Int} (h : Cu s p sd B) (hB : B ≤ 1000000000000) (hn : 2 ≤ n) :
    EvP (fun _ => spec_l01Cur_wide.f s p sd n) (fun r => Cu s r.2.1 r.2.2 (B + 3) ∧ 0 ≤ r.1 ∧ r.1 < n) := by
  unfold spec_l01Cur_wide.f
  refine EvP.bind (pickE (n := 256) h (by omega)) ?_
  rintro ⟨a, p1, s1⟩ ⟨c1, a0, a1⟩
  dsimp only at *
  refine EvP.bind (pickE (n := 256) c1 (by omega)) ?_
  rintro ⟨b, p2, s2⟩ ⟨c2, b0, b1⟩
  dsimp only at *
  refine EvP.bind (pickE (n := 256) c2 (by omega)) ?_
  rintro ⟨d, p3, s3⟩ ⟨c3, d0, d1⟩
  dsimp only at *
  refine EvP.no (by omega) (EvP.ret ⟨c3.le (by omega), ?_⟩)
  dsimp only
  rw [w64 (x := 65536 * a) (by omega) (by omega), w64 (x := 256 * b) (by omega) (by omega), w64 (x := 65536 * a + 256 * b) (by omega) (by omega), w64 (by omega) (by omega)]
  exact rem_ok (by omega) hn
theorem mx_le (a b : Int) : a ≤ mx a b ∧ b ≤ mx a b ∧ (mx a b = a ∨ mx a b = b) := by unfold mx; split <;> omega
theorem mn_le (a b : Int) : mn a b ≤ a ∧ mn a b ≤ b ∧ (mn a b = a ∨ mn a b = b) := by unfold mn; split <;> omega
theorem specAll_ok (a b c x y : Int) : EvP (fun _ => spec_l13All.f a b c x y) (fun r => r = true ↔ (x ≤ a ∧ a ≤ y) ∧ (x ≤ b ∧ b ≤ y) ∧ x ≤ c ∧ c ≤ y) := by
  unfold spec_l13All.f
  refine EvP.ite (fun h1 => ?_) (fun h => EvP.ret ⟨(fun h => by cases h), fun z => by omega⟩)
  refine EvP.ite (fun h2 => ?_) (fun h => EvP.ret ⟨(fun h => by cases h), fun z => by omega⟩)
  refine EvP.ite (fun h3 => ?_) (fun h => EvP.ret ⟨(fun h => by cases h), fun z => by omega⟩)
  refine EvP.ite (fun h4 => ?_) (fun h => EvP.ret ⟨(fun h => by cases h), fun z => by omega⟩)
  refine EvP.ite (fun h5 => EvP.ret ?_) (fun h => EvP.ret ⟨(fun h => by cases h), fun z => by omega⟩)
  rw [decide_eq_true_iff]; omega
theorem within_ev (a b c : Int) : EvP (fun _ => impl_within.f a b c) (fun r => r = true ↔ b ≤ a ∧ a ≤ c) := by
  unfold impl_within.f
  refine EvP.ite (fun h => EvP.ret ?_) (fun h => EvP.ret ⟨(fun h => by cases h), fun z => by omega⟩)
  rw [decide_eq_true_iff]; omega
theorem isFrom_ok (a b c x y : Int) : EvP (fun _ => impl_Vec_isFrom.f a b c x y) (fun r => r = true ↔ (x ≤ a ∧ a ≤ y) ∧ (x ≤ b ∧ b ≤ y) ∧ x ≤ c ∧ c ≤ y) := by
  unfold impl_Vec_isFrom.f
  refine EvP.bind (within_ev a x y) (fun t ht => ?_)
  refine EvP.ite (fun h1 => ?_) (fun h => EvP.ret ⟨(fun h => by cases h), fun z => absurd (ht.2 z.1) h⟩)
  refine EvP.bind (within_ev b x y) (fun u hu => ?_)
  refine EvP.ite (fun h2 => ?_) (fun h => EvP.ret ⟨(fun h => by cases h), fun z => absurd (hu.2 z.2.1) h⟩)
  refine EvP.bind (within_ev c x y) (fun v hv => EvP.ret ?_)
  have h3 := ht.1 h1
  have h4 := hu.1 h2
  rw [hv]; exact ⟨fun h => ⟨h3, h4, h⟩, fun z => z.2.2⟩
theorem rd4 (a b c d : Int) {i : Int} (h0 : 0 ≤ i) (h1 : i < 4) : rd [a, b, c, d] i = a ∨ rd [a, b, c, d] i = b ∨ rd [a, b, c, d] i = c ∨ rd [a, b, c, d] i = d := by
  have : i = 0 ∨ i = 1 ∨ i = 2 ∨ i = 3 := by omega
  rcases this with rfl | rfl | rfl | rfl
  · exact Or.inl rfl
  · exact Or.inr (Or.inl rfl)
  · exact Or.inr (Or.inr (Or.inl rfl))
  · exact Or.inr (Or.inr (Or.inr rfl))
theorem drawCost {s : List Int} {p sd B a : Int} (h : Cu s p sd B) (hB : B ≤ 100000000000) (h0 : 2 ≤ a) (h1 : a ≤ 10000000) :
    EvP (fun _ => spec_l01Cur_cost.f s p sd a) (fun r => Cu s r.2.2.2.1 r.2.2.2.2 (B + 10)) := by
  unfold spec_l01Cur_cost.f
  refine EvP.bind (P := fun r => r = [9, 100, a, a]) (EvP.ret rfl) ?_
  rintro _ rfl
  refine EvP.bind (pickE (n := 4) h (by omega)) ?_
  rintro ⟨i, p1, s1⟩ ⟨c1, i0, i1⟩
  dsimp only at *
  have hi := rd4 9 100 a a i0 (by omega)
  refine EvP.yes i0 (EvP.yes (by simp only [List.length_cons, List.length_nil]; omega) ?_)
  generalize rd [9, 100, a, a] i = n at hi
  refine EvP.bind (wide_ok c1 (by omega) (by omega)) ?_
  rintro ⟨x, p2, s2⟩ ⟨c2, _, _⟩
  refine EvP.bind (wide_ok c2 (by omega) (by omega)) ?_
  rintro ⟨y, p3, s3⟩ ⟨c3, _, _⟩
  refine EvP.bind (wide_ok c3 (by omega) (by omega)) ?_
  rintro ⟨z, p4, s4⟩ ⟨c4, _, _⟩
  exact EvP.ret (c4.le (by omega))
def In (x y a b c : Int) : Prop := (x ≤ a ∧ a ≤ y) ∧ (x ≤ b ∧ b ≤ y) ∧ x ≤ c ∧ c ≤ y
theorem specCostOk_ok (a b c : Int) : EvP (fun _ => spec_CostOk.f a b c) (fun r => r = true ↔ In 1 1000 a b c) := by
  unfold spec_CostOk.f
  exact EvP.bind (specAll_ok a b c _ _) (fun r h => EvP.ret h)
theorem vec_ok (a b c j : Int) : EvP (fun _ => laws_vec.f a b c j) (fun r => r = if j = 0 then a else if j = 1 then b else c) := by
  unfold laws_vec.f
  refine EvP.ite (fun h => EvP.ret (by rw [if_pos h])) (fun h => ?_)
  rw [if_neg h]
  exact EvP.ite (fun h => EvP.ret (by rw [if_pos h])) (fun h => EvP.ret (by rw [if_neg h]))
theorem specEst_l0 : ∀ (d : Nat) (xs ys : List Int) (x : Int) (b : Bool) (e0 e1 e2 : Int), xs.length = 3 → ys.length = 3 → 0 ≤ x → x + d = 3 →
    EvP (fun k => spec_EstLearn.l0 k xs ys x b e0 e1 e2) (fun _ => True) := by
  intro d
  induction d with
  | zero =>
    intro xs ys x b e0 e1 e2 hx hy h0 hd
    refine EvP.step ?_
    simp only [spec_EstLearn.l0]
    refine EvP.no (by omega) ?_
    unfold spec_l13Of.f
    exact EvP.bind (P := fun _ => True) (EvP.yes (by omega) (EvP.yes (by omega) (EvP.yes (by omega) (EvP.ret trivial)))) (fun _ _ => EvP.ret trivial)
  | succ d ih =>
    intro xs ys x b e0 e1 e2 hx hy h0 hd
    refine EvP.step ?_
    simp only [spec_EstLearn.l0]
    refine EvP.yes (by omega) ?_
    simp only [w64 (x := x + 1) (by omega) (by omega)]
    refine EvP.ite (fun _ => ?_) (fun _ => ?_)
    · exact EvP.yes h0 (EvP.yes (by omega) (EvP.yes (by omega) (ih _ _ _ _ _ _ _ (by rw [List.length_set]; exact hx) hy (by omega) (by omega))))
    · exact EvP.yes h0 (EvP.yes (by omega) (EvP.yes (by omega) (ih _ _ _ _ _ _ _ (by rw [List.length_set]; exact hx) hy (by omega) (by omega))))
theorem specEst_any (b : Bool) (e0 e1 e2 c0 c1 c2 : Int) : EvP (fun k => spec_EstLearn.f k b e0 e1 e2 c0 c1 c2) (fun _ => True) := by
  have hj : ∀ v : Bool, EvP (fun k => spec_EstLearn.j0 k v b e0 e1 e2 c0 c1 c2) (fun _ => True) := by
    intro v
    refine EvP.step ?_
    simp only [spec_EstLearn.j0]
    refine EvP.ite (fun _ => EvP.ret trivial) (fun _ => ?_)
    refine EvP.bind (P := fun r => r.length = 3) (EvP.ret rfl) (fun xs hx => ?_)
    refine EvP.bind (P := fun r => r.length = 3) (EvP.ret rfl) (fun ys hy => ?_)
    exact specEst_l0 3 xs ys 0 b e0 e1 e2 hx hy (by omega) (by omega)
  unfold spec_EstLearn.f
  refine EvP.bind (P := fun _ => True) ?_ (fun t _ => ?_)
  · unfold spec_EstOk.f
    exact EvP.ite (fun _ => EvP.bind (specAll_ok _ _ _ _ _) (fun _ _ => EvP.ret trivial)) (fun _ => EvP.ret trivial)
  refine EvP.ite (fun _ => ?_) (fun _ => hj true)
  exact EvP.bind (specCostOk_ok c0 c1 c2) (fun u _ => hj (!u))
theorem drawEst_l0 {s : List Int} : ∀ (d : Nat) (x p sd B : Int) (b : Bool) (e0 e1 e2 : Int), Cu s p sd B → B + 10 * d ≤ 10000000000 → x ≤ d →
    EvP (fun k => spec_l01Cur_est.l0 k x s p sd b e0 e1 e2) (fun r => Cu s r.2.2.2.2.1 r.2.2.2.2.2 (B + 10 * d + 10)) := by
  intro d
  induction d with
  | zero =>
    intro x p sd B b e0 e1 e2 h hB hx
    refine EvP.step ?_
    simp only [spec_l01Cur_est.l0]
    refine EvP.no (by omega) ?_
    refine EvP.bind (once_ok h (by omega)) ?_
    rintro ⟨o, p1, s1⟩ c1
    dsimp only at *
    refine EvP.ite (fun _ => ?_) (fun _ => EvP.ret (c1.le (by omega)))
    refine EvP.bind (raw_ok c1 (by omega)) ?_
    rintro ⟨y, p2, s2⟩ ⟨c2, _, _⟩
    exact EvP.ret (c2.le (by omega))
  | succ d ih =>
    intro x p sd B b e0 e1 e2 h hB hx
    refine EvP.step ?_
    simp only [spec_l01Cur_est.l0]
    refine EvP.ite (fun hp => ?_) (fun hp => ?_)
    · refine EvP.bind (drawCost h (by omega) (by omega) (by omega)) ?_
      rintro ⟨g0, g1, g2, p2, s2⟩ c2
      refine EvP.bind (specEst_any b e0 e1 e2 g0 g1 g2) ?_
      rintro ⟨b', f0, f1, f2⟩ _
      dsimp only at *
      have q0 := h.p0
      have q1 := h.p1
      simp only [w64 (x := x - 1) (by omega) (by omega)]
      exact (ih (x - 1) p2 s2 (B + 10) b' f0 f1 f2 c2 (by omega) (by omega)).mono (fun r hr => hr.le (by omega))
    · refine EvP.bind (once_ok h (by omega)) ?_
      rintro ⟨o, p1, s1⟩ c1
      dsimp only at *
      refine EvP.ite (fun _ => ?_) (fun _ => EvP.ret (c1.le (by omega)))
      refine EvP.bind (raw_ok c1 (by omega)) ?_
      rintro ⟨y, p2, s2⟩ ⟨c2, _, _⟩
      exact EvP.ret (c2.le (by omega))
theorem drawEst {s : List Int} {p sd B : Int} (h : Cu s p sd B) (hB : B ≤ 1000000000) :
    EvP (fun k => spec_l01Cur_est.f k s p sd) (fun r => Cu s r.2.2.2.2.1 r.2.2.2.2.2 (B + 100)) := by
  unfold spec_l01Cur_est.f
  refine EvP.bind (once_ok h (by omega)) ?_
  rintro ⟨o, p1, s1⟩ c1
  dsimp only at *
  refine EvP.ite (fun _ => EvP.ret (c1.le (by omega))) (fun _ => ?_)
  refine EvP.bind (drawCost c1 (by omega) (by omega) (by omega)) ?_
  rintro ⟨g0, g1, g2, p2, s2⟩ c2
  refine EvP.bind (specEst_any false 0 0 0 g0 g1 g2) ?_
  rintro ⟨b', f0, f1, f2⟩ _
  dsimp only at *
  refine EvP.bind (pickE (n := 4) c2 (by omega)) ?_
  rintro ⟨i, p3, s3⟩ ⟨c3, i0, i1⟩
  dsimp only at *
  exact (drawEst_l0 4 i p3 s3 _ b' f0 f1 f2 c3 (by omega) (by omega)).mono (fun r hr => hr.le (by omega))
theorem drawEstLearn {s : List Int} (hb : Bs s) : EvP (fun k => spec_DrawEstLearn.f k s) (fun _ => True) := by
  unfold spec_DrawEstLearn.f
  refine EvP.bind (open_ok hb) ?_
  rintro ⟨s', p, sd⟩ ⟨rfl, c⟩
  refine EvP.bind (drawEst c (by omega)) ?_
  rintro ⟨b, e0, e1, e2, p1, s1⟩ c1
  dsimp only at *
  refine EvP.bind (pickE (n := 2) c1 (by omega)) ?_
  rintro ⟨x, p2, s2⟩ ⟨c2, x0, x1⟩
  dsimp only at *
  simp only [w64 (x := 1000 + x) (by omega) (by omega)]
  refine EvP.bind (drawCost c2 (by omega) (by omega) (by omega)) ?_
  rintro ⟨g0, g1, g2, p3, s3⟩ c3
  exact EvP.ret trivial

def EstP (lo e hi : Int) : Prop := 1 ≤ lo ∧ lo ≤ hi ∧ hi ≤ 1000 ∧ 16 * lo ≤ e ∧ e ≤ 16 * hi
def St (b : Bool) (e lo hi : Int) : Prop := (b = false ∧ e = 0 ∧ lo = 1000 ∧ hi = 0) ∨ (b = true ∧ EstP lo e hi)
def lrn (b : Bool) (e c : Int) : Int := if b = true then e - e / 8 + 2 * c else 16 * c
theorem lrn_ok {b : Bool} {e lo hi c : Int} (h : St b e lo hi) (h0 : 1 ≤ c) (h1 : c ≤ 1000) : EstP (mn lo c) (lrn b e c) (mx hi c) := by
  have e1 := mn_le lo c
  have e2 := mx_le hi c
  unfold EstP lrn
  rcases h with ⟨rfl, rfl, rfl, rfl⟩ | ⟨rfl, h2, h3, h4, h5, h6⟩
  · rw [if_neg (by decide)]; omega
  · rw [if_pos rfl]; omega
theorem tell_ok {lo e hi : Int} (h : EstP lo e hi) : lo ≤ (e + 8) / 16 ∧ (e + 8) / 16 ≤ hi := by
  obtain ⟨h1, h2, h3, h4, h5⟩ := h
  omega
theorem implEstOk_have {a b c : Int} (h : In 16 16000 a b c) : EvP (fun _ => impl_EstOk.f true a b c) (fun r => r = true) := by
  unfold impl_EstOk.f
  exact EvP.yes rfl (EvP.bind (isFrom_ok a b c _ _) (fun r hr => EvP.ret (hr.2 h)))
theorem specEstOk_have {a b c : Int} (h : In 16 16000 a b c) : EvP (fun _ => spec_EstOk.f true a b c) (fun r => r = true) := by
  unfold spec_EstOk.f
  exact EvP.yes rfl (EvP.bind (specAll_ok a b c _ _) (fun r hr => EvP.ret (hr.2 h)))
theorem implCostOk_in {a b c : Int} (h : In 1 1000 a b c) : EvP (fun _ => impl_CostOk.f a b c) (fun r => r = true) := by
  unfold impl_CostOk.f
  exact EvP.bind (isFrom_ok a b c _ _) (fun r hr => EvP.ret (hr.2 h))
theorem learn_ok {b : Bool} {e0 e1 e2 l0 l1 l2 h0 h1 h2 c0 c1 c2 : Int} (s0 : St b e0 l0 h0) (s1 : St b e1 l1 h1) (s2 : St b e2 l2 h2) (hc : In 1 1000 c0 c1 c2) :
    EvP (fun k => impl_EstLearn.f k b e0 e1 e2 c0 c1 c2) (fun r => r = (true, lrn b e0 c0, lrn b e1 c1, lrn b e2 c2)) := by
  obtain ⟨k0, k1, k2⟩ := id hc
  unfold impl_EstLearn.f
  refine EvP.bind (P := fun r => r = true) ?_ ?_
  · cases b with
    | true =>
      have hs : ∀ {e lo hi : Int}, St true e lo hi → 16 ≤ e ∧ e ≤ 16000 := by
        rintro e lo hi (⟨h, _⟩ | ⟨_, h2, h3, h4, h5, h6⟩)
        · cases h
        · omega
      exact implEstOk_have ⟨hs s0, hs s1, hs s2⟩
    | false =>
      have hs : ∀ {e lo hi : Int}, St false e lo hi → e = 0 := by
        rintro e lo hi (⟨_, h, _⟩ | ⟨h, _⟩)
        · exact h
        · cases h
      rw [hs s0, hs s1, hs s2]
      exact EvP.ret rfl
  rintro _ rfl
  refine EvP.yes rfl ?_
  refine EvP.bind (implCostOk_in hc) ?_
  rintro _ rfl
  refine EvP.step ?_
  simp only [impl_EstLearn.j0]
  refine EvP.no (by simp) ?_
  cases b with
  | true =>
    refine EvP.yes (by simp) ?_
    have hs : ∀ {e lo hi c : Int}, St true e lo hi → (1 ≤ c ∧ c ≤ 1000) → wrap64 (wrap64 (e - wrap64 (Int.tdiv e 8)) + wrap64 (2 * c)) = lrn true e c := by
      rintro e lo hi c (⟨h, _⟩ | ⟨_, h2, h3, h4, h5, h6⟩) hc
      · cases h
      · unfold lrn
        rw [if_pos rfl, tdiv_pos (by omega), w64 (x := e / 8) (by omega) (by omega), w64 (x := e - e / 8) (by omega) (by omega), w64 (x := 2 * c) (by omega) (by omega), w64 (by omega) (by omega)]
    refine EvP.bind (P := fun r => r = (lrn true e0 c0, lrn true e1 c1, lrn true e2 c2)) (EvP.of ⟨_, rfl, ?_⟩) ?_
    · rw [hs s0 k0, hs s1 k1, hs s2 k2]
    · rintro _ rfl; exact EvP.ret rfl
  | false =>
    refine EvP.no (by simp) ?_
    refine EvP.bind (P := fun r => r = (lrn false e0 c0, lrn false e1 c1, lrn false e2 c2)) (EvP.of ⟨_, rfl, ?_⟩) ?_
    · unfold lrn
      simp only [if_neg (show ¬ (false = true) by decide)]
      rw [w64 (x := 16 * c0) (by omega) (by omega), w64 (x := 16 * c1) (by omega) (by omega), w64 (x := 16 * c2) (by omega) (by omega)]
    · rintro _ rfl; exact EvP.ret rfl
theorem implTell_ok {e0 e1 e2 l0 l1 l2 h0 h1 h2 : Int} (s0 : EstP l0 e0 h0) (s1 : EstP l1 e1 h1) (s2 : EstP l2 e2 h2) :
    EvP (fun k => impl_EstTell.f k true e0 e1 e2 1 1 1) (fun r => r = ((e0 + 8) / 16, (e1 + 8) / 16, (e2 + 8) / 16)) := by
  obtain ⟨a1, a2, a3, a4, a5⟩ := s0
  obtain ⟨b1, b2, b3, b4, b5⟩ := s1
  obtain ⟨d1, d2, d3, d4, d5⟩ := s2
  unfold impl_EstTell.f
  refine EvP.bind (implEstOk_have ⟨⟨by omega, by omega⟩, ⟨by omega, by omega⟩, by omega, by omega⟩) ?_
  rintro _ rfl
  refine EvP.yes rfl ?_
  refine EvP.bind (implCostOk_in ⟨⟨by omega, by omega⟩, ⟨by omega, by omega⟩, by omega, by omega⟩) ?_
  rintro _ rfl
  refine EvP.step ?_
  simp only [impl_EstTell.j0]
  refine EvP.no (by simp) (EvP.yes (by simp) ?_)
  have hs : ∀ {e : Int}, 16 ≤ e → e ≤ 16000 → wrap64 (Int.tdiv (wrap64 (e + 8)) 16) = (e + 8) / 16 := by
    intro e x y
    rw [w64 (x := e + 8) (by omega) (by omega), tdiv_pos (by omega), w64 (by omega) (by omega)]
  refine EvP.bind (P := fun r => r = ((e0 + 8) / 16, (e1 + 8) / 16, (e2 + 8) / 16)) (EvP.of ⟨_, rfl, ?_⟩) ?_
  · rw [hs (by omega) (by omega), hs (by omega) (by omega), hs (by omega) (by omega)]
  · rintro _ rfl; exact EvP.ret rfl
theorem estLoop {l : List Int} (hl : (l.length : Int) ≤ 1048576) {x6 : Int} {e0 e1 e2 l0 l1 l2 h0 h1 h2 t0 t1 t2 : Int} (s0 : EstP l0 e0 h0) (s1 : EstP l1 e1 h1) (s2 : EstP l2 e2 h2)
    (k0 : l0 ≤ t0 ∧ t0 ≤ h0) (k1 : l1 ≤ t1 ∧ t1 ≤ h1) (k2 : l2 ≤ t2 ∧ t2 ≤ h2)
    (next : EvP (fun k => laws_FnEstWithin.l0 k l (wrap64 (x6 + 1)) true e0 e1 e2 l0 l1 l2 h0 h1 h2) (fun r => r = true)) : ∀ (d : Nat) (x : Int), 0 ≤ x → x + d = 3 →
    EvP (fun k => laws_FnEstWithin.l1 k l x6 x true e0 e1 e2 l0 l1 l2 h0 h1 h2 t0 t1 t2) (fun r => r = true) := by
  intro d
  induction d with
  | zero =>
    intro x _ hx
    obtain ⟨a1, a2, a3, a4, a5⟩ := s0
    obtain ⟨b1, b2, b3, b4, b5⟩ := s1
    obtain ⟨d1, d2, d3, d4, d5⟩ := s2
    refine EvP.step ?_
    simp only [laws_FnEstWithin.l1]
    refine EvP.no (by omega) ?_
    refine EvP.bind (specEstOk_have ⟨⟨by omega, by omega⟩, ⟨by omega, by omega⟩, by omega, by omega⟩) ?_
    rintro _ rfl
    exact EvP.yes rfl (EvP.yes (by simp) next)
  | succ d ih =>
    intro x hx hd
    refine EvP.step ?_
    simp only [laws_FnEstWithin.l1]
    have hk : (if x = 0 then l0 else if x = 1 then l1 else l2) ≤ (if x = 0 then t0 else if x = 1 then t1 else t2) ∧ (if x = 0 then t0 else if x = 1 then t1 else t2) ≤ (if x = 0 then h0 else if x = 1 then h1 else h2) := by
      by_cases e : x = 0
      · simp only [if_pos e]; exact k0
      · simp only [if_neg e]
        by_cases e : x = 1
        · simp only [if_pos e]; exact k1
        · simp only [if_neg e]; exact k2
    refine EvP.yes (by omega) ?_
    refine EvP.bind (vec_ok t0 t1 t2 x) ?_
    rintro _ rfl
    refine EvP.bind (vec_ok l0 l1 l2 x) ?_
    rintro _ rfl
    refine EvP.no (by omega) ?_
    refine EvP.bind (vec_ok t0 t1 t2 x) ?_
    rintro _ rfl
    refine EvP.bind (vec_ok h0 h1 h2 x) ?_
    rintro _ rfl
    refine EvP.no (by omega) ?_
    simp only [w64 (x := x + 1) (by omega) (by omega)]
    exact ih (x + 1) (by omega) (by omega)
theorem estMain {l : List Int} (hb : Bs l) (hl : (l.length : Int) ≤ 1048576) : ∀ (d : Nat) (x : Int) (b : Bool) (e0 e1 e2 l0 l1 l2 h0 h1 h2 : Int), 0 ≤ x → x + d = 12 →
    St b e0 l0 h0 → St b e1 l1 h1 → St b e2 l2 h2 → EvP (fun k => laws_FnEstWithin.l0 k l x b e0 e1 e2 l0 l1 l2 h0 h1 h2) (fun r => r = true) := by
  intro d
  induction d with
  | zero =>
    intro x b e0 e1 e2 l0 l1 l2 h0 h1 h2 hx hd s0 s1 s2
    refine EvP.step ?_
    simp only [laws_FnEstWithin.l0]
    have e := mn_le 11 (wrap64 ((l.length : Int) / 3))
    have ew := w64 (x := (l.length : Int) / 3) (by omega) (by omega)
    rw [ew] at e ⊢
    rw [w64 (x := 1 + mn 11 ((l.length : Int) / 3)) (by omega) (by omega)]
    exact EvP.no (by omega) (EvP.ret rfl)
  | succ d ih =>
    intro x b e0 e1 e2 l0 l1 l2 h0 h1 h2 hx hd s0 s1 s2
    refine EvP.step ?_
    simp only [laws_FnEstWithin.l0]
    refine EvP.ite (fun _ => ?_) (fun _ => EvP.ret rfl)
    have em := mn_le (l.length : Int) (3 * x)
    rw [w64 (x := 3 * x) (by omega) (by omega)]
    refine EvP.yes (by omega) (EvP.yes (by omega) ?_)
    refine EvP.bind (drawEstLearn (hb.drop _)) ?_
    rintro ⟨b', f0, f1, f2, c0, c1, c2⟩ _
    dsimp only
    refine EvP.bind (specCostOk_ok c0 c1 c2) (fun t ht => ?_)
    rw [w64 (x := x + 1) (by omega) (by omega)]
    refine EvP.ite (fun hc => ?_) (fun _ => ih _ _ _ _ _ _ _ _ _ _ _ (by omega) (by omega) s0 s1 s2)
    have hc := ht.1 hc
    obtain ⟨k0, k1, k2⟩ := id hc
    refine EvP.bind (learn_ok s0 s1 s2 hc) ?_
    rintro _ rfl
    dsimp only
    refine EvP.bind (P := fun r => r = (mx h0 c0, mx h1 c1, mx h2 c2)) (EvP.ret rfl) ?_
    rintro _ rfl
    dsimp only
    have n0 := lrn_ok s0 k0.1 k0.2
    have n1 := lrn_ok s1 k1.1 k1.2
    have n2 := lrn_ok s2 k2.1 k2.2
    refine EvP.bind (implTell_ok n0 n1 n2) ?_
    rintro _ rfl
    dsimp only
    refine estLoop hl n0 n1 n2 (tell_ok n0) (tell_ok n1) (tell_ok n2) ?_ 3 0 (by omega) (by omega)
    rw [w64 (x := x + 1) (by omega) (by omega)]
    exact ih _ _ _ _ _ _ _ _ _ _ _ (by omega) (by omega) (Or.inr ⟨rfl, n0⟩) (Or.inr ⟨rfl, n1⟩) (Or.inr ⟨rfl, n2⟩)
theorem FnEstWithin : laws_FnEstWithin.Pure := by
  intro l _ _ hw
  refine EvP.rounds ?_
  unfold laws_FnEstWithin.f
  refine EvP.bind (big_ok l) (fun b hb => ?_)
  refine EvP.ite (fun _ => EvP.ret rfl) (fun hn => ?_)
  have hl := hb (by simpa using hn)
  exact estMain (Bs.of hw) hl 12 0 false 0 0 0 1000 1000 1000 0 0 0 (by omega) (by omega) (Or.inl ⟨rfl, rfl, rfl, rfl⟩) (Or.inl ⟨rfl, rfl, rfl, rfl⟩) (Or.inl ⟨rfl, rfl, rfl, rfl⟩)

end Go.Proofs.Ytbijdkmchdkgfaa.Pure
