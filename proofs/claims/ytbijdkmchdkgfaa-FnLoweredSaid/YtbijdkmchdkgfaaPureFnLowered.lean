/- Lowering by the base of a time keeps all distances of what is narrow and not below it. No condition. -/
import Derived.Test.YtbijdkmchdkgfaaPFnLoweredx
import Derived.Laws.BitsLemmas
namespace Go.Proofs.Ytbijdkmchdkgfaa.Pure
open Go.RowKit Go.Proofs.Ytbijdkmchdkgfaa.PFnLowered Go.Proofs.YtbijdkmchdkgfaaW.PrintWords Go.Proofs.YtbijdkmchdkgfaaW.PrintLast Go.Proofs.YtbijdkmchdkgfaaW.PrintMore
set_option linter.unusedVariables false
set_option linter.unusedSimpArgs false

def EvP {α : Type} (g : Nat → Option α) (P : α → Prop) : Prop := ∃ r, Ev g r ∧ P r
theorem EvP.of {α : Type} {o : Option α} {P : α → Prop} (h : ∃ r, o = some r ∧ P r) : EvP (fun _ => o) P := by
  obtain ⟨r, rfl, hp⟩ := h
  exact ⟨r, Ev.now r, hp⟩
theorem EvP.ret {α : Type} {r : α} {P : α → Prop} (h : P r) : EvP (fun _ => some r) P := ⟨r, Ev.now r, h⟩
theorem EvP.bind {α β : Type} {g : Nat → Option α} {f : Nat → α → Option β} {P : α → Prop} {Q : β → Prop} (h : EvP g P) (k : ∀ r, P r → EvP (fun n => f n r) Q) : EvP (fun n => (g n).bind (f n)) Q := by
  obtain ⟨r, hr, hp⟩ := h
  obtain ⟨q, hq, hQ⟩ := k r hp
  exact ⟨q, Ev.bind hr hq, hQ⟩
theorem EvP.ite {α : Type} {c : Prop} [Decidable c] {a b : Nat → Option α} {Q : α → Prop} (h : c → EvP a Q) (h' : ¬ c → EvP b Q) : EvP (fun n => if c then a n else b n) Q := by
  by_cases hc : c
  · simp only [if_pos hc]; exact h hc
  · simp only [if_neg hc]; exact h' hc
theorem EvP.yes {α : Type} {c : Prop} [Decidable c] {a b : Nat → Option α} {Q : α → Prop} (hc : c) (h : EvP a Q) : EvP (fun n => if c then a n else b n) Q := by
  simp only [if_pos hc]; exact h
theorem EvP.no {α : Type} {c : Prop} [Decidable c] {a b : Nat → Option α} {Q : α → Prop} (hc : ¬ c) (h : EvP b Q) : EvP (fun n => if c then a n else b n) Q := by
  simp only [if_neg hc]; exact h
theorem EvP.step {α : Type} {g : Nat → Option α} {Q : α → Prop} (h : EvP (fun k => g (k + 1)) Q) : EvP g Q := by
  obtain ⟨r, hr, hq⟩ := h
  exact ⟨r, Ev.step (fun _ => rfl) hr, hq⟩
theorem EvP.mono {α : Type} {g : Nat → Option α} {P Q : α → Prop} (h : EvP g P) (hpq : ∀ r, P r → Q r) : EvP g Q := by
  obtain ⟨r, hr, hp⟩ := h
  exact ⟨r, hr, hpq r hp⟩
theorem EvP.rounds {α : Type} {g : Nat → Option α} {r : α} (h : EvP g (fun x => x = r)) : ∃ k, g k = some r := by
  obtain ⟨q, hq, rfl⟩ := h
  exact hq.rounds
theorem w64 {x : Int} (h0 : -9223372036854775808 ≤ x) (h1 : x ≤ 9223372036854775807) : wrap64 x = x := by unfold wrap64; omega
theorem w64_lo (x : Int) : -9223372036854775808 ≤ wrap64 x := by unfold wrap64; omega
theorem w64_hi (x : Int) : wrap64 x ≤ 9223372036854775807 := by unfold wrap64; omega
theorem tmod_pos {a b : Int} (h : 0 ≤ a) : Int.tmod a b = a % b := Int.tmod_eq_emod_of_nonneg h
theorem tdiv_pos {a b : Int} (h : 0 ≤ a) : Int.tdiv a b = a / b := Int.tdiv_eq_ediv_of_nonneg h
def Bs (s : List Int) : Prop := ∀ x ∈ s, 0 ≤ x ∧ x ≤ 255
theorem Bs.set {s : List Int} (h : Bs s) (i : Nat) {x : Int} (h0 : 0 ≤ x) (h1 : x ≤ 255) : Bs (s.set i x) := fun y hy => by
  rcases List.mem_or_eq_of_mem_set hy with hy | rfl
  · exact h y hy
  · exact ⟨h0, h1⟩
theorem Bs.rdb {s : List Int} (h : Bs s) (i : Int) : 0 ≤ rd s i ∧ rd s i ≤ 255 := by
  by_cases hi : i.toNat < s.length
  · unfold rd
    rw [List.getD_eq_getElem?_getD, List.getElem?_eq_getElem hi]
    exact h _ (List.getElem_mem hi)
  · unfold rd
    rw [List.getD_eq_getElem?_getD, List.getElem?_eq_none (by omega)]
    exact ⟨by decide, by decide⟩
theorem Bs.of {s : List Int} (h : ∀ x ∈ s, (Lit.int .u8 x).wf = true) : Bs s := fun x hx => by
  have := h x hx
  simp [Lit.wf, IntKind.min, IntKind.max, IntKind.bits, IntKind.signed] at this
  omega
structure Cu (s : List Int) (p sd B : Int) : Prop where
  bs : Bs s
  p0 : 0 ≤ p
  p1 : p ≤ B
  s0 : 0 ≤ sd
  s1 : sd ≤ 65520
theorem Cu.le {s : List Int} {p sd B B' : Int} (h : Cu s p sd B) (hB : B ≤ B') : Cu s p sd B' := ⟨h.bs, h.p0, by have := h.p1; omega, h.s0, h.s1⟩
theorem seed_ok {sd : Int} (h0 : 0 ≤ sd) (h1 : sd ≤ 65520) : Int.tmod (wrap64 ((wrap64 (sd * 1103)) + 12345)) 65521 = (sd * 1103 + 12345) % 65521 := by
  rw [w64 (x := sd * 1103) (by omega) (by omega), w64 (by omega) (by omega), tmod_pos (by omega)]
theorem rem_ok {x n : Int} (h0 : 0 ≤ x) (hn : 2 ≤ n) : 0 ≤ Int.tmod x n ∧ Int.tmod x n < n := by
  rw [tmod_pos h0]
  exact ⟨Int.emod_nonneg _ (by omega), Int.emod_lt_of_pos _ (by omega)⟩
theorem pick_ok {s : List Int} {p sd B n : Int} (h : Cu s p sd B) (hB : B ≤ 4611686018427387904) :
    ∃ r, spec_l01Cur_pick.f s p sd n = some r ∧ Cu s r.2.1 r.2.2 (B + 1) ∧ 0 ≤ r.1 ∧ (r.1 < n ∨ r.1 = 0) := by
  obtain ⟨hb, p0, p1, s0, s1⟩ := h
  unfold spec_l01Cur_pick.f
  rw [seed_ok s0 s1, w64 (x := p + 1) (by omega) (by omega)]
  have e0 : 0 ≤ (sd * 1103 + 12345) % 65521 ∧ (sd * 1103 + 12345) % 65521 ≤ 65520 := by omega
  generalize (sd * 1103 + 12345) % 65521 = q at e0
  by_cases hn : n < 2
  · rw [if_pos hn]
    exact ⟨_, rfl, ⟨hb, p0, by dsimp only; omega, s0, s1⟩, by dsimp only; omega, .inr rfl⟩
  rw [if_neg hn]
  by_cases hp : p < (s.length : Int)
  · rw [if_pos hp, if_pos p0, if_neg (by omega)]
    have hr := hb.rdb p
    have hm := rem_ok hr.1 (show (2 : Int) ≤ n by omega)
    rw [w64 (x := rd s p) (by omega) (by omega)]
    exact ⟨_, rfl, ⟨hb, by dsimp only; omega, by dsimp only; omega, s0, s1⟩, hm.1, .inl hm.2⟩
  rw [if_neg hp]
  by_cases hl : (s.length : Int) > 0
  · have hm : 0 ≤ Int.tmod p (s.length : Int) ∧ Int.tmod p (s.length : Int) < (s.length : Int) := by
      rw [tmod_pos p0]
      exact ⟨Int.emod_nonneg _ (by omega), Int.emod_lt_of_pos _ (by omega)⟩
    rw [if_pos hl, if_neg (by omega), if_pos hm.1, if_pos hm.2, if_neg (by omega)]
    have hr := hb.rdb (Int.tmod p (s.length : Int))
    have hv := rem_ok (x := wrap64 ((wrap64 (Int.tdiv q 7)) + (wrap64 (rd s (Int.tmod p (s.length : Int)))))) (n := n) (by
      rw [tdiv_pos e0.1, w64 (x := q / 7) (by omega) (by omega), w64 (x := rd s _) (by omega) (by omega), w64 (by omega) (by omega)]
      omega) (by omega)
    exact ⟨_, rfl, ⟨hb, by dsimp only; omega, by dsimp only; omega, e0.1, e0.2⟩, hv.1, .inl hv.2⟩
  · rw [if_neg hl, if_neg (by omega)]
    have hv := rem_ok (x := 0) (n := n) (by omega) (by omega)
    rw [tmod_pos (by omega)] at hv
    exact ⟨_, rfl, ⟨hb, by dsimp only; omega, by dsimp only; omega, e0.1, e0.2⟩, hv.1, .inl hv.2⟩
theorem pickE {s : List Int} {p sd B n : Int} (h : Cu s p sd B) (hB : B ≤ 4611686018427387904) :
    EvP (fun _ => spec_l01Cur_pick.f s p sd n) (fun r => Cu s r.2.1 r.2.2 (B + 1) ∧ 0 ≤ r.1 ∧ (r.1 < n ∨ r.1 = 0)) := EvP.of (pick_ok h hB)
theorem open_ok {s : List Int} (hb : Bs s) : EvP (fun _ => spec_l01Open.f s) (fun r => r.1 = s ∧ Cu s r.2.1 r.2.2 0) := by
  refine EvP.ret ⟨rfl, hb, ?_, ?_, ?_, ?_⟩ <;> dsimp only <;> omega
theorem big_ok (s : List Int) : EvP (fun _ => laws_big.f s) (fun b => b = false → (s.length : Int) ≤ 1048576) := by
  unfold laws_big.f
  refine EvP.ret (fun h => ?_)
  simp at h
  omega
theorem once_ok {s : List Int} {p sd B n : Int} (h : Cu s p sd B) (hB : B ≤ 4611686018427387904) :
    EvP (fun _ => spec_l01Cur_once.f s p sd n) (fun r => Cu s r.2.1 r.2.2 (B + 1)) := by
  unfold spec_l01Cur_once.f
  refine EvP.bind (pickE h hB) ?_
  rintro ⟨x, p', s'⟩ ⟨c, _, _⟩
  exact EvP.ret c
theorem w64r {x : Int} : -9223372036854775808 ≤ wrap64 x ∧ wrap64 x ≤ 9223372036854775807 := ⟨w64_lo x, w64_hi x⟩
theorem raw_ok {s : List Int} {p sd B : Int} (h : Cu s p sd B) (hB : B ≤ 1000000000000) :
    EvP (fun _ => spec_l01Cur_raw.f s p sd) (fun r => Cu s r.2.1 r.2.2 (B + 2) ∧ -9223372036854775808 ≤ r.1 ∧ r.1 ≤ 9223372036854775807) := by
  unfold spec_l01Cur_raw.f
  refine EvP.bind (pickE (n := 8) h (by omega)) ?_
  rintro ⟨a, p1, s1⟩ ⟨c1, a0, a1⟩
  dsimp only at *
  refine EvP.ite (fun _ => ?_) (fun _ => EvP.ite (fun _ => ?_) (fun _ => ?_))
  · refine EvP.bind (pickE (n := 256) c1 (by omega)) ?_
    rintro ⟨b, p2, s2⟩ ⟨c2, b0, b1⟩
    exact EvP.ret ⟨c2.le (by omega), w64r⟩
  · refine EvP.bind (EvP.ret (P := fun y => y.length = 8 ∧ ∀ i : Int, 0 ≤ i → i < 8 → -9223372036854775808 ≤ rd y i ∧ rd y i ≤ 9223372036854775807) ⟨rfl, fun i h0 h8 => ?_⟩) ?_
    · have : i = 0 ∨ i = 1 ∨ i = 2 ∨ i = 3 ∨ i = 4 ∨ i = 5 ∨ i = 6 ∨ i = 7 := by omega
      rcases this with e | e | e | e | e | e | e | e <;> rw [e] <;> decide
    · rintro y ⟨hy, hv⟩
      refine EvP.bind (pickE (n := 8) c1 (by omega)) ?_
      rintro ⟨b, p2, s2⟩ ⟨c2, b0, b1⟩
      dsimp only at *
      exact EvP.yes b0 (EvP.yes (by omega) (EvP.ret ⟨c2.le (by omega), hv b b0 (by omega)⟩))
  · refine EvP.bind (pickE (n := 14) c1 (by omega)) ?_
    rintro ⟨b, p2, s2⟩ ⟨c2, b0, b1⟩
    exact EvP.ret ⟨c2.le (by omega), w64r⟩
theorem wide_ok {s : List Int} {p sd B n : Int} (h : Cu s p sd B) (hB : B ≤ 1000000000000) (hn : 2 ≤ n) :
    EvP (fun _ => spec_l01Cur_wide.f s p sd n) (fun r => Cu s r.2.1 r.2.2 (B + 3) ∧ 0 ≤ r.1 ∧ r.1 < n) := by
  unfold spec_l01Cur_wide.f
  refine EvP.bind (pickE (n := 256) h (by omega)) ?_
  rintro ⟨a, p1, s1⟩ ⟨c1, a0, a1⟩
  dsimp only at *
  refine EvP.bind (pickE (n := 256) c1 (by omega)) ?_
  rintro ⟨b, p2, s2⟩ ⟨c2, b0, b1⟩
  dsimp only at *
  refine EvP.bind (pickE (n := 256) c2 (by omega)) ?_
  rintro ⟨d, p3, s3⟩ ⟨c3, d0, d1⟩
  dsimp only at *
  refine EvP.no (by omega) (EvP.ret ⟨c3.le (by omega), ?_⟩)
  dsimp only
  rw [w64 (x := 65536 * a) (by omega) (by omega), w64 (x := 256 * b) (by omega) (by omega), w64 (x := 65536 * a + 256 * b) (by omega) (by omega), w64 (by omega) (by omega)]
  exact rem_ok (by omega) hn
def TagP (a b c : Int) : Prop := (0 ≤ a ∧ a ≤ 1000000000000) ∧ (0 ≤ b ∧ b ≤ 1000000000000) ∧ 0 ≤ c ∧ c ≤ 1000000000000
def NarrowP (a b c d : Int) : Prop := TagP a b c ∧ (0 ≤ d ∧ d ≤ 10000000) ∧ mx (mx a b) c - d ≤ mn (mn a b) c
theorem mx_le (a b : Int) : a ≤ mx a b ∧ b ≤ mx a b ∧ (mx a b = a ∨ mx a b = b) := by unfold mx; split <;> omega
theorem mn_le (a b : Int) : mn a b ≤ a ∧ mn a b ≤ b ∧ (mn a b = a ∨ mn a b = b) := by unfold mn; split <;> omega
theorem top_in {a b c : Int} (h : TagP a b c) : 0 ≤ mx (mx a b) c ∧ mx (mx a b) c ≤ 1000000000000 := by
  obtain ⟨h1, h2, h3⟩ := h
  have e1 := mx_le a b
  have e2 := mx_le (mx a b) c
  omega
theorem specAll_ok (a b c x y : Int) : EvP (fun _ => spec_l13All.f a b c x y) (fun r => r = true ↔ (x ≤ a ∧ a ≤ y) ∧ (x ≤ b ∧ b ≤ y) ∧ x ≤ c ∧ c ≤ y) := by
  unfold spec_l13All.f
  refine EvP.ite (fun h1 => ?_) (fun h => EvP.ret ⟨(fun h => by cases h), fun z => by omega⟩)
  refine EvP.ite (fun h2 => ?_) (fun h => EvP.ret ⟨(fun h => by cases h), fun z => by omega⟩)
  refine EvP.ite (fun h3 => ?_) (fun h => EvP.ret ⟨(fun h => by cases h), fun z => by omega⟩)
  refine EvP.ite (fun h4 => ?_) (fun h => EvP.ret ⟨(fun h => by cases h), fun z => by omega⟩)
  refine EvP.ite (fun h5 => EvP.ret ?_) (fun h => EvP.ret ⟨(fun h => by cases h), fun z => by omega⟩)
  rw [decide_eq_true_iff]; omega
theorem specTag_ok (a b c : Int) : EvP (fun _ => spec_TagOk.f a b c) (fun r => r = true ↔ TagP a b c) := by
  unfold spec_TagOk.f
  exact EvP.bind (specAll_ok a b c _ _) (fun r h => EvP.ret h)
theorem specDelta_ok (a : Int) : EvP (fun _ => spec_l13Delta.f a) (fun r => r = true ↔ 0 ≤ a ∧ a ≤ 10000000) := by
  unfold spec_l13Delta.f
  refine EvP.ite (fun h => EvP.ret ?_) (fun h => EvP.ret ⟨(fun h => by cases h), fun z => by omega⟩)
  rw [decide_eq_true_iff]; omega
theorem specTop_ok (a b c : Int) : EvP (fun _ => spec_VecTop.f a b c) (fun r => r = mx (mx a b) c) := EvP.ret rfl
theorem implTop_ok (a b c : Int) : EvP (fun _ => impl_VecTop.f a b c) (fun r => r = mx (mx a b) c) := EvP.ret rfl
theorem specNarrow_ok (a b c d : Int) : EvP (fun _ => spec_Narrow.f a b c d) (fun r => r = true ↔ NarrowP a b c d) := by
  unfold spec_Narrow.f
  refine EvP.bind (specTag_ok a b c) (fun t ht => ?_)
  refine EvP.ite (fun h1 => ?_) (fun h => EvP.ret ⟨(fun h => by cases h), fun z => absurd (ht.2 z.1) h⟩)
  refine EvP.bind (specDelta_ok d) (fun u hu => ?_)
  refine EvP.ite (fun h2 => ?_) (fun h => EvP.ret ⟨(fun h => by cases h), fun z => absurd (hu.2 z.2.1) h⟩)
  refine EvP.bind (specTop_ok a b c) ?_
  rintro _ rfl
  have hT := ht.1 h1
  have hD := hu.1 h2
  have hm := top_in hT
  refine EvP.ret ?_
  rw [decide_eq_true_iff, w64 (by omega) (by omega)]
  exact ⟨fun h => ⟨hT, hD, by omega⟩, fun z => by have := z.2.2; omega⟩
theorem within_ev (a b c : Int) : EvP (fun _ => impl_within.f a b c) (fun r => r = true ↔ b ≤ a ∧ a ≤ c) := by
  unfold impl_within.f
  refine EvP.ite (fun h => EvP.ret ?_) (fun h => EvP.ret ⟨(fun h => by cases h), fun z => by omega⟩)
  rw [decide_eq_true_iff]; omega
theorem isFrom_ok (a b c x y : Int) : EvP (fun _ => impl_Vec_isFrom.f a b c x y) (fun r => r = true ↔ (x ≤ a ∧ a ≤ y) ∧ (x ≤ b ∧ b ≤ y) ∧ x ≤ c ∧ c ≤ y) := by
  unfold impl_Vec_isFrom.f
  refine EvP.bind (within_ev a x y) (fun t ht => ?_)
  refine EvP.ite (fun h1 => ?_) (fun h => EvP.ret ⟨(fun h => by cases h), fun z => absurd (ht.2 z.1) h⟩)
  refine EvP.bind (within_ev b x y) (fun u hu => ?_)
  refine EvP.ite (fun h2 => ?_) (fun h => EvP.ret ⟨(fun h => by cases h), fun z => absurd (hu.2 z.2.1) h⟩)
  refine EvP.bind (within_ev c x y) (fun v hv => EvP.ret ?_)
  have h3 := ht.1 h1
  have h4 := hu.1 h2
  rw [hv]; exact ⟨fun h => ⟨h3, h4, h⟩, fun z => z.2.2⟩
theorem implTag_ok (a b c : Int) : EvP (fun _ => impl_TagOk.f a b c) (fun r => r = true ↔ TagP a b c) := by
  unfold impl_TagOk.f
  exact EvP.bind (isFrom_ok a b c _ _) (fun r h => EvP.ret h)
theorem implDelta_ok (a : Int) : EvP (fun _ => impl_isDelta.f a) (fun r => r = true ↔ 0 ≤ a ∧ a ≤ 10000000) := by
  unfold impl_isDelta.f
  exact EvP.bind (within_ev a _ _) (fun r h => EvP.ret h)
theorem vec_ok (a b c j : Int) : EvP (fun _ => laws_vec.f a b c j) (fun r => r = if j = 0 then a else if j = 1 then b else c) := by
  unfold laws_vec.f
  refine EvP.ite (fun h => EvP.ret (by rw [if_pos h])) (fun h => ?_)
  rw [if_neg h]
  exact EvP.ite (fun h => EvP.ret (by rw [if_pos h])) (fun h => EvP.ret (by rw [if_neg h]))
theorem drawVec {s : List Int} {p sd B : Int} (h : Cu s p sd B) (hB : B ≤ 100000000000) :
    EvP (fun _ => spec_l01Cur_vec.f s p sd) (fun r => Cu s r.2.2.2.1 r.2.2.2.2 (B + 10)) := by
  unfold spec_l01Cur_vec.f
  refine EvP.bind (once_ok h (by omega)) ?_
  rintro ⟨o, p1, s1⟩ c1
  dsimp only at *
  refine EvP.ite (fun _ => ?_) (fun _ => ?_)
  · refine EvP.bind (raw_ok c1 (by omega)) ?_
    rintro ⟨x, p2, s2⟩ ⟨c2, _, _⟩
    refine EvP.bind (raw_ok c2 (by omega)) ?_
    rintro ⟨y, p3, s3⟩ ⟨c3, _, _⟩
    refine EvP.bind (raw_ok c3 (by omega)) ?_
    rintro ⟨z, p4, s4⟩ ⟨c4, _, _⟩
    exact EvP.ret (c4.le (by omega))
  · refine EvP.bind (P := fun r => r.length = 5) (EvP.ret rfl) (fun xs hx => ?_)
    refine EvP.bind (pickE (n := 5) c1 (by omega)) ?_
    rintro ⟨i, p2, s2⟩ ⟨c2, i0, i1⟩
    dsimp only at *
    refine EvP.yes i0 (EvP.yes (by omega) ?_)
    refine EvP.bind (pickE (n := 256) c2 (by omega)) ?_
    rintro ⟨x, p3, s3⟩ ⟨c3, _, _⟩
    refine EvP.bind (pickE (n := 256) c3 (by omega)) ?_
    rintro ⟨y, p4, s4⟩ ⟨c4, _, _⟩
    refine EvP.bind (pickE (n := 256) c4 (by omega)) ?_
    rintro ⟨z, p5, s5⟩ ⟨c5, _, _⟩
    exact EvP.ret (c5.le (by omega))
theorem drawDelta {s : List Int} {p sd B : Int} (h : Cu s p sd B) (hB : B ≤ 100000000000) :
    EvP (fun _ => spec_l01Cur_delta.f s p sd) (fun r => Cu s r.2.1 r.2.2 (B + 10)) := by
  unfold spec_l01Cur_delta.f
  refine EvP.bind (wide_ok h (by omega) (by omega)) ?_
  rintro ⟨x, p1, s1⟩ ⟨c1, _, _⟩
  dsimp only at *
  refine EvP.bind (P := fun r => r.length = 6) (EvP.ret rfl) (fun xs hx => ?_)
  refine EvP.bind (pickE (n := 6) c1 (by omega)) ?_
  rintro ⟨i, p2, s2⟩ ⟨c2, i0, i1⟩
  dsimp only at *
  exact EvP.yes i0 (EvP.yes (by omega) (EvP.ret (c2.le (by omega))))
theorem specDove_step {a b c d x : Int} {xs : List Int} {P : Int × Int × Int → Prop} (hd : wrap64 (mx (mx a b) c - d) = mx (mx a b) c - d) (hx : 0 ≤ x) (hx3 : x < 3) (hl : xs.length = 3)
    (h : EvP (fun k => spec_Dovetail.l0 k d (xs.set x.toNat (mx (rd xs x) (mx (mx a b) c - d))) (x + 1) a b c) P) : EvP (fun k => spec_Dovetail.l0 k d xs x a b c) P := by
  refine EvP.step ?_
  simp only [spec_Dovetail.l0]
  refine EvP.yes hx3 (EvP.yes hx (EvP.yes (by omega) ?_))
  refine EvP.bind (specTop_ok a b c) ?_
  rintro _ rfl
  rw [hd, w64 (x := x + 1) (by omega) (by omega)]
  exact h
theorem specDove_ok (a b c d : Int) : EvP (fun k => spec_Dovetail.f k a b c d) (fun r =>
    (TagP a b c ∧ (0 ≤ d ∧ d ≤ 10000000) → r = (mx a (mx (mx a b) c - d), mx b (mx (mx a b) c - d), mx c (mx (mx a b) c - d))) ∧
    (¬ (TagP a b c ∧ (0 ≤ d ∧ d ≤ 10000000)) → r = (0, 0, 0))) := by
  have bad : ¬ (TagP a b c ∧ (0 ≤ d ∧ d ≤ 10000000)) → EvP (fun k => spec_Dovetail.j0 k d true a b c) (fun r =>
    (TagP a b c ∧ (0 ≤ d ∧ d ≤ 10000000) → r = (mx a (mx (mx a b) c - d), mx b (mx (mx a b) c - d), mx c (mx (mx a b) c - d))) ∧
    (¬ (TagP a b c ∧ (0 ≤ d ∧ d ≤ 10000000)) → r = (0, 0, 0))) := by
    intro h
    refine EvP.step ?_
    simp only [spec_Dovetail.j0]
    exact EvP.yes (by simp) (EvP.ret ⟨fun z => absurd z h, fun _ => rfl⟩)
  unfold spec_Dovetail.f
  refine EvP.bind (specTag_ok a b c) (fun t ht => ?_)
  refine EvP.ite (fun h1 => ?_) (fun h1 => bad (fun z => h1 (ht.2 z.1)))
  refine EvP.bind (specDelta_ok d) (fun u hu => ?_)
  cases u with
  | false => exact bad (fun z => by have := hu.2 z.2; cases this)
  | true =>
    have hT := ht.1 h1
    have hd := hu.1 rfl
    have hm := top_in hT
    have hw : wrap64 (mx (mx a b) c - d) = mx (mx a b) c - d := w64 (by omega) (by omega)
    refine EvP.step ?_
    simp only [spec_Dovetail.j0]
    refine EvP.no (by simp) ?_
    refine EvP.bind (P := fun r => r = [a, b, c]) (EvP.ret rfl) ?_
    rintro _ rfl
    refine specDove_step hw (by omega) (by omega) rfl ?_
    refine specDove_step hw (by omega) (by omega) rfl ?_
    refine specDove_step hw (by omega) (by omega) rfl ?_
    refine EvP.step ?_
    simp only [spec_Dovetail.l0]
    refine EvP.no (by omega) ?_
    refine EvP.bind (P := fun r => r = (mx a (mx (mx a b) c - d), mx b (mx (mx a b) c - d), mx c (mx (mx a b) c - d))) ?_ ?_
    · unfold spec_l13Of.f
      simp only [List.length_set, List.length_cons, List.length_nil]
      exact EvP.yes (by omega) (EvP.yes (by omega) (EvP.yes (by omega) (EvP.ret rfl)))
    rintro _ rfl
    exact EvP.ret ⟨fun _ => rfl, fun z => absurd ⟨hT, hd⟩ z⟩

theorem drawBase {s : List Int} (hb : Bs s) : EvP (fun _ => spec_DrawBaseOf.f s) (fun _ => True) := by
  unfold spec_DrawBaseOf.f
  refine EvP.bind (open_ok hb) ?_
  rintro ⟨s', p, sd⟩ ⟨rfl, c⟩
  refine EvP.bind (drawVec c (by omega)) ?_
  rintro ⟨x, y, z, p1, s1⟩ c1
  refine EvP.bind (drawDelta c1 (by omega)) ?_
  rintro ⟨d1, p2, s2⟩ c2
  refine EvP.bind (drawDelta c2 (by omega)) ?_
  rintro ⟨d2, p3, s3⟩ c3
  refine EvP.bind (raw_ok c3 (by omega)) ?_
  rintro ⟨d3, p4, s4⟩ ⟨c4, _, _⟩
  refine EvP.bind (P := fun r => r.length = 4) (EvP.ret rfl) (fun xs hx => ?_)
  refine EvP.bind (pickE (n := 4) c4 (by omega)) ?_
  rintro ⟨i, p5, s5⟩ ⟨c5, i0, i1⟩
  dsimp only at *
  exact EvP.yes i0 (EvP.yes (by omega) (EvP.ret trivial))
theorem drawMost {s : List Int} (hb : Bs s) : EvP (fun _ => spec_DrawVecMost.f s) (fun _ => True) := by
  unfold spec_DrawVecMost.f
  refine EvP.bind (open_ok hb) ?_
  rintro ⟨s', p, sd⟩ ⟨rfl, c⟩
  refine EvP.bind (drawVec c (by omega)) ?_
  rintro ⟨x, y, z, p1, s1⟩ c1
  refine EvP.bind (drawVec c1 (by omega)) ?_
  rintro ⟨x', y', z', p2, s2⟩ c2
  exact EvP.ret trivial
theorem specBase_ok {a b c d : Int} (h : NarrowP a b c d) : EvP (fun _ => spec_BaseOf.f a b c d) (fun r => r = mx 0 (mx (mx a b) c - d)) := by
  have hm := top_in h.1
  have hd := h.2.1
  unfold spec_BaseOf.f
  refine EvP.bind (specTag_ok a b c) (fun t ht => EvP.yes (ht.2 h.1) ?_)
  refine EvP.bind (specDelta_ok d) (fun t ht => EvP.yes (ht.2 h.2.1) ?_)
  refine EvP.bind (specTop_ok a b c) ?_
  rintro _ rfl
  exact EvP.ret (by rw [w64 (by omega) (by omega)])
theorem implBase_ok {a b c d : Int} (h : NarrowP a b c d) : EvP (fun _ => impl_BaseOf.f a b c d) (fun r => r = mx 0 (mx (mx a b) c - d)) := by
  have hm := top_in h.1
  have hd := h.2.1
  unfold impl_BaseOf.f
  refine EvP.bind (implTag_ok a b c) (fun t ht => EvP.yes (ht.2 h.1) ?_)
  refine EvP.bind (implDelta_ok d) (fun t ht => EvP.yes (ht.2 h.2.1) ?_)
  refine EvP.bind (implTop_ok a b c) ?_
  rintro _ rfl
  exact EvP.ret (by rw [w64 (by omega) (by omega)])
theorem implLower_ok {a b c e : Int} (h : TagP a b c) (he : 0 ≤ e ∧ e ≤ 1000000000000) (h1 : e ≤ a) (h2 : e ≤ b) (h3 : e ≤ c) : EvP (fun _ => impl_Lower.f a b c e) (fun r => r = (a - e, b - e, c - e)) := by
  obtain ⟨k1, k2, k3⟩ := id h
  unfold impl_Lower.f
  refine EvP.bind (implTag_ok a b c) (fun t ht => EvP.yes (ht.2 h) ?_)
  refine EvP.bind (within_ev e _ _) (fun t ht => EvP.yes (ht.2 he) ?_)
  have f1 := mx_le 0 (a - e)
  have f2 := mx_le 0 (b - e)
  have f3 := mx_le 0 (c - e)
  refine EvP.bind (P := fun r => r = (a - e, b - e, c - e)) (EvP.of ⟨_, rfl, ?_⟩) ?_
  · rw [w64 (x := a - e) (by omega) (by omega), w64 (x := b - e) (by omega) (by omega), w64 (x := c - e) (by omega) (by omega), show mx 0 (a - e) = a - e by omega, show mx 0 (b - e) = b - e by omega, show mx 0 (c - e) = c - e by omega]
  rintro _ rfl
  exact EvP.ret rfl
theorem lowLoop {d e t0 t1 t2 v0 v1 v2 : Int} (hn : NarrowP t0 t1 t2 d) (hv : TagP v0 v1 v2) (he : e = mx 0 (mx (mx t0 t1) t2 - d)) : ∀ (n : Nat) (x : Int), 0 ≤ x → x + n = 3 →
    EvP (fun k => laws_FnLowered.l0 k d e x t0 t1 t2 v0 v1 v2 (t0 - e) (t1 - e) (t2 - e) (v0 - e) (v1 - e) (v2 - e)) (fun r => r = true) := by
  have hm := top_in hn.1
  have hd := hn.2.1
  have e0 := mx_le 0 (mx (mx t0 t1) t2 - d)
  obtain ⟨k1, k2, k3⟩ := hn.1
  obtain ⟨u1, u2, u3⟩ := hv
  intro n
  induction n with
  | zero =>
    intro x _ hx
    refine EvP.step ?_
    simp only [laws_FnLowered.l0]
    refine EvP.no (by omega) ?_
    refine EvP.bind (specBase_ok hn) ?_
    rintro _ rfl
    refine EvP.yes he ?_
    refine EvP.bind (specTop_ok _ _ _) ?_
    rintro _ rfl
    have a1 := mx_le t0 t1
    have a2 := mx_le (mx t0 t1) t2
    have b1 := mx_le (t0 - e) (t1 - e)
    have b2 := mx_le (mx (t0 - e) (t1 - e)) (t2 - e)
    exact EvP.ret (decide_eq_true (by omega))
  | succ n ih =>
    intro x hx hd'
    refine EvP.step ?_
    simp only [laws_FnLowered.l0]
    have hk : ∃ t v : Int, (if x = 0 then t0 else if x = 1 then t1 else t2) = t ∧ (if x = 0 then v0 else if x = 1 then v1 else v2) = v ∧ (if x = 0 then t0 - e else if x = 1 then t1 - e else t2 - e) = t - e ∧ (if x = 0 then v0 - e else if x = 1 then v1 - e else v2 - e) = v - e ∧ 0 ≤ t ∧ t ≤ 1000000000000 ∧ 0 ≤ v ∧ v ≤ 1000000000000 := by
      by_cases q : x = 0
      · simp only [if_pos q]; exact ⟨t0, v0, rfl, rfl, rfl, rfl, k1.1, k1.2, u1.1, u1.2⟩
      · simp only [if_neg q]
        by_cases q : x = 1
        · simp only [if_pos q]; exact ⟨t1, v1, rfl, rfl, rfl, rfl, k2.1, k2.2, u2.1, u2.2⟩
        · simp only [if_neg q]; exact ⟨t2, v2, rfl, rfl, rfl, rfl, k3.1, k3.2, u3.1, u3.2⟩
    obtain ⟨t, v, q1, q2, q3, q4, t1, t2, v1, v2⟩ := hk
    refine EvP.yes (by omega) ?_
    refine EvP.bind (vec_ok _ _ _ x) ?_
    rintro _ rfl
    refine EvP.bind (vec_ok _ _ _ x) ?_
    rintro _ rfl
    refine EvP.bind (vec_ok _ _ _ x) ?_
    rintro _ rfl
    refine EvP.bind (vec_ok _ _ _ x) ?_
    rintro _ rfl
    rw [q1, q2, q3, q4]
    refine EvP.yes (by congr 1; omega) ?_
    refine EvP.bind (vec_ok _ _ _ x) ?_
    rintro _ rfl
    refine EvP.bind (vec_ok _ _ _ x) ?_
    rintro _ rfl
    rw [q1, q3]
    refine EvP.yes (by rw [w64 (by omega) (by omega)]) ?_
    simp only [w64 (x := x + 1) (by omega) (by omega)]
    exact ih (x + 1) (by omega) (by omega)
theorem FnLowered : laws_FnLowered.Pure := by
  intro l _ _ hw
  refine EvP.rounds ?_
  unfold laws_FnLowered.f
  refine EvP.bind (big_ok l) (fun b hb => ?_)
  refine EvP.ite (fun _ => EvP.ret rfl) (fun _ => ?_)
  refine EvP.bind (drawBase (Bs.of hw)) ?_
  rintro ⟨x0, x1, x2, d⟩ _
  refine EvP.bind (drawMost (Bs.of hw)) ?_
  rintro ⟨y0, y1, y2, z0, z1, z2⟩ _
  dsimp only
  refine EvP.bind ((specDove_ok x0 x1 x2 d).mono (fun _ _ => (trivial : True))) ?_
  rintro ⟨t0, t1, t2⟩ _
  refine EvP.bind ((specDove_ok y0 y1 y2 d).mono (fun _ _ => (trivial : True))) ?_
  rintro ⟨w0, w1, w2⟩ _
  dsimp only
  refine EvP.bind (P := fun r => r = (mx t0 w0, mx t1 w1, mx t2 w2)) (EvP.ret rfl) ?_
  rintro _ rfl
  dsimp only
  have bad : EvP (fun k => laws_FnLowered.j0 k d true t0 t1 t2 (mx t0 w0) (mx t1 w1) (mx t2 w2)) (fun r => r = true) := by
    refine EvP.step ?_
    simp only [laws_FnLowered.j0]
    exact EvP.yes (by simp) (EvP.ret rfl)
  refine EvP.bind (specNarrow_ok t0 t1 t2 d) (fun t ht => ?_)
  refine EvP.ite (fun h1 => ?_) (fun _ => bad)
  have hn := ht.1 h1
  refine EvP.bind (specTag_ok (mx t0 w0) (mx t1 w1) (mx t2 w2)) (fun u hu => ?_)
  cases u with
  | false => exact bad
  | true =>
    have hv := hu.1 rfl
    have m0 := (mx_le t0 w0).1
    have m1 := (mx_le t1 w1).1
    have m2 := (mx_le t2 w2).1
    generalize mx t0 w0 = v0 at *
    generalize mx t1 w1 = v1 at *
    generalize mx t2 w2 = v2 at *
    refine EvP.step ?_
    simp only [laws_FnLowered.j0]
    refine EvP.no (by simp) ?_
    refine EvP.bind (implBase_ok hn) ?_
    intro e he
    have hm := top_in hn.1
    have hd := hn.2.1
    have hq := hn.2.2
    have e0 := mx_le 0 (mx (mx t0 t1) t2 - d)
    rw [← he] at e0
    obtain ⟨k1, k2, k3⟩ := hn.1
    have n1 := mn_le t0 t1
    have n2 := mn_le (mn t0 t1) t2
    refine EvP.bind (implLower_ok hn.1 (by omega) (by omega) (by omega) (by omega)) ?_
    rintro _ rfl
    refine EvP.bind (implLower_ok hv (by omega) (by omega) (by omega) (by omega)) ?_
    rintro _ rfl
    exact lowLoop hn hv he 3 0 (by omega) (by omega)

end Go.Proofs.Ytbijdkmchdkgfaa.Pure
