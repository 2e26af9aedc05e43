/- For every code: who is served next is the one that waits and stands first, the reference and the program answer alike, and behind a serving nobody else is changed. No condition. -/
import Derived.Test.YtppmbdfbhahngaaPFnPickFirstx
import Derived.Laws.BitsLemmas
namespace Go.Proofs.Ytppmbdfbhahngaa.Pure
open Go.RowKit Go.Proofs.Ytppmbdfbhahngaa.PFnPickFirst Go.Proofs.YtppmbdfbhahngaaW.PrintWords Go.Proofs.YtppmbdfbhahngaaW.PrintLast Go.Proofs.YtppmbdfbhahngaaW.PrintMore
set_option linter.unusedVariables false
set_option linter.unusedSimpArgs false

def EvP {α : Type} (g : Nat → Option α) (P : α → Prop) : Prop := ∃ r, Ev g r ∧ P r
theorem EvP.of {α : Type} {o : Option α} {P : α → Prop} (h : ∃ r, o = some r ∧ P r) : EvP (fun _ => o) P := by
  obtain ⟨r, rfl, hp⟩ := h
  exact ⟨r, Ev.now r, hp⟩
theorem EvP.ret {α : Type} {r : α} {P : α → Prop} (h : P r) : EvP (fun _ => some r) P := ⟨r, Ev.now r, h⟩
theorem EvP.bind {α β : Type} {g : Nat → Option α} {f : Nat → α → Option β} {P : α → Prop} {Q : β → Prop} (h : EvP g P) (k : ∀ r, P r → EvP (fun n => f n r) Q) : EvP (fun n => (g n).bind (f n)) Q := by
  obtain ⟨r, hr, hp⟩ := h
  obtain ⟨q, hq, hQ⟩ := k r hp
  exact ⟨q, Ev.bind hr hq, hQ⟩
theorem EvP.ite {α : Type} {c : Prop} [Decidable c] {a b : Nat → Option α} {Q : α → Prop} (h : c → EvP a Q) (h' : ¬ c → EvP b Q) : EvP (fun n => if c then a n else b n) Q := by
  by_cases hc : c
  · simp only [if_pos hc]; exact h hc
  · simp only [if_neg hc]; exact h' hc
theorem EvP.yes {α : Type} {c : Prop} [Decidable c] {a b : Nat → Option α} {Q : α → Prop} (hc : c) (h : EvP a Q) : EvP (fun n => if c then a n else b n) Q := by
  simp only [if_pos hc]; exact h
theorem EvP.no {α : Type} {c : Prop} [Decidable c] {a b : Nat → Option α} {Q : α → Prop} (hc : ¬ c) (h : EvP b Q) : EvP (fun n => if c then a n else b n) Q := by
  simp only [if_neg hc]; exact h
theorem EvP.step {α : Type} {g : Nat → Option α} {Q : α → Prop} (h : EvP (fun k => g (k + 1)) Q) : EvP g Q := by
  obtain ⟨r, hr, hq⟩ := h
  exact ⟨r, Ev.step (fun _ => rfl) hr, hq⟩
theorem EvP.mono {α : Type} {g : Nat → Option α} {P Q : α → Prop} (h : EvP g P) (hpq : ∀ r, P r → Q r) : EvP g Q := by
  obtain ⟨r, hr, hp⟩ := h
  exact ⟨r, hr, hpq r hp⟩
theorem EvP.rounds {α : Type} {g : Nat → Option α} {r : α} (h : EvP g (fun x => x = r)) : ∃ k, g k = some r := by
  obtain ⟨q, hq, rfl⟩ := h
  exact hq.rounds
theorem w64 {x : Int} (h0 : -9223372036854775808 ≤ x) (h1 : x ≤ 9223372036854775807) : wrap64 x = x := by unfold wrap64; omega
theorem w64_lo (x : Int) : -9223372036854775808 ≤ wrap64 x := by unfold wrap64; omega
theorem w64_hi (x : Int) : wrap64 x ≤ 9223372036854775807 := by unfold wrap64; omega
theorem tmod_pos {a b : Int} (h : 0 ≤ a) : Int.tmod a b = a % b := Int.tmod_eq_emod_of_nonneg h
theorem tdiv_pos {a b : Int} (h : 0 ≤ a) : Int.tdiv a b = a / b := Int.tdiv_eq_ediv_of_nonneg h
def Bs (s : List Int) : Prop := ∀ x ∈ s, 0 ≤ x ∧ x ≤ 255
theorem Bs.set {s : List Int} (h : Bs s) (i : Nat) {x : Int} (h0 : 0 ≤ x) (h1 : x ≤ 255) : Bs (s.set i x) := fun y hy => by
  rcases List.mem_or_eq_of_mem_set hy with hy | rfl
  · exact h y hy
  · exact ⟨h0, h1⟩
theorem Bs.rdb {s : List Int} (h : Bs s) (i : Int) : 0 ≤ rd s i ∧ rd s i ≤ 255 := by
  by_cases hi : i.toNat < s.length
  · unfold rd
    rw [List.getD_eq_getElem?_getD, List.getElem?_eq_getElem hi]
    exact h _ (List.getElem_mem hi)
  · unfold rd
    rw [List.getD_eq_getElem?_getD, List.getElem?_eq_none (by omega)]
    exact ⟨by decide, by decide⟩
theorem Bs.of {s : List Int} (h : ∀ x ∈ s, (Lit.int .u8 x).wf = true) : Bs s := fun x hx => by
  have := h x hx
  simp [Lit.wf, IntKind.min, IntKind.max, IntKind.bits, IntKind.signed] at this
  omega
theorem mx_le (a b : Int) : a ≤ mx a b ∧ b ≤ mx a b ∧ (mx a b = a ∨ mx a b = b) := by unfold mx; split <;> omega
theorem mn_le (a b : Int) : mn a b ≤ a ∧ mn a b ≤ b ∧ (mn a b = a ∨ mn a b = b) := by unfold mn; split <;> omega
structure Cu (s : List Int) (p sd B : Int) : Prop where
  bs : Bs s
  p0 : 0 ≤ p
  p1 : p ≤ B
  s0 : 0 ≤ sd
  s1 : sd ≤ 65520
theorem Cu.le {s : List Int} {p sd B B' : Int} (h : Cu s p sd B) (hB : B ≤ B') : Cu s p sd B' := ⟨h.bs, h.p0, by have := h.p1; omega, h.s0, h.s1⟩
theorem seed_ok {sd : Int} (h0 : 0 ≤ sd) (h1 : sd ≤ 65520) : Int.tmod (wrap64 ((wrap64 (sd * 1103)) + 12345)) 65521 = (sd * 1103 + 12345) % 65521 := by
  rw [w64 (x := sd * 1103) (by omega) (by omega), w64 (by omega) (by omega), tmod_pos (by omega)]
theorem rem_ok {x n : Int} (h0 : 0 ≤ x) (hn : 2 ≤ n) : 0 ≤ Int.tmod x n ∧ Int.tmod x n < n := by
  rw [tmod_pos h0]
  exact ⟨Int.emod_nonneg _ (by omega), Int.emod_lt_of_pos _ (by omega)⟩
theorem pick_ok {s : List Int} {p sd B n : Int} (h : Cu s p sd B) (hB : B ≤ 4611686018427387904) :
    ∃ r, spec_l01Cur_pick.f s p sd n = some r ∧ Cu s r.2.1 r.2.2 (B + 1) ∧ 0 ≤ r.1 ∧ (r.1 < n ∨ r.1 = 0) := by
  obtain ⟨hb, p0, p1, s0, s1⟩ := h
  unfold spec_l01Cur_pick.f
  rw [seed_ok s0 s1, w64 (x := p + 1) (by omega) (by omega)]
  have e0 : 0 ≤ (sd * 1103 + 12345) % 65521 ∧ (sd * 1103 + 12345) % 65521 ≤ 65520 := by omega
  generalize (sd * 1103 + 12345) % 65521 = q at e0
  by_cases hn : n < 2
  · rw [if_pos hn]
    exact ⟨_, rfl, ⟨hb, p0, by dsimp only; omega, s0, s1⟩, by dsimp only; omega, .inr rfl⟩
  rw [if_neg hn]
  by_cases hp : p < (s.length : Int)
  · rw [if_pos hp, if_pos p0, if_neg (by omega)]
    have hr := hb.rdb p
    have hm := rem_ok hr.1 (show (2 : Int) ≤ n by omega)
    rw [w64 (x := rd s p) (by omega) (by omega)]
    exact ⟨_, rfl, ⟨hb, by dsimp only; omega, by dsimp only; omega, s0, s1⟩, hm.1, .inl hm.2⟩
  rw [if_neg hp]
  by_cases hl : (s.length : Int) > 0
  · have hm : 0 ≤ Int.tmod p (s.length : Int) ∧ Int.tmod p (s.length : Int) < (s.length : Int) := by
      rw [tmod_pos p0]
      exact ⟨Int.emod_nonneg _ (by omega), Int.emod_lt_of_pos _ (by omega)⟩
    rw [if_pos hl, if_neg (by omega), if_pos hm.1, if_pos hm.2, if_neg (by omega)]
    have hr := hb.rdb (Int.tmod p (s.length : Int))
    have hv := rem_ok (x := wrap64 ((wrap64 (Int.tdiv q 7)) + (wrap64 (rd s (Int.tmod p (s.length : Int)))))) (n := n) (by
      rw [tdiv_pos e0.1, w64 (x := q / 7) (by omega) (by omega), w64 (x := rd s _) (by omega) (by omega), w64 (by omega) (by omega)]
      omega) (by omega)
    exact ⟨_, rfl, ⟨hb, by dsimp only; omega, by dsimp only; omega, e0.1, e0.2⟩, hv.1, .inl hv.2⟩
  · rw [if_neg hl, if_neg (by omega)]
    have hv := rem_ok (x := 0) (n := n) (by omega) (by omega)
    rw [tmod_pos (by omega)] at hv
    exact ⟨_, rfl, ⟨hb, by dsimp only; omega, by dsimp only; omega, e0.1, e0.2⟩, hv.1, .inl hv.2⟩
theorem pickE {s : List Int} {p sd B n : Int} (h : Cu s p sd B) (hB : B ≤ 4611686018427387904) :
    EvP (fun _ => spec_l01Cur_pick.f s p sd n) (fun r => Cu s r.2.1 r.2.2 (B + 1) ∧ 0 ≤ r.1 ∧ (r.1 < n ∨ r.1 = 0)) := EvP.of (pick_ok h hB)
theorem open_ok {s : List Int} (hb : Bs s) : EvP (fun _ => spec_l01Open.f s) (fun r => r.1 = s ∧ Cu s r.2.1 r.2.2 0) := by
  refine EvP.ret ⟨rfl, hb, ?_, ?_, ?_, ?_⟩ <;> dsimp only <;> omega
theorem big_ok (s : List Int) : EvP (fun _ => laws_big.f s) (fun b => b = false → (s.length : Int) ≤ 1048576) := by
  unfold laws_big.f
  refine EvP.ret (fun h => ?_)
  simp at h
  omega
theorem size_ok {s : List Int} {p sd B n : Int} (h : Cu s p sd B) (hB : B ≤ 4611686018427387904) (hl : (s.length : Int) ≤ 1048576) (h0 : 0 ≤ n) (hn : n ≤ 1000) :
    EvP (fun _ => spec_l01Cur_size.f s p sd n) (fun r => Cu s r.2.1 r.2.2 (B + 1) ∧ 0 ≤ r.1 ∧ r.1 ≤ n) := by
  unfold spec_l01Cur_size.f
  have e : 0 ≤ mn n (wrap64 (1 + (wrap64 ((s.length : Int) / 8)))) ∧ mn n (wrap64 (1 + (wrap64 ((s.length : Int) / 8)))) ≤ n := by
    rw [w64 (x := (s.length : Int) / 8) (by omega) (by omega), w64 (by omega) (by omega)]
    unfold mn; omega
  generalize mn n (wrap64 (1 + (wrap64 ((s.length : Int) / 8)))) = m at e
  rw [w64 (x := m + 1) (by omega) (by omega)]
  refine EvP.bind (pickE h hB) ?_
  rintro ⟨x, p', s'⟩ ⟨c, x0, x1⟩
  dsimp only at *
  exact EvP.ret ⟨c, x0, by dsimp only; omega⟩
theorem once_ok {s : List Int} {p sd B n : Int} (h : Cu s p sd B) (hB : B ≤ 4611686018427387904) :
    EvP (fun _ => spec_l01Cur_once.f s p sd n) (fun r => Cu s r.2.1 r.2.2 (B + 1)) := by
  unfold spec_l01Cur_once.f
  refine EvP.bind (pickE h hB) ?_
  rintro ⟨x, p', s'⟩ ⟨c, _, _⟩
  exact EvP.ret c
theorem w64r {x : Int} : -9223372036854775808 ≤ wrap64 x ∧ wrap64 x ≤ 9223372036854775807 := ⟨w64_lo x, w64_hi x⟩
theorem raw_ok {s : List Int} {p sd B : Int} (h : Cu s p sd B) (hB : B ≤ 1000000000000) :
    EvP (fun _ => spec_l01Cur_raw.f s p sd) (fun r => Cu s r.2.1 r.2.2 (B + 2) ∧ -9223372036854775808 ≤ r.1 ∧ r.1 ≤ 9223372036854775807) := by
  unfold spec_l01Cur_raw.f
  refine EvP.bind (pickE (n := 8) h (by omega)) ?_
  rintro ⟨a, p1, s1⟩ ⟨c1, a0, a1⟩
  dsimp only at *
  refine EvP.ite (fun _ => ?_) (fun _ => EvP.ite (fun _ => ?_) (fun _ => ?_))
  · refine EvP.bind (pickE (n := 256) c1 (by omega)) ?_
    rintro ⟨b, p2, s2⟩ ⟨c2, b0, b1⟩
    exact EvP.ret ⟨c2.le (by omega), w64r⟩
  · refine EvP.bind (EvP.ret (P := fun y => y.length = 8 ∧ ∀ i : Int, 0 ≤ i → i < 8 → -9223372036854775808 ≤ rd y i ∧ rd y i ≤ 9223372036854775807) ⟨rfl, fun i h0 h8 => ?_⟩) ?_
    · have : i = 0 ∨ i = 1 ∨ i = 2 ∨ i = 3 ∨ i = 4 ∨ i = 5 ∨ i = 6 ∨ i = 7 := by omega
      rcases this with e | e | e | e | e | e | e | e <;> rw [e] <;> decide
    · rintro y ⟨hy, hv⟩
      refine EvP.bind (pickE (n := 8) c1 (by omega)) ?_
      rintro ⟨b, p2, s2⟩ ⟨c2, b0, b1⟩
      dsimp only at *
      exact EvP.yes b0 (EvP.yes (by omega) (EvP.ret ⟨c2.le (by omega), hv b b0 (by omega)⟩))
  · refine EvP.bind (pickE (n := 14) c1 (by omega)) ?_
    rintro ⟨b, p2, s2⟩ ⟨c2, b0, b1⟩
    exact EvP.ret ⟨c2.le (by omega), w64r⟩
theorem wide_ok {s : List Int} {p sd B n : Int} (h : Cu s p sd B) (hB : B ≤ 1000000000000) (hn : 2 ≤ n) :
    EvP (fun _ => spec_l01Cur_wide.f s p sd n) (fun r => Cu s r.2.1 r.2.2 (B + 3) ∧ 0 ≤ r.1 ∧ r.1 < n) := by
  unfold spec_l01Cur_wide.f
  refine EvP.bind (pickE (n := 256) h (by omega)) ?_
  rintro ⟨a, p1, s1⟩ ⟨c1, a0, a1⟩
  dsimp only at *
  refine EvP.bind (pickE (n := 256) c1 (by omega)) ?_
  rintro ⟨b, p2, s2⟩ ⟨c2, b0, b1⟩
  dsimp only at *
  refine EvP.bind (pickE (n := 256) c2 (by omega)) ?_
  rintro ⟨d, p3, s3⟩ ⟨c3, d0, d1⟩
  dsimp only at *
  refine EvP.no (by omega) (EvP.ret ⟨c3.le (by omega), ?_⟩)
  dsimp only
  rw [w64 (x := 65536 * a) (by omega) (by omega), w64 (x := 256 * b) (by omega) (by omega), w64 (x := 65536 * a + 256 * b) (by omega) (by omega), w64 (by omega) (by omega)]
  exact rem_ok (by omega) hn
def TagP (a b c : Int) : Prop := (0 ≤ a ∧ a ≤ 1000000000000) ∧ (0 ≤ b ∧ b ≤ 1000000000000) ∧ 0 ≤ c ∧ c ≤ 1000000000000
def NarrowP (a b c d : Int) : Prop := TagP a b c ∧ (0 ≤ d ∧ d ≤ 10000000) ∧ mx (mx a b) c - d ≤ mn (mn a b) c
theorem top_in {a b c : Int} (h : TagP a b c) : 0 ≤ mx (mx a b) c ∧ mx (mx a b) c ≤ 1000000000000 := by
  obtain ⟨h1, h2, h3⟩ := h
  have e1 := mx_le a b
  have e2 := mx_le (mx a b) c
  omega
theorem specAll_ok (a b c x y : Int) : EvP (fun _ => spec_l13All.f a b c x y) (fun r => r = true ↔ (x ≤ a ∧ a ≤ y) ∧ (x ≤ b ∧ b ≤ y) ∧ x ≤ c ∧ c ≤ y) := by
  unfold spec_l13All.f
  refine EvP.ite (fun h1 => ?_) (fun h => EvP.ret ⟨(fun h => by cases h), fun z => by omega⟩)
  refine EvP.ite (fun h2 => ?_) (fun h => EvP.ret ⟨(fun h => by cases h), fun z => by omega⟩)
  refine EvP.ite (fun h3 => ?_) (fun h => EvP.ret ⟨(fun h => by cases h), fun z => by omega⟩)
  refine EvP.ite (fun h4 => ?_) (fun h => EvP.ret ⟨(fun h => by cases h), fun z => by omega⟩)
  refine EvP.ite (fun h5 => EvP.ret ?_) (fun h => EvP.ret ⟨(fun h => by cases h), fun z => by omega⟩)
  rw [decide_eq_true_iff]; omega
theorem specTag_ok (a b c : Int) : EvP (fun _ => spec_TagOk.f a b c) (fun r => r = true ↔ TagP a b c) := by
  unfold spec_TagOk.f
  exact EvP.bind (specAll_ok a b c _ _) (fun r h => EvP.ret h)
theorem specDelta_ok (a : Int) : EvP (fun _ => spec_l13Delta.f a) (fun r => r = true ↔ 0 ≤ a ∧ a ≤ 10000000) := by
  unfold spec_l13Delta.f
  refine EvP.ite (fun h => EvP.ret ?_) (fun h => EvP.ret ⟨(fun h => by cases h), fun z => by omega⟩)
  rw [decide_eq_true_iff]; omega
theorem specTop_ok (a b c : Int) : EvP (fun _ => spec_VecTop.f a b c) (fun r => r = mx (mx a b) c) := EvP.ret rfl
theorem implTop_ok (a b c : Int) : EvP (fun _ => impl_VecTop.f a b c) (fun r => r = mx (mx a b) c) := EvP.ret rfl
theorem specNarrow_ok (a b c d : Int) : EvP (fun _ => spec_Narrow.f a b c d) (fun r => r = true ↔ NarrowP a b c d) := by
  unfold spec_Narrow.f
  refine EvP.bind (specTag_ok a b c) (fun t ht => ?_)
  refine EvP.ite (fun h1 => ?_) (fun h => EvP.ret ⟨(fun h => by cases h), fun z => absurd (ht.2 z.1) h⟩)
  refine EvP.bind (specDelta_ok d) (fun u hu => ?_)
  refine EvP.ite (fun h2 => ?_) (fun h => EvP.ret ⟨(fun h => by cases h), fun z => absurd (hu.2 z.2.1) h⟩)
  refine EvP.bind (specTop_ok a b c) ?_
  rintro _ rfl
  have hT := ht.1 h1
  have hD := hu.1 h2
  have hm := top_in hT
  refine EvP.ret ?_
  rw [decide_eq_true_iff, w64 (by omega) (by omega)]
  exact ⟨fun h => ⟨hT, hD, by omega⟩, fun z => by have := z.2.2; omega⟩
theorem within_ev (a b c : Int) : EvP (fun _ => impl_within.f a b c) (fun r => r = true ↔ b ≤ a ∧ a ≤ c) := by
  unfold impl_within.f
  refine EvP.ite (fun h => EvP.ret ?_) (fun h => EvP.ret ⟨(fun h => by cases h), fun z => by omega⟩)
  rw [decide_eq_true_iff]; omega
theorem isFrom_ok (a b c x y : Int) : EvP (fun _ => impl_Vec_isFrom.f a b c x y) (fun r => r = true ↔ (x ≤ a ∧ a ≤ y) ∧ (x ≤ b ∧ b ≤ y) ∧ x ≤ c ∧ c ≤ y) := by
  unfold impl_Vec_isFrom.f
  refine EvP.bind (within_ev a x y) (fun t ht => ?_)
  refine EvP.ite (fun h1 => ?_) (fun h => EvP.ret ⟨(fun h => by cases h), fun z => absurd (ht.2 z.1) h⟩)
  refine EvP.bind (within_ev b x y) (fun u hu => ?_)
  refine EvP.ite (fun h2 => ?_) (fun h => EvP.ret ⟨(fun h => by cases h), fun z => absurd (hu.2 z.2.1) h⟩)
  refine EvP.bind (within_ev c x y) (fun v hv => EvP.ret ?_)
  have h3 := ht.1 h1
  have h4 := hu.1 h2
  rw [hv]; exact ⟨fun h => ⟨h3, h4, h⟩, fun z => z.2.2⟩
theorem implTag_ok (a b c : Int) : EvP (fun _ => impl_TagOk.f a b c) (fun r => r = true ↔ TagP a b c) := by
  unfold impl_TagOk.f
  exact EvP.bind (isFrom_ok a b c _ _) (fun r h => EvP.ret h)
theorem implDelta_ok (a : Int) : EvP (fun _ => impl_isDelta.f a) (fun r => r = true ↔ 0 ≤ a ∧ a ≤ 10000000) := by
  unfold impl_isDelta.f
  exact EvP.bind (within_ev a _ _) (fun r h => EvP.ret h)
theorem implNarrow_ok (a b c d : Int) : EvP (fun _ => impl_Narrow.f a b c d) (fun r => r = true ↔ NarrowP a b c d) := by
  unfold impl_Narrow.f
  refine EvP.bind (implTag_ok a b c) (fun t ht => ?_)
  refine EvP.ite (fun h1 => ?_) (fun h => EvP.ret ⟨(fun h => by cases h), fun z => absurd (ht.2 z.1) h⟩)
  refine EvP.bind (implDelta_ok d) (fun u hu => ?_)
  refine EvP.ite (fun h2 => ?_) (fun h => EvP.ret ⟨(fun h => by cases h), fun z => absurd (hu.2 z.2.1) h⟩)
  refine EvP.bind (implTop_ok a b c) ?_
  rintro _ rfl
  have hT := ht.1 h1
  have hD := hu.1 h2
  have hm := top_in hT
  have e1 := mn_le a b
  have e2 := mn_le (mn a b) c
  refine EvP.bind (isFrom_ok a b c _ _) (fun v hv => EvP.ret ?_)
  rw [hv, w64 (by omega) (by omega)]
  obtain ⟨z1, z2, z3⟩ := id hT
  exact ⟨fun h => ⟨hT, hD, by omega⟩, fun z => by have := z.2.2; omega⟩
def strideOf (w : Int) : Int := if 1 ≤ w ∧ w ≤ 10 then 2520 / w else 0
theorem stride_in {w : Int} (h0 : 1 ≤ w) (h1 : w ≤ 10) : 252 ≤ 2520 / w ∧ 2520 / w ≤ 2520 := by
  constructor
  · exact (Int.le_ediv_iff_mul_le (by omega)).2 (by omega)
  · exact Int.ediv_le_self _ (by decide)
theorem strideOf_in (w : Int) : 0 ≤ strideOf w ∧ strideOf w ≤ 2520 := by
  unfold strideOf
  split
  · rename_i h; have := stride_in h.1 h.2; omega
  · omega
theorem strideOf_zero (w : Int) : strideOf w = 0 ↔ ¬ (1 ≤ w ∧ w ≤ 10) := by
  unfold strideOf
  split
  · rename_i h; have := stride_in h.1 h.2; exact ⟨fun e => by omega, fun n => absurd h n⟩
  · rename_i h; exact ⟨fun _ => h, fun _ => rfl⟩
theorem specStride_ok (w : Int) : EvP (fun _ => spec_Stride.f w) (fun r => r = strideOf w) := by
  unfold spec_Stride.f
  refine EvP.ite (fun h => EvP.ret ?_) (fun h => ?_)
  · exact ((strideOf_zero w).2 (by omega)).symm
  refine EvP.ite (fun h => EvP.ret ?_) (fun h' => ?_)
  · exact ((strideOf_zero w).2 (by omega)).symm
  refine EvP.no (by omega) (EvP.ret ?_)
  have := stride_in (w := w) (by omega) (by omega)
  unfold strideOf
  rw [w64 (by omega) (by omega), if_pos (by omega)]
theorem isFlow_ok (a : Int) : EvP (fun _ => impl_isFlow.f a) (fun r => r = true ↔ 0 ≤ a ∧ a ≤ 9999) := by
  unfold impl_isFlow.f
  exact EvP.bind (within_ev a _ _) (fun r h => EvP.ret h)
theorem isWeight_ok (a : Int) : EvP (fun _ => impl_isWeight.f a) (fun r => r = true ↔ 1 ≤ a ∧ a ≤ 10) := by
  unfold impl_isWeight.f
  exact EvP.bind (within_ev a _ _) (fun r h => EvP.ret h)
theorem implStride_ok (w : Int) : EvP (fun _ => impl_Stride.f w) (fun r => r = strideOf w) := by
  unfold impl_Stride.f
  refine EvP.bind (isWeight_ok w) (fun t ht => ?_)
  refine EvP.ite (fun h => ?_) (fun h => EvP.ret ?_)
  · have hw := ht.1 h
    refine EvP.no (by omega) (EvP.ret ?_)
    have := stride_in (w := w) (by omega) (by omega)
    unfold strideOf
    rw [w64 (by omega) (by omega), if_pos (by omega)]
  · exact ((strideOf_zero w).2 (fun z => h (ht.2 z))).symm
theorem rdk {l : List S46} {i : Int} (h0 : 0 ≤ i) (h1 : i < (l.length : Int)) : l[i.toNat]? = some (rd_T46 l i) := by
  unfold rd_T46
  rw [List.getD_eq_getElem?_getD, List.getElem?_eq_getElem (by omega)]; rfl
def topOf (x : S46) : Int := mx (mx x.f3.f0 x.f3.f1) x.f3.f2
def FairKid (d T : Int) (x : S46) : Prop := (0 ≤ x.f0 ∧ x.f0 ≤ 9999) ∧ (1 ≤ x.f1 ∧ x.f1 ≤ 10) ∧ NarrowP x.f3.f0 x.f3.f1 x.f3.f2 d ∧ topOf x ≤ T + strideOf x.f1 * 2000 ∧ (x.f2 = true → T ≤ topOf x)
def FairAt (d T : Int) (l : List S46) (i : Int) : Prop := FairKid d T (rd_T46 l i) ∧ (0 < i → (rd_T46 l (i - 1)).f0 < (rd_T46 l i).f0)
def FairFrom (d T : Int) (l : List S46) (i : Int) : Prop := ∀ j, i ≤ j → j < (l.length : Int) → FairAt d T l j
def FairP (d a b c : Int) (l : List S46) : Prop := NarrowP a b c d ∧ mx (mx a b) c ≤ 100000000000 ∧ (l.length : Int) ≤ 48 ∧ FairFrom d (mx (mx a b) c) l 0
theorem FairFrom.step {d T i : Int} {l : List S46} (h : FairAt d T l i) : FairFrom d T l i ↔ FairFrom d T l (i + 1) :=
  ⟨fun g j h0 h1 => g j (by omega) h1, fun g j h0 h1 => by
    by_cases e : j = i
    · rw [e]; exact h
    · exact g j (by omega) h1⟩
theorem specBad_ok (i d a b c : Int) (l : List S46) (u v : Int) (w : Bool) (x y z : Int) : EvP (fun k => spec_FairOk.j2 k i true d a b c l u v w x y z) (fun r => r = false) := by
  refine EvP.step ?_
  simp only [spec_FairOk.j2]
  exact EvP.yes (by simp) (EvP.ret rfl)
theorem specFair_l0 {d a b c : Int} {l : List S46} (hl : (l.length : Int) ≤ 48) (hT0 : 0 ≤ mx (mx a b) c) (hT1 : mx (mx a b) c ≤ 100000000000) : ∀ (n : Nat) (i : Int), 0 ≤ i → i + n = (l.length : Int) → EvP (fun k => spec_FairOk.l0 k i d a b c l) (fun r => r = true ↔ FairFrom d (mx (mx a b) c) l i)
  | 0, i, h0, hi => by
    refine EvP.step ?_
    simp only [spec_FairOk.l0]
    exact EvP.no (by omega) (EvP.ret ⟨fun _ j h1 h2 => by omega, fun _ => rfl⟩)
  | n + 1, i, h0, hi => by
    have bad : ∀ (u v : Int) (w : Bool) (x y z : Int), ¬ FairAt d (mx (mx a b) c) l i → EvP (fun k => spec_FairOk.j2 k i true d a b c l u v w x y z) (fun r => r = true ↔ FairFrom d (mx (mx a b) c) l i) := fun u v w x y z h =>
      (specBad_ok i d a b c l u v w x y z).mono (fun r e => ⟨(fun e' => by rw [e] at e'; cases e'), fun g => absurd (g i (by omega) (by omega)) h⟩)
    have rest : ∀ (t : Bool), (t = true ↔ NarrowP (rd_T46 l i).f3.f0 (rd_T46 l i).f3.f1 (rd_T46 l i).f3.f2 d) → (0 ≤ (rd_T46 l i).f0 ∧ (rd_T46 l i).f0 ≤ 9999) → (1 ≤ (rd_T46 l i).f1 ∧ (rd_T46 l i).f1 ≤ 10) → (0 < i → (rd_T46 l (i - 1)).f0 < (rd_T46 l i).f0) →
        EvP (fun k => spec_FairOk.j2 k i (!t) d a b c l ((rd_T46 l i).f0) ((rd_T46 l i).f1) ((rd_T46 l i).f2) ((rd_T46 l i).f3.f0) ((rd_T46 l i).f3.f1) ((rd_T46 l i).f3.f2)) (fun r => r = true ↔ FairFrom d (mx (mx a b) c) l i) := by
      intro t ht hf hw ho
      cases t with
      | false => exact bad _ _ _ _ _ _ (fun g => by have := ht.2 g.1.2.2.1; cases this)
      | true =>
        have hn := ht.1 rfl
        have hs := strideOf_in (rd_T46 l i).f1
        refine EvP.step ?_
        simp only [spec_FairOk.j2]
        refine EvP.no (by simp) (EvP.bind (specTop_ok _ _ _) ?_)
        rintro _ rfl
        refine EvP.bind (specTop_ok _ _ _) ?_
        rintro _ rfl
        refine EvP.bind (specStride_ok _) ?_
        rintro _ rfl
        rw [w64 (x := strideOf _ * 2000) (by omega) (by omega), w64 (by omega) (by omega)]
        refine EvP.ite (fun h => EvP.ret ⟨(fun h => by cases h), fun g => ?_⟩) (fun h1 => ?_)
        · have := (g i (by omega) (by omega)).1.2.2.2.1
          unfold topOf at this; omega
        have good : ((rd_T46 l i).f2 = true → mx (mx a b) c ≤ topOf (rd_T46 l i)) → FairAt d (mx (mx a b) c) l i := fun g => ⟨⟨hf, hw, hn, by unfold topOf; omega, g⟩, ho⟩
        refine EvP.ite (fun h2 => ?_) (fun h2 => ?_)
        · refine EvP.bind (specTop_ok _ _ _) ?_
          rintro _ rfl
          refine EvP.bind (specTop_ok _ _ _) ?_
          rintro _ rfl
          refine EvP.ite (fun h => EvP.ret ⟨(fun h => by cases h), fun g => ?_⟩) (fun h3 => ?_)
          · have := (g i (by omega) (by omega)).1.2.2.2.2 h2
            unfold topOf at this; omega
          rw [w64 (by omega) (by omega), FairFrom.step (good (fun _ => by unfold topOf; omega))]
          exact specFair_l0 hl hT0 hT1 n (i + 1) (by omega) (by omega)
        · rw [w64 (by omega) (by omega), FairFrom.step (good (fun e => absurd e h2))]
          exact specFair_l0 hl hT0 hT1 n (i + 1) (by omega) (by omega)
    refine EvP.step ?_
    simp only [spec_FairOk.l0]
    refine EvP.yes (by omega) (EvP.yes h0 ?_)
    refine EvP.ite (fun h => bad _ _ _ _ _ _ (fun g => by have := g.1.1; omega)) (fun h1 => ?_)
    refine EvP.ite (fun h => bad _ _ _ _ _ _ (fun g => by have := g.1.1; omega)) (fun h2 => ?_)
    refine EvP.ite (fun h3 => ?_) (fun h3 => ?_)
    · rw [w64 (by omega) (by omega)]
      refine EvP.yes (by omega) (EvP.yes (by omega) ?_)
      refine EvP.ite (fun h => bad _ _ _ _ _ _ (fun g => by have := g.2 h3; omega)) (fun h4 => ?_)
      refine EvP.bind (specStride_ok _) ?_
      rintro _ rfl
      refine EvP.ite (fun h => bad _ _ _ _ _ _ (fun g => (strideOf_zero _).1 h g.1.2.1)) (fun h5 => ?_)
      refine EvP.bind (specNarrow_ok _ _ _ _) (fun t ht => ?_)
      exact rest t ht (by omega) (Decidable.not_not.1 (fun g => h5 ((strideOf_zero _).2 g))) (fun _ => by omega)
    · refine EvP.bind (specStride_ok _) ?_
      rintro _ rfl
      refine EvP.ite (fun h => bad _ _ _ _ _ _ (fun g => (strideOf_zero _).1 h g.1.2.1)) (fun h5 => ?_)
      refine EvP.bind (specNarrow_ok _ _ _ _) (fun t ht => ?_)
      exact rest t ht (by omega) (Decidable.not_not.1 (fun g => h5 ((strideOf_zero _).2 g))) (fun g => absurd g h3)
theorem specFair_ok (d a b c : Int) (l : List S46) : EvP (fun k => spec_FairOk.f k d a b c l) (fun r => r = true ↔ FairP d a b c l) := by
  have bad : ¬ FairP d a b c l → EvP (fun k => spec_FairOk.j0 k true d a b c l) (fun r => r = true ↔ FairP d a b c l) := fun h => by
    refine EvP.step ?_
    simp only [spec_FairOk.j0]
    exact EvP.yes (by simp) (EvP.ret ⟨(fun h => by cases h), fun g => absurd g h⟩)
  unfold spec_FairOk.f
  refine EvP.bind (specNarrow_ok _ _ _ _) (fun t ht => ?_)
  refine EvP.ite (fun h1 => ?_) (fun h => bad (fun g => h (ht.2 g.1)))
  refine EvP.bind (specTop_ok _ _ _) ?_
  rintro _ rfl
  refine EvP.ite (fun h => bad (fun g => by have := g.2.1; omega)) (fun h2 => ?_)
  have hn := ht.1 h1
  have hm := top_in hn.1
  refine EvP.step ?_
  simp only [spec_FairOk.j0]
  refine EvP.ite (fun h => EvP.ret ⟨(fun h => by cases h), fun g => ?_⟩) (fun h3 => ?_)
  · have := g.2.2.1
    rw [decide_eq_true_iff] at h; omega
  · rw [decide_eq_true_iff] at h3
    exact (specFair_l0 (by omega) hm.1 (by omega) l.length 0 (by omega) (by omega)).mono (fun r e => e.trans ⟨fun g => ⟨hn, by omega, by omega, g⟩, fun g => g.2.2.2⟩)
theorem implKid_ok {d a b c : Int} {l : List S46} (hT0 : 0 ≤ mx (mx a b) c) (hT1 : mx (mx a b) c ≤ 100000000000) (x : S46) : EvP (fun _ => impl_Fair_kidOk.f d a b c l x.f0 x.f1 x.f2 x.f3.f0 x.f3.f1 x.f3.f2) (fun r => r = true ↔ FairKid d (mx (mx a b) c) x) := by
  have hs := strideOf_in x.f1
  unfold impl_Fair_kidOk.f
  refine EvP.bind (implTop_ok _ _ _) ?_
  rintro _ rfl
  refine EvP.bind (implTop_ok _ _ _) ?_
  rintro _ rfl
  refine EvP.bind (isFlow_ok _) (fun t ht => ?_)
  refine EvP.ite (fun h1 => ?_) (fun h => EvP.ret ⟨(fun h => by cases h), fun z => absurd (ht.2 z.1) h⟩)
  refine EvP.bind (isWeight_ok _) (fun u hu => ?_)
  refine EvP.ite (fun h2 => ?_) (fun h => EvP.ret ⟨(fun h => by cases h), fun z => absurd (hu.2 z.2.1) h⟩)
  refine EvP.bind (implNarrow_ok _ _ _ _) (fun v hv => ?_)
  refine EvP.ite (fun h3 => ?_) (fun h => EvP.ret ⟨(fun h => by cases h), fun z => absurd (hv.2 z.2.2.1) h⟩)
  refine EvP.bind (implStride_ok _) ?_
  rintro _ rfl
  rw [w64 (x := strideOf _ * 2000) (by omega) (by omega), w64 (by omega) (by omega)]
  refine EvP.ite (fun h4 => ?_) (fun h => EvP.ret ⟨(fun h => by cases h), fun z => absurd z.2.2.2.1 h⟩)
  have hf := ht.1 h1
  have hw := hu.1 h2
  have hn := hv.1 h3
  refine EvP.ite (fun h5 => EvP.ret ?_) (fun h5 => EvP.ret ⟨fun _ => ⟨hf, hw, hn, h4, fun e => absurd e h5⟩, fun _ => rfl⟩)
  rw [decide_eq_true_iff]
  exact ⟨fun e => ⟨hf, hw, hn, h4, fun _ => e⟩, fun z => z.2.2.2.2 h5⟩
theorem implFair_l0 {d a b c : Int} {l : List S46} (hl : (l.length : Int) ≤ 48) (hT0 : 0 ≤ mx (mx a b) c) (hT1 : mx (mx a b) c ≤ 100000000000) : ∀ (n : Nat) (i : Int), 0 ≤ i → i + n = (l.length : Int) → EvP (fun k => impl_FairOk.l0 k l (l.length : Int) i d a b c l) (fun r => r = true ↔ FairFrom d (mx (mx a b) c) l i)
  | 0, i, h0, hi => by
    refine EvP.step ?_
    simp only [impl_FairOk.l0]
    exact EvP.no (by omega) (EvP.ret ⟨fun _ j h1 h2 => by omega, fun _ => rfl⟩)
  | n + 1, i, h0, hi => by
    refine EvP.step ?_
    simp only [impl_FairOk.l0]
    refine EvP.yes (by omega) (EvP.yes h0 (EvP.yes (by omega) (EvP.bind (implKid_ok hT0 hT1 (rd_T46 l i)) (fun t ht => ?_))))
    refine EvP.ite (fun h1 => ?_) (fun h => EvP.ret ⟨(fun h => by cases h), fun g => absurd (ht.2 (g i (by omega) (by omega)).1) h⟩)
    have hk := ht.1 h1
    rw [w64 (x := i + 1) (by omega) (by omega)]
    refine EvP.ite (fun h3 => ?_) (fun h3 => ?_)
    · rw [w64 (by omega) (by omega)]
      refine EvP.yes (by omega) (EvP.yes (by omega) ?_)
      refine EvP.ite (fun h => EvP.ret ⟨(fun h => by cases h), fun g => ?_⟩) (fun h4 => ?_)
      · have := (g i (by omega) (by omega)).2 h3
        omega
      · rw [FairFrom.step ⟨hk, fun _ => by omega⟩]
        exact implFair_l0 hl hT0 hT1 n (i + 1) (by omega) (by omega)
    · rw [FairFrom.step ⟨hk, fun g => absurd g h3⟩]
      exact implFair_l0 hl hT0 hT1 n (i + 1) (by omega) (by omega)
theorem implFair_ok (d a b c : Int) (l : List S46) : EvP (fun k => impl_FairOk.f k d a b c l) (fun r => r = true ↔ FairP d a b c l) := by
  have bad : ¬ FairP d a b c l → EvP (fun k => impl_FairOk.j0 k true d a b c l) (fun r => r = true ↔ FairP d a b c l) := fun h => by
    refine EvP.step ?_
    simp only [impl_FairOk.j0]
    exact EvP.yes (by simp) (EvP.ret ⟨(fun h => by cases h), fun g => absurd g h⟩)
  unfold impl_FairOk.f
  refine EvP.bind (implNarrow_ok _ _ _ _) (fun t ht => ?_)
  refine EvP.ite (fun h1 => ?_) (fun h => bad (fun g => h (ht.2 g.1)))
  refine EvP.bind (implTop_ok _ _ _) ?_
  rintro _ rfl
  refine EvP.ite (fun h => bad (fun g => by have := g.2.1; omega)) (fun h2 => ?_)
  have hn := ht.1 h1
  have hm := top_in hn.1
  refine EvP.step ?_
  simp only [impl_FairOk.j0]
  refine EvP.ite (fun h => EvP.ret ⟨(fun h => by cases h), fun g => ?_⟩) (fun h3 => ?_)
  · have := g.2.2.1
    rw [decide_eq_true_iff] at h; omega
  · rw [decide_eq_true_iff] at h3
    exact (implFair_l0 (by omega) hm.1 (by omega) l.length 0 (by omega) (by omega)).mono (fun r e => e.trans ⟨fun g => ⟨hn, by omega, by omega, g⟩, fun g => g.2.2.2⟩)
def pickStep (l : List S46) (best i : Int) : Int := if (rd_T46 l i).f2 = true ∧ (best < 0 ∨ topOf (rd_T46 l i) < topOf (rd_T46 l best)) then i else best
def pickFrom (l : List S46) : Nat → Int → Int → Int
  | 0, best, _ => best
  | d + 1, best, i => pickFrom l d (pickStep l best i) (i + 1)
def pickOf (l : List S46) : Int := pickFrom l l.length (-1) 0
theorem pickStep_in {l : List S46} {best i : Int} (h0 : 0 ≤ i) (h1 : -1 ≤ best ∧ best < i) : -1 ≤ pickStep l best i ∧ pickStep l best i < i + 1 := by
  unfold pickStep; split <;> omega
theorem pickFrom_in (l : List S46) : ∀ (d : Nat) (best i : Int), 0 ≤ i → (-1 ≤ best ∧ best < i) → -1 ≤ pickFrom l d best i ∧ pickFrom l d best i < i + d
  | 0, best, i, _, h1 => by unfold pickFrom; omega
  | d + 1, best, i, h0, h1 => by
    have := pickFrom_in l d (pickStep l best i) (i + 1) (by omega) (pickStep_in h0 h1)
    unfold pickFrom; omega
theorem pickOf_in (l : List S46) : -1 ≤ pickOf l ∧ pickOf l < (l.length : Int) := by
  have := pickFrom_in l l.length (-1) 0 (by omega) (by omega)
  unfold pickOf; omega
theorem pickStep_at {l : List S46} {best i : Int} (h : (rd_T46 l i).f2 = true) (g : best < 0 ∨ topOf (rd_T46 l i) < topOf (rd_T46 l best)) : pickStep l best i = i := if_pos ⟨h, g⟩
theorem pickStep_off {l : List S46} {best i : Int} (h : ¬ ((rd_T46 l i).f2 = true ∧ (best < 0 ∨ topOf (rd_T46 l i) < topOf (rd_T46 l best)))) : pickStep l best i = best := if_neg h
theorem specPick_l0 {d a b c : Int} {l : List S46} (hl : (l.length : Int) ≤ 48) : ∀ (n : Nat) (best i : Int), 0 ≤ i → i + n = (l.length : Int) → (-1 ≤ best ∧ best < i) → EvP (fun k => spec_FairPick.l0 k best i d a b c l) (fun r => r = if pickFrom l n best i < 0 then -1 else (rd_T46 l (pickFrom l n best i)).f0)
  | 0, best, i, h0, hi, hb => by
    refine EvP.step ?_
    simp only [spec_FairPick.l0]
    refine EvP.no (by omega) (EvP.ite (fun h => EvP.ret ?_) (fun h => EvP.yes (by omega) (EvP.yes (by omega) (EvP.ret ?_))))
    · unfold pickFrom; rw [if_pos h]
    · unfold pickFrom; rw [if_neg h]
  | n + 1, best, i, h0, hi, hb => by
    have go : ∀ x, pickStep l best i = x → EvP (fun k => spec_FairPick.l0 k x (wrap64 (i + 1)) d a b c l) (fun r => r = if pickFrom l (n + 1) best i < 0 then -1 else (rd_T46 l (pickFrom l (n + 1) best i)).f0) := by
      intro x e
      have := pickStep_in (l := l) h0 hb
      rw [w64 (by omega) (by omega)]
      unfold pickFrom
      rw [e]
      exact specPick_l0 hl n x (i + 1) (by omega) (by omega) (by omega)
    refine EvP.step ?_
    simp only [spec_FairPick.l0]
    refine EvP.yes (by omega) (EvP.yes h0 ?_)
    refine EvP.ite (fun h1 => ?_) (fun h1 => go _ (pickStep_off (fun z => h1 z.1)))
    refine EvP.ite (fun h2 => go _ (pickStep_at h1 (.inl h2))) (fun h2 => ?_)
    refine EvP.bind (specTop_ok _ _ _) ?_
    rintro _ rfl
    refine EvP.yes (by omega) (EvP.yes (by omega) (EvP.bind (specTop_ok _ _ _) ?_))
    rintro _ rfl
    exact EvP.ite (fun h3 => go _ (pickStep_at h1 (.inr h3))) (fun h3 => go _ (pickStep_off (fun z => z.2.elim h2 h3)))
theorem specPick_ok (d a b c : Int) (l : List S46) : EvP (fun k => spec_FairPick.f k d a b c l) (fun r => (FairP d a b c l → r = if pickOf l < 0 then -1 else (rd_T46 l (pickOf l)).f0) ∧ (¬ FairP d a b c l → r = -1)) := by
  unfold spec_FairPick.f
  refine EvP.bind (specFair_ok d a b c l) (fun t ht => ?_)
  refine EvP.ite (fun h => ?_) (fun h => EvP.ret ⟨fun g => absurd (ht.2 g) h, fun _ => rfl⟩)
  have hp := ht.1 h
  refine (specPick_l0 hp.2.2.1 l.length (-1) 0 (by omega) (by omega) (by omega)).mono (fun r e => ⟨fun _ => e, fun g => absurd hp g⟩)
theorem implPick_l0 {d a b c : Int} {l : List S46} (hl : (l.length : Int) ≤ 48) : ∀ (n : Nat) (best i : Int), 0 ≤ i → i + n = (l.length : Int) → (-1 ≤ best ∧ best < i) → EvP (fun k => impl_Fair_pick.l0 k best l (l.length : Int) i d a b c l) (fun r => r = pickFrom l n best i)
  | 0, best, i, h0, hi, hb => by
    refine EvP.step ?_
    simp only [impl_Fair_pick.l0]
    exact EvP.no (by omega) (EvP.ret rfl)
  | n + 1, best, i, h0, hi, hb => by
    have go : ∀ x, pickStep l best i = x → EvP (fun k => impl_Fair_pick.l0 k x l (l.length : Int) (wrap64 (i + 1)) d a b c l) (fun r => r = pickFrom l (n + 1) best i) := by
      intro x e
      have := pickStep_in (l := l) h0 hb
      rw [w64 (by omega) (by omega)]
      unfold pickFrom
      rw [e]
      exact implPick_l0 hl n x (i + 1) (by omega) (by omega) (by omega)
    refine EvP.step ?_
    simp only [impl_Fair_pick.l0]
    refine EvP.yes (by omega) (EvP.yes h0 (EvP.yes (by omega) ?_))
    refine EvP.ite (fun h1 => ?_) (fun h1 => go _ (pickStep_off (fun z => h1 z.1)))
    refine EvP.ite (fun h2 => go _ (pickStep_at h1 (.inl h2))) (fun h2 => ?_)
    refine EvP.bind (implTop_ok _ _ _) ?_
    rintro _ rfl
    refine EvP.yes (by omega) (EvP.yes (by omega) (EvP.bind (implTop_ok _ _ _) ?_))
    rintro _ rfl
    exact EvP.ite (fun h3 => go _ (pickStep_at h1 (.inr h3))) (fun h3 => go _ (pickStep_off (fun z => z.2.elim h2 h3)))
theorem implPickAt_ok (d a b c : Int) {l : List S46} (hl : (l.length : Int) ≤ 48) : EvP (fun k => impl_Fair_pick.f k d a b c l) (fun r => r = pickOf l) := by
  unfold impl_Fair_pick.f
  exact implPick_l0 hl l.length (-1) 0 (by omega) (by omega) (by omega)
theorem implPick_ok (d a b c : Int) (l : List S46) : EvP (fun k => impl_FairPick.f k d a b c l) (fun r => (FairP d a b c l → r = if pickOf l < 0 then -1 else (rd_T46 l (pickOf l)).f0) ∧ (¬ FairP d a b c l → r = -1)) := by
  unfold impl_FairPick.f
  refine EvP.bind (implFair_ok d a b c l) (fun t ht => ?_)
  refine EvP.ite (fun h => ?_) (fun h => EvP.ret ⟨fun g => absurd (ht.2 g) h, fun _ => rfl⟩)
  have hp := ht.1 h
  have hi := pickOf_in l
  refine EvP.bind (implPickAt_ok d a b c hp.2.2.1) ?_
  rintro _ rfl
  refine EvP.ite (fun h1 => EvP.ret ⟨fun _ => by rw [if_pos h1], fun g => absurd hp g⟩) (fun h1 => ?_)
  refine EvP.bind (implPickAt_ok d a b c hp.2.2.1) ?_
  rintro _ rfl
  exact EvP.yes (by omega) (EvP.yes (by omega) (EvP.ret ⟨fun _ => by rw [if_neg h1], fun g => absurd hp g⟩))
def atOf (l : List S46) (id : Int) : Int := idxP (fun x => x.f0 == id) l
theorem atOf_in (l : List S46) (id : Int) : ∀ (n : Nat), n = l.length → -1 ≤ atOf l id ∧ atOf l id < (l.length : Int) := by
  intro n hn
  unfold atOf
  induction l generalizing n with
  | nil => simp [idxP]
  | cons x t ih =>
    have := ih t.length rfl
    rw [idxP]
    simp only [List.length_cons]
    split
    · omega
    · split <;> omega
theorem specAt_l0 {d a b c id : Int} {l : List S46} (hl : (l.length : Int) ≤ 1048576) : ∀ (n : Nat) (i : Int), 0 ≤ i → i + n = (l.length : Int) → (∀ j : Nat, (j : Int) < i → ∀ y, l[j]? = some y → (y.f0 == id) = false) → EvP (fun k => spec_l18At.l0 k id i d a b c l) (fun r => r = atOf l id)
  | 0, i, h0, hi, hv => by
    refine EvP.step ?_
    simp only [spec_l18At.l0]
    refine EvP.no (by omega) (EvP.ret ?_)
    unfold atOf
    rw [idxP_miss l (fun j y hy => by
      by_cases hj : j < l.length
      · exact hv j (by omega) y hy
      · rw [List.getElem?_eq_none (by omega)] at hy; cases hy)]
  | n + 1, i, h0, hi, hv => by
    refine EvP.step ?_
    simp only [spec_l18At.l0]
    have hx := rdk (l := l) h0 (by omega)
    refine EvP.yes (by omega) (EvP.yes h0 (EvP.ite (fun h => EvP.ret ?_) (fun h => ?_)))
    · unfold atOf
      rw [idxP_hit l i.toNat (rd_T46 l i) hx (by simp [h]) (fun j y hj hy => hv j (by omega) y hy)]
      omega
    · rw [w64 (by omega) (by omega)]
      refine specAt_l0 hl n (i + 1) (by omega) (by omega) (fun j hj y hy => ?_)
      by_cases e : j = i.toNat
      · subst e
        rw [hx] at hy
        cases hy
        simpa using h
      · exact hv j (by omega) y hy
theorem specAt_ok (d a b c id : Int) {l : List S46} (hl : (l.length : Int) ≤ 1048576) : EvP (fun k => spec_l18At.f k d a b c l id) (fun r => r = atOf l id) := by
  unfold spec_l18At.f
  exact specAt_l0 hl l.length 0 (by omega) (by omega) (fun j hj => by omega)
theorem implAt_ok (d a b c id : Int) {l : List S46} (hl : (l.length : Int) ≤ 1048576) : EvP (fun _ => impl_Fair_at.f d a b c l id) (fun r => r = atOf l id) := by
  unfold impl_Fair_at.f
  exact EvP.yes (by omega) (EvP.ret rfl)
theorem rd4 (a b c d : Int) {i : Int} (h0 : 0 ≤ i) (h1 : i < 4) : rd [a, b, c, d] i = a ∨ rd [a, b, c, d] i = b ∨ rd [a, b, c, d] i = c ∨ rd [a, b, c, d] i = d := by
  have : i = 0 ∨ i = 1 ∨ i = 2 ∨ i = 3 := by omega
  rcases this with rfl | rfl | rfl | rfl
  · exact Or.inl rfl
  · exact Or.inr (Or.inl rfl)
  · exact Or.inr (Or.inr (Or.inl rfl))
  · exact Or.inr (Or.inr (Or.inr rfl))
theorem drawCost {s : List Int} {p sd B a : Int} (h : Cu s p sd B) (hB : B ≤ 100000000000) (h0 : 2 ≤ a) (h1 : a ≤ 10000000) :
    EvP (fun _ => spec_l01Cur_cost.f s p sd a) (fun r => Cu s r.2.2.2.1 r.2.2.2.2 (B + 10)) := by
  unfold spec_l01Cur_cost.f
  refine EvP.bind (P := fun r => r = [9, 100, a, a]) (EvP.ret rfl) ?_
  rintro _ rfl
  refine EvP.bind (pickE (n := 4) h (by omega)) ?_
  rintro ⟨i, p1, s1⟩ ⟨c1, i0, i1⟩
  dsimp only at *
  have hi := rd4 9 100 a a i0 (by omega)
  refine EvP.yes i0 (EvP.yes (by simp only [List.length_cons, List.length_nil]; omega) ?_)
  generalize rd [9, 100, a, a] i = n at hi
  refine EvP.bind (wide_ok c1 (by omega) (by omega)) ?_
  rintro ⟨x, p2, s2⟩ ⟨c2, _, _⟩
  refine EvP.bind (wide_ok c2 (by omega) (by omega)) ?_
  rintro ⟨y, p3, s3⟩ ⟨c3, _, _⟩
  refine EvP.bind (wide_ok c3 (by omega) (by omega)) ?_
  rintro ⟨z, p4, s4⟩ ⟨c4, _, _⟩
  exact EvP.ret (c4.le (by omega))
def In (x y a b c : Int) : Prop := (x ≤ a ∧ a ≤ y) ∧ (x ≤ b ∧ b ≤ y) ∧ x ≤ c ∧ c ≤ y
theorem drawVec {s : List Int} {p sd B : Int} (h : Cu s p sd B) (hB : B ≤ 100000000000) :
    EvP (fun _ => spec_l01Cur_vec.f s p sd) (fun r => Cu s r.2.2.2.1 r.2.2.2.2 (B + 10)) := by
  unfold spec_l01Cur_vec.f
  refine EvP.bind (once_ok h (by omega)) ?_
  rintro ⟨o, p1, s1⟩ c1
  dsimp only at *
  refine EvP.ite (fun _ => ?_) (fun _ => ?_)
  · refine EvP.bind (raw_ok c1 (by omega)) ?_
    rintro ⟨x, p2, s2⟩ ⟨c2, _, _⟩
    refine EvP.bind (raw_ok c2 (by omega)) ?_
    rintro ⟨y, p3, s3⟩ ⟨c3, _, _⟩
    refine EvP.bind (raw_ok c3 (by omega)) ?_
    rintro ⟨z, p4, s4⟩ ⟨c4, _, _⟩
    exact EvP.ret (c4.le (by omega))
  · refine EvP.bind (P := fun r => r.length = 5) (EvP.ret rfl) (fun xs hx => ?_)
    refine EvP.bind (pickE (n := 5) c1 (by omega)) ?_
    rintro ⟨i, p2, s2⟩ ⟨c2, i0, i1⟩
    dsimp only at *
    refine EvP.yes i0 (EvP.yes (by omega) ?_)
    refine EvP.bind (pickE (n := 256) c2 (by omega)) ?_
    rintro ⟨x, p3, s3⟩ ⟨c3, _, _⟩
    refine EvP.bind (pickE (n := 256) c3 (by omega)) ?_
    rintro ⟨y, p4, s4⟩ ⟨c4, _, _⟩
    refine EvP.bind (pickE (n := 256) c4 (by omega)) ?_
    rintro ⟨z, p5, s5⟩ ⟨c5, _, _⟩
    exact EvP.ret (c5.le (by omega))
theorem drawDelta {s : List Int} {p sd B : Int} (h : Cu s p sd B) (hB : B ≤ 100000000000) :
    EvP (fun _ => spec_l01Cur_delta.f s p sd) (fun r => Cu s r.2.1 r.2.2 (B + 10)) := by
  unfold spec_l01Cur_delta.f
  refine EvP.bind (wide_ok h (by omega) (by omega)) ?_
  rintro ⟨x, p1, s1⟩ ⟨c1, _, _⟩
  dsimp only at *
  refine EvP.bind (P := fun r => r.length = 6) (EvP.ret rfl) (fun xs hx => ?_)
  refine EvP.bind (pickE (n := 6) c1 (by omega)) ?_
  rintro ⟨i, p2, s2⟩ ⟨c2, i0, i1⟩
  dsimp only at *
  exact EvP.yes i0 (EvP.yes (by omega) (EvP.ret (c2.le (by omega))))
theorem dove_facts {a b c d T : Int} (h : TagP a b c) (hd : 0 ≤ d ∧ d ≤ 10000000) (hT : T = mx (mx a b) c) :
    NarrowP (mx a (T - d)) (mx b (T - d)) (mx c (T - d)) d ∧ mx (mx (mx a (T - d)) (mx b (T - d))) (mx c (T - d)) = T := by
  have ht := top_in h
  obtain ⟨h1, h2, h3⟩ := h
  rw [← hT] at ht
  have e1 := mx_le a b
  have e2 := mx_le (mx a b) c
  rw [← hT] at e2
  have f1 := mx_le a (T - d)
  have f2 := mx_le b (T - d)
  have f3 := mx_le c (T - d)
  have g1 := mx_le (mx a (T - d)) (mx b (T - d))
  have g2 := mx_le (mx (mx a (T - d)) (mx b (T - d))) (mx c (T - d))
  have k1 := mn_le (mx a (T - d)) (mx b (T - d))
  have k2 := mn_le (mn (mx a (T - d)) (mx b (T - d))) (mx c (T - d))
  have top : mx (mx (mx a (T - d)) (mx b (T - d))) (mx c (T - d)) = T := by omega
  exact ⟨⟨⟨⟨by omega, by omega⟩, ⟨by omega, by omega⟩, by omega, by omega⟩, hd, by omega⟩, top⟩
def FinP (a b c x y z w : Int) : Prop := TagP a b c ∧ In 1 2000 x y z ∧ 1 ≤ w ∧ w ≤ 10
def FinR (a b c x y z w : Int) (r : Int × Int × Int × Bool) : Prop :=
  (FinP a b c x y z w ∧ TagP (a + x * strideOf w) (b + y * strideOf w) (c + z * strideOf w) → r = (a + x * strideOf w, b + y * strideOf w, c + z * strideOf w, true)) ∧
  (¬ (FinP a b c x y z w ∧ TagP (a + x * strideOf w) (b + y * strideOf w) (c + z * strideOf w)) → r = (0, 0, 0, false))
theorem fin_w {a x w : Int} (h : 0 ≤ a ∧ a ≤ 1000000000000) (hx : 1 ≤ x ∧ x ≤ 2000) : wrap64 (a + wrap64 (x * strideOf w)) = a + x * strideOf w := by
  have hs := strideOf_in w
  have h1 : 0 ≤ x * strideOf w := Int.mul_nonneg (by omega) hs.1
  have h2 : x * strideOf w ≤ 2000 * 2520 := Int.mul_le_mul hx.2 hs.2 hs.1 (by omega)
  rw [w64 (x := x * strideOf w) (by omega) (by omega), w64 (by omega) (by omega)]
theorem specCharge_ok (a b c : Int) : EvP (fun _ => spec_ChargeOk.f a b c) (fun r => r = true ↔ In 1 2000 a b c) := by
  unfold spec_ChargeOk.f
  exact EvP.bind (specAll_ok a b c _ _) (fun r h => EvP.ret h)
theorem implCharge_ok (a b c : Int) : EvP (fun _ => impl_ChargeOk.f a b c) (fun r => r = true ↔ In 1 2000 a b c) := by
  unfold impl_ChargeOk.f
  exact EvP.bind (isFrom_ok a b c _ _) (fun r h => EvP.ret h)
theorem specFin_step {w x v : Int} {xs ys : List Int} {P : Int × Int × Int × Bool → Prop} (hx : 0 ≤ x) (hx3 : x < 3) (hl : xs.length = 3) (hy : ys.length = 3)
    (hv : wrap64 (rd xs x + wrap64 (rd ys x * strideOf w)) = v)
    (h : EvP (fun k => spec_Finish.l0 k w (xs.set x.toNat v) ys (x + 1)) P) : EvP (fun k => spec_Finish.l0 k w xs ys x) P := by
  refine EvP.step ?_
  simp only [spec_Finish.l0]
  refine EvP.yes hx3 (EvP.yes hx (EvP.yes (by omega) (EvP.yes (by omega) ?_)))
  refine EvP.bind (specStride_ok w) ?_
  rintro _ rfl
  rw [hv, w64 (x := x + 1) (by omega) (by omega)]
  exact h
theorem specFin_ok (a b c x y z w : Int) : EvP (fun k => spec_Finish.f k a b c x y z w) (FinR a b c x y z w) := by
  have bad : ¬ FinP a b c x y z w → EvP (fun k => spec_Finish.j0 k w true a b c x y z) (FinR a b c x y z w) := by
    intro h
    refine EvP.step ?_
    simp only [spec_Finish.j0]
    exact EvP.yes (by simp) (EvP.ret ⟨fun g => absurd g.1 h, fun _ => rfl⟩)
  unfold spec_Finish.f
  refine EvP.bind (specTag_ok a b c) (fun t ht => ?_)
  refine EvP.ite (fun h1 => ?_) (fun h1 => bad (fun g => h1 (ht.2 g.1)))
  refine EvP.bind (specCharge_ok x y z) (fun u hu => ?_)
  refine EvP.ite (fun h2 => ?_) (fun h2 => bad (fun g => h2 (hu.2 g.2.1)))
  refine EvP.bind (specStride_ok w) ?_
  rintro _ rfl
  by_cases hw : strideOf w = 0
  · rw [show (strideOf w == 0) = true from beq_iff_eq.2 hw]
    exact bad (fun g => (strideOf_zero w).1 hw g.2.2)
  rw [show (strideOf w == 0) = false from beq_eq_false_iff_ne.2 hw]
  have hw' : 1 ≤ w ∧ w ≤ 10 := by
    by_cases q : 1 ≤ w ∧ w ≤ 10
    · exact q
    · exact absurd ((strideOf_zero w).2 q) hw
  have hT := ht.1 h1
  have hC := hu.1 h2
  refine EvP.step ?_
  simp only [spec_Finish.j0]
  refine EvP.no (by simp) ?_
  refine EvP.bind (P := fun r => r = [a, b, c]) (EvP.ret rfl) ?_
  rintro _ rfl
  refine EvP.bind (P := fun r => r = [x, y, z]) (EvP.ret rfl) ?_
  rintro _ rfl
  obtain ⟨k1, k2, k3⟩ := id hT
  obtain ⟨q1, q2, q3⟩ := id hC
  refine specFin_step (v := a + x * strideOf w) (by omega) (by omega) rfl rfl (fin_w k1 q1) ?_
  refine specFin_step (v := b + y * strideOf w) (by omega) (by omega) rfl rfl (fin_w k2 q2) ?_
  refine specFin_step (v := c + z * strideOf w) (by omega) (by omega) rfl rfl (fin_w k3 q3) ?_
  refine EvP.step ?_
  simp only [spec_Finish.l0]
  refine EvP.no (by omega) ?_
  have hof : EvP (fun _ => spec_l13Of.f (((([a, b, c] : List Int).set (0 : Int).toNat (a + x * strideOf w)).set ((0 : Int) + 1).toNat (b + y * strideOf w)).set ((0 : Int) + 1 + 1).toNat (c + z * strideOf w))) (fun r => r = (a + x * strideOf w, b + y * strideOf w, c + z * strideOf w)) := by
    unfold spec_l13Of.f
    simp only [List.length_set, List.length_cons, List.length_nil]
    exact EvP.yes (by omega) (EvP.yes (by omega) (EvP.yes (by omega) (EvP.ret rfl)))
  refine EvP.bind hof ?_
  rintro _ rfl
  dsimp only
  refine EvP.bind (specTag_ok _ _ _) (fun t ht' => ?_)
  refine EvP.ite (fun h3 => ?_) (fun h3 => EvP.ret ⟨fun g => absurd (ht'.2 g.2) h3, fun _ => rfl⟩)
  refine EvP.bind hof ?_
  rintro _ rfl
  exact EvP.ret ⟨fun _ => rfl, fun g => absurd ⟨⟨hT, hC, hw'⟩, ht'.1 h3⟩ g⟩
theorem implDove_ok (a b c d : Int) : EvP (fun _ => impl_Dovetail.f a b c d) (fun r =>
    (TagP a b c ∧ (0 ≤ d ∧ d ≤ 10000000) → r = (mx a (mx (mx a b) c - d), mx b (mx (mx a b) c - d), mx c (mx (mx a b) c - d))) ∧
    (¬ (TagP a b c ∧ (0 ≤ d ∧ d ≤ 10000000)) → r = (0, 0, 0))) := by
  unfold impl_Dovetail.f
  refine EvP.bind (implTag_ok a b c) (fun t ht => ?_)
  refine EvP.ite (fun h1 => ?_) (fun h1 => EvP.ret ⟨fun z => absurd (ht.2 z.1) h1, fun _ => rfl⟩)
  refine EvP.bind (implDelta_ok d) (fun u hu => ?_)
  refine EvP.ite (fun h2 => ?_) (fun h2 => EvP.ret ⟨fun z => absurd (hu.2 z.2) h2, fun _ => rfl⟩)
  have hT := ht.1 h1
  have hd := hu.1 h2
  have hm := top_in hT
  refine EvP.bind (P := fun r => r = (mx a (mx (mx a b) c - d), mx b (mx (mx a b) c - d), mx c (mx (mx a b) c - d))) (EvP.of ⟨_, rfl, ?_⟩) ?_
  · rw [w64 (x := mx (mx a b) c - d) (by omega) (by omega)]
  rintro _ rfl
  exact EvP.ret ⟨fun _ => rfl, fun z => absurd ⟨hT, hd⟩ z⟩
theorem specDove_step {a b c d x : Int} {xs : List Int} {P : Int × Int × Int → Prop} (hd : wrap64 (mx (mx a b) c - d) = mx (mx a b) c - d) (hx : 0 ≤ x) (hx3 : x < 3) (hl : xs.length = 3)
    (h : EvP (fun k => spec_Dovetail.l0 k d (xs.set x.toNat (mx (rd xs x) (mx (mx a b) c - d))) (x + 1) a b c) P) : EvP (fun k => spec_Dovetail.l0 k d xs x a b c) P := by
  refine EvP.step ?_
  simp only [spec_Dovetail.l0]
  refine EvP.yes hx3 (EvP.yes hx (EvP.yes (by omega) ?_))
  refine EvP.bind (specTop_ok a b c) ?_
  rintro _ rfl
  rw [hd, w64 (x := x + 1) (by omega) (by omega)]
  exact h
theorem specDove_ok (a b c d : Int) : EvP (fun k => spec_Dovetail.f k a b c d) (fun r =>
    (TagP a b c ∧ (0 ≤ d ∧ d ≤ 10000000) → r = (mx a (mx (mx a b) c - d), mx b (mx (mx a b) c - d), mx c (mx (mx a b) c - d))) ∧
    (¬ (TagP a b c ∧ (0 ≤ d ∧ d ≤ 10000000)) → r = (0, 0, 0))) := by
  have bad : ¬ (TagP a b c ∧ (0 ≤ d ∧ d ≤ 10000000)) → EvP (fun k => spec_Dovetail.j0 k d true a b c) (fun r =>
    (TagP a b c ∧ (0 ≤ d ∧ d ≤ 10000000) → r = (mx a (mx (mx a b) c - d), mx b (mx (mx a b) c - d), mx c (mx (mx a b) c - d))) ∧
    (¬ (TagP a b c ∧ (0 ≤ d ∧ d ≤ 10000000)) → r = (0, 0, 0))) := by
    intro h
    refine EvP.step ?_
    simp only [spec_Dovetail.j0]
    exact EvP.yes (by simp) (EvP.ret ⟨fun z => absurd z h, fun _ => rfl⟩)
  unfold spec_Dovetail.f
  refine EvP.bind (specTag_ok a b c) (fun t ht => ?_)
  refine EvP.ite (fun h1 => ?_) (fun h1 => bad (fun z => h1 (ht.2 z.1)))
  refine EvP.bind (specDelta_ok d) (fun u hu => ?_)
  cases u with
  | false => exact bad (fun z => by have := hu.2 z.2; cases this)
  | true =>
    have hT := ht.1 h1
    have hd := hu.1 rfl
    have hm := top_in hT
    have hw : wrap64 (mx (mx a b) c - d) = mx (mx a b) c - d := w64 (by omega) (by omega)
    refine EvP.step ?_
    simp only [spec_Dovetail.j0]
    refine EvP.no (by simp) ?_
    refine EvP.bind (P := fun r => r = [a, b, c]) (EvP.ret rfl) ?_
    rintro _ rfl
    refine specDove_step hw (by omega) (by omega) rfl ?_
    refine specDove_step hw (by omega) (by omega) rfl ?_
    refine specDove_step hw (by omega) (by omega) rfl ?_
    refine EvP.step ?_
    simp only [spec_Dovetail.l0]
    refine EvP.no (by omega) ?_
    refine EvP.bind (P := fun r => r = (mx a (mx (mx a b) c - d), mx b (mx (mx a b) c - d), mx c (mx (mx a b) c - d))) ?_ ?_
    · unfold spec_l13Of.f
      simp only [List.length_set, List.length_cons, List.length_nil]
      exact EvP.yes (by omega) (EvP.yes (by omega) (EvP.yes (by omega) (EvP.ret rfl)))
    rintro _ rfl
    exact EvP.ret ⟨fun _ => rfl, fun z => absurd ⟨hT, hd⟩ z⟩
theorem rdset {l : List S46} {i : Int} {v : S46} (h0 : 0 ≤ i) (h1 : i < (l.length : Int)) : rd_T46 (l.set i.toNat v) i = v := by
  unfold rd_T46
  rw [List.getD_eq_getElem?_getD, List.getElem?_set_self (by omega)]; rfl
theorem specCopy_ok (d a b c : Int) {l : List S46} (hl : (l.length : Int) ≤ 100000000) : EvP (fun _ => spec_l18Copy.f d a b c l) (fun r => r = (d, a, b, c, l)) := by
  unfold spec_l18Copy.f
  refine EvP.bind (EvP.ret rfl) ?_
  rintro _ rfl
  refine EvP.yes (by simp only [List.length_nil]; omega) (EvP.ret ?_)
  rw [List.nil_append]
def BestP (l : List S46) (best i : Int) : Prop :=
  (best < 0 → ∀ j, 0 ≤ j → j < i → ¬ (rd_T46 l j).f2 = true) ∧
  (0 ≤ best → best < i ∧ (rd_T46 l best).f2 = true ∧ ∀ j, 0 ≤ j → j < i → (rd_T46 l j).f2 = true → topOf (rd_T46 l best) ≤ topOf (rd_T46 l j) ∧ (j < best → topOf (rd_T46 l best) < topOf (rd_T46 l j)))
theorem BestP.step {l : List S46} {best i : Int} (h : BestP l best i) (h0 : 0 ≤ i) : BestP l (pickStep l best i) (i + 1) := by
  unfold pickStep
  split
  · rename_i g
    refine ⟨fun hn => absurd hn (by omega), fun _ => ⟨by omega, g.1, fun j j0 j1 hb => ?_⟩⟩
    by_cases e : j = i
    · subst e; exact ⟨Int.le_refl _, fun hlt => absurd hlt (by omega)⟩
    · by_cases hn : best < 0
      · exact absurd hb (h.1 hn j j0 (by omega))
      · have k := (h.2 (by omega)).2.2 j j0 (by omega) hb
        have g2 : topOf (rd_T46 l i) < topOf (rd_T46 l best) := g.2.resolve_left hn
        exact ⟨by omega, fun _ => by omega⟩
  · rename_i g
    refine ⟨fun hn j j0 j1 hb => ?_, fun hp => ?_⟩
    · by_cases e : j = i
      · subst e; exact g ⟨hb, .inl hn⟩
      · exact h.1 hn j j0 (by omega) hb
    · obtain ⟨k1, k2, k3⟩ := h.2 hp
      refine ⟨by omega, k2, fun j j0 j1 hb => ?_⟩
      by_cases e : j = i
      · subst e
        have : ¬ topOf (rd_T46 l j) < topOf (rd_T46 l best) := fun hlt => g ⟨hb, .inr hlt⟩
        exact ⟨by omega, fun hlt => absurd hlt (by omega)⟩
      · exact k3 j j0 (by omega) hb
theorem BestP.all {l : List S46} : ∀ (n : Nat) (best i : Int), 0 ≤ i → BestP l best i → BestP l (pickFrom l n best i) (i + n)
  | 0, best, i, _, h => by unfold pickFrom; simpa using h
  | n + 1, best, i, h0, h => by
    unfold pickFrom
    have := BestP.all n _ (i + 1) (by omega) (h.step h0)
    rw [show i + ((n + 1 : Nat) : Int) = i + 1 + (n : Int) by omega]
    exact this
theorem best_of (l : List S46) : BestP l (pickOf l) (l.length : Int) := by
  have := BestP.all l.length (-1) 0 (by omega) (l := l) ⟨fun _ j h0 h1 => absurd h1 (by omega), fun h => absurd h (by omega)⟩
  unfold pickOf
  simpa using this
theorem rd_set_ne {l : List S46} {p j : Int} {x : S46} (h0 : 0 ≤ p) (h1 : 0 ≤ j) (h : j ≠ p) : rd_T46 (l.set p.toNat x) j = rd_T46 l j := by
  unfold rd_T46
  rw [List.getD_eq_getElem?_getD, List.getD_eq_getElem?_getD, List.getElem?_set_ne (by omega)]
theorem rd_set_at {l : List S46} {p : Int} {x : S46} (h0 : 0 ≤ p) (h1 : p < (l.length : Int)) : rd_T46 (l.set p.toNat x) p = x := by
  unfold rd_T46
  rw [List.getD_eq_getElem?_getD, List.getElem?_set_self (by omega)]; rfl
theorem mul_in {x s : Int} (h : 1 ≤ x ∧ x ≤ 2000) (hs : 0 ≤ s) : s ≤ x * s ∧ x * s ≤ s * 2000 := by
  have h1 := Int.mul_le_mul_of_nonneg_right h.1 hs
  have h2 := Int.mul_le_mul_of_nonneg_right h.2 hs
  rw [Int.one_mul] at h1
  rw [Int.mul_comm 2000 s] at h2
  exact ⟨h1, h2⟩
theorem tag_max {a b c x y z : Int} (h : TagP a b c) (k : TagP x y z) : TagP (mx a x) (mx b y) (mx c z) := by
  obtain ⟨⟨a0, a1⟩, ⟨b0, b1⟩, c0, c1⟩ := h
  obtain ⟨⟨q0, q1⟩, ⟨q2, q3⟩, q4, q5⟩ := k
  have F1 := mx_le a x
  have F2 := mx_le b y
  have F3 := mx_le c z
  exact ⟨⟨by omega, by omega⟩, ⟨by omega, by omega⟩, by omega, by omega⟩
theorem top_max (a b c x y z : Int) : mx (mx (mx a x) (mx b y)) (mx c z) = mx (mx (mx a b) c) (mx (mx x y) z) := by
  have F1 := mx_le a x
  have F2 := mx_le b y
  have F3 := mx_le c z
  have E1 := mx_le a b
  have E2 := mx_le (mx a b) c
  have E3 := mx_le x y
  have E4 := mx_le (mx x y) z
  have G1 := mx_le (mx a x) (mx b y)
  have G2 := mx_le (mx (mx a x) (mx b y)) (mx c z)
  have G3 := mx_le (mx (mx a b) c) (mx (mx x y) z)
  omega
theorem low_max {a b c x y z S T D : Int} (h : S - D ≤ mn (mn a b) c) (k : T - D ≤ mn (mn x y) z) : mx S T - D ≤ mn (mn (mx a x) (mx b y)) (mx c z) := by
  have F1 := mx_le a x
  have F2 := mx_le b y
  have F3 := mx_le c z
  have I1 := mn_le a b
  have I2 := mn_le (mn a b) c
  have I3 := mn_le x y
  have I4 := mn_le (mn x y) z
  have I6 := mn_le (mn (mx a x) (mx b y)) (mx c z)
  have I5 := mn_le (mx a x) (mx b y)
  have M := mx_le S T
  omega
theorem narrow_max {a b c x y z d : Int} (h : NarrowP a b c d) (k : NarrowP x y z d) : NarrowP (mx a x) (mx b y) (mx c z) d :=
  ⟨tag_max h.1 k.1, h.2.1, by rw [top_max]; exact low_max h.2.2 k.2.2⟩
theorem tag_add {a b c x y z s u v w : Int} (h : TagP a b c) (ht : mx (mx a b) c ≤ 100000000000) (hs : 0 ≤ s ∧ s ≤ 2520) (hC : In 1 2000 x y z) (hu : u = a + x * s) (hv : v = b + y * s) (hw : w = c + z * s) :
    TagP u v w ∧ mx (mx a b) c + s ≤ mx (mx u v) w ∧ mx (mx u v) w ≤ mx (mx a b) c + s * 2000 := by
  obtain ⟨⟨q0, q1⟩, ⟨q2, q3⟩, q4, q5⟩ := h
  have sx := mul_in hC.1 hs.1
  have sy := mul_in hC.2.1 hs.1
  have sz := mul_in hC.2.2 hs.1
  generalize x * s = X at *
  generalize y * s = Y at *
  generalize z * s = Z at *
  have E1 := mx_le a b
  have E2 := mx_le (mx a b) c
  have U1 := mx_le u v
  have U2 := mx_le (mx u v) w
  exact ⟨⟨⟨by omega, by omega⟩, ⟨by omega, by omega⟩, by omega, by omega⟩, by omega, by omega⟩
theorem served_fair {d a b c x y z p : Int} (m : Bool) {l : List S46} {q : S46} (hF : FairP d a b c l) (hp : pickOf l = p) (h0 : 0 ≤ p) (hC : In 1 2000 x y z) (hq : rd_T46 l p = q)
    (ht : ¬ mx (mx (mx a q.f3.f0) (mx b q.f3.f1)) (mx c q.f3.f2) > 100000000000) {u v w T : Int} (hu : u = q.f3.f0 + x * strideOf q.f1) (hv : v = q.f3.f1 + y * strideOf q.f1) (hw : w = q.f3.f2 + z * strideOf q.f1) (hT : T = mx (mx u v) w) :
    FinP q.f3.f0 q.f3.f1 q.f3.f2 x y z q.f1 ∧ TagP u v w ∧ (0 ≤ d ∧ d ≤ 10000000) ∧
    FairP d (mx a q.f3.f0) (mx b q.f3.f1) (mx c q.f3.f2) (l.set p.toNat ⟨q.f0, q.f1, m, ⟨mx u (T - d), mx v (T - d), mx w (T - d)⟩⟩) ∧
    topOf q + strideOf q.f1 ≤ topOf (⟨q.f0, q.f1, m, ⟨mx u (T - d), mx v (T - d), mx w (T - d)⟩⟩ : S46) := by
  have hb := best_of l
  rw [hp] at hb
  obtain ⟨hp1, hbusy, hmin⟩ := hb.2 h0
  rw [hq] at hbusy hmin
  obtain ⟨hN, hTop, h48, hAll⟩ := hF
  have hk := (hAll p h0 hp1).1
  rw [hq] at hk
  obtain ⟨kid, kw, kN, kTop, kB⟩ := hk
  have kB := kB hbusy
  obtain ⟨nT, nd, nn⟩ := hN
  obtain ⟨qT, _, qn⟩ := kN
  have hs := strideOf_in q.f1
  have hTop0 := top_in qT
  have eq_ : topOf q = mx (mx q.f3.f0 q.f3.f1) q.f3.f2 := rfl
  rw [eq_] at kB kTop hmin
  have hm := mx_le (mx (mx a b) c) (mx (mx q.f3.f0 q.f3.f1) q.f3.f2)
  have hnow : mx (mx (mx a q.f3.f0) (mx b q.f3.f1)) (mx c q.f3.f2) = mx (mx q.f3.f0 q.f3.f1) q.f3.f2 := by rw [top_max]; omega
  have hNew := narrow_max ⟨nT, nd, nn⟩ ⟨qT, nd, qn⟩
  obtain ⟨hTag, hlo, hhi⟩ := tag_add qT (by omega) hs hC hu hv hw
  rw [← hT] at hlo hhi
  obtain ⟨dN, dT⟩ := dove_facts hTag nd hT
  have eT : topOf (⟨q.f0, q.f1, m, ⟨mx u (T - d), mx v (T - d), mx w (T - d)⟩⟩ : S46) = T := dT
  have ids : ∀ j, 0 ≤ j → (rd_T46 (l.set p.toNat ⟨q.f0, q.f1, m, ⟨mx u (T - d), mx v (T - d), mx w (T - d)⟩⟩) j).f0 = (rd_T46 l j).f0 := by
    intro j hj
    by_cases e : j = p
    · rw [e, rd_set_at h0 hp1, hq]
    · rw [rd_set_ne h0 hj e]
  refine ⟨⟨qT, hC, kw⟩, hTag, nd, ⟨hNew, by omega, by rw [List.length_set]; exact h48, fun j j0 j1 => ⟨?_, fun hj => ?_⟩⟩, by rw [eT, eq_]; omega⟩
  · rw [List.length_set] at j1
    by_cases e : j = p
    · rw [e, rd_set_at h0 hp1]
      refine ⟨kid, kw, dN, ?_, fun _ => ?_⟩
      · rw [eT, hnow]; show T ≤ _ + strideOf q.f1 * 2000; omega
      · rw [eT, hnow]; omega
    · rw [rd_set_ne h0 j0 e]
      obtain ⟨i1, i2, i3, i4, i5⟩ := (hAll j j0 j1).1
      refine ⟨i1, i2, i3, by rw [hnow]; omega, fun hbj => ?_⟩
      rw [hnow]
      exact (hmin j j0 j1 hbj).1
  · rw [List.length_set] at j1
    rw [ids j j0, ids (j - 1) (by omega)]
    exact (hAll j j0 j1).2 hj
theorem implCopy'_ok (d a b c : Int) {l : List S46} (hl : (l.length : Int) ≤ 100000000) : EvP (fun _ => impl_copyFair.f d a b c l) (fun r => r = (d, a, b, c, l)) := by
  unfold impl_copyFair.f
  refine EvP.bind (P := fun r => r = l) ?_ ?_
  · unfold impl_Kid_69.f
    refine EvP.bind (EvP.ret rfl) ?_
    rintro _ rfl
    refine EvP.yes (by simp only [List.length_nil]; omega) (EvP.ret ?_)
    rw [List.nil_append]
  rintro _ rfl
  exact EvP.ret rfl
theorem implFin'_ok (a b c x y z w : Int) : EvP (fun k => impl_Finish.f k a b c x y z w) (FinR a b c x y z w) := by
  have bad : ¬ FinP a b c x y z w → EvP (fun k => impl_Finish.j0 k w true a b c x y z) (FinR a b c x y z w) := by
    intro h
    refine EvP.step ?_
    simp only [impl_Finish.j0]
    exact EvP.yes (by simp) (EvP.ret ⟨fun g => absurd g.1 h, fun _ => rfl⟩)
  unfold impl_Finish.f
  refine EvP.bind (implTag_ok a b c) (fun t ht => ?_)
  refine EvP.ite (fun h1 => ?_) (fun h1 => bad (fun g => h1 (ht.2 g.1)))
  refine EvP.bind (implCharge_ok x y z) (fun u hu => ?_)
  refine EvP.ite (fun h2 => ?_) (fun h2 => bad (fun g => h2 (hu.2 g.2.1)))
  refine EvP.bind (isWeight_ok w) (fun v hv => ?_)
  cases v with
  | false => exact bad (fun g => by have := hv.2 g.2.2; cases this)
  | true =>
    have hT := ht.1 h1
    have hC := hu.1 h2
    have hw' := hv.1 rfl
    obtain ⟨k1, k2, k3⟩ := id hT
    obtain ⟨q1, q2, q3⟩ := id hC
    refine EvP.step ?_
    simp only [impl_Finish.j0]
    refine EvP.no (by simp) ?_
    have one : ∀ {p q : Int}, 0 ≤ p ∧ p ≤ 1000000000000 → 1 ≤ q ∧ q ≤ 2000 → EvP (fun _ => impl_Finish_1.f p q w) (fun r => r = p + q * strideOf w) := by
      intro p q hp hq
      unfold impl_Finish_1.f
      refine EvP.bind (implStride_ok w) ?_
      rintro _ rfl
      exact EvP.ret (fin_w hp hq)
    refine EvP.bind (P := fun r => r = (a + x * strideOf w, b + y * strideOf w, c + z * strideOf w)) ?_ ?_
    · unfold impl_both_86.f
      refine EvP.bind (one k1 q1) ?_
      rintro _ rfl
      refine EvP.bind (one k2 q2) ?_
      rintro _ rfl
      refine EvP.bind (one k3 q3) ?_
      rintro _ rfl
      exact EvP.ret rfl
    rintro _ rfl
    dsimp only
    refine EvP.bind (implTag_ok _ _ _) (fun t ht' => ?_)
    exact EvP.ite (fun h3 => EvP.ret ⟨fun _ => rfl, fun g => absurd ⟨⟨hT, hC, hw'⟩, ht'.1 h3⟩ g⟩) (fun h3 => EvP.ret ⟨fun g => absurd (ht'.2 g.2) h3, fun _ => rfl⟩)
theorem implMost_ok (a b c d e f : Int) : EvP (fun _ => impl_VecMost.f a b c d e f) (fun r => r = (mx a d, mx b e, mx c f)) := EvP.of ⟨_, rfl, rfl⟩
theorem specMost_ok (a b c d e f : Int) : EvP (fun _ => spec_VecMost.f a b c d e f) (fun r => r = (mx a d, mx b e, mx c f)) := EvP.ret rfl
theorem rd_at {l : List S46} {i : Int} (h0 : 0 ≤ i) (h1 : i < (l.length : Int)) : l[i.toNat]? = some (rd_T46 l i) := by
  unfold rd_T46
  rw [List.getD_eq_getElem?_getD, List.getElem?_eq_getElem (by omega)]; rfl
theorem idsUp {d T : Int} {l : List S46} (h : FairFrom d T l 0) : ∀ (n : Nat) (i : Int), 0 ≤ i → i + (n + 1 : Nat) < (l.length : Int) → (rd_T46 l i).f0 < (rd_T46 l (i + (n + 1 : Nat))).f0
  | 0, i, h0, h1 => by
    have := (h (i + 1) (by omega) (by omega)).2 (by omega)
    rw [show i + 1 - 1 = i by omega] at this
    exact this
  | n + 1, i, h0, h1 => by
    have ih := idsUp h n i h0 (by omega)
    have := (h (i + (n + 1 + 1 : Nat)) (by omega) (by omega)).2 (by omega)
    rw [show i + ((n + 1 + 1 : Nat) : Int) - 1 = i + ((n + 1 : Nat) : Int) by omega] at this
    omega
theorem atPick {d T : Int} {l : List S46} (h : FairFrom d T l 0) {p : Int} (h0 : -1 ≤ p) (h1 : p < (l.length : Int)) : atOf l (if p < 0 then -1 else (rd_T46 l p).f0) = p := by
  unfold atOf
  by_cases hp : p < 0
  · rw [if_pos hp]
    have e : p = -1 := by omega
    rw [e]
    refine idxP_miss l (fun j y hy => ?_)
    have hj : j < l.length := (List.getElem?_eq_some_iff.1 hy).1
    have hk := (h j (by omega) (by omega)).1.1
    have hr := rd_at (l := l) (i := (j : Int)) (by omega) (by omega)
    rw [Int.toNat_natCast, hy] at hr
    rw [← Option.some.inj hr] at hk
    simp only [beq_eq_false_iff_ne, ne_eq]
    omega
  · rw [if_neg hp]
    have e := idxP_hit (p := fun x : S46 => x.f0 == (rd_T46 l p).f0) l p.toNat (rd_T46 l p) (rd_at (by omega) h1) (by simp) (fun j y hj hy => by
      have hr := rd_at (l := l) (i := (j : Int)) (by omega) (by omega)
      rw [Int.toNat_natCast, hy] at hr
      have hu := idsUp h (p.toNat - j - 1) j (by omega) (by omega)
      rw [show (j : Int) + ((p.toNat - j - 1 + 1 : Nat) : Int) = p by omega, ← Option.some.inj hr] at hu
      simp only [beq_eq_false_iff_ne, ne_eq]
      omega)
    rw [e]; omega
def ServedP (d a b c : Int) (l : List S46) (m : Bool) (R : Int × Int × Int × Int × List S46 × Int) : Prop :=
  FairP d a b c l ∧ 0 ≤ pickOf l ∧ ∃ x y z : Int, ∃ q : S46, R = (d, x, y, z, l.set (pickOf l).toNat q, 0) ∧ FairP d x y z (l.set (pickOf l).toNat q) ∧ q.f0 = (rd_T46 l (pickOf l)).f0 ∧ q.f1 = (rd_T46 l (pickOf l)).f1 ∧ q.f2 = m ∧ topOf (rd_T46 l (pickOf l)) + strideOf (rd_T46 l (pickOf l)).f1 ≤ topOf q
theorem serve_ok (d a b c x y z : Int) (m : Bool) {l : List S46} (hl : (l.length : Int) ≤ 1048576) : ∃ R : Int × Int × Int × Int × List S46 × Int, (R.2.2.2.2.1.length : Int) ≤ 48 ∧ (R.2.2.2.2.2 = 0 → ServedP d a b c l m R) ∧
    EvP (fun k => spec_FairServe.f k d a b c l x y z m) (fun r => r = R) ∧ EvP (fun k => impl_FairServe.f k d a b c l x y z m) (fun r => r = R) := by
  have sbad : EvP (fun k => spec_FairServe.j0 k m true d a b c l x y z) (fun r => r = (0, 0, 0, 0, [], 1)) := by
    refine EvP.step ?_
    simp only [spec_FairServe.j0]
    exact EvP.yes (by simp) (EvP.ret rfl)
  have ibad : EvP (fun k => impl_FairServe.j0 k m true d a b c l x y z) (fun r => r = (0, 0, 0, 0, [], 1)) := by
    refine EvP.step ?_
    simp only [impl_FairServe.j0]
    exact EvP.yes (by simp) (EvP.ret rfl)
  by_cases hF : FairP d a b c l
  · by_cases hC : In 1 2000 x y z
    · have hin := pickOf_in l
      have hat := atPick hF.2.2.2 hin.1 hin.2
      have sgo : ∀ (P : Int × Int × Int × Int × List S46 × Int → Prop), EvP (fun k => spec_FairServe.j0 k m false d a b c l x y z) P → EvP (fun k => spec_FairServe.f k d a b c l x y z m) P := by
        intro P h
        unfold spec_FairServe.f
        refine EvP.bind (specFair_ok d a b c l) (fun t ht => EvP.yes (ht.2 hF) ?_)
        refine EvP.bind (specCharge_ok x y z) (fun t ht => ?_)
        rw [ht.2 hC]
        exact h
      have igo : ∀ (P : Int × Int × Int × Int × List S46 × Int → Prop), EvP (fun k => impl_FairServe.j0 k m false d a b c l x y z) P → EvP (fun k => impl_FairServe.f k d a b c l x y z m) P := by
        intro P h
        unfold impl_FairServe.f
        refine EvP.bind (implFair_ok d a b c l) (fun t ht => EvP.yes (ht.2 hF) ?_)
        refine EvP.bind (implCharge_ok x y z) (fun t ht => ?_)
        rw [ht.2 hC]
        exact h
      have h48 := hF.2.2.1
      generalize hp : pickOf l = p at hin hat
      have spk : EvP (fun k => spec_FairPick.f k d a b c l) (fun r => r = if p < 0 then -1 else (rd_T46 l p).f0) := (specPick_ok d a b c l).mono (fun r e => hp ▸ e.1 hF)
      have ipk : EvP (fun k => impl_Fair_pick.f k d a b c l) (fun r => r = p) := hp ▸ implPickAt_ok d a b c h48
      by_cases hneg : p < 0
      · refine ⟨(0, 0, 0, 0, [], 4), by simp, fun h_ => absurd h_ (by simp), sgo _ ?_, igo _ ?_⟩
        · refine EvP.step ?_
          simp only [spec_FairServe.j0]
          refine EvP.no (by simp) ?_
          refine EvP.bind spk ?_
          rintro _ rfl
          refine EvP.bind (specAt_ok d a b c _ hl) ?_
          rintro _ rfl
          rw [hat]
          exact EvP.yes hneg (EvP.ret rfl)
        · refine EvP.step ?_
          simp only [impl_FairServe.j0]
          refine EvP.no (by simp) ?_
          refine EvP.bind ipk ?_
          rintro _ rfl
          exact EvP.yes hneg (EvP.ret rfl)
      · have h0 : 0 ≤ p := by omega
        have h1 := hin.2
        generalize hk : rd_T46 l p = q
        by_cases ht : mx (mx (mx a q.f3.f0) (mx b q.f3.f1)) (mx c q.f3.f2) > 100000000000
        · refine ⟨(0, 0, 0, 0, [], 7), by simp, fun h_ => absurd h_ (by simp), sgo _ ?_, igo _ ?_⟩
          · refine EvP.step ?_
            simp only [spec_FairServe.j0]
            refine EvP.no (by simp) ?_
            refine EvP.bind spk ?_
            rintro _ rfl
            refine EvP.bind (specAt_ok d a b c _ hl) ?_
            rintro _ rfl
            rw [hat]
            refine EvP.no hneg ?_
            refine EvP.bind (specCopy_ok d a b c (by omega)) ?_
            rintro _ rfl
            refine EvP.yes h0 (EvP.yes h1 ?_)
            rw [hk]
            refine EvP.bind (specMost_ok _ _ _ _ _ _) ?_
            rintro _ rfl
            refine EvP.bind (specTop_ok _ _ _) ?_
            rintro _ rfl
            exact EvP.yes ht (EvP.ret rfl)
          · refine EvP.step ?_
            simp only [impl_FairServe.j0]
            refine EvP.no (by simp) ?_
            refine EvP.bind ipk ?_
            rintro _ rfl
            refine EvP.no hneg ?_
            refine EvP.bind (implCopy'_ok d a b c (by omega)) ?_
            rintro _ rfl
            refine EvP.yes h0 (EvP.yes h1 ?_)
            simp only [hk]
            refine EvP.bind (implMost_ok _ _ _ _ _ _) ?_
            rintro _ rfl
            refine EvP.bind (implTop_ok _ _ _) ?_
            rintro _ rfl
            exact EvP.yes ht (EvP.ret rfl)
        · generalize hu : q.f3.f0 + x * strideOf q.f1 = u
          generalize hv : q.f3.f1 + y * strideOf q.f1 = v
          generalize hw : q.f3.f2 + z * strideOf q.f1 = w
          generalize hT : mx (mx u v) w = T
          obtain ⟨sf, sg, sd, sF, sT⟩ := served_fair m hF hp h0 hC hk ht hu.symm hv.symm hw.symm hT.symm
          have hfi : EvP (fun k => impl_Finish.f k q.f3.f0 q.f3.f1 q.f3.f2 x y z q.f1) (fun r => r = (u, v, w, true)) := (implFin'_ok _ _ _ _ _ _ _).mono (fun r h => by rw [← hu, ← hv, ← hw]; exact h.1 ⟨sf, by rw [hu, hv, hw]; exact sg⟩)
          have hfr : EvP (fun k => spec_Finish.f k q.f3.f0 q.f3.f1 q.f3.f2 x y z q.f1) (fun r => r = (u, v, w, true)) := (specFin_ok _ _ _ _ _ _ _).mono (fun r h => by rw [← hu, ← hv, ← hw]; exact h.1 ⟨sf, by rw [hu, hv, hw]; exact sg⟩)
          have hdi : EvP (fun _ => impl_Dovetail.f u v w d) (fun r => r = (mx u (T - d), mx v (T - d), mx w (T - d))) := (implDove_ok _ _ _ _).mono (fun r h => by rw [← hT]; exact h.1 ⟨sg, sd⟩)
          have hds : EvP (fun k => spec_Dovetail.f k u v w d) (fun r => r = (mx u (T - d), mx v (T - d), mx w (T - d))) := (specDove_ok _ _ _ _).mono (fun r h => by rw [← hT]; exact h.1 ⟨sg, sd⟩)
          refine ⟨(d, mx a q.f3.f0, mx b q.f3.f1, mx c q.f3.f2, l.set p.toNat ⟨q.f0, q.f1, m, ⟨mx u (T - d), mx v (T - d), mx w (T - d)⟩⟩, 0), by dsimp only; rw [List.length_set]; exact hF.2.2.1, fun _ => ⟨hF, by rw [hp]; exact h0, _, _, _, _, by rw [hp], by rw [hp]; exact sF, by rw [hp, hk], by rw [hp, hk], rfl, by rw [hp, hk]; exact sT⟩, sgo _ ?_, igo _ ?_⟩
          · refine EvP.step ?_
            simp only [spec_FairServe.j0]
            refine EvP.no (by simp) ?_
            refine EvP.bind spk ?_
            rintro _ rfl
            refine EvP.bind (specAt_ok d a b c _ hl) ?_
            rintro _ rfl
            rw [hat]
            refine EvP.no hneg ?_
            refine EvP.bind (specCopy_ok d a b c (by omega)) ?_
            rintro _ rfl
            refine EvP.yes h0 (EvP.yes h1 ?_)
            simp only [hk]
            refine EvP.bind (specMost_ok _ _ _ _ _ _) ?_
            rintro _ rfl
            refine EvP.bind (specTop_ok _ _ _) ?_
            rintro _ rfl
            refine EvP.no ht ?_
            refine EvP.bind hfr ?_
            rintro _ rfl
            refine EvP.bind hds ?_
            rintro _ rfl
            refine EvP.yes h1 ?_
            refine EvP.bind (EvP.ret rfl) ?_
            rintro _ rfl
            simp only [rdset h0 h1, List.set_set]
            exact EvP.ret rfl
          · refine EvP.step ?_
            simp only [impl_FairServe.j0]
            refine EvP.no (by simp) ?_
            refine EvP.bind ipk ?_
            rintro _ rfl
            refine EvP.no hneg ?_
            refine EvP.bind (implCopy'_ok d a b c (by omega)) ?_
            rintro _ rfl
            refine EvP.yes h0 (EvP.yes h1 ?_)
            simp only [hk]
            refine EvP.bind (implMost_ok _ _ _ _ _ _) ?_
            rintro _ rfl
            refine EvP.bind (implTop_ok _ _ _) ?_
            rintro _ rfl
            refine EvP.no ht ?_
            refine EvP.bind hfi ?_
            rintro _ rfl
            refine EvP.bind hdi ?_
            rintro _ rfl
            refine EvP.bind (EvP.ret rfl) ?_
            rintro _ rfl
            simp only [rdset h0 h1, List.set_set]
            exact EvP.ret rfl
    · refine ⟨(0, 0, 0, 0, [], 1), by simp, fun h_ => absurd h_ (by simp), ?_, ?_⟩
      · unfold spec_FairServe.f
        refine EvP.bind (specFair_ok d a b c l) (fun t ht => EvP.yes (ht.2 hF) ?_)
        refine EvP.bind (specCharge_ok x y z) (fun t ht => ?_)
        cases t with
        | true => exact absurd (ht.1 rfl) hC
        | false => exact sbad
      · unfold impl_FairServe.f
        refine EvP.bind (implFair_ok d a b c l) (fun t ht => EvP.yes (ht.2 hF) ?_)
        refine EvP.bind (implCharge_ok x y z) (fun t ht => ?_)
        cases t with
        | true => exact absurd (ht.1 rfl) hC
        | false => exact ibad
  · refine ⟨(0, 0, 0, 0, [], 1), by simp, fun h_ => absurd h_ (by simp), ?_, ?_⟩
    · unfold spec_FairServe.f
      exact EvP.bind (specFair_ok d a b c l) (fun t ht => EvP.no (fun g => hF (ht.1 g)) sbad)
    · unfold impl_FairServe.f
      exact EvP.bind (implFair_ok d a b c l) (fun t ht => EvP.no (fun g => hF (ht.1 g)) ibad)
theorem specNew_len (d : Int) : EvP (fun _ => spec_FairNew.f d) (fun r => (r.2.2.2.2.length : Int) ≤ 97) := by
  unfold spec_FairNew.f
  exact EvP.bind (specDelta_ok d) (fun t _ => EvP.ite (fun _ => EvP.ret (by simp)) (fun _ => EvP.ret (by simp)))
theorem specWake_len (d a b c id : Int) {l : List S46} (hl : (l.length : Int) ≤ 1048576) : EvP (fun k => spec_FairWake.f k d a b c l id) (fun r => (r.2.2.2.2.1.length : Int) ≤ 97) := by
  have hin := atOf_in l id _ rfl
  unfold spec_FairWake.f
  refine EvP.bind (specFair_ok d a b c l) (fun t ht => EvP.ite (fun h => ?_) (fun _ => EvP.ret (by simp)))
  have h48 := (ht.1 h).2.2.1
  refine EvP.bind (specAt_ok d a b c id hl) ?_
  rintro _ rfl
  refine EvP.ite (fun _ => EvP.ret (by simp)) (fun h0 => EvP.yes (by omega) (EvP.yes hin.2 (EvP.ite (fun _ => EvP.ret (by simp)) (fun _ => ?_))))
  refine EvP.bind (specCopy_ok d a b c (by omega)) ?_
  rintro _ rfl
  refine EvP.yes hin.2 ?_
  refine EvP.bind (EvP.ret rfl) ?_
  rintro _ rfl
  refine EvP.bind (specMost_ok _ _ _ _ _ _) ?_
  rintro _ rfl
  refine EvP.ret ?_
  simp only [List.length_set]
  omega
theorem specRest_len (d a b c id : Int) {l : List S46} (hl : (l.length : Int) ≤ 1048576) : EvP (fun k => spec_FairRest.f k d a b c l id) (fun r => (r.2.2.2.2.1.length : Int) ≤ 97) := by
  have hin := atOf_in l id _ rfl
  unfold spec_FairRest.f
  refine EvP.bind (specFair_ok d a b c l) (fun t ht => EvP.ite (fun h => ?_) (fun _ => EvP.ret (by simp)))
  have h48 := (ht.1 h).2.2.1
  refine EvP.bind (specAt_ok d a b c id hl) ?_
  rintro _ rfl
  refine EvP.ite (fun _ => EvP.ret (by simp)) (fun h0 => EvP.yes (by omega) (EvP.yes hin.2 (EvP.ite (fun _ => ?_) (fun _ => EvP.ret (by simp)))))
  refine EvP.bind (specCopy_ok d a b c (by omega)) ?_
  rintro _ rfl
  refine EvP.yes hin.2 (EvP.ret ?_)
  simp only [List.length_set]
  omega
theorem joinLen {d a b c id : Int} {l : List S46} (hl : (l.length : Int) ≤ 48) (e a' b' c' x0 x1 x3 x4 x5 : Int) (x2 : Bool) : ∀ (n : Nat) (i : Int) (out : List S46), 0 ≤ i → i + n = (l.length : Int) → (out.length : Int) ≤ 2 * i →
    EvP (fun k => spec_FairJoin.l0 k id i d a b c l e a' b' c' out x0 x1 x2 x3 x4 x5) (fun r => (r.2.2.2.2.1.length : Int) ≤ 97)
  | 0, i, out, h0, hi, ho => by
    refine EvP.step ?_
    simp only [spec_FairJoin.l0]
    refine EvP.no (by omega) (EvP.ite (fun _ => EvP.yes (by omega) (EvP.ret ?_)) (fun _ => EvP.ret ?_))
    · simp only [List.length_append, List.length_cons, List.length_nil]; omega
    · dsimp only; omega
  | n + 1, i, out, h0, hi, ho => by
    have hw : wrap64 (i + 1) = i + 1 := w64 (by omega) (by omega)
    have hw2 : wrap64 (i - 1) = i - 1 := w64 (by omega) (by omega)
    have rc : ∀ t : List S46, (t.length : Int) ≤ 2 * i + 2 → EvP (fun k => spec_FairJoin.l0 k id (wrap64 (i + 1)) d a b c l e a' b' c' t x0 x1 x2 x3 x4 x5) (fun r => (r.2.2.2.2.1.length : Int) ≤ 97) := by
      intro t ht
      rw [hw]
      exact joinLen hl e a' b' c' x0 x1 x3 x4 x5 x2 n (i + 1) t (by omega) (by omega) (by omega)
    refine EvP.step ?_
    simp only [spec_FairJoin.l0]
    refine EvP.yes (by omega) (EvP.yes h0 (EvP.ite (fun h1 => EvP.ite (fun h2 => ?_) (fun h2 => EvP.yes (by rw [hw2]; omega) (EvP.yes (by rw [hw2]; omega) (EvP.ite (fun h3 => ?_) (fun h3 => ?_))))) (fun h1 => ?_)))
    · refine EvP.yes (by omega) (EvP.bind (EvP.ret rfl) ?_)
      rintro _ rfl
      refine EvP.yes (by simp only [List.length_append, List.length_cons, List.length_nil]; omega) (rc _ ?_)
      simp only [List.length_append, List.length_cons, List.length_nil]; omega
    · refine EvP.yes (by omega) (EvP.bind (EvP.ret rfl) ?_)
      rintro _ rfl
      refine EvP.yes (by simp only [List.length_append, List.length_cons, List.length_nil]; omega) (rc _ ?_)
      simp only [List.length_append, List.length_cons, List.length_nil]; omega
    · refine EvP.yes (by omega) (rc _ ?_)
      simp only [List.length_append, List.length_cons, List.length_nil]; omega
    · refine EvP.yes (by omega) (rc _ ?_)
      simp only [List.length_append, List.length_cons, List.length_nil]; omega
theorem specJoin_len (d a b c id w : Int) {l : List S46} (hl : (l.length : Int) ≤ 1048576) : EvP (fun k => spec_FairJoin.f k d a b c l id w) (fun r => (r.2.2.2.2.1.length : Int) ≤ 97) := by
  unfold spec_FairJoin.f
  refine EvP.bind (specFair_ok d a b c l) (fun t ht => EvP.ite (fun h => ?_) (fun _ => ?_))
  · have h48 := (ht.1 h).2.2.1
    have j : ∀ x26 : Bool, EvP (fun k => spec_FairJoin.j0 k id w x26 d a b c l) (fun r => (r.2.2.2.2.1.length : Int) ≤ 97) := by
      intro x26
      refine EvP.step ?_
      simp only [spec_FairJoin.j0]
      refine EvP.ite (fun _ => EvP.ret (by simp)) (fun _ => EvP.bind (specAt_ok d a b c id hl) (fun t _ => EvP.ite (fun _ => EvP.ret (by simp)) (fun _ => EvP.ite (fun _ => EvP.ret (by simp)) (fun _ => ?_))))
      exact joinLen h48 _ _ _ _ _ _ _ _ _ _ l.length 0 [] (by omega) (by omega) (by simp)
    exact EvP.ite (fun _ => j _) (fun _ => EvP.ite (fun _ => j _) (fun _ => EvP.bind (specStride_ok w) (fun t _ => j _)))
  · refine EvP.step ?_
    simp only [spec_FairJoin.j0]
    exact EvP.yes trivial (EvP.ret (by simp))
theorem specServe_len (d a b c x y z : Int) (m : Bool) {l : List S46} (hl : (l.length : Int) ≤ 1048576) : EvP (fun k => spec_FairServe.f k d a b c l x y z m) (fun r => (r.2.2.2.2.1.length : Int) ≤ 97) := by
  obtain ⟨R, h1, _, h2, _⟩ := serve_ok d a b c x y z m hl
  exact h2.mono (fun r e => by rw [e]; omega)
def DrawnP (s : List Int) (B : Int) (r : Int × Int × Int × Int × List S46 × Int × Int) : Prop := Cu s r.2.2.2.2.2.1 r.2.2.2.2.2.2 B ∧ (r.2.2.2.2.1.length : Int) ≤ 97
theorem fair_l0 {s : List Int} : ∀ (n : Nat) (p sd B d a b c : Int) (l : List S46), Cu s p sd B → B + 20 * n ≤ 1000000000 → (l.length : Int) ≤ 97 → n ≤ 1000 →
    EvP (fun k => spec_l01Cur_fair.l0 k (n : Int) s p sd d a b c l) (DrawnP s (B + 20 * n))
  | 0, p, sd, B, d, a, b, c, l, h, hB, hl, hn => by
    refine EvP.step ?_
    simp only [spec_l01Cur_fair.l0]
    exact EvP.no (by omega) (EvP.ret ⟨h.le (by omega), hl⟩)
  | n + 1, p, sd, B, d, a, b, c, l, h, hB, hl, hn => by
    have hw : wrap64 (((n + 1 : Nat) : Int) - 1) = (n : Int) := by rw [w64 (by omega) (by omega)]; omega
    have rc : ∀ (p' sd' B' d' a' b' c' : Int) (t : List S46), Cu s p' sd' B' → B' ≤ B + 20 → (t.length : Int) ≤ 97 → EvP (fun k => spec_l01Cur_fair.l0 k (wrap64 (((n + 1 : Nat) : Int) - 1)) s p' sd' d' a' b' c' t) (DrawnP s (B + 20 * ((n + 1 : Nat) : Int))) := by
      intro p' sd' B' d' a' b' c' t hc hb ht
      rw [hw]
      refine (fair_l0 n p' sd' (B + 20) d' a' b' c' t (hc.le hb) (by omega) ht (by omega)).mono (fun r e => ⟨e.1.le (by omega), e.2⟩)
    have j2 : ∀ (x18 : Int) (x32 : Bool) (p' sd' : Int), Cu s p' sd' (B + 1) → EvP (fun k => spec_l01Cur_fair.j2 k ((n + 1 : Nat) : Int) 0 x18 x32 s p' sd' d a b c l d a b c l) (DrawnP s (B + 20 * ((n + 1 : Nat) : Int))) := by
      intro x18 x32 p' sd' h'
      refine EvP.step ?_
      simp only [spec_l01Cur_fair.j2]
      refine EvP.ite (fun _ => ?_) (fun _ => EvP.ite (fun _ => ?_) (fun _ => EvP.ite (fun _ => ?_) (fun _ => EvP.ite (fun _ => ?_) (fun _ => ?_))))
      · refine EvP.bind (pickE h' (by omega)) (fun r hr => EvP.bind (specWake_len d a b c _ (by omega)) (fun q hq => ?_))
        exact EvP.ite (fun _ => rc _ _ _ _ _ _ _ _ hr.1 (by omega) hq) (fun _ => rc _ _ _ _ _ _ _ _ hr.1 (by omega) hl)
      · refine EvP.bind (pickE h' (by omega)) (fun r hr => EvP.bind (specRest_len d a b c _ (by omega)) (fun q hq => ?_))
        exact EvP.ite (fun _ => rc _ _ _ _ _ _ _ _ hr.1 (by omega) hq) (fun _ => rc _ _ _ _ _ _ _ _ hr.1 (by omega) hl)
      · refine EvP.bind (drawCost h' (by omega) (by omega) (by omega)) (fun r hr => EvP.bind (once_ok hr (by omega)) (fun u hu => EvP.bind (specServe_len d a b c _ _ _ _ (by omega)) (fun q hq => ?_)))
        exact EvP.ite (fun _ => rc _ _ _ _ _ _ _ _ hu (by omega) hq) (fun _ => rc _ _ _ _ _ _ _ _ hu (by omega) hl)
      · refine EvP.bind (drawCost h' (by omega) (by omega) (by omega)) (fun r hr => EvP.bind (specServe_len d a b c _ _ _ _ (by omega)) (fun q hq => ?_))
        exact EvP.ite (fun _ => rc _ _ _ _ _ _ _ _ hr (by omega) hq) (fun _ => rc _ _ _ _ _ _ _ _ hr (by omega) hl)
      · exact EvP.yes trivial (rc _ _ _ _ _ _ _ _ h' (by omega) hl)
    have j1 : ∀ (x18 : Int) (x19 : Bool) (p' sd' : Int), Cu s p' sd' (B + 1) → EvP (fun k => spec_l01Cur_fair.j1 k ((n + 1 : Nat) : Int) 0 x18 x19 s p' sd' d a b c l d a b c l) (DrawnP s (B + 20 * ((n + 1 : Nat) : Int))) := by
      intro x18 x19 p' sd' h'
      refine EvP.step ?_
      simp only [spec_l01Cur_fair.j1]
      refine EvP.ite (fun _ => ?_) (fun _ => EvP.ite (fun _ => j2 _ _ _ _ h') (fun _ => j2 _ _ _ _ h'))
      refine EvP.bind (pickE h' (by omega)) (fun r hr => EvP.bind (pickE hr.1 (by omega)) (fun u hu => EvP.bind (specJoin_len d a b c _ _ (by omega)) (fun q hq => ?_)))
      exact EvP.ite (fun _ => rc _ _ _ _ _ _ _ _ hu.1 (by omega) hq) (fun _ => rc _ _ _ _ _ _ _ _ hu.1 (by omega) hl)
    refine EvP.step ?_
    simp only [spec_l01Cur_fair.l0]
    refine EvP.yes (by omega) (EvP.bind (pickE h (by omega)) (fun r hr => EvP.ite (fun _ => j1 _ _ _ _ hr.1) (fun _ => j1 _ _ _ _ hr.1)))
theorem fair_ok {s : List Int} {p sd B : Int} (h : Cu s p sd B) (hB : B ≤ 100000) (hs : (s.length : Int) ≤ 1048576) : EvP (fun k => spec_l01Cur_fair.f k s p sd) (DrawnP s (B + 1000)) := by
  unfold spec_l01Cur_fair.f
  refine EvP.bind (drawDelta h (by omega)) (fun r hr => EvP.bind (specNew_len _) (fun q hq => EvP.bind (size_ok hr (by omega) hs (by omega) (by omega)) (fun u hu => ?_)))
  obtain ⟨n, hn⟩ : ∃ n : Nat, u.1 = (n : Int) := ⟨u.1.toNat, by omega⟩
  rw [hn]
  exact (fair_l0 n _ _ _ _ _ _ _ _ hu.1 (by omega) hq (by omega)).mono (fun r e => ⟨e.1.le (by omega), e.2⟩)
def DrawnQ (s : List Int) (B : Int) (r : Int × Int × Int × Int × List S46 × Int × Int) : Prop := Cu s r.2.2.2.2.2.1 r.2.2.2.2.2.2 B ∧ (r.2.2.2.2.1.length : Int) ≤ 98
theorem badFair_l0 {s : List Int} {d a b c : Int} : ∀ (n : Nat) (p sd B : Int) (l : List S46), Cu s p sd B → B + n ≤ 1000000000 → (l.length : Int) ≤ 97 → 50 ≤ (l.length : Int) + n →
    EvP (fun k => spec_l01Cur_badFair.l0 k s p sd d a b c l) (DrawnQ s (B + n + 1))
  | 0, p, sd, B, l, h, hB, hl, hn => by
    refine EvP.step ?_
    simp only [spec_l01Cur_badFair.l0]
    refine EvP.bind (pickE h (by omega)) (fun r hr => ?_)
    obtain ⟨h1, h2, h3⟩ := hr
    exact EvP.no (by rw [w64 (by omega) (by omega)]; omega) (EvP.ret ⟨h1.le (by omega), by dsimp only; omega⟩)
  | n + 1, p, sd, B, l, h, hB, hl, hn => by
    refine EvP.step ?_
    simp only [spec_l01Cur_badFair.l0]
    refine EvP.bind (pickE h (by omega)) (fun r hr => ?_)
    obtain ⟨h1, h2, h3⟩ := hr
    refine EvP.ite (fun g => EvP.yes (by omega) ?_) (fun g => EvP.ret ⟨h1.le (by omega), by dsimp only; omega⟩)
    rw [w64 (by omega) (by omega)] at g
    exact (badFair_l0 n _ _ (B + 1) _ h1 (by omega) (by simp only [List.length_append, List.length_cons, List.length_nil]; omega) (by simp only [List.length_append, List.length_cons, List.length_nil]; omega)).mono (fun r e => ⟨e.1.le (by omega), e.2⟩)
theorem badFair_l1 {s : List Int} {d a b c p sd B x4 : Int} (h : Cu s p sd B) : ∀ (n : Nat) (i : Int) (l : List S46), 0 ≤ i → i + n = (l.length : Int) → (l.length : Int) ≤ 97 →
    EvP (fun k => spec_l01Cur_badFair.l1 k x4 i s p sd d a b c l) (DrawnQ s B)
  | 0, i, l, h0, hi, hl => by
    refine EvP.step ?_
    simp only [spec_l01Cur_badFair.l1]
    exact EvP.no (by omega) (EvP.ret ⟨h, by dsimp only; omega⟩)
  | n + 1, i, l, h0, hi, hl => by
    refine EvP.step ?_
    simp only [spec_l01Cur_badFair.l1]
    refine EvP.yes (by omega) (EvP.yes h0 ?_)
    rw [w64 (x := i + 1) (by omega) (by omega)]
    exact badFair_l1 h n (i + 1) _ (by omega) (by rw [List.length_set]; omega) (by rw [List.length_set]; exact hl)
theorem badFair_ok {s : List Int} {p sd B : Int} (h : Cu s p sd B) (hB : B ≤ 10000) (hs : (s.length : Int) ≤ 1048576) : EvP (fun k => spec_l01Cur_badFair.f k s p sd) (DrawnQ s (B + 2000)) := by
  unfold spec_l01Cur_badFair.f
  refine EvP.bind (fair_ok h (by omega) hs) (fun f hf => ?_)
  obtain ⟨hf, hl⟩ := hf
  refine EvP.bind (pickE hf (by omega)) (fun r hr => ?_)
  refine EvP.ite (fun _ => ?_) (fun _ => EvP.ite (fun _ => ?_) (fun _ => EvP.ite (fun _ => ?_) (fun _ => EvP.ite (fun _ => ?_) (fun _ => EvP.ite (fun _ => ?_) (fun _ => EvP.ite (fun _ => ?_) (fun _ => EvP.ret ⟨hr.1.le (by omega), by dsimp only; omega⟩))))))
  · refine EvP.bind (raw_ok hr.1 (by omega)) (fun u hu => EvP.bind (drawDelta hu.1 (by omega)) (fun v hv => EvP.bind (EvP.ret rfl) ?_))
    rintro _ rfl
    refine EvP.bind (pickE hv (by omega)) (fun w hw => EvP.yes hw.2.1 (EvP.yes (by have := hw.2; simp only [List.length_cons, List.length_nil]; omega) (EvP.ret ⟨hw.1.le (by omega), by dsimp only; omega⟩)))
  · exact EvP.bind (drawVec hr.1 (by omega)) (fun u hu => EvP.ret ⟨hu.le (by omega), by dsimp only; omega⟩)
  · refine EvP.bind (raw_ok hr.1 (by omega)) (fun u hu => EvP.bind (pickE hu.1 (by omega)) (fun v hv => EvP.yes (by omega) (EvP.ret ⟨hv.1.le (by omega), ?_⟩)))
    simp only [List.length_append, List.length_cons, List.length_nil]
    omega
  · refine EvP.ite (fun g => ?_) (fun g => EvP.ret ⟨hr.1.le (by omega), by dsimp only; omega⟩)
    refine EvP.bind (pickE hr.1 (by omega)) (fun u hu => EvP.bind (drawVec hu.1 (by omega)) (fun v hv => EvP.yes hu.2.1 (EvP.yes (by have := hu.2; omega) (EvP.ret ⟨hv.le (by omega), ?_⟩))))
    simp only [List.length_set]
    omega
  · exact (badFair_l0 50 _ _ _ _ hr.1 (by omega) hl (by omega)).mono (fun r e => ⟨e.1.le (by omega), e.2⟩)
  · refine EvP.bind (specTop_ok _ _ _) (fun t _ => EvP.bind (pickE hr.1 (by omega)) (fun u hu => ?_))
    exact (badFair_l1 hu.1 f.2.2.2.2.1.length 0 _ (by omega) (by omega) hl).mono (fun r e => ⟨e.1.le (by omega), e.2⟩)
theorem drawServe_ok {s : List Int} (hb : Bs s) (hs : (s.length : Int) ≤ 1048576) : EvP (fun k => spec_DrawFairServe.f k s) (fun r => (r.2.2.2.2.1.length : Int) ≤ 98) := by
  unfold spec_DrawFairServe.f
  refine EvP.bind (open_ok hb) ?_
  rintro ⟨s', p, sd⟩ ⟨rfl, hc⟩
  refine EvP.bind (badFair_ok hc (by omega) hs) (fun f hf => EvP.bind (pickE hf.1 (by omega)) (fun u hu => ?_))
  have hu2 : wrap64 (2000 + u.1) = 2000 + u.1 := by have := hu.2; exact w64 (by omega) (by omega)
  refine EvP.bind (drawCost hu.1 (by omega) (by rw [hu2]; omega) (by rw [hu2]; have := hu.2; omega)) (fun v hv => EvP.bind (once_ok hv (by omega)) (fun w _ => EvP.ret hf.2))

def kidAt (x : S46) : Int × Int × Bool × Int × Int × Int := (x.f0, x.f1, x.f2, x.f3.f0, x.f3.f1, x.f3.f2)
theorem at_id {d T : Int} {l : List S46} (h : FairFrom d T l 0) {j : Int} (h0 : 0 ≤ j) (h1 : j < (l.length : Int)) : atOf l (rd_T46 l j).f0 = j := by
  have := atPick h (p := j) (by omega) h1
  rwa [if_neg (by omega)] at this
theorem specKidAt {d a b c j : Int} {l : List S46} (hF : FairP d a b c l) (h0 : 0 ≤ j) (h1 : j < (l.length : Int)) : EvP (fun k => spec_FairKid.f k d a b c l (rd_T46 l j).f0) (fun r => r = kidAt (rd_T46 l j)) := by
  have hs : (l.length : Int) ≤ 1048576 := by have := hF.2.2.1; omega
  have ha := at_id hF.2.2.2 h0 h1
  unfold spec_FairKid.f
  refine EvP.bind (specFair_ok d a b c l) (fun t ht => EvP.yes (ht.2 hF) ?_)
  refine EvP.bind (specAt_ok d a b c _ hs) ?_
  rintro _ rfl
  refine EvP.no (by omega) ?_
  refine EvP.bind (specAt_ok d a b c _ hs) ?_
  rintro _ rfl
  rw [ha]
  exact EvP.yes h0 (EvP.yes h1 (EvP.ret rfl))
theorem implKidAt {d a b c j : Int} {l : List S46} (hF : FairP d a b c l) (h0 : 0 ≤ j) (h1 : j < (l.length : Int)) : EvP (fun k => impl_FairKid.f k d a b c l (rd_T46 l j).f0) (fun r => r = kidAt (rd_T46 l j)) := by
  have hs : (l.length : Int) ≤ 1048576 := by have := hF.2.2.1; omega
  have ha := at_id hF.2.2.2 h0 h1
  unfold impl_FairKid.f
  refine EvP.bind (implAt_ok d a b c _ hs) ?_
  rintro _ rfl
  refine EvP.bind (implFair_ok d a b c l) (fun t ht => EvP.yes (ht.2 hF) ?_)
  rw [ha]
  exact EvP.no (by omega) (EvP.yes h0 (EvP.yes h1 (EvP.ret rfl)))
theorem first_l0 {d a b c x y z p : Int} {l : List S46} {q : S46} (hF : FairP d a b c l) (hp : pickOf l = p) (h0 : 0 ≤ p) (hG : FairP d x y z (l.set p.toNat q)) (hq : q.f0 = (rd_T46 l p).f0) (u0 u1 : Int) (u2 : Bool) : ∀ (n : Nat) (i : Int), 0 ≤ i → i + n = (l.length : Int) →
    EvP (fun k => laws_FnPickFirst.l0 k (rd_T46 l p).f0 i d a b c l d x y z (l.set p.toNat q) u0 u1 u2 (rd_T46 l p).f3.f0 (rd_T46 l p).f3.f1 (rd_T46 l p).f3.f2) (fun r => r = true)
  | 0, i, hi, hn => by
    refine EvP.step ?_
    simp only [laws_FnPickFirst.l0]
    exact EvP.no (by omega) (EvP.ret rfl)
  | n + 1, i, hi, hn => by
    have h48 := hF.2.2.1
    have hw : wrap64 (i + 1) = i + 1 := w64 (by omega) (by omega)
    have rc := first_l0 hF hp h0 hG hq u0 u1 u2 n (i + 1) (by omega) (by omega)
    have hb := best_of l
    rw [hp] at hb
    obtain ⟨hp1, hbusy, hmin⟩ := hb.2 h0
    have j3 : EvP (fun k => laws_FnPickFirst.j3 k (rd_T46 l p).f0 i false d a b c l d x y z (l.set p.toNat q) u0 u1 u2 (rd_T46 l p).f3.f0 (rd_T46 l p).f3.f1 (rd_T46 l p).f3.f2 (rd_T46 l i).f0 (rd_T46 l i).f1 (rd_T46 l i).f2 (rd_T46 l i).f3.f0 (rd_T46 l i).f3.f1 (rd_T46 l i).f3.f2) (fun r => r = true) := by
      refine EvP.step ?_
      simp only [laws_FnPickFirst.j3]
      rw [hw]
      refine EvP.no (by simp) (EvP.ite (fun _ => rc) (fun hne => ?_))
      have hip : i ≠ p := fun e => hne (by rw [e])
      have hk := implKidAt hG (j := i) hi (by rw [List.length_set]; omega)
      rw [rd_set_ne h0 hi hip] at hk
      refine EvP.bind hk ?_
      rintro _ rfl
      exact EvP.no (by simp [kidAt]) rc
    refine EvP.step ?_
    simp only [laws_FnPickFirst.l0]
    refine EvP.yes (by omega) (EvP.yes hi (EvP.ite (fun hbi => ?_) (fun _ => j3)))
    obtain ⟨m1, m2⟩ := hmin i hi (by omega) hbi
    refine EvP.bind (specTop_ok _ _ _) ?_
    rintro _ rfl
    refine EvP.bind (specTop_ok _ _ _) ?_
    rintro _ rfl
    refine EvP.no (by unfold topOf at m1; omega) ?_
    refine EvP.bind (specTop_ok _ _ _) ?_
    rintro _ rfl
    refine EvP.bind (specTop_ok _ _ _) ?_
    rintro _ rfl
    refine EvP.ite (fun he => ?_) (fun _ => j3)
    have hlt : ¬ (rd_T46 l i).f0 < (rd_T46 l p).f0 := by
      intro hlt
      have e : ¬ i = p := fun e => by rw [e] at hlt; omega
      by_cases g : i < p
      · have := m2 g
        unfold topOf at this
        omega
      · have hu := idsUp hF.2.2.2 (i.toNat - p.toNat - 1) p h0 (by omega)
        rw [show p + ((i.toNat - p.toNat - 1 + 1 : Nat) : Int) = i by omega] at hu
        omega
    rw [decide_eq_false hlt]
    exact j3
theorem FnPickFirst : laws_FnPickFirst.Pure := by
  intro s _ _ hw
  refine EvP.rounds ?_
  unfold laws_FnPickFirst.f
  refine EvP.bind (big_ok s) (fun t ht => EvP.ite (fun _ => EvP.ret rfl) (fun h => ?_))
  have hs := ht (by simpa using h)
  refine EvP.bind (drawServe_ok (Bs.of hw) hs) (fun g hg => ?_)
  obtain ⟨d, a, b, c, l, x, y, z, m⟩ := g
  dsimp only at hg ⊢
  obtain ⟨⟨r0, r1, r2, r3, rl, rc⟩, hR, hP, hsp, him⟩ := serve_ok d a b c x y z m (l := l) (by omega)
  dsimp only at hR hP
  refine EvP.bind hsp ?_
  rintro _ rfl
  refine EvP.bind (implPick_ok d a b c l) (fun id hid => ?_)
  refine EvP.bind him ?_
  rintro _ rfl
  refine EvP.yes rfl ?_
  dsimp only
  by_cases h0 : rc = 0
  · obtain ⟨hF, hp, x', y', z', q, hRe, hG, q0, q1, q2, qT⟩ := hP h0
    simp only [Prod.mk.injEq] at hRe
    obtain ⟨e0, e1, e2, e3, e4, e5⟩ := hRe
    have hid := hid.1 hF
    rw [if_neg (by omega)] at hid
    rw [hid, e0, e1, e2, e3, e4, e5]
    have hb := best_of l
    generalize hpk : pickOf l = p at *
    obtain ⟨hp1, hbusy, -⟩ := hb.2 hp
    refine EvP.step ?_
    simp only [laws_FnPickFirst.j0]
    refine EvP.no (by simp) (EvP.bind (specKidAt hF hp hp1) ?_)
    rintro _ rfl
    have hk := implKidAt hG (j := p) hp (by rw [List.length_set]; exact hp1)
    rw [rd_set_at hp hp1, q0] at hk
    refine EvP.bind hk ?_
    rintro _ rfl
    dsimp only [kidAt]
    refine EvP.yes hbusy (EvP.no (by rw [q2]; simp) (EvP.yes q1 ?_))
    refine EvP.bind (specTop_ok _ _ _) ?_
    rintro _ rfl
    refine EvP.bind (specTop_ok _ _ _) ?_
    rintro _ rfl
    refine EvP.bind (specStride_ok _) ?_
    rintro _ rfl
    have hTag := (hF.2.2.2 p hp hp1).1.2.2.1.1
    have ht := top_in hTag
    have hst := strideOf_in (rd_T46 l p).f1
    unfold topOf at qT
    rw [decide_eq_false (by rw [w64 (by omega) (by omega)]; omega)]
    refine EvP.step ?_
    simp only [laws_FnPickFirst.j1]
    exact EvP.no (by simp) (first_l0 hF hpk hp hG q0 _ _ _ l.length 0 (by omega) (by omega))
  · have hne : (rc != 0) = true := by simpa using h0
    rw [hne]
    refine EvP.step ?_
    simp only [laws_FnPickFirst.j0]
    exact EvP.yes trivial (EvP.ret (by simp))

end Go.Proofs.Ytppmbdfbhahngaa.Pure
