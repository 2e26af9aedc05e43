/- Who is charged most on one resource starts there later by that charge and its stride, and its top moves by no more. No condition. -/
import Derived.Test.YtbijdkmchdkgfaaPFnMainMovesx
import Derived.Laws.BitsLemmas
namespace Go.Proofs.Ytbijdkmchdkgfaa.Pure
open Go.RowKit Go.Proofs.Ytbijdkmchdkgfaa.PFnMainMoves Go.Proofs.YtbijdkmchdkgfaaW.PrintWords Go.Proofs.YtbijdkmchdkgfaaW.PrintLast Go.Proofs.YtbijdkmchdkgfaaW.PrintMore
set_option linter.unusedVariables false
set_option linter.unusedSimpArgs false

def EvP {α : Type} (g : Nat → Option α) (P : α → Prop) : Prop := ∃ r, Ev g r ∧ P r
theorem EvP.of {α : Type} {o : Option α} {P : α → Prop} (h : ∃ r, o = some r ∧ P r) : EvP (fun _ => o) P := by
  obtain ⟨r, rfl, hp⟩ := h
  exact ⟨r, Ev.now r, hp⟩
theorem EvP.ret {α : Type} {r : α} {P : α → Prop} (h : P r) : EvP (fun _ => some r) P := ⟨r, Ev.now r, h⟩
theorem EvP.bind {α β : Type} {g : Nat → Option α} {f : Nat → α → Option β} {P : α → Prop} {Q : β → Prop} (h : EvP g P) (k : ∀ r, P r → EvP (fun n => f n r) Q) : EvP (fun n => (g n).bind (f n)) Q := by
  obtain ⟨r, hr, hp⟩ := h
  obtain ⟨q, hq, hQ⟩ := k r hp
  exact ⟨q, Ev.bind hr hq, hQ⟩
theorem EvP.ite {α : Type} {c : Prop} [Decidable c] {a b : Nat → Option α} {Q : α → Prop} (h : c → EvP a Q) (h' : ¬ c → EvP b Q) : EvP (fun n => if c then a n else b n) Q := by
  by_cases hc : c
  · simp only [if_pos hc]; exact h hc
  · simp only [if_neg hc]; exact h' hc
theorem EvP.yes {α : Type} {c : Prop} [Decidable c] {a b : Nat → Option α} {Q : α → Prop} (hc : c) (h : EvP a Q) : EvP (fun n => if c then a n else b n) Q := by
  simp only [if_pos hc]; exact h
theorem EvP.no {α : Type} {c : Prop} [Decidable c] {a b : Nat → Option α} {Q : α → Prop} (hc : ¬ c) (h : EvP b Q) : EvP (fun n => if c then a n else b n) Q := by
  simp only [if_neg hc]; exact h
theorem EvP.step {α : Type} {g : Nat → Option α} {Q : α → Prop} (h : EvP (fun k => g (k + 1)) Q) : EvP g Q := by
  obtain ⟨r, hr, hq⟩ := h
  exact ⟨r, Ev.step (fun _ => rfl) hr, hq⟩
theorem EvP.mono {α : Type} {g : Nat → Option α} {P Q : α → Prop} (h : EvP g P) (hpq : ∀ r, P r → Q r) : EvP g Q := by
  obtain ⟨r, hr, hp⟩ := h
  exact ⟨r, hr, hpq r hp⟩
theorem EvP.rounds {α : Type} {g : Nat → Option α} {r : α} (h : EvP g (fun x => x = r)) : ∃ k, g k = some r := by
  obtain ⟨q, hq, rfl⟩ := h
  exact hq.rounds
theorem w64 {x : Int} (h0 : -9223372036854775808 ≤ x) (h1 : x ≤ 9223372036854775807) : wrap64 x = x := by unfold wrap64; omega
theorem w64_lo (x : Int) : -9223372036854775808 ≤ wrap64 x := by unfold wrap64; omega
theorem w64_hi (x : Int) : wrap64 x ≤ 9223372036854775807 := by unfold wrap64; omega
theorem tmod_pos {a b : Int} (h : 0 ≤ a) : Int.tmod a b = a % b := Int.tmod_eq_emod_of_nonneg h
theorem tdiv_pos {a b : Int} (h : 0 ≤ a) : Int.tdiv a b = a / b := Int.tdiv_eq_ediv_of_nonneg h
def Bs (s : List Int) : Prop := ∀ x ∈ s, 0 ≤ x ∧ x ≤ 255
theorem Bs.set {s : List Int} (h : Bs s) (i : Nat) {x : Int} (h0 : 0 ≤ x) (h1 : x ≤ 255) : Bs (s.set i x) := fun y hy => by
  rcases List.mem_or_eq_of_mem_set hy with hy | rfl
  · exact h y hy
  · exact ⟨h0, h1⟩
theorem Bs.rdb {s : List Int} (h : Bs s) (i : Int) : 0 ≤ rd s i ∧ rd s i ≤ 255 := by
  by_cases hi : i.toNat < s.length
  · unfold rd
    rw [List.getD_eq_getElem?_getD, List.getElem?_eq_getElem hi]
    exact h _ (List.getElem_mem hi)
  · unfold rd
    rw [List.getD_eq_getElem?_getD, List.getElem?_eq_none (by omega)]
    exact ⟨by decide, by decide⟩
theorem Bs.of {s : List Int} (h : ∀ x ∈ s, (Lit.int .u8 x).wf = true) : Bs s := fun x hx => by
  have := h x hx
  simp [Lit.wf, IntKind.min, IntKind.max, IntKind.bits, IntKind.signed] at this
  omega
structure Cu (s : List Int) (p sd B : Int) : Prop where
  bs : Bs s
  p0 : 0 ≤ p
  p1 : p ≤ B
  s0 : 0 ≤ sd
  s1 : sd ≤ 65520
theorem Cu.le {s : List Int} {p sd B B' : Int} (h : Cu s p sd B) (hB : B ≤ B') : Cu s p sd B' := ⟨h.bs, h.p0, by have := h.p1; omega, h.s0, h.s1⟩
theorem seed_ok {sd : Int} (h0 : 0 ≤ sd) (h1 : sd ≤ 65520) : Int.tmod (wrap64 ((wrap64 (sd * 1103)) + 12345)) 65521 = (sd * 1103 + 12345) % 65521 := by
  rw [w64 (x := sd * 1103) (by omega) (by omega), w64 (by omega) (by omega), tmod_pos (by omega)]
theorem rem_ok {x n : Int} (h0 : 0 ≤ x) (hn : 2 ≤ n) : 0 ≤ Int.tmod x n ∧ Int.tmod x n < n := by
  rw [tmod_pos h0]
  exact ⟨Int.emod_nonneg _ (by omega), Int.emod_lt_of_pos _ (by omega)⟩
theorem pick_ok {s : List Int} {p sd B n : Int} (h : Cu s p sd B) (hB : B ≤ 4611686018427387904) :
    ∃ r, spec_l01Cur_pick.f s p sd n = some r ∧ Cu s r.2.1 r.2.2 (B + 1) ∧ 0 ≤ r.1 ∧ (r.1 < n ∨ r.1 = 0) := by
  obtain ⟨hb, p0, p1, s0, s1⟩ := h
  unfold spec_l01Cur_pick.f
  rw [seed_ok s0 s1, w64 (x := p + 1) (by omega) (by omega)]
  have e0 : 0 ≤ (sd * 1103 + 12345) % 65521 ∧ (sd * 1103 + 12345) % 65521 ≤ 65520 := by omega
  generalize (sd * 1103 + 12345) % 65521 = q at e0
  by_cases hn : n < 2
  · rw [if_pos hn]
    exact ⟨_, rfl, ⟨hb, p0, by dsimp only; omega, s0, s1⟩, by dsimp only; omega, .inr rfl⟩
  rw [if_neg hn]
  by_cases hp : p < (s.length : Int)
  · rw [if_pos hp, if_pos p0, if_neg (by omega)]
    have hr := hb.rdb p
    have hm := rem_ok hr.1 (show (2 : Int) ≤ n by omega)
    rw [w64 (x := rd s p) (by omega) (by omega)]
    exact ⟨_, rfl, ⟨hb, by dsimp only; omega, by dsimp only; omega, s0, s1⟩, hm.1, .inl hm.2⟩
  rw [if_neg hp]
  by_cases hl : (s.length : Int) > 0
  · have hm : 0 ≤ Int.tmod p (s.length : Int) ∧ Int.tmod p (s.length : Int) < (s.length : Int) := by
      rw [tmod_pos p0]
      exact ⟨Int.emod_nonneg _ (by omega), Int.emod_lt_of_pos _ (by omega)⟩
    rw [if_pos hl, if_neg (by omega), if_pos hm.1, if_pos hm.2, if_neg (by omega)]
    have hr := hb.rdb (Int.tmod p (s.length : Int))
    have hv := rem_ok (x := wrap64 ((wrap64 (Int.tdiv q 7)) + (wrap64 (rd s (Int.tmod p (s.length : Int)))))) (n := n) (by
      rw [tdiv_pos e0.1, w64 (x := q / 7) (by omega) (by omega), w64 (x := rd s _) (by omega) (by omega), w64 (by omega) (by omega)]
      omega) (by omega)
    exact ⟨_, rfl, ⟨hb, by dsimp only; omega, by dsimp only; omega, e0.1, e0.2⟩, hv.1, .inl hv.2⟩
  · rw [if_neg hl, if_neg (by omega)]
    have hv := rem_ok (x := 0) (n := n) (by omega) (by omega)
    rw [tmod_pos (by omega)] at hv
    exact ⟨_, rfl, ⟨hb, by dsimp only; omega, by dsimp only; omega, e0.1, e0.2⟩, hv.1, .inl hv.2⟩
theorem pickE {s : List Int} {p sd B n : Int} (h : Cu s p sd B) (hB : B ≤ 4611686018427387904) :
    EvP (fun _ => spec_l01Cur_pick.f s p sd n) (fun r => Cu s r.2.1 r.2.2 (B + 1) ∧ 0 ≤ r.1 ∧ (r.1 < n ∨ r.1 = 0)) := EvP.of (pick_ok h hB)
theorem open_ok {s : List Int} (hb : Bs s) : EvP (fun _ => spec_l01Open.f s) (fun r => r.1 = s ∧ Cu s r.2.1 r.2.2 0) := by
  refine EvP.ret ⟨rfl, hb, ?_, ?_, ?_, ?_⟩ <;> dsimp only <;> omega
theorem big_ok (s : List Int) : EvP (fun _ => laws_big.f s) (fun b => b = false → (s.length : Int) ≤ 1048576) := by
  unfold laws_big.f
  refine EvP.ret (fun h => ?_)
  simp at h
  omega
theorem once_ok {s : List Int} {p sd B n : Int} (h : Cu s p sd B) (hB : B ≤ 4611686018427387904) :
    EvP (fun _ => spec_l01Cur_once.f s p sd n) (fun r => Cu s r.2.1 r.2.2 (B + 1)) := by
  unfold spec_l01Cur_once.f
  refine EvP.bind (pickE h hB) ?_
  rintro ⟨x, p', s'⟩ ⟨c, _, _⟩
  exact EvP.ret c
theorem w64r {x : Int} : -9223372036854775808 ≤ wrap64 x ∧ wrap64 x ≤ 9223372036854775807 := ⟨w64_lo x, w64_hi x⟩
theorem raw_ok {s : List Int} {p sd B : Int} (h : Cu s p sd B) (hB : B ≤ 1000000000000) :
    EvP (fun _ => spec_l01Cur_raw.f s p sd) (fun r => Cu s r.2.1 r.2.2 (B + 2) ∧ -9223372036854775808 ≤ r.1 ∧ r.1 ≤ 9223372036854775807) := by
  unfold spec_l01Cur_raw.f
  refine EvP.bind (pickE (n := 8) h (by omega)) ?_
  rintro ⟨a, p1, s1⟩ ⟨c1, a0, a1⟩
  dsimp only at *
  refine EvP.ite (fun _ => ?_) (fun _ => EvP.ite (fun _ => ?_) (fun _ => ?_))
  · refine EvP.bind (pickE (n := 256) c1 (by omega)) ?_
    rintro ⟨b, p2, s2⟩ ⟨c2, b0, b1⟩
    exact EvP.ret ⟨c2.le (by omega), w64r⟩
  · refine EvP.bind (EvP.ret (P := fun y => y.length = 8 ∧ ∀ i : Int, 0 ≤ i → i < 8 → -9223372036854775808 ≤ rd y i ∧ rd y i ≤ 9223372036854775807) ⟨rfl, fun i h0 h8 => ?_⟩) ?_
    · have : i = 0 ∨ i = 1 ∨ i = 2 ∨ i = 3 ∨ i = 4 ∨ i = 5 ∨ i = 6 ∨ i = 7 := by omega
      rcases this with e | e | e | e | e | e | e | e <;> rw [e] <;> decide
    · rintro y ⟨hy, hv⟩
      refine EvP.bind (pickE (n := 8) c1 (by omega)) ?_
      rintro ⟨b, p2, s2⟩ ⟨c2, b0, b1⟩
      dsimp only at *
      exact EvP.yes b0 (EvP.yes (by omega) (EvP.ret ⟨c2.le (by omega), hv b b0 (by omega)⟩))
  · refine EvP.bind (pickE (n := 14) c1 (by omega)) ?_
    rintro ⟨b, p2, s2⟩ ⟨c2, b0, b1⟩
    exact EvP.ret ⟨c2.le (by omega), w64r⟩
theorem wide_ok {s : List Int} {p sd B n : Int} (h : Cu s p sd B) (hB : B ≤ 1000000000000) (hn : 2 ≤ n) :
    EvP (fun _ => spec_l01Cur_wide.f s p sd n) (fun r => Cu s r.2.1 r.2.2 (B + 3) ∧ 0 ≤ r.1 ∧ r.1 < n) := by
  unfold spec_l01Cur_wide.f
  refine EvP.bind (pickE (n := 256) h (by omega)) ?_
  rintro ⟨a, p1, s1⟩ ⟨c1, a0, a1⟩
  dsimp only at *
  refine EvP.bind (pickE (n := 256) c1 (by omega)) ?_
  rintro ⟨b, p2, s2⟩ ⟨c2, b0, b1⟩
  dsimp only at *
  refine EvP.bind (pickE (n := 256) c2 (by omega)) ?_
  rintro ⟨d, p3, s3⟩ ⟨c3, d0, d1⟩
  dsimp only at *
  refine EvP.no (by omega) (EvP.ret ⟨c3.le (by omega), ?_⟩)
  dsimp only
  rw [w64 (x := 65536 * a) (by omega) (by omega), w64 (x := 256 * b) (by omega) (by omega), w64 (x := 65536 * a + 256 * b) (by omega) (by omega), w64 (by omega) (by omega)]
  exact rem_ok (by omega) hn
def TagP (a b c : Int) : Prop := (0 ≤ a ∧ a ≤ 1000000000000) ∧ (0 ≤ b ∧ b ≤ 1000000000000) ∧ 0 ≤ c ∧ c ≤ 1000000000000
def NarrowP (a b c d : Int) : Prop := TagP a b c ∧ (0 ≤ d ∧ d ≤ 10000000) ∧ mx (mx a b) c - d ≤ mn (mn a b) c
theorem mx_le (a b : Int) : a ≤ mx a b ∧ b ≤ mx a b ∧ (mx a b = a ∨ mx a b = b) := by unfold mx; split <;> omega
theorem mn_le (a b : Int) : mn a b ≤ a ∧ mn a b ≤ b ∧ (mn a b = a ∨ mn a b = b) := by unfold mn; split <;> omega
theorem top_in {a b c : Int} (h : TagP a b c) : 0 ≤ mx (mx a b) c ∧ mx (mx a b) c ≤ 1000000000000 := by
  obtain ⟨h1, h2, h3⟩ := h
  have e1 := mx_le a b
  have e2 := mx_le (mx a b) c
  omega
theorem specAll_ok (a b c x y : Int) : EvP (fun _ => spec_l13All.f a b c x y) (fun r => r = true ↔ (x ≤ a ∧ a ≤ y) ∧ (x ≤ b ∧ b ≤ y) ∧ x ≤ c ∧ c ≤ y) := by
  unfold spec_l13All.f
  refine EvP.ite (fun h1 => ?_) (fun h => EvP.ret ⟨(fun h => by cases h), fun z => by omega⟩)
  refine EvP.ite (fun h2 => ?_) (fun h => EvP.ret ⟨(fun h => by cases h), fun z => by omega⟩)
  refine EvP.ite (fun h3 => ?_) (fun h => EvP.ret ⟨(fun h => by cases h), fun z => by omega⟩)
  refine EvP.ite (fun h4 => ?_) (fun h => EvP.ret ⟨(fun h => by cases h), fun z => by omega⟩)
  refine EvP.ite (fun h5 => EvP.ret ?_) (fun h => EvP.ret ⟨(fun h => by cases h), fun z => by omega⟩)
  rw [decide_eq_true_iff]; omega
theorem specTag_ok (a b c : Int) : EvP (fun _ => spec_TagOk.f a b c) (fun r => r = true ↔ TagP a b c) := by
  unfold spec_TagOk.f
  exact EvP.bind (specAll_ok a b c _ _) (fun r h => EvP.ret h)
theorem specDelta_ok (a : Int) : EvP (fun _ => spec_l13Delta.f a) (fun r => r = true ↔ 0 ≤ a ∧ a ≤ 10000000) := by
  unfold spec_l13Delta.f
  refine EvP.ite (fun h => EvP.ret ?_) (fun h => EvP.ret ⟨(fun h => by cases h), fun z => by omega⟩)
  rw [decide_eq_true_iff]; omega
theorem specTop_ok (a b c : Int) : EvP (fun _ => spec_VecTop.f a b c) (fun r => r = mx (mx a b) c) := EvP.ret rfl
theorem specNarrow_ok (a b c d : Int) : EvP (fun _ => spec_Narrow.f a b c d) (fun r => r = true ↔ NarrowP a b c d) := by
  unfold spec_Narrow.f
  refine EvP.bind (specTag_ok a b c) (fun t ht => ?_)
  refine EvP.ite (fun h1 => ?_) (fun h => EvP.ret ⟨(fun h => by cases h), fun z => absurd (ht.2 z.1) h⟩)
  refine EvP.bind (specDelta_ok d) (fun u hu => ?_)
  refine EvP.ite (fun h2 => ?_) (fun h => EvP.ret ⟨(fun h => by cases h), fun z => absurd (hu.2 z.2.1) h⟩)
  refine EvP.bind (specTop_ok a b c) ?_
  rintro _ rfl
  have hT := ht.1 h1
  have hD := hu.1 h2
  have hm := top_in hT
  refine EvP.ret ?_
  rw [decide_eq_true_iff, w64 (by omega) (by omega)]
  exact ⟨fun h => ⟨hT, hD, by omega⟩, fun z => by have := z.2.2; omega⟩
theorem within_ev (a b c : Int) : EvP (fun _ => impl_within.f a b c) (fun r => r = true ↔ b ≤ a ∧ a ≤ c) := by
  unfold impl_within.f
  refine EvP.ite (fun h => EvP.ret ?_) (fun h => EvP.ret ⟨(fun h => by cases h), fun z => by omega⟩)
  rw [decide_eq_true_iff]; omega
theorem isFrom_ok (a b c x y : Int) : EvP (fun _ => impl_Vec_isFrom.f a b c x y) (fun r => r = true ↔ (x ≤ a ∧ a ≤ y) ∧ (x ≤ b ∧ b ≤ y) ∧ x ≤ c ∧ c ≤ y) := by
  unfold impl_Vec_isFrom.f
  refine EvP.bind (within_ev a x y) (fun t ht => ?_)
  refine EvP.ite (fun h1 => ?_) (fun h => EvP.ret ⟨(fun h => by cases h), fun z => absurd (ht.2 z.1) h⟩)
  refine EvP.bind (within_ev b x y) (fun u hu => ?_)
  refine EvP.ite (fun h2 => ?_) (fun h => EvP.ret ⟨(fun h => by cases h), fun z => absurd (hu.2 z.2.1) h⟩)
  refine EvP.bind (within_ev c x y) (fun v hv => EvP.ret ?_)
  have h3 := ht.1 h1
  have h4 := hu.1 h2
  rw [hv]; exact ⟨fun h => ⟨h3, h4, h⟩, fun z => z.2.2⟩
theorem implTag_ok (a b c : Int) : EvP (fun _ => impl_TagOk.f a b c) (fun r => r = true ↔ TagP a b c) := by
  unfold impl_TagOk.f
  exact EvP.bind (isFrom_ok a b c _ _) (fun r h => EvP.ret h)
theorem implDelta_ok (a : Int) : EvP (fun _ => impl_isDelta.f a) (fun r => r = true ↔ 0 ≤ a ∧ a ≤ 10000000) := by
  unfold impl_isDelta.f
  exact EvP.bind (within_ev a _ _) (fun r h => EvP.ret h)
def strideOf (w : Int) : Int := if 1 ≤ w ∧ w ≤ 10 then 2520 / w else 0
theorem stride_in {w : Int} (h0 : 1 ≤ w) (h1 : w ≤ 10) : 252 ≤ 2520 / w ∧ 2520 / w ≤ 2520 := by
  constructor
  · exact (Int.le_ediv_iff_mul_le (by omega)).2 (by omega)
  · exact Int.ediv_le_self _ (by decide)
theorem strideOf_in (w : Int) : 0 ≤ strideOf w ∧ strideOf w ≤ 2520 := by
  unfold strideOf
  split
  · rename_i h; have := stride_in h.1 h.2; omega
  · omega
theorem strideOf_zero (w : Int) : strideOf w = 0 ↔ ¬ (1 ≤ w ∧ w ≤ 10) := by
  unfold strideOf
  split
  · rename_i h; have := stride_in h.1 h.2; exact ⟨fun e => by omega, fun n => absurd h n⟩
  · rename_i h; exact ⟨fun _ => h, fun _ => rfl⟩
theorem specStride_ok (w : Int) : EvP (fun _ => spec_Stride.f w) (fun r => r = strideOf w) := by
  unfold spec_Stride.f
  refine EvP.ite (fun h => EvP.ret ?_) (fun h => ?_)
  · exact ((strideOf_zero w).2 (by omega)).symm
  refine EvP.ite (fun h => EvP.ret ?_) (fun h' => ?_)
  · exact ((strideOf_zero w).2 (by omega)).symm
  refine EvP.no (by omega) (EvP.ret ?_)
  have := stride_in (w := w) (by omega) (by omega)
  unfold strideOf
  rw [w64 (by omega) (by omega), if_pos (by omega)]
theorem isWeight_ok (a : Int) : EvP (fun _ => impl_isWeight.f a) (fun r => r = true ↔ 1 ≤ a ∧ a ≤ 10) := by
  unfold impl_isWeight.f
  exact EvP.bind (within_ev a _ _) (fun r h => EvP.ret h)
theorem implStride_ok (w : Int) : EvP (fun _ => impl_Stride.f w) (fun r => r = strideOf w) := by
  unfold impl_Stride.f
  refine EvP.bind (isWeight_ok w) (fun t ht => ?_)
  refine EvP.ite (fun h => ?_) (fun h => EvP.ret ?_)
  · have hw := ht.1 h
    refine EvP.no (by omega) (EvP.ret ?_)
    have := stride_in (w := w) (by omega) (by omega)
    unfold strideOf
    rw [w64 (by omega) (by omega), if_pos (by omega)]
  · exact ((strideOf_zero w).2 (fun z => h (ht.2 z))).symm
theorem rd4 (a b c d : Int) {i : Int} (h0 : 0 ≤ i) (h1 : i < 4) : rd [a, b, c, d] i = a ∨ rd [a, b, c, d] i = b ∨ rd [a, b, c, d] i = c ∨ rd [a, b, c, d] i = d := by
  have : i = 0 ∨ i = 1 ∨ i = 2 ∨ i = 3 := by omega
  rcases this with rfl | rfl | rfl | rfl
  · exact Or.inl rfl
  · exact Or.inr (Or.inl rfl)
  · exact Or.inr (Or.inr (Or.inl rfl))
  · exact Or.inr (Or.inr (Or.inr rfl))
theorem drawCost {s : List Int} {p sd B a : Int} (h : Cu s p sd B) (hB : B ≤ 100000000000) (h0 : 2 ≤ a) (h1 : a ≤ 10000000) :
    EvP (fun _ => spec_l01Cur_cost.f s p sd a) (fun r => Cu s r.2.2.2.1 r.2.2.2.2 (B + 10)) := by
  unfold spec_l01Cur_cost.f
  refine EvP.bind (P := fun r => r = [9, 100, a, a]) (EvP.ret rfl) ?_
  rintro _ rfl
  refine EvP.bind (pickE (n := 4) h (by omega)) ?_
  rintro ⟨i, p1, s1⟩ ⟨c1, i0, i1⟩
  dsimp only at *
  have hi := rd4 9 100 a a i0 (by omega)
  refine EvP.yes i0 (EvP.yes (by simp only [List.length_cons, List.length_nil]; omega) ?_)
  generalize rd [9, 100, a, a] i = n at hi
  refine EvP.bind (wide_ok c1 (by omega) (by omega)) ?_
  rintro ⟨x, p2, s2⟩ ⟨c2, _, _⟩
  refine EvP.bind (wide_ok c2 (by omega) (by omega)) ?_
  rintro ⟨y, p3, s3⟩ ⟨c3, _, _⟩
  refine EvP.bind (wide_ok c3 (by omega) (by omega)) ?_
  rintro ⟨z, p4, s4⟩ ⟨c4, _, _⟩
  exact EvP.ret (c4.le (by omega))
def In (x y a b c : Int) : Prop := (x ≤ a ∧ a ≤ y) ∧ (x ≤ b ∧ b ≤ y) ∧ x ≤ c ∧ c ≤ y
theorem vec_ok (a b c j : Int) : EvP (fun _ => laws_vec.f a b c j) (fun r => r = if j = 0 then a else if j = 1 then b else c) := by
  unfold laws_vec.f
  refine EvP.ite (fun h => EvP.ret (by rw [if_pos h])) (fun h => ?_)
  rw [if_neg h]
  exact EvP.ite (fun h => EvP.ret (by rw [if_pos h])) (fun h => EvP.ret (by rw [if_neg h]))
theorem drawVec {s : List Int} {p sd B : Int} (h : Cu s p sd B) (hB : B ≤ 100000000000) :
    EvP (fun _ => spec_l01Cur_vec.f s p sd) (fun r => Cu s r.2.2.2.1 r.2.2.2.2 (B + 10)) := by
  unfold spec_l01Cur_vec.f
  refine EvP.bind (once_ok h (by omega)) ?_
  rintro ⟨o, p1, s1⟩ c1
  dsimp only at *
  refine EvP.ite (fun _ => ?_) (fun _ => ?_)
  · refine EvP.bind (raw_ok c1 (by omega)) ?_
    rintro ⟨x, p2, s2⟩ ⟨c2, _, _⟩
    refine EvP.bind (raw_ok c2 (by omega)) ?_
    rintro ⟨y, p3, s3⟩ ⟨c3, _, _⟩
    refine EvP.bind (raw_ok c3 (by omega)) ?_
    rintro ⟨z, p4, s4⟩ ⟨c4, _, _⟩
    exact EvP.ret (c4.le (by omega))
  · refine EvP.bind (P := fun r => r.length = 5) (EvP.ret rfl) (fun xs hx => ?_)
    refine EvP.bind (pickE (n := 5) c1 (by omega)) ?_
    rintro ⟨i, p2, s2⟩ ⟨c2, i0, i1⟩
    dsimp only at *
    refine EvP.yes i0 (EvP.yes (by omega) ?_)
    refine EvP.bind (pickE (n := 256) c2 (by omega)) ?_
    rintro ⟨x, p3, s3⟩ ⟨c3, _, _⟩
    refine EvP.bind (pickE (n := 256) c3 (by omega)) ?_
    rintro ⟨y, p4, s4⟩ ⟨c4, _, _⟩
    refine EvP.bind (pickE (n := 256) c4 (by omega)) ?_
    rintro ⟨z, p5, s5⟩ ⟨c5, _, _⟩
    exact EvP.ret (c5.le (by omega))
theorem drawDelta {s : List Int} {p sd B : Int} (h : Cu s p sd B) (hB : B ≤ 100000000000) :
    EvP (fun _ => spec_l01Cur_delta.f s p sd) (fun r => Cu s r.2.1 r.2.2 (B + 10)) := by
  unfold spec_l01Cur_delta.f
  refine EvP.bind (wide_ok h (by omega) (by omega)) ?_
  rintro ⟨x, p1, s1⟩ ⟨c1, _, _⟩
  dsimp only at *
  refine EvP.bind (P := fun r => r.length = 6) (EvP.ret rfl) (fun xs hx => ?_)
  refine EvP.bind (pickE (n := 6) c1 (by omega)) ?_
  rintro ⟨i, p2, s2⟩ ⟨c2, i0, i1⟩
  dsimp only at *
  exact EvP.yes i0 (EvP.yes (by omega) (EvP.ret (c2.le (by omega))))
theorem dove_facts {a b c d T : Int} (h : TagP a b c) (hd : 0 ≤ d ∧ d ≤ 10000000) (hT : T = mx (mx a b) c) :
    NarrowP (mx a (T - d)) (mx b (T - d)) (mx c (T - d)) d ∧ mx (mx (mx a (T - d)) (mx b (T - d))) (mx c (T - d)) = T := by
  have ht := top_in h
  obtain ⟨h1, h2, h3⟩ := h
  rw [← hT] at ht
  have e1 := mx_le a b
  have e2 := mx_le (mx a b) c
  rw [← hT] at e2
  have f1 := mx_le a (T - d)
  have f2 := mx_le b (T - d)
  have f3 := mx_le c (T - d)
  have g1 := mx_le (mx a (T - d)) (mx b (T - d))
  have g2 := mx_le (mx (mx a (T - d)) (mx b (T - d))) (mx c (T - d))
  have k1 := mn_le (mx a (T - d)) (mx b (T - d))
  have k2 := mn_le (mn (mx a (T - d)) (mx b (T - d))) (mx c (T - d))
  have top : mx (mx (mx a (T - d)) (mx b (T - d))) (mx c (T - d)) = T := by omega
  exact ⟨⟨⟨⟨by omega, by omega⟩, ⟨by omega, by omega⟩, by omega, by omega⟩, hd, by omega⟩, top⟩
theorem implDove_ok (a b c d : Int) : EvP (fun _ => impl_Dovetail.f a b c d) (fun r =>
    (TagP a b c ∧ (0 ≤ d ∧ d ≤ 10000000) → r = (mx a (mx (mx a b) c - d), mx b (mx (mx a b) c - d), mx c (mx (mx a b) c - d))) ∧
    (¬ (TagP a b c ∧ (0 ≤ d ∧ d ≤ 10000000)) → r = (0, 0, 0))) := by
  unfold impl_Dovetail.f
  refine EvP.bind (implTag_ok a b c) (fun t ht => ?_)
  refine EvP.ite (fun h1 => ?_) (fun h1 => EvP.ret ⟨fun z => absurd (ht.2 z.1) h1, fun _ => rfl⟩)
  refine EvP.bind (implDelta_ok d) (fun u hu => ?_)
  refine EvP.ite (fun h2 => ?_) (fun h2 => EvP.ret ⟨fun z => absurd (hu.2 z.2) h2, fun _ => rfl⟩)
  have hT := ht.1 h1
  have hd := hu.1 h2
  have hm := top_in hT
  refine EvP.bind (P := fun r => r = (mx a (mx (mx a b) c - d), mx b (mx (mx a b) c - d), mx c (mx (mx a b) c - d))) (EvP.of ⟨_, rfl, ?_⟩) ?_
  · rw [w64 (x := mx (mx a b) c - d) (by omega) (by omega)]
  rintro _ rfl
  exact EvP.ret ⟨fun _ => rfl, fun z => absurd ⟨hT, hd⟩ z⟩
theorem specDove_step {a b c d x : Int} {xs : List Int} {P : Int × Int × Int → Prop} (hd : wrap64 (mx (mx a b) c - d) = mx (mx a b) c - d) (hx : 0 ≤ x) (hx3 : x < 3) (hl : xs.length = 3)
    (h : EvP (fun k => spec_Dovetail.l0 k d (xs.set x.toNat (mx (rd xs x) (mx (mx a b) c - d))) (x + 1) a b c) P) : EvP (fun k => spec_Dovetail.l0 k d xs x a b c) P := by
  refine EvP.step ?_
  simp only [spec_Dovetail.l0]
  refine EvP.yes hx3 (EvP.yes hx (EvP.yes (by omega) ?_))
  refine EvP.bind (specTop_ok a b c) ?_
  rintro _ rfl
  rw [hd, w64 (x := x + 1) (by omega) (by omega)]
  exact h
theorem specDove_ok (a b c d : Int) : EvP (fun k => spec_Dovetail.f k a b c d) (fun r =>
    (TagP a b c ∧ (0 ≤ d ∧ d ≤ 10000000) → r = (mx a (mx (mx a b) c - d), mx b (mx (mx a b) c - d), mx c (mx (mx a b) c - d))) ∧
    (¬ (TagP a b c ∧ (0 ≤ d ∧ d ≤ 10000000)) → r = (0, 0, 0))) := by
  have bad : ¬ (TagP a b c ∧ (0 ≤ d ∧ d ≤ 10000000)) → EvP (fun k => spec_Dovetail.j0 k d true a b c) (fun r =>
    (TagP a b c ∧ (0 ≤ d ∧ d ≤ 10000000) → r = (mx a (mx (mx a b) c - d), mx b (mx (mx a b) c - d), mx c (mx (mx a b) c - d))) ∧
    (¬ (TagP a b c ∧ (0 ≤ d ∧ d ≤ 10000000)) → r = (0, 0, 0))) := by
    intro h
    refine EvP.step ?_
    simp only [spec_Dovetail.j0]
    exact EvP.yes (by simp) (EvP.ret ⟨fun z => absurd z h, fun _ => rfl⟩)
  unfold spec_Dovetail.f
  refine EvP.bind (specTag_ok a b c) (fun t ht => ?_)
  refine EvP.ite (fun h1 => ?_) (fun h1 => bad (fun z => h1 (ht.2 z.1)))
  refine EvP.bind (specDelta_ok d) (fun u hu => ?_)
  cases u with
  | false => exact bad (fun z => by have := hu.2 z.2; cases this)
  | true =>
    have hT := ht.1 h1
    have hd := hu.1 rfl
    have hm := top_in hT
    have hw : wrap64 (mx (mx a b) c - d) = mx (mx a b) c - d := w64 (by omega) (by omega)
    refine EvP.step ?_
    simp only [spec_Dovetail.j0]
    refine EvP.no (by simp) ?_
    refine EvP.bind (P := fun r => r = [a, b, c]) (EvP.ret rfl) ?_
    rintro _ rfl
    refine specDove_step hw (by omega) (by omega) rfl ?_
    refine specDove_step hw (by omega) (by omega) rfl ?_
    refine specDove_step hw (by omega) (by omega) rfl ?_
    refine EvP.step ?_
    simp only [spec_Dovetail.l0]
    refine EvP.no (by omega) ?_
    refine EvP.bind (P := fun r => r = (mx a (mx (mx a b) c - d), mx b (mx (mx a b) c - d), mx c (mx (mx a b) c - d))) ?_ ?_
    · unfold spec_l13Of.f
      simp only [List.length_set, List.length_cons, List.length_nil]
      exact EvP.yes (by omega) (EvP.yes (by omega) (EvP.yes (by omega) (EvP.ret rfl)))
    rintro _ rfl
    exact EvP.ret ⟨fun _ => rfl, fun z => absurd ⟨hT, hd⟩ z⟩

theorem drawFinish {s : List Int} (hb : Bs s) : EvP (fun k => spec_DrawFinish.f k s) (fun _ => True) := by
  have hj : ∀ (p sd B a b c : Int), Cu s p sd B → B ≤ 1000 → EvP (fun k => spec_DrawFinish.j0 k s p sd a b c) (fun _ => True) := by
    intro p sd B a b c h hB
    refine EvP.step ?_
    simp only [spec_DrawFinish.j0]
    refine EvP.bind (pickE (n := 10) h (by omega)) ?_
    rintro ⟨x, p1, s1⟩ ⟨c1, x0, x1⟩
    refine EvP.bind (once_ok c1 (by omega)) ?_
    rintro ⟨o, p2, s2⟩ c2
    dsimp only at *
    refine EvP.ite (fun _ => ?_) (fun _ => ?_)
    · refine EvP.bind (raw_ok c2 (by omega)) ?_
      rintro ⟨y, p3, s3⟩ ⟨c3, _, _⟩
      refine EvP.bind (pickE (n := 2) c3 (by omega)) ?_
      rintro ⟨z, p4, s4⟩ ⟨c4, z0, z1⟩
      dsimp only at *
      simp only [w64 (x := 2000 + z) (by omega) (by omega)]
      exact EvP.bind (drawCost c4 (by omega) (by omega) (by omega)) (fun _ _ => EvP.ret trivial)
    · refine EvP.bind (pickE (n := 2) c2 (by omega)) ?_
      rintro ⟨z, p4, s4⟩ ⟨c4, z0, z1⟩
      dsimp only at *
      simp only [w64 (x := 2000 + z) (by omega) (by omega)]
      exact EvP.bind (drawCost c4 (by omega) (by omega) (by omega)) (fun _ _ => EvP.ret trivial)
  unfold spec_DrawFinish.f
  refine EvP.bind (open_ok hb) ?_
  rintro ⟨s', p, sd⟩ ⟨rfl, c⟩
  refine EvP.bind (drawVec c (by omega)) ?_
  rintro ⟨x, y, z, p1, s1⟩ c1
  refine EvP.bind (once_ok c1 (by omega)) ?_
  rintro ⟨o, p2, s2⟩ c2
  dsimp only at *
  refine EvP.ite (fun _ => ?_) (fun _ => hj _ _ _ _ _ _ c2 (by omega))
  refine EvP.bind (wide_ok c2 (by omega) (by omega)) ?_
  rintro ⟨u, p3, s3⟩ ⟨c3, _, _⟩
  exact hj _ _ _ _ _ _ c3 (by omega)
theorem drawNarrow {s : List Int} (hb : Bs s) : EvP (fun k => spec_DrawNarrow.f k s) (fun _ => True) := by
  unfold spec_DrawNarrow.f
  refine EvP.bind (open_ok hb) ?_
  rintro ⟨s', p, sd⟩ ⟨rfl, c⟩
  refine EvP.bind (drawDelta c (by omega)) ?_
  rintro ⟨d, p1, s1⟩ c1
  refine EvP.bind (drawVec c1 (by omega)) ?_
  rintro ⟨x, y, z, p2, s2⟩ c2
  refine EvP.bind (once_ok c2 (by omega)) ?_
  rintro ⟨o, p3, s3⟩ c3
  dsimp only at *
  refine EvP.ite (fun _ => ?_) (fun _ => ?_)
  · refine EvP.bind (specDove_ok x y z d) (fun _ _ => ?_)
    exact EvP.bind (pickE (n := 3) c3 (by omega)) (fun _ _ => EvP.ret trivial)
  · exact EvP.bind (pickE (n := 3) c3 (by omega)) (fun _ _ => EvP.ret trivial)
def FinP (a b c x y z w : Int) : Prop := TagP a b c ∧ In 1 2000 x y z ∧ 1 ≤ w ∧ w ≤ 10
def FinR (a b c x y z w : Int) (r : Int × Int × Int × Bool) : Prop :=
  (FinP a b c x y z w ∧ TagP (a + x * strideOf w) (b + y * strideOf w) (c + z * strideOf w) → r = (a + x * strideOf w, b + y * strideOf w, c + z * strideOf w, true)) ∧
  (¬ (FinP a b c x y z w ∧ TagP (a + x * strideOf w) (b + y * strideOf w) (c + z * strideOf w)) → r = (0, 0, 0, false))
theorem fin_w {a x w : Int} (h : 0 ≤ a ∧ a ≤ 1000000000000) (hx : 1 ≤ x ∧ x ≤ 2000) : wrap64 (a + wrap64 (x * strideOf w)) = a + x * strideOf w := by
  have hs := strideOf_in w
  have h1 : 0 ≤ x * strideOf w := Int.mul_nonneg (by omega) hs.1
  have h2 : x * strideOf w ≤ 2000 * 2520 := Int.mul_le_mul hx.2 hs.2 hs.1 (by omega)
  rw [w64 (x := x * strideOf w) (by omega) (by omega), w64 (by omega) (by omega)]
theorem specCharge_ok (a b c : Int) : EvP (fun _ => spec_ChargeOk.f a b c) (fun r => r = true ↔ In 1 2000 a b c) := by
  unfold spec_ChargeOk.f
  exact EvP.bind (specAll_ok a b c _ _) (fun r h => EvP.ret h)
theorem implCharge_ok (a b c : Int) : EvP (fun _ => impl_ChargeOk.f a b c) (fun r => r = true ↔ In 1 2000 a b c) := by
  unfold impl_ChargeOk.f
  exact EvP.bind (isFrom_ok a b c _ _) (fun r h => EvP.ret h)
theorem specFin_step {w x v : Int} {xs ys : List Int} {P : Int × Int × Int × Bool → Prop} (hx : 0 ≤ x) (hx3 : x < 3) (hl : xs.length = 3) (hy : ys.length = 3)
    (hv : wrap64 (rd xs x + wrap64 (rd ys x * strideOf w)) = v)
    (h : EvP (fun k => spec_Finish.l0 k w (xs.set x.toNat v) ys (x + 1)) P) : EvP (fun k => spec_Finish.l0 k w xs ys x) P := by
  refine EvP.step ?_
  simp only [spec_Finish.l0]
  refine EvP.yes hx3 (EvP.yes hx (EvP.yes (by omega) (EvP.yes (by omega) ?_)))
  refine EvP.bind (specStride_ok w) ?_
  rintro _ rfl
  rw [hv, w64 (x := x + 1) (by omega) (by omega)]
  exact h
theorem specFin_ok (a b c x y z w : Int) : EvP (fun k => spec_Finish.f k a b c x y z w) (FinR a b c x y z w) := by
  have bad : ¬ FinP a b c x y z w → EvP (fun k => spec_Finish.j0 k w true a b c x y z) (FinR a b c x y z w) := by
    intro h
    refine EvP.step ?_
    simp only [spec_Finish.j0]
    exact EvP.yes (by simp) (EvP.ret ⟨fun g => absurd g.1 h, fun _ => rfl⟩)
  unfold spec_Finish.f
  refine EvP.bind (specTag_ok a b c) (fun t ht => ?_)
  refine EvP.ite (fun h1 => ?_) (fun h1 => bad (fun g => h1 (ht.2 g.1)))
  refine EvP.bind (specCharge_ok x y z) (fun u hu => ?_)
  refine EvP.ite (fun h2 => ?_) (fun h2 => bad (fun g => h2 (hu.2 g.2.1)))
  refine EvP.bind (specStride_ok w) ?_
  rintro _ rfl
  by_cases hw : strideOf w = 0
  · rw [show (strideOf w == 0) = true from beq_iff_eq.2 hw]
    exact bad (fun g => (strideOf_zero w).1 hw g.2.2)
  rw [show (strideOf w == 0) = false from beq_eq_false_iff_ne.2 hw]
  have hw' : 1 ≤ w ∧ w ≤ 10 := by
    by_cases q : 1 ≤ w ∧ w ≤ 10
    · exact q
    · exact absurd ((strideOf_zero w).2 q) hw
  have hT := ht.1 h1
  have hC := hu.1 h2
  refine EvP.step ?_
  simp only [spec_Finish.j0]
  refine EvP.no (by simp) ?_
  refine EvP.bind (P := fun r => r = [a, b, c]) (EvP.ret rfl) ?_
  rintro _ rfl
  refine EvP.bind (P := fun r => r = [x, y, z]) (EvP.ret rfl) ?_
  rintro _ rfl
  obtain ⟨k1, k2, k3⟩ := id hT
  obtain ⟨q1, q2, q3⟩ := id hC
  refine specFin_step (v := a + x * strideOf w) (by omega) (by omega) rfl rfl (fin_w k1 q1) ?_
  refine specFin_step (v := b + y * strideOf w) (by omega) (by omega) rfl rfl (fin_w k2 q2) ?_
  refine specFin_step (v := c + z * strideOf w) (by omega) (by omega) rfl rfl (fin_w k3 q3) ?_
  refine EvP.step ?_
  simp only [spec_Finish.l0]
  refine EvP.no (by omega) ?_
  have hof : EvP (fun _ => spec_l13Of.f (((([a, b, c] : List Int).set (0 : Int).toNat (a + x * strideOf w)).set ((0 : Int) + 1).toNat (b + y * strideOf w)).set ((0 : Int) + 1 + 1).toNat (c + z * strideOf w))) (fun r => r = (a + x * strideOf w, b + y * strideOf w, c + z * strideOf w)) := by
    unfold spec_l13Of.f
    simp only [List.length_set, List.length_cons, List.length_nil]
    exact EvP.yes (by omega) (EvP.yes (by omega) (EvP.yes (by omega) (EvP.ret rfl)))
  refine EvP.bind hof ?_
  rintro _ rfl
  dsimp only
  refine EvP.bind (specTag_ok _ _ _) (fun t ht' => ?_)
  refine EvP.ite (fun h3 => ?_) (fun h3 => EvP.ret ⟨fun g => absurd (ht'.2 g.2) h3, fun _ => rfl⟩)
  refine EvP.bind hof ?_
  rintro _ rfl
  exact EvP.ret ⟨fun _ => rfl, fun g => absurd ⟨⟨hT, hC, hw'⟩, ht'.1 h3⟩ g⟩
theorem implFin_ok (a b c x y z w : Int) : EvP (fun k => impl_Finish.f k a b c x y z w) (FinR a b c x y z w) := by
  have bad : ¬ FinP a b c x y z w → EvP (fun k => impl_Finish.j0 k w true a b c x y z) (FinR a b c x y z w) := by
    intro h
    refine EvP.step ?_
    simp only [impl_Finish.j0]
    exact EvP.yes (by simp) (EvP.ret ⟨fun g => absurd g.1 h, fun _ => rfl⟩)
  unfold impl_Finish.f
  refine EvP.bind (implTag_ok a b c) (fun t ht => ?_)
  refine EvP.ite (fun h1 => ?_) (fun h1 => bad (fun g => h1 (ht.2 g.1)))
  refine EvP.bind (implCharge_ok x y z) (fun u hu => ?_)
  refine EvP.ite (fun h2 => ?_) (fun h2 => bad (fun g => h2 (hu.2 g.2.1)))
  refine EvP.bind (isWeight_ok w) (fun v hv => ?_)
  cases v with
  | false => exact bad (fun g => by have := hv.2 g.2.2; cases this)
  | true =>
    have hT := ht.1 h1
    have hC := hu.1 h2
    have hw' := hv.1 rfl
    obtain ⟨k1, k2, k3⟩ := id hT
    obtain ⟨q1, q2, q3⟩ := id hC
    refine EvP.step ?_
    simp only [impl_Finish.j0]
    refine EvP.no (by simp) ?_
    have one : ∀ {p q : Int}, 0 ≤ p ∧ p ≤ 1000000000000 → 1 ≤ q ∧ q ≤ 2000 → EvP (fun _ => impl_Finish_1.f p q w) (fun r => r = p + q * strideOf w) := by
      intro p q hp hq
      unfold impl_Finish_1.f
      refine EvP.bind (implStride_ok w) ?_
      rintro _ rfl
      exact EvP.ret (fin_w hp hq)
    refine EvP.bind (P := fun r => r = (a + x * strideOf w, b + y * strideOf w, c + z * strideOf w)) ?_ ?_
    · unfold impl_both_129.f
      refine EvP.bind (one k1 q1) ?_
      rintro _ rfl
      refine EvP.bind (one k2 q2) ?_
      rintro _ rfl
      refine EvP.bind (one k3 q3) ?_
      rintro _ rfl
      exact EvP.ret rfl
    rintro _ rfl
    dsimp only
    refine EvP.bind (implTag_ok _ _ _) (fun t ht' => ?_)
    exact EvP.ite (fun h3 => EvP.ret ⟨fun _ => rfl, fun g => absurd ⟨⟨hT, hC, hw'⟩, ht'.1 h3⟩ g⟩) (fun h3 => EvP.ret ⟨fun g => absurd (ht'.2 g.2) h3, fun _ => rfl⟩)
theorem moveLoop {w s0 s1 s2 c0 c1 c2 n0 n1 n2 : Int}
    (hc : ∀ s c n : Int, (s = s0 ∧ c = c0 ∧ n = n0) ∨ (s = s1 ∧ c = c1 ∧ n = n1) ∨ (s = s2 ∧ c = c2 ∧ n = n2) → c = mx (mx c0 c1) c2 → n = wrap64 (s + wrap64 (c * strideOf w)) ∧ mx (mx n0 n1) n2 ≤ wrap64 (mx (mx s0 s1) s2 + wrap64 (c * strideOf w)))
    (hlast : mx (mx s0 s1) s2 < mx (mx n0 n1) n2) : ∀ (d : Nat) (x : Int), 0 ≤ x → x + d = 3 →
    EvP (fun k => laws_FnMainMoves.l0 k w x s0 s1 s2 c0 c1 c2 n0 n1 n2) (fun r => r = true) := by
  intro d
  induction d with
  | zero =>
    intro x _ hx
    refine EvP.step ?_
    simp only [laws_FnMainMoves.l0]
    refine EvP.no (by omega) ?_
    refine EvP.bind (specTop_ok _ _ _) ?_
    rintro _ rfl
    refine EvP.bind (specTop_ok _ _ _) ?_
    rintro _ rfl
    exact EvP.ret (decide_eq_true hlast)
  | succ d ih =>
    intro x hx hd
    have hk := hc (if x = 0 then s0 else if x = 1 then s1 else s2) (if x = 0 then c0 else if x = 1 then c1 else c2) (if x = 0 then n0 else if x = 1 then n1 else n2) (by
      by_cases q : x = 0
      · exact Or.inl ⟨if_pos q, if_pos q, if_pos q⟩
      · by_cases q' : x = 1
        · exact Or.inr (Or.inl ⟨by rw [if_neg q, if_pos q'], by rw [if_neg q, if_pos q'], by rw [if_neg q, if_pos q']⟩)
        · exact Or.inr (Or.inr ⟨by rw [if_neg q, if_neg q'], by rw [if_neg q, if_neg q'], by rw [if_neg q, if_neg q']⟩))
    refine EvP.step ?_
    simp only [laws_FnMainMoves.l0]
    refine EvP.yes (by omega) ?_
    refine EvP.bind (vec_ok c0 c1 c2 x) ?_
    rintro _ rfl
    refine EvP.bind (specStride_ok w) ?_
    rintro _ rfl
    refine EvP.bind (vec_ok c0 c1 c2 x) ?_
    rintro _ rfl
    refine EvP.bind (specTop_ok _ _ _) ?_
    rintro _ rfl
    simp only [w64 (x := x + 1) (by omega) (by omega)]
    refine EvP.ite (fun he => ?_) (fun _ => ih (x + 1) (by omega) (by omega))
    obtain ⟨g1, g2⟩ := hk he
    refine EvP.bind (vec_ok n0 n1 n2 x) ?_
    rintro _ rfl
    refine EvP.bind (vec_ok s0 s1 s2 x) ?_
    rintro _ rfl
    refine EvP.yes g1 ?_
    refine EvP.bind (specTop_ok _ _ _) ?_
    rintro _ rfl
    refine EvP.bind (specTop_ok _ _ _) ?_
    rintro _ rfl
    exact EvP.no (by omega) (ih (x + 1) (by omega) (by omega))
theorem moves_facts {s0 s1 s2 c0 c1 c2 d S : Int} (hn : NarrowP s0 s1 s2 d) (hC : In 1 2000 c0 c1 c2) (hS : 1 ≤ S ∧ S ≤ 2520) (hT : TagP (s0 + c0 * S) (s1 + c1 * S) (s2 + c2 * S)) :
    mx (mx s0 s1) s2 < mx (mx (s0 + c0 * S) (s1 + c1 * S)) (s2 + c2 * S) ∧
    ∀ s c n : Int, (s = s0 ∧ c = c0 ∧ n = mx (s0 + c0 * S) (mx (mx (s0 + c0 * S) (s1 + c1 * S)) (s2 + c2 * S) - d)) ∨ (s = s1 ∧ c = c1 ∧ n = mx (s1 + c1 * S) (mx (mx (s0 + c0 * S) (s1 + c1 * S)) (s2 + c2 * S) - d)) ∨ (s = s2 ∧ c = c2 ∧ n = mx (s2 + c2 * S) (mx (mx (s0 + c0 * S) (s1 + c1 * S)) (s2 + c2 * S) - d)) →
      c = mx (mx c0 c1) c2 → n = wrap64 (s + wrap64 (c * S)) ∧ mx (mx (s0 + c0 * S) (s1 + c1 * S)) (s2 + c2 * S) ≤ wrap64 (mx (mx s0 s1) s2 + wrap64 (c * S)) := by
  obtain ⟨hTs, hd, hq⟩ := hn
  have ht := top_in hTs
  obtain ⟨k1, k2, k3⟩ := hTs
  obtain ⟨q1, q2, q3⟩ := hC
  have b : ∀ c : Int, 1 ≤ c ∧ c ≤ 2000 → 1 ≤ c * S ∧ c * S ≤ 2000 * 2520 := by
    intro c hc
    have e1 : 1 * 1 ≤ c * S := Int.mul_le_mul hc.1 hS.1 (by omega) (by omega)
    have e2 : c * S ≤ 2000 * 2520 := Int.mul_le_mul hc.2 hS.2 (by omega) (by omega)
    omega
  have b0 := b c0 q1
  have b1 := b c1 q2
  have b2 := b c2 q3
  have mono : ∀ c c' : Int, c ≤ c' → c * S ≤ c' * S := fun c c' h => Int.mul_le_mul_of_nonneg_right h (by omega)
  have e1 := mx_le s0 s1
  have e2 := mx_le (mx s0 s1) s2
  have n1 := mn_le s0 s1
  have n2 := mn_le (mn s0 s1) s2
  have f1 := mx_le (s0 + c0 * S) (s1 + c1 * S)
  have f2 := mx_le (mx (s0 + c0 * S) (s1 + c1 * S)) (s2 + c2 * S)
  have g1 := mx_le c0 c1
  have g2 := mx_le (mx c0 c1) c2
  refine ⟨by omega, ?_⟩
  intro s c n h hc
  have m0 := mono c0 c (by omega)
  have m1 := mono c1 c (by omega)
  have m2 := mono c2 c (by omega)
  have hcc : 1 ≤ c ∧ c ≤ 2000 := by omega
  have bc := b c hcc
  have hs : 0 ≤ s ∧ s ≤ 1000000000000 ∧ mn (mn s0 s1) s2 ≤ s := by omega
  have hn' : n = mx (s + c * S) (mx (mx (s0 + c0 * S) (s1 + c1 * S)) (s2 + c2 * S) - d) := by
    rcases h with ⟨rfl, rfl, h⟩ | ⟨rfl, rfl, h⟩ | ⟨rfl, rfl, h⟩ <;> exact h
  have fn := mx_le (s + c * S) (mx (mx (s0 + c0 * S) (s1 + c1 * S)) (s2 + c2 * S) - d)
  rw [w64 (x := c * S) (by omega) (by omega), w64 (x := s + c * S) (by omega) (by omega), w64 (x := mx (mx s0 s1) s2 + c * S) (by omega) (by omega)]
  clear mono b
  exact ⟨by omega, by omega⟩
theorem FnMainMoves : laws_FnMainMoves.Pure := by
  intro l _ _ hw
  refine EvP.rounds ?_
  unfold laws_FnMainMoves.f
  refine EvP.bind (big_ok l) (fun b hb => ?_)
  refine EvP.ite (fun _ => EvP.ret rfl) (fun _ => ?_)
  refine EvP.bind (drawFinish (Bs.of hw)) ?_
  rintro ⟨x0, x1, x2, c0, c1, c2, w⟩ _
  refine EvP.bind (drawNarrow (Bs.of hw)) ?_
  rintro ⟨y0, y1, y2, d⟩ _
  dsimp only
  refine EvP.bind ((specDove_ok x0 x1 x2 d).mono (fun _ _ => (trivial : True))) ?_
  rintro ⟨s0, s1, s2⟩ _
  dsimp only
  refine EvP.bind (specFin_ok s0 s1 s2 c0 c1 c2 w) ?_
  rintro r ⟨hr, hr'⟩
  refine EvP.bind (implFin_ok s0 s1 s2 c0 c1 c2 w) ?_
  rintro q ⟨hq, hq'⟩
  by_cases hF : FinP s0 s1 s2 c0 c1 c2 w ∧ TagP (s0 + c0 * strideOf w) (s1 + c1 * strideOf w) (s2 + c2 * strideOf w)
  · rw [hr hF, hq hF]
    dsimp only
    refine EvP.no (by simp) (EvP.yes rfl ?_)
    refine EvP.bind (specNarrow_ok s0 s1 s2 d) (fun t ht => ?_)
    cases t with
    | false =>
      refine EvP.step ?_
      simp only [laws_FnMainMoves.j0]
      exact EvP.yes (by simp) (EvP.ret (by simp))
    | true =>
      have hn := ht.1 rfl
      have hS : 1 ≤ strideOf w ∧ strideOf w ≤ 2520 := by
        have h1 := strideOf_in w
        have h2 := strideOf_zero w
        have h3 := hF.1.2.2
        have : strideOf w ≠ 0 := fun e => (h2.1 e) h3
        omega
      refine EvP.step ?_
      simp only [laws_FnMainMoves.j0]
      refine EvP.no (by simp) ?_
      refine EvP.bind (implDove_ok _ _ _ d) ?_
      rintro v ⟨hv, _⟩
      rw [hv ⟨hF.2, hn.2.1⟩]
      dsimp only
      obtain ⟨g1, g2⟩ := moves_facts hn hF.1.2.1 hS hF.2
      obtain ⟨_, m2⟩ := dove_facts hF.2 hn.2.1 rfl
      refine moveLoop ?_ ?_ 3 0 (by omega) (by omega)
      · rw [m2]; exact g2
      · rw [m2]; exact g1
  · rw [hr' hF, hq' hF]
    dsimp only
    refine EvP.no (by simp) (EvP.no (by simp) ?_)
    refine EvP.step ?_
    simp only [laws_FnMainMoves.j0]
    exact EvP.yes (by simp) (EvP.ret (by simp))

end Go.Proofs.Ytbijdkmchdkgfaa.Pure
