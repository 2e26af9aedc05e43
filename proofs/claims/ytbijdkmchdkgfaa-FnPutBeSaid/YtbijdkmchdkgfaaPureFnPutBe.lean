/- The four bytes of a number are read as what is left of it modulo 2^32, and their halves as its halves. No condition. -/
import Derived.Test.YtbijdkmchdkgfaaPFnPutBex2
import Derived.Laws.BitsLemmas
namespace Go.Proofs.Ytbijdkmchdkgfaa.Pure
open Go.RowKit Go.Proofs.Ytbijdkmchdkgfaa.PFnPutBe Go.Proofs.YtbijdkmchdkgfaaW.PrintWords Go.Proofs.YtbijdkmchdkgfaaW.PrintLast Go.Proofs.YtbijdkmchdkgfaaW.PrintMore
set_option linter.unusedVariables false
set_option linter.unusedSimpArgs false

/-! ### base: rounds -/
def EvP {α : Type} (g : Nat → Option α) (P : α → Prop) : Prop := ∃ r, Ev g r ∧ P r
theorem EvP.of {α : Type} {o : Option α} {P : α → Prop} (h : ∃ r, o = some r ∧ P r) : EvP (fun _ => o) P := by
  obtain ⟨r, rfl, hp⟩ := h
  exact ⟨r, Ev.now r, hp⟩
theorem EvP.ret {α : Type} {r : α} {P : α → Prop} (h : P r) : EvP (fun _ => some r) P := ⟨r, Ev.now r, h⟩
theorem EvP.bind {α β : Type} {g : Nat → Option α} {f : Nat → α → Option β} {P : α → Prop} {Q : β → Prop} (h : EvP g P) (k : ∀ r, P r → EvP (fun n => f n r) Q) : EvP (fun n => (g n).bind (f n)) Q := by
  obtain ⟨r, hr, hp⟩ := h
  obtain ⟨q, hq, hQ⟩ := k r hp
  exact ⟨q, Ev.bind hr hq, hQ⟩
theorem EvP.ite {α : Type} {c : Prop} [Decidable c] {a b : Nat → Option α} {Q : α → Prop} (h : c → EvP a Q) (h' : ¬ c → EvP b Q) : EvP (fun n => if c then a n else b n) Q := by
  by_cases hc : c
  · simp only [if_pos hc]; exact h hc
  · simp only [if_neg hc]; exact h' hc
theorem EvP.yes {α : Type} {c : Prop} [Decidable c] {a b : Nat → Option α} {Q : α → Prop} (hc : c) (h : EvP a Q) : EvP (fun n => if c then a n else b n) Q := by
  simp only [if_pos hc]; exact h
theorem EvP.no {α : Type} {c : Prop} [Decidable c] {a b : Nat → Option α} {Q : α → Prop} (hc : ¬ c) (h : EvP b Q) : EvP (fun n => if c then a n else b n) Q := by
  simp only [if_neg hc]; exact h
theorem EvP.step {α : Type} {g : Nat → Option α} {Q : α → Prop} (h : EvP (fun k => g (k + 1)) Q) : EvP g Q := by
  obtain ⟨r, hr, hq⟩ := h
  exact ⟨r, Ev.step (fun _ => rfl) hr, hq⟩
theorem EvP.mono {α : Type} {g : Nat → Option α} {P Q : α → Prop} (h : EvP g P) (hpq : ∀ r, P r → Q r) : EvP g Q := by
  obtain ⟨r, hr, hp⟩ := h
  exact ⟨r, hr, hpq r hp⟩
theorem EvP.rounds {α : Type} {g : Nat → Option α} {r : α} (h : EvP g (fun x => x = r)) : ∃ k, g k = some r := by
  obtain ⟨q, hq, rfl⟩ := h
  exact hq.rounds
theorem EvP.known {α : Type} {o : Option α} {P : α → Prop} (h : EvP (fun _ => o) P) : ∃ r, o = some r ∧ P r := by
  obtain ⟨r, ⟨K, hK⟩, hp⟩ := h
  exact ⟨r, hK K (Nat.le_refl _), hp⟩

/-! ### base: numbers -/
theorem w64 {x : Int} (h0 : -9223372036854775808 ≤ x) (h1 : x ≤ 9223372036854775807) : wrap64 x = x := by unfold wrap64; omega
theorem w64_lo (x : Int) : -9223372036854775808 ≤ wrap64 x := by unfold wrap64; omega
theorem w64_hi (x : Int) : wrap64 x ≤ 9223372036854775807 := by unfold wrap64; omega
theorem tmod_pos {a b : Int} (h : 0 ≤ a) : Int.tmod a b = a % b := Int.tmod_eq_emod_of_nonneg h
theorem tdiv_pos {a b : Int} (h : 0 ≤ a) : Int.tdiv a b = a / b := Int.tdiv_eq_ediv_of_nonneg h

/-! ### base: lists of bytes -/
def Bs (s : List Int) : Prop := ∀ x ∈ s, 0 ≤ x ∧ x ≤ 255
theorem Bs.nil : Bs [] := fun _ h => by cases h
theorem Bs.snoc {s : List Int} (h : Bs s) {x : Int} (h0 : 0 ≤ x) (h1 : x ≤ 255) : Bs (s ++ [x]) := fun y hy => by
  rcases List.mem_append.1 hy with hy | hy
  · exact h y hy
  · rw [List.mem_singleton.1 hy]; exact ⟨h0, h1⟩
theorem Bs.app {s t : List Int} (h : Bs s) (h' : Bs t) : Bs (s ++ t) := fun y hy => by
  rcases List.mem_append.1 hy with hy | hy
  · exact h y hy
  · exact h' y hy
theorem Bs.take {s : List Int} (h : Bs s) (n : Nat) : Bs (s.take n) := fun y hy => h y (List.mem_of_mem_take hy)
theorem Bs.drop {s : List Int} (h : Bs s) (n : Nat) : Bs (s.drop n) := fun y hy => h y (List.mem_of_mem_drop hy)
theorem Bs.rep (n : Nat) : Bs (List.replicate n 0) := fun y hy => by
  rw [(List.mem_replicate.1 hy).2]; omega
theorem Bs.set {s : List Int} (h : Bs s) (i : Nat) {x : Int} (h0 : 0 ≤ x) (h1 : x ≤ 255) : Bs (s.set i x) := fun y hy => by
  rcases List.mem_or_eq_of_mem_set hy with hy | rfl
  · exact h y hy
  · exact ⟨h0, h1⟩
theorem rd_get (s : List Int) (i : Int) (h0 : 0 ≤ i) (h1 : i < (s.length : Int)) : rd s i = s[i.toNat]'(by omega) := by
  unfold rd
  rw [List.getD_eq_getElem?_getD, List.getElem?_eq_getElem (by omega)]
  rfl
theorem Bs.rdb {s : List Int} (h : Bs s) (i : Int) : 0 ≤ rd s i ∧ rd s i ≤ 255 := by
  by_cases hi : i.toNat < s.length
  · unfold rd
    rw [List.getD_eq_getElem?_getD, List.getElem?_eq_getElem hi]
    exact h _ (List.getElem_mem hi)
  · unfold rd
    rw [List.getD_eq_getElem?_getD, List.getElem?_eq_none (by omega)]
    exact ⟨by decide, by decide⟩
theorem Bs.of {s : List Int} (h : ∀ x ∈ s, (Lit.int .u8 x).wf = true) : Bs s := fun x hx => by
  have := h x hx
  simp [Lit.wf, IntKind.min, IntKind.max, IntKind.wrap, IntKind.bits, IntKind.signed] at this
  omega

/-! ### the cursor of the draws -/
structure Cu (s : List Int) (p sd B : Int) : Prop where
  bs : Bs s
  p0 : 0 ≤ p
  p1 : p ≤ B
  s0 : 0 ≤ sd
  s1 : sd ≤ 65520
theorem Cu.le {s : List Int} {p sd B B' : Int} (h : Cu s p sd B) (hB : B ≤ B') : Cu s p sd B' := ⟨h.bs, h.p0, by have := h.p1; omega, h.s0, h.s1⟩
theorem seed_ok {sd : Int} (h0 : 0 ≤ sd) (h1 : sd ≤ 65520) : Int.tmod (wrap64 ((wrap64 (sd * 1103)) + 12345)) 65521 = (sd * 1103 + 12345) % 65521 := by
  rw [w64 (x := sd * 1103) (by omega) (by omega), w64 (by omega) (by omega), tmod_pos (by omega)]
theorem rem_ok {x n : Int} (h0 : 0 ≤ x) (hn : 2 ≤ n) : 0 ≤ Int.tmod x n ∧ Int.tmod x n < n := by
  rw [tmod_pos h0]
  exact ⟨Int.emod_nonneg _ (by omega), Int.emod_lt_of_pos _ (by omega)⟩
theorem pick_ok {s : List Int} {p sd B n : Int} (h : Cu s p sd B) (hB : B ≤ 4611686018427387904) :
    ∃ r, spec_l01Cur_pick.f s p sd n = some r ∧ Cu s r.2.1 r.2.2 (B + 1) ∧ 0 ≤ r.1 ∧ (r.1 < n ∨ r.1 = 0) := by
  obtain ⟨hb, p0, p1, s0, s1⟩ := h
  unfold spec_l01Cur_pick.f
  rw [seed_ok s0 s1, w64 (x := p + 1) (by omega) (by omega)]
  have e0 : 0 ≤ (sd * 1103 + 12345) % 65521 ∧ (sd * 1103 + 12345) % 65521 ≤ 65520 := by omega
  generalize (sd * 1103 + 12345) % 65521 = q at e0
  by_cases hn : n < 2
  · rw [if_pos hn]
    exact ⟨_, rfl, ⟨hb, p0, by dsimp only; omega, s0, s1⟩, by dsimp only; omega, .inr rfl⟩
  rw [if_neg hn]
  by_cases hp : p < (s.length : Int)
  · rw [if_pos hp, if_pos p0, if_neg (by omega)]
    have hr := hb.rdb p
    have hm := rem_ok hr.1 (show (2 : Int) ≤ n by omega)
    rw [w64 (x := rd s p) (by omega) (by omega)]
    exact ⟨_, rfl, ⟨hb, by dsimp only; omega, by dsimp only; omega, s0, s1⟩, hm.1, .inl hm.2⟩
  rw [if_neg hp]
  by_cases hl : (s.length : Int) > 0
  · have hm : 0 ≤ Int.tmod p (s.length : Int) ∧ Int.tmod p (s.length : Int) < (s.length : Int) := by
      rw [tmod_pos p0]
      exact ⟨Int.emod_nonneg _ (by omega), Int.emod_lt_of_pos _ (by omega)⟩
    rw [if_pos hl, if_neg (by omega), if_pos hm.1, if_pos hm.2, if_neg (by omega)]
    have hr := hb.rdb (Int.tmod p (s.length : Int))
    have hv := rem_ok (x := wrap64 ((wrap64 (Int.tdiv q 7)) + (wrap64 (rd s (Int.tmod p (s.length : Int)))))) (n := n) (by
      rw [tdiv_pos e0.1, w64 (x := q / 7) (by omega) (by omega), w64 (x := rd s _) (by omega) (by omega), w64 (by omega) (by omega)]
      omega) (by omega)
    exact ⟨_, rfl, ⟨hb, by dsimp only; omega, by dsimp only; omega, e0.1, e0.2⟩, hv.1, .inl hv.2⟩
  · rw [if_neg hl, if_neg (by omega)]
    have hv := rem_ok (x := 0) (n := n) (by omega) (by omega)
    rw [tmod_pos (by omega)] at hv
    exact ⟨_, rfl, ⟨hb, by dsimp only; omega, by dsimp only; omega, e0.1, e0.2⟩, hv.1, .inl hv.2⟩
theorem pickE {s : List Int} {p sd B n : Int} (h : Cu s p sd B) (hB : B ≤ 4611686018427387904) :
    EvP (fun _ => spec_l01Cur_pick.f s p sd n) (fun r => Cu s r.2.1 r.2.2 (B + 1) ∧ 0 ≤ r.1 ∧ (r.1 < n ∨ r.1 = 0)) := EvP.of (pick_ok h hB)
theorem open_ok {s : List Int} (hb : Bs s) : EvP (fun _ => spec_l01Open.f s) (fun r => r.1 = s ∧ Cu s r.2.1 r.2.2 0) := by
  refine EvP.ret ⟨rfl, hb, ?_, ?_, ?_, ?_⟩ <;> dsimp only <;> omega

theorem or_byte {x y : Int} (hx : 0 ≤ x ∧ x ≤ 4294967295) (hy : 0 ≤ y ∧ y ≤ 255) : Go.bits .or .i64 (x * 256) y = x * 256 + y := by
  have hk : ∀ n : Int, 0 ≤ n → n < 2 ^ 40 → IntKind.i64.wrap n = n := fun n h0 h1 => by
    have h2 : n < 1099511627776 := by simpa using h1
    rw [IntKind.wrap_i64]; omega
  have e40 : (2 : Int) ^ 40 = 1099511627776 := by simp
  have e8 : (2 : Int) ^ 8 = 256 := by simp
  exact bits_join .i64 40 (by decide) hk 8 (x * 256) y (by omega) (by rw [e8]; omega) (by rw [e40]; omega) (by omega) (by rw [e8]; omega) (by rw [e40]; omega)
theorem drop_rd {l : List Int} {i : Int} (h0 : 0 ≤ i) (h1 : i < (l.length : Int)) : l.drop i.toNat = rd l i :: l.drop (i.toNat + 1) := by
  rw [rd_get l i h0 h1]
  exact List.drop_eq_getElem_cons (by omega)

theorem big_ok (s : List Int) : EvP (fun _ => laws_big.f s) (fun b => b = false → (s.length : Int) ≤ 1048576) := by
  unfold laws_big.f
  refine EvP.ret (fun h => ?_)
  simp at h
  omega

/-! ### numbers as bytes -/
theorem shr_of {x : Int} {c : Int} {j : Int} (h : c.toNat ≤ 64) (hj : j = x / 2 ^ c.toNat) : shr .i64 x c = j := by
  unfold shr; rw [hj, show IntKind.bits .i64 = 64 from rfl, Nat.min_eq_left h]
theorem put_l0 (n m : Int) (hm : 0 ≤ m ∧ m ≤ 8) : ∀ (d : Nat) (out : List Int) (i : Int), 0 ≤ i → i + d = m → (out.length : Int) = m →
    EvP (fun k => impl_put.l0 k n m out m i) (fun r => r.length = out.length ∧ ∀ j : Nat, (j : Int) < m → r[j]? = if (j : Int) < i then out[j]? else some (n / 2 ^ (8 * (m - 1 - (j : Int))).toNat % 256)) := by
  intro d
  induction d with
  | zero =>
    intro out i h0 hd hl
    refine EvP.step ?_
    simp only [impl_put.l0]
    refine EvP.no (by omega) (EvP.ret ⟨rfl, fun j hj => ?_⟩)
    rw [if_pos (by omega)]
  | succ d ih =>
    intro out i h0 hd hl
    refine EvP.step ?_
    simp only [impl_put.l0]
    simp only [w64 (x := m - 1) (by omega) (by omega), w64 (x := i + 1) (by omega) (by omega)]
    simp only [w64 (x := m - 1 - i) (by omega) (by omega)]
    simp only [w64 (x := 8 * (m - 1 - i)) (by omega) (by omega)]
    refine EvP.yes (by omega) (EvP.yes (by omega) (EvP.yes (by omega) (EvP.yes (by omega) ?_)))
    rw [shr_of (by omega) rfl]
    refine (ih (out.set i.toNat (n / 2 ^ (8 * (m - 1 - i)).toNat % 256)) (i + 1) (by omega) (by omega) (by rw [List.length_set]; exact hl)).mono ?_
    rintro r ⟨h1, h2⟩
    refine ⟨by rw [h1, List.length_set], fun j hj => ?_⟩
    rw [h2 j hj]
    by_cases hji : (j : Int) < i
    · rw [if_pos (by omega), if_pos hji, List.getElem?_set_ne (by omega)]
    · rw [if_neg hji]
      by_cases e : (j : Int) = i
      · subst e
        rw [if_pos (by omega)]
        simp only [Int.toNat_natCast]
        rw [List.getElem?_set_self (by omega)]
      · rw [if_neg (by omega)]
theorem put_ok (n m : Int) (hm : 0 ≤ m ∧ m ≤ 8) :
    EvP (fun k => impl_put.f k n m) (fun r => (r.length : Int) = m ∧ ∀ j : Nat, (j : Int) < m → r[j]? = some (n / 2 ^ (8 * (m - 1 - (j : Int))).toNat % 256)) := by
  unfold impl_put.f
  refine EvP.yes (by omega) (EvP.yes (by omega) (EvP.bind (EvP.ret (P := fun y => y = List.replicate m.toNat 0) rfl) ?_))
  rintro y rfl
  have hl : ((List.replicate m.toNat (0 : Int)).length : Int) = m := by rw [List.length_replicate]; omega
  rw [hl]
  refine (put_l0 n m hm m.toNat _ 0 (by omega) (by omega) hl).mono ?_
  rintro r ⟨h1, h2⟩
  refine ⟨by rw [h1]; exact hl, fun j hj => ?_⟩
  rw [h2 j hj, if_neg (by omega)]

theorem w64r {x : Int} : -9223372036854775808 ≤ wrap64 x ∧ wrap64 x ≤ 9223372036854775807 := ⟨w64_lo x, w64_hi x⟩
theorem raw_ok {s : List Int} {p sd B : Int} (h : Cu s p sd B) (hB : B ≤ 1000000000000) :
    EvP (fun _ => spec_l01Cur_raw.f s p sd) (fun r => Cu s r.2.1 r.2.2 (B + 2) ∧ -9223372036854775808 ≤ r.1 ∧ r.1 ≤ 9223372036854775807) := by
  unfold spec_l01Cur_raw.f
  refine EvP.bind (pickE (n := 8) h (by omega)) ?_
  rintro ⟨a, p1, s1⟩ ⟨c1, a0, a1⟩
  dsimp only at *
  refine EvP.ite (fun _ => ?_) (fun _ => EvP.ite (fun _ => ?_) (fun _ => ?_))
  · refine EvP.bind (pickE (n := 256) c1 (by omega)) ?_
    rintro ⟨b, p2, s2⟩ ⟨c2, b0, b1⟩
    exact EvP.ret ⟨c2.le (by omega), w64r⟩
  · refine EvP.bind (EvP.ret (P := fun y => y.length = 8 ∧ ∀ i : Int, 0 ≤ i → i < 8 → -9223372036854775808 ≤ rd y i ∧ rd y i ≤ 9223372036854775807) ⟨rfl, fun i h0 h8 => ?_⟩) ?_
    · have : i = 0 ∨ i = 1 ∨ i = 2 ∨ i = 3 ∨ i = 4 ∨ i = 5 ∨ i = 6 ∨ i = 7 := by omega
      rcases this with e | e | e | e | e | e | e | e <;> rw [e] <;> decide
    · rintro y ⟨hy, hv⟩
      refine EvP.bind (pickE (n := 8) c1 (by omega)) ?_
      rintro ⟨b, p2, s2⟩ ⟨c2, b0, b1⟩
      dsimp only at *
      exact EvP.yes b0 (EvP.yes (by omega) (EvP.ret ⟨c2.le (by omega), hv b b0 (by omega)⟩))
  · refine EvP.bind (pickE (n := 14) c1 (by omega)) ?_
    rintro ⟨b, p2, s2⟩ ⟨c2, b0, b1⟩
    exact EvP.ret ⟨c2.le (by omega), w64r⟩

theorem wide_ok {s : List Int} {p sd B n : Int} (h : Cu s p sd B) (hB : B ≤ 1000000000000) (hn : 2 ≤ n) :
    EvP (fun _ => spec_l01Cur_wide.f s p sd n) (fun r => Cu s r.2.1 r.2.2 (B + 3) ∧ 0 ≤ r.1 ∧ r.1 < n) := by
  unfold spec_l01Cur_wide.f
  refine EvP.bind (pickE (n := 256) h (by omega)) ?_
  rintro ⟨a, p1, s1⟩ ⟨c1, a0, a1⟩
  dsimp only at *
  refine EvP.bind (pickE (n := 256) c1 (by omega)) ?_
  rintro ⟨b, p2, s2⟩ ⟨c2, b0, b1⟩
  dsimp only at *
  refine EvP.bind (pickE (n := 256) c2 (by omega)) ?_
  rintro ⟨d, p3, s3⟩ ⟨c3, d0, d1⟩
  dsimp only at *
  refine EvP.no (by omega) (EvP.ret ⟨c3.le (by omega), ?_⟩)
  dsimp only
  rw [w64 (x := 65536 * a) (by omega) (by omega), w64 (x := 256 * b) (by omega) (by omega), w64 (x := 65536 * a + 256 * b) (by omega) (by omega), w64 (by omega) (by omega)]
  exact rem_ok (by omega) hn

theorem put32_ok (n : Int) : EvP (fun k => impl_Put32.f k n) (fun r => r = [n / 16777216 % 256, n / 65536 % 256, n / 256 % 256, n % 256]) := by
  unfold impl_Put32.f
  refine EvP.bind (put_ok n 4 (by omega)) ?_
  rintro r ⟨h1, h2⟩
  refine EvP.ret ?_
  match r, h1, h2 with
  | [x, y, z, u], _, h2 =>
    have e0 := h2 0 (by omega)
    have e1 := h2 1 (by omega)
    have e2 := h2 2 (by omega)
    have e3 := h2 3 (by omega)
    simp at e0 e1 e2 e3
    rw [e0, e1, e2, e3]
theorem beOf_l0 {l : List Int} (hb : Bs l) (hl : l.length ≤ 4) : ∀ (d : Nat) (a i : Int), 0 ≤ i → i + d = (l.length : Int) → 0 ≤ a → a < 256 ^ i.toNat →
    EvP (fun k => impl_beOf.l0 k a l (l.length : Int) i) (fun r => r = (l.drop i.toNat).foldl (fun x y => x * 256 + y) a) := by
  intro d
  induction d with
  | zero =>
    intro a i h0 hd a0 a1
    refine EvP.step ?_
    simp only [impl_beOf.l0]
    refine EvP.no (by omega) (EvP.ret ?_)
    rw [List.drop_of_length_le (by omega)]; rfl
  | succ d ih =>
    intro a i h0 hd a0 a1
    have hx := hb.rdb i
    have hp : (256 : Int) ^ (i + 1).toNat = 256 ^ i.toNat * 256 := by rw [show (i + 1).toNat = i.toNat + 1 by omega]; exact Int.pow_succ _ _
    have hq : (256 : Int) ^ i.toNat ≤ 16777216 := by
      have : i.toNat = 0 ∨ i.toNat = 1 ∨ i.toNat = 2 ∨ i.toNat = 3 := by omega
      rcases this with e | e | e | e <;> rw [e] <;> decide
    generalize (256 : Int) ^ i.toNat = q at a1 hp hq
    refine EvP.step ?_
    simp only [impl_beOf.l0]
    simp only [w64 (x := i + 1) (by omega) (by omega), w64 (x := rd l i) (by omega) (by omega), w64 (x := a * 256) (by omega) (by omega), or_byte (x := a) (y := rd l i) (by omega) (by omega)]
    refine EvP.yes (by omega) (EvP.yes (by omega) (EvP.yes (by omega) ?_))
    refine (ih _ _ (by omega) (by omega) (by omega) (by rw [hp]; omega)).mono ?_
    rintro r rfl
    rw [drop_rd h0 (by omega), show (i + 1).toNat = i.toNat + 1 by omega]
    rfl
theorem beOf_ok {l : List Int} (hb : Bs l) (hl : l.length ≤ 4) : EvP (fun k => impl_beOf.f k l) (fun r => r = l.foldl (fun x y => x * 256 + y) 0) := by
  have := beOf_l0 hb hl l.length 0 0 (by omega) (by omega) (by omega) (by decide)
  simpa [impl_beOf.f] using this
theorem drawPut32 {s : List Int} (hb : Bs s) : EvP (fun _ => spec_DrawPut32.f s) (fun r => -9223372036854775808 ≤ r ∧ r ≤ 9223372036854775807) := by
  unfold spec_DrawPut32.f
  refine EvP.bind (open_ok hb) ?_
  rintro ⟨s', p, sd⟩ ⟨rfl, c⟩
  refine EvP.bind (wide_ok c (by omega) (by omega)) ?_
  rintro ⟨a, p1, s1⟩ ⟨c1, _, _⟩
  dsimp only at *
  refine EvP.bind (pickE (n := 256) c1 (by omega)) ?_
  rintro ⟨b, p2, s2⟩ ⟨c2, b0, b1⟩
  dsimp only at *
  refine EvP.bind (raw_ok c2 (by omega)) ?_
  rintro ⟨d, p3, s3⟩ ⟨c3, d0, d1⟩
  dsimp only at *
  refine EvP.bind (raw_ok c3 (by omega)) ?_
  rintro ⟨e, p4, s4⟩ ⟨c4, e0, e1⟩
  dsimp only at *
  refine EvP.bind (EvP.ret (P := fun y => y = [wrap64 (a * (wrap64 (1 + b))), d, wrap64 (e * 65537)]) rfl) ?_
  rintro y rfl
  refine EvP.bind (pickE (n := 3) c4 (by omega)) ?_
  rintro ⟨x, p5, s5⟩ ⟨c5, x0, x1⟩
  dsimp only at *
  refine EvP.yes x0 (EvP.yes (by simp only [List.length_cons, List.length_nil]; omega) (EvP.ret ?_))
  have : x = 0 ∨ x = 1 ∨ x = 2 := by omega
  rcases this with rfl | rfl | rfl
  · exact w64r
  · exact ⟨d0, d1⟩
  · exact w64r
theorem hasBytes_ok {l : List Int} {a n : Int} (h0 : 0 ≤ a) (hn : 0 ≤ n ∧ n ≤ 100) (hl : a + n ≤ (l.length : Int)) (hm : (l.length : Int) ≤ 1000000000) : impl_hasBytes.f l a n = some true := by
  unfold impl_hasBytes.f
  rw [if_pos h0, w64 (by omega) (by omega), decide_eq_true (by omega)]
theorem FnPutBe : laws_FnPutBe.Pure := by
  intro s _ _ hw
  have hb := Bs.of hw
  refine EvP.rounds ?_
  unfold laws_FnPutBe.f
  refine EvP.bind (big_ok s) ?_
  intro b _
  refine EvP.ite (fun _ => EvP.ret rfl) (fun _ => ?_)
  refine EvP.bind (drawPut32 hb) ?_
  rintro n ⟨n0, n1⟩
  refine EvP.bind (put32_ok n) ?_
  rintro _ rfl
  have hB : Bs [n / 16777216 % 256, n / 65536 % 256, n / 256 % 256, n % 256] := fun x hx => by simp at hx; omega
  have b32 : EvP (fun k => impl_Be32.f k [n / 16777216 % 256, n / 65536 % 256, n / 256 % 256, n % 256] 0) (fun r => r = (n % 4294967296, true)) := by
    unfold impl_Be32.f
    simp only [hasBytes_ok (l := [n / 16777216 % 256, n / 65536 % 256, n / 256 % 256, n % 256]) (a := 0) (n := 4) (by omega) (by omega) (by simp) (by simp), Option.bind_some]
    refine EvP.yes (by simp) (EvP.yes (by omega) (EvP.yes (by unfold wrap64; omega) (EvP.yes (by unfold wrap64; simp) ?_)))
    simp only [w64 (x := (0 : Int) + 4) (by omega) (by omega), show ((0 : Int) + 4).toNat = 4 from rfl, show Int.toNat 0 = 0 from rfl, List.take_succ_cons, List.take_zero, List.drop_succ_cons, List.drop_zero]
    refine EvP.bind (beOf_ok (l := [n / 16777216 % 256, n / 65536 % 256, n / 256 % 256, n % 256]) hB (by simp)) ?_
    rintro _ rfl
    refine EvP.ret ?_
    simp only [List.foldl_cons, List.foldl_nil, Prod.mk.injEq, and_true]
    omega
  have b16 : EvP (fun k => impl_Be16.f k [n / 16777216 % 256, n / 65536 % 256, n / 256 % 256, n % 256] 0) (fun r => r = (n / 65536 % 65536, true)) := by
    unfold impl_Be16.f
    simp only [hasBytes_ok (l := [n / 16777216 % 256, n / 65536 % 256, n / 256 % 256, n % 256]) (a := 0) (n := 2) (by omega) (by omega) (by simp) (by simp), Option.bind_some]
    refine EvP.yes (by simp) (EvP.yes (by omega) (EvP.yes (by unfold wrap64; omega) (EvP.yes (by unfold wrap64; simp) ?_)))
    simp only [w64 (x := (0 : Int) + 2) (by omega) (by omega), show ((0 : Int) + 2).toNat = 2 from rfl, show Int.toNat 0 = 0 from rfl, List.take_succ_cons, List.take_zero, List.drop_succ_cons, List.drop_zero]
    refine EvP.bind (beOf_ok (l := [n / 16777216 % 256, n / 65536 % 256]) (fun x hx => by simp at hx; omega) (by simp)) ?_
    rintro _ rfl
    refine EvP.ret ?_
    simp only [List.foldl_cons, List.foldl_nil, Prod.mk.injEq, and_true]
    omega
  have b16' : EvP (fun k => impl_Be16.f k [n / 16777216 % 256, n / 65536 % 256, n / 256 % 256, n % 256] 2) (fun r => r = (n % 65536, true)) := by
    unfold impl_Be16.f
    simp only [hasBytes_ok (l := [n / 16777216 % 256, n / 65536 % 256, n / 256 % 256, n % 256]) (a := 2) (n := 2) (by omega) (by omega) (by simp) (by simp), Option.bind_some]
    refine EvP.yes (by simp) (EvP.yes (by omega) (EvP.yes (by unfold wrap64; omega) (EvP.yes (by unfold wrap64; simp) ?_)))
    simp only [w64 (x := (2 : Int) + 2) (by omega) (by omega), show ((2 : Int) + 2).toNat = 4 from rfl, show Int.toNat 2 = 2 from rfl, List.take_succ_cons, List.take_zero, List.drop_succ_cons, List.drop_zero]
    refine EvP.bind (beOf_ok (l := [n / 256 % 256, n % 256]) (fun x hx => by simp at hx; omega) (by simp)) ?_
    rintro _ rfl
    refine EvP.ret ?_
    simp only [List.foldl_cons, List.foldl_nil, Prod.mk.injEq, and_true]
    omega
  have et : Int.tmod n 4294967296 = if n < 0 ∧ n % 4294967296 ≠ 0 then n % 4294967296 - 4294967296 else n % 4294967296 := by
    rw [Int.tmod_eq_emod]
    split <;> split <;> omega
  generalize Int.tmod n 4294967296 = q at et
  refine EvP.ite (fun hq => ?_) (fun hq => ?_)
  · refine EvP.bind b32 ?_
    rintro _ rfl
    refine EvP.bind b16 ?_
    rintro _ rfl
    refine EvP.bind b16' ?_
    rintro _ rfl
    have e1 : wrap64 (q + 4294967296) = n % 4294967296 := by
      rw [w64 (by split at et <;> omega) (by split at et <;> omega)]; split at et <;> omega
    simp only [e1, tdiv_pos (a := n % 4294967296) (b := 65536) (by omega), tmod_pos (a := n % 4294967296) (b := 65536) (by omega)]
    rw [w64 (x := n % 4294967296 / 65536) (by omega) (by omega)]
    refine EvP.yes (by simp) (EvP.yes (by simp) (EvP.yes (by simp) (EvP.yes (by simp) (EvP.yes (by simp) (EvP.yes (by omega) (EvP.ret ?_))))))
    simp
  · refine EvP.bind b32 ?_
    rintro _ rfl
    refine EvP.bind b16 ?_
    rintro _ rfl
    refine EvP.bind b16' ?_
    rintro _ rfl
    have e1 : q = n % 4294967296 := by split at et <;> omega
    simp only [e1, tdiv_pos (a := n % 4294967296) (b := 65536) (by omega), tmod_pos (a := n % 4294967296) (b := 65536) (by omega)]
    rw [w64 (x := n % 4294967296 / 65536) (by omega) (by omega)]
    refine EvP.yes (by simp) (EvP.yes (by simp) (EvP.yes (by simp) (EvP.yes (by simp) (EvP.yes (by simp) (EvP.yes (by omega) (EvP.ret ?_))))))
    simp

end Go.Proofs.Ytbijdkmchdkgfaa.Pure
