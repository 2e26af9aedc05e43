/- Words that are exchanged in the other order leave the same checksum. No condition. -/
import Derived.Test.YtbijdkmchdkgfaaPFnSwapsAnyx3
import Derived.Laws.BitsLemmas
namespace Go.Proofs.Ytbijdkmchdkgfaa.Pure
open Go.RowKit Go.Proofs.Ytbijdkmchdkgfaa.PFnSwapsAny Go.Proofs.YtbijdkmchdkgfaaW.PrintWords Go.Proofs.YtbijdkmchdkgfaaW.PrintLast Go.Proofs.YtbijdkmchdkgfaaW.PrintMore
set_option linter.unusedVariables false
set_option linter.unusedSimpArgs false

/-! ### base: rounds -/
def EvP {α : Type} (g : Nat → Option α) (P : α → Prop) : Prop := ∃ r, Ev g r ∧ P r
theorem EvP.of {α : Type} {o : Option α} {P : α → Prop} (h : ∃ r, o = some r ∧ P r) : EvP (fun _ => o) P := by
  obtain ⟨r, rfl, hp⟩ := h
  exact ⟨r, Ev.now r, hp⟩
theorem EvP.ret {α : Type} {r : α} {P : α → Prop} (h : P r) : EvP (fun _ => some r) P := ⟨r, Ev.now r, h⟩
theorem EvP.bind {α β : Type} {g : Nat → Option α} {f : Nat → α → Option β} {P : α → Prop} {Q : β → Prop} (h : EvP g P) (k : ∀ r, P r → EvP (fun n => f n r) Q) : EvP (fun n => (g n).bind (f n)) Q := by
  obtain ⟨r, hr, hp⟩ := h
  obtain ⟨q, hq, hQ⟩ := k r hp
  exact ⟨q, Ev.bind hr hq, hQ⟩
theorem EvP.ite {α : Type} {c : Prop} [Decidable c] {a b : Nat → Option α} {Q : α → Prop} (h : c → EvP a Q) (h' : ¬ c → EvP b Q) : EvP (fun n => if c then a n else b n) Q := by
  by_cases hc : c
  · simp only [if_pos hc]; exact h hc
  · simp only [if_neg hc]; exact h' hc
theorem EvP.yes {α : Type} {c : Prop} [Decidable c] {a b : Nat → Option α} {Q : α → Prop} (hc : c) (h : EvP a Q) : EvP (fun n => if c then a n else b n) Q := by
  simp only [if_pos hc]; exact h
theorem EvP.no {α : Type} {c : Prop} [Decidable c] {a b : Nat → Option α} {Q : α → Prop} (hc : ¬ c) (h : EvP b Q) : EvP (fun n => if c then a n else b n) Q := by
  simp only [if_neg hc]; exact h
theorem EvP.step {α : Type} {g : Nat → Option α} {Q : α → Prop} (h : EvP (fun k => g (k + 1)) Q) : EvP g Q := by
  obtain ⟨r, hr, hq⟩ := h
  exact ⟨r, Ev.step (fun _ => rfl) hr, hq⟩
theorem EvP.mono {α : Type} {g : Nat → Option α} {P Q : α → Prop} (h : EvP g P) (hpq : ∀ r, P r → Q r) : EvP g Q := by
  obtain ⟨r, hr, hp⟩ := h
  exact ⟨r, hr, hpq r hp⟩
theorem EvP.rounds {α : Type} {g : Nat → Option α} {r : α} (h : EvP g (fun x => x = r)) : ∃ k, g k = some r := by
  obtain ⟨q, hq, rfl⟩ := h
  exact hq.rounds
theorem EvP.known {α : Type} {o : Option α} {P : α → Prop} (h : EvP (fun _ => o) P) : ∃ r, o = some r ∧ P r := by
  obtain ⟨r, ⟨K, hK⟩, hp⟩ := h
  exact ⟨r, hK K (Nat.le_refl _), hp⟩

/-! ### base: numbers -/
theorem w64 {x : Int} (h0 : -9223372036854775808 ≤ x) (h1 : x ≤ 9223372036854775807) : wrap64 x = x := by unfold wrap64; omega
theorem w64_lo (x : Int) : -9223372036854775808 ≤ wrap64 x := by unfold wrap64; omega
theorem w64_hi (x : Int) : wrap64 x ≤ 9223372036854775807 := by unfold wrap64; omega
theorem tmod_pos {a b : Int} (h : 0 ≤ a) : Int.tmod a b = a % b := Int.tmod_eq_emod_of_nonneg h
theorem tdiv_pos {a b : Int} (h : 0 ≤ a) : Int.tdiv a b = a / b := Int.tdiv_eq_ediv_of_nonneg h

/-! ### base: lists of bytes -/
def Bs (s : List Int) : Prop := ∀ x ∈ s, 0 ≤ x ∧ x ≤ 255
theorem Bs.nil : Bs [] := fun _ h => by cases h
theorem Bs.snoc {s : List Int} (h : Bs s) {x : Int} (h0 : 0 ≤ x) (h1 : x ≤ 255) : Bs (s ++ [x]) := fun y hy => by
  rcases List.mem_append.1 hy with hy | hy
  · exact h y hy
  · rw [List.mem_singleton.1 hy]; exact ⟨h0, h1⟩
theorem Bs.app {s t : List Int} (h : Bs s) (h' : Bs t) : Bs (s ++ t) := fun y hy => by
  rcases List.mem_append.1 hy with hy | hy
  · exact h y hy
  · exact h' y hy
theorem Bs.take {s : List Int} (h : Bs s) (n : Nat) : Bs (s.take n) := fun y hy => h y (List.mem_of_mem_take hy)
theorem Bs.drop {s : List Int} (h : Bs s) (n : Nat) : Bs (s.drop n) := fun y hy => h y (List.mem_of_mem_drop hy)
theorem Bs.rep (n : Nat) : Bs (List.replicate n 0) := fun y hy => by
  rw [(List.mem_replicate.1 hy).2]; omega
theorem Bs.set {s : List Int} (h : Bs s) (i : Nat) {x : Int} (h0 : 0 ≤ x) (h1 : x ≤ 255) : Bs (s.set i x) := fun y hy => by
  rcases List.mem_or_eq_of_mem_set hy with hy | rfl
  · exact h y hy
  · exact ⟨h0, h1⟩
theorem rd_get (s : List Int) (i : Int) (h0 : 0 ≤ i) (h1 : i < (s.length : Int)) : rd s i = s[i.toNat]'(by omega) := by
  unfold rd
  rw [List.getD_eq_getElem?_getD, List.getElem?_eq_getElem (by omega)]
  rfl
theorem Bs.rdb {s : List Int} (h : Bs s) (i : Int) : 0 ≤ rd s i ∧ rd s i ≤ 255 := by
  by_cases hi : i.toNat < s.length
  · unfold rd
    rw [List.getD_eq_getElem?_getD, List.getElem?_eq_getElem hi]
    exact h _ (List.getElem_mem hi)
  · unfold rd
    rw [List.getD_eq_getElem?_getD, List.getElem?_eq_none (by omega)]
    exact ⟨by decide, by decide⟩
theorem Bs.of {s : List Int} (h : ∀ x ∈ s, (Lit.int .u8 x).wf = true) : Bs s := fun x hx => by
  have := h x hx
  simp [Lit.wf, IntKind.min, IntKind.max, IntKind.wrap, IntKind.bits, IntKind.signed] at this
  omega

/-! ### the cursor of the draws -/
structure Cu (s : List Int) (p sd B : Int) : Prop where
  bs : Bs s
  p0 : 0 ≤ p
  p1 : p ≤ B
  s0 : 0 ≤ sd
  s1 : sd ≤ 65520
theorem Cu.le {s : List Int} {p sd B B' : Int} (h : Cu s p sd B) (hB : B ≤ B') : Cu s p sd B' := ⟨h.bs, h.p0, by have := h.p1; omega, h.s0, h.s1⟩
theorem seed_ok {sd : Int} (h0 : 0 ≤ sd) (h1 : sd ≤ 65520) : Int.tmod (wrap64 ((wrap64 (sd * 1103)) + 12345)) 65521 = (sd * 1103 + 12345) % 65521 := by
  rw [w64 (x := sd * 1103) (by omega) (by omega), w64 (by omega) (by omega), tmod_pos (by omega)]
theorem rem_ok {x n : Int} (h0 : 0 ≤ x) (hn : 2 ≤ n) : 0 ≤ Int.tmod x n ∧ Int.tmod x n < n := by
  rw [tmod_pos h0]
  exact ⟨Int.emod_nonneg _ (by omega), Int.emod_lt_of_pos _ (by omega)⟩
theorem pick_ok {s : List Int} {p sd B n : Int} (h : Cu s p sd B) (hB : B ≤ 4611686018427387904) :
    ∃ r, spec_l01Cur_pick.f s p sd n = some r ∧ Cu s r.2.1 r.2.2 (B + 1) ∧ 0 ≤ r.1 ∧ (r.1 < n ∨ r.1 = 0) := by
  obtain ⟨hb, p0, p1, s0, s1⟩ := h
  unfold spec_l01Cur_pick.f
  rw [seed_ok s0 s1, w64 (x := p + 1) (by omega) (by omega)]
  have e0 : 0 ≤ (sd * 1103 + 12345) % 65521 ∧ (sd * 1103 + 12345) % 65521 ≤ 65520 := by omega
  generalize (sd * 1103 + 12345) % 65521 = q at e0
  by_cases hn : n < 2
  · rw [if_pos hn]
    exact ⟨_, rfl, ⟨hb, p0, by dsimp only; omega, s0, s1⟩, by dsimp only; omega, .inr rfl⟩
  rw [if_neg hn]
  by_cases hp : p < (s.length : Int)
  · rw [if_pos hp, if_pos p0, if_neg (by omega)]
    have hr := hb.rdb p
    have hm := rem_ok hr.1 (show (2 : Int) ≤ n by omega)
    rw [w64 (x := rd s p) (by omega) (by omega)]
    exact ⟨_, rfl, ⟨hb, by dsimp only; omega, by dsimp only; omega, s0, s1⟩, hm.1, .inl hm.2⟩
  rw [if_neg hp]
  by_cases hl : (s.length : Int) > 0
  · have hm : 0 ≤ Int.tmod p (s.length : Int) ∧ Int.tmod p (s.length : Int) < (s.length : Int) := by
      rw [tmod_pos p0]
      exact ⟨Int.emod_nonneg _ (by omega), Int.emod_lt_of_pos _ (by omega)⟩
    rw [if_pos hl, if_neg (by omega), if_pos hm.1, if_pos hm.2, if_neg (by omega)]
    have hr := hb.rdb (Int.tmod p (s.length : Int))
    have hv := rem_ok (x := wrap64 ((wrap64 (Int.tdiv q 7)) + (wrap64 (rd s (Int.tmod p (s.length : Int)))))) (n := n) (by
      rw [tdiv_pos e0.1, w64 (x := q / 7) (by omega) (by omega), w64 (x := rd s _) (by omega) (by omega), w64 (by omega) (by omega)]
      omega) (by omega)
    exact ⟨_, rfl, ⟨hb, by dsimp only; omega, by dsimp only; omega, e0.1, e0.2⟩, hv.1, .inl hv.2⟩
  · rw [if_neg hl, if_neg (by omega)]
    have hv := rem_ok (x := 0) (n := n) (by omega) (by omega)
    rw [tmod_pos (by omega)] at hv
    exact ⟨_, rfl, ⟨hb, by dsimp only; omega, by dsimp only; omega, e0.1, e0.2⟩, hv.1, .inl hv.2⟩
theorem pickE {s : List Int} {p sd B n : Int} (h : Cu s p sd B) (hB : B ≤ 4611686018427387904) :
    EvP (fun _ => spec_l01Cur_pick.f s p sd n) (fun r => Cu s r.2.1 r.2.2 (B + 1) ∧ 0 ≤ r.1 ∧ (r.1 < n ∨ r.1 = 0)) := EvP.of (pick_ok h hB)
theorem open_ok {s : List Int} (hb : Bs s) : EvP (fun _ => spec_l01Open.f s) (fun r => r.1 = s ∧ Cu s r.2.1 r.2.2 0) := by
  refine EvP.ret ⟨rfl, hb, ?_, ?_, ?_, ?_⟩ <;> dsimp only <;> omega

theorem or_byte {x y : Int} (hx : 0 ≤ x ∧ x ≤ 4294967295) (hy : 0 ≤ y ∧ y ≤ 255) : Go.bits .or .i64 (x * 256) y = x * 256 + y := by
  have hk : ∀ n : Int, 0 ≤ n → n < 2 ^ 40 → IntKind.i64.wrap n = n := fun n h0 h1 => by
    have h2 : n < 1099511627776 := by simpa using h1
    rw [IntKind.wrap_i64]; omega
  have e40 : (2 : Int) ^ 40 = 1099511627776 := by simp
  have e8 : (2 : Int) ^ 8 = 256 := by simp
  exact bits_join .i64 40 (by decide) hk 8 (x * 256) y (by omega) (by rw [e8]; omega) (by rw [e40]; omega) (by omega) (by rw [e8]; omega) (by rw [e40]; omega)
theorem drop_rd {l : List Int} {i : Int} (h0 : 0 ≤ i) (h1 : i < (l.length : Int)) : l.drop i.toNat = rd l i :: l.drop (i.toNat + 1) := by
  rw [rd_get l i h0 h1]
  exact List.drop_eq_getElem_cons (by omega)

theorem big_ok (s : List Int) : EvP (fun _ => laws_big.f s) (fun b => b = false → (s.length : Int) ≤ 1048576) := by
  unfold laws_big.f
  refine EvP.ret (fun h => ?_)
  simp at h
  omega

/-! ### ones' complement sums, plain -/
def sm (a b : Int) : Int := if a + b > 65535 then a + b - 65535 else a + b
theorem sm_range {a b : Int} (ha : 0 ≤ a ∧ a ≤ 65535) (hb : 0 ≤ b ∧ b ≤ 65535) : 0 ≤ sm a b ∧ sm a b ≤ 65535 := by unfold sm; split <;> omega
theorem sm_mod {a b : Int} : (sm a b - (a + b)) % 65535 = 0 := by unfold sm; split <;> omega
theorem sm_comm (a b : Int) : sm a b = sm b a := by unfold sm; rw [Int.add_comm]
theorem sm_assoc {a b c : Int} (ha : 0 ≤ a ∧ a ≤ 65535) (hb : 0 ≤ b ∧ b ≤ 65535) (hc : 0 ≤ c ∧ c ≤ 65535) : sm (sm a b) c = sm a (sm b c) := by
  unfold sm; split <;> split <;> split <;> (try split) <;> omega
theorem sm_zero {a b : Int} (ha : 0 ≤ a) (hb : 0 ≤ b) (h : a ≠ 0 ∨ b ≠ 0) : sm a b ≠ 0 := by unfold sm; split <;> omega
def wsum : List Int → Int → Int
  | [], a => a
  | [x], a => sm a (x * 256)
  | x :: y :: t, a => wsum t (sm a (x * 256 + y))
def wtot : List Int → Int
  | [] => 0
  | [x] => x * 256
  | x :: y :: t => x * 256 + y + wtot t
theorem wsum_range : ∀ (l : List Int) (a : Int), Bs l → 0 ≤ a ∧ a ≤ 65535 → 0 ≤ wsum l a ∧ wsum l a ≤ 65535
  | [], a, _, ha => ha
  | [x], a, h, ha => by
    have := h x (by simp)
    exact sm_range ha (by omega)
  | x :: y :: t, a, h, ha => by
    have h1 := h x (by simp)
    have h2 := h y (by simp)
    exact wsum_range t _ (fun z hz => h z (by simp [hz])) (sm_range ha (by omega))
theorem wsum_mod : ∀ (l : List Int) (a : Int), (wsum l a - (a + wtot l)) % 65535 = 0
  | [], a => by simp [wsum, wtot]
  | [x], a => sm_mod
  | x :: y :: t, a => by
    have h1 := wsum_mod t (sm a (x * 256 + y))
    have h2 := sm_mod (a := a) (b := x * 256 + y)
    simp only [wsum, wtot]
    generalize sm a (x * 256 + y) = q at *
    generalize wsum t q = r at *
    omega
theorem wsum_pos : ∀ (l : List Int) (a : Int), Bs l → 0 < a → a ≤ 65535 → 0 < wsum l a
  | [], a, _, h, _ => h
  | [x], a, h, ha, h1 => by
    have := h x (by simp)
    have z := sm_zero (a := a) (b := x * 256) (by omega) (by omega) (.inl (by omega))
    have r := sm_range (a := a) (b := x * 256) (by omega) (by omega)
    simp only [wsum]; omega
  | x :: y :: t, a, h, ha, h3 => by
    have h1 := h x (by simp)
    have h2 := h y (by simp)
    have z := sm_zero (a := a) (b := x * 256 + y) (by omega) (by omega) (.inl (by omega))
    have r := sm_range (a := a) (b := x * 256 + y) (by omega) (by omega)
    exact wsum_pos t _ (fun z hz => h z (by simp [hz])) (by omega) (by omega)
theorem wtot_set : ∀ (l : List Int) (i : Nat) (v : Int) (hi : i < l.length), wtot (l.set i v) = wtot l + (v - l[i]) * (if i % 2 = 0 then 256 else 1)
  | [], i, v, hi => by simp at hi
  | [x], i, v, hi => by
    obtain rfl : i = 0 := by simpa using hi
    simp [wtot]; omega
  | x :: y :: t, 0, v, hi => by simp [wtot]; omega
  | x :: y :: t, 1, v, hi => by simp [wtot]; omega
  | x :: y :: t, i + 2, v, hi => by
    have hi' : i < t.length := by simpa using hi
    have ih := wtot_set t i v hi'
    have e : (i + 2) % 2 = i % 2 := by omega
    simp only [List.set_cons_succ, wtot, List.getElem_cons_succ, e]
    rw [ih]; omega
theorem wtot_app : ∀ (l m : List Int), l.length % 2 = 0 → wtot (l ++ m) = wtot l + wtot m
  | [], m, _ => by simp [wtot]
  | [x], m, h => by simp at h
  | x :: y :: t, m, h => by
    have ih := wtot_app t m (by simp at h; omega)
    simp only [List.cons_append, wtot, ih]; omega
theorem wsum_app : ∀ (l m : List Int) (a : Int), l.length % 2 = 0 → wsum (l ++ m) a = wsum m (wsum l a)
  | [], m, a, _ => by simp [wsum]
  | [x], m, a, h => by simp at h
  | x :: y :: t, m, a, h => by
    have ih := wsum_app t m (sm a (x * 256 + y)) (by simp at h; omega)
    simp only [List.cons_append, wsum, ih]

/-! ### the program's sums -/
theorem sum_ok {a b : Int} (ha : 0 ≤ a ∧ a ≤ 65535) (hb : 0 ≤ b ∧ b ≤ 65535) : impl_sum.f a b = some (sm a b) := by
  unfold impl_sum.f sm
  rw [w64 (x := a + b) (by omega) (by omega)]
  split
  · rw [w64 (by omega) (by omega)]
  · rfl

/-! ### drawn bytes -/
theorem size_ok {s : List Int} {p sd B n : Int} (h : Cu s p sd B) (hB : B ≤ 4611686018427387904) (hl : (s.length : Int) ≤ 1048576) (h0 : 0 ≤ n) (hn : n ≤ 1000) :
    EvP (fun _ => spec_l01Cur_size.f s p sd n) (fun r => Cu s r.2.1 r.2.2 (B + 1) ∧ 0 ≤ r.1 ∧ r.1 ≤ n) := by
  unfold spec_l01Cur_size.f
  have e : 0 ≤ mn n (wrap64 (1 + (wrap64 ((s.length : Int) / 8)))) ∧ mn n (wrap64 (1 + (wrap64 ((s.length : Int) / 8)))) ≤ n := by
    rw [w64 (x := (s.length : Int) / 8) (by omega) (by omega), w64 (by omega) (by omega)]
    unfold mn; omega
  generalize mn n (wrap64 (1 + (wrap64 ((s.length : Int) / 8)))) = m at e
  rw [w64 (x := m + 1) (by omega) (by omega)]
  refine EvP.bind (pickE h hB) ?_
  rintro ⟨x, p', s'⟩ ⟨c, x0, x1⟩
  dsimp only at *
  exact EvP.ret ⟨c, x0, by dsimp only; omega⟩

theorem w64r {x : Int} : -9223372036854775808 ≤ wrap64 x ∧ wrap64 x ≤ 9223372036854775807 := ⟨w64_lo x, w64_hi x⟩
theorem raw_ok {s : List Int} {p sd B : Int} (h : Cu s p sd B) (hB : B ≤ 1000000000000) :
    EvP (fun _ => spec_l01Cur_raw.f s p sd) (fun r => Cu s r.2.1 r.2.2 (B + 2) ∧ -9223372036854775808 ≤ r.1 ∧ r.1 ≤ 9223372036854775807) := by
  unfold spec_l01Cur_raw.f
  refine EvP.bind (pickE (n := 8) h (by omega)) ?_
  rintro ⟨a, p1, s1⟩ ⟨c1, a0, a1⟩
  dsimp only at *
  refine EvP.ite (fun _ => ?_) (fun _ => EvP.ite (fun _ => ?_) (fun _ => ?_))
  · refine EvP.bind (pickE (n := 256) c1 (by omega)) ?_
    rintro ⟨b, p2, s2⟩ ⟨c2, b0, b1⟩
    exact EvP.ret ⟨c2.le (by omega), w64r⟩
  · refine EvP.bind (EvP.ret (P := fun y => y.length = 8 ∧ ∀ i : Int, 0 ≤ i → i < 8 → -9223372036854775808 ≤ rd y i ∧ rd y i ≤ 9223372036854775807) ⟨rfl, fun i h0 h8 => ?_⟩) ?_
    · have : i = 0 ∨ i = 1 ∨ i = 2 ∨ i = 3 ∨ i = 4 ∨ i = 5 ∨ i = 6 ∨ i = 7 := by omega
      rcases this with e | e | e | e | e | e | e | e <;> rw [e] <;> decide
    · rintro y ⟨hy, hv⟩
      refine EvP.bind (pickE (n := 8) c1 (by omega)) ?_
      rintro ⟨b, p2, s2⟩ ⟨c2, b0, b1⟩
      dsimp only at *
      exact EvP.yes b0 (EvP.yes (by omega) (EvP.ret ⟨c2.le (by omega), hv b b0 (by omega)⟩))
  · refine EvP.bind (pickE (n := 14) c1 (by omega)) ?_
    rintro ⟨b, p2, s2⟩ ⟨c2, b0, b1⟩
    exact EvP.ret ⟨c2.le (by omega), w64r⟩

/-! ### words -/
def isW (x : Int) : Bool := decide (0 ≤ x ∧ x ≤ 65535)
theorem isW_iff {x : Int} : isW x = true ↔ 0 ≤ x ∧ x ≤ 65535 := by unfold isW; exact decide_eq_true_iff
theorem isWord_ok (x : Int) : impl_isWord.f x = some (isW x) := by
  unfold impl_isWord.f impl_within.f isW
  split
  · rw [Option.bind_some]; congr 1; exact decide_eq_decide.2 (by omega)
  · rw [Option.bind_some]; congr 1; symm; exact decide_eq_false (by omega)
theorem areWords_l0 {l : List Int} (hl : (l.length : Int) ≤ 1000000) : ∀ (d : Nat) (i : Int), 0 ≤ i → i + d = (l.length : Int) →
    EvP (fun k => impl_areWords.l0 k l (l.length : Int) i) (fun r => r = (l.drop i.toNat).all isW) := by
  intro d
  induction d with
  | zero =>
    intro i h0 hd
    refine EvP.step ?_
    simp only [impl_areWords.l0]
    refine EvP.no (by omega) (EvP.ret ?_)
    rw [List.drop_of_length_le (by omega)]; rfl
  | succ d ih =>
    intro i h0 hd
    refine EvP.step ?_
    simp only [impl_areWords.l0]
    refine EvP.yes (by omega) (EvP.yes (by omega) (EvP.yes (by omega) ?_))
    simp only [isWord_ok, Option.bind_some, w64 (x := i + 1) (by omega) (by omega)]
    rw [drop_rd h0 (by omega), List.all_cons, show i.toNat + 1 = (i + 1).toNat by omega]
    refine EvP.ite (fun h => ?_) (fun h => ?_)
    · rw [h, Bool.true_and]
      exact ih (i + 1) (by omega) (by omega)
    · rw [Bool.eq_false_iff.2 h, Bool.false_and]
      exact EvP.ret rfl
theorem areWords_ok {l : List Int} (hl : (l.length : Int) ≤ 1000000) : EvP (fun k => impl_areWords.f k l) (fun r => r = l.all isW) := by
  have := areWords_l0 hl l.length 0 (by omega) (by omega)
  simpa [impl_areWords.f] using this
/-- One word exchanged, of the sum (not the checksum). -/
def sw (c a b : Int) : Int := 65535 - sm (sm (65535 - c) (65535 - a)) b
theorem sw_range {c a b : Int} (hc : 0 ≤ c ∧ c ≤ 65535) (ha : 0 ≤ a ∧ a ≤ 65535) (hb : 0 ≤ b ∧ b ≤ 65535) : 0 ≤ sw c a b ∧ sw c a b ≤ 65535 := by
  have := sm_range (a := sm (65535 - c) (65535 - a)) (b := b) (sm_range (by omega) (by omega)) hb
  unfold sw; omega
theorem swap_ok {c a b : Int} (hc : 0 ≤ c ∧ c ≤ 65535) (ha : 0 ≤ a ∧ a ≤ 65535) (hb : 0 ≤ b ∧ b ≤ 65535) : impl_swap.f c a b = some (sw c a b) := by
  unfold impl_swap.f
  have h1 := sm_range (a := 65535 - c) (b := 65535 - a) (by omega) (by omega)
  have h2 := sm_range (a := sm (65535 - c) (65535 - a)) (b := b) h1 hb
  rw [w64 (x := 65535 - c) (by omega) (by omega), w64 (x := 65535 - a) (by omega) (by omega), sum_ok (by omega) (by omega), Option.bind_some, sum_ok h1 hb, Option.bind_some, w64 (by omega) (by omega)]
  rfl

/-! ### the reference's sums -/
theorem word_ok (x : Int) : spec_l02Word.f x = some (isW x) := by
  unfold spec_l02Word.f isW
  split
  · congr 1; exact decide_eq_decide.2 (by omega)
  · congr 1; symm; exact decide_eq_false (by omega)
theorem sumAdd_ok {a b : Int} (ha : 0 ≤ a ∧ a ≤ 65535) (hb : 0 ≤ b ∧ b ≤ 65535) : EvP (fun k => spec_SumAdd.f k a b) (fun r => r = sm a b) := by
  unfold spec_SumAdd.f
  simp only [word_ok, Option.bind_some, isW_iff.2 ha, isW_iff.2 hb]
  refine EvP.yes (by simp) (EvP.step ?_)
  simp only [spec_SumAdd.j0]
  refine EvP.no (by simp) ?_
  simp only [w64 (x := a + b) (by omega) (by omega)]
  unfold sm
  refine EvP.ite (fun h => EvP.ret ?_) (fun h => EvP.ret ?_)
  · rw [if_pos h, w64 (by omega) (by omega)]
  · rw [if_neg h]

theorem word_draw {s : List Int} {p sd B : Int} (h : Cu s p sd B) (hB : B ≤ 900000000000) :
    EvP (fun _ => spec_l01Cur_word.f s p sd) (fun r => Cu s r.2.1 r.2.2 (B + 3)) := by
  unfold spec_l01Cur_word.f
  refine EvP.bind (pickE (n := 9) h (by omega)) ?_
  rintro ⟨a, p1, s1⟩ ⟨c1, a0, a1⟩
  dsimp only at *
  refine EvP.ite (fun _ => ?_) (fun _ => EvP.ite (fun _ => ?_) (fun _ => ?_))
  · refine EvP.bind (EvP.ret (P := fun y => y.length = 5) rfl) ?_
    intro y hy
    refine EvP.bind (pickE (n := 5) c1 (by omega)) ?_
    rintro ⟨b, p2, s2⟩ ⟨c2, b0, b1⟩
    dsimp only at c2 b0 b1 hy ⊢
    refine EvP.yes b0 (EvP.yes ?_ (EvP.ret (c2.le (by omega))))
    rw [hy]; omega
  · refine EvP.bind (raw_ok c1 (by omega)) ?_
    rintro ⟨b, p2, s2⟩ ⟨c2, b0, b1⟩
    exact EvP.ret (c2.le (by omega))
  · refine EvP.bind (pickE (n := 256) c1 (by omega)) ?_
    rintro ⟨b, p2, s2⟩ ⟨c2, b0, b1⟩
    dsimp only at *
    refine EvP.bind (pickE (n := 256) c2 (by omega)) ?_
    rintro ⟨d, p3, s3⟩ ⟨c3, d0, d1⟩
    exact EvP.ret (c3.le (by omega))
def Drawn3 (r : Int × List Int × List Int) : Prop := (0 ≤ r.1 ∧ r.1 ≤ 65535) ∧ r.2.1.length ≤ 100 ∧ r.2.2.length ≤ 100
theorem two_picks {s : List Int} {p sd B : Int} (h : Cu s p sd B) (hB : B ≤ 1000000000000) {a b : List Int} (ha : a.length ≤ 100) (hb : b.length ≤ 100) :
    EvP (fun _ => (spec_l01Cur_pick.f s p sd 256).bind fun x => (spec_l01Cur_pick.f s x.2.1 x.2.2 256).bind fun y => (some (wrap64 ((wrap64 (256 * x.1)) + y.1), a, b))) Drawn3 := by
  refine EvP.bind (pickE (n := 256) h (by omega)) ?_
  rintro ⟨x, p1, s1⟩ ⟨c1, x0, x1⟩
  dsimp only at *
  refine EvP.bind (pickE (n := 256) c1 (by omega)) ?_
  rintro ⟨y, p2, s2⟩ ⟨c2, y0, y1⟩
  dsimp only at *
  refine EvP.ret ⟨?_, ha, hb⟩
  dsimp only
  rw [w64 (x := 256 * x) (by omega) (by omega), w64 (by omega) (by omega)]
  omega
theorem draw_l1 {s : List Int} : ∀ (d : Nat) (a b : List Int) (p sd B : Int), Cu s p sd B → B + 10 * d ≤ 1000000000 → a.length + d ≥ 42 → 42 ≥ d → a.length ≤ 60 → b.length + d ≤ 100 →
    EvP (fun k => spec_DrawSumSwaps.l1 k a b s p sd) Drawn3 := by
  intro d
  induction d with
  | zero =>
    intro a b p sd B h hB h1 _ h2 h3
    refine EvP.step ?_
    simp only [spec_DrawSumSwaps.l1]
    refine EvP.bind (pickE (n := 2) h (by omega)) ?_
    rintro ⟨x, p1, s1⟩ ⟨c1, x0, x1⟩
    dsimp only at *
    simp only [w64 (x := 40 + x) (by omega) (by omega)]
    refine EvP.no (by omega) ?_
    exact two_picks c1 (by omega) (by omega) (by omega)
  | succ d ih =>
    intro a b p sd B h hB h1 hd h2 h3
    refine EvP.step ?_
    simp only [spec_DrawSumSwaps.l1]
    refine EvP.bind (pickE (n := 2) h (by omega)) ?_
    rintro ⟨x, p1, s1⟩ ⟨c1, x0, x1⟩
    dsimp only at *
    simp only [w64 (x := 40 + x) (by omega) (by omega)]
    refine EvP.ite (fun hlt => ?_) (fun _ => two_picks c1 (by omega) (by omega) (by omega))
    refine EvP.bind (pickE (n := 256) c1 (by omega)) ?_
    rintro ⟨y, p2, s2⟩ ⟨c2, y0, y1⟩
    dsimp only at *
    refine EvP.yes (by omega) (EvP.bind (pickE (n := 256) c2 (by omega)) ?_)
    rintro ⟨z, p3, s3⟩ ⟨c3, z0, z1⟩
    dsimp only at *
    refine EvP.yes (by omega) ?_
    exact ih _ _ _ _ _ c3 (by omega) (by simp only [List.length_append, List.length_cons, List.length_nil]; omega) (by omega) (by simp only [List.length_append, List.length_cons, List.length_nil]; omega) (by simp only [List.length_append, List.length_cons, List.length_nil]; omega)
theorem draw_l0 {s : List Int} : ∀ (d : Nat) (a b : List Int) (m p sd B : Int), Cu s p sd B → B + 10 * d ≤ 100000 → 0 ≤ m → m ≤ d → a.length + d ≤ 20 → b.length + d ≤ 20 →
    EvP (fun k => spec_DrawSumSwaps.l0 k a b m s p sd) Drawn3 := by
  have last : ∀ (a b : List Int) (p sd B : Int), Cu s p sd B → B ≤ 100000 → a.length ≤ 20 → b.length ≤ 20 →
      EvP (fun k => (spec_l01Cur_pick.f s p sd 14).bind fun bt170 => (if bt170.1 = 0 then (if a.length < 17592186044416 then ((spec_l01Cur_pick.f s bt170.2.1 bt170.2.2 256).bind fun bt176 => ((spec_l01Cur_pick.f s bt176.2.1 bt176.2.2 256).bind fun bt179 => (some (wrap64 ((wrap64 (256 * bt176.1)) + bt179.1), (a ++ [1]), b)))) else (none)) else (if bt170.1 = 1 then (spec_DrawSumSwaps.l1 k a b s bt170.2.1 bt170.2.2) else ((spec_l01Cur_pick.f s bt170.2.1 bt170.2.2 256).bind fun bt203 => ((spec_l01Cur_pick.f s bt203.2.1 bt203.2.2 256).bind fun bt206 => (some (wrap64 ((wrap64 (256 * bt203.1)) + bt206.1), a, b))))))) Drawn3 := by
    intro a b p sd B h hB ha hb
    refine EvP.bind (pickE (n := 14) h (by omega)) ?_
    rintro ⟨x, p1, s1⟩ ⟨c1, x0, x1⟩
    dsimp only at *
    refine EvP.ite (fun _ => ?_) (fun _ => EvP.ite (fun _ => ?_) (fun _ => ?_))
    · refine EvP.yes (by omega) ?_
      exact two_picks c1 (by omega) (by simp only [List.length_append, List.length_cons, List.length_nil]; omega) (by omega)
    · exact draw_l1 42 a b p1 s1 _ c1 (by omega) (by omega) (by omega) (by omega) (by omega)
    · exact two_picks c1 (by omega) (by omega) (by omega)
  intro d
  induction d with
  | zero =>
    intro a b m p sd B h hB h0 hm ha hb
    refine EvP.step ?_
    simp only [spec_DrawSumSwaps.l0]
    exact EvP.no (by omega) (last a b p sd B h (by omega) (by omega) (by omega))
  | succ d ih =>
    intro a b m p sd B h hB h0 hm ha hb
    refine EvP.step ?_
    simp only [spec_DrawSumSwaps.l0]
    refine EvP.ite (fun hp => ?_) (fun _ => last a b p sd B h (by omega) (by omega) (by omega))
    refine EvP.bind (pickE (n := 256) h (by omega)) ?_
    rintro ⟨x, p1, s1⟩ ⟨c1, x0, x1⟩
    dsimp only at *
    refine EvP.bind (pickE (n := 256) c1 (by omega)) ?_
    rintro ⟨y, p2, s2⟩ ⟨c2, y0, y1⟩
    dsimp only at *
    refine EvP.yes (by omega) (EvP.bind (word_draw c2 (by omega)) ?_)
    rintro ⟨z, p3, s3⟩ c3
    dsimp only at *
    refine EvP.yes (by omega) ?_
    simp only [w64 (x := m - 1) (by omega) (by omega)]
    exact ih _ _ _ _ _ _ c3 (by omega) (by omega) (by omega) (by simp only [List.length_append, List.length_cons, List.length_nil]; omega) (by simp only [List.length_append, List.length_cons, List.length_nil]; omega)
theorem drawSwaps {s : List Int} (hb : Bs s) (hl : (s.length : Int) ≤ 1048576) : EvP (fun k => spec_DrawSumSwaps.f k s) Drawn3 := by
  unfold spec_DrawSumSwaps.f
  refine EvP.bind (open_ok hb) ?_
  rintro ⟨s', p, sd⟩ ⟨rfl, c⟩
  refine EvP.bind (size_ok (n := 12) c (by omega) hl (by omega) (by omega)) ?_
  rintro ⟨m, p1, s1⟩ ⟨c1, m0, m1⟩
  dsimp only at *
  exact draw_l0 12 [] [] m p1 s1 _ c1 (by omega) m0 (by omega) (by simp) (by simp)

/-- What both sides compute. -/
def swaps (c : Int) : List Int → List Int → Int
  | a :: us, b :: vs => swaps (sw c a b) us vs
  | _, _ => c
def Sw (c : Int) (us vs : List Int) : Int := if us.length = vs.length ∧ us.length ≤ 40 ∧ isW c = true ∧ us.all isW = true ∧ vs.all isW = true then swaps c us vs else -1
theorem swaps_range : ∀ (us vs : List Int) (c : Int), (0 ≤ c ∧ c ≤ 65535) → us.all isW = true → vs.all isW = true → 0 ≤ swaps c us vs ∧ swaps c us vs ≤ 65535
  | [], _, c, hc, _, _ => by simpa [swaps] using hc
  | _ :: _, [], c, hc, _, _ => by simpa [swaps] using hc
  | a :: us, b :: vs, c, hc, ha, hb => by
    simp only [List.all_cons, Bool.and_eq_true] at ha hb
    exact swaps_range us vs _ (sw_range hc (isW_iff.1 ha.1) (isW_iff.1 hb.1)) ha.2 hb.2
theorem sw_comm {c a b a' b' : Int} (hc : 0 ≤ c ∧ c ≤ 65535) (ha : 0 ≤ a ∧ a ≤ 65535) (hb : 0 ≤ b ∧ b ≤ 65535) (ha' : 0 ≤ a' ∧ a' ≤ 65535) (hb' : 0 ≤ b' ∧ b' ≤ 65535) :
    sw (sw c a b) a' b' = sw (sw c a' b') a b := by
  unfold sw
  have e : ∀ x : Int, 65535 - (65535 - x) = x := fun x => by omega
  rw [e, e]
  congr 1
  have r1 : 0 ≤ 65535 - c ∧ 65535 - c ≤ 65535 := by omega
  have r2 : 0 ≤ 65535 - a ∧ 65535 - a ≤ 65535 := by omega
  have r3 : 0 ≤ 65535 - a' ∧ 65535 - a' ≤ 65535 := by omega
  generalize 65535 - c = z at *
  generalize 65535 - a = x at *
  generalize 65535 - a' = y at *
  rw [sm_assoc (sm_range (sm_range r1 r2) hb) r3 hb', sm_assoc (sm_range r1 r2) hb (sm_range r3 hb'), sm_comm b, ← sm_assoc (sm_range r1 r2) (sm_range r3 hb') hb, sm_assoc r1 r2 (sm_range r3 hb'), sm_comm x,
    ← sm_assoc r1 (sm_range r3 hb') r2, ← sm_assoc r1 r3 hb']
theorem swaps_snoc : ∀ (us vs : List Int) (c a b : Int), (0 ≤ c ∧ c ≤ 65535) → us.all isW = true → vs.all isW = true → (0 ≤ a ∧ a ≤ 65535) → (0 ≤ b ∧ b ≤ 65535) → us.length = vs.length →
    swaps c (us ++ [a]) (vs ++ [b]) = swaps (sw c a b) us vs
  | [], [], c, a, b, _, _, _, _, _, _ => rfl
  | [], _ :: _, _, _, _, _, _, _, _, _, h => by simp at h
  | _ :: _, [], _, _, _, _, _, _, _, _, h => by simp at h
  | x :: us, y :: vs, c, a, b, hc, hx, hy, ha, hb, hl => by
    simp only [List.all_cons, Bool.and_eq_true] at hx hy
    have ih := swaps_snoc us vs (sw c x y) a b (sw_range hc (isW_iff.1 hx.1) (isW_iff.1 hy.1)) hx.2 hy.2 ha hb (by simpa using hl)
    simp only [List.cons_append, swaps]
    rw [ih, sw_comm hc (isW_iff.1 hx.1) (isW_iff.1 hy.1) ha hb]
theorem swaps_rev : ∀ (us vs : List Int) (c : Int), (0 ≤ c ∧ c ≤ 65535) → us.all isW = true → vs.all isW = true → us.length = vs.length → swaps c us.reverse vs.reverse = swaps c us vs
  | [], [], c, _, _, _, _ => rfl
  | [], _ :: _, _, _, _, _, h => by simp at h
  | _ :: _, [], _, _, _, _, h => by simp at h
  | x :: us, y :: vs, c, hc, hx, hy, hl => by
    simp only [List.all_cons, Bool.and_eq_true] at hx hy
    have hl' : us.length = vs.length := by simpa using hl
    rw [List.reverse_cons, List.reverse_cons, swaps_snoc _ _ _ _ _ hc (by rw [List.all_reverse]; exact hx.2) (by rw [List.all_reverse]; exact hy.2) (isW_iff.1 hx.1) (isW_iff.1 hy.1) (by simpa using hl'),
      swaps_rev us vs _ (sw_range hc (isW_iff.1 hx.1) (isW_iff.1 hy.1)) hx.2 hy.2 hl']
    rfl
theorem Sw_rev (c : Int) (us vs : List Int) : Sw c us.reverse vs.reverse = Sw c us vs := by
  unfold Sw
  simp only [List.length_reverse, List.all_reverse]
  split
  · rename_i h
    exact swaps_rev us vs c (isW_iff.1 h.2.2.1) h.2.2.2.1 h.2.2.2.2 h.1
  · rfl
theorem all_at {l : List Int} (h : l.all isW = true) {i : Int} (h0 : 0 ≤ i) (h1 : i < (l.length : Int)) : 0 ≤ rd l i ∧ rd l i ≤ 65535 := by
  rw [rd_get l i h0 h1]
  exact isW_iff.1 (List.all_eq_true.1 h _ (List.getElem_mem _))
theorem specSwap_ok {c a b : Int} (hc : 0 ≤ c ∧ c ≤ 65535) (ha : 0 ≤ a ∧ a ≤ 65535) (hb : 0 ≤ b ∧ b ≤ 65535) : EvP (fun k => spec_SumSwap.f k c a b) (fun r => r = sw c a b) := by
  unfold spec_SumSwap.f
  simp only [word_ok, Option.bind_some, isW_iff.2 hc, isW_iff.2 ha, isW_iff.2 hb]
  refine EvP.yes (by simp) (EvP.yes (by simp) (EvP.step ?_))
  simp only [spec_SumSwap.j0]
  refine EvP.no (by simp) ?_
  simp only [w64 (x := 65535 - c) (by omega) (by omega), w64 (x := 65535 - a) (by omega) (by omega)]
  have h1 := sm_range (a := 65535 - c) (b := 65535 - a) (by omega) (by omega)
  have h2 := sm_range (a := sm (65535 - c) (65535 - a)) (b := b) h1 hb
  refine EvP.bind (sumAdd_ok (by omega) (by omega)) ?_
  rintro _ rfl
  refine EvP.bind (sumAdd_ok h1 hb) ?_
  rintro _ rfl
  exact EvP.ret (w64 (by omega) (by omega))
theorem specSwaps_l1 {us vs : List Int} (hl : us.length = vs.length) (h40 : us.length ≤ 40) (ha : us.all isW = true) (hb : vs.all isW = true) : ∀ (d : Nat) (c i : Int), 0 ≤ i → i + d = (us.length : Int) → (0 ≤ c ∧ c ≤ 65535) →
    EvP (fun k => spec_SumSwaps.l1 k c us vs i) (fun r => r = swaps c (us.drop i.toNat) (vs.drop i.toNat)) := by
  intro d
  induction d with
  | zero =>
    intro c i h0 hd hc
    refine EvP.step ?_
    simp only [spec_SumSwaps.l1]
    refine EvP.no (by omega) (EvP.ret ?_)
    rw [List.drop_of_length_le (by omega)]; rfl
  | succ d ih =>
    intro c i h0 hd hc
    refine EvP.step ?_
    simp only [spec_SumSwaps.l1]
    refine EvP.yes (by omega) (EvP.yes h0 (EvP.yes (by omega) ?_))
    have h1 := all_at ha h0 (show i < (us.length : Int) by omega)
    have h2 := all_at hb h0 (show i < (vs.length : Int) by omega)
    refine EvP.bind (specSwap_ok hc h1 h2) ?_
    rintro _ rfl
    simp only [w64 (x := i + 1) (by omega) (by omega)]
    rw [drop_rd h0 (by omega), drop_rd h0 (by omega), show i.toNat + 1 = (i + 1).toNat by omega]
    exact ih _ (i + 1) (by omega) (by omega) (sw_range hc h1 h2)
theorem specSwaps_l0 {us vs : List Int} {c : Int} (hl : us.length = vs.length) (h40 : us.length ≤ 40) (hc : 0 ≤ c ∧ c ≤ 65535) : ∀ (d : Nat) (i : Int), 0 ≤ i → i + d = (us.length : Int) →
    (us.take i.toNat).all isW = true → (vs.take i.toNat).all isW = true →
    EvP (fun k => spec_SumSwaps.l0 k c us vs i) (fun r => r = if us.all isW = true ∧ vs.all isW = true then swaps c us vs else -1) := by
  intro d
  induction d with
  | zero =>
    intro i h0 hd ha hb
    rw [List.take_of_length_le (by omega)] at ha hb
    refine EvP.step ?_
    simp only [spec_SumSwaps.l0]
    refine EvP.no (by omega) ?_
    rw [if_pos ⟨ha, hb⟩]
    have := specSwaps_l1 hl h40 ha hb us.length c 0 (by omega) (by omega) hc
    simpa using this
  | succ d ih =>
    intro i h0 hd ha hb
    refine EvP.step ?_
    simp only [spec_SumSwaps.l0]
    refine EvP.yes (by omega) (EvP.yes h0 ?_)
    simp only [word_ok, Option.bind_some]
    have ia : us.take (i + 1).toNat = us.take i.toNat ++ [rd us i] := by
      rw [rd_get us i h0 (by omega), show (i + 1).toNat = i.toNat + 1 by omega]; exact List.take_succ_eq_append_getElem (by omega)
    have ib : vs.take (i + 1).toNat = vs.take i.toNat ++ [rd vs i] := by
      rw [rd_get vs i h0 (by omega), show (i + 1).toNat = i.toNat + 1 by omega]; exact List.take_succ_eq_append_getElem (by omega)
    have ma : rd us i ∈ us := by rw [rd_get us i h0 (by omega)]; exact List.getElem_mem _
    have mb : rd vs i ∈ vs := by rw [rd_get vs i h0 (by omega)]; exact List.getElem_mem _
    refine EvP.ite (fun h1 => EvP.yes (by omega) ?_) (fun h1 => EvP.ret ?_)
    · refine EvP.ite (fun h2 => ?_) (fun h2 => EvP.ret ?_)
      · simp only [w64 (x := i + 1) (by omega) (by omega)]
        exact ih (i + 1) (by omega) (by omega) (by rw [ia, List.all_append, ha]; simp [h1]) (by rw [ib, List.all_append, hb]; simp [h2])
      · rw [if_neg (fun h => h2 (List.all_eq_true.1 h.2 _ mb))]
    · rw [if_neg (fun h => h1 (List.all_eq_true.1 h.1 _ ma))]
theorem specSwaps_ok (c : Int) (us vs : List Int) : EvP (fun k => spec_SumSwaps.f k c us vs) (fun r => r = Sw c us vs) := by
  unfold spec_SumSwaps.f Sw
  refine EvP.ite (fun h1 => ?_) (fun h1 => ?_)
  · refine EvP.ite (fun h2 => ?_) (fun h2 => ?_)
    · refine EvP.step ?_
      simp only [spec_SumSwaps.j0]
      refine EvP.yes (by simp) (EvP.ret ?_)
      rw [if_neg (by omega)]
    · simp only [word_ok, Option.bind_some]
      refine EvP.step ?_
      simp only [spec_SumSwaps.j0]
      by_cases hc : isW c = true
      · rw [hc]
        refine EvP.no (by simp) ?_
        refine (specSwaps_l0 (by omega) (by omega) (isW_iff.1 hc) us.length 0 (by omega) (by omega) (by simp) (by simp)).mono ?_
        rintro _ rfl
        by_cases h : us.all isW = true ∧ vs.all isW = true
        · rw [if_pos h, if_pos ⟨by omega, by omega, rfl, h⟩]
        · rw [if_neg h, if_neg (fun z => h z.2.2.2)]
      · refine EvP.yes (by simpa using hc) (EvP.ret ?_)
        rw [if_neg (fun z => hc z.2.2.1)]
  · refine EvP.step ?_
    simp only [spec_SumSwaps.j0]
    refine EvP.yes (by simp) (EvP.ret ?_)
    rw [if_neg (by omega)]
theorem implSwaps_l0 {us vs : List Int} (hl : us.length = vs.length) (h40 : us.length ≤ 40) (ha : us.all isW = true) (hb : vs.all isW = true) : ∀ (d : Nat) (c i : Int), 0 ≤ i → i + d = (us.length : Int) → (0 ≤ c ∧ c ≤ 65535) →
    EvP (fun k => impl_SumSwaps.l0 k c vs us (us.length : Int) i) (fun r => r = swaps c (us.drop i.toNat) (vs.drop i.toNat)) := by
  intro d
  induction d with
  | zero =>
    intro c i h0 hd hc
    refine EvP.step ?_
    simp only [impl_SumSwaps.l0]
    refine EvP.no (by omega) (EvP.ret ?_)
    rw [List.drop_of_length_le (by omega)]; rfl
  | succ d ih =>
    intro c i h0 hd hc
    refine EvP.step ?_
    simp only [impl_SumSwaps.l0]
    have h1 := all_at ha h0 (show i < (us.length : Int) by omega)
    have h2 := all_at hb h0 (show i < (vs.length : Int) by omega)
    refine EvP.yes (by omega) (EvP.yes h0 (EvP.yes (by omega) (EvP.yes (by omega) ?_)))
    simp only [swap_ok hc h1 h2, Option.bind_some, w64 (x := i + 1) (by omega) (by omega)]
    rw [drop_rd h0 (by omega), drop_rd h0 (by omega), show i.toNat + 1 = (i + 1).toNat by omega]
    exact ih _ (i + 1) (by omega) (by omega) (sw_range hc h1 h2)
theorem implSwaps_ok (c : Int) (us vs : List Int) (hb : vs.length ≤ 1000) : EvP (fun k => impl_SumSwaps.f k c us vs) (fun r => r = Sw c us vs) := by
  unfold impl_SumSwaps.f Sw
  have bad : ∀ (P : Prop) [Decidable P], ¬ P → EvP (fun k => impl_SumSwaps.j0 k c us vs true) (fun r => r = if P then swaps c us vs else -1) := fun P _ h => by
    refine EvP.step ?_
    simp only [impl_SumSwaps.j0]
    refine EvP.yes (by simp) (EvP.ret ?_)
    rw [if_neg h]
  refine EvP.ite (fun h1 => ?_) (fun h1 => bad _ (by omega))
  refine EvP.ite (fun h2 => bad _ (by omega)) (fun h2 => ?_)
  simp only [isWord_ok, Option.bind_some]
  refine EvP.ite (fun hc => ?_) (fun hc => bad _ (fun z => hc z.2.2.1))
  refine EvP.bind (areWords_ok (by omega)) ?_
  rintro _ rfl
  refine EvP.ite (fun ha => ?_) (fun ha => bad _ (fun z => ha z.2.2.2.1))
  refine EvP.bind (areWords_ok (by omega)) ?_
  rintro _ rfl
  by_cases hb' : vs.all isW = true
  · rw [hb']
    refine EvP.step ?_
    simp only [impl_SumSwaps.j0]
    refine EvP.no (by simp) ?_
    rw [if_pos ⟨by omega, by omega, hc, ha, by simp⟩]
    have := implSwaps_l0 (by omega) (by omega) ha hb' us.length c 0 (by omega) (by omega) (isW_iff.1 hc)
    simpa using this
  · rw [Bool.eq_false_iff.2 hb']
    exact bad _ (fun z => by simp at z)
theorem rev_step {l : List Int} {i : Int} (h0 : 0 ≤ i) (h1 : i < (l.length : Int)) : [rd l i] ++ (l.take i.toNat).reverse = (l.take (i + 1).toNat).reverse := by
  rw [rd_get l i h0 h1, show (i + 1).toNat = i.toNat + 1 by omega, List.take_succ_eq_append_getElem (by omega), List.reverse_append]
  rfl
theorem law_l1 {c v : Int} {us vs : List Int} (hv : v = Sw c us vs) (hla : us.length ≤ 100) (hlb : vs.length ≤ 100) : ∀ (d : Nat) (i : Int) (b : List Int), 0 ≤ i → i + d = (vs.length : Int) → b = (vs.take i.toNat).reverse →
    EvP (fun k => laws_FnSwapsAny.l1 k c us vs v us.reverse b i) (fun r => r = true) := by
  intro d
  induction d with
  | zero =>
    intro i b h0 hd hb
    rw [List.take_of_length_le (by omega)] at hb
    subst hb hv
    refine EvP.step ?_
    simp only [laws_FnSwapsAny.l1]
    refine EvP.no (by omega) ?_
    refine EvP.bind (implSwaps_ok _ _ _ (by simp; omega)) ?_
    rintro _ rfl
    refine EvP.yes (Sw_rev _ _ _) ?_
    refine EvP.bind (implSwaps_ok _ _ _ (by omega)) ?_
    rintro _ rfl
    exact EvP.ret (by simp)
  | succ d ih =>
    intro i b h0 hd hb
    have hbl : b.length ≤ 100 := by rw [hb, List.length_reverse, List.length_take]; omega
    refine EvP.step ?_
    simp only [laws_FnSwapsAny.l1, Option.bind_some]
    refine EvP.yes (by omega) (EvP.yes h0 (EvP.yes (by simp only [List.length_cons, List.length_nil]; omega) ?_))
    simp only [w64 (x := i + 1) (by omega) (by omega)]
    exact ih (i + 1) _ (by omega) (by omega) (by rw [hb]; exact rev_step h0 (by omega))
theorem law_l0 {c v : Int} {us vs : List Int} (hv : v = Sw c us vs) (hla : us.length ≤ 100) (hlb : vs.length ≤ 100) : ∀ (d : Nat) (i : Int) (a : List Int), 0 ≤ i → i + d = (us.length : Int) → a = (us.take i.toNat).reverse →
    EvP (fun k => laws_FnSwapsAny.l0 k c us vs v a [] i) (fun r => r = true) := by
  intro d
  induction d with
  | zero =>
    intro i a h0 hd ha
    rw [List.take_of_length_le (by omega)] at ha
    subst ha
    refine EvP.step ?_
    simp only [laws_FnSwapsAny.l0]
    exact EvP.no (by omega) (law_l1 hv hla hlb vs.length 0 [] (by omega) (by omega) rfl)
  | succ d ih =>
    intro i a h0 hd ha
    have hal : a.length ≤ 100 := by rw [ha, List.length_reverse, List.length_take]; omega
    refine EvP.step ?_
    simp only [laws_FnSwapsAny.l0, Option.bind_some]
    refine EvP.yes (by omega) (EvP.yes h0 (EvP.yes (by simp only [List.length_cons, List.length_nil]; omega) ?_))
    simp only [w64 (x := i + 1) (by omega) (by omega)]
    exact ih (i + 1) _ (by omega) (by omega) (by rw [ha]; exact rev_step h0 (by omega))
theorem FnSwapsAny : laws_FnSwapsAny.Pure := by
  intro s _ _ hw
  have hb := Bs.of hw
  refine EvP.rounds ?_
  unfold laws_FnSwapsAny.f
  refine EvP.bind (big_ok s) ?_
  intro b hbig
  refine EvP.ite (fun _ => EvP.ret rfl) (fun hb0 => ?_)
  have hl := hbig (by simpa using hb0)
  refine EvP.bind (drawSwaps hb hl) ?_
  rintro ⟨c, us, vs⟩ ⟨hc, ha, hb'⟩
  dsimp only at *
  refine EvP.bind (specSwaps_ok c us vs) ?_
  intro v hv
  exact law_l0 hv ha hb' us.length 0 [] (by omega) (by omega) rfl

end Go.Proofs.Ytbijdkmchdkgfaa.Pure
