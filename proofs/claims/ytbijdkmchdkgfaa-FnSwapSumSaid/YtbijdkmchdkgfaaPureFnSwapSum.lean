/- After one word of some bytes is another, the checksum that SumSwap hands back is the one of the new bytes. No condition. -/
import Derived.Test.YtbijdkmchdkgfaaPFnSwapSumx
import Derived.Laws.BitsLemmas
namespace Go.Proofs.Ytbijdkmchdkgfaa.Pure
open Go.RowKit Go.Proofs.Ytbijdkmchdkgfaa.PFnSwapSum Go.Proofs.YtbijdkmchdkgfaaW.PrintWords Go.Proofs.YtbijdkmchdkgfaaW.PrintLast Go.Proofs.YtbijdkmchdkgfaaW.PrintMore
set_option linter.unusedVariables false
set_option linter.unusedSimpArgs false

def EvP {α : Type} (g : Nat → Option α) (P : α → Prop) : Prop := ∃ r, Ev g r ∧ P r
theorem EvP.of {α : Type} {o : Option α} {P : α → Prop} (h : ∃ r, o = some r ∧ P r) : EvP (fun _ => o) P := by
  obtain ⟨r, rfl, hp⟩ := h
  exact ⟨r, Ev.now r, hp⟩
theorem EvP.ret {α : Type} {r : α} {P : α → Prop} (h : P r) : EvP (fun _ => some r) P := ⟨r, Ev.now r, h⟩
theorem EvP.bind {α β : Type} {g : Nat → Option α} {f : Nat → α → Option β} {P : α → Prop} {Q : β → Prop} (h : EvP g P) (k : ∀ r, P r → EvP (fun n => f n r) Q) : EvP (fun n => (g n).bind (f n)) Q := by
  obtain ⟨r, hr, hp⟩ := h
  obtain ⟨q, hq, hQ⟩ := k r hp
  exact ⟨q, Ev.bind hr hq, hQ⟩
theorem EvP.ite {α : Type} {c : Prop} [Decidable c] {a b : Nat → Option α} {Q : α → Prop} (h : c → EvP a Q) (h' : ¬ c → EvP b Q) : EvP (fun n => if c then a n else b n) Q := by
  by_cases hc : c
  · simp only [if_pos hc]; exact h hc
  · simp only [if_neg hc]; exact h' hc
theorem EvP.yes {α : Type} {c : Prop} [Decidable c] {a b : Nat → Option α} {Q : α → Prop} (hc : c) (h : EvP a Q) : EvP (fun n => if c then a n else b n) Q := by
  simp only [if_pos hc]; exact h
theorem EvP.no {α : Type} {c : Prop} [Decidable c] {a b : Nat → Option α} {Q : α → Prop} (hc : ¬ c) (h : EvP b Q) : EvP (fun n => if c then a n else b n) Q := by
  simp only [if_neg hc]; exact h
theorem EvP.step {α : Type} {g : Nat → Option α} {Q : α → Prop} (h : EvP (fun k => g (k + 1)) Q) : EvP g Q := by
  obtain ⟨r, hr, hq⟩ := h
  exact ⟨r, Ev.step (fun _ => rfl) hr, hq⟩
theorem EvP.mono {α : Type} {g : Nat → Option α} {P Q : α → Prop} (h : EvP g P) (hpq : ∀ r, P r → Q r) : EvP g Q := by
  obtain ⟨r, hr, hp⟩ := h
  exact ⟨r, hr, hpq r hp⟩
theorem EvP.rounds {α : Type} {g : Nat → Option α} {r : α} (h : EvP g (fun x => x = r)) : ∃ k, g k = some r := by
  obtain ⟨q, hq, rfl⟩ := h
  exact hq.rounds
theorem w64 {x : Int} (h0 : -9223372036854775808 ≤ x) (h1 : x ≤ 9223372036854775807) : wrap64 x = x := by unfold wrap64; omega
theorem tmod_pos {a b : Int} (h : 0 ≤ a) : Int.tmod a b = a % b := Int.tmod_eq_emod_of_nonneg h
theorem tdiv_pos {a b : Int} (h : 0 ≤ a) : Int.tdiv a b = a / b := Int.tdiv_eq_ediv_of_nonneg h
def Bs (s : List Int) : Prop := ∀ x ∈ s, 0 ≤ x ∧ x ≤ 255
theorem Bs.nil : Bs [] := fun _ h => by cases h
theorem Bs.snoc {s : List Int} (h : Bs s) {x : Int} (h0 : 0 ≤ x) (h1 : x ≤ 255) : Bs (s ++ [x]) := fun y hy => by
  rcases List.mem_append.1 hy with hy | hy
  · exact h y hy
  · rw [List.mem_singleton.1 hy]; exact ⟨h0, h1⟩
theorem Bs.app {s t : List Int} (h : Bs s) (h' : Bs t) : Bs (s ++ t) := fun y hy => by
  rcases List.mem_append.1 hy with hy | hy
  · exact h y hy
  · exact h' y hy
theorem Bs.take {s : List Int} (h : Bs s) (n : Nat) : Bs (s.take n) := fun y hy => h y (List.mem_of_mem_take hy)
theorem Bs.drop {s : List Int} (h : Bs s) (n : Nat) : Bs (s.drop n) := fun y hy => h y (List.mem_of_mem_drop hy)
theorem Bs.rep (n : Nat) : Bs (List.replicate n 0) := fun y hy => by
  rw [(List.mem_replicate.1 hy).2]; omega
theorem rd_get (s : List Int) (i : Int) (h0 : 0 ≤ i) (h1 : i < (s.length : Int)) : rd s i = s[i.toNat]'(by omega) := by
  unfold rd
  rw [List.getD_eq_getElem?_getD, List.getElem?_eq_getElem (by omega)]
  rfl
theorem Bs.rdb {s : List Int} (h : Bs s) (i : Int) : 0 ≤ rd s i ∧ rd s i ≤ 255 := by
  by_cases hi : i.toNat < s.length
  · unfold rd
    rw [List.getD_eq_getElem?_getD, List.getElem?_eq_getElem hi]
    exact h _ (List.getElem_mem hi)
  · unfold rd
    rw [List.getD_eq_getElem?_getD, List.getElem?_eq_none (by omega)]
    exact ⟨by decide, by decide⟩
theorem Bs.of {s : List Int} (h : ∀ x ∈ s, (Lit.int .u8 x).wf = true) : Bs s := fun x hx => by
  have := h x hx
  simp [Lit.wf, IntKind.min, IntKind.max, IntKind.bits, IntKind.signed] at this
  omega
structure Cu (s : List Int) (p sd B : Int) : Prop where
  bs : Bs s
  p0 : 0 ≤ p
  p1 : p ≤ B
  s0 : 0 ≤ sd
  s1 : sd ≤ 65520
theorem Cu.le {s : List Int} {p sd B B' : Int} (h : Cu s p sd B) (hB : B ≤ B') : Cu s p sd B' := ⟨h.bs, h.p0, by have := h.p1; omega, h.s0, h.s1⟩
theorem seed_ok {sd : Int} (h0 : 0 ≤ sd) (h1 : sd ≤ 65520) : Int.tmod (wrap64 ((wrap64 (sd * 1103)) + 12345)) 65521 = (sd * 1103 + 12345) % 65521 := by
  rw [w64 (x := sd * 1103) (by omega) (by omega), w64 (by omega) (by omega), tmod_pos (by omega)]
theorem rem_ok {x n : Int} (h0 : 0 ≤ x) (hn : 2 ≤ n) : 0 ≤ Int.tmod x n ∧ Int.tmod x n < n := by
  rw [tmod_pos h0]
  exact ⟨Int.emod_nonneg _ (by omega), Int.emod_lt_of_pos _ (by omega)⟩
theorem pick_ok {s : List Int} {p sd B n : Int} (h : Cu s p sd B) (hB : B ≤ 4611686018427387904) :
    ∃ r, spec_l01Cur_pick.f s p sd n = some r ∧ Cu s r.2.1 r.2.2 (B + 1) ∧ 0 ≤ r.1 ∧ (r.1 < n ∨ r.1 = 0) := by
  obtain ⟨hb, p0, p1, s0, s1⟩ := h
  unfold spec_l01Cur_pick.f
  rw [seed_ok s0 s1, w64 (x := p + 1) (by omega) (by omega)]
  have e0 : 0 ≤ (sd * 1103 + 12345) % 65521 ∧ (sd * 1103 + 12345) % 65521 ≤ 65520 := by omega
  generalize (sd * 1103 + 12345) % 65521 = q at e0
  by_cases hn : n < 2
  · rw [if_pos hn]
    exact ⟨_, rfl, ⟨hb, p0, by dsimp only; omega, s0, s1⟩, by dsimp only; omega, .inr rfl⟩
  rw [if_neg hn]
  by_cases hp : p < (s.length : Int)
  · rw [if_pos hp, if_pos p0, if_neg (by omega)]
    have hr := hb.rdb p
    have hm := rem_ok hr.1 (show (2 : Int) ≤ n by omega)
    rw [w64 (x := rd s p) (by omega) (by omega)]
    exact ⟨_, rfl, ⟨hb, by dsimp only; omega, by dsimp only; omega, s0, s1⟩, hm.1, .inl hm.2⟩
  rw [if_neg hp]
  by_cases hl : (s.length : Int) > 0
  · have hm : 0 ≤ Int.tmod p (s.length : Int) ∧ Int.tmod p (s.length : Int) < (s.length : Int) := by
      rw [tmod_pos p0]
      exact ⟨Int.emod_nonneg _ (by omega), Int.emod_lt_of_pos _ (by omega)⟩
    rw [if_pos hl, if_neg (by omega), if_pos hm.1, if_pos hm.2, if_neg (by omega)]
    have hr := hb.rdb (Int.tmod p (s.length : Int))
    have hv := rem_ok (x := wrap64 ((wrap64 (Int.tdiv q 7)) + (wrap64 (rd s (Int.tmod p (s.length : Int)))))) (n := n) (by
      rw [tdiv_pos e0.1, w64 (x := q / 7) (by omega) (by omega), w64 (x := rd s _) (by omega) (by omega), w64 (by omega) (by omega)]
      omega) (by omega)
    exact ⟨_, rfl, ⟨hb, by dsimp only; omega, by dsimp only; omega, e0.1, e0.2⟩, hv.1, .inl hv.2⟩
  · rw [if_neg hl, if_neg (by omega)]
    have hv := rem_ok (x := 0) (n := n) (by omega) (by omega)
    rw [tmod_pos (by omega)] at hv
    exact ⟨_, rfl, ⟨hb, by dsimp only; omega, by dsimp only; omega, e0.1, e0.2⟩, hv.1, .inl hv.2⟩
theorem pickE {s : List Int} {p sd B n : Int} (h : Cu s p sd B) (hB : B ≤ 4611686018427387904) :
    EvP (fun _ => spec_l01Cur_pick.f s p sd n) (fun r => Cu s r.2.1 r.2.2 (B + 1) ∧ 0 ≤ r.1 ∧ (r.1 < n ∨ r.1 = 0)) := EvP.of (pick_ok h hB)
theorem open_ok {s : List Int} (hb : Bs s) : EvP (fun _ => spec_l01Open.f s) (fun r => r.1 = s ∧ Cu s r.2.1 r.2.2 0) := by
  refine EvP.ret ⟨rfl, hb, ?_, ?_, ?_, ?_⟩ <;> dsimp only <;> omega
theorem or_byte {x y : Int} (hx : 0 ≤ x ∧ x ≤ 4294967295) (hy : 0 ≤ y ∧ y ≤ 255) : Go.bits .or .i64 (x * 256) y = x * 256 + y := by
  have hk : ∀ n : Int, 0 ≤ n → n < 2 ^ 40 → IntKind.i64.wrap n = n := fun n h0 h1 => by
    have h2 : n < 1099511627776 := by simpa using h1
    rw [IntKind.wrap_i64]; omega
  have e40 : (2 : Int) ^ 40 = 1099511627776 := by simp
  have e8 : (2 : Int) ^ 8 = 256 := by simp
  exact bits_join .i64 40 (by decide) hk 8 (x * 256) y (by omega) (by rw [e8]; omega) (by rw [e40]; omega) (by omega) (by rw [e8]; omega) (by rw [e40]; omega)
theorem drop_rd {l : List Int} {i : Int} (h0 : 0 ≤ i) (h1 : i < (l.length : Int)) : l.drop i.toNat = rd l i :: l.drop (i.toNat + 1) := by
  rw [rd_get l i h0 h1]
  exact List.drop_eq_getElem_cons (by omega)
theorem big_ok (s : List Int) : EvP (fun _ => laws_big.f s) (fun b => b = false → (s.length : Int) ≤ 1048576) := by
  unfold laws_big.f
  refine EvP.ret (fun h => ?_)
  simp at h
  omega
def sm (a b : Int) : Int := if a + b > 65535 then a + b - 65535 else a + b
theorem sm_range {a b : Int} (ha : 0 ≤ a ∧ a ≤ 65535) (hb : 0 ≤ b ∧ b ≤ 65535) : 0 ≤ sm a b ∧ sm a b ≤ 65535 := by unfold sm; split <;> omega
theorem sm_mod {a b : Int} : (sm a b - (a + b)) % 65535 = 0 := by unfold sm; split <;> omega
theorem sm_zero {a b : Int} (ha : 0 ≤ a) (hb : 0 ≤ b) (h : a ≠ 0 ∨ b ≠ 0) : sm a b ≠ 0 := by unfold sm; split <;> omega
def wsum : List Int → Int → Int
  | [], a => a
  | [x], a => sm a (x * 256)
  | x :: y :: t, a => wsum t (sm a (x * 256 + y))
def wtot : List Int → Int
  | [] => 0
  | [x] => x * 256
  | x :: y :: t => x * 256 + y + wtot t
theorem wsum_range : ∀ (l : List Int) (a : Int), Bs l → 0 ≤ a ∧ a ≤ 65535 → 0 ≤ wsum l a ∧ wsum l a ≤ 65535
  | [], a, _, ha => ha
  | [x], a, h, ha => by
    have := h x (by simp)
    exact sm_range ha (by omega)
  | x :: y :: t, a, h, ha => by
    have h1 := h x (by simp)
    have h2 := h y (by simp)
    exact wsum_range t _ (fun z hz => h z (by simp [hz])) (sm_range ha (by omega))
theorem wsum_mod : ∀ (l : List Int) (a : Int), (wsum l a - (a + wtot l)) % 65535 = 0
  | [], a => by simp [wsum, wtot]
  | [x], a => sm_mod
  | x :: y :: t, a => by
    have h1 := wsum_mod t (sm a (x * 256 + y))
    have h2 := sm_mod (a := a) (b := x * 256 + y)
    simp only [wsum, wtot]
    generalize sm a (x * 256 + y) = q at *
    generalize wsum t q = r at *
    omega
theorem sum_ok {a b : Int} (ha : 0 ≤ a ∧ a ≤ 65535) (hb : 0 ≤ b ∧ b ≤ 65535) : impl_sum.f a b = some (sm a b) := by
  unfold impl_sum.f sm
  rw [w64 (x := a + b) (by omega) (by omega)]
  split
  · rw [w64 (by omega) (by omega)]
  · rfl
theorem onesSum_l0 {l : List Int} (hb : Bs l) (hl : (l.length : Int) ≤ 1000000) : ∀ (d : Nat) (i a : Int), 0 ≤ i → (l.length : Int) - i ≤ d → i ≤ (l.length : Int) + 1 → 0 ≤ a ∧ a ≤ 65535 →
    EvP (fun k => impl_onesSum.l0 k l a i) (fun r => r = wsum (l.drop i.toNat) a) := by
  intro d
  induction d with
  | zero =>
    intro i a h0 hd hi ha
    refine EvP.step ?_
    simp only [impl_onesSum.l0]
    refine EvP.no (by omega) (EvP.ret ?_)
    rw [List.drop_of_length_le (by omega)]; rfl
  | succ d ih =>
    intro i a h0 hd hi ha
    refine EvP.step ?_
    simp only [impl_onesSum.l0]
    refine EvP.ite (fun hlt => ?_) (fun hge => ?_)
    · refine EvP.yes h0 ?_
      have hx := hb.rdb i
      have hy := hb.rdb (i + 1)
      simp only [w64 (x := i + 1) (by omega) (by omega), w64 (x := i + 2) (by omega) (by omega), w64 (x := rd l i) (by omega) (by omega), w64 (x := rd l (i + 1)) (by omega) (by omega), w64 (x := rd l i * 256) (by omega) (by omega), or_byte (x := rd l i) (y := rd l (i + 1)) (by omega) (by omega)]
      refine EvP.ite (fun hlt2 => ?_) (fun hge2 => ?_)
      · refine EvP.yes (by omega) ?_
        simp only [sum_ok ha (b := rd l i * 256 + rd l (i + 1)) (by omega), Option.bind_some]
        refine (ih (i + 2) _ (by omega) (by omega) (by omega) (sm_range ha (by omega))).mono ?_
        rintro r rfl
        rw [drop_rd h0 hlt, show i.toNat + 1 = (i + 1).toNat by omega, drop_rd (by omega) hlt2, show (i + 1).toNat + 1 = (i + 2).toNat by omega]
        rfl
      · simp only [sum_ok ha (b := rd l i * 256) (by omega), Option.bind_some]
        refine (ih (i + 2) _ (by omega) (by omega) (by omega) (sm_range ha (by omega))).mono ?_
        rintro r rfl
        rw [drop_rd h0 hlt, List.drop_of_length_le (by omega), List.drop_of_length_le (by omega)]
        rfl
    · refine EvP.ret ?_
      rw [List.drop_of_length_le (by omega)]; rfl
theorem onesSum_ok {l : List Int} (hb : Bs l) (hl : (l.length : Int) ≤ 1000000) : EvP (fun k => impl_onesSum.f k l) (fun r => r = wsum l 0) := by
  have := onesSum_l0 hb hl l.length 0 0 (by omega) (by omega) (by omega) (by omega)
  simpa [impl_onesSum.f] using this
theorem size_ok {s : List Int} {p sd B n : Int} (h : Cu s p sd B) (hB : B ≤ 4611686018427387904) (hl : (s.length : Int) ≤ 1048576) (h0 : 0 ≤ n) (hn : n ≤ 1000) :
    EvP (fun _ => spec_l01Cur_size.f s p sd n) (fun r => Cu s r.2.1 r.2.2 (B + 1) ∧ 0 ≤ r.1 ∧ r.1 ≤ n) := by
  unfold spec_l01Cur_size.f
  have e : 0 ≤ mn n (wrap64 (1 + (wrap64 ((s.length : Int) / 8)))) ∧ mn n (wrap64 (1 + (wrap64 ((s.length : Int) / 8)))) ≤ n := by
    rw [w64 (x := (s.length : Int) / 8) (by omega) (by omega), w64 (by omega) (by omega)]
    unfold mn; omega
  generalize mn n (wrap64 (1 + (wrap64 ((s.length : Int) / 8)))) = m at e
  rw [w64 (x := m + 1) (by omega) (by omega)]
  refine EvP.bind (pickE h hB) ?_
  rintro ⟨x, p', s'⟩ ⟨c, x0, x1⟩
  dsimp only at *
  exact EvP.ret ⟨c, x0, by dsimp only; omega⟩
theorem bytes_l0 {s : List Int} : ∀ (d : Nat) (out : List Int) (m p sd B : Int), Cu s p sd B → B + d ≤ 4611686018427387904 → 0 ≤ m → m ≤ d → Bs out → out.length + d ≤ 100000 →
    EvP (fun k => spec_l01Cur_bytes.l0 k out m s p sd) (fun r => Cu s r.2.1 r.2.2 (B + d) ∧ Bs r.1 ∧ (r.1.length : Int) = out.length + m) := by
  intro d
  induction d with
  | zero =>
    intro out m p sd B h hB h0 hm ho hl
    refine EvP.step ?_
    simp only [spec_l01Cur_bytes.l0]
    exact EvP.no (by omega) (EvP.ret ⟨h.le (by omega), ho, by dsimp only; omega⟩)
  | succ d ih =>
    intro out m p sd B h hB h0 hm ho hl
    refine EvP.step ?_
    simp only [spec_l01Cur_bytes.l0]
    refine EvP.ite (fun hp => ?_) (fun hp => EvP.ret ⟨h.le (by omega), ho, by dsimp only; omega⟩)
    refine EvP.bind (pickE (n := 256) h (by omega)) ?_
    rintro ⟨x, p', s'⟩ ⟨c, x0, x1⟩
    dsimp only at *
    refine EvP.yes (by omega) ?_
    simp only [w64 (x := m - 1) (by omega) (by omega)]
    refine (ih (out ++ [x % 256]) (m - 1) p' s' (B + 1) c (by omega) (by omega) (by omega) (ho.snoc (by omega) (by omega)) (by rw [List.length_append]; simp only [List.length_cons, List.length_nil]; omega)).mono ?_
    rintro r ⟨h1, h2, h3⟩
    refine ⟨h1.le (by omega), h2, ?_⟩
    rw [List.length_append] at h3
    simp only [List.length_cons, List.length_nil] at h3
    omega
theorem bytes_ok {s : List Int} {p sd B n : Int} (h : Cu s p sd B) (hB : B ≤ 1000000000000) (hl : (s.length : Int) ≤ 1048576) (h0 : 0 ≤ n) (hn : n ≤ 1000) :
    EvP (fun k => spec_l01Cur_bytes.f k s p sd n) (fun r => Cu s r.2.1 r.2.2 (B + 1001) ∧ Bs r.1 ∧ (r.1.length : Int) ≤ n) := by
  unfold spec_l01Cur_bytes.f
  refine EvP.bind (size_ok h (by omega) hl h0 hn) ?_
  rintro ⟨m, p', s'⟩ ⟨c, m0, m1⟩
  dsimp only at *
  refine (bytes_l0 1000 [] m p' s' (B + 1) c (by omega) m0 (by omega) Bs.nil (by simp)).mono ?_
  rintro r ⟨h1, h2, h3⟩
  exact ⟨h1.le (by omega), h2, by simp at h3; omega⟩
theorem once_ok {s : List Int} {p sd B n : Int} (h : Cu s p sd B) (hB : B ≤ 4611686018427387904) :
    EvP (fun _ => spec_l01Cur_once.f s p sd n) (fun r => Cu s r.2.1 r.2.2 (B + 1)) := by
  unfold spec_l01Cur_once.f
  refine EvP.bind (pickE h hB) ?_
  rintro ⟨x, p', s'⟩ ⟨c, _, _⟩
  exact EvP.ret c
theorem drawOnes {s : List Int} (hb : Bs s) (hl : (s.length : Int) ≤ 1048576) :
    EvP (fun k => spec_DrawOnesSum.f k s) (fun r => Bs r ∧ (r.length : Int) ≤ 2001) := by
  unfold spec_DrawOnesSum.f
  refine EvP.bind (open_ok hb) ?_
  rintro ⟨s', p, sd⟩ ⟨rfl, c⟩
  refine EvP.bind (once_ok c (by omega)) ?_
  rintro ⟨b, p1, s1⟩ c1
  dsimp only at *
  refine EvP.ite (fun _ => ?_) (fun _ => ?_)
  · refine EvP.bind (pickE (n := 2) c1 (by omega)) ?_
    rintro ⟨x, p2, s2⟩ ⟨c2, x0, x1⟩
    dsimp only at *
    simp only [w64 (x := 2000 + x) (by omega) (by omega)]
    refine EvP.yes (by omega) (EvP.yes (by omega) (EvP.ret ⟨Bs.rep _, ?_⟩))
    rw [List.length_replicate]; omega
  · refine EvP.bind (bytes_ok (n := 60) c1 (by omega) hl (by omega) (by omega)) ?_
    rintro ⟨d, p2, s2⟩ ⟨c2, h1, h2⟩
    dsimp only at *
    exact EvP.ret ⟨h1, by omega⟩
theorem lpick_l0 {s : List Int} {a n : Int} (hb : Bs s) (hs : 0 < (s.length : Int)) (ha : 0 ≤ a ∧ a ≤ 1000000) (hn : 2 ≤ n) : ∀ (d : Nat) (x i : Int), 0 ≤ x → x ≤ 1000000000000 → 0 ≤ i → i + d = 3 → (d = 3 → x = 0) → (d = 2 → x ≤ 255) → (d = 1 → x ≤ 8160) → (d = 0 → x ≤ 253215) →
    EvP (fun k => laws_pick.l0 k s a n x i) (fun r => 0 ≤ r ∧ r < n) := by
  intro d
  induction d with
  | zero =>
    intro x i h0 h1 hi hd _ _ _ _
    refine EvP.step ?_
    simp only [laws_pick.l0]
    refine EvP.no (by omega) (EvP.no (by omega) ?_)
    simp only [w64 (x := x + a) (by omega) (by omega)]
    exact EvP.ret (rem_ok (by omega) hn)
  | succ d ih =>
    intro x i h0 h1 hi hd e3 e2 e1 e0
    refine EvP.step ?_
    simp only [laws_pick.l0]
    simp only [w64 (x := a + i) (by omega) (by omega), w64 (x := i + 1) (by omega) (by omega)]
    have hm : 0 ≤ Int.tmod (a + i) (s.length : Int) ∧ Int.tmod (a + i) (s.length : Int) < (s.length : Int) := by
      rw [tmod_pos (by omega)]
      exact ⟨Int.emod_nonneg _ (by omega), Int.emod_lt_of_pos _ (by omega)⟩
    have hr := hb.rdb (Int.tmod (a + i) (s.length : Int))
    simp only [w64 (x := rd s (Int.tmod (a + i) (s.length : Int))) (by omega) (by omega), w64 (x := 31 * x) (by omega) (by omega)]
    simp only [w64 (x := 31 * x + rd s (Int.tmod (a + i) (s.length : Int))) (by omega) (by omega)]
    refine EvP.yes (by omega) (EvP.no (by omega) (EvP.yes hm.1 (EvP.yes hm.2 ?_)))
    exact ih _ _ (by omega) (by omega) (by omega) (by omega) (by omega) (by omega) (by omega) (by omega)
theorem lpick {s : List Int} {a n : Int} (hb : Bs s) (ha : 0 ≤ a ∧ a ≤ 1000000) : EvP (fun k => laws_pick.f k s a n) (fun r => 0 ≤ r ∧ (r < n ∨ r = 0)) := by
  unfold laws_pick.f
  refine EvP.ite (fun _ => ?_) (fun hl => ?_)
  · refine EvP.step ?_
    simp only [laws_pick.j0]
    exact EvP.yes (by simp) (EvP.ret ⟨by omega, .inr rfl⟩)
  · refine EvP.step ?_
    simp only [laws_pick.j0]
    refine EvP.ite (fun _ => EvP.ret ⟨by omega, .inr rfl⟩) (fun hn => ?_)
    refine (lpick_l0 hb (by omega) ha (by simp at hn; omega) 3 0 0 (by omega) (by omega) (by omega) (by omega) (by omega) (by omega) (by omega) (by omega)).mono ?_
    rintro r ⟨h0, h1⟩
    exact ⟨h0, .inl h1⟩
theorem bytesOf_ok {l : List Int} (h : l.length ≤ 1000000) : EvP (fun _ => laws_bytesOf.f l) (fun r => r = l) := by
  unfold laws_bytesOf.f
  refine EvP.bind (EvP.ret (P := fun y => y = []) rfl) ?_
  rintro y rfl
  exact EvP.yes (by simp only [List.length_nil]; omega) (EvP.ret (by simp))
theorem checksum_ok {l : List Int} (hb : Bs l) (hl : (l.length : Int) ≤ 2000) : EvP (fun k => impl_Checksum.f k l) (fun r => r = 65535 - wsum l 0) := by
  unfold impl_Checksum.f
  refine EvP.no (by omega) (EvP.bind (onesSum_ok hb (by omega)) ?_)
  rintro r rfl
  have := wsum_range l 0 hb (by omega)
  exact EvP.ret (w64 (by omega) (by omega))
def isW (x : Int) : Bool := decide (0 ≤ x ∧ x ≤ 65535)
theorem isW_iff {x : Int} : isW x = true ↔ 0 ≤ x ∧ x ≤ 65535 := by unfold isW; exact decide_eq_true_iff
theorem isWord_ok (x : Int) : impl_isWord.f x = some (isW x) := by
  unfold impl_isWord.f impl_within.f isW
  split
  · rw [Option.bind_some]; congr 1; exact decide_eq_decide.2 (by omega)
  · rw [Option.bind_some]; congr 1; symm; exact decide_eq_false (by omega)
theorem areWords_l0 {l : List Int} (hl : (l.length : Int) ≤ 1000000) : ∀ (d : Nat) (i : Int), 0 ≤ i → i + d = (l.length : Int) →
    EvP (fun k => impl_areWords.l0 k l (l.length : Int) i) (fun r => r = (l.drop i.toNat).all isW) := by
  intro d
  induction d with
  | zero =>
    intro i h0 hd
    refine EvP.step ?_
    simp only [impl_areWords.l0]
    refine EvP.no (by omega) (EvP.ret ?_)
    rw [List.drop_of_length_le (by omega)]; rfl
  | succ d ih =>
    intro i h0 hd
    refine EvP.step ?_
    simp only [impl_areWords.l0]
    refine EvP.yes (by omega) (EvP.yes (by omega) (EvP.yes (by omega) ?_))
    simp only [isWord_ok, Option.bind_some, w64 (x := i + 1) (by omega) (by omega)]
    rw [drop_rd h0 (by omega), List.all_cons, show i.toNat + 1 = (i + 1).toNat by omega]
    refine EvP.ite (fun h => ?_) (fun h => ?_)
    · rw [h, Bool.true_and]
      exact ih (i + 1) (by omega) (by omega)
    · rw [Bool.eq_false_iff.2 h, Bool.false_and]
      exact EvP.ret rfl
theorem areWords_ok {l : List Int} (hl : (l.length : Int) ≤ 1000000) : EvP (fun k => impl_areWords.f k l) (fun r => r = l.all isW) := by
  have := areWords_l0 hl l.length 0 (by omega) (by omega)
  simpa [impl_areWords.f] using this
/-- One word exchanged, of the sum (not the checksum). -/
def sw (c a b : Int) : Int := 65535 - sm (sm (65535 - c) (65535 - a)) b
theorem swap_ok {c a b : Int} (hc : 0 ≤ c ∧ c ≤ 65535) (ha : 0 ≤ a ∧ a ≤ 65535) (hb : 0 ≤ b ∧ b ≤ 65535) : impl_swap.f c a b = some (sw c a b) := by
  unfold impl_swap.f
  have h1 := sm_range (a := 65535 - c) (b := 65535 - a) (by omega) (by omega)
  have h2 := sm_range (a := sm (65535 - c) (65535 - a)) (b := b) h1 hb
  rw [w64 (x := 65535 - c) (by omega) (by omega), w64 (x := 65535 - a) (by omega) (by omega), sum_ok (by omega) (by omega), Option.bind_some, sum_ok h1 hb, Option.bind_some, w64 (by omega) (by omega)]
  rfl
theorem word_ok (x : Int) : spec_l02Word.f x = some (isW x) := by
  unfold spec_l02Word.f isW
  split
  · congr 1; exact decide_eq_decide.2 (by omega)
  · congr 1; symm; exact decide_eq_false (by omega)
theorem sumAdd_ok {a b : Int} (ha : 0 ≤ a ∧ a ≤ 65535) (hb : 0 ≤ b ∧ b ≤ 65535) : EvP (fun k => spec_SumAdd.f k a b) (fun r => r = sm a b) := by
  unfold spec_SumAdd.f
  simp only [word_ok, Option.bind_some, isW_iff.2 ha, isW_iff.2 hb]
  refine EvP.yes (by simp) (EvP.step ?_)
  simp only [spec_SumAdd.j0]
  refine EvP.no (by simp) ?_
  simp only [w64 (x := a + b) (by omega) (by omega)]
  unfold sm
  refine EvP.ite (fun h => EvP.ret ?_) (fun h => EvP.ret ?_)
  · rw [if_pos h, w64 (by omega) (by omega)]
  · rw [if_neg h]
theorem specOnes_l0 {l : List Int} (hb : Bs l) (hl : (l.length : Int) ≤ 1000000) : ∀ (d : Nat) (i a : Int), 0 ≤ i → (l.length : Int) - i ≤ d → i ≤ (l.length : Int) + 1 → 0 ≤ a ∧ a ≤ 65535 →
    EvP (fun k => spec_OnesSum.l0 k l a i) (fun r => r = wsum (l.drop i.toNat) a) := by
  intro d
  induction d with
  | zero =>
    intro i a h0 hd hi ha
    refine EvP.step ?_
    simp only [spec_OnesSum.l0]
    refine EvP.no (by omega) (EvP.ret ?_)
    rw [List.drop_of_length_le (by omega)]; rfl
  | succ d ih =>
    intro i a h0 hd hi ha
    refine EvP.step ?_
    simp only [spec_OnesSum.l0]
    refine EvP.ite (fun hlt => ?_) (fun hge => ?_)
    · refine EvP.yes h0 ?_
      have hx := hb.rdb i
      have hy := hb.rdb (i + 1)
      simp only [w64 (x := i + 1) (by omega) (by omega), w64 (x := i + 2) (by omega) (by omega), w64 (x := rd l i) (by omega) (by omega), w64 (x := rd l (i + 1)) (by omega) (by omega), w64 (x := 256 * rd l i) (by omega) (by omega), w64 (x := 256 * rd l i + rd l (i + 1)) (by omega) (by omega)]
      refine EvP.ite (fun hlt2 => ?_) (fun hge2 => ?_)
      · refine EvP.yes (by omega) (EvP.bind (sumAdd_ok ha (b := 256 * rd l i + rd l (i + 1)) (by omega)) ?_)
        rintro _ rfl
        refine (ih (i + 2) _ (by omega) (by omega) (by omega) (sm_range ha (by omega))).mono ?_
        rintro r rfl
        rw [drop_rd h0 hlt, show i.toNat + 1 = (i + 1).toNat by omega, drop_rd (by omega) hlt2, show (i + 1).toNat + 1 = (i + 2).toNat by omega, Int.mul_comm 256]
        rfl
      · refine EvP.bind (sumAdd_ok ha (b := 256 * rd l i) (by omega)) ?_
        rintro _ rfl
        refine (ih (i + 2) _ (by omega) (by omega) (by omega) (sm_range ha (by omega))).mono ?_
        rintro r rfl
        rw [drop_rd h0 hlt, List.drop_of_length_le (by omega), List.drop_of_length_le (by omega), Int.mul_comm 256]
        rfl
    · refine EvP.ret ?_
      rw [List.drop_of_length_le (by omega)]; rfl
theorem specOnes_ok {l : List Int} (hb : Bs l) (hl : (l.length : Int) ≤ 2000) : EvP (fun k => spec_OnesSum.f k l) (fun r => r = wsum l 0) := by
  unfold spec_OnesSum.f
  have := specOnes_l0 hb (by omega) l.length 0 0 (by omega) (by omega) (by omega) (by omega)
  exact EvP.no (by omega) (by simpa using this)
theorem specChecksum_ok {l : List Int} (hb : Bs l) (hl : (l.length : Int) ≤ 2000) : EvP (fun k => spec_Checksum.f k l) (fun r => r = 65535 - wsum l 0) := by
  unfold spec_Checksum.f
  refine EvP.bind (specOnes_ok hb hl) ?_
  rintro _ rfl
  have := wsum_range l 0 hb (by omega)
  exact EvP.no (by omega) (EvP.ret (w64 (by omega) (by omega)))

theorem specBe16 {l : List Int} (hb : Bs l) {a : Int} (h0 : 0 ≤ a) (h1 : a + 2 ≤ (l.length : Int)) (hl : (l.length : Int) ≤ 1000000) : spec_Be16.f l a = some (256 * rd l a + rd l (a + 1), true) := by
  have hx := hb.rdb a
  have hy := hb.rdb (a + 1)
  unfold spec_Be16.f
  rw [w64 (x := (l.length : Int) - 2) (by omega) (by omega), w64 (x := a + 1) (by omega) (by omega), if_neg (by omega), if_neg (by omega), if_pos h0, if_pos (by omega), if_pos (by omega), if_pos (by omega), w64 (x := rd l a) (by omega) (by omega), w64 (x := rd l (a + 1)) (by omega) (by omega), w64 (x := 256 * rd l a) (by omega) (by omega), w64 (by omega) (by omega)]
theorem specPut16 {n : Int} (h : 0 ≤ n ∧ n ≤ 65535) : spec_Put16.f n = some [n / 256 % 256, n % 256] := by
  unfold spec_Put16.f spec_l01Low.f
  rw [tmod_pos (by omega), show n % 65536 = n by omega, if_neg (by omega), if_neg (by omega), Option.bind_some, tdiv_pos (by omega), tmod_pos (by omega), w64 (by omega) (by omega)]
  congr 2
  congr 1
  omega
theorem sumSwap_ok {c a b : Int} (hc : 0 ≤ c ∧ c ≤ 65535) (ha : 0 ≤ a ∧ a ≤ 65535) (hb : 0 ≤ b ∧ b ≤ 65535) : EvP (fun k => impl_SumSwap.f k c a b) (fun r => r = sw c a b) := by
  unfold impl_SumSwap.f
  refine EvP.bind (areWords_ok (by simp)) ?_
  rintro _ rfl
  refine EvP.yes (by simp [isW_iff.2 hc, isW_iff.2 ha, isW_iff.2 hb]) ?_
  simp only [swap_ok hc ha hb, Option.bind_some]
  exact EvP.ret rfl
theorem wtot_word : ∀ (l : List Int) (i : Nat) (u v : Int), i % 2 = 0 → i + 2 ≤ l.length → wtot (l.take i ++ [u, v] ++ l.drop (i + 2)) = wtot l + (256 * u + v) - (256 * l.getD i 0 + l.getD (i + 1) 0)
  | [], i, u, v, _, h => by simp at h
  | [x], i, u, v, _, h => by simp at h
  | x :: y :: t, 0, u, v, _, _ => by simp [wtot]; omega
  | x :: y :: t, 1, u, v, h, _ => by simp at h
  | x :: y :: t, i + 2, u, v, h, hl => by
    have ih := wtot_word t i u v (by omega) (by simp at hl; omega)
    simp only [List.take_succ_cons, List.drop_succ_cons, List.cons_append, wtot, List.getD_cons_succ] at ih ⊢
    rw [ih]
    omega
theorem FnSwapSum : laws_FnSwapSum.Pure := by
  intro s _ _ hw
  have hb := Bs.of hw
  refine EvP.rounds ?_
  unfold laws_FnSwapSum.f
  refine EvP.bind (big_ok s) ?_
  intro b hbig
  refine EvP.ite (fun _ => EvP.ret rfl) (fun hb0 => ?_)
  have hl := hbig (by simpa using hb0)
  refine EvP.bind (drawOnes hb hl) ?_
  rintro d ⟨hd, hdl⟩
  refine EvP.ite (fun _ => ?_) (fun h60 => ?_)
  · refine EvP.step ?_
    simp only [laws_FnSwapSum.j0]
    exact EvP.yes (by simp) (EvP.ret rfl)
  refine EvP.step ?_
  simp only [laws_FnSwapSum.j0]
  refine EvP.ite (fun _ => EvP.ret rfl) (fun h2 => ?_)
  have h2 : ¬ ((d.length : Int) < 2) := by simpa using h2
  simp only [w64 (x := (d.length : Int) - (d.length : Int) % 2) (by omega) (by omega)]
  refine EvP.yes (by omega) (EvP.yes (by omega) ?_)
  have hy1 : Bs (d.take ((d.length : Int) - (d.length : Int) % 2).toNat) := hd.take _
  have hy2 : (d.take ((d.length : Int) - (d.length : Int) % 2).toNat).length % 2 = 0 ∧ (d.take ((d.length : Int) - (d.length : Int) % 2).toNat).length ≤ 60 ∧ 2 ≤ (d.take ((d.length : Int) - (d.length : Int) % 2).toNat).length := by
    rw [List.length_take]; omega
  generalize d.take ((d.length : Int) - (d.length : Int) % 2).toNat = y at hy1 hy2
  refine EvP.bind (EvP.ret (P := fun z => z = y) rfl) ?_
  rintro _ rfl
  rename_i y
  simp only [w64 (x := (y.length : Int) / 2) (by omega) (by omega)]
  refine EvP.bind (lpick (a := 1) (n := (y.length : Int) / 2) hb (by omega)) ?_
  rintro v ⟨v0, v1⟩
  have v1 : v < (y.length : Int) / 2 := by omega
  simp only [w64 (x := 2 * v) (by omega) (by omega), specBe16 hy1 (a := 2 * v) (by omega) (by omega) (by omega), Option.bind_some]
  refine EvP.bind (lpick (a := 2) (n := 256) hb (by omega)) ?_
  rintro p ⟨p0, p1⟩
  refine EvP.bind (lpick (a := 3) (n := 256) hb (by omega)) ?_
  rintro q ⟨q0, q1⟩
  simp only [w64 (x := p * 256) (by omega) (by omega), w64 (x := 2 * v + 2) (by omega) (by omega)]
  simp only [w64 (x := p * 256 + q) (by omega) (by omega)]
  refine EvP.yes (by omega) (EvP.yes (by omega) ?_)
  refine EvP.bind (bytesOf_ok (by rw [List.length_take]; omega)) ?_
  rintro _ rfl
  simp only [specPut16 (n := p * 256 + q) (by omega), Option.bind_some]
  refine EvP.yes (by simp only [List.length_take, List.length_cons, List.length_nil]; omega) ?_
  refine EvP.yes (by omega) (EvP.yes (by omega) (EvP.yes (by simp only [List.length_append, List.length_drop, List.length_take, List.length_cons, List.length_nil]; omega) ?_))
  have hz : Bs (y.take (2 * v).toNat ++ [(p * 256 + q) / 256 % 256, (p * 256 + q) % 256] ++ y.drop (2 * v + 2).toNat) := ((hy1.take _).app (fun x hx => by simp at hx; omega)).app (hy1.drop _)
  have hzl : (y.take (2 * v).toNat ++ [(p * 256 + q) / 256 % 256, (p * 256 + q) % 256] ++ y.drop (2 * v + 2).toNat).length = y.length := by
    simp only [List.length_append, List.length_drop, List.length_take, List.length_cons, List.length_nil]; omega
  have hzt : wtot (y.take (2 * v).toNat ++ [(p * 256 + q) / 256 % 256, (p * 256 + q) % 256] ++ y.drop (2 * v + 2).toNat) = wtot y + (p * 256 + q) - (256 * rd y (2 * v) + rd y (2 * v + 1)) := by
    have := wtot_word y (2 * v).toNat ((p * 256 + q) / 256 % 256) ((p * 256 + q) % 256) (by omega) (by omega)
    rw [show (2 * v + 2).toNat = (2 * v).toNat + 2 by omega, this]
    unfold rd
    rw [show (2 * v + 1).toNat = (2 * v).toNat + 1 by omega]
    omega
  generalize y.take (2 * v).toNat ++ [(p * 256 + q) / 256 % 256, (p * 256 + q) % 256] ++ y.drop (2 * v + 2).toNat = z at hz hzl hzt
  have hx := hy1.rdb (2 * v)
  have hy := hy1.rdb (2 * v + 1)
  generalize hwas : 256 * rd y (2 * v) + rd y (2 * v + 1) = was at hzt
  generalize his : p * 256 + q = is at hzt
  have hy3 := wsum_range y 0 hy1 (by omega)
  have hz3 := wsum_range z 0 hz (by omega)
  refine EvP.bind (specOnes_ok hy1 (by omega)) ?_
  rintro _ rfl
  have fin : wsum y 0 ≠ 0 → wsum z 0 ≠ 0 → sw (65535 - wsum y 0) was is = 65535 - wsum z 0 := fun n1 n2 => by
    have m1 := wsum_mod y 0
    have m2 := wsum_mod z 0
    rw [hzt] at m2
    have a1 := sm_range (a := wsum y 0) (b := 65535 - was) (by omega) (by omega)
    have a2 := sm_mod (a := wsum y 0) (b := 65535 - was)
    have a3 := sm_zero (a := wsum y 0) (b := 65535 - was) (by omega) (by omega) (.inl n1)
    have b1 := sm_range (a := sm (wsum y 0) (65535 - was)) (b := is) a1 (by omega)
    have b2 := sm_mod (a := sm (wsum y 0) (65535 - was)) (b := is)
    have b3 := sm_zero (a := sm (wsum y 0) (65535 - was)) (b := is) (by omega) (by omega) (.inl a3)
    unfold sw
    rw [show 65535 - (65535 - wsum y 0) = wsum y 0 by omega]
    generalize sm (sm (wsum y 0) (65535 - was)) is = t at *
    generalize sm (wsum y 0) (65535 - was) = u at *
    generalize wsum y 0 = Y at *
    generalize wsum z 0 = Z at *
    generalize wtot y = T at *
    omega
  have rest : wsum y 0 ≠ 0 → wsum z 0 ≠ 0 → EvP (fun k => laws_FnSwapSum.j1 k y was is z false) (fun x => x = true) := fun n1 n2 => by
    refine EvP.step ?_
    simp only [laws_FnSwapSum.j1]
    refine EvP.no (by simp) ?_
    refine EvP.bind (bytesOf_ok (by omega)) ?_
    rintro _ rfl
    refine EvP.bind (checksum_ok hy1 (by omega)) ?_
    rintro _ rfl
    refine EvP.bind (specChecksum_ok hy1 (by omega)) ?_
    rintro _ rfl
    refine EvP.yes (by simp) ?_
    refine EvP.bind (sumSwap_ok (by omega) (by omega) (by omega)) ?_
    rintro _ rfl
    refine EvP.bind (bytesOf_ok (by omega)) ?_
    rintro _ rfl
    refine EvP.bind (checksum_ok hz (by omega)) ?_
    rintro _ rfl
    refine EvP.yes (fin n1 n2) ?_
    refine EvP.bind (bytesOf_ok (by omega)) ?_
    rintro _ rfl
    refine EvP.bind (checksum_ok hz (by omega)) ?_
    rintro _ rfl
    refine EvP.bind (specChecksum_ok hz (by omega)) ?_
    rintro _ rfl
    exact EvP.ret (by simp)
  have done_ : EvP (fun k => laws_FnSwapSum.j1 k y was is z true) (fun x => x = true) := by
    refine EvP.step ?_
    simp only [laws_FnSwapSum.j1]
    exact EvP.yes (by simp) (EvP.ret rfl)
  refine EvP.ite (fun _ => done_) (fun n1 => ?_)
  refine EvP.bind (specOnes_ok hz (by omega)) ?_
  rintro _ rfl
  by_cases n2 : wsum z 0 = 0
  · simp only [n2, show ((0 : Int) == 0) = true from rfl]
    exact done_
  · simp only [show (wsum z 0 == 0) = false from by simpa using n2]
    exact rest n1 n2

end Go.Proofs.Ytbijdkmchdkgfaa.Pure
