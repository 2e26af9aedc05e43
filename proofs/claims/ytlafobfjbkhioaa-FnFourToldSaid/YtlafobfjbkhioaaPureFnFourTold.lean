/- Whatever head of version 4 is drawn: when it is right, and one byte of its encoding other than the first one is changed, the bytes are not read. No condition. -/
import Derived.Test.YtlafobfjbkhioaaPFnFourToldx
import Derived.Laws.BitsLemmas
namespace Go.Proofs.Ytlafobfjbkhioaa.Pure
open Go.RowKit Go.Proofs.Ytlafobfjbkhioaa.PFnFourTold Go.Proofs.YtlafobfjbkhioaaW.PrintWords Go.Proofs.YtlafobfjbkhioaaW.PrintLast Go.Proofs.YtlafobfjbkhioaaW.PrintMore
set_option linter.unusedVariables false
set_option linter.unusedSimpArgs false

def EvP {α : Type} (g : Nat → Option α) (P : α → Prop) : Prop := ∃ r, Ev g r ∧ P r
theorem EvP.of {α : Type} {o : Option α} {P : α → Prop} (h : ∃ r, o = some r ∧ P r) : EvP (fun _ => o) P := by
  obtain ⟨r, rfl, hp⟩ := h
  exact ⟨r, Ev.now r, hp⟩
theorem EvP.ret {α : Type} {r : α} {P : α → Prop} (h : P r) : EvP (fun _ => some r) P := ⟨r, Ev.now r, h⟩
theorem EvP.bind {α β : Type} {g : Nat → Option α} {f : Nat → α → Option β} {P : α → Prop} {Q : β → Prop} (h : EvP g P) (k : ∀ r, P r → EvP (fun n => f n r) Q) : EvP (fun n => (g n).bind (f n)) Q := by
  obtain ⟨r, hr, hp⟩ := h
  obtain ⟨q, hq, hQ⟩ := k r hp
  exact ⟨q, Ev.bind hr hq, hQ⟩
theorem EvP.ite {α : Type} {c : Prop} [Decidable c] {a b : Nat → Option α} {Q : α → Prop} (h : c → EvP a Q) (h' : ¬ c → EvP b Q) : EvP (fun n => if c then a n else b n) Q := by
  by_cases hc : c
  · simp only [if_pos hc]; exact h hc
  · simp only [if_neg hc]; exact h' hc
theorem EvP.yes {α : Type} {c : Prop} [Decidable c] {a b : Nat → Option α} {Q : α → Prop} (hc : c) (h : EvP a Q) : EvP (fun n => if c then a n else b n) Q := by
  simp only [if_pos hc]; exact h
theorem EvP.no {α : Type} {c : Prop} [Decidable c] {a b : Nat → Option α} {Q : α → Prop} (hc : ¬ c) (h : EvP b Q) : EvP (fun n => if c then a n else b n) Q := by
  simp only [if_neg hc]; exact h
theorem EvP.step {α : Type} {g : Nat → Option α} {Q : α → Prop} (h : EvP (fun k => g (k + 1)) Q) : EvP g Q := by
  obtain ⟨r, hr, hq⟩ := h
  exact ⟨r, Ev.step (fun _ => rfl) hr, hq⟩
theorem EvP.mono {α : Type} {g : Nat → Option α} {P Q : α → Prop} (h : EvP g P) (hpq : ∀ r, P r → Q r) : EvP g Q := by
  obtain ⟨r, hr, hp⟩ := h
  exact ⟨r, hr, hpq r hp⟩
theorem EvP.rounds {α : Type} {g : Nat → Option α} {r : α} (h : EvP g (fun x => x = r)) : ∃ k, g k = some r := by
  obtain ⟨q, hq, rfl⟩ := h
  exact hq.rounds
theorem w64 {x : Int} (h0 : -9223372036854775808 ≤ x) (h1 : x ≤ 9223372036854775807) : wrap64 x = x := by unfold wrap64; omega
theorem w64_lo (x : Int) : -9223372036854775808 ≤ wrap64 x := by unfold wrap64; omega
theorem w64_hi (x : Int) : wrap64 x ≤ 9223372036854775807 := by unfold wrap64; omega
theorem tmod_pos {a b : Int} (h : 0 ≤ a) : Int.tmod a b = a % b := Int.tmod_eq_emod_of_nonneg h
theorem tdiv_pos {a b : Int} (h : 0 ≤ a) : Int.tdiv a b = a / b := Int.tdiv_eq_ediv_of_nonneg h
def Bs (s : List Int) : Prop := ∀ x ∈ s, 0 ≤ x ∧ x ≤ 255
theorem Bs.nil : Bs [] := fun _ h => by cases h
theorem Bs.snoc {s : List Int} (h : Bs s) {x : Int} (h0 : 0 ≤ x) (h1 : x ≤ 255) : Bs (s ++ [x]) := fun y hy => by
  rcases List.mem_append.1 hy with hy | hy
  · exact h y hy
  · rw [List.mem_singleton.1 hy]; exact ⟨h0, h1⟩
theorem Bs.app {s t : List Int} (h : Bs s) (h' : Bs t) : Bs (s ++ t) := fun y hy => by
  rcases List.mem_append.1 hy with hy | hy
  · exact h y hy
  · exact h' y hy
theorem Bs.take {s : List Int} (h : Bs s) (n : Nat) : Bs (s.take n) := fun y hy => h y (List.mem_of_mem_take hy)
theorem Bs.drop {s : List Int} (h : Bs s) (n : Nat) : Bs (s.drop n) := fun y hy => h y (List.mem_of_mem_drop hy)
theorem Bs.rep (n : Nat) : Bs (List.replicate n 0) := fun y hy => by
  rw [(List.mem_replicate.1 hy).2]; omega
theorem Bs.set {s : List Int} (h : Bs s) (i : Nat) {x : Int} (h0 : 0 ≤ x) (h1 : x ≤ 255) : Bs (s.set i x) := fun y hy => by
  rcases List.mem_or_eq_of_mem_set hy with hy | rfl
  · exact h y hy
  · exact ⟨h0, h1⟩
theorem rd_get (s : List Int) (i : Int) (h0 : 0 ≤ i) (h1 : i < (s.length : Int)) : rd s i = s[i.toNat]'(by omega) := by
  unfold rd
  rw [List.getD_eq_getElem?_getD, List.getElem?_eq_getElem (by omega)]
  rfl
theorem Bs.rdb {s : List Int} (h : Bs s) (i : Int) : 0 ≤ rd s i ∧ rd s i ≤ 255 := by
  by_cases hi : i.toNat < s.length
  · unfold rd
    rw [List.getD_eq_getElem?_getD, List.getElem?_eq_getElem hi]
    exact h _ (List.getElem_mem hi)
  · unfold rd
    rw [List.getD_eq_getElem?_getD, List.getElem?_eq_none (by omega)]
    exact ⟨by decide, by decide⟩
theorem Bs.of {s : List Int} (h : ∀ x ∈ s, (Lit.int .u8 x).wf = true) : Bs s := fun x hx => by
  have := h x hx
  simp [Lit.wf, IntKind.min, IntKind.max, IntKind.bits, IntKind.signed] at this
  omega
structure Cu (s : List Int) (p sd B : Int) : Prop where
  bs : Bs s
  p0 : 0 ≤ p
  p1 : p ≤ B
  s0 : 0 ≤ sd
  s1 : sd ≤ 65520
theorem Cu.le {s : List Int} {p sd B B' : Int} (h : Cu s p sd B) (hB : B ≤ B') : Cu s p sd B' := ⟨h.bs, h.p0, by have := h.p1; omega, h.s0, h.s1⟩
theorem seed_ok {sd : Int} (h0 : 0 ≤ sd) (h1 : sd ≤ 65520) : Int.tmod (wrap64 ((wrap64 (sd * 1103)) + 12345)) 65521 = (sd * 1103 + 12345) % 65521 := by
  rw [w64 (x := sd * 1103) (by omega) (by omega), w64 (by omega) (by omega), tmod_pos (by omega)]
theorem rem_ok {x n : Int} (h0 : 0 ≤ x) (hn : 2 ≤ n) : 0 ≤ Int.tmod x n ∧ Int.tmod x n < n := by
  rw [tmod_pos h0]
  exact ⟨Int.emod_nonneg _ (by omega), Int.emod_lt_of_pos _ (by omega)⟩
theorem pick_ok {s : List Int} {p sd B n : Int} (h : Cu s p sd B) (hB : B ≤ 4611686018427387904) :
    ∃ r, spec_l01Cur_pick.f s p sd n = some r ∧ Cu s r.2.1 r.2.2 (B + 1) ∧ 0 ≤ r.1 ∧ (r.1 < n ∨ r.1 = 0) := by
  obtain ⟨hb, p0, p1, s0, s1⟩ := h
  unfold spec_l01Cur_pick.f
  rw [seed_ok s0 s1, w64 (x := p + 1) (by omega) (by omega)]
  have e0 : 0 ≤ (sd * 1103 + 12345) % 65521 ∧ (sd * 1103 + 12345) % 65521 ≤ 65520 := by omega
  generalize (sd * 1103 + 12345) % 65521 = q at e0
  by_cases hn : n < 2
  · rw [if_pos hn]
    exact ⟨_, rfl, ⟨hb, p0, by dsimp only; omega, s0, s1⟩, by dsimp only; omega, .inr rfl⟩
  rw [if_neg hn]
  by_cases hp : p < (s.length : Int)
  · rw [if_pos hp, if_pos p0, if_neg (by omega)]
    have hr := hb.rdb p
    have hm := rem_ok hr.1 (show (2 : Int) ≤ n by omega)
    rw [w64 (x := rd s p) (by omega) (by omega)]
    exact ⟨_, rfl, ⟨hb, by dsimp only; omega, by dsimp only; omega, s0, s1⟩, hm.1, .inl hm.2⟩
  rw [if_neg hp]
  by_cases hl : (s.length : Int) > 0
  · have hm : 0 ≤ Int.tmod p (s.length : Int) ∧ Int.tmod p (s.length : Int) < (s.length : Int) := by
      rw [tmod_pos p0]
      exact ⟨Int.emod_nonneg _ (by omega), Int.emod_lt_of_pos _ (by omega)⟩
    rw [if_pos hl, if_neg (by omega), if_pos hm.1, if_pos hm.2, if_neg (by omega)]
    have hr := hb.rdb (Int.tmod p (s.length : Int))
    have hv := rem_ok (x := wrap64 ((wrap64 (Int.tdiv q 7)) + (wrap64 (rd s (Int.tmod p (s.length : Int)))))) (n := n) (by
      rw [tdiv_pos e0.1, w64 (x := q / 7) (by omega) (by omega), w64 (x := rd s _) (by omega) (by omega), w64 (by omega) (by omega)]
      omega) (by omega)
    exact ⟨_, rfl, ⟨hb, by dsimp only; omega, by dsimp only; omega, e0.1, e0.2⟩, hv.1, .inl hv.2⟩
  · rw [if_neg hl, if_neg (by omega)]
    have hv := rem_ok (x := 0) (n := n) (by omega) (by omega)
    rw [tmod_pos (by omega)] at hv
    exact ⟨_, rfl, ⟨hb, by dsimp only; omega, by dsimp only; omega, e0.1, e0.2⟩, hv.1, .inl hv.2⟩
theorem pickE {s : List Int} {p sd B n : Int} (h : Cu s p sd B) (hB : B ≤ 4611686018427387904) :
    EvP (fun _ => spec_l01Cur_pick.f s p sd n) (fun r => Cu s r.2.1 r.2.2 (B + 1) ∧ 0 ≤ r.1 ∧ (r.1 < n ∨ r.1 = 0)) := EvP.of (pick_ok h hB)
theorem open_ok {s : List Int} (hb : Bs s) : EvP (fun _ => spec_l01Open.f s) (fun r => r.1 = s ∧ Cu s r.2.1 r.2.2 0) := by
  refine EvP.ret ⟨rfl, hb, ?_, ?_, ?_, ?_⟩ <;> dsimp only <;> omega
theorem or_byte {x y : Int} (hx : 0 ≤ x ∧ x ≤ 4294967295) (hy : 0 ≤ y ∧ y ≤ 255) : Go.bits .or .i64 (x * 256) y = x * 256 + y := by
  have hk : ∀ n : Int, 0 ≤ n → n < 2 ^ 40 → IntKind.i64.wrap n = n := fun n h0 h1 => by
    have h2 : n < 1099511627776 := by simpa using h1
    rw [IntKind.wrap_i64]; omega
  have e40 : (2 : Int) ^ 40 = 1099511627776 := by simp
  have e8 : (2 : Int) ^ 8 = 256 := by simp
  exact bits_join .i64 40 (by decide) hk 8 (x * 256) y (by omega) (by rw [e8]; omega) (by rw [e40]; omega) (by omega) (by rw [e8]; omega) (by rw [e40]; omega)
theorem drop_rd {l : List Int} {i : Int} (h0 : 0 ≤ i) (h1 : i < (l.length : Int)) : l.drop i.toNat = rd l i :: l.drop (i.toNat + 1) := by
  rw [rd_get l i h0 h1]
  exact List.drop_eq_getElem_cons (by omega)
theorem big_ok (s : List Int) : EvP (fun _ => laws_big.f s) (fun b => b = false → (s.length : Int) ≤ 1048576) := by
  unfold laws_big.f
  refine EvP.ret (fun h => ?_)
  simp at h
  omega
def sm (a b : Int) : Int := if a + b > 65535 then a + b - 65535 else a + b
theorem sm_range {a b : Int} (ha : 0 ≤ a ∧ a ≤ 65535) (hb : 0 ≤ b ∧ b ≤ 65535) : 0 ≤ sm a b ∧ sm a b ≤ 65535 := by unfold sm; split <;> omega
theorem sm_mod {a b : Int} : (sm a b - (a + b)) % 65535 = 0 := by unfold sm; split <;> omega
def wsum : List Int → Int → Int
  | [], a => a
  | [x], a => sm a (x * 256)
  | x :: y :: t, a => wsum t (sm a (x * 256 + y))
def wtot : List Int → Int
  | [] => 0
  | [x] => x * 256
  | x :: y :: t => x * 256 + y + wtot t
theorem wsum_range : ∀ (l : List Int) (a : Int), Bs l → 0 ≤ a ∧ a ≤ 65535 → 0 ≤ wsum l a ∧ wsum l a ≤ 65535
  | [], a, _, ha => ha
  | [x], a, h, ha => by
    have := h x (by simp)
    exact sm_range ha (by omega)
  | x :: y :: t, a, h, ha => by
    have h1 := h x (by simp)
    have h2 := h y (by simp)
    exact wsum_range t _ (fun z hz => h z (by simp [hz])) (sm_range ha (by omega))
theorem wsum_mod : ∀ (l : List Int) (a : Int), (wsum l a - (a + wtot l)) % 65535 = 0
  | [], a => by simp [wsum, wtot]
  | [x], a => sm_mod
  | x :: y :: t, a => by
    have h1 := wsum_mod t (sm a (x * 256 + y))
    have h2 := sm_mod (a := a) (b := x * 256 + y)
    simp only [wsum, wtot]
    generalize sm a (x * 256 + y) = q at *
    generalize wsum t q = r at *
    omega
theorem wtot_set : ∀ (l : List Int) (i : Nat) (v : Int) (hi : i < l.length), wtot (l.set i v) = wtot l + (v - l[i]) * (if i % 2 = 0 then 256 else 1)
  | [], i, v, hi => by simp at hi
  | [x], i, v, hi => by
    obtain rfl : i = 0 := by simpa using hi
    simp [wtot]; omega
  | x :: y :: t, 0, v, hi => by simp [wtot]; omega
  | x :: y :: t, 1, v, hi => by simp [wtot]; omega
  | x :: y :: t, i + 2, v, hi => by
    have hi' : i < t.length := by simpa using hi
    have ih := wtot_set t i v hi'
    have e : (i + 2) % 2 = i % 2 := by omega
    simp only [List.set_cons_succ, wtot, List.getElem_cons_succ, e]
    rw [ih]; omega
theorem sum_ok {a b : Int} (ha : 0 ≤ a ∧ a ≤ 65535) (hb : 0 ≤ b ∧ b ≤ 65535) : impl_sum.f a b = some (sm a b) := by
  unfold impl_sum.f sm
  rw [w64 (x := a + b) (by omega) (by omega)]
  split
  · rw [w64 (by omega) (by omega)]
  · rfl
theorem onesSum_l0 {l : List Int} (hb : Bs l) (hl : (l.length : Int) ≤ 1000000) : ∀ (d : Nat) (i a : Int), 0 ≤ i → (l.length : Int) - i ≤ d → i ≤ (l.length : Int) + 1 → 0 ≤ a ∧ a ≤ 65535 →
    EvP (fun k => impl_onesSum.l0 k l a i) (fun r => r = wsum (l.drop i.toNat) a) := by
  intro d
  induction d with
  | zero =>
    intro i a h0 hd hi ha
    refine EvP.step ?_
    simp only [impl_onesSum.l0]
    refine EvP.no (by omega) (EvP.ret ?_)
    rw [List.drop_of_length_le (by omega)]; rfl
  | succ d ih =>
    intro i a h0 hd hi ha
    refine EvP.step ?_
    simp only [impl_onesSum.l0]
    refine EvP.ite (fun hlt => ?_) (fun hge => ?_)
    · refine EvP.yes h0 ?_
      have hx := hb.rdb i
      have hy := hb.rdb (i + 1)
      simp only [w64 (x := i + 1) (by omega) (by omega), w64 (x := i + 2) (by omega) (by omega), w64 (x := rd l i) (by omega) (by omega), w64 (x := rd l (i + 1)) (by omega) (by omega), w64 (x := rd l i * 256) (by omega) (by omega), or_byte (x := rd l i) (y := rd l (i + 1)) (by omega) (by omega)]
      refine EvP.ite (fun hlt2 => ?_) (fun hge2 => ?_)
      · refine EvP.yes (by omega) ?_
        simp only [sum_ok ha (b := rd l i * 256 + rd l (i + 1)) (by omega), Option.bind_some]
        refine (ih (i + 2) _ (by omega) (by omega) (by omega) (sm_range ha (by omega))).mono ?_
        rintro r rfl
        rw [drop_rd h0 hlt, show i.toNat + 1 = (i + 1).toNat by omega, drop_rd (by omega) hlt2, show (i + 1).toNat + 1 = (i + 2).toNat by omega]
        rfl
      · simp only [sum_ok ha (b := rd l i * 256) (by omega), Option.bind_some]
        refine (ih (i + 2) _ (by omega) (by omega) (by omega) (sm_range ha (by omega))).mono ?_
        rintro r rfl
        rw [drop_rd h0 hlt, List.drop_of_length_le (by omega), List.drop_of_length_le (by omega)]
        rfl
    · refine EvP.ret ?_
      rw [List.drop_of_length_le (by omega)]; rfl
theorem onesSum_ok {l : List Int} (hb : Bs l) (hl : (l.length : Int) ≤ 1000000) : EvP (fun k => impl_onesSum.f k l) (fun r => r = wsum l 0) := by
  have := onesSum_l0 hb hl l.length 0 0 (by omega) (by omega) (by omega) (by omega)
  simpa [impl_onesSum.f] using this
theorem size_ok {s : List Int} {p sd B n : Int} (h : Cu s p sd B) (hB : B ≤ 4611686018427387904) (hl : (s.length : Int) ≤ 1048576) (h0 : 0 ≤ n) (hn : n ≤ 1000) :
    EvP (fun _ => spec_l01Cur_size.f s p sd n) (fun r => Cu s r.2.1 r.2.2 (B + 1) ∧ 0 ≤ r.1 ∧ r.1 ≤ n) := by
  unfold spec_l01Cur_size.f
  have e : 0 ≤ mn n (wrap64 (1 + (wrap64 ((s.length : Int) / 8)))) ∧ mn n (wrap64 (1 + (wrap64 ((s.length : Int) / 8)))) ≤ n := by
    rw [w64 (x := (s.length : Int) / 8) (by omega) (by omega), w64 (by omega) (by omega)]
    unfold mn; omega
  generalize mn n (wrap64 (1 + (wrap64 ((s.length : Int) / 8)))) = m at e
  rw [w64 (x := m + 1) (by omega) (by omega)]
  refine EvP.bind (pickE h hB) ?_
  rintro ⟨x, p', s'⟩ ⟨c, x0, x1⟩
  dsimp only at *
  exact EvP.ret ⟨c, x0, by dsimp only; omega⟩
theorem bytes_l0 {s : List Int} : ∀ (d : Nat) (out : List Int) (m p sd B : Int), Cu s p sd B → B + d ≤ 4611686018427387904 → 0 ≤ m → m ≤ d → Bs out → out.length + d ≤ 100000 →
    EvP (fun k => spec_l01Cur_bytes.l0 k out m s p sd) (fun r => Cu s r.2.1 r.2.2 (B + d) ∧ Bs r.1 ∧ (r.1.length : Int) = out.length + m) := by
  intro d
  induction d with
  | zero =>
    intro out m p sd B h hB h0 hm ho hl
    refine EvP.step ?_
    simp only [spec_l01Cur_bytes.l0]
    exact EvP.no (by omega) (EvP.ret ⟨h.le (by omega), ho, by dsimp only; omega⟩)
  | succ d ih =>
    intro out m p sd B h hB h0 hm ho hl
    refine EvP.step ?_
    simp only [spec_l01Cur_bytes.l0]
    refine EvP.ite (fun hp => ?_) (fun hp => EvP.ret ⟨h.le (by omega), ho, by dsimp only; omega⟩)
    refine EvP.bind (pickE (n := 256) h (by omega)) ?_
    rintro ⟨x, p', s'⟩ ⟨c, x0, x1⟩
    dsimp only at *
    refine EvP.yes (by omega) ?_
    simp only [w64 (x := m - 1) (by omega) (by omega)]
    refine (ih (out ++ [x % 256]) (m - 1) p' s' (B + 1) c (by omega) (by omega) (by omega) (ho.snoc (by omega) (by omega)) (by rw [List.length_append]; simp only [List.length_cons, List.length_nil]; omega)).mono ?_
    rintro r ⟨h1, h2, h3⟩
    refine ⟨h1.le (by omega), h2, ?_⟩
    rw [List.length_append] at h3
    simp only [List.length_cons, List.length_nil] at h3
    omega
theorem bytes_ok {s : List Int} {p sd B n : Int} (h : Cu s p sd B) (hB : B ≤ 1000000000000) (hl : (s.length : Int) ≤ 1048576) (h0 : 0 ≤ n) (hn : n ≤ 1000) :
    EvP (fun k => spec_l01Cur_bytes.f k s p sd n) (fun r => Cu s r.2.1 r.2.2 (B + 1001) ∧ Bs r.1 ∧ (r.1.length : Int) ≤ n) := by
  unfold spec_l01Cur_bytes.f
  refine EvP.bind (size_ok h (by omega) hl h0 hn) ?_
  rintro ⟨m, p', s'⟩ ⟨c, m0, m1⟩
  dsimp only at *
  refine (bytes_l0 1000 [] m p' s' (B + 1) c (by omega) m0 (by omega) Bs.nil (by simp)).mono ?_
  rintro r ⟨h1, h2, h3⟩
  exact ⟨h1.le (by omega), h2, by simp at h3; omega⟩
theorem once_ok {s : List Int} {p sd B n : Int} (h : Cu s p sd B) (hB : B ≤ 4611686018427387904) :
    EvP (fun _ => spec_l01Cur_once.f s p sd n) (fun r => Cu s r.2.1 r.2.2 (B + 1)) := by
  unfold spec_l01Cur_once.f
  refine EvP.bind (pickE h hB) ?_
  rintro ⟨x, p', s'⟩ ⟨c, _, _⟩
  exact EvP.ret c
theorem lpick_l0 {s : List Int} {a n : Int} (hb : Bs s) (hs : 0 < (s.length : Int)) (ha : 0 ≤ a ∧ a ≤ 1000000) (hn : 2 ≤ n) : ∀ (d : Nat) (x i : Int), 0 ≤ x → x ≤ 1000000000000 → 0 ≤ i → i + d = 3 → (d = 3 → x = 0) → (d = 2 → x ≤ 255) → (d = 1 → x ≤ 8160) → (d = 0 → x ≤ 253215) →
    EvP (fun k => laws_pick.l0 k s a n x i) (fun r => 0 ≤ r ∧ r < n) := by
  intro d
  induction d with
  | zero =>
    intro x i h0 h1 hi hd _ _ _ _
    refine EvP.step ?_
    simp only [laws_pick.l0]
    refine EvP.no (by omega) (EvP.no (by omega) ?_)
    simp only [w64 (x := x + a) (by omega) (by omega)]
    exact EvP.ret (rem_ok (by omega) hn)
  | succ d ih =>
    intro x i h0 h1 hi hd e3 e2 e1 e0
    refine EvP.step ?_
    simp only [laws_pick.l0]
    simp only [w64 (x := a + i) (by omega) (by omega), w64 (x := i + 1) (by omega) (by omega)]
    have hm : 0 ≤ Int.tmod (a + i) (s.length : Int) ∧ Int.tmod (a + i) (s.length : Int) < (s.length : Int) := by
      rw [tmod_pos (by omega)]
      exact ⟨Int.emod_nonneg _ (by omega), Int.emod_lt_of_pos _ (by omega)⟩
    have hr := hb.rdb (Int.tmod (a + i) (s.length : Int))
    simp only [w64 (x := rd s (Int.tmod (a + i) (s.length : Int))) (by omega) (by omega), w64 (x := 31 * x) (by omega) (by omega)]
    simp only [w64 (x := 31 * x + rd s (Int.tmod (a + i) (s.length : Int))) (by omega) (by omega)]
    refine EvP.yes (by omega) (EvP.no (by omega) (EvP.yes hm.1 (EvP.yes hm.2 ?_)))
    exact ih _ _ (by omega) (by omega) (by omega) (by omega) (by omega) (by omega) (by omega) (by omega)
theorem lpick {s : List Int} {a n : Int} (hb : Bs s) (ha : 0 ≤ a ∧ a ≤ 1000000) : EvP (fun k => laws_pick.f k s a n) (fun r => 0 ≤ r ∧ (r < n ∨ r = 0)) := by
  unfold laws_pick.f
  refine EvP.ite (fun _ => ?_) (fun hl => ?_)
  · refine EvP.step ?_
    simp only [laws_pick.j0]
    exact EvP.yes (by simp) (EvP.ret ⟨by omega, .inr rfl⟩)
  · refine EvP.step ?_
    simp only [laws_pick.j0]
    refine EvP.ite (fun _ => EvP.ret ⟨by omega, .inr rfl⟩) (fun hn => ?_)
    refine (lpick_l0 hb (by omega) ha (by simp at hn; omega) 3 0 0 (by omega) (by omega) (by omega) (by omega) (by omega) (by omega) (by omega) (by omega)).mono ?_
    rintro r ⟨h0, h1⟩
    exact ⟨h0, .inl h1⟩
theorem shr_of {x : Int} {c : Int} {j : Int} (h : c.toNat ≤ 64) (hj : j = x / 2 ^ c.toNat) : shr .i64 x c = j := by
  unfold shr; rw [hj, show IntKind.bits .i64 = 64 from rfl, Nat.min_eq_left h]
theorem put_l0 (n m : Int) (hm : 0 ≤ m ∧ m ≤ 8) : ∀ (d : Nat) (out : List Int) (i : Int), 0 ≤ i → i + d = m → (out.length : Int) = m →
    EvP (fun k => impl_put.l0 k n m out m i) (fun r => r.length = out.length ∧ ∀ j : Nat, (j : Int) < m → r[j]? = if (j : Int) < i then out[j]? else some (n / 2 ^ (8 * (m - 1 - (j : Int))).toNat % 256)) := by
  intro d
  induction d with
  | zero =>
    intro out i h0 hd hl
    refine EvP.step ?_
    simp only [impl_put.l0]
    refine EvP.no (by omega) (EvP.ret ⟨rfl, fun j hj => ?_⟩)
    rw [if_pos (by omega)]
  | succ d ih =>
    intro out i h0 hd hl
    refine EvP.step ?_
    simp only [impl_put.l0]
    simp only [w64 (x := m - 1) (by omega) (by omega), w64 (x := i + 1) (by omega) (by omega)]
    simp only [w64 (x := m - 1 - i) (by omega) (by omega)]
    simp only [w64 (x := 8 * (m - 1 - i)) (by omega) (by omega)]
    refine EvP.yes (by omega) (EvP.yes (by omega) (EvP.yes (by omega) (EvP.yes (by omega) ?_)))
    rw [shr_of (by omega) rfl]
    refine (ih (out.set i.toNat (n / 2 ^ (8 * (m - 1 - i)).toNat % 256)) (i + 1) (by omega) (by omega) (by rw [List.length_set]; exact hl)).mono ?_
    rintro r ⟨h1, h2⟩
    refine ⟨by rw [h1, List.length_set], fun j hj => ?_⟩
    rw [h2 j hj]
    by_cases hji : (j : Int) < i
    · rw [if_pos (by omega), if_pos hji, List.getElem?_set_ne (by omega)]
    · rw [if_neg hji]
      by_cases e : (j : Int) = i
      · subst e
        rw [if_pos (by omega)]
        simp only [Int.toNat_natCast]
        rw [List.getElem?_set_self (by omega)]
      · rw [if_neg (by omega)]
theorem put_ok (n m : Int) (hm : 0 ≤ m ∧ m ≤ 8) :
    EvP (fun k => impl_put.f k n m) (fun r => (r.length : Int) = m ∧ ∀ j : Nat, (j : Int) < m → r[j]? = some (n / 2 ^ (8 * (m - 1 - (j : Int))).toNat % 256)) := by
  unfold impl_put.f
  refine EvP.yes (by omega) (EvP.yes (by omega) (EvP.bind (EvP.ret (P := fun y => y = List.replicate m.toNat 0) rfl) ?_))
  rintro y rfl
  have hl : ((List.replicate m.toNat (0 : Int)).length : Int) = m := by rw [List.length_replicate]; omega
  rw [hl]
  refine (put_l0 n m hm m.toNat _ 0 (by omega) (by omega) hl).mono ?_
  rintro r ⟨h1, h2⟩
  refine ⟨by rw [h1]; exact hl, fun j hj => ?_⟩
  rw [h2 j hj, if_neg (by omega)]
theorem put16_ok (n : Int) : EvP (fun k => impl_Put16.f k n) (fun r => r = [n / 256 % 256, n % 256]) := by
  unfold impl_Put16.f
  refine EvP.bind (put_ok n 2 (by omega)) ?_
  rintro r ⟨h1, h2⟩
  refine EvP.ret ?_
  match r, h1, h2 with
  | [x, y], _, h2 =>
    have e0 := h2 0 (by omega)
    have e1 := h2 1 (by omega)
    simp at e0 e1
    rw [e0, e1]
theorem checksum_ok {l : List Int} (hb : Bs l) (hl : (l.length : Int) ≤ 2000) : EvP (fun k => impl_Checksum.f k l) (fun r => r = 65535 - wsum l 0) := by
  unfold impl_Checksum.f
  refine EvP.no (by omega) (EvP.bind (onesSum_ok hb (by omega)) ?_)
  rintro r rfl
  have := wsum_range l 0 hb (by omega)
  exact EvP.ret (w64 (by omega) (by omega))
theorem w64r {x : Int} : -9223372036854775808 ≤ wrap64 x ∧ wrap64 x ≤ 9223372036854775807 := ⟨w64_lo x, w64_hi x⟩
theorem raw_ok {s : List Int} {p sd B : Int} (h : Cu s p sd B) (hB : B ≤ 1000000000000) :
    EvP (fun _ => spec_l01Cur_raw.f s p sd) (fun r => Cu s r.2.1 r.2.2 (B + 2) ∧ -9223372036854775808 ≤ r.1 ∧ r.1 ≤ 9223372036854775807) := by
  unfold spec_l01Cur_raw.f
  refine EvP.bind (pickE (n := 8) h (by omega)) ?_
  rintro ⟨a, p1, s1⟩ ⟨c1, a0, a1⟩
  dsimp only at *
  refine EvP.ite (fun _ => ?_) (fun _ => EvP.ite (fun _ => ?_) (fun _ => ?_))
  · refine EvP.bind (pickE (n := 256) c1 (by omega)) ?_
    rintro ⟨b, p2, s2⟩ ⟨c2, b0, b1⟩
    exact EvP.ret ⟨c2.le (by omega), w64r⟩
  · refine EvP.bind (EvP.ret (P := fun y => y.length = 8 ∧ ∀ i : Int, 0 ≤ i → i < 8 → -9223372036854775808 ≤ rd y i ∧ rd y i ≤ 9223372036854775807) ⟨rfl, fun i h0 h8 => ?_⟩) ?_
    · have : i = 0 ∨ i = 1 ∨ i = 2 ∨ i = 3 ∨ i = 4 ∨ i = 5 ∨ i = 6 ∨ i = 7 := by omega
      rcases this with e | e | e | e | e | e | e | e <;> rw [e] <;> decide
    · rintro y ⟨hy, hv⟩
      refine EvP.bind (pickE (n := 8) c1 (by omega)) ?_
      rintro ⟨b, p2, s2⟩ ⟨c2, b0, b1⟩
      dsimp only at *
      exact EvP.yes b0 (EvP.yes (by omega) (EvP.ret ⟨c2.le (by omega), hv b b0 (by omega)⟩))
  · refine EvP.bind (pickE (n := 14) c1 (by omega)) ?_
    rintro ⟨b, p2, s2⟩ ⟨c2, b0, b1⟩
    exact EvP.ret ⟨c2.le (by omega), w64r⟩
theorem wide_ok {s : List Int} {p sd B n : Int} (h : Cu s p sd B) (hB : B ≤ 1000000000000) (hn : 2 ≤ n) :
    EvP (fun _ => spec_l01Cur_wide.f s p sd n) (fun r => Cu s r.2.1 r.2.2 (B + 3) ∧ 0 ≤ r.1 ∧ r.1 < n) := by
  unfold spec_l01Cur_wide.f
  refine EvP.bind (pickE (n := 256) h (by omega)) ?_
  rintro ⟨a, p1, s1⟩ ⟨c1, a0, a1⟩
  dsimp only at *
  refine EvP.bind (pickE (n := 256) c1 (by omega)) ?_
  rintro ⟨b, p2, s2⟩ ⟨c2, b0, b1⟩
  dsimp only at *
  refine EvP.bind (pickE (n := 256) c2 (by omega)) ?_
  rintro ⟨d, p3, s3⟩ ⟨c3, d0, d1⟩
  dsimp only at *
  refine EvP.no (by omega) (EvP.ret ⟨c3.le (by omega), ?_⟩)
  dsimp only
  rw [w64 (x := 65536 * a) (by omega) (by omega), w64 (x := 256 * b) (by omega) (by omega), w64 (x := 65536 * a + 256 * b) (by omega) (by omega), w64 (by omega) (by omega)]
  exact rem_ok (by omega) hn
theorem rd_take {l : List Int} {n : Nat} {i : Int} (h : i < (n : Int)) (h0 : 0 ≤ i) : rd (l.take n) i = rd l i := by
  unfold rd
  rw [List.getD_eq_getElem?_getD, List.getD_eq_getElem?_getD, List.getElem?_take, if_pos (by omega)]
theorem dropL2 {xs : List (List Int)} {i : Int} (h0 : 0 ≤ i) (h1 : i < (xs.length : Int)) : xs.drop i.toNat = rd_L2 xs i :: xs.drop (i + 1).toNat := by
  unfold rd_L2
  rw [List.getD_eq_getElem?_getD, List.getElem?_eq_getElem (by omega), List.drop_eq_getElem_cons (by omega), show (i + 1).toNat = i.toNat + 1 by omega]
  rfl
theorem concat_l1 {xs : List (List Int)} (hl : (xs.length : Int) ≤ 1000) : ∀ (d : Nat) (out : List Int) (i : Int), 0 ≤ i → i + d = (xs.length : Int) → ((out.length : Int) + ((xs.drop i.toNat).flatten.length : Int)) ≤ 1000000 →
    EvP (fun k => slices_Concat_byte_byte.l1 k out xs (xs.length : Int) i) (fun r => r = out ++ (xs.drop i.toNat).flatten)
  | 0, out, i, h0, hi, ht => by
    refine EvP.step ?_
    simp only [slices_Concat_byte_byte.l1]
    refine EvP.no (by omega) (EvP.ret ?_)
    rw [List.drop_of_length_le (by omega)]; simp
  | d + 1, out, i, h0, hi, ht => by
    have hd := dropL2 h0 (show i < (xs.length : Int) by omega)
    rw [hd, List.flatten_cons, List.length_append] at ht
    refine EvP.step ?_
    simp only [slices_Concat_byte_byte.l1]
    refine EvP.yes (by omega) (EvP.yes h0 (EvP.yes (by omega) (EvP.yes (by omega) ?_)))
    rw [w64 (by omega) (by omega)]
    refine (concat_l1 hl d (out ++ rd_L2 xs i) (i + 1) (by omega) (by omega) (by rw [List.length_append]; omega)).mono ?_
    rintro _ rfl
    rw [hd, List.flatten_cons, List.append_assoc]
theorem concat_l0 {xs : List (List Int)} (hl : (xs.length : Int) ≤ 1000) (hf : (xs.flatten.length : Int) ≤ 1000000) : ∀ (d : Nat) (z i : Int), 0 ≤ i → i + d = (xs.length : Int) → 0 ≤ z → (z + ((xs.drop i.toNat).flatten.length : Int)) ≤ 1000000 →
    EvP (fun k => slices_Concat_byte_byte.l0 k xs z xs (xs.length : Int) i) (fun r => r = xs.flatten)
  | 0, z, i, h0, hi, hz, ht => by
    refine EvP.step ?_
    simp only [slices_Concat_byte_byte.l0]
    refine EvP.no (by omega) ?_
    refine EvP.bind (P := fun r => r = []) ?_ ?_
    · unfold slices_Grow_nil_153.f
      exact EvP.no (by omega) (EvP.yes (by omega) (EvP.ret rfl))
    rintro _ rfl
    have h := concat_l1 hl xs.length [] 0 (by omega) (by omega) (by simpa using hf)
    simpa using h
  | d + 1, z, i, h0, hi, hz, ht => by
    have hd := dropL2 h0 (show i < (xs.length : Int) by omega)
    rw [hd, List.flatten_cons, List.length_append] at ht
    refine EvP.step ?_
    simp only [slices_Concat_byte_byte.l0]
    have e : wrap64 (z + ((rd_L2 xs i).length : Int)) = z + ((rd_L2 xs i).length : Int) := w64 (by omega) (by omega)
    rw [e, w64 (x := i + 1) (by omega) (by omega)]
    refine EvP.yes (by omega) (EvP.yes h0 (EvP.yes (by omega) (EvP.no (by omega) ?_)))
    exact concat_l0 hl hf d _ (i + 1) (by omega) (by omega) (by omega) (by omega)
theorem concat_ok {xs : List (List Int)} (hl : (xs.length : Int) ≤ 1000) (hf : (xs.flatten.length : Int) ≤ 1000000) : EvP (fun k => slices_Concat_byte_byte.f k xs) (fun r => r = xs.flatten) := by
  unfold slices_Concat_byte_byte.f
  exact concat_l0 hl hf xs.length 0 0 (by omega) (by omega) (by omega) (by simpa using hf)
theorem or_wide {x y : Int} (hx : 0 ≤ x ∧ x ≤ 1099511627775) (hy : 0 ≤ y ∧ y ≤ 255) : Go.bits .or .i64 (x * 256) y = x * 256 + y := by
  have hk : ∀ n : Int, 0 ≤ n → n < 2 ^ 48 → IntKind.i64.wrap n = n := fun n h0 h1 => by
    have h2 : n < 281474976710656 := by simpa using h1
    rw [IntKind.wrap_i64]; omega
  have e48 : (2 : Int) ^ 48 = 281474976710656 := by simp
  have e8 : (2 : Int) ^ 8 = 256 := by simp
  exact bits_join .i64 48 (by decide) hk 8 (x * 256) y (by omega) (by rw [e8]; omega) (by rw [e48]; omega) (by omega) (by rw [e8]; omega) (by rw [e48]; omega)
theorem be_l0 {l : List Int} (hb : Bs l) (hl : l.length ≤ 6) : ∀ (d : Nat) (a i : Int), 0 ≤ i → i + d = (l.length : Int) → 0 ≤ a → a < 256 ^ i.toNat →
    EvP (fun k => impl_beOf.l0 k a l (l.length : Int) i) (fun r => r = (l.drop i.toNat).foldl (fun x y => x * 256 + y) a) := by
  intro d
  induction d with
  | zero =>
    intro a i h0 hd a0 a1
    refine EvP.step ?_
    simp only [impl_beOf.l0]
    refine EvP.no (by omega) (EvP.ret ?_)
    rw [List.drop_of_length_le (by omega)]; rfl
  | succ d ih =>
    intro a i h0 hd a0 a1
    have hx := hb.rdb i
    have hp : (256 : Int) ^ (i + 1).toNat = 256 ^ i.toNat * 256 := by rw [show (i + 1).toNat = i.toNat + 1 by omega]; exact Int.pow_succ _ _
    have hq : (256 : Int) ^ i.toNat ≤ 1099511627776 := by
      have : i.toNat = 0 ∨ i.toNat = 1 ∨ i.toNat = 2 ∨ i.toNat = 3 ∨ i.toNat = 4 ∨ i.toNat = 5 := by omega
      rcases this with e | e | e | e | e | e <;> rw [e] <;> decide
    generalize (256 : Int) ^ i.toNat = q at a1 hp hq
    refine EvP.step ?_
    simp only [impl_beOf.l0]
    simp only [w64 (x := i + 1) (by omega) (by omega), w64 (x := rd l i) (by omega) (by omega), w64 (x := a * 256) (by omega) (by omega), or_wide (x := a) (y := rd l i) (by omega) (by omega)]
    refine EvP.yes (by omega) (EvP.yes (by omega) (EvP.yes (by omega) ?_))
    refine (ih _ _ (by omega) (by omega) (by omega) (by rw [hp]; omega)).mono ?_
    rintro r rfl
    have hdr : l.drop i.toNat = rd l i :: l.drop (i.toNat + 1) := by
      rw [rd_get l i h0 (by omega)]
      exact List.drop_eq_getElem_cons (by omega)
    rw [hdr, show (i + 1).toNat = i.toNat + 1 by omega]
    rfl
theorem be_ok {l : List Int} (hb : Bs l) (hl : l.length ≤ 6) : EvP (fun k => impl_beOf.f k l) (fun r => r = l.foldl (fun x y => x * 256 + y) 0) := by
  unfold impl_beOf.f
  exact be_l0 hb hl l.length 0 0 (by omega) (by omega) (by omega) (by simp)
theorem addr4_ok {s : List Int} {p sd B a : Int} (h : Cu s p sd B) (hB : B ≤ 100000000) : EvP (fun _ => spec_l01Cur_addr.f s p sd a) (fun r => Cu s r.2.2.2.2.2.1 r.2.2.2.2.2.2 (B + 40)) := by
  unfold spec_l01Cur_addr.f
  refine EvP.ite (fun _ => ?_) (fun _ => ?_)
  · refine EvP.bind (pickE (n := 4) h (by omega)) ?_
    rintro ⟨a1, p1, s1⟩ ⟨c1, _, _⟩
    refine EvP.bind (pickE (n := 3) c1 (by omega)) ?_
    rintro ⟨a2, p2, s2⟩ ⟨c2, _, _⟩
    refine EvP.bind (pickE (n := 256) c2 (by omega)) ?_
    rintro ⟨a3, p3, s3⟩ ⟨c3, _, _⟩
    refine EvP.bind (pickE (n := 8) c3 (by omega)) ?_
    rintro ⟨a4, p4, s4⟩ ⟨c4, _, _⟩
    refine EvP.bind (wide_ok (n := 16777216) c4 (by omega) (by omega)) ?_
    rintro ⟨a5, p5, s5⟩ ⟨c5, _, _⟩
    refine EvP.bind (pickE (n := 256) c5 (by omega)) ?_
    rintro ⟨a6, p6, s6⟩ ⟨c6, _, _⟩
    refine EvP.bind (P := fun r => r.length = 5) (EvP.ret rfl) (fun xs hx => ?_)
    refine EvP.bind (pickE (n := 5) c6 (by omega)) ?_
    rintro ⟨i, p7, s7⟩ ⟨c7, i0, i1⟩
    dsimp only at *
    exact EvP.yes i0 (EvP.yes (by omega) (EvP.ret (c7.le (by omega))))
  · refine EvP.bind (wide_ok (n := 16777216) h (by omega) (by omega)) ?_
    rintro ⟨a1, p1, s1⟩ ⟨c1, _, _⟩
    refine EvP.bind (P := fun r => r.length = 3) (EvP.ret rfl) (fun xs hx => ?_)
    refine EvP.bind (pickE (n := 3) c1 (by omega)) ?_
    rintro ⟨i, p2, s2⟩ ⟨c2, i0, i1⟩
    dsimp only at c2 i0 i1 ⊢
    refine EvP.yes i0 (EvP.yes (by omega) ?_)
    refine EvP.bind (pickE (n := 2) c2 (by omega)) ?_
    rintro ⟨a3, p3, s3⟩ ⟨c3, _, _⟩
    refine EvP.bind (pickE (n := 3) c3 (by omega)) ?_
    rintro ⟨a4, p4, s4⟩ ⟨c4, _, _⟩
    refine EvP.bind (wide_ok (n := 16777216) c4 (by omega) (by omega)) ?_
    rintro ⟨a5, p5, s5⟩ ⟨c5, _, _⟩
    refine EvP.bind (pickE (n := 8) c5 (by omega)) ?_
    rintro ⟨a6, p6, s6⟩ ⟨c6, _, _⟩
    refine EvP.bind (pickE (n := 3) c6 (by omega)) ?_
    rintro ⟨a7, p7, s7⟩ ⟨c7, _, _⟩
    refine EvP.bind (P := fun r => r.length = 2) (EvP.ret rfl) (fun ys hy => ?_)
    refine EvP.bind (pickE (n := 2) c7 (by omega)) ?_
    rintro ⟨j, p8, s8⟩ ⟨c8, j0, j1⟩
    dsimp only at c8 j0 j1 ⊢
    exact EvP.yes j0 (EvP.yes (by omega) (EvP.ret (c8.le (by omega))))
theorem kind_ok {s : List Int} {p sd B : Int} (h : Cu s p sd B) (hB : B ≤ 100000000) : EvP (fun _ => spec_l01Cur_kind.f s p sd) (fun r => Cu s r.2.1 r.2.2 (B + 1)) := by
  unfold spec_l01Cur_kind.f
  refine EvP.bind (P := fun r => r.length = 3) (EvP.ret rfl) (fun xs hx => ?_)
  refine EvP.bind (pickE (n := 3) h (by omega)) ?_
  rintro ⟨i, p2, s2⟩ ⟨c2, i0, i1⟩
  dsimp only at c2 i0 i1 ⊢
  exact EvP.yes i0 (EvP.yes (by omega) (EvP.ret c2))
theorem badAddr_ok {s : List Int} {p sd B : Int} (h : Cu s p sd B) (hB : B ≤ 90000000) : EvP (fun _ => spec_l01Cur_badAddr.f s p sd) (fun r => Cu s r.2.2.2.2.2.1 r.2.2.2.2.2.2 (B + 60)) := by
  unfold spec_l01Cur_badAddr.f
  refine EvP.bind (kind_ok h (by omega)) ?_
  rintro ⟨a1, p1, s1⟩ c1
  refine EvP.bind (addr4_ok c1 (by omega)) ?_
  rintro ⟨a2, b2, d2, e2, f2, p2, s2⟩ c2
  refine EvP.bind (pickE (n := 6) c2 (by omega)) ?_
  rintro ⟨x, p3, s3⟩ ⟨c3, _, _⟩
  dsimp only at c3 ⊢
  refine EvP.ite (fun _ => ?_) (fun _ => EvP.ite (fun _ => ?_) (fun _ => EvP.ite (fun _ => ?_) (fun _ => EvP.ret (c3.le (by omega)))))
  · refine EvP.bind (raw_ok c3 (by omega)) ?_
    rintro ⟨y, p4, s4⟩ ⟨c4, _, _⟩
    exact EvP.ret (c4.le (by omega))
  · refine EvP.bind (raw_ok c3 (by omega)) ?_
    rintro ⟨y, p4, s4⟩ ⟨c4, _, _⟩
    exact EvP.ret (c4.le (by omega))
  · refine EvP.bind (raw_ok c3 (by omega)) ?_
    rintro ⟨y, p4, s4⟩ ⟨c4, _, _⟩
    exact EvP.ret (c4.le (by omega))
def FourQ (s : List Int) (B : Int) (o b : List Int) (p sd : Int) : Prop := Bs o ∧ (o.length : Int) ≤ 100 ∧ Bs b ∧ (b.length : Int) ≤ 2000 ∧ Cu s p sd B
theorem fourD_l0 {s : List Int} {a0 a1 a2 a3 a4 a5 a6 a7 a8 a9 a10 a11 a12 a13 a14 a15 a16 : Int} : ∀ (d : Nat) (o : List Int) (i p sd B : Int), 0 ≤ i → i + d = (o.length : Int) → (o.length : Int) ≤ 100 → Bs o → Cu s p sd B → B + d ≤ 90000000 →
    EvP (fun k => spec_l01Cur_four.l0 k i s p sd a0 a1 a2 a3 a4 a5 a6 a7 a8 a9 a10 a11 a12 a13 a14 a15 a16 o) (fun r => FourQ s (B + d) r.2.2.2.2.2.2.2.2.2.2.2.2.2.2.2.2.2.1 r.2.2.2.2.2.2.2.2.2.2.2.2.2.2.2.2.2.2.1 r.2.2.2.2.2.2.2.2.2.2.2.2.2.2.2.2.2.2.2.1 r.2.2.2.2.2.2.2.2.2.2.2.2.2.2.2.2.2.2.2.2)
  | 0, o, i, p, sd, B, h0, hi, hl, hb, hc, hB => by
    refine EvP.step ?_
    simp only [spec_l01Cur_four.l0]
    exact EvP.no (by omega) (EvP.ret ⟨hb, hl, Bs.nil, by simp, hc.le (by omega)⟩)
  | d + 1, o, i, p, sd, B, h0, hi, hl, hb, hc, hB => by
    refine EvP.step ?_
    simp only [spec_l01Cur_four.l0]
    refine EvP.yes (by omega) (EvP.bind (pickE (n := 256) hc (by omega)) ?_)
    rintro ⟨x, p1, s1⟩ ⟨c1, x0, x1⟩
    dsimp only at c1 x0 x1 ⊢
    refine EvP.yes h0 ?_
    rw [w64 (x := i + 1) (by omega) (by omega)]
    refine (fourD_l0 d (o.set i.toNat (x % 256)) (i + 1) p1 s1 (B + 1) (by omega) (by rw [List.length_set]; omega) (by rw [List.length_set]; exact hl) (hb.set _ (by omega) (by omega)) c1 (by omega)).mono (fun r g => ?_)
    exact ⟨g.1, g.2.1, g.2.2.1, g.2.2.2.1, g.2.2.2.2.le (by omega)⟩
theorem fourD_j0 {s : List Int} {p sd B a0 a1 a2 a3 a4 a5 a6 a7 a8 a9 a10 a11 a12 a13 a14 a15 a16 : Int} (h : Cu s p sd B) (hB : B ≤ 80000000) :
    EvP (fun k => spec_l01Cur_four.j0 k s p sd a0 a1 a2 a3 a4 a5 a6 a7 a8 a9 a10 a11 a12 a13 a14 a15 a16) (fun r => FourQ s (B + 100) r.2.2.2.2.2.2.2.2.2.2.2.2.2.2.2.2.2.1 r.2.2.2.2.2.2.2.2.2.2.2.2.2.2.2.2.2.2.1 r.2.2.2.2.2.2.2.2.2.2.2.2.2.2.2.2.2.2.2.1 r.2.2.2.2.2.2.2.2.2.2.2.2.2.2.2.2.2.2.2.2) := by
  refine EvP.step ?_
  simp only [spec_l01Cur_four.j0]
  refine EvP.bind (once_ok (n := 5) h (by omega)) ?_
  rintro ⟨t, p1, s1⟩ c1
  dsimp only at c1 ⊢
  refine EvP.ite (fun _ => ?_) (fun _ => EvP.ret ⟨Bs.nil, by simp, Bs.nil, by simp, c1.le (by omega)⟩)
  refine EvP.bind (pickE (n := 11) c1 (by omega)) ?_
  rintro ⟨x, p2, s2⟩ ⟨c2, x0, x1⟩
  dsimp only at c2 x0 x1 ⊢
  have e : wrap64 (4 * x) = 4 * x := w64 (by omega) (by omega)
  rw [e]
  have hl : (List.replicate (4 * x).toNat (0 : Int)).length = (4 * x).toNat := List.length_replicate
  refine EvP.yes (by omega) (EvP.yes (by omega) ?_)
  refine (fourD_l0 (4 * x).toNat _ 0 p2 s2 _ (by omega) (by rw [hl]; omega) (by rw [hl]; omega) (Bs.rep _) c2 (by omega)).mono (fun r g => ?_)
  exact ⟨g.1, g.2.1, g.2.2.1, g.2.2.2.1, g.2.2.2.2.le (by omega)⟩
theorem fourD_ok {s : List Int} {p sd B : Int} (h : Cu s p sd B) (hB : B ≤ 1000) :
    EvP (fun k => spec_l01Cur_four.f k s p sd) (fun r => FourQ s (B + 1000) r.2.2.2.2.2.2.2.2.2.2.2.2.2.2.2.2.2.1 r.2.2.2.2.2.2.2.2.2.2.2.2.2.2.2.2.2.2.1 r.2.2.2.2.2.2.2.2.2.2.2.2.2.2.2.2.2.2.2.1 r.2.2.2.2.2.2.2.2.2.2.2.2.2.2.2.2.2.2.2.2) := by
  unfold spec_l01Cur_four.f
  refine EvP.bind (pickE (n := 64) h (by omega)) ?_
  rintro ⟨x1, p1, s1⟩ ⟨c1, _, _⟩
  refine EvP.bind (pickE (n := 4) c1 (by omega)) ?_
  rintro ⟨x2, p2, s2⟩ ⟨c2, _, _⟩
  refine EvP.bind (wide_ok (n := 65536) c2 (by omega) (by omega)) ?_
  rintro ⟨x3, p3, s3⟩ ⟨c3, _, _⟩
  refine EvP.bind (P := fun r => r.length = 5) (EvP.ret rfl) (fun xs hx => ?_)
  refine EvP.bind (pickE (n := 5) c3 (by omega)) ?_
  rintro ⟨i, p4, s4⟩ ⟨c4, i0, i1⟩
  dsimp only at c4 i0 i1 ⊢
  refine EvP.yes i0 (EvP.yes (by omega) ?_)
  refine EvP.bind (pickE (n := 256) c4 (by omega)) ?_
  rintro ⟨x5, p5, s5⟩ ⟨c5, _, _⟩
  refine EvP.bind (P := fun r => r.length = 6) (EvP.ret rfl) (fun ys hy => ?_)
  refine EvP.bind (pickE (n := 6) c5 (by omega)) ?_
  rintro ⟨j, p6, s6⟩ ⟨c6, j0, j1⟩
  dsimp only at c6 j0 j1 ⊢
  refine EvP.yes j0 (EvP.yes (by omega) ?_)
  refine EvP.bind (pickE (n := 256) c6 (by omega)) ?_
  rintro ⟨x7, p7, s7⟩ ⟨c7, _, _⟩
  refine EvP.bind (P := fun r => r.length = 7) (EvP.ret rfl) (fun zs hz => ?_)
  refine EvP.bind (pickE (n := 7) c7 (by omega)) ?_
  rintro ⟨l, p8, s8⟩ ⟨c8, l0, l1⟩
  dsimp only at c8 l0 l1 ⊢
  refine EvP.yes l0 (EvP.yes (by omega) ?_)
  refine EvP.bind (addr4_ok c8 (by omega)) ?_
  rintro ⟨b1, b2, b3, b4, b5, p9, s9⟩ c9
  refine EvP.bind (addr4_ok c9 (by omega)) ?_
  rintro ⟨d1, d2, d3, d4, d5, p10, s10⟩ c10
  refine EvP.bind (once_ok (n := 6) c10 (by omega)) ?_
  rintro ⟨t, p11, s11⟩ c11
  dsimp only at c11 ⊢
  refine EvP.ite (fun _ => ?_) (fun _ => (fourD_j0 c11 (by omega)).mono (fun r g => ⟨g.1, g.2.1, g.2.2.1, g.2.2.2.1, g.2.2.2.2.le (by omega)⟩))
  refine EvP.bind (P := fun r => r.length = 3) (EvP.ret rfl) (fun us hu => ?_)
  refine EvP.bind (pickE (n := 3) c11 (by omega)) ?_
  rintro ⟨m, p12, s12⟩ ⟨c12, m0, m1⟩
  dsimp only at c12 m0 m1 ⊢
  exact EvP.yes m0 (EvP.yes (by omega) ((fourD_j0 c12 (by omega)).mono (fun r g => ⟨g.1, g.2.1, g.2.2.1, g.2.2.2.1, g.2.2.2.2.le (by omega)⟩)))
theorem badFour_ok {s : List Int} {p sd : Int} (h : Cu s p sd 0) (hl : (s.length : Int) ≤ 1048576) :
    EvP (fun k => spec_l01Cur_badFour.f k s p sd) (fun r => Bs r.2.2.2.2.2.2.2.2.2.2.2.2.2.2.2.2.2.1 ∧ (r.2.2.2.2.2.2.2.2.2.2.2.2.2.2.2.2.2.1.length : Int) ≤ 100 ∧ Bs r.2.2.2.2.2.2.2.2.2.2.2.2.2.2.2.2.2.2.1 ∧ (r.2.2.2.2.2.2.2.2.2.2.2.2.2.2.2.2.2.2.1.length : Int) ≤ 2000) := by
  unfold spec_l01Cur_badFour.f
  refine EvP.bind (fourD_ok h (by omega)) ?_
  rintro ⟨a0, a1, a2, a3, a4, a5, a6, a7, a8, a9, a10, a11, a12, a13, a14, a15, a16, o, b, p0, s0⟩ ⟨ho, hol, _, _, c0⟩
  dsimp only at ho hol c0 ⊢
  refine EvP.bind (bytes_ok (n := 50) c0 (by omega) hl (by omega) (by omega)) ?_
  rintro ⟨bd, p2, s2⟩ ⟨c2, b1, b2⟩
  dsimp only at c2 b1 b2 ⊢
  have b3 : (bd.length : Int) ≤ 2000 := by omega
  refine EvP.bind (pickE (n := 12) c2 (by omega)) ?_
  rintro ⟨x, p3, s3⟩ ⟨c3, x0, x1⟩
  dsimp only at c3 x0 x1 ⊢
  refine EvP.ite (fun _ => ?_) (fun _ => EvP.ite (fun _ => ?_) (fun _ => EvP.ite (fun _ => ?_) (fun _ => EvP.ite (fun _ => ?_) (fun _ => EvP.ite (fun _ => ?_) (fun _ => EvP.ite (fun _ => ?_) (fun _ => EvP.ite (fun _ => ?_) (fun _ => EvP.ite (fun _ => ?_) (fun _ => EvP.ret ⟨ho, hol, b1, b3⟩))))))))
  · refine EvP.bind (raw_ok c3 (by omega)) ?_
    rintro ⟨y, p4, s4⟩ ⟨c4, _, _⟩
    refine EvP.bind (P := fun r => r.length = 3) (EvP.ret rfl) (fun xs hx => ?_)
    refine EvP.bind (pickE (n := 3) c4 (by omega)) ?_
    rintro ⟨i, p5, s5⟩ ⟨c5, i0, i1⟩
    dsimp only at *
    exact EvP.yes i0 (EvP.yes (by omega) (EvP.ret ⟨ho, hol, b1, b3⟩))
  · refine EvP.bind (raw_ok c3 (by omega)) ?_
    rintro ⟨y, p4, s4⟩ ⟨c4, _, _⟩
    refine EvP.bind (P := fun r => r.length = 2) (EvP.ret rfl) (fun xs hx => ?_)
    refine EvP.bind (pickE (n := 2) c4 (by omega)) ?_
    rintro ⟨i, p5, s5⟩ ⟨c5, i0, i1⟩
    dsimp only at *
    exact EvP.yes i0 (EvP.yes (by omega) (EvP.ret ⟨ho, hol, b1, b3⟩))
  · refine EvP.bind (raw_ok c3 (by omega)) ?_
    rintro ⟨y, p4, s4⟩ ⟨c4, _, _⟩
    refine EvP.bind (P := fun r => r.length = 2) (EvP.ret rfl) (fun xs hx => ?_)
    refine EvP.bind (pickE (n := 2) c4 (by omega)) ?_
    rintro ⟨i, p5, s5⟩ ⟨c5, i0, i1⟩
    dsimp only at *
    exact EvP.yes i0 (EvP.yes (by omega) (EvP.ret ⟨ho, hol, b1, b3⟩))
  · refine EvP.bind (badAddr_ok c3 (by omega)) ?_
    rintro ⟨y1, y2, y3, y4, y5, p4, s4⟩ c4
    exact EvP.ret ⟨ho, hol, b1, b3⟩
  · refine EvP.bind (pickE (n := 46) c3 (by omega)) ?_
    rintro ⟨y, p4, s4⟩ ⟨c4, y0, y1⟩
    dsimp only at *
    exact EvP.yes y0 (EvP.yes (by omega) (EvP.ret ⟨Bs.rep _, by dsimp only; rw [List.length_replicate]; omega, b1, b3⟩))
  · refine EvP.bind (pickE (n := 3) c3 (by omega)) ?_
    rintro ⟨y, p4, s4⟩ ⟨c4, y0, y1⟩
    dsimp only at *
    rw [w64 (x := 1480 - y) (by omega) (by omega)]
    exact EvP.yes (by omega) (EvP.yes (by omega) (EvP.ret ⟨ho, hol, Bs.rep _, by dsimp only; rw [List.length_replicate]; omega⟩))
  · refine EvP.bind (raw_ok c3 (by omega)) ?_
    rintro ⟨y, p4, s4⟩ ⟨c4, _, _⟩
    refine EvP.bind (P := fun r => r.length = 2) (EvP.ret rfl) (fun xs hx => ?_)
    refine EvP.bind (pickE (n := 2) c4 (by omega)) ?_
    rintro ⟨i, p5, s5⟩ ⟨c5, i0, i1⟩
    dsimp only at *
    exact EvP.yes i0 (EvP.yes (by omega) (EvP.ret ⟨ho, hol, b1, b3⟩))
  · refine EvP.bind (raw_ok c3 (by omega)) ?_
    rintro ⟨y, p4, s4⟩ ⟨c4, _, _⟩
    exact EvP.ret ⟨ho, hol, b1, b3⟩
theorem drawFour_ok {s : List Int} (hb : Bs s) (hl : (s.length : Int) ≤ 1048576) :
    EvP (fun k => spec_DrawFourBytes.f k s) (fun r => Bs r.2.2.2.2.2.2.2.2.2.2.2.2.2.2.2.2.2.1 ∧ (r.2.2.2.2.2.2.2.2.2.2.2.2.2.2.2.2.2.1.length : Int) ≤ 100 ∧ Bs r.2.2.2.2.2.2.2.2.2.2.2.2.2.2.2.2.2.2 ∧ (r.2.2.2.2.2.2.2.2.2.2.2.2.2.2.2.2.2.2.length : Int) ≤ 2000) := by
  unfold spec_DrawFourBytes.f
  refine EvP.bind (open_ok hb) ?_
  rintro ⟨s', p, sd⟩ ⟨rfl, c⟩
  refine EvP.bind (badFour_ok c hl) ?_
  rintro ⟨a0, a1, a2, a3, a4, a5, a6, a7, a8, a9, a10, a11, a12, a13, a14, a15, a16, o, b, p0, s0⟩ g
  exact EvP.ret g
def A4 (k a b c d : Int) : Prop := k = 4 ∧ a = 0 ∧ b = 0 ∧ c = 0 ∧ 0 ≤ d ∧ d ≤ 4294967295
structure FourP (a0 a1 a2 a3 a4 a5 a6 a7 a8 a9 a10 a11 a12 a13 a14 a15 a16 : Int) (o b : List Int) : Prop where
  x0 : 0 ≤ a0 ∧ a0 ≤ 63
  x1 : 0 ≤ a1 ∧ a1 ≤ 3
  x2 : 0 ≤ a2 ∧ a2 ≤ 65535
  x3 : 0 ≤ a3 ∧ a3 ≤ 7
  x4 : 0 ≤ a4 ∧ a4 ≤ 8191
  x5 : 0 ≤ a5 ∧ a5 ≤ 255
  x6 : 0 ≤ a6 ∧ a6 ≤ 255
  s : A4 a7 a8 a9 a10 a11
  d : A4 a12 a13 a14 a15 a16
  ol : (o.length : Int) ≤ 40
  om : (o.length : Int) % 4 = 0
  bl : 20 + (o.length : Int) + (b.length : Int) ≤ 1500
theorem in5_ok (n h : Int) : EvP (fun _ => spec_l05In.f n h) (fun r => r = true ↔ 0 ≤ n ∧ n ≤ h) := by
  unfold spec_l05In.f
  refine EvP.ite (fun h => EvP.ret ?_) (fun h => EvP.ret ⟨(fun g => by cases g), fun g => by omega⟩)
  rw [decide_eq_true_iff]; omega
theorem half_ok (n : Int) : EvP (fun _ => spec_l03Half.f n) (fun r => r = true ↔ 0 ≤ n ∧ n ≤ 4294967295) := by
  unfold spec_l03Half.f
  refine EvP.ite (fun h => EvP.ret ?_) (fun h => EvP.ret ⟨(fun g => by cases g), fun g => by omega⟩)
  rw [decide_eq_true_iff]; omega
theorem specAddr_ok (k a b c d : Int) : EvP (fun _ => spec_AddrOk.f k a b c d) (fun r => (r = true → k = 4 → A4 k a b c d) ∧ (A4 k a b c d → r = true)) := by
  unfold spec_AddrOk.f
  have nope : ∀ {p : Prop}, ¬ p → (A4 k a b c d → p) → ((false = true → k = 4 → A4 k a b c d) ∧ (A4 k a b c d → false = true)) := fun h1 h2 => ⟨(fun g => by cases g), fun g => absurd (h2 g) h1⟩
  refine EvP.ite (fun h1 => ?_) (fun h1 => ?_)
  · refine EvP.ite (fun h2 => ?_) (fun h => EvP.ret (nope h (fun g => g.2.1)))
    refine EvP.ite (fun h3 => ?_) (fun h => EvP.ret (nope h (fun g => g.2.2.1)))
    refine EvP.ite (fun h4 => ?_) (fun h => EvP.ret (nope h (fun g => g.2.2.2.1)))
    refine EvP.bind (half_ok d) (fun t ht => EvP.ret ⟨fun g _ => ⟨h1, h2, h3, h4, ht.1 g⟩, fun g => ht.2 g.2.2.2.2⟩)
  · have no : A4 k a b c d → False := fun g => h1 g.1
    refine EvP.ite (fun h2 => ?_) (fun _ => EvP.ret ⟨(fun g => by cases g), fun g => (no g).elim⟩)
    refine EvP.bind (half_ok a) (fun t ht => EvP.ite (fun _ => ?_) (fun _ => EvP.ret ⟨(fun g => by cases g), fun g => (no g).elim⟩))
    refine EvP.bind (half_ok b) (fun t ht => EvP.ite (fun _ => ?_) (fun _ => EvP.ret ⟨(fun g => by cases g), fun g => (no g).elim⟩))
    refine EvP.bind (half_ok c) (fun t ht => EvP.ite (fun _ => ?_) (fun _ => EvP.ret ⟨(fun g => by cases g), fun g => (no g).elim⟩))
    exact EvP.bind (half_ok d) (fun t ht => EvP.ret ⟨fun _ g => absurd g h1, fun g => (no g).elim⟩)
theorem within4 (a b c : Int) : EvP (fun _ => impl_within.f a b c) (fun r => r = true ↔ b ≤ a ∧ a ≤ c) := by
  unfold impl_within.f
  refine EvP.ite (fun h => EvP.ret ?_) (fun h => EvP.ret ⟨(fun h => by cases h), fun z => by omega⟩)
  rw [decide_eq_true_iff]; omega
theorem isByte4_ok (n : Int) : EvP (fun _ => impl_isByte.f n) (fun r => r = true ↔ 0 ≤ n ∧ n ≤ 255) := by
  unfold impl_isByte.f
  exact EvP.bind (within4 n 0 255) (fun t ht => EvP.ret ht)
theorem isWord4_ok (n : Int) : EvP (fun _ => impl_isWord.f n) (fun r => r = true ↔ 0 ≤ n ∧ n ≤ 65535) := by
  unfold impl_isWord.f
  exact EvP.bind (within4 n 0 65535) (fun t ht => EvP.ret ht)
theorem isLong4_ok (n : Int) : EvP (fun _ => impl_isLong.f n) (fun r => r = true ↔ 0 ≤ n ∧ n ≤ 4294967295) := by
  unfold impl_isLong.f
  exact EvP.bind (within4 n 0 4294967295) (fun t ht => EvP.ret ht)
theorem implAddr_ok (k a b c d : Int) : EvP (fun _ => impl_AddrOk.f k a b c d) (fun r => (r = true → k = 4 → A4 k a b c d) ∧ (A4 k a b c d → r = true)) := by
  unfold impl_AddrOk.f
  have nope : ∀ {p : Prop}, ¬ p → (A4 k a b c d → p) → ((false = true → k = 4 → A4 k a b c d) ∧ (A4 k a b c d → false = true)) := fun h1 h2 => ⟨(fun g => by cases g), fun g => absurd (h2 g) h1⟩
  refine EvP.ite (fun h1 => ?_) (fun h1 => ?_)
  · refine EvP.ite (fun h2 => ?_) (fun h => EvP.ret (nope h (fun g => g.2.1)))
    refine EvP.ite (fun h3 => ?_) (fun h => EvP.ret (nope h (fun g => g.2.2.1)))
    refine EvP.ite (fun h4 => ?_) (fun h => EvP.ret (nope h (fun g => g.2.2.2.1)))
    refine EvP.bind (isLong4_ok d) (fun t ht => EvP.ret ⟨fun g _ => ⟨h1, h2, h3, h4, ht.1 g⟩, fun g => ht.2 g.2.2.2.2⟩)
  · have no : A4 k a b c d → False := fun g => h1 g.1
    refine EvP.ite (fun h2 => ?_) (fun _ => EvP.ret ⟨(fun g => by cases g), fun g => (no g).elim⟩)
    refine EvP.bind (isLong4_ok a) (fun t ht => EvP.ite (fun _ => ?_) (fun _ => EvP.ret ⟨(fun g => by cases g), fun g => (no g).elim⟩))
    refine EvP.bind (isLong4_ok b) (fun t ht => EvP.ite (fun _ => ?_) (fun _ => EvP.ret ⟨(fun g => by cases g), fun g => (no g).elim⟩))
    refine EvP.bind (isLong4_ok c) (fun t ht => EvP.ite (fun _ => ?_) (fun _ => EvP.ret ⟨(fun g => by cases g), fun g => (no g).elim⟩))
    exact EvP.bind (isLong4_ok d) (fun t ht => EvP.ret ⟨fun _ g => absurd g h1, fun g => (no g).elim⟩)
theorem isAddrOf_ok (k a b c d : Int) : EvP (fun _ => impl_isAddrOf.f k a b c d 4) (fun r => r = true ↔ A4 k a b c d) := by
  unfold impl_isAddrOf.f
  refine EvP.bind (implAddr_ok k a b c d) (fun t ht => EvP.ite (fun h => EvP.ret ?_) (fun h => EvP.ret ⟨(fun g => by cases g), fun g => absurd (ht.2 g) h⟩))
  rw [beq_iff_eq]
  exact ⟨fun g => ht.1 h g, fun g => g.1⟩
theorem specFour_ok (a0 a1 a2 a3 a4 a5 a6 a7 a8 a9 a10 a11 a12 a13 a14 a15 a16 : Int) (o b : List Int) :
    EvP (fun k => spec_FourOk.f k a0 a1 a2 a3 a4 a5 a6 a7 a8 a9 a10 a11 a12 a13 a14 a15 a16 o b) (fun r => r = true ↔ FourP a0 a1 a2 a3 a4 a5 a6 a7 a8 a9 a10 a11 a12 a13 a14 a15 a16 o b) := by
  have no : ∀ {p : Prop}, ¬ p → (FourP a0 a1 a2 a3 a4 a5 a6 a7 a8 a9 a10 a11 a12 a13 a14 a15 a16 o b → p) → (false = true ↔ FourP a0 a1 a2 a3 a4 a5 a6 a7 a8 a9 a10 a11 a12 a13 a14 a15 a16 o b) := fun h1 h2 => ⟨(fun g => by cases g), fun g => absurd (h2 g) h1⟩
  have j1 : ∀ z : Bool, (z = false ↔ ((0 ≤ a0 ∧ a0 ≤ 63) ∧ (0 ≤ a1 ∧ a1 ≤ 3) ∧ (0 ≤ a2 ∧ a2 ≤ 65535) ∧ (0 ≤ a3 ∧ a3 ≤ 7) ∧ (0 ≤ a4 ∧ a4 ≤ 8191)) ∧ (0 ≤ a5 ∧ a5 ≤ 255) ∧ (0 ≤ a6 ∧ a6 ≤ 255) ∧ A4 a7 a8 a9 a10 a11 ∧ A4 a12 a13 a14 a15 a16) → EvP (fun k => spec_FourOk.j1 k z a0 a1 a2 a3 a4 a5 a6 a7 a8 a9 a10 a11 a12 a13 a14 a15 a16 o b) (fun r => r = true ↔ FourP a0 a1 a2 a3 a4 a5 a6 a7 a8 a9 a10 a11 a12 a13 a14 a15 a16 o b) := fun z hz => by
    refine EvP.step ?_
    simp only [spec_FourOk.j1]
    refine EvP.ite (fun h => EvP.ret (no (p := z = false) (by rw [h]; simp) (fun g => hz.2 ⟨⟨g.x0, g.x1, g.x2, g.x3, g.x4⟩, g.x5, g.x6, g.s, g.d⟩))) (fun h => ?_)
    obtain ⟨⟨h0, h1, h2, h3, h4⟩, h5, h6, h7, h8⟩ := hz.1 (by simpa using h)
    refine EvP.ite (fun h40 => EvP.ret (no (p := (o.length : Int) ≤ 40) (by omega) (fun g => g.ol))) (fun h40 => EvP.ite (fun hm => EvP.ret ?_) (fun hm => EvP.ret (no hm (fun g => g.om))))
    rw [decide_eq_true_iff, w64 (by omega) (by omega)]
    exact ⟨fun g => ⟨h0, h1, h2, h3, h4, h5, h6, h7, h8, by omega, by omega, by omega⟩, fun g => by have := g.bl; omega⟩
  have j0 : ∀ z : Bool, (z = false ↔ (0 ≤ a0 ∧ a0 ≤ 63) ∧ (0 ≤ a1 ∧ a1 ≤ 3) ∧ (0 ≤ a2 ∧ a2 ≤ 65535) ∧ (0 ≤ a3 ∧ a3 ≤ 7) ∧ (0 ≤ a4 ∧ a4 ≤ 8191)) → EvP (fun k => spec_FourOk.j0 k z a0 a1 a2 a3 a4 a5 a6 a7 a8 a9 a10 a11 a12 a13 a14 a15 a16 o b) (fun r => r = true ↔ FourP a0 a1 a2 a3 a4 a5 a6 a7 a8 a9 a10 a11 a12 a13 a14 a15 a16 o b) := fun z hz => by
    refine EvP.step ?_
    simp only [spec_FourOk.j0]
    refine EvP.ite (fun h => EvP.ret (no (p := z = false) (by rw [h]; simp) (fun g => hz.2 ⟨g.x0, g.x1, g.x2, g.x3, g.x4⟩))) (fun h => ?_)
    have hc := hz.1 (by simpa using h)
    refine EvP.bind (in5_ok _ _) (fun t5 h5 => EvP.ite (fun g5 => ?_) (fun g => j1 true ⟨(fun z => by cases z), fun p => absurd (h5.2 p.2.1) g⟩))
    refine EvP.bind (in5_ok _ _) (fun t6 h6 => EvP.ite (fun g6 => ?_) (fun g => j1 true ⟨(fun z => by cases z), fun p => absurd (h6.2 p.2.2.1) g⟩))
    refine EvP.ite (fun g7 => ?_) (fun g => j1 true ⟨(fun z => by cases z), fun p => absurd p.2.2.2.1.1 g⟩)
    refine EvP.ite (fun g8 => ?_) (fun g => j1 true ⟨(fun z => by cases z), fun p => absurd p.2.2.2.2.1 g⟩)
    refine EvP.bind (specAddr_ok _ _ _ _ _) (fun t7 h7 => EvP.ite (fun g9 => ?_) (fun g => j1 true ⟨(fun z => by cases z), fun p => absurd (h7.2 p.2.2.2.1) g⟩))
    exact EvP.bind (specAddr_ok _ _ _ _ _) (fun t8 h8 => j1 _ ⟨fun g => ⟨hc, h5.1 g5, h6.1 g6, h7.1 g9 g7, h8.1 (by simpa using g) g8⟩, fun p => by simpa using h8.2 p.2.2.2.2⟩)
  unfold spec_FourOk.f
  refine EvP.bind (in5_ok _ _) (fun t0 h0 => EvP.ite (fun g0 => ?_) (fun g => j0 true ⟨(fun z => by cases z), fun p => absurd (h0.2 p.1) g⟩))
  refine EvP.bind (in5_ok _ _) (fun t1 h1 => EvP.ite (fun g1 => ?_) (fun g => j0 true ⟨(fun z => by cases z), fun p => absurd (h1.2 p.2.1) g⟩))
  refine EvP.bind (in5_ok _ _) (fun t2 h2 => EvP.ite (fun g2 => ?_) (fun g => j0 true ⟨(fun z => by cases z), fun p => absurd (h2.2 p.2.2.1) g⟩))
  refine EvP.bind (in5_ok _ _) (fun t3 h3 => EvP.ite (fun g3 => ?_) (fun g => j0 true ⟨(fun z => by cases z), fun p => absurd (h3.2 p.2.2.2.1) g⟩))
  exact EvP.bind (in5_ok _ _) (fun t4 h4 => j0 _ ⟨fun g => ⟨h0.1 g0, h1.1 g1, h2.1 g2, h3.1 g3, h4.1 (by simpa using g)⟩, fun p => by simpa using h4.2 p.2.2.2.2⟩)
theorem implFour_ok (a0 a1 a2 a3 a4 a5 a6 a7 a8 a9 a10 a11 a12 a13 a14 a15 a16 : Int) (o b : List Int) (hbl : (b.length : Int) ≤ 1000000) :
    EvP (fun k => impl_FourOk.f k a0 a1 a2 a3 a4 a5 a6 a7 a8 a9 a10 a11 a12 a13 a14 a15 a16 o b) (fun r => r = true ↔ FourP a0 a1 a2 a3 a4 a5 a6 a7 a8 a9 a10 a11 a12 a13 a14 a15 a16 o b) := by
  have no : ∀ {p : Prop}, ¬ p → (FourP a0 a1 a2 a3 a4 a5 a6 a7 a8 a9 a10 a11 a12 a13 a14 a15 a16 o b → p) → (false = true ↔ FourP a0 a1 a2 a3 a4 a5 a6 a7 a8 a9 a10 a11 a12 a13 a14 a15 a16 o b) := fun h1 h2 => ⟨(fun g => by cases g), fun g => absurd (h2 g) h1⟩
  have j0 : ∀ z : Bool, (z = false ↔ (0 ≤ a0 ∧ a0 ≤ 63) ∧ (0 ≤ a1 ∧ a1 ≤ 3) ∧ (0 ≤ a2 ∧ a2 ≤ 65535) ∧ (0 ≤ a3 ∧ a3 ≤ 7) ∧ (0 ≤ a4 ∧ a4 ≤ 8191) ∧ (0 ≤ a5 ∧ a5 ≤ 255) ∧ (0 ≤ a6 ∧ a6 ≤ 255)) → EvP (fun k => impl_FourOk.j0 k z a0 a1 a2 a3 a4 a5 a6 a7 a8 a9 a10 a11 a12 a13 a14 a15 a16 o b) (fun r => r = true ↔ FourP a0 a1 a2 a3 a4 a5 a6 a7 a8 a9 a10 a11 a12 a13 a14 a15 a16 o b) := fun z hz => by
    refine EvP.step ?_
    simp only [impl_FourOk.j0]
    refine EvP.ite (fun h => EvP.ret (no (p := z = false) (by rw [h]; simp) (fun g => hz.2 ⟨g.x0, g.x1, g.x2, g.x3, g.x4, g.x5, g.x6⟩))) (fun h => ?_)
    obtain ⟨h0, h1, h2, h3, h4, h5, h6⟩ := hz.1 (by simpa using h)
    refine EvP.bind (isAddrOf_ok _ _ _ _ _) (fun t7 h7 => EvP.ite (fun g7 => ?_) (fun g => EvP.ret (no g (fun p => h7.2 p.s))))
    refine EvP.bind (isAddrOf_ok _ _ _ _ _) (fun t8 h8 => EvP.ite (fun g8 => ?_) (fun g => EvP.ret (no g (fun p => h8.2 p.d))))
    refine EvP.ite (fun g9 => EvP.ite (fun g10 => ?_) (fun g => EvP.ret (no g (fun p => p.om)))) (fun g => EvP.ret (no g (fun p => p.ol)))
    refine EvP.bind (P := fun r => r = 20 + (o.length : Int) + (b.length : Int)) ?_ ?_
    · unfold impl_fourSize.f impl_fourHead.f
      refine EvP.bind (EvP.ret (P := fun r => r = wrap64 (20 + (o.length : Int))) rfl) ?_
      rintro _ rfl
      exact EvP.ret (by rw [w64 (x := 20 + (o.length : Int)) (by omega) (by omega), w64 (by omega) (by omega)])
    · rintro _ rfl
      refine EvP.ret ?_
      rw [decide_eq_true_iff]
      exact ⟨fun g => ⟨h0, h1, h2, h3, h4, h5, h6, h7.1 g7, h8.1 g8, g9, g10, g⟩, fun p => p.bl⟩
  unfold impl_FourOk.f
  refine EvP.bind (within4 _ _ _) (fun t0 h0 => EvP.ite (fun g0 => ?_) (fun g => j0 true ⟨(fun z => by cases z), fun p => absurd (h0.2 p.1) g⟩))
  refine EvP.bind (within4 _ _ _) (fun t1 h1 => EvP.ite (fun g1 => ?_) (fun g => j0 true ⟨(fun z => by cases z), fun p => absurd (h1.2 p.2.1) g⟩))
  refine EvP.bind (isWord4_ok _) (fun t2 h2 => EvP.ite (fun g2 => ?_) (fun g => j0 true ⟨(fun z => by cases z), fun p => absurd (h2.2 p.2.2.1) g⟩))
  refine EvP.bind (within4 _ _ _) (fun t3 h3 => EvP.ite (fun g3 => ?_) (fun g => j0 true ⟨(fun z => by cases z), fun p => absurd (h3.2 p.2.2.2.1) g⟩))
  refine EvP.bind (within4 _ _ _) (fun t4 h4 => EvP.ite (fun g4 => ?_) (fun g => j0 true ⟨(fun z => by cases z), fun p => absurd (h4.2 p.2.2.2.2.1) g⟩))
  refine EvP.bind (isByte4_ok _) (fun t5 h5 => EvP.ite (fun g5 => ?_) (fun g => j0 true ⟨(fun z => by cases z), fun p => absurd (h5.2 p.2.2.2.2.2.1) g⟩))
  refine EvP.bind (isByte4_ok _) (fun t6 h6 => j0 _ ⟨fun g => ⟨h0.1 g0, h1.1 g1, h2.1 g2, h3.1 g3, h4.1 g4, h5.1 g5, h6.1 (by simpa using g)⟩, fun p => by simpa using h6.2 p.2.2.2.2.2.2⟩)
theorem put32_4 (n : Int) : EvP (fun k => impl_Put32.f k n) (fun r => r = [n / 16777216 % 256, n / 65536 % 256, n / 256 % 256, n % 256]) := by
  unfold impl_Put32.f
  refine EvP.bind (put_ok n 4 (by omega)) ?_
  rintro r ⟨h1, h2⟩
  refine EvP.ret ?_
  match r, h1, h2 with
  | [x, y, z, u], _, h2 =>
    have e0 := h2 0 (by omega)
    have e1 := h2 1 (by omega)
    have e2 := h2 2 (by omega)
    have e3 := h2 3 (by omega)
    simp at e0 e1 e2 e3
    rw [e0, e1, e2, e3]
theorem addrBytes4_ok {k a b c d : Int} (h : A4 k a b c d) : EvP (fun n => impl_AddrBytes.f n k a b c d) (fun r => r = [d / 16777216 % 256, d / 65536 % 256, d / 256 % 256, d % 256]) := by
  unfold impl_AddrBytes.f
  refine EvP.bind (implAddr_ok k a b c d) (fun t ht => EvP.yes (ht.2 h) (EvP.yes h.1 ?_))
  refine EvP.bind (put32_4 d) ?_
  rintro _ rfl
  exact EvP.ret rfl
/-- The head: n is the whole length, c the check. -/
def headL (a0 a1 a2 a3 a4 a5 a6 d1 d2 n : Int) (o : List Int) (c : Int) : List Int :=
  (64 + (20 + (o.length : Int)) / 4) % 256 :: (4 * a0 + a1) % 256 :: n / 256 % 256 :: n % 256 :: a2 / 256 % 256 :: a2 % 256 :: (8192 * a3 + a4) / 256 % 256 :: (8192 * a3 + a4) % 256 :: a5 % 256 :: a6 % 256 :: c / 256 % 256 :: c % 256 ::
    d1 / 16777216 % 256 :: d1 / 65536 % 256 :: d1 / 256 % 256 :: d1 % 256 :: d2 / 16777216 % 256 :: d2 / 65536 % 256 :: d2 / 256 % 256 :: d2 % 256 :: o
theorem headL_len {a0 a1 a2 a3 a4 a5 a6 d1 d2 n c : Int} {o : List Int} : (headL a0 a1 a2 a3 a4 a5 a6 d1 d2 n o c).length = o.length + 20 := rfl
theorem headL_bs {a0 a1 a2 a3 a4 a5 a6 d1 d2 n c : Int} {o : List Int} (h : Bs o) : Bs (headL a0 a1 a2 a3 a4 a5 a6 d1 d2 n o c) := by
  intro x hx
  unfold headL at hx
  simp only [List.mem_cons] at hx
  rcases hx with rfl | rfl | rfl | rfl | rfl | rfl | rfl | rfl | rfl | rfl | rfl | rfl | rfl | rfl | rfl | rfl | rfl | rfl | rfl | rfl | hx
  all_goals first | exact h x hx | omega
theorem headL_check {a0 a1 a2 a3 a4 a5 a6 d1 d2 n c : Int} {o : List Int} (h0 : 0 ≤ c) (h1 : c ≤ 65535) : wtot (headL a0 a1 a2 a3 a4 a5 a6 d1 d2 n o c) = wtot (headL a0 a1 a2 a3 a4 a5 a6 d1 d2 n o 0) + c := by
  unfold headL
  simp only [wtot]
  omega
theorem head4_ok {a0 a1 a2 a3 a4 a5 a6 a7 a8 a9 a10 a11 a12 a13 a14 a15 a16 : Int} {o b : List Int} (h : FourP a0 a1 a2 a3 a4 a5 a6 a7 a8 a9 a10 a11 a12 a13 a14 a15 a16 o b) (c : Int) :
    EvP (fun k => impl_Four_head.f k a0 a1 a2 a3 a4 a5 a6 a7 a8 a9 a10 a11 a12 a13 a14 a15 a16 o b c) (fun r => r = headL a0 a1 a2 a3 a4 a5 a6 a11 a16 (20 + (o.length : Int) + (b.length : Int)) o c) := by
  have hx0 := h.x0
  have hx1 := h.x1
  have hx3 := h.x3
  have hx4 := h.x4
  have hol := h.ol
  have hbl := h.bl
  unfold impl_Four_head.f impl_fourHead.f
  refine EvP.bind (EvP.ret (P := fun r => r = wrap64 (20 + (o.length : Int))) rfl) ?_
  rintro _ rfl
  rw [w64 (x := 20 + (o.length : Int)) (by omega) (by omega)]
  refine EvP.bind (put16_ok _) ?_
  rintro _ rfl
  refine EvP.bind (P := fun r => r = 20 + (o.length : Int) + (b.length : Int)) ?_ ?_
  · unfold impl_fourSize.f impl_fourHead.f
    refine EvP.bind (EvP.ret (P := fun r => r = wrap64 (20 + (o.length : Int))) rfl) ?_
    rintro _ rfl
    exact EvP.ret (by rw [w64 (x := 20 + (o.length : Int)) (by omega) (by omega), w64 (by omega) (by omega)])
  rintro _ rfl
  refine EvP.bind (put16_ok _) ?_
  rintro _ rfl
  refine EvP.bind (put16_ok _) ?_
  rintro _ rfl
  refine EvP.bind (put16_ok _) ?_
  rintro _ rfl
  refine EvP.bind (addrBytes4_ok h.s) ?_
  rintro _ rfl
  refine EvP.bind (addrBytes4_ok h.d) ?_
  rintro _ rfl
  refine EvP.bind (concat_ok (by simp) (by simp only [List.flatten_cons, List.flatten_nil, List.length_append, List.length_cons, List.length_nil]; omega)) ?_
  rintro _ rfl
  refine EvP.ret ?_
  rw [tdiv_pos (by omega), w64 (x := (20 + (o.length : Int)) / 4) (by omega) (by omega), w64 (x := 64 + (20 + (o.length : Int)) / 4) (by omega) (by omega), w64 (x := 4 * a0) (by omega) (by omega), w64 (x := 4 * a0 + a1) (by omega) (by omega), w64 (x := 8192 * a3) (by omega) (by omega), w64 (x := 8192 * a3 + a4) (by omega) (by omega)]
  simp only [List.flatten_cons, List.flatten_nil, List.append_nil, List.cons_append, List.nil_append, headL]
/-- The check of a head. -/
def sum4 (a0 a1 a2 a3 a4 a5 a6 d1 d2 n : Int) (o : List Int) : Int := 65535 - wsum (headL a0 a1 a2 a3 a4 a5 a6 d1 d2 n o 0) 0
theorem sum4_range {a0 a1 a2 a3 a4 a5 a6 d1 d2 n : Int} {o : List Int} (ho : Bs o) : 0 ≤ sum4 a0 a1 a2 a3 a4 a5 a6 d1 d2 n o ∧ sum4 a0 a1 a2 a3 a4 a5 a6 d1 d2 n o ≤ 65535 := by
  have := wsum_range (headL a0 a1 a2 a3 a4 a5 a6 d1 d2 n o 0) 0 (headL_bs ho) (by omega)
  unfold sum4; omega
theorem headSum_ok {a0 a1 a2 a3 a4 a5 a6 a7 a8 a9 a10 a11 a12 a13 a14 a15 a16 : Int} {o b : List Int} (ho : Bs o) (hbl : (b.length : Int) ≤ 1000000) :
    EvP (fun k => impl_HeadSum.f k a0 a1 a2 a3 a4 a5 a6 a7 a8 a9 a10 a11 a12 a13 a14 a15 a16 o b) (fun r => (FourP a0 a1 a2 a3 a4 a5 a6 a7 a8 a9 a10 a11 a12 a13 a14 a15 a16 o b ∧ r = sum4 a0 a1 a2 a3 a4 a5 a6 a11 a16 (20 + (o.length : Int) + (b.length : Int)) o) ∨ (¬ FourP a0 a1 a2 a3 a4 a5 a6 a7 a8 a9 a10 a11 a12 a13 a14 a15 a16 o b ∧ r = -1)) := by
  unfold impl_HeadSum.f
  refine EvP.bind (implFour_ok _ _ _ _ _ _ _ _ _ _ _ _ _ _ _ _ _ o b hbl) (fun t ht => EvP.ite (fun g => ?_) (fun g => EvP.ret (.inr ⟨fun p => g (ht.2 p), rfl⟩)))
  have hP := ht.1 g
  refine EvP.bind (head4_ok hP 0) ?_
  rintro _ rfl
  have hol := hP.ol
  refine EvP.bind (checksum_ok (headL_bs ho) (by rw [headL_len]; omega)) ?_
  rintro _ rfl
  exact EvP.ret (.inl ⟨hP, rfl⟩)
theorem fourBytes_ok {a0 a1 a2 a3 a4 a5 a6 a7 a8 a9 a10 a11 a12 a13 a14 a15 a16 : Int} {o b : List Int} (ho : Bs o) (hP : FourP a0 a1 a2 a3 a4 a5 a6 a7 a8 a9 a10 a11 a12 a13 a14 a15 a16 o b) :
    EvP (fun k => impl_FourBytes.f k a0 a1 a2 a3 a4 a5 a6 a7 a8 a9 a10 a11 a12 a13 a14 a15 a16 o b) (fun r => r = headL a0 a1 a2 a3 a4 a5 a6 a11 a16 (20 + (o.length : Int) + (b.length : Int)) o (sum4 a0 a1 a2 a3 a4 a5 a6 a11 a16 (20 + (o.length : Int) + (b.length : Int)) o) ++ b) := by
  have hbl := hP.bl
  have hol := hP.ol
  unfold impl_FourBytes.f
  refine EvP.bind (implFour_ok _ _ _ _ _ _ _ _ _ _ _ _ _ _ _ _ _ o b (by omega)) (fun t ht => EvP.yes (ht.2 hP) ?_)
  refine EvP.bind (headSum_ok ho (by omega)) ?_
  rintro s (⟨_, rfl⟩ | ⟨h, _⟩)
  · refine EvP.bind (head4_ok hP _) ?_
    rintro _ rfl
    refine EvP.bind (concat_ok (by simp) (by simp only [List.flatten_cons, List.flatten_nil, List.length_append, List.length_nil, headL_len]; omega)) ?_
    rintro _ rfl
    exact EvP.ret (by simp only [List.flatten_cons, List.flatten_nil, List.append_nil])
  · exact absurd hP h
theorem two_at {l : List Int} (hb : Bs l) {i j : Nat} (hj : j = i + 2) (hl : j ≤ l.length) : EvP (fun k => impl_beOf.f k ((l.take j).drop i)) (fun r => r = rd l (i : Int) * 256 + rd l ((i : Int) + 1)) := by
  subst hj
  have e : (l.take (i + 2)).drop i = [rd l (i : Int), rd l ((i : Int) + 1)] := by
    rw [List.drop_take, show i + 2 - i = 2 by omega, show l.drop i = l.drop (i : Int).toNat by simp, drop_rd (i := (i : Int)) (by omega) (by omega), show ((i : Int).toNat + 1) = ((i : Int) + 1).toNat by omega, drop_rd (i := (i : Int) + 1) (by omega) (by omega)]
    rfl
  rw [e]
  refine (be_ok (fun x hx => ?_) (by simp)).mono ?_
  · simp only [List.mem_cons, List.not_mem_nil, or_false] at hx
    have h1 := hb.rdb (i : Int)
    have h2 := hb.rdb ((i : Int) + 1)
    rcases hx with rfl | rfl <;> assumption
  · rintro _ rfl
    simp only [List.foldl_cons, List.foldl_nil]
    omega
def be4 (l : List Int) (i : Int) : Int := ((rd l i * 256 + rd l (i + 1)) * 256 + rd l (i + 2)) * 256 + rd l (i + 3)
theorem four_at {l : List Int} (hb : Bs l) {i j : Nat} (hj : j = i + 4) (hl : j ≤ l.length) : EvP (fun k => impl_AddrOf.f k ((l.take j).drop i)) (fun r => r = (4, 0, 0, 0, be4 l (i : Int), true)) := by
  subst hj
  have e : (l.take (i + 4)).drop i = [rd l (i : Int), rd l ((i : Int) + 1), rd l ((i : Int) + 2), rd l ((i : Int) + 3)] := by
    rw [List.drop_take, show i + 4 - i = 4 by omega, show l.drop i = l.drop (i : Int).toNat by simp, drop_rd (i := (i : Int)) (by omega) (by omega), show ((i : Int).toNat + 1) = ((i : Int) + 1).toNat by omega, drop_rd (i := (i : Int) + 1) (by omega) (by omega), show (((i : Int) + 1).toNat + 1) = ((i : Int) + 2).toNat by omega, drop_rd (i := (i : Int) + 2) (by omega) (by omega), show (((i : Int) + 2).toNat + 1) = ((i : Int) + 3).toNat by omega, drop_rd (i := (i : Int) + 3) (by omega) (by omega)]
    rfl
  rw [e]
  unfold impl_AddrOf.f
  refine EvP.yes (by simp) (EvP.bind (be_ok (fun x hx => ?_) (by simp)) ?_)
  · simp only [List.mem_cons, List.not_mem_nil, or_false] at hx
    have h1 := hb.rdb (i : Int)
    have h2 := hb.rdb ((i : Int) + 1)
    have h3 := hb.rdb ((i : Int) + 2)
    have h4 := hb.rdb ((i : Int) + 3)
    rcases hx with rfl | rfl | rfl | rfl <;> assumption
  · rintro _ rfl
    refine EvP.ret ?_
    simp only [List.foldl_cons, List.foldl_nil, be4, Int.zero_mul, Int.zero_add]
theorem cloneB_ok {l : List Int} (hl : (l.length : Int) ≤ 1000000) : EvP (fun _ => slices_Clone_byte_byte.f l) (fun r => r = l) := by
  unfold slices_Clone_byte_byte.f
  refine EvP.bind (EvP.ret (P := fun z => z = ([] : List Int)) rfl) ?_
  rintro _ rfl
  exact EvP.yes (by simp only [List.length_nil]; omega) (EvP.ret (List.nil_append _))
/-- What is decoded of a packet's bytes E, its head's length hd. -/
def fourT (E : List Int) (hd : Int) : Int × Int × Int × Int × Int × Int × Int × Int × Int × Int × Int × Int × Int × Int × Int × Int × Int × List Int × List Int :=
  (rd E 1 / 4, rd E 1 % 4, rd E 4 * 256 + rd E 5, (rd E 6 * 256 + rd E 7) / 8192, (rd E 6 * 256 + rd E 7) % 8192, rd E 8, rd E 9, 4, 0, 0, 0, be4 E 12, 4, 0, 0, 0, be4 E 16, (E.take hd.toNat).drop 20, E.drop hd.toNat)
theorem fourOf_ok {E : List Int} {hd : Int} (hb : Bs E) (h0 : 20 ≤ hd) (h1 : hd ≤ (E.length : Int)) (h2 : (E.length : Int) ≤ 1500) : EvP (fun k => impl_fourOf.f k E hd) (fun r => r = fourT E hd) := by
  have r1 := hb.rdb 1
  have r6 := hb.rdb 6
  have r7 := hb.rdb 7
  have r8 := hb.rdb 8
  have r9 := hb.rdb 9
  unfold impl_fourOf.f
  refine EvP.yes (by decide) (EvP.yes (by omega) (EvP.bind (two_at hb (i := 6) (j := 8) rfl (by omega)) ?_))
  rintro _ rfl
  refine EvP.yes (by omega) (EvP.yes (by decide) (EvP.yes (by omega) (EvP.bind (two_at hb (i := 4) (j := 6) rfl (by omega)) ?_)))
  rintro _ rfl
  refine EvP.yes (by omega) (EvP.yes (by omega) (EvP.yes h0 (EvP.yes h1 (EvP.bind (cloneB_ok (by rw [List.length_drop, List.length_take]; omega)) ?_))))
  rintro _ rfl
  refine EvP.yes (by omega) (EvP.bind (cloneB_ok (by rw [List.length_drop]; omega)) ?_)
  rintro _ rfl
  refine EvP.yes (by decide) (EvP.yes (by omega) (EvP.bind (four_at hb (i := 12) (j := 16) rfl (by omega)) ?_))
  rintro _ rfl
  refine EvP.yes (by decide) (EvP.yes (by omega) (EvP.bind (four_at hb (i := 16) (j := 20) rfl (by omega)) ?_))
  rintro _ rfl
  refine EvP.ret ?_
  have e6 : rd E ((6 : Nat) : Int) = rd E 6 := rfl
  have e7 : rd E ((6 : Nat) : Int) * 256 + rd E (((6 : Nat) : Int) + 1) = rd E 6 * 256 + rd E 7 := rfl
  have e5 : rd E ((4 : Nat) : Int) * 256 + rd E (((4 : Nat) : Int) + 1) = rd E 4 * 256 + rd E 5 := rfl
  rw [e7, e5]
  simp only [fourT, w64 (x := rd E 1) (by omega) (by omega), w64 (x := rd E 8) (by omega) (by omega), w64 (x := rd E 9) (by omega) (by omega), tdiv_pos (show 0 ≤ rd E 1 by omega), tmod_pos (show 0 ≤ rd E 1 by omega), tdiv_pos (show 0 ≤ rd E 6 * 256 + rd E 7 by omega), tmod_pos (show 0 ≤ rd E 6 * 256 + rd E 7 by omega), w64 (x := rd E 1 / 4) (by omega) (by omega), w64 (x := (rd E 6 * 256 + rd E 7) / 8192) (by omega) (by omega)]
  rfl
theorem drop_eq {l : List Int} {n : Nat} {i : Int} (e : i = (n : Int)) (h : n < l.length) : l.drop n = rd l i :: l.drop (n + 1) := by
  subst e
  have := drop_rd (l := l) (i := (n : Int)) (by omega) (by omega)
  simpa using this
/-- The head that was read, told again: the same bytes but for the check. -/
theorem headL_again {E : List Int} {hd : Int} (hb : Bs E) (h0 : 20 ≤ hd) (h1 : hd ≤ (E.length : Int)) (h2 : (E.length : Int) ≤ 1500) (hv : rd E 0 / 16 = 4) (hh : hd = 4 * (rd E 0 % 16)) (ht : (E.length : Int) = rd E 2 * 256 + rd E 3) (c : Int) (hc : c / 256 % 256 = rd E 10) (hc2 : c % 256 = rd E 11) :
    headL (rd E 1 / 4) (rd E 1 % 4) (rd E 4 * 256 + rd E 5) ((rd E 6 * 256 + rd E 7) / 8192) ((rd E 6 * 256 + rd E 7) % 8192) (rd E 8) (rd E 9) (be4 E 12) (be4 E 16) (20 + (((E.take hd.toNat).drop 20).length : Int) + ((E.drop hd.toNat).length : Int)) ((E.take hd.toNat).drop 20) c = E.take hd.toNat := by
  have r0 := hb.rdb 0
  have r1 := hb.rdb 1
  have r2 := hb.rdb 2
  have r3 := hb.rdb 3
  have r4 := hb.rdb 4
  have r5 := hb.rdb 5
  have r6 := hb.rdb 6
  have r7 := hb.rdb 7
  have r8 := hb.rdb 8
  have r9 := hb.rdb 9
  have r12 := hb.rdb 12
  have r13 := hb.rdb 13
  have r14 := hb.rdb 14
  have r15 := hb.rdb 15
  have r16 := hb.rdb 16
  have r17 := hb.rdb 17
  have r18 := hb.rdb 18
  have r19 := hb.rdb 19
  have el : 20 + (((E.take hd.toNat).drop 20).length : Int) + ((E.drop hd.toNat).length : Int) = (E.length : Int) := by
    rw [List.length_drop, List.length_take, List.length_drop]; omega
  have eo : (((E.take hd.toNat).drop 20).length : Int) = hd - 20 := by
    rw [List.length_drop, List.length_take]; omega
  have hT : (E.take hd.toNat).length = hd.toNat := by rw [List.length_take]; omega
  have key : ∀ (n : Nat) (i : Int), i = (n : Int) → n < 20 → (E.take hd.toNat).drop n = rd E i :: (E.take hd.toNat).drop (n + 1) := fun n i e hn => by
    rw [drop_eq e (by omega), rd_take (by omega) (by omega)]
  have full : E.take hd.toNat = rd E 0 :: rd E 1 :: rd E 2 :: rd E 3 :: rd E 4 :: rd E 5 :: rd E 6 :: rd E 7 :: rd E 8 :: rd E 9 :: rd E 10 :: rd E 11 :: rd E 12 :: rd E 13 :: rd E 14 :: rd E 15 :: rd E 16 :: rd E 17 :: rd E 18 :: rd E 19 :: (E.take hd.toNat).drop 20 := by
    have := key 0 0 rfl (by decide)
    rw [List.drop_zero] at this
    rw [← key 19 19 rfl (by decide), ← key 18 18 rfl (by decide), ← key 17 17 rfl (by decide), ← key 16 16 rfl (by decide), ← key 15 15 rfl (by decide), ← key 14 14 rfl (by decide), ← key 13 13 rfl (by decide), ← key 12 12 rfl (by decide), ← key 11 11 rfl (by decide), ← key 10 10 rfl (by decide), ← key 9 9 rfl (by decide), ← key 8 8 rfl (by decide), ← key 7 7 rfl (by decide), ← key 6 6 rfl (by decide), ← key 5 5 rfl (by decide), ← key 4 4 rfl (by decide), ← key 3 3 rfl (by decide), ← key 2 2 rfl (by decide), ← key 1 1 rfl (by decide), ← key 0 0 rfl (by decide), List.drop_zero]
  rw [el, show headL (rd E 1 / 4) (rd E 1 % 4) (rd E 4 * 256 + rd E 5) ((rd E 6 * 256 + rd E 7) / 8192) ((rd E 6 * 256 + rd E 7) % 8192) (rd E 8) (rd E 9) (be4 E 12) (be4 E 16) (E.length : Int) ((E.take hd.toNat).drop 20) c = rd E 0 :: rd E 1 :: rd E 2 :: rd E 3 :: rd E 4 :: rd E 5 :: rd E 6 :: rd E 7 :: rd E 8 :: rd E 9 :: rd E 10 :: rd E 11 :: rd E 12 :: rd E 13 :: rd E 14 :: rd E 15 :: rd E 16 :: rd E 17 :: rd E 18 :: rd E 19 :: (E.take hd.toNat).drop 20 from ?_]
  · exact full.symm
  · have n12 : (12 : Int) + 1 = 13 := rfl
    have n13 : (12 : Int) + 2 = 14 := rfl
    have n14 : (12 : Int) + 3 = 15 := rfl
    have n16 : (16 : Int) + 1 = 17 := rfl
    have n17 : (16 : Int) + 2 = 18 := rfl
    have n18 : (16 : Int) + 3 = 19 := rfl
    unfold headL be4
    rw [eo, hc, hc2, n12, n13, n14, n16, n17, n18]
    simp only [List.cons.injEq]
    refine ⟨?_, ?_, ?_, ?_, ?_, ?_, ?_, ?_, ?_, ?_, trivial, trivial, ?_, ?_, ?_, ?_, ?_, ?_, ?_, ?_, trivial⟩ <;> omega
def bad4 (c : Int) : Int × Int × Int × Int × Int × Int × Int × Int × Int × Int × Int × Int × Int × Int × Int × Int × Int × List Int × List Int × List Int × Int := (0, 0, 0, 0, 0, 0, 0, 0, 0, 0, 0, 0, 0, 0, 0, 0, 0, [], [], [], c)
def good4 (t : Int × Int × Int × Int × Int × Int × Int × Int × Int × Int × Int × Int × Int × Int × Int × Int × Int × List Int × List Int) (l : List Int) : Int × Int × Int × Int × Int × Int × Int × Int × Int × Int × Int × Int × Int × Int × Int × Int × Int × List Int × List Int × List Int × Int :=
  (t.1, t.2.1, t.2.2.1, t.2.2.2.1, t.2.2.2.2.1, t.2.2.2.2.2.1, t.2.2.2.2.2.2.1, t.2.2.2.2.2.2.2.1, t.2.2.2.2.2.2.2.2.1, t.2.2.2.2.2.2.2.2.2.1, t.2.2.2.2.2.2.2.2.2.2.1, t.2.2.2.2.2.2.2.2.2.2.2.1, t.2.2.2.2.2.2.2.2.2.2.2.2.1, t.2.2.2.2.2.2.2.2.2.2.2.2.2.1, t.2.2.2.2.2.2.2.2.2.2.2.2.2.2.1, t.2.2.2.2.2.2.2.2.2.2.2.2.2.2.2.1, t.2.2.2.2.2.2.2.2.2.2.2.2.2.2.2.2.1, t.2.2.2.2.2.2.2.2.2.2.2.2.2.2.2.2.2.1, t.2.2.2.2.2.2.2.2.2.2.2.2.2.2.2.2.2.2, l, 0)
/-- The sum of the head that was read is the one that stands there. -/
def Sum4 (E : List Int) (hd : Int) : Prop := rd E 10 * 256 + rd E 11 = sum4 (rd E 1 / 4) (rd E 1 % 4) (rd E 4 * 256 + rd E 5) ((rd E 6 * 256 + rd E 7) / 8192) ((rd E 6 * 256 + rd E 7) % 8192) (rd E 8) (rd E 9) (be4 E 12) (be4 E 16) (20 + (((E.take hd.toNat).drop 20).length : Int) + ((E.drop hd.toNat).length : Int)) ((E.take hd.toNat).drop 20)
def Four4 (E : List Int) (hd : Int) : Prop := FourP (rd E 1 / 4) (rd E 1 % 4) (rd E 4 * 256 + rd E 5) ((rd E 6 * 256 + rd E 7) / 8192) ((rd E 6 * 256 + rd E 7) % 8192) (rd E 8) (rd E 9) 4 0 0 0 (be4 E 12) 4 0 0 0 (be4 E 16) ((E.take hd.toNat).drop 20) (E.drop hd.toNat)
theorem fourRead_ok {D : List Int} (hb : Bs D) (hl : (D.length : Int) ≤ 1600) (h20 : 20 ≤ (D.length : Int)) {hd T : Int} (hv : rd D 0 / 16 = 4) (hh : hd = 4 * (rd D 0 % 16)) (h0 : 20 ≤ hd) (h1 : hd ≤ (D.length : Int)) (hT : T = rd D 2 * 256 + rd D 3) :
    EvP (fun k => impl_FourRead.f k D) (fun r => r = bad4 5 ∧ (T < hd ∨ 1500 < T ∨ (D.length : Int) < T) ∨ (hd ≤ T ∧ T ≤ 1500 ∧ T ≤ (D.length : Int)) ∧ (r = bad4 6 ∧ ¬ (Four4 (D.take T.toNat) hd ∧ Sum4 (D.take T.toNat) hd) ∨ (Four4 (D.take T.toNat) hd ∧ Sum4 (D.take T.toNat) hd) ∧ r = good4 (fourT (D.take T.toNat) hd) (D.drop T.toNat))) := by
  have r0 := hb.rdb 0
  have r2 := hb.rdb 2
  have r3 := hb.rdb 3
  unfold impl_FourRead.f
  refine EvP.no (by omega) (EvP.no (by omega) (EvP.yes (by omega) (EvP.yes hv (EvP.yes (by decide) (EvP.yes (by omega) (EvP.bind (two_at hb (i := 2) (j := 4) rfl (by omega)) ?_))))))
  rintro _ rfl
  have e2 : rd D ((2 : Nat) : Int) * 256 + rd D (((2 : Nat) : Int) + 1) = T := hT.symm
  rw [e2, tmod_pos r0.1, w64 (x := rd D 0 % 16) (by omega) (by omega), w64 (x := 4 * (rd D 0 % 16)) (by omega) (by omega), ← hh]
  refine EvP.no (by omega) ?_
  rw [show decide (hd > (D.length : Int)) = false from decide_eq_false (by omega)]
  refine EvP.step ?_
  simp only [impl_FourRead.j0]
  refine EvP.no (by simp) (EvP.ite (fun h => EvP.ret (.inl ⟨rfl, .inl h⟩)) (fun g1 => EvP.ite (fun h => EvP.ret (.inl ⟨rfl, .inr (.inl h)⟩)) (fun g2 => EvP.ite (fun h => EvP.ret (.inl ⟨rfl, .inr (.inr h)⟩)) (fun g3 => ?_))))
  have hEl : ((D.take T.toNat).length : Int) = T := by rw [List.length_take]; omega
  refine EvP.yes (by omega) (EvP.yes (by omega) (EvP.bind (fourOf_ok (hb.take _) h0 (by omega) (by omega)) ?_))
  rintro _ rfl
  refine EvP.yes (by decide) (EvP.yes (by omega) (EvP.bind (two_at hb (i := 10) (j := 12) rfl (by omega)) ?_))
  rintro _ rfl
  have e10 : rd D ((10 : Nat) : Int) * 256 + rd D (((10 : Nat) : Int) + 1) = rd (D.take T.toNat) 10 * 256 + rd (D.take T.toNat) 11 := by
    rw [rd_take (by omega) (by omega), rd_take (by omega) (by omega)]; rfl
  rw [e10]
  have ho : Bs (((D.take T.toNat).take hd.toNat).drop 20) := ((hb.take _).take _).drop _
  have q10 := (hb.take T.toNat).rdb 10
  have q11 := (hb.take T.toNat).rdb 11
  refine EvP.bind (headSum_ok (o := ((D.take T.toNat).take hd.toNat).drop 20) (b := (D.take T.toNat).drop hd.toNat) ho (by rw [List.length_drop]; omega)) ?_
  rintro s (⟨hP, rfl⟩ | ⟨hP, rfl⟩)
  · refine EvP.ite (fun hs => ?_) (fun hs => EvP.ret (.inr ⟨⟨by omega, by omega, by omega⟩, .inl ⟨rfl, fun g => hs g.2⟩⟩))
    refine EvP.bind (cloneB_ok (by rw [List.length_drop]; omega)) ?_
    rintro _ rfl
    exact EvP.ret (.inr ⟨⟨by omega, by omega, by omega⟩, .inr ⟨⟨hP, hs⟩, rfl⟩⟩)
  · exact EvP.no (by omega) (EvP.ret (.inr ⟨⟨by omega, by omega, by omega⟩, .inl ⟨rfl, fun g => hP g.1⟩⟩))

theorem code_ne {c : Int} (h : c ≠ 0) : (((bad4 c).2.2.2.2.2.2.2.2.2.2.2.2.2.2.2.2.2.2.2.2) != 0) = true := by
  simp [bad4, h]
theorem FnFourTold : laws_FnFourTold.Pure := by
  intro s _ _ hw
  have hb := Bs.of hw
  refine EvP.rounds ?_
  unfold laws_FnFourTold.f
  refine EvP.bind (big_ok s) ?_
  intro bg hbig
  refine EvP.ite (fun _ => EvP.ret rfl) (fun hb0 => ?_)
  have hl := hbig (by simpa using hb0)
  have hdr := drawFour_ok hb hl
  obtain ⟨R, hR, hRp⟩ := hdr
  have hdraw : EvP (fun k => spec_DrawFourBytes.f k s) (fun r => r = R) := ⟨R, hR, rfl⟩
  clear hR
  obtain ⟨a0, a1, a2, a3, a4, a5, a6, a7, a8, a9, a10, a11, a12, a13, a14, a15, a16, o, b⟩ := R
  obtain ⟨ho, hol, hbb, hbl⟩ := hRp
  dsimp only at ho hol hbb hbl
  refine EvP.bind hdraw ?_
  rintro _ rfl
  dsimp only
  refine EvP.bind (specFour_ok _ _ _ _ _ _ _ _ _ _ _ _ _ _ _ _ _ o b) (fun t ht => EvP.ite (fun g => ?_) (fun _ => EvP.ret rfl))
  have hP := ht.1 g
  refine EvP.bind hdraw ?_
  rintro _ rfl
  dsimp only
  refine EvP.bind (fourBytes_ok ho hP) ?_
  have hsr := sum4_range (a0 := a0) (a1 := a1) (a2 := a2) (a3 := a3) (a4 := a4) (a5 := a5) (a6 := a6) (d1 := a11) (d2 := a16) (n := 20 + (o.length : Int) + (b.length : Int)) ho
  have hck := headL_check (a0 := a0) (a1 := a1) (a2 := a2) (a3 := a3) (a4 := a4) (a5 := a5) (a6 := a6) (d1 := a11) (d2 := a16) (n := 20 + (o.length : Int) + (b.length : Int)) (o := o) hsr.1 hsr.2
  have hmod := wsum_mod (headL a0 a1 a2 a3 a4 a5 a6 a11 a16 (20 + (o.length : Int) + (b.length : Int)) o 0) 0
  have hsm4 : sum4 a0 a1 a2 a3 a4 a5 a6 a11 a16 (20 + (o.length : Int) + (b.length : Int)) o = 65535 - wsum (headL a0 a1 a2 a3 a4 a5 a6 a11 a16 (20 + (o.length : Int) + (b.length : Int)) o 0) 0 := rfl
  generalize sum4 a0 a1 a2 a3 a4 a5 a6 a11 a16 (20 + (o.length : Int) + (b.length : Int)) o = c at *
  have hP0 := hP.ol
  have hPm := hP.om
  have hPb := hP.bl
  have htot : wtot (headL a0 a1 a2 a3 a4 a5 a6 a11 a16 (20 + (o.length : Int) + (b.length : Int)) o c) % 65535 = 0 := by
    generalize wtot (headL a0 a1 a2 a3 a4 a5 a6 a11 a16 (20 + (o.length : Int) + (b.length : Int)) o 0) = X at *
    generalize wsum (headL a0 a1 a2 a3 a4 a5 a6 a11 a16 (20 + (o.length : Int) + (b.length : Int)) o 0) 0 = Y at *
    omega
  have hHb : Bs (headL a0 a1 a2 a3 a4 a5 a6 a11 a16 (20 + (o.length : Int) + (b.length : Int)) o c) := headL_bs ho
  have hHl : (headL a0 a1 a2 a3 a4 a5 a6 a11 a16 (20 + (o.length : Int) + (b.length : Int)) o c).length = o.length + 20 := headL_len
  have hH0 : rd (headL a0 a1 a2 a3 a4 a5 a6 a11 a16 (20 + (o.length : Int) + (b.length : Int)) o c) 0 = (64 + (20 + (o.length : Int)) / 4) % 256 := rfl
  generalize headL a0 a1 a2 a3 a4 a5 a6 a11 a16 (20 + (o.length : Int) + (b.length : Int)) o c = H at *
  rintro _ rfl
  have hDl : ((H ++ b).length : Int) = 20 + (o.length : Int) + (b.length : Int) := by rw [List.length_append]; omega
  have hDb : Bs (H ++ b) := hHb.app hbb
  refine EvP.no (by omega) ?_
  rw [w64 (x := 19 + (o.length : Int)) (by omega) (by omega)]
  refine EvP.bind (lpick (a := 4) (n := 19 + (o.length : Int)) hb (by omega)) ?_
  rintro v ⟨v0, v1⟩
  have v1 : v < 19 + (o.length : Int) := by omega
  rw [w64 (x := 1 + v) (by omega) (by omega)]
  refine EvP.yes (by omega) (EvP.yes (by omega) ?_)
  refine EvP.bind (lpick (a := 5) (n := 255) hb (by omega)) ?_
  rintro u ⟨u0, u1⟩
  rw [w64 (x := 1 + u) (by omega) (by omega)]
  have hx := hDb.rdb (1 + v)
  have hnew : 0 ≤ (rd (H ++ b) (1 + v) + (1 + u) % 256) % 256 ∧ (rd (H ++ b) (1 + v) + (1 + u) % 256) % 256 ≤ 255 ∧ (rd (H ++ b) (1 + v) + (1 + u) % 256) % 256 ≠ rd (H ++ b) (1 + v) := by omega
  generalize (rd (H ++ b) (1 + v) + (1 + u) % 256) % 256 = y at hnew
  obtain ⟨y0, y1, y2⟩ := hnew
  have hb2 := hDb.set (1 + v).toNat y0 y1
  have e0 : rd ((H ++ b).set (1 + v).toNat y) 0 = (64 + (20 + (o.length : Int)) / 4) % 256 := by
    rw [← hH0]
    unfold rd
    rw [List.getD_eq_getElem?_getD, List.getD_eq_getElem?_getD, List.getElem?_set_ne (by omega), List.getElem?_append_left (by omega)]
  have htk : ((H ++ b).set (1 + v).toNat y).take (20 + (o.length : Int)).toNat = H.set (1 + v).toNat y := by
    rw [List.set_append_left _ _ (by omega), List.take_append_of_le_length (by rw [List.length_set]; omega), List.take_of_length_le (by rw [List.length_set]; omega)]
  have hrv : rd (H ++ b) (1 + v) = H[(1 + v).toNat]'(by omega) := by
    rw [rd_get _ _ (by omega) (by omega), List.getElem_append_left (by omega)]
  have hset := wtot_set H (1 + v).toNat y (by omega)
  rw [← hrv] at hset
  have hDl2 : (((H ++ b).set (1 + v).toNat y).length : Int) = 20 + (o.length : Int) + (b.length : Int) := by rw [List.length_set]; exact hDl
  refine EvP.bind (fourRead_ok (T := rd ((H ++ b).set (1 + v).toNat y) 2 * 256 + rd ((H ++ b).set (1 + v).toNat y) 3) (hd := 20 + (o.length : Int)) hb2 (by omega) (by omega) (by rw [e0]; omega) (by rw [e0]; omega) (by omega) (by omega) rfl) ?_
  rintro r (⟨rfl, _⟩ | ⟨⟨t1, t2, t3⟩, ⟨rfl, _⟩ | ⟨⟨_, hS⟩, _⟩⟩)
  · exact EvP.ret (code_ne (by decide))
  · exact EvP.ret (code_ne (by decide))
  · exfalso
    have q2 := hb2.rdb 2
    have q3 := hb2.rdb 3
    generalize hT : rd ((H ++ b).set (1 + v).toNat y) 2 * 256 + rd ((H ++ b).set (1 + v).toNat y) 3 = T at *
    have hEl : ((((H ++ b).set (1 + v).toNat y).take T.toNat).length : Int) = T := by rw [List.length_take]; omega
    have hEb := hb2.take T.toNat
    have tt : (((H ++ b).set (1 + v).toNat y).take T.toNat).take (20 + (o.length : Int)).toNat = H.set (1 + v).toNat y := by
      rw [List.take_take, Nat.min_eq_left (by omega)]; exact htk
    have p10 := hEb.rdb 10
    have p11 := hEb.rdb 11
    have again := headL_again (E := ((H ++ b).set (1 + v).toNat y).take T.toNat) (hd := 20 + (o.length : Int)) hEb (by omega) (by omega) (by omega) (by rw [rd_take (by omega) (by omega), e0]; omega) (by rw [rd_take (by omega) (by omega), e0]; omega) (by rw [rd_take (by omega) (by omega), rd_take (by omega) (by omega)]; omega) (rd (((H ++ b).set (1 + v).toNat y).take T.toNat) 10 * 256 + rd (((H ++ b).set (1 + v).toNat y).take T.toNat) 11) (by omega) (by omega)
    rw [tt] at again
    unfold Sum4 sum4 at hS
    rw [tt] at hS
    have hck2 := headL_check (a0 := rd (((H ++ b).set (1 + v).toNat y).take T.toNat) 1 / 4) (a1 := rd (((H ++ b).set (1 + v).toNat y).take T.toNat) 1 % 4) (a2 := rd (((H ++ b).set (1 + v).toNat y).take T.toNat) 4 * 256 + rd (((H ++ b).set (1 + v).toNat y).take T.toNat) 5) (a3 := (rd (((H ++ b).set (1 + v).toNat y).take T.toNat) 6 * 256 + rd (((H ++ b).set (1 + v).toNat y).take T.toNat) 7) / 8192) (a4 := (rd (((H ++ b).set (1 + v).toNat y).take T.toNat) 6 * 256 + rd (((H ++ b).set (1 + v).toNat y).take T.toNat) 7) % 8192) (a5 := rd (((H ++ b).set (1 + v).toNat y).take T.toNat) 8) (a6 := rd (((H ++ b).set (1 + v).toNat y).take T.toNat) 9) (d1 := be4 (((H ++ b).set (1 + v).toNat y).take T.toNat) 12) (d2 := be4 (((H ++ b).set (1 + v).toNat y).take T.toNat) 16) (n := 20 + (((H.set (1 + v).toNat y).drop 20).length : Int) + (((((H ++ b).set (1 + v).toNat y).take T.toNat).drop (20 + (o.length : Int)).toNat).length : Int)) (o := (H.set (1 + v).toNat y).drop 20) (c := rd (((H ++ b).set (1 + v).toNat y).take T.toNat) 10 * 256 + rd (((H ++ b).set (1 + v).toNat y).take T.toNat) 11) (by omega) (by omega)
    rw [again] at hck2
    have hm2 := wsum_mod (headL (rd (((H ++ b).set (1 + v).toNat y).take T.toNat) 1 / 4) (rd (((H ++ b).set (1 + v).toNat y).take T.toNat) 1 % 4) (rd (((H ++ b).set (1 + v).toNat y).take T.toNat) 4 * 256 + rd (((H ++ b).set (1 + v).toNat y).take T.toNat) 5) ((rd (((H ++ b).set (1 + v).toNat y).take T.toNat) 6 * 256 + rd (((H ++ b).set (1 + v).toNat y).take T.toNat) 7) / 8192) ((rd (((H ++ b).set (1 + v).toNat y).take T.toNat) 6 * 256 + rd (((H ++ b).set (1 + v).toNat y).take T.toNat) 7) % 8192) (rd (((H ++ b).set (1 + v).toNat y).take T.toNat) 8) (rd (((H ++ b).set (1 + v).toNat y).take T.toNat) 9) (be4 (((H ++ b).set (1 + v).toNat y).take T.toNat) 12) (be4 (((H ++ b).set (1 + v).toNat y).take T.toNat) 16) (20 + (((H.set (1 + v).toNat y).drop 20).length : Int) + (((((H ++ b).set (1 + v).toNat y).take T.toNat).drop (20 + (o.length : Int)).toNat).length : Int)) ((H.set (1 + v).toNat y).drop 20) 0) 0
    clear again hck hmod hsm4
    generalize wsum (headL _ _ _ _ _ _ _ _ _ _ _ 0) 0 = Y at *
    generalize wtot (headL _ _ _ _ _ _ _ _ _ _ _ 0) = X at *
    generalize rd (((H ++ b).set (1 + v).toNat y).take T.toNat) 10 * 256 + rd (((H ++ b).set (1 + v).toNat y).take T.toNat) 11 = Z at *
    generalize rd (H ++ b) (1 + v) = q at *
    generalize wtot (H.set (1 + v).toNat y) = U at *
    generalize wtot H = V at *
    split at hset <;> omega

end Go.Proofs.Ytlafobfjbkhioaa.Pure
