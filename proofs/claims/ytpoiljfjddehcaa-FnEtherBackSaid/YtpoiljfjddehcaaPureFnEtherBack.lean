/- Decoding an encoded Ethernet frame returns it. No condition. -/
import Derived.Test.YtpoiljfjddehcaaPFnEtherBackx
import Derived.Laws.BitsLemmas
namespace Go.Proofs.Ytpoiljfjddehcaa.Pure
open Go.RowKit Go.Proofs.Ytpoiljfjddehcaa.PFnEtherBack Go.Proofs.YtpoiljfjddehcaaW.PrintWords Go.Proofs.YtpoiljfjddehcaaW.PrintLast Go.Proofs.YtpoiljfjddehcaaW.PrintMore
set_option linter.unusedVariables false
set_option linter.unusedSimpArgs false

def EvP {α : Type} (g : Nat → Option α) (P : α → Prop) : Prop := ∃ r, Ev g r ∧ P r
theorem EvP.of {α : Type} {o : Option α} {P : α → Prop} (h : ∃ r, o = some r ∧ P r) : EvP (fun _ => o) P := by
  obtain ⟨r, rfl, hp⟩ := h
  exact ⟨r, Ev.now r, hp⟩
theorem EvP.ret {α : Type} {r : α} {P : α → Prop} (h : P r) : EvP (fun _ => some r) P := ⟨r, Ev.now r, h⟩
theorem EvP.bind {α β : Type} {g : Nat → Option α} {f : Nat → α → Option β} {P : α → Prop} {Q : β → Prop} (h : EvP g P) (k : ∀ r, P r → EvP (fun n => f n r) Q) : EvP (fun n => (g n).bind (f n)) Q := by
  obtain ⟨r, hr, hp⟩ := h
  obtain ⟨q, hq, hQ⟩ := k r hp
  exact ⟨q, Ev.bind hr hq, hQ⟩
theorem EvP.ite {α : Type} {c : Prop} [Decidable c] {a b : Nat → Option α} {Q : α → Prop} (h : c → EvP a Q) (h' : ¬ c → EvP b Q) : EvP (fun n => if c then a n else b n) Q := by
  by_cases hc : c
  · simp only [if_pos hc]; exact h hc
  · simp only [if_neg hc]; exact h' hc
theorem EvP.yes {α : Type} {c : Prop} [Decidable c] {a b : Nat → Option α} {Q : α → Prop} (hc : c) (h : EvP a Q) : EvP (fun n => if c then a n else b n) Q := by
  simp only [if_pos hc]; exact h
theorem EvP.no {α : Type} {c : Prop} [Decidable c] {a b : Nat → Option α} {Q : α → Prop} (hc : ¬ c) (h : EvP b Q) : EvP (fun n => if c then a n else b n) Q := by
  simp only [if_neg hc]; exact h
theorem EvP.step {α : Type} {g : Nat → Option α} {Q : α → Prop} (h : EvP (fun k => g (k + 1)) Q) : EvP g Q := by
  obtain ⟨r, hr, hq⟩ := h
  exact ⟨r, Ev.step (fun _ => rfl) hr, hq⟩
theorem EvP.mono {α : Type} {g : Nat → Option α} {P Q : α → Prop} (h : EvP g P) (hpq : ∀ r, P r → Q r) : EvP g Q := by
  obtain ⟨r, hr, hp⟩ := h
  exact ⟨r, hr, hpq r hp⟩
theorem EvP.rounds {α : Type} {g : Nat → Option α} {r : α} (h : EvP g (fun x => x = r)) : ∃ k, g k = some r := by
  obtain ⟨q, hq, rfl⟩ := h
  exact hq.rounds
theorem w64 {x : Int} (h0 : -9223372036854775808 ≤ x) (h1 : x ≤ 9223372036854775807) : wrap64 x = x := by unfold wrap64; omega
theorem w64_lo (x : Int) : -9223372036854775808 ≤ wrap64 x := by unfold wrap64; omega
theorem w64_hi (x : Int) : wrap64 x ≤ 9223372036854775807 := by unfold wrap64; omega
theorem tmod_pos {a b : Int} (h : 0 ≤ a) : Int.tmod a b = a % b := Int.tmod_eq_emod_of_nonneg h
theorem tdiv_pos {a b : Int} (h : 0 ≤ a) : Int.tdiv a b = a / b := Int.tdiv_eq_ediv_of_nonneg h
def Bs (s : List Int) : Prop := ∀ x ∈ s, 0 ≤ x ∧ x ≤ 255
theorem Bs.nil : Bs [] := fun _ h => by cases h
theorem Bs.snoc {s : List Int} (h : Bs s) {x : Int} (h0 : 0 ≤ x) (h1 : x ≤ 255) : Bs (s ++ [x]) := fun y hy => by
  rcases List.mem_append.1 hy with hy | hy
  · exact h y hy
  · rw [List.mem_singleton.1 hy]; exact ⟨h0, h1⟩
theorem Bs.drop {s : List Int} (h : Bs s) (n : Nat) : Bs (s.drop n) := fun y hy => h y (List.mem_of_mem_drop hy)
theorem Bs.rep (n : Nat) : Bs (List.replicate n 0) := fun y hy => by
  rw [(List.mem_replicate.1 hy).2]; omega
theorem Bs.set {s : List Int} (h : Bs s) (i : Nat) {x : Int} (h0 : 0 ≤ x) (h1 : x ≤ 255) : Bs (s.set i x) := fun y hy => by
  rcases List.mem_or_eq_of_mem_set hy with hy | rfl
  · exact h y hy
  · exact ⟨h0, h1⟩
theorem rd_get (s : List Int) (i : Int) (h0 : 0 ≤ i) (h1 : i < (s.length : Int)) : rd s i = s[i.toNat]'(by omega) := by
  unfold rd
  rw [List.getD_eq_getElem?_getD, List.getElem?_eq_getElem (by omega)]
  rfl
theorem Bs.rdb {s : List Int} (h : Bs s) (i : Int) : 0 ≤ rd s i ∧ rd s i ≤ 255 := by
  by_cases hi : i.toNat < s.length
  · unfold rd
    rw [List.getD_eq_getElem?_getD, List.getElem?_eq_getElem hi]
    exact h _ (List.getElem_mem hi)
  · unfold rd
    rw [List.getD_eq_getElem?_getD, List.getElem?_eq_none (by omega)]
    exact ⟨by decide, by decide⟩
theorem Bs.of {s : List Int} (h : ∀ x ∈ s, (Lit.int .u8 x).wf = true) : Bs s := fun x hx => by
  have := h x hx
  simp [Lit.wf, IntKind.min, IntKind.max, IntKind.bits, IntKind.signed] at this
  omega
structure Cu (s : List Int) (p sd B : Int) : Prop where
  bs : Bs s
  p0 : 0 ≤ p
  p1 : p ≤ B
  s0 : 0 ≤ sd
  s1 : sd ≤ 65520
theorem Cu.le {s : List Int} {p sd B B' : Int} (h : Cu s p sd B) (hB : B ≤ B') : Cu s p sd B' := ⟨h.bs, h.p0, by have := h.p1; omega, h.s0, h.s1⟩
theorem seed_ok {sd : Int} (h0 : 0 ≤ sd) (h1 : sd ≤ 65520) : Int.tmod (wrap64 ((wrap64 (sd * 1103)) + 12345)) 65521 = (sd * 1103 + 12345) % 65521 := by
  rw [w64 (x := sd * 1103) (by omega) (by omega), w64 (by omega) (by omega), tmod_pos (by omega)]
theorem rem_ok {x n : Int} (h0 : 0 ≤ x) (hn : 2 ≤ n) : 0 ≤ Int.tmod x n ∧ Int.tmod x n < n := by
  rw [tmod_pos h0]
  exact ⟨Int.emod_nonneg _ (by omega), Int.emod_lt_of_pos _ (by omega)⟩
theorem pick_ok {s : List Int} {p sd B n : Int} (h : Cu s p sd B) (hB : B ≤ 4611686018427387904) :
    ∃ r, spec_l01Cur_pick.f s p sd n = some r ∧ Cu s r.2.1 r.2.2 (B + 1) ∧ 0 ≤ r.1 ∧ (r.1 < n ∨ r.1 = 0) := by
  obtain ⟨hb, p0, p1, s0, s1⟩ := h
  unfold spec_l01Cur_pick.f
  rw [seed_ok s0 s1, w64 (x := p + 1) (by omega) (by omega)]
  have e0 : 0 ≤ (sd * 1103 + 12345) % 65521 ∧ (sd * 1103 + 12345) % 65521 ≤ 65520 := by omega
  generalize (sd * 1103 + 12345) % 65521 = q at e0
  by_cases hn : n < 2
  · rw [if_pos hn]
    exact ⟨_, rfl, ⟨hb, p0, by dsimp only; omega, s0, s1⟩, by dsimp only; omega, .inr rfl⟩
  rw [if_neg hn]
  by_cases hp : p < (s.length : Int)
  · rw [if_pos hp, if_pos p0, if_neg (by omega)]
    have hr := hb.rdb p
    have hm := rem_ok hr.1 (show (2 : Int) ≤ n by omega)
    rw [w64 (x := rd s p) (by omega) (by omega)]
    exact ⟨_, rfl, ⟨hb, by dsimp only; omega, by dsimp only; omega, s0, s1⟩, hm.1, .inl hm.2⟩
  rw [if_neg hp]
  by_cases hl : (s.length : Int) > 0
  · have hm : 0 ≤ Int.tmod p (s.length : Int) ∧ Int.tmod p (s.length : Int) < (s.length : Int) := by
      rw [tmod_pos p0]
      exact ⟨Int.emod_nonneg _ (by omega), Int.emod_lt_of_pos _ (by omega)⟩
    rw [if_pos hl, if_neg (by omega), if_pos hm.1, if_pos hm.2, if_neg (by omega)]
    have hr := hb.rdb (Int.tmod p (s.length : Int))
    have hv := rem_ok (x := wrap64 ((wrap64 (Int.tdiv q 7)) + (wrap64 (rd s (Int.tmod p (s.length : Int)))))) (n := n) (by
      rw [tdiv_pos e0.1, w64 (x := q / 7) (by omega) (by omega), w64 (x := rd s _) (by omega) (by omega), w64 (by omega) (by omega)]
      omega) (by omega)
    exact ⟨_, rfl, ⟨hb, by dsimp only; omega, by dsimp only; omega, e0.1, e0.2⟩, hv.1, .inl hv.2⟩
  · rw [if_neg hl, if_neg (by omega)]
    have hv := rem_ok (x := 0) (n := n) (by omega) (by omega)
    rw [tmod_pos (by omega)] at hv
    exact ⟨_, rfl, ⟨hb, by dsimp only; omega, by dsimp only; omega, e0.1, e0.2⟩, hv.1, .inl hv.2⟩
theorem pickE {s : List Int} {p sd B n : Int} (h : Cu s p sd B) (hB : B ≤ 4611686018427387904) :
    EvP (fun _ => spec_l01Cur_pick.f s p sd n) (fun r => Cu s r.2.1 r.2.2 (B + 1) ∧ 0 ≤ r.1 ∧ (r.1 < n ∨ r.1 = 0)) := EvP.of (pick_ok h hB)
theorem open_ok {s : List Int} (hb : Bs s) : EvP (fun _ => spec_l01Open.f s) (fun r => r.1 = s ∧ Cu s r.2.1 r.2.2 0) := by
  refine EvP.ret ⟨rfl, hb, ?_, ?_, ?_, ?_⟩ <;> dsimp only <;> omega
theorem big_ok (s : List Int) : EvP (fun _ => laws_big.f s) (fun b => b = false → (s.length : Int) ≤ 1048576) := by
  unfold laws_big.f
  refine EvP.ret (fun h => ?_)
  simp at h
  omega
theorem size_ok {s : List Int} {p sd B n : Int} (h : Cu s p sd B) (hB : B ≤ 4611686018427387904) (hl : (s.length : Int) ≤ 1048576) (h0 : 0 ≤ n) (hn : n ≤ 1000) :
    EvP (fun _ => spec_l01Cur_size.f s p sd n) (fun r => Cu s r.2.1 r.2.2 (B + 1) ∧ 0 ≤ r.1 ∧ r.1 ≤ n) := by
  unfold spec_l01Cur_size.f
  have e : 0 ≤ mn n (wrap64 (1 + (wrap64 ((s.length : Int) / 8)))) ∧ mn n (wrap64 (1 + (wrap64 ((s.length : Int) / 8)))) ≤ n := by
    rw [w64 (x := (s.length : Int) / 8) (by omega) (by omega), w64 (by omega) (by omega)]
    unfold mn; omega
  generalize mn n (wrap64 (1 + (wrap64 ((s.length : Int) / 8)))) = m at e
  rw [w64 (x := m + 1) (by omega) (by omega)]
  refine EvP.bind (pickE h hB) ?_
  rintro ⟨x, p', s'⟩ ⟨c, x0, x1⟩
  dsimp only at *
  exact EvP.ret ⟨c, x0, by dsimp only; omega⟩
theorem bytes_l0 {s : List Int} : ∀ (d : Nat) (out : List Int) (m p sd B : Int), Cu s p sd B → B + d ≤ 4611686018427387904 → 0 ≤ m → m ≤ d → Bs out → out.length + d ≤ 100000 →
    EvP (fun k => spec_l01Cur_bytes.l0 k out m s p sd) (fun r => Cu s r.2.1 r.2.2 (B + d) ∧ Bs r.1 ∧ (r.1.length : Int) = out.length + m) := by
  intro d
  induction d with
  | zero =>
    intro out m p sd B h hB h0 hm ho hl
    refine EvP.step ?_
    simp only [spec_l01Cur_bytes.l0]
    exact EvP.no (by omega) (EvP.ret ⟨h.le (by omega), ho, by dsimp only; omega⟩)
  | succ d ih =>
    intro out m p sd B h hB h0 hm ho hl
    refine EvP.step ?_
    simp only [spec_l01Cur_bytes.l0]
    refine EvP.ite (fun hp => ?_) (fun hp => EvP.ret ⟨h.le (by omega), ho, by dsimp only; omega⟩)
    refine EvP.bind (pickE (n := 256) h (by omega)) ?_
    rintro ⟨x, p', s'⟩ ⟨c, x0, x1⟩
    dsimp only at *
    refine EvP.yes (by omega) ?_
    simp only [w64 (x := m - 1) (by omega) (by omega)]
    refine (ih (out ++ [x % 256]) (m - 1) p' s' (B + 1) c (by omega) (by omega) (by omega) (ho.snoc (by omega) (by omega)) (by rw [List.length_append]; simp only [List.length_cons, List.length_nil]; omega)).mono ?_
    rintro r ⟨h1, h2, h3⟩
    refine ⟨h1.le (by omega), h2, ?_⟩
    rw [List.length_append] at h3
    simp only [List.length_cons, List.length_nil] at h3
    omega
theorem bytes_ok {s : List Int} {p sd B n : Int} (h : Cu s p sd B) (hB : B ≤ 1000000000000) (hl : (s.length : Int) ≤ 1048576) (h0 : 0 ≤ n) (hn : n ≤ 1000) :
    EvP (fun k => spec_l01Cur_bytes.f k s p sd n) (fun r => Cu s r.2.1 r.2.2 (B + 1001) ∧ Bs r.1 ∧ (r.1.length : Int) ≤ n) := by
  unfold spec_l01Cur_bytes.f
  refine EvP.bind (size_ok h (by omega) hl h0 hn) ?_
  rintro ⟨m, p', s'⟩ ⟨c, m0, m1⟩
  dsimp only at *
  refine (bytes_l0 1000 [] m p' s' (B + 1) c (by omega) m0 (by omega) Bs.nil (by simp)).mono ?_
  rintro r ⟨h1, h2, h3⟩
  exact ⟨h1.le (by omega), h2, by simp at h3; omega⟩
theorem shr_of {x : Int} {c : Int} {j : Int} (h : c.toNat ≤ 64) (hj : j = x / 2 ^ c.toNat) : shr .i64 x c = j := by
  unfold shr; rw [hj, show IntKind.bits .i64 = 64 from rfl, Nat.min_eq_left h]
theorem put_l0 (n m : Int) (hm : 0 ≤ m ∧ m ≤ 8) : ∀ (d : Nat) (out : List Int) (i : Int), 0 ≤ i → i + d = m → (out.length : Int) = m →
    EvP (fun k => impl_put.l0 k n m out m i) (fun r => r.length = out.length ∧ ∀ j : Nat, (j : Int) < m → r[j]? = if (j : Int) < i then out[j]? else some (n / 2 ^ (8 * (m - 1 - (j : Int))).toNat % 256)) := by
  intro d
  induction d with
  | zero =>
    intro out i h0 hd hl
    refine EvP.step ?_
    simp only [impl_put.l0]
    refine EvP.no (by omega) (EvP.ret ⟨rfl, fun j hj => ?_⟩)
    rw [if_pos (by omega)]
  | succ d ih =>
    intro out i h0 hd hl
    refine EvP.step ?_
    simp only [impl_put.l0]
    simp only [w64 (x := m - 1) (by omega) (by omega), w64 (x := i + 1) (by omega) (by omega)]
    simp only [w64 (x := m - 1 - i) (by omega) (by omega)]
    simp only [w64 (x := 8 * (m - 1 - i)) (by omega) (by omega)]
    refine EvP.yes (by omega) (EvP.yes (by omega) (EvP.yes (by omega) (EvP.yes (by omega) ?_)))
    rw [shr_of (by omega) rfl]
    refine (ih (out.set i.toNat (n / 2 ^ (8 * (m - 1 - i)).toNat % 256)) (i + 1) (by omega) (by omega) (by rw [List.length_set]; exact hl)).mono ?_
    rintro r ⟨h1, h2⟩
    refine ⟨by rw [h1, List.length_set], fun j hj => ?_⟩
    rw [h2 j hj]
    by_cases hji : (j : Int) < i
    · rw [if_pos (by omega), if_pos hji, List.getElem?_set_ne (by omega)]
    · rw [if_neg hji]
      by_cases e : (j : Int) = i
      · subst e
        rw [if_pos (by omega)]
        simp only [Int.toNat_natCast]
        rw [List.getElem?_set_self (by omega)]
      · rw [if_neg (by omega)]
theorem put_ok (n m : Int) (hm : 0 ≤ m ∧ m ≤ 8) :
    EvP (fun k => impl_put.f k n m) (fun r => (r.length : Int) = m ∧ ∀ j : Nat, (j : Int) < m → r[j]? = some (n / 2 ^ (8 * (m - 1 - (j : Int))).toNat % 256)) := by
  unfold impl_put.f
  refine EvP.yes (by omega) (EvP.yes (by omega) (EvP.bind (EvP.ret (P := fun y => y = List.replicate m.toNat 0) rfl) ?_))
  rintro y rfl
  have hl : ((List.replicate m.toNat (0 : Int)).length : Int) = m := by rw [List.length_replicate]; omega
  rw [hl]
  refine (put_l0 n m hm m.toNat _ 0 (by omega) (by omega) hl).mono ?_
  rintro r ⟨h1, h2⟩
  refine ⟨by rw [h1]; exact hl, fun j hj => ?_⟩
  rw [h2 j hj, if_neg (by omega)]
theorem put16_ok (n : Int) : EvP (fun k => impl_Put16.f k n) (fun r => r = [n / 256 % 256, n % 256]) := by
  unfold impl_Put16.f
  refine EvP.bind (put_ok n 2 (by omega)) ?_
  rintro r ⟨h1, h2⟩
  refine EvP.ret ?_
  match r, h1, h2 with
  | [x, y], _, h2 =>
    have e0 := h2 0 (by omega)
    have e1 := h2 1 (by omega)
    simp at e0 e1
    rw [e0, e1]
theorem w64r {x : Int} : -9223372036854775808 ≤ wrap64 x ∧ wrap64 x ≤ 9223372036854775807 := ⟨w64_lo x, w64_hi x⟩
theorem raw_ok {s : List Int} {p sd B : Int} (h : Cu s p sd B) (hB : B ≤ 1000000000000) :
    EvP (fun _ => spec_l01Cur_raw.f s p sd) (fun r => Cu s r.2.1 r.2.2 (B + 2) ∧ -9223372036854775808 ≤ r.1 ∧ r.1 ≤ 9223372036854775807) := by
  unfold spec_l01Cur_raw.f
  refine EvP.bind (pickE (n := 8) h (by omega)) ?_
  rintro ⟨a, p1, s1⟩ ⟨c1, a0, a1⟩
  dsimp only at *
  refine EvP.ite (fun _ => ?_) (fun _ => EvP.ite (fun _ => ?_) (fun _ => ?_))
  · refine EvP.bind (pickE (n := 256) c1 (by omega)) ?_
    rintro ⟨b, p2, s2⟩ ⟨c2, b0, b1⟩
    exact EvP.ret ⟨c2.le (by omega), w64r⟩
  · refine EvP.bind (EvP.ret (P := fun y => y.length = 8 ∧ ∀ i : Int, 0 ≤ i → i < 8 → -9223372036854775808 ≤ rd y i ∧ rd y i ≤ 9223372036854775807) ⟨rfl, fun i h0 h8 => ?_⟩) ?_
    · have : i = 0 ∨ i = 1 ∨ i = 2 ∨ i = 3 ∨ i = 4 ∨ i = 5 ∨ i = 6 ∨ i = 7 := by omega
      rcases this with e | e | e | e | e | e | e | e <;> rw [e] <;> decide
    · rintro y ⟨hy, hv⟩
      refine EvP.bind (pickE (n := 8) c1 (by omega)) ?_
      rintro ⟨b, p2, s2⟩ ⟨c2, b0, b1⟩
      dsimp only at *
      exact EvP.yes b0 (EvP.yes (by omega) (EvP.ret ⟨c2.le (by omega), hv b b0 (by omega)⟩))
  · refine EvP.bind (pickE (n := 14) c1 (by omega)) ?_
    rintro ⟨b, p2, s2⟩ ⟨c2, b0, b1⟩
    exact EvP.ret ⟨c2.le (by omega), w64r⟩
theorem wide_ok {s : List Int} {p sd B n : Int} (h : Cu s p sd B) (hB : B ≤ 1000000000000) (hn : 2 ≤ n) :
    EvP (fun _ => spec_l01Cur_wide.f s p sd n) (fun r => Cu s r.2.1 r.2.2 (B + 3) ∧ 0 ≤ r.1 ∧ r.1 < n) := by
  unfold spec_l01Cur_wide.f
  refine EvP.bind (pickE (n := 256) h (by omega)) ?_
  rintro ⟨a, p1, s1⟩ ⟨c1, a0, a1⟩
  dsimp only at *
  refine EvP.bind (pickE (n := 256) c1 (by omega)) ?_
  rintro ⟨b, p2, s2⟩ ⟨c2, b0, b1⟩
  dsimp only at *
  refine EvP.bind (pickE (n := 256) c2 (by omega)) ?_
  rintro ⟨d, p3, s3⟩ ⟨c3, d0, d1⟩
  dsimp only at *
  refine EvP.no (by omega) (EvP.ret ⟨c3.le (by omega), ?_⟩)
  dsimp only
  rw [w64 (x := 65536 * a) (by omega) (by omega), w64 (x := 256 * b) (by omega) (by omega), w64 (x := 65536 * a + 256 * b) (by omega) (by omega), w64 (by omega) (by omega)]
  exact rem_ok (by omega) hn

theorem tri {x : Int} {n : Int} {s : List Int} {p sd B : Int} {Q : Int × Int × Int → Prop} (xs : List Int) (hl : xs.length = 3) (h : Cu s p sd B) (hB : B ≤ 4611686018427387904) : EvP (fun _ => spec_l01Cur_pick.f s p sd 3) (fun r => 0 ≤ r.1 ∧ r.1 < (xs.length : Int)) :=
  (pickE (n := 3) h hB).mono (fun r g => ⟨g.2.1, by have := g.2.2; omega⟩)
theorem drawEther0 {s : List Int} {p sd B : Int} (h : Cu s p sd B) (hB : B ≤ 1000000000) : EvP (fun _ => spec_l01Cur_ether.f s p sd) (fun r => Cu s r.2.2.2.2.2.1 r.2.2.2.2.2.2 (B + 20)) := by
  unfold spec_l01Cur_ether.f
  refine EvP.bind (wide_ok h (by omega) (by omega)) ?_
  rintro ⟨a, p1, s1⟩ ⟨c1, _, _⟩
  refine EvP.bind (pickE (n := 256) c1 (by omega)) ?_
  rintro ⟨b, p2, s2⟩ ⟨c2, _, _⟩
  refine EvP.bind (wide_ok c2 (by omega) (by omega)) ?_
  rintro ⟨d, p3, s3⟩ ⟨c3, _, _⟩
  refine EvP.bind (pickE (n := 256) c3 (by omega)) ?_
  rintro ⟨e, p4, s4⟩ ⟨c4, _, _⟩
  refine EvP.bind (wide_ok c4 (by omega) (by omega)) ?_
  rintro ⟨f, p5, s5⟩ ⟨c5, _, _⟩
  refine EvP.bind (P := fun r => r.length = 5) (EvP.ret rfl) (fun xs hx => ?_)
  refine EvP.bind (pickE (n := 5) c5 (by omega)) ?_
  rintro ⟨i, p6, s6⟩ ⟨c6, i0, i1⟩
  dsimp only at *
  refine EvP.yes i0 (EvP.yes (by omega) ?_)
  refine EvP.bind (P := fun r => r.length = 6) (EvP.ret rfl) (fun ys hy => ?_)
  refine EvP.bind (pickE (n := 6) c6 (by omega)) ?_
  rintro ⟨j, p7, s7⟩ ⟨c7, j0, j1⟩
  dsimp only at *
  exact EvP.yes j0 (EvP.yes (by omega) (EvP.ret (c7.le (by omega))))
theorem drawEther {s : List Int} (hb : Bs s) (hl : (s.length : Int) ≤ 1048576) : EvP (fun k => spec_DrawEtherBytes.f k s) (fun r => Bs r.2.2.2.2 ∧ (r.2.2.2.2.length : Int) ≤ 2000) := by
  have bad : ∀ p sd : Int, Cu s p sd 0 → EvP (fun k => spec_l01Cur_badEther.f k s p sd) (fun r => Bs r.2.2.2.2.1 ∧ (r.2.2.2.2.1.length : Int) ≤ 2000) := by
    intro p sd h
    unfold spec_l01Cur_badEther.f
    refine EvP.bind (drawEther0 h (by omega)) ?_
    rintro ⟨a1, a2, a3, a4, a5, p1, s1⟩ c1
    dsimp only at c1 ⊢
    refine EvP.bind (bytes_ok (n := 50) c1 (by omega) hl (by omega) (by omega)) ?_
    rintro ⟨bd, p2, s2⟩ ⟨c2, b1, b2⟩
    dsimp only at c2 b1 b2 ⊢
    refine EvP.bind (pickE (n := 8) c2 (by omega)) ?_
    rintro ⟨x, p3, s3⟩ ⟨c3, x0, x1⟩
    dsimp only at c3 x0 x1 ⊢
    refine EvP.ite (fun _ => ?_) (fun _ => EvP.ite (fun _ => ?_) (fun _ => EvP.ite (fun _ => ?_) (fun _ => EvP.ite (fun _ => ?_) (fun _ => EvP.ite (fun _ => ?_) (fun _ => EvP.ret ⟨b1, by dsimp only; omega⟩)))))
    · refine EvP.bind (raw_ok c3 (by omega)) ?_
      rintro ⟨y, p4, s4⟩ ⟨c4, _, _⟩
      refine EvP.bind (P := fun r => r.length = 3) (EvP.ret rfl) (fun xs hx => ?_)
      refine EvP.bind (pickE (n := 3) c4 (by omega)) ?_
      rintro ⟨i, p5, s5⟩ ⟨c5, i0, i1⟩
      dsimp only at *
      exact EvP.yes i0 (EvP.yes (by omega) (EvP.ret ⟨b1, by dsimp only; omega⟩))
    · refine EvP.bind (raw_ok c3 (by omega)) ?_
      rintro ⟨y, p4, s4⟩ ⟨c4, _, _⟩
      refine EvP.bind (P := fun r => r.length = 3) (EvP.ret rfl) (fun xs hx => ?_)
      refine EvP.bind (pickE (n := 3) c4 (by omega)) ?_
      rintro ⟨i, p5, s5⟩ ⟨c5, i0, i1⟩
      dsimp only at *
      exact EvP.yes i0 (EvP.yes (by omega) (EvP.ret ⟨b1, by dsimp only; omega⟩))
    · refine EvP.bind (raw_ok c3 (by omega)) ?_
      rintro ⟨y, p4, s4⟩ ⟨c4, _, _⟩
      exact EvP.ret ⟨b1, by dsimp only; omega⟩
    · refine EvP.bind (raw_ok c3 (by omega)) ?_
      rintro ⟨y, p4, s4⟩ ⟨c4, _, _⟩
      refine EvP.bind (P := fun r => r.length = 4) (EvP.ret rfl) (fun xs hx => ?_)
      refine EvP.bind (pickE (n := 4) c4 (by omega)) ?_
      rintro ⟨i, p5, s5⟩ ⟨c5, i0, i1⟩
      dsimp only at *
      exact EvP.yes i0 (EvP.yes (by omega) (EvP.ret ⟨b1, by dsimp only; omega⟩))
    · refine EvP.bind (pickE (n := 2) c3 (by omega)) ?_
      rintro ⟨u, p4, s4⟩ ⟨c4, u0, u1⟩
      refine EvP.bind (pickE (n := 3) c4 (by omega)) ?_
      rintro ⟨v, p5, s5⟩ ⟨c5, v0, v1⟩
      dsimp only at *
      simp only [w64 (x := 4 * u) (by omega) (by omega), w64 (x := 1586 - 4 * u) (by omega) (by omega), w64 (x := 1586 - 4 * u + v) (by omega) (by omega), w64 (x := 1586 - 4 * u + v - 1) (by omega) (by omega)]
      refine EvP.yes (by omega) (EvP.yes (by omega) (EvP.ret ⟨Bs.rep _, ?_⟩))
      dsimp only
      rw [List.length_replicate]; omega
  unfold spec_DrawEtherBytes.f
  refine EvP.bind (open_ok hb) ?_
  rintro ⟨s', p, sd⟩ ⟨rfl, c⟩
  refine EvP.bind (bad p sd c) ?_
  rintro ⟨a1, a2, a3, a4, a5, p1, s1⟩ h
  exact EvP.ret h
def EthP (a b t d : Int) (l : List Int) : Prop := (0 ≤ a ∧ a ≤ 281474976710655) ∧ (0 ≤ b ∧ b ≤ 281474976710655) ∧ (-1 ≤ t ∧ t ≤ 65535) ∧ (1536 ≤ d ∧ d ≤ 65535 ∧ d ≠ 33024) ∧ (if t ≥ 0 then 18 else 14) + (l.length : Int) ≤ 1600
theorem within_ev3 (a b c : Int) : EvP (fun _ => impl_within.f a b c) (fun r => r = true ↔ b ≤ a ∧ a ≤ c) := by
  unfold impl_within.f
  refine EvP.ite (fun h => EvP.ret ?_) (fun h => EvP.ret ⟨(fun h => by cases h), fun z => by omega⟩)
  rw [decide_eq_true_iff]; omega
theorem isKind_ok (d : Int) : EvP (fun _ => impl_isKind.f d) (fun r => r = true ↔ 1536 ≤ d ∧ d ≤ 65535 ∧ d ≠ 33024) := by
  unfold impl_isKind.f
  refine EvP.bind (within_ev3 d _ _) (fun t ht => ?_)
  refine EvP.ite (fun h => EvP.ret ?_) (fun h => EvP.ret ⟨(fun h => by cases h), fun z => absurd (ht.2 ⟨z.1, z.2.1⟩) h⟩)
  have := ht.1 h
  simp only [bne_iff_ne, ne_eq]
  omega
theorem headOf_ok (a b t d : Int) (l : List Int) : EvP (fun _ => impl_headOf.f a b t d l) (fun r => r = if t ≥ 0 then 18 else 14) := by
  unfold impl_headOf.f
  exact EvP.ite (fun h => EvP.ret (by rw [if_pos h])) (fun h => EvP.ret (by rw [if_neg h]))
theorem implEth_ok (a b t d : Int) {l : List Int} (hl : (l.length : Int) ≤ 2000) : EvP (fun _ => impl_EtherOk.f a b t d l) (fun r => r = true ↔ EthP a b t d l) := by
  unfold impl_EtherOk.f EthP
  refine EvP.bind (within_ev3 a _ _) (fun u hu => ?_)
  refine EvP.ite (fun h1 => ?_) (fun h1 => EvP.ret ⟨(fun h => by cases h), fun z => absurd (hu.2 z.1) h1⟩)
  refine EvP.bind (within_ev3 b _ _) (fun v hv => ?_)
  refine EvP.ite (fun h2 => ?_) (fun h1 => EvP.ret ⟨(fun h => by cases h), fun z => absurd (hv.2 z.2.1) h1⟩)
  refine EvP.bind (within_ev3 t _ _) (fun w hw => ?_)
  refine EvP.ite (fun h3 => ?_) (fun h1 => EvP.ret ⟨(fun h => by cases h), fun z => absurd (hw.2 z.2.2.1) h1⟩)
  refine EvP.bind (isKind_ok d) (fun x hx => ?_)
  refine EvP.ite (fun h4 => ?_) (fun h1 => EvP.ret ⟨(fun h => by cases h), fun z => absurd (hx.2 z.2.2.2.1) h1⟩)
  refine EvP.bind (headOf_ok a b t d l) ?_
  rintro _ rfl
  refine EvP.ret ?_
  have e : wrap64 ((if t ≥ 0 then 18 else 14) + (l.length : Int)) = (if t ≥ 0 then 18 else 14) + (l.length : Int) := w64 (by split <;> omega) (by split <;> omega)
  rw [e, decide_eq_true_iff]
  exact ⟨fun g => ⟨hu.1 h1, hv.1 h2, hw.1 h3, hx.1 h4, g⟩, fun g => g.2.2.2.2⟩
theorem specEth_ok (a b t d : Int) {l : List Int} : EvP (fun k => spec_EtherOk.f k a b t d l) (fun r => r = true ↔ EthP a b t d l) := by
  have bad : ¬ EthP a b t d l → EvP (fun k => spec_EtherOk.j0 k true a b t d l) (fun r => r = true ↔ EthP a b t d l) := fun z => by
    refine EvP.step ?_
    simp only [spec_EtherOk.j0]
    exact EvP.yes (by simp) (EvP.ret ⟨(fun h => by cases h), fun g => absurd g z⟩)
  unfold spec_EtherOk.f
  refine EvP.ite (fun h => bad (fun g => by have := g.1; omega)) (fun h1 => ?_)
  refine EvP.ite (fun h => bad (fun g => by have := g.1; omega)) (fun h2 => ?_)
  refine EvP.ite (fun h => bad (fun g => by have := g.2.1; omega)) (fun h3 => ?_)
  refine EvP.ite (fun h => bad (fun g => by have := g.2.1; omega)) (fun h4 => ?_)
  refine EvP.ite (fun h => bad (fun g => by have := g.2.2.1; omega)) (fun h5 => ?_)
  by_cases h6 : t > 65535
  · rw [decide_eq_true h6]
    exact bad (fun g => by have := g.2.2.1; omega)
  rw [decide_eq_false h6]
  refine EvP.step ?_
  simp only [spec_EtherOk.j0]
  refine EvP.no (by simp) ?_
  refine EvP.ite (fun h7 => ?_) (fun h7 => ?_)
  · refine EvP.ite (fun h8 => ?_) (fun h8 => EvP.ret ⟨(fun h => by cases h), fun g => by have := g.2.2.2.1; omega⟩)
    refine EvP.ite (fun h9 => ?_) (fun h9 => EvP.ret ⟨(fun h => by cases h), fun g => by have := g.2.2.2.1; omega⟩)
    refine EvP.ite (fun h10 => EvP.ret ⟨(fun h => by cases h), fun g => by have := g.2.2.2.1; omega⟩) (fun h10 => EvP.ret ?_)
    unfold EthP
    rw [decide_eq_true_iff, if_pos h7]
    omega
  · refine EvP.ite (fun h8 => ?_) (fun h8 => EvP.ret ⟨(fun h => by cases h), fun g => by have := g.2.2.2.1; omega⟩)
    refine EvP.ite (fun h9 => ?_) (fun h9 => EvP.ret ⟨(fun h => by cases h), fun g => by have := g.2.2.2.1; omega⟩)
    refine EvP.ite (fun h10 => EvP.ret ⟨(fun h => by cases h), fun g => by have := g.2.2.2.1; omega⟩) (fun h10 => EvP.ret ?_)
    unfold EthP
    rw [decide_eq_true_iff, if_neg h7]
    omega
theorem dropL2 {xs : List (List Int)} {i : Int} (h0 : 0 ≤ i) (h1 : i < (xs.length : Int)) : xs.drop i.toNat = rd_L2 xs i :: xs.drop (i + 1).toNat := by
  unfold rd_L2
  rw [List.getD_eq_getElem?_getD, List.getElem?_eq_getElem (by omega), List.drop_eq_getElem_cons (by omega), show (i + 1).toNat = i.toNat + 1 by omega]
  rfl
theorem concat_l1 {xs : List (List Int)} (hl : (xs.length : Int) ≤ 1000) : ∀ (d : Nat) (out : List Int) (i : Int), 0 ≤ i → i + d = (xs.length : Int) → ((out.length : Int) + ((xs.drop i.toNat).flatten.length : Int)) ≤ 1000000 →
    EvP (fun k => slices_Concat_byte_byte.l1 k out xs (xs.length : Int) i) (fun r => r = out ++ (xs.drop i.toNat).flatten)
  | 0, out, i, h0, hi, ht => by
    refine EvP.step ?_
    simp only [slices_Concat_byte_byte.l1]
    refine EvP.no (by omega) (EvP.ret ?_)
    rw [List.drop_of_length_le (by omega)]; simp
  | d + 1, out, i, h0, hi, ht => by
    have hd := dropL2 h0 (show i < (xs.length : Int) by omega)
    rw [hd, List.flatten_cons, List.length_append] at ht
    refine EvP.step ?_
    simp only [slices_Concat_byte_byte.l1]
    refine EvP.yes (by omega) (EvP.yes h0 (EvP.yes (by omega) (EvP.yes (by omega) ?_)))
    rw [w64 (by omega) (by omega)]
    refine (concat_l1 hl d (out ++ rd_L2 xs i) (i + 1) (by omega) (by omega) (by rw [List.length_append]; omega)).mono ?_
    rintro _ rfl
    rw [hd, List.flatten_cons, List.append_assoc]
theorem concat_l0 {xs : List (List Int)} (hl : (xs.length : Int) ≤ 1000) (hf : (xs.flatten.length : Int) ≤ 1000000) : ∀ (d : Nat) (z i : Int), 0 ≤ i → i + d = (xs.length : Int) → 0 ≤ z → (z + ((xs.drop i.toNat).flatten.length : Int)) ≤ 1000000 →
    EvP (fun k => slices_Concat_byte_byte.l0 k xs z xs (xs.length : Int) i) (fun r => r = xs.flatten)
  | 0, z, i, h0, hi, hz, ht => by
    refine EvP.step ?_
    simp only [slices_Concat_byte_byte.l0]
    refine EvP.no (by omega) ?_
    refine EvP.bind (P := fun r => r = []) ?_ ?_
    · unfold slices_Grow_nil_114.f
      exact EvP.no (by omega) (EvP.yes (by omega) (EvP.ret rfl))
    rintro _ rfl
    have h := concat_l1 hl xs.length [] 0 (by omega) (by omega) (by simpa using hf)
    simpa using h
  | d + 1, z, i, h0, hi, hz, ht => by
    have hd := dropL2 h0 (show i < (xs.length : Int) by omega)
    rw [hd, List.flatten_cons, List.length_append] at ht
    refine EvP.step ?_
    simp only [slices_Concat_byte_byte.l0]
    have e : wrap64 (z + ((rd_L2 xs i).length : Int)) = z + ((rd_L2 xs i).length : Int) := w64 (by omega) (by omega)
    rw [e, w64 (x := i + 1) (by omega) (by omega)]
    refine EvP.yes (by omega) (EvP.yes h0 (EvP.yes (by omega) (EvP.no (by omega) ?_)))
    exact concat_l0 hl hf d _ (i + 1) (by omega) (by omega) (by omega) (by omega)
theorem concat_ok {xs : List (List Int)} (hl : (xs.length : Int) ≤ 1000) (hf : (xs.flatten.length : Int) ≤ 1000000) : EvP (fun k => slices_Concat_byte_byte.f k xs) (fun r => r = xs.flatten) := by
  unfold slices_Concat_byte_byte.f
  exact concat_l0 hl hf xs.length 0 0 (by omega) (by omega) (by omega) (by simpa using hf)
theorem put6_ok (n : Int) : EvP (fun k => impl_put.f k n 6) (fun r => r = [n / 1099511627776 % 256, n / 4294967296 % 256, n / 16777216 % 256, n / 65536 % 256, n / 256 % 256, n % 256]) := by
  refine (put_ok n 6 (by omega)).mono ?_
  rintro r ⟨h1, h2⟩
  match r, h1, h2 with
  | [x, y, z, u, v, w], _, h2 =>
    have e0 := h2 0 (by omega)
    have e1 := h2 1 (by omega)
    have e2 := h2 2 (by omega)
    have e3 := h2 3 (by omega)
    have e4 := h2 4 (by omega)
    have e5 := h2 5 (by omega)
    simp at e0 e1 e2 e3 e4 e5
    rw [e0, e1, e2, e3, e4, e5]
theorem or_wide {x y : Int} (hx : 0 ≤ x ∧ x ≤ 1099511627775) (hy : 0 ≤ y ∧ y ≤ 255) : Go.bits .or .i64 (x * 256) y = x * 256 + y := by
  have hk : ∀ n : Int, 0 ≤ n → n < 2 ^ 48 → IntKind.i64.wrap n = n := fun n h0 h1 => by
    have h2 : n < 281474976710656 := by simpa using h1
    rw [IntKind.wrap_i64]; omega
  have e48 : (2 : Int) ^ 48 = 281474976710656 := by simp
  have e8 : (2 : Int) ^ 8 = 256 := by simp
  exact bits_join .i64 48 (by decide) hk 8 (x * 256) y (by omega) (by rw [e8]; omega) (by rw [e48]; omega) (by omega) (by rw [e8]; omega) (by rw [e48]; omega)
theorem be_l0 {l : List Int} (hb : Bs l) (hl : l.length ≤ 6) : ∀ (d : Nat) (a i : Int), 0 ≤ i → i + d = (l.length : Int) → 0 ≤ a → a < 256 ^ i.toNat →
    EvP (fun k => impl_beOf.l0 k a l (l.length : Int) i) (fun r => r = (l.drop i.toNat).foldl (fun x y => x * 256 + y) a) := by
  intro d
  induction d with
  | zero =>
    intro a i h0 hd a0 a1
    refine EvP.step ?_
    simp only [impl_beOf.l0]
    refine EvP.no (by omega) (EvP.ret ?_)
    rw [List.drop_of_length_le (by omega)]; rfl
  | succ d ih =>
    intro a i h0 hd a0 a1
    have hx := hb.rdb i
    have hp : (256 : Int) ^ (i + 1).toNat = 256 ^ i.toNat * 256 := by rw [show (i + 1).toNat = i.toNat + 1 by omega]; exact Int.pow_succ _ _
    have hq : (256 : Int) ^ i.toNat ≤ 1099511627776 := by
      have : i.toNat = 0 ∨ i.toNat = 1 ∨ i.toNat = 2 ∨ i.toNat = 3 ∨ i.toNat = 4 ∨ i.toNat = 5 := by omega
      rcases this with e | e | e | e | e | e <;> rw [e] <;> decide
    generalize (256 : Int) ^ i.toNat = q at a1 hp hq
    refine EvP.step ?_
    simp only [impl_beOf.l0]
    simp only [w64 (x := i + 1) (by omega) (by omega), w64 (x := rd l i) (by omega) (by omega), w64 (x := a * 256) (by omega) (by omega), or_wide (x := a) (y := rd l i) (by omega) (by omega)]
    refine EvP.yes (by omega) (EvP.yes (by omega) (EvP.yes (by omega) ?_))
    refine (ih _ _ (by omega) (by omega) (by omega) (by rw [hp]; omega)).mono ?_
    rintro r rfl
    have hdr : l.drop i.toNat = rd l i :: l.drop (i.toNat + 1) := by
      rw [rd_get l i h0 (by omega)]
      exact List.drop_eq_getElem_cons (by omega)
    rw [hdr, show (i + 1).toNat = i.toNat + 1 by omega]
    rfl
theorem be_ok {l : List Int} (hb : Bs l) (hl : l.length ≤ 6) : EvP (fun k => impl_beOf.f k l) (fun r => r = l.foldl (fun x y => x * 256 + y) 0) := by
  unfold impl_beOf.f
  exact be_l0 hb hl l.length 0 0 (by omega) (by omega) (by omega) (by simp)
theorem be6_ok {n : Int} (h0 : 0 ≤ n) (h1 : n ≤ 281474976710655) : EvP (fun k => impl_beOf.f k [n / 1099511627776 % 256, n / 4294967296 % 256, n / 16777216 % 256, n / 65536 % 256, n / 256 % 256, n % 256]) (fun r => r = n) := by
  refine (be_ok ?_ (by simp)).mono ?_
  · intro x hx
    simp only [List.mem_cons, List.not_mem_nil, or_false] at hx
    omega
  · rintro _ rfl
    simp only [List.foldl_cons, List.foldl_nil]
    omega
theorem be2_ok {n : Int} (h0 : 0 ≤ n) (h1 : n ≤ 65535) : EvP (fun k => impl_beOf.f k [n / 256 % 256, n % 256]) (fun r => r = n) := by
  refine (be_ok ?_ (by simp)).mono ?_
  · intro x hx
    simp only [List.mem_cons, List.not_mem_nil, or_false] at hx
    omega
  · rintro _ rfl
    simp only [List.foldl_cons, List.foldl_nil]
    omega
def ethBytes (a b t d : Int) (l : List Int) : List Int :=
  [a / 1099511627776 % 256, a / 4294967296 % 256, a / 16777216 % 256, a / 65536 % 256, a / 256 % 256, a % 256] ++ ([b / 1099511627776 % 256, b / 4294967296 % 256, b / 16777216 % 256, b / 65536 % 256, b / 256 % 256, b % 256] ++ ((if t ≥ 0 then [33024 / 256 % 256, 33024 % 256] ++ [t / 256 % 256, t % 256] else []) ++ ([d / 256 % 256, d % 256] ++ l)))
theorem etherBytes_ok {a b t d : Int} {l : List Int} (hl : (l.length : Int) ≤ 2000) : EvP (fun k => impl_EtherBytes.f k a b t d l) (fun r => (EthP a b t d l → r = ethBytes a b t d l) ∧ (¬ EthP a b t d l → r = [])) := by
  unfold impl_EtherBytes.f
  refine EvP.bind (implEth_ok a b t d hl) (fun u hu => ?_)
  refine EvP.ite (fun h => ?_) (fun h => EvP.ret ⟨fun g => absurd (hu.2 g) h, fun _ => rfl⟩)
  have hE := hu.1 h
  have rest : ∀ x3 : List Int, (x3.length : Int) ≤ 10 → x3 = (if t ≥ 0 then [33024 / 256 % 256, 33024 % 256] ++ [t / 256 % 256, t % 256] else []) → EvP (fun k => impl_EtherBytes.j0 k x3 a b t d l) (fun r => (EthP a b t d l → r = ethBytes a b t d l) ∧ (¬ EthP a b t d l → r = [])) := by
    intro x3 h3 e3
    refine EvP.step ?_
    simp only [impl_EtherBytes.j0]
    refine EvP.bind (put6_ok a) ?_
    rintro _ rfl
    refine EvP.bind (put6_ok b) ?_
    rintro _ rfl
    refine EvP.bind (put16_ok d) ?_
    rintro _ rfl
    refine EvP.bind (concat_ok (by simp) (by simp only [List.flatten_cons, List.flatten_nil, List.length_append, List.length_cons, List.length_nil]; omega)) ?_
    rintro _ rfl
    refine EvP.ret ⟨fun _ => ?_, fun g => absurd hE g⟩
    unfold ethBytes
    rw [← e3]
    simp only [List.flatten_cons, List.flatten_nil, List.append_nil]
  refine EvP.ite (fun h1 => ?_) (fun h1 => rest [] (by simp) (by rw [if_neg h1]))
  refine EvP.bind (put16_ok 33024) ?_
  rintro _ rfl
  refine EvP.bind (put16_ok t) ?_
  rintro _ rfl
  refine EvP.bind (concat_ok (by simp) (by simp)) ?_
  rintro _ rfl
  exact rest _ (by simp) (by rw [if_pos h1]; simp)
theorem readBack {a b t d : Int} {l : List Int} (hE : EthP a b t d l) : EvP (fun k => impl_EtherRead.f k (ethBytes a b t d l)) (fun r => r = (a, b, t, d, l, 0)) := by
  obtain ⟨ha, hb, ht, hd, hlen⟩ := hE
  have tail : ∀ (x0 : List Int) (h : Int), (if t ≥ 0 then 18 else 14) = h → h ≤ (x0.length : Int) → x0.drop h.toNat = l → EvP (fun k => impl_EtherRead.j0 k x0 a b t d) (fun r => r = (a, b, t, d, l, 0)) := by
    intro x0 h eh hh hx
    have h0 : 0 ≤ h := by split at eh <;> omega
    refine EvP.step ?_
    simp only [impl_EtherRead.j0]
    refine EvP.bind (isKind_ok d) (fun u hu => EvP.yes (hu.2 hd) ?_)
    refine EvP.bind (headOf_ok a b t d []) ?_
    rintro _ rfl
    rw [eh]
    refine EvP.yes h0 (EvP.yes hh ?_)
    refine EvP.bind (P := fun r => r = l) ?_ ?_
    · unfold slices_Clone_byte_byte.f
      refine EvP.bind (EvP.ret rfl) ?_
      rintro _ rfl
      have : (l.length : Int) ≤ 1600 := by split at hlen <;> omega
      rw [hx]
      refine EvP.yes (by simp only [List.length_nil]; omega) (EvP.ret ?_)
      rw [List.nil_append]
    rintro _ rfl
    exact EvP.ret rfl
  unfold impl_EtherRead.f
  by_cases h1 : t ≥ 0
  · rw [if_pos h1] at hlen
    have e : ethBytes a b t d l = a / 1099511627776 % 256 :: a / 4294967296 % 256 :: a / 16777216 % 256 :: a / 65536 % 256 :: a / 256 % 256 :: a % 256 :: b / 1099511627776 % 256 :: b / 4294967296 % 256 :: b / 16777216 % 256 :: b / 65536 % 256 :: b / 256 % 256 :: b % 256 :: 33024 / 256 % 256 :: 33024 % 256 :: t / 256 % 256 :: t % 256 :: d / 256 % 256 :: d % 256 :: l := by
      unfold ethBytes; rw [if_pos h1]; rfl
    rw [e]
    simp only [List.length_cons, List.take_succ_cons, List.take_zero, List.drop_succ_cons, List.drop_zero]
    refine EvP.no (by omega) (EvP.no (by omega) (EvP.yes (by omega) ?_))
    refine EvP.bind (be6_ok ha.1 ha.2) ?_
    rintro _ rfl
    refine EvP.yes (by omega) (EvP.yes (by omega) ?_)
    refine EvP.bind (be6_ok hb.1 hb.2) ?_
    rintro _ rfl
    refine EvP.yes (by omega) (EvP.yes (by omega) ?_)
    refine EvP.bind (be2_ok (n := 33024) (by omega) (by omega)) ?_
    rintro _ rfl
    refine EvP.yes rfl (EvP.no (by omega) (EvP.yes (by omega) (EvP.yes (by omega) ?_)))
    refine EvP.bind (be2_ok h1 ht.2) ?_
    rintro _ rfl
    refine EvP.yes (by omega) (EvP.yes (by omega) ?_)
    refine EvP.bind (be2_ok (n := d) (by omega) (by omega)) ?_
    rintro _ rfl
    exact tail _ 18 (if_pos h1) (by simp only [List.length_cons]; omega) rfl
  · rw [if_neg h1] at hlen
    have e : ethBytes a b t d l = a / 1099511627776 % 256 :: a / 4294967296 % 256 :: a / 16777216 % 256 :: a / 65536 % 256 :: a / 256 % 256 :: a % 256 :: b / 1099511627776 % 256 :: b / 4294967296 % 256 :: b / 16777216 % 256 :: b / 65536 % 256 :: b / 256 % 256 :: b % 256 :: d / 256 % 256 :: d % 256 :: l := by
      unfold ethBytes; rw [if_neg h1]; rfl
    have et : t = -1 := by omega
    rw [e]
    simp only [List.length_cons, List.take_succ_cons, List.take_zero, List.drop_succ_cons, List.drop_zero]
    refine EvP.no (by omega) (EvP.no (by omega) (EvP.yes (by omega) ?_))
    refine EvP.bind (be6_ok ha.1 ha.2) ?_
    rintro _ rfl
    refine EvP.yes (by omega) (EvP.yes (by omega) ?_)
    refine EvP.bind (be6_ok hb.1 hb.2) ?_
    rintro _ rfl
    refine EvP.yes (by omega) (EvP.yes (by omega) ?_)
    refine EvP.bind (be2_ok (n := d) (by omega) (by omega)) ?_
    rintro _ rfl
    refine EvP.no hd.2.2 ?_
    rw [← et]
    exact tail _ 14 (if_neg h1) (by simp only [List.length_cons]; omega) rfl
theorem FnEtherBack : laws_FnEtherBack.Pure := by
  intro s _ _ hw
  refine EvP.rounds ?_
  unfold laws_FnEtherBack.f
  refine EvP.bind (big_ok s) (fun u hu => ?_)
  refine EvP.ite (fun _ => EvP.ret rfl) (fun hn => ?_)
  have hl := hu (by simpa using hn)
  have hdraw := drawEther (Bs.of hw) hl
  obtain ⟨⟨a, b, t, d, l⟩, hr, hbs, hlen⟩ := hdraw
  dsimp only at hbs hlen
  have hd2 : EvP (fun k => spec_DrawEtherBytes.f k s) (fun r => r = (a, b, t, d, l)) := ⟨_, hr, rfl⟩
  refine EvP.bind hd2 ?_
  rintro _ rfl
  refine EvP.bind hd2 ?_
  rintro _ rfl
  dsimp only
  refine EvP.bind (etherBytes_ok (a := a) (b := b) (t := t) (d := d) (l := l) hlen) ?_
  rintro q ⟨hq, hq'⟩
  refine EvP.bind (specEth_ok a b t d) (fun v hv => ?_)
  refine EvP.ite (fun h => ?_) (fun h => ?_)
  · have hE := hv.1 h
    rw [hq hE]
    refine EvP.bind (readBack hE) ?_
    rintro _ rfl
    refine EvP.yes rfl ?_
    refine EvP.bind (P := fun r => r = true) ?_ ?_
    · unfold laws_sameEther.f
      exact EvP.yes rfl (EvP.yes rfl (EvP.yes rfl (EvP.yes rfl (EvP.ret (by simp)))))
    rintro _ rfl
    exact EvP.ret rfl
  · rw [hq' (fun g => h (hv.2 g))]
    exact EvP.ret (by simp)

end Go.Proofs.Ytpoiljfjddehcaa.Pure
