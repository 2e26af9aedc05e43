/- What was taken from a drawn slab and is given back leaves the slab as it was. No condition. -/
import Derived.Test.YtaglpjlapfocfaaPFnTakeGivex13
import Derived.Laws.BitsLemmas
namespace Go.Proofs.Ytaglpjlapfocfaa.Pure
open Go.RowKit Go.Proofs.Ytaglpjlapfocfaa.PFnTakeGive Go.Proofs.YtaglpjlapfocfaaW.PrintWords Go.Proofs.YtaglpjlapfocfaaW.PrintLast Go.Proofs.YtaglpjlapfocfaaW.PrintMore
set_option linter.unusedVariables false
set_option linter.unusedSimpArgs false

def EvP {α : Type} (g : Nat → Option α) (P : α → Prop) : Prop := ∃ r, Ev g r ∧ P r
theorem EvP.of {α : Type} {o : Option α} {P : α → Prop} (h : ∃ r, o = some r ∧ P r) : EvP (fun _ => o) P := by
  obtain ⟨r, rfl, hp⟩ := h
  exact ⟨r, Ev.now r, hp⟩
theorem EvP.ret {α : Type} {r : α} {P : α → Prop} (h : P r) : EvP (fun _ => some r) P := ⟨r, Ev.now r, h⟩
theorem EvP.bind {α β : Type} {g : Nat → Option α} {f : Nat → α → Option β} {P : α → Prop} {Q : β → Prop} (h : EvP g P) (k : ∀ r, P r → EvP (fun n => f n r) Q) : EvP (fun n => (g n).bind (f n)) Q := by
  obtain ⟨r, hr, hp⟩ := h
  obtain ⟨q, hq, hQ⟩ := k r hp
  exact ⟨q, Ev.bind hr hq, hQ⟩
theorem EvP.ite {α : Type} {c : Prop} [Decidable c] {a b : Nat → Option α} {Q : α → Prop} (h : c → EvP a Q) (h' : ¬ c → EvP b Q) : EvP (fun n => if c then a n else b n) Q := by
  by_cases hc : c
  · simp only [if_pos hc]; exact h hc
  · simp only [if_neg hc]; exact h' hc
theorem EvP.yes {α : Type} {c : Prop} [Decidable c] {a b : Nat → Option α} {Q : α → Prop} (hc : c) (h : EvP a Q) : EvP (fun n => if c then a n else b n) Q := by
  simp only [if_pos hc]; exact h
theorem EvP.no {α : Type} {c : Prop} [Decidable c] {a b : Nat → Option α} {Q : α → Prop} (hc : ¬ c) (h : EvP b Q) : EvP (fun n => if c then a n else b n) Q := by
  simp only [if_neg hc]; exact h
theorem EvP.step {α : Type} {g : Nat → Option α} {Q : α → Prop} (h : EvP (fun k => g (k + 1)) Q) : EvP g Q := by
  obtain ⟨r, hr, hq⟩ := h
  exact ⟨r, Ev.step (fun _ => rfl) hr, hq⟩
theorem EvP.mono {α : Type} {g : Nat → Option α} {P Q : α → Prop} (h : EvP g P) (hpq : ∀ r, P r → Q r) : EvP g Q := by
  obtain ⟨r, hr, hp⟩ := h
  exact ⟨r, hr, hpq r hp⟩
theorem EvP.rounds {α : Type} {g : Nat → Option α} {r : α} (h : EvP g (fun x => x = r)) : ∃ k, g k = some r := by
  obtain ⟨q, hq, rfl⟩ := h
  exact hq.rounds
theorem w64 {x : Int} (h0 : -9223372036854775808 ≤ x) (h1 : x ≤ 9223372036854775807) : wrap64 x = x := by unfold wrap64; omega
theorem w64_lo (x : Int) : -9223372036854775808 ≤ wrap64 x := by unfold wrap64; omega
theorem w64_hi (x : Int) : wrap64 x ≤ 9223372036854775807 := by unfold wrap64; omega
theorem tmod_pos {a b : Int} (h : 0 ≤ a) : Int.tmod a b = a % b := Int.tmod_eq_emod_of_nonneg h
theorem tdiv_pos {a b : Int} (h : 0 ≤ a) : Int.tdiv a b = a / b := Int.tdiv_eq_ediv_of_nonneg h
def Bs (s : List Int) : Prop := ∀ x ∈ s, 0 ≤ x ∧ x ≤ 255
theorem Bs.take {s : List Int} (h : Bs s) (n : Nat) : Bs (s.take n) := fun y hy => h y (List.mem_of_mem_take hy)
theorem Bs.drop {s : List Int} (h : Bs s) (n : Nat) : Bs (s.drop n) := fun y hy => h y (List.mem_of_mem_drop hy)
theorem Bs.set {s : List Int} (h : Bs s) (i : Nat) {x : Int} (h0 : 0 ≤ x) (h1 : x ≤ 255) : Bs (s.set i x) := fun y hy => by
  rcases List.mem_or_eq_of_mem_set hy with hy | rfl
  · exact h y hy
  · exact ⟨h0, h1⟩
theorem rd_get (s : List Int) (i : Int) (h0 : 0 ≤ i) (h1 : i < (s.length : Int)) : rd s i = s[i.toNat]'(by omega) := by
  unfold rd
  rw [List.getD_eq_getElem?_getD, List.getElem?_eq_getElem (by omega)]
  rfl
theorem Bs.rdb {s : List Int} (h : Bs s) (i : Int) : 0 ≤ rd s i ∧ rd s i ≤ 255 := by
  by_cases hi : i.toNat < s.length
  · unfold rd
    rw [List.getD_eq_getElem?_getD, List.getElem?_eq_getElem hi]
    exact h _ (List.getElem_mem hi)
  · unfold rd
    rw [List.getD_eq_getElem?_getD, List.getElem?_eq_none (by omega)]
    exact ⟨by decide, by decide⟩
theorem Bs.of {s : List Int} (h : ∀ x ∈ s, (Lit.int .u8 x).wf = true) : Bs s := fun x hx => by
  have := h x hx
  simp [Lit.wf, IntKind.min, IntKind.max, IntKind.bits, IntKind.signed] at this
  omega
structure Cu (s : List Int) (p sd B : Int) : Prop where
  bs : Bs s
  p0 : 0 ≤ p
  p1 : p ≤ B
  s0 : 0 ≤ sd
  s1 : sd ≤ 65520
theorem Cu.le {s : List Int} {p sd B B' : Int} (h : Cu s p sd B) (hB : B ≤ B') : Cu s p sd B' := ⟨h.bs, h.p0, by have := h.p1; omega, h.s0, h.s1⟩
theorem seed_ok {sd : Int} (h0 : 0 ≤ sd) (h1 : sd ≤ 65520) : Int.tmod (wrap64 ((wrap64 (sd * 1103)) + 12345)) 65521 = (sd * 1103 + 12345) % 65521 := by
  rw [w64 (x := sd * 1103) (by omega) (by omega), w64 (by omega) (by omega), tmod_pos (by omega)]
theorem rem_ok {x n : Int} (h0 : 0 ≤ x) (hn : 2 ≤ n) : 0 ≤ Int.tmod x n ∧ Int.tmod x n < n := by
  rw [tmod_pos h0]
  exact ⟨Int.emod_nonneg _ (by omega), Int.emod_lt_of_pos _ (by omega)⟩
theorem pick_ok {s : List Int} {p sd B n : Int} (h : Cu s p sd B) (hB : B ≤ 4611686018427387904) :
    ∃ r, spec_l01Cur_pick.f s p sd n = some r ∧ Cu s r.2.1 r.2.2 (B + 1) ∧ 0 ≤ r.1 ∧ (r.1 < n ∨ r.1 = 0) := by
  obtain ⟨hb, p0, p1, s0, s1⟩ := h
  unfold spec_l01Cur_pick.f
  rw [seed_ok s0 s1, w64 (x := p + 1) (by omega) (by omega)]
  have e0 : 0 ≤ (sd * 1103 + 12345) % 65521 ∧ (sd * 1103 + 12345) % 65521 ≤ 65520 := by omega
  generalize (sd * 1103 + 12345) % 65521 = q at e0
  by_cases hn : n < 2
  · rw [if_pos hn]
    exact ⟨_, rfl, ⟨hb, p0, by dsimp only; omega, s0, s1⟩, by dsimp only; omega, .inr rfl⟩
  rw [if_neg hn]
  by_cases hp : p < (s.length : Int)
  · rw [if_pos hp, if_pos p0, if_neg (by omega)]
    have hr := hb.rdb p
    have hm := rem_ok hr.1 (show (2 : Int) ≤ n by omega)
    rw [w64 (x := rd s p) (by omega) (by omega)]
    exact ⟨_, rfl, ⟨hb, by dsimp only; omega, by dsimp only; omega, s0, s1⟩, hm.1, .inl hm.2⟩
  rw [if_neg hp]
  by_cases hl : (s.length : Int) > 0
  · have hm : 0 ≤ Int.tmod p (s.length : Int) ∧ Int.tmod p (s.length : Int) < (s.length : Int) := by
      rw [tmod_pos p0]
      exact ⟨Int.emod_nonneg _ (by omega), Int.emod_lt_of_pos _ (by omega)⟩
    rw [if_pos hl, if_neg (by omega), if_pos hm.1, if_pos hm.2, if_neg (by omega)]
    have hr := hb.rdb (Int.tmod p (s.length : Int))
    have hv := rem_ok (x := wrap64 ((wrap64 (Int.tdiv q 7)) + (wrap64 (rd s (Int.tmod p (s.length : Int)))))) (n := n) (by
      rw [tdiv_pos e0.1, w64 (x := q / 7) (by omega) (by omega), w64 (x := rd s _) (by omega) (by omega), w64 (by omega) (by omega)]
      omega) (by omega)
    exact ⟨_, rfl, ⟨hb, by dsimp only; omega, by dsimp only; omega, e0.1, e0.2⟩, hv.1, .inl hv.2⟩
  · rw [if_neg hl, if_neg (by omega)]
    have hv := rem_ok (x := 0) (n := n) (by omega) (by omega)
    rw [tmod_pos (by omega)] at hv
    exact ⟨_, rfl, ⟨hb, by dsimp only; omega, by dsimp only; omega, e0.1, e0.2⟩, hv.1, .inl hv.2⟩
theorem pickE {s : List Int} {p sd B n : Int} (h : Cu s p sd B) (hB : B ≤ 4611686018427387904) :
    EvP (fun _ => spec_l01Cur_pick.f s p sd n) (fun r => Cu s r.2.1 r.2.2 (B + 1) ∧ 0 ≤ r.1 ∧ (r.1 < n ∨ r.1 = 0)) := EvP.of (pick_ok h hB)
theorem open_ok {s : List Int} (hb : Bs s) : EvP (fun _ => spec_l01Open.f s) (fun r => r.1 = s ∧ Cu s r.2.1 r.2.2 0) := by
  refine EvP.ret ⟨rfl, hb, ?_, ?_, ?_, ?_⟩ <;> dsimp only <;> omega
theorem big_ok (s : List Int) : EvP (fun _ => laws_big.f s) (fun b => b = false → (s.length : Int) ≤ 1048576) := by
  unfold laws_big.f
  refine EvP.ret (fun h => ?_)
  simp at h
  omega
theorem size_ok {s : List Int} {p sd B n : Int} (h : Cu s p sd B) (hB : B ≤ 4611686018427387904) (hl : (s.length : Int) ≤ 1048576) (h0 : 0 ≤ n) (hn : n ≤ 1000) :
    EvP (fun _ => spec_l01Cur_size.f s p sd n) (fun r => Cu s r.2.1 r.2.2 (B + 1) ∧ 0 ≤ r.1 ∧ r.1 ≤ n) := by
  unfold spec_l01Cur_size.f
  have e : 0 ≤ mn n (wrap64 (1 + (wrap64 ((s.length : Int) / 8)))) ∧ mn n (wrap64 (1 + (wrap64 ((s.length : Int) / 8)))) ≤ n := by
    rw [w64 (x := (s.length : Int) / 8) (by omega) (by omega), w64 (by omega) (by omega)]
    unfold mn; omega
  generalize mn n (wrap64 (1 + (wrap64 ((s.length : Int) / 8)))) = m at e
  rw [w64 (x := m + 1) (by omega) (by omega)]
  refine EvP.bind (pickE h hB) ?_
  rintro ⟨x, p', s'⟩ ⟨c, x0, x1⟩
  dsimp only at *
  exact EvP.ret ⟨c, x0, by dsimp only; omega⟩
theorem once_ok {s : List Int} {p sd B n : Int} (h : Cu s p sd B) (hB : B ≤ 4611686018427387904) :
    EvP (fun _ => spec_l01Cur_once.f s p sd n) (fun r => Cu s r.2.1 r.2.2 (B + 1)) := by
  unfold spec_l01Cur_once.f
  refine EvP.bind (pickE h hB) ?_
  rintro ⟨x, p', s'⟩ ⟨c, _, _⟩
  exact EvP.ret c
theorem w64r {x : Int} : -9223372036854775808 ≤ wrap64 x ∧ wrap64 x ≤ 9223372036854775807 := ⟨w64_lo x, w64_hi x⟩
theorem raw_ok {s : List Int} {p sd B : Int} (h : Cu s p sd B) (hB : B ≤ 1000000000000) :
    EvP (fun _ => spec_l01Cur_raw.f s p sd) (fun r => Cu s r.2.1 r.2.2 (B + 2) ∧ -9223372036854775808 ≤ r.1 ∧ r.1 ≤ 9223372036854775807) := by
  unfold spec_l01Cur_raw.f
  refine EvP.bind (pickE (n := 8) h (by omega)) ?_
  rintro ⟨a, p1, s1⟩ ⟨c1, a0, a1⟩
  dsimp only at *
  refine EvP.ite (fun _ => ?_) (fun _ => EvP.ite (fun _ => ?_) (fun _ => ?_))
  · refine EvP.bind (pickE (n := 256) c1 (by omega)) ?_
    rintro ⟨b, p2, s2⟩ ⟨c2, b0, b1⟩
    exact EvP.ret ⟨c2.le (by omega), w64r⟩
  · refine EvP.bind (EvP.ret (P := fun y => y.length = 8 ∧ ∀ i : Int, 0 ≤ i → i < 8 → -9223372036854775808 ≤ rd y i ∧ rd y i ≤ 9223372036854775807) ⟨rfl, fun i h0 h8 => ?_⟩) ?_
    · have : i = 0 ∨ i = 1 ∨ i = 2 ∨ i = 3 ∨ i = 4 ∨ i = 5 ∨ i = 6 ∨ i = 7 := by omega
      rcases this with e | e | e | e | e | e | e | e <;> rw [e] <;> decide
    · rintro y ⟨hy, hv⟩
      refine EvP.bind (pickE (n := 8) c1 (by omega)) ?_
      rintro ⟨b, p2, s2⟩ ⟨c2, b0, b1⟩
      dsimp only at *
      exact EvP.yes b0 (EvP.yes (by omega) (EvP.ret ⟨c2.le (by omega), hv b b0 (by omega)⟩))
  · refine EvP.bind (pickE (n := 14) c1 (by omega)) ?_
    rintro ⟨b, p2, s2⟩ ⟨c2, b0, b1⟩
    exact EvP.ret ⟨c2.le (by omega), w64r⟩
theorem rd_set (l : List Int) (i j : Int) (v : Int) (hi : 0 ≤ i) (hj : 0 ≤ j) (hl : i < (l.length : Int)) : rd (l.set i.toNat v) j = if j = i then v else rd l j := by
  unfold rd
  rw [List.getD_eq_getElem?_getD, List.getD_eq_getElem?_getD]
  by_cases h : j = i
  · subst h
    rw [if_pos rfl, List.getElem?_set_self (by omega)]; rfl
  · rw [if_neg h, List.getElem?_set_ne (by omega)]
theorem list_ext_rd {a b : List Int} (hl : a.length = b.length) (h : ∀ i : Int, 0 ≤ i → i < (a.length : Int) → rd a i = rd b i) : a = b := by
  apply List.ext_getElem hl
  intro i h1 h2
  have := h (i : Int) (by omega) (by omega)
  rw [rd_get a _ (by omega) (by omega), rd_get b _ (by omega) (by omega)] at this
  simpa using this
theorem nodup_erase {l : List Int} (h : l.Nodup) (a : Int) : (l.erase a).Nodup ∧ ∀ x ∈ l.erase a, x ≠ a := by
  induction l with
  | nil => exact ⟨by simp, by simp⟩
  | cons b t ih =>
    obtain ⟨h1, h2⟩ := List.nodup_cons.1 h
    by_cases e : b = a
    · subst e
      rw [List.erase_cons_head]
      exact ⟨h2, fun x hx he => h1 (he ▸ hx)⟩
    · rw [List.erase_cons_tail (by simpa using e)]
      obtain ⟨i1, i2⟩ := ih h2
      refine ⟨List.nodup_cons.2 ⟨fun hb => h1 (List.mem_of_mem_erase hb), i1⟩, fun x hx => ?_⟩
      rcases List.mem_cons.1 hx with rfl | hx
      · exact e
      · exact i2 x hx
theorem sub_len : ∀ (R L : List Int), R.Nodup → (∀ x ∈ R, x ∈ L) → R.length ≤ L.length
  | [], L, _, _ => by simp
  | a :: R, L, hn, hs => by
    obtain ⟨h1, h2⟩ := List.nodup_cons.1 hn
    have ha := hs a (by simp)
    have := sub_len R (L.erase a) h2 (fun x hx => (List.mem_erase_of_ne (show x ≠ a by rintro rfl; exact h1 hx)).2 (hs x (by simp [hx])))
    rw [List.length_erase_of_mem ha] at this
    have hp : 0 < L.length := List.length_pos_of_mem ha
    simp only [List.length_cons]
    omega
def ints : Nat → List Int
  | 0 => []
  | n + 1 => ints n ++ [(n : Int)]
theorem ints_mem : ∀ (n : Nat) (x : Int), x ∈ ints n ↔ 0 ≤ x ∧ x < (n : Int)
  | 0, x => by simp only [ints, List.not_mem_nil, false_iff]; omega
  | n + 1, x => by
    rw [ints, List.mem_append, ints_mem n x, List.mem_singleton]
    omega
theorem ints_nodup : ∀ n : Nat, (ints n).Nodup
  | 0 => by simp [ints]
  | n + 1 => by
    rw [ints]
    refine List.nodup_append.2 ⟨ints_nodup n, by simp, fun a ha b hb e => ?_⟩
    rw [List.mem_singleton.1 hb] at e
    have := (ints_mem n a).1 ha
    omega
theorem ints_length : ∀ n : Nat, (ints n).length = n
  | 0 => rfl
  | n + 1 => by rw [ints, List.length_append, ints_length n]; rfl
theorem pigeon : ∀ (n : Nat) (l : List Int), l.Nodup → (∀ x ∈ l, 0 ≤ x ∧ x < (n : Int)) → l.length ≤ n
  | 0, l, _, h => by
    cases l with
    | nil => simp
    | cons a t => have := h a (by simp); omega
  | n + 1, l, hn, h => by
    by_cases hm : (n : Int) ∈ l
    · obtain ⟨e1, e2⟩ := nodup_erase hn (n : Int)
      have := pigeon n (l.erase (n : Int)) e1 (fun x hx => by
        have h1 := h x (List.mem_of_mem_erase hx)
        have h2 := e2 x hx
        omega)
      rw [List.length_erase_of_mem hm] at this
      omega
    · have := pigeon n l hn (fun x hx => by
        have h1 := h x hx
        have h2 : x ≠ (n : Int) := fun e => hm (e ▸ hx)
        omega)
      omega
theorem pigeon_full {n : Nat} {l : List Int} (hn : l.Nodup) (h : ∀ x ∈ l, 0 ≤ x ∧ x < (n : Int)) (hl : l.length = n) {i : Int} (h0 : 0 ≤ i) (h1 : i < (n : Int)) : i ∈ l := by
  by_cases hm : i ∈ l
  · exact hm
  · exfalso
    have := pigeon n (i :: l) (List.nodup_cons.2 ⟨hm, hn⟩) (fun x hx => by
      rcases List.mem_cons.1 hx with rfl | hx
      · exact ⟨h0, h1⟩
      · exact h x hx)
    simp at this
    omega
def chainF : Nat → List Int → Int → List Int
  | 0, _, _ => []
  | k + 1, l, i => if 0 ≤ i then i :: chainF k l (rd l i) else []
def walkF : Nat → List Int → Int → Int
  | 0, _, i => i
  | k + 1, l, i => if 0 ≤ i then walkF k l (rd l i) else i
/-- All Nexts are -1 or a block. -/
def Nx (l : List Int) : Prop := ∀ i : Int, 0 ≤ i → i < (l.length : Int) → -1 ≤ rd l i ∧ rd l i < (l.length : Int)
/-- No block is the Next of two. -/
def Inj (l : List Int) : Prop := ∀ i j : Int, 0 ≤ i → i < (l.length : Int) → 0 ≤ j → j < (l.length : Int) → 0 ≤ rd l i → rd l i = rd l j → i = j
def Hd (l : List Int) (h : Int) : Prop := 0 ≤ h ∧ h < (l.length : Int) ∧ ∀ i : Int, 0 ≤ i → i < (l.length : Int) → rd l i ≠ h
theorem walk_neg : ∀ (k : Nat) (l : List Int) (i : Int), i < 0 → walkF k l i = i
  | 0, _, _, _ => rfl
  | k + 1, l, i, h => by rw [walkF, if_neg (by omega)]
theorem chain_neg : ∀ (k : Nat) (l : List Int) (i : Int), i < 0 → chainF k l i = []
  | 0, _, _, _ => rfl
  | k + 1, l, i, h => by rw [chainF, if_neg (by omega)]
theorem walk_add : ∀ (a b : Nat) (l : List Int) (i : Int), walkF (a + b) l i = walkF b l (walkF a l i)
  | 0, b, l, i => by rw [Nat.zero_add]; rfl
  | a + 1, b, l, i => by
    rw [show a + 1 + b = (a + b) + 1 by omega, walkF, walkF]
    by_cases h : 0 ≤ i
    · rw [if_pos h, if_pos h]; exact walk_add a b l _
    · rw [if_neg h, if_neg h, walk_neg b l i (by omega)]
theorem walk_succ (k : Nat) (l : List Int) (i : Int) (h : 0 ≤ walkF k l i) : walkF (k + 1) l i = rd l (walkF k l i) := by
  rw [walk_add k 1]
  show (if 0 ≤ walkF k l i then walkF 0 l (rd l (walkF k l i)) else walkF k l i) = _
  rw [if_pos h]; rfl
theorem chain_ends : ∀ (k : Nat) (l : List Int) (i : Int), walkF k l i < 0 → ∀ d, chainF (k + d) l i = chainF k l i
  | 0, l, i, h, d => by
    have h' : i < 0 := h
    rw [chain_neg _ _ _ h', chain_neg _ _ _ h']
  | k + 1, l, i, h, d => by
    rw [show k + 1 + d = (k + d) + 1 by omega, chainF, chainF]
    by_cases h0 : 0 ≤ i
    · rw [if_pos h0, if_pos h0]
      rw [walkF, if_pos h0] at h
      rw [chain_ends k l _ h d]
    · rw [if_neg h0, if_neg h0]
theorem chain_snoc : ∀ (k : Nat) (l : List Int) (i : Int), 0 ≤ walkF k l i → chainF (k + 1) l i = chainF k l i ++ [walkF k l i]
  | 0, l, i, h => by
    have h' : 0 ≤ i := h
    simp [chainF, walkF, h']
  | k + 1, l, i, h => by
    have h0 : 0 ≤ i := by
      by_cases h0 : 0 ≤ i
      · exact h0
      · rw [walkF, if_neg h0] at h; omega
    rw [walkF, if_pos h0] at h
    rw [chainF, if_pos h0, chain_snoc k l _ h, chainF, if_pos h0, walkF, if_pos h0]
    rfl
theorem chain_range {l : List Int} (hN : Nx l) : ∀ (k : Nat) (i : Int), i < (l.length : Int) → ∀ x ∈ chainF k l i, 0 ≤ x ∧ x < (l.length : Int)
  | 0, i, _, x, hx => by simp [chainF] at hx
  | k + 1, i, hi, x, hx => by
    rw [chainF] at hx
    split at hx
    · rename_i h0
      rcases List.mem_cons.1 hx with rfl | hx
      · exact ⟨h0, hi⟩
      · exact chain_range hN k _ (hN i h0 hi).2 x hx
    · simp at hx
theorem walk_lt {l : List Int} (hN : Nx l) : ∀ (k : Nat) (i : Int), i < (l.length : Int) → walkF k l i < (l.length : Int)
  | 0, i, h => h
  | k + 1, i, h => by
    rw [walkF]
    split
    · rename_i h0; exact walk_lt hN k _ (hN i h0 h).2
    · exact h
theorem chain_prev {l : List Int} : ∀ (k : Nat) (i z : Int), z ∈ chainF (k + 1) l i → z ≠ i → ∃ y ∈ chainF k l i, 0 ≤ y ∧ rd l y = z
  | 0, i, z, hz, hne => by
    rw [chainF] at hz
    split at hz
    · rcases List.mem_cons.1 hz with rfl | hz
      · exact absurd rfl hne
      · simp [chainF] at hz
    · simp at hz
  | k + 1, i, z, hz, hne => by
    rw [chainF] at hz
    split at hz
    · rename_i h0
      rcases List.mem_cons.1 hz with rfl | hz
      · exact absurd rfl hne
      · by_cases e : z = rd l i
        · exact ⟨i, by rw [chainF, if_pos h0]; simp, h0, e.symm⟩
        · obtain ⟨y, hy, h1, h2⟩ := chain_prev k (rd l i) z hz e
          exact ⟨y, by rw [chainF, if_pos h0]; exact List.mem_cons_of_mem _ hy, h1, h2⟩
    · simp at hz
theorem head_nodup {l : List Int} (hN : Nx l) (hI : Inj l) {h : Int} (hh : Hd l h) : ∀ k : Nat, (chainF k l h).Nodup
  | 0 => by simp [chainF]
  | k + 1 => by
    have ih := head_nodup hN hI hh k
    by_cases hw : 0 ≤ walkF k l h
    · rw [chain_snoc k l h hw]
      refine List.nodup_append.2 ⟨ih, by simp, fun a ha b hb e => ?_⟩
      rw [List.mem_singleton.1 hb] at e
      subst e
      cases k with
      | zero => simp [chainF] at ha
      | succ k =>
        have hw' : 0 ≤ walkF k l h := by
          by_cases h0 : 0 ≤ walkF k l h
          · exact h0
          · rw [walk_add k 1, walk_neg 1 l _ (by omega)] at hw; omega
        have hlt := walk_lt hN k h hh.2.1
        rw [walk_succ k l h hw'] at ha hw
        have hne : rd l (walkF k l h) ≠ h := hh.2.2 _ hw' hlt
        obtain ⟨y, hy, y0, y1⟩ := chain_prev k h _ ha hne
        have yr := chain_range hN k h hh.2.1 y hy
        have e := hI y (walkF k l h) y0 yr.2 hw' hlt (by rw [y1]; exact hw) y1
        subst e
        rw [chain_snoc k l h hw'] at ih
        exact (List.nodup_append.1 ih).2.2 _ hy _ (by simp) rfl
    · rw [chain_ends k l h (by omega) 1]; exact ih
theorem head_ends {l : List Int} (hN : Nx l) (hI : Inj l) {h : Int} (hh : Hd l h) : walkF l.length l h < 0 := by
  by_cases hw : 0 ≤ walkF l.length l h
  · exfalso
    have n1 := head_nodup hN hI hh (l.length + 1)
    have n2 := pigeon l.length _ n1 (chain_range hN _ h hh.2.1)
    have n3 : ∀ k, 0 ≤ walkF k l h → (chainF (k + 1) l h).length = k + 1 := by
      intro k
      induction k with
      | zero => intro hk; rw [chain_snoc 0 l h hk]; simp [chainF]
      | succ k ih =>
        intro hk
        have hk' : 0 ≤ walkF k l h := by
          by_cases h0 : 0 ≤ walkF k l h
          · exact h0
          · rw [walk_add k 1, walk_neg 1 l _ (by omega)] at hk; omega
        rw [chain_snoc (k + 1) l h hk, List.length_append, ih hk']
        simp
    rw [n3 _ hw] at n2
    omega
  · omega
def ch (l : List Int) (i : Int) : List Int := chainF l.length l i
def Ends (l : List Int) (i : Int) : Prop := walkF l.length l i < 0
theorem ends_step {l : List Int} {i : Int} (h0 : 0 ≤ i) (h : Ends l i) : walkF (l.length - 1) l (rd l i) < 0 ∧ 0 < l.length := by
  unfold Ends at h
  cases hn : l.length with
  | zero => rw [hn] at h; exact absurd h (by show ¬ i < 0; omega)
  | succ n => rw [hn, walkF, if_pos h0] at h; exact ⟨h, by omega⟩
theorem ends_next {l : List Int} {i : Int} (h0 : 0 ≤ i) (h : Ends l i) : Ends l (rd l i) := by
  obtain ⟨h1, h2⟩ := ends_step h0 h
  unfold Ends
  rw [show l.length = (l.length - 1) + 1 by omega, walk_add, walk_neg _ _ _ h1]
  exact h1
theorem ch_cons {l : List Int} {i : Int} (h0 : 0 ≤ i) (h : Ends l i) : ch l i = i :: ch l (rd l i) := by
  obtain ⟨h1, h2⟩ := ends_step h0 h
  unfold ch
  have e : chainF l.length l i = i :: chainF (l.length - 1) l (rd l i) := by
    conv => lhs; rw [show l.length = (l.length - 1) + 1 by omega]
    rw [chainF, if_pos h0]
  rw [e]
  congr 1
  have := chain_ends (l.length - 1) l (rd l i) h1 1
  rw [show l.length - 1 + 1 = l.length by omega] at this
  exact this.symm
theorem ch_nil {l : List Int} {i : Int} (h : i < 0) : ch l i = [] := chain_neg _ _ _ h
/-- Induction along a chain that ends. -/
theorem ends_ind {l : List Int} {C : Int → Prop} (hn : ∀ i, i < 0 → C i) (hs : ∀ i, 0 ≤ i → Ends l i → C (rd l i) → C i) : ∀ (m : Nat) (i : Int), (ch l i).length = m → Ends l i → C i
  | 0, i, hm, he => by
    by_cases h0 : 0 ≤ i
    · rw [ch_cons h0 he] at hm; simp at hm
    · exact hn i (by omega)
  | m + 1, i, hm, he => by
    by_cases h0 : 0 ≤ i
    · rw [ch_cons h0 he] at hm
      exact hs i h0 he (ends_ind hn hs m (rd l i) (by simpa using hm) (ends_next h0 he))
    · exact hn i (by omega)
theorem ch_mem_le {l : List Int} {i : Int} (he : Ends l i) : ∀ x ∈ ch l i, Ends l x ∧ (ch l x).length ≤ (ch l i).length := by
  refine ends_ind (l := l) (C := fun i => ∀ x ∈ ch l i, Ends l x ∧ (ch l x).length ≤ (ch l i).length) (fun i hi x hx => ?_) (fun i h0 h ih x hx => ?_) _ i rfl he
  · rw [ch_nil hi] at hx; cases hx
  · rw [ch_cons h0 h] at hx ⊢
    rcases List.mem_cons.1 hx with rfl | hx
    · exact ⟨h, by rw [ch_cons h0 h]; exact Nat.le_refl _⟩
    · obtain ⟨e1, e2⟩ := ih x hx
      exact ⟨e1, by simp only [List.length_cons]; omega⟩
theorem ch_nodup {l : List Int} {i : Int} (he : Ends l i) : (ch l i).Nodup := by
  refine ends_ind (l := l) (C := fun i => (ch l i).Nodup) (fun i hi => ?_) (fun i h0 h ih => ?_) _ i rfl he
  · rw [ch_nil hi]; simp
  · have hlen := ch_cons h0 h
    rw [hlen]
    refine List.nodup_cons.2 ⟨fun hm => ?_, ih⟩
    have h2 := (ch_mem_le (ends_next h0 h) i hm).2
    rw [hlen] at h2
    simp at h2
    omega
theorem ch_range {l : List Int} (hN : Nx l) {i : Int} (hi : i < (l.length : Int)) : ∀ x ∈ ch l i, 0 ≤ x ∧ x < (l.length : Int) := chain_range hN _ i hi
theorem ch_next {l : List Int} {i : Int} (he : Ends l i) : ∀ x ∈ ch l i, 0 ≤ rd l x → rd l x ∈ ch l i := by
  refine ends_ind (l := l) (C := fun i => ∀ x ∈ ch l i, 0 ≤ rd l x → rd l x ∈ ch l i) (fun i hi x hx => ?_) (fun i h0 h ih x hx hr => ?_) _ i rfl he
  · rw [ch_nil hi] at hx; cases hx
  · rw [ch_cons h0 h] at hx ⊢
    rcases List.mem_cons.1 hx with rfl | hx
    · exact List.mem_cons_of_mem _ (by rw [ch_cons hr (ends_next h0 h)]; simp)
    · exact List.mem_cons_of_mem _ (ih x hx hr)
theorem ch_prev {l : List Int} {i : Int} (he : Ends l i) : ∀ z ∈ ch l i, z ≠ i → ∃ y ∈ ch l i, 0 ≤ y ∧ rd l y = z := by
  refine ends_ind (l := l) (C := fun i => ∀ z ∈ ch l i, z ≠ i → ∃ y ∈ ch l i, 0 ≤ y ∧ rd l y = z) (fun i hi z hz _ => ?_) (fun i h0 h ih z hz hne => ?_) _ i rfl he
  · rw [ch_nil hi] at hz; cases hz
  · rw [ch_cons h0 h] at hz ⊢
    rcases List.mem_cons.1 hz with rfl | hz
    · exact absurd rfl hne
    · by_cases e : z = rd l i
      · exact ⟨i, by simp, h0, e.symm⟩
      · obtain ⟨y, hy, h1, h2⟩ := ih z hz e
        exact ⟨y, List.mem_cons_of_mem _ hy, h1, h2⟩
theorem ch_meet {l : List Int} (hN : Nx l) (hI : Inj l) {i j : Int} (hi : Ends l i) (hj : Ends l j) (hil : i < (l.length : Int)) (hjl : j < (l.length : Int)) : ∀ x, x ∈ ch l i → x ∈ ch l j → i ∈ ch l j ∨ j ∈ ch l i := by
  have base : ∀ i, i < (l.length : Int) → Ends l i → ∀ x, x ∈ ch l i → x ∈ ch l j → i ∈ ch l j ∨ j ∈ ch l i := by
    intro i hil hi
    refine ends_ind (l := l) (C := fun i => i < (l.length : Int) → ∀ x, x ∈ ch l i → x ∈ ch l j → i ∈ ch l j ∨ j ∈ ch l i) (fun i hi _ x hx => ?_) (fun i h0 h ih hil x hx hx' => ?_) _ i rfl hi hil
    · rw [ch_nil hi] at hx; cases hx
    · rw [ch_cons h0 h] at hx ⊢
      rcases List.mem_cons.1 hx with rfl | hx
      · exact .inl hx'
      · have hr := hN i h0 hil
        rcases ih hr.2 x hx hx' with h1 | h1
        · by_cases e : rd l i = j
          · by_cases hp : 0 ≤ rd l i
            · right
              refine List.mem_cons_of_mem _ ?_
              rw [ch_cons hp (ends_next h0 h), ← e]; simp
            · rw [ch_nil (by omega)] at hx; cases hx
          · obtain ⟨y, hy, y0, y1⟩ := ch_prev hj _ h1 e
            have yr := ch_range hN hjl y hy
            have p0 := ch_range hN hjl _ h1
            have := hI i y h0 hil y0 yr.2 p0.1 y1.symm
            exact .inl (this ▸ hy)
        · exact .inr (List.mem_cons_of_mem _ h1)
  exact base i hil hi
theorem heads_apart {l : List Int} (hN : Nx l) (hI : Inj l) {h h' x : Int} (hh : Hd l h) (hh' : Hd l h') (hx : x ∈ ch l h) (hx' : x ∈ ch l h') : h = h' := by
  have e1 := head_ends hN hI hh
  have e2 := head_ends hN hI hh'
  by_cases e : h = h'
  · exact e
  · exfalso
    rcases ch_meet hN hI e1 e2 hh.2.1 hh'.2.1 x hx hx' with hm | hm
    · obtain ⟨y, hy, y0, y1⟩ := ch_prev e2 h hm e
      exact hh.2.2 y y0 (ch_range hN hh'.2.1 y hy).2 y1
    · obtain ⟨y, hy, y0, y1⟩ := ch_prev e1 h' hm (fun z => e z.symm)
      exact hh'.2.2 y y0 (ch_range hN hh.2.1 y hy).2 y1
/-- The chains of the heads below n, one behind the other; sel: which are heads. -/
def chains (l : List Int) (sel : Int → Bool) : Nat → List Int
  | 0 => []
  | n + 1 => chains l sel n ++ if sel (n : Int) = true then ch l (n : Int) else []
theorem chains_mem {l : List Int} {sel : Int → Bool} : ∀ {n : Nat} {x : Int}, x ∈ chains l sel n ↔ ∃ h : Nat, h < n ∧ sel (h : Int) = true ∧ x ∈ ch l (h : Int)
  | 0, x => by simp [chains]
  | n + 1, x => by
    rw [chains, List.mem_append, chains_mem]
    constructor
    · rintro (⟨h, h1, h2, h3⟩ | hx)
      · exact ⟨h, by omega, h2, h3⟩
      · split at hx
        · rename_i hs; exact ⟨n, by omega, hs, hx⟩
        · cases hx
    · rintro ⟨h, h1, h2, h3⟩
      by_cases e : h = n
      · subst e; right; rw [if_pos h2]; exact h3
      · exact .inl ⟨h, by omega, h2, h3⟩
theorem chains_nodup {l : List Int} (hN : Nx l) (hI : Inj l) {sel : Int → Bool} (hs : ∀ h : Int, 0 ≤ h → h < (l.length : Int) → sel h = true → Hd l h) : ∀ n : Nat, n ≤ l.length → (chains l sel n).Nodup
  | 0, _ => by simp [chains]
  | n + 1, hn => by
    rw [chains]
    refine List.nodup_append.2 ⟨chains_nodup hN hI hs n (by omega), ?_, fun a ha b hb e => ?_⟩
    · split
      · rename_i h; exact ch_nodup (head_ends hN hI (hs _ (by omega) (by omega) h))
      · simp
    · subst e
      obtain ⟨h, h1, h2, h3⟩ := chains_mem.1 ha
      split at hb
      · rename_i hsn
        have := heads_apart hN hI (hs (h : Int) (by omega) (by omega) h2) (hs (n : Int) (by omega) (by omega) hsn) h3 hb
        omega
      · cases hb
theorem all_end_iff {l : List Int} (hN : Nx l) (hI : Inj l) {sel : Int → Bool} (hs : ∀ h : Int, 0 ≤ h → h < (l.length : Int) → (sel h = true ↔ Hd l h)) :
    (chains l sel l.length).length = l.length ↔ ∀ i : Int, 0 ≤ i → i < (l.length : Int) → Ends l i := by
  have nd := chains_nodup hN hI (fun h h0 h1 h2 => (hs h h0 h1).1 h2) l.length (Nat.le_refl _)
  have rg : ∀ x ∈ chains l sel l.length, 0 ≤ x ∧ x < (l.length : Int) := fun x hx => by
    obtain ⟨h, h1, h2, h3⟩ := chains_mem.1 hx
    exact ch_range hN (by omega) x h3
  constructor
  · intro hl i h0 h1
    obtain ⟨h, h2, h3, h4⟩ := chains_mem.1 (pigeon_full nd rg hl h0 h1)
    exact (ch_mem_le (head_ends hN hI ((hs _ (by omega) (by omega)).1 h3)) i h4).1
  · intro ha
    have key : ∀ (d : Nat) (i : Int), 0 ≤ i → i < (l.length : Int) → l.length - (ch l i).length = d → i ∈ chains l sel l.length := by
      intro d
      induction d using Nat.strongRecOn with
      | _ d ih =>
        intro i h0 h1 hd
        by_cases hh : Hd l i
        · refine chains_mem.2 ⟨i.toNat, by omega, ?_, ?_⟩
          · rw [show (i.toNat : Int) = i by omega]; exact (hs i h0 h1).2 hh
          · rw [show (i.toNat : Int) = i by omega, ch_cons h0 (ha i h0 h1)]; simp
        · have : ∃ j : Int, 0 ≤ j ∧ j < (l.length : Int) ∧ rd l j = i := by
            refine Classical.byContradiction fun hc => hh ⟨h0, h1, fun j j0 j1 e => hc ⟨j, j0, j1, e⟩⟩
          obtain ⟨j, j0, j1, e⟩ := this
          have hj := ch_cons j0 (ha j j0 j1)
          rw [e] at hj
          have hle := pigeon l.length _ (ch_nodup (ha j j0 j1)) (ch_range hN j1)
          rw [hj] at hle
          simp only [List.length_cons] at hle
          have hm := ih (l.length - (ch l j).length) (by rw [hj]; simp only [List.length_cons]; omega) j j0 j1 rfl
          obtain ⟨h, h2, h3, h4⟩ := chains_mem.1 hm
          refine chains_mem.2 ⟨h, h2, h3, ?_⟩
          have := ch_next (ha h (by omega) (by omega)) j h4 (by rw [e]; exact h0)
          rwa [e] at this
    have hle := pigeon l.length _ nd rg
    have hge : l.length ≤ (chains l sel l.length).length := by
      have h1 := sub_len (ints l.length) (chains l sel l.length) (ints_nodup _) (fun x hx => by
        have := (ints_mem l.length x).1 hx
        exact key _ x this.1 this.2 rfl)
      rwa [ints_length] at h1
    omega
theorem chainImpl_l0 {l : List Int} {f : Int} (hN : Nx l) (hl : (l.length : Int) ≤ 1000000) : ∀ (m : Nat) (i : Int) (out : List Int), i < (l.length : Int) → (ch l i).length = m → Ends l i → out.length + m ≤ 10000000 →
    EvP (fun k => impl_Slab_chain.l0 k out i f l) (fun r => r = out ++ ch l i) := by
  intro m
  induction m with
  | zero =>
    intro i out hi hm he _
    by_cases h0 : 0 ≤ i
    · rw [ch_cons h0 he] at hm; simp at hm
    · refine EvP.step ?_
      simp only [impl_Slab_chain.l0]
      refine EvP.no (by omega) (EvP.ret ?_)
      rw [ch_nil (by omega), List.append_nil]
  | succ m ih =>
    intro i out hi hm he ho
    by_cases h0 : 0 ≤ i
    · have hc := ch_cons h0 he
      rw [hc] at hm ⊢
      refine EvP.step ?_
      simp only [impl_Slab_chain.l0]
      refine EvP.yes (by omega) (EvP.yes (by omega) (EvP.yes h0 (EvP.yes hi ?_)))
      refine (ih (rd l i) (out ++ [i]) (hN i h0 hi).2 (by simpa using hm) (ends_next h0 he) (by rw [List.length_append]; simp only [List.length_cons, List.length_nil]; omega)).mono ?_
      rintro r rfl
      rw [List.append_assoc]; rfl
    · rw [ch_nil (by omega)] at hm; simp at hm
theorem ch_len_le {l : List Int} (hN : Nx l) {i : Int} (hi : i < (l.length : Int)) (he : Ends l i) : (ch l i).length ≤ l.length := pigeon _ _ (ch_nodup he) (ch_range hN hi)
theorem chainImpl {l : List Int} {f : Int} (hN : Nx l) (hl : (l.length : Int) ≤ 1000000) {i : Int} (hi : i < (l.length : Int)) (he : Ends l i) : EvP (fun k => impl_Slab_chain.f k f l i) (fun r => r = ch l i) := by
  have hle := ch_len_le hN hi he
  have := chainImpl_l0 (f := f) hN hl _ i [] hi rfl he (by simp; omega)
  simpa [impl_Slab_chain.f] using this
theorem index_l0 {l : List Int} {v : Int} (hl : (l.length : Int) ≤ 1000000) : ∀ (d : Nat) (i : Int), 0 ≤ i → i + d = (l.length : Int) → (∀ j : Int, 0 ≤ j → j < i → rd l j ≠ v) →
    EvP (fun k => slices_Index_int_int.l0 k l v (l.length : Int) i) (fun r => (r = -1 ∧ ∀ j : Int, 0 ≤ j → j < (l.length : Int) → rd l j ≠ v) ∨ (0 ≤ r ∧ r < (l.length : Int) ∧ rd l r = v)) := by
  intro d
  induction d with
  | zero =>
    intro i h0 hd hj
    refine EvP.step ?_
    simp only [slices_Index_int_int.l0]
    exact EvP.no (by omega) (EvP.ret (.inl ⟨rfl, fun j j0 j1 => hj j j0 (by omega)⟩))
  | succ d ih =>
    intro i h0 hd hj
    refine EvP.step ?_
    simp only [slices_Index_int_int.l0]
    refine EvP.yes (by omega) (EvP.yes h0 (EvP.yes (by omega) (EvP.ite (fun e => EvP.ret (.inr ⟨h0, by omega, e.symm⟩)) (fun e => ?_))))
    simp only [w64 (x := i + 1) (by omega) (by omega)]
    refine ih (i + 1) (by omega) (by omega) (fun j j0 j1 => ?_)
    by_cases hji : j = i
    · rw [hji]; exact fun z => e z.symm
    · exact hj j j0 (by omega)
theorem contains_ok {l : List Int} {v : Int} (hl : (l.length : Int) ≤ 1000000) : EvP (fun k => slices_Contains_int_int.f k l v) (fun r => r = true ↔ ∃ j : Int, 0 ≤ j ∧ j < (l.length : Int) ∧ rd l j = v) := by
  unfold slices_Contains_int_int.f slices_Index_int_int.f
  refine EvP.bind (index_l0 hl l.length 0 (by omega) (by omega) (fun j h1 h2 => by omega)) ?_
  rintro r (⟨rfl, h⟩ | ⟨h0, h1, h2⟩)
  · refine EvP.ret ?_
    simp
    exact fun j j0 j1 => h j j0 j1
  · refine EvP.ret ?_
    simp only [ge_iff_le, decide_eq_true_eq]
    exact ⟨fun _ => ⟨r, h0, h1, h2⟩, fun _ => h0⟩
theorem isHead_ok {l : List Int} {f v : Int} (hl : (l.length : Int) ≤ 1000000) (hv : -9223372036854775808 ≤ v ∧ v ≤ 9223372036854775807) : EvP (fun k => impl_Slab_isHead.f k f l v) (fun r => r = true ↔ Hd l v) := by
  unfold impl_Slab_isHead.f impl_within.f
  simp only [w64 (x := (l.length : Int) - 1) (by omega) (by omega)]
  by_cases hr : 0 ≤ v ∧ v < (l.length : Int)
  · rw [if_pos (by omega), decide_eq_true (by omega)]
    simp only [Option.bind_some]
    refine EvP.yes (by simp) (EvP.bind (contains_ok hl) ?_)
    intro b hb
    refine EvP.ret ?_
    constructor
    · intro hn
      refine ⟨hr.1, hr.2, fun i h0 h1 e => ?_⟩
      have := hb.2 ⟨i, h0, h1, e⟩
      simp [this] at hn
    · rintro ⟨_, _, h⟩
      cases b with
      | false => rfl
      | true =>
        obtain ⟨j, j0, j1, e⟩ := hb.1 rfl
        exact absurd e (h j j0 j1)
  · have e : (if v ≥ 0 then some (decide (v ≤ (l.length : Int) - 1)) else some false) = some false := by
      split
      · rw [decide_eq_false (by omega)]
      · rfl
    rw [e]
    simp only [Option.bind_some]
    refine EvP.no (by simp) (EvP.ret ?_)
    constructor
    · intro h; cases h
    · rintro ⟨h0, h1, _⟩; exact absurd ⟨h0, h1⟩ hr
/-- What both sides tell of a slab. -/
structure SlabP (f : Int) (l : List Int) : Prop where
  len : l.length ≤ 128
  nx : Nx l
  inj : Inj l
  ends : ∀ i : Int, 0 ≤ i → i < (l.length : Int) → Ends l i
  free : f = -1 ∨ Hd l f
theorem rdOf_bool (b : List Bool) (i : Int) (h0 : 0 ≤ i) (h1 : i < (b.length : Int)) : rdOf false b i = b[i.toNat]'(by omega) := by
  unfold rdOf
  rw [List.getD_eq_getElem?_getD, List.getElem?_eq_getElem (by omega)]
  rfl
theorem rdOf_set (b : List Bool) (i j : Int) (v : Bool) (hi : 0 ≤ i) (hj : 0 ≤ j) (hl : i < (b.length : Int)) : rdOf false (b.set i.toNat v) j = if j = i then v else rdOf false b j := by
  unfold rdOf
  rw [List.getD_eq_getElem?_getD, List.getD_eq_getElem?_getD]
  by_cases h : j = i
  · subst h
    rw [if_pos rfl, List.getElem?_set_self (by omega)]; rfl
  · rw [if_neg h, List.getElem?_set_ne (by omega)]
theorem slabOk_l1 {f : Int} {l : List Int} {led : List Bool} (hN : Nx l) (hI : Inj l) (hl : l.length ≤ 128) (hf : -9223372036854775808 ≤ f ∧ f ≤ 9223372036854775807) (hb : led.length = l.length) (hled : ∀ i : Int, 0 ≤ i → i < (l.length : Int) → (rdOf false led i = false ↔ Hd l i)) :
    ∀ (d : Nat) (i : Int), 0 ≤ i → i + d = (l.length : Int) →
    EvP (fun k => impl_SlabOk.l1 k (l.length : Int) led ((chains l (fun h => !rdOf false led h) i.toNat).length : Int) (l.length : Int) i f l)
      (fun r => r = true ↔ ((chains l (fun h => !rdOf false led h) l.length).length = l.length ∧ (f = -1 ∨ Hd l f))) := by
  have hle : ∀ n : Nat, n ≤ l.length → (chains l (fun h => !rdOf false led h) n).length ≤ l.length := fun n hn =>
    pigeon _ _ (chains_nodup hN hI (fun h h0 h1 h2 => (hled h h0 h1).1 (by simpa using h2)) n hn) (fun x hx => by
      obtain ⟨h, h1, h2, h3⟩ := chains_mem.1 hx
      exact ch_range hN (by omega) x h3)
  intro d
  induction d with
  | zero =>
    intro i h0 hd
    refine EvP.step ?_
    simp only [impl_SlabOk.l1]
    refine EvP.no (by omega) ?_
    rw [show i.toNat = l.length by omega]
    refine EvP.ite (fun hr => ?_) (fun hr => EvP.ret ⟨(fun h => by cases h), fun h => absurd h.1 (by omega)⟩)
    refine EvP.ite (fun e => EvP.ret ⟨fun _ => ⟨by omega, .inl e⟩, fun _ => rfl⟩) (fun e => ?_)
    refine EvP.bind (isHead_ok (by omega) hf) ?_
    intro b hb'
    refine EvP.ret ?_
    constructor
    · intro h; exact ⟨by omega, .inr (hb'.1 h)⟩
    · rintro ⟨_, h | h⟩
      · exact absurd h e
      · exact hb'.2 h
  | succ d ih =>
    intro i h0 hd
    refine EvP.step ?_
    simp only [impl_SlabOk.l1]
    simp only [w64 (x := i + 1) (by omega) (by omega)]
    have hc : chains l (fun h => !rdOf false led h) (i + 1).toNat = chains l (fun h => !rdOf false led h) i.toNat ++ if (!rdOf false led i) = true then ch l i else [] := by
      rw [show (i + 1).toNat = i.toNat + 1 by omega, chains, show ((i.toNat : Nat) : Int) = i by omega]
    have h2 := hle (i + 1).toNat (by omega)
    refine EvP.yes (by omega) (EvP.yes h0 (EvP.yes (by omega) (EvP.ite (fun e => ?_) (fun e => ?_))))
    · have := ih (i + 1) (by omega) (by omega)
      rw [hc, e] at this
      simpa using this
    · have e' : rdOf false led i = false := by simpa using e
      have hh := (hled i h0 (by omega)).1 e'
      have he := head_ends hN hI hh
      refine EvP.bind (chainImpl hN (by omega) hh.2.1 he) ?_
      rintro _ rfl
      have := ih (i + 1) (by omega) (by omega)
      rw [hc, e'] at this h2
      rw [w64 (by omega) (by simp at h2; omega)]
      simpa using this
theorem slabOk_l0 {f : Int} {l : List Int} (hl : l.length ≤ 128) (hf : -9223372036854775808 ≤ f ∧ f ≤ 9223372036854775807) (hw : ∀ x ∈ l, -9223372036854775808 ≤ x ∧ x ≤ 9223372036854775807) :
    ∀ (d : Nat) (i : Int) (led : List Bool), 0 ≤ i → i + d = (l.length : Int) → led.length = l.length →
      (∀ j : Int, 0 ≤ j → j < i → -1 ≤ rd l j ∧ rd l j < (l.length : Int)) →
      (∀ a b : Int, 0 ≤ a → a < i → 0 ≤ b → b < i → 0 ≤ rd l a → rd l a = rd l b → a = b) →
      (∀ v : Int, 0 ≤ v → v < (l.length : Int) → (rdOf false led v = true ↔ ∃ j : Int, 0 ≤ j ∧ j < i ∧ rd l j = v)) →
    EvP (fun k => impl_SlabOk.l0 k (l.length : Int) led l (l.length : Int) i f l) (fun r => r = true ↔ SlabP f l) := by
  intro d
  induction d with
  | zero =>
    intro i led h0 hd hb hN hI hled
    have e : i = (l.length : Int) := by omega
    subst e
    refine EvP.step ?_
    simp only [impl_SlabOk.l0]
    refine EvP.no (by omega) ?_
    have hN' : Nx l := hN
    have hI' : Inj l := fun a b a0 a1 b0 b1 r e => hI a b a0 a1 b0 b1 r e
    have hh : ∀ v : Int, 0 ≤ v → v < (l.length : Int) → (rdOf false led v = false ↔ Hd l v) := fun v v0 v1 => by
      constructor
      · intro h
        refine ⟨v0, v1, fun j j0 j1 e => ?_⟩
        rw [(hled v v0 v1).2 ⟨j, j0, j1, e⟩] at h
        cases h
      · rintro ⟨_, _, h⟩
        cases hr : rdOf false led v with
        | false => rfl
        | true =>
          obtain ⟨j, j0, j1, e⟩ := (hled v v0 v1).1 hr
          exact absurd e (h j j0 j1)
    have := slabOk_l1 hN' hI' hl hf hb hh l.length 0 (by omega) (by omega)
    refine (EvP.mono (P := fun r => r = true ↔ ((chains l (fun h => !rdOf false led h) l.length).length = l.length ∧ (f = -1 ∨ Hd l f))) (by simpa [chains] using this) ?_)
    intro r hr
    rw [hr, all_end_iff hN' hI' (fun h h0 h1 => by rw [← hh h h0 h1]; simp)]
    exact ⟨fun ⟨a, b⟩ => ⟨hl, hN', hI', a, b⟩, fun s => ⟨s.ends, s.free⟩⟩
  | succ d ih =>
    intro i led h0 hd hb hN hI hled
    have hm : rd l i ∈ l := by rw [rd_get l i h0 (by omega)]; exact List.getElem_mem _
    have hr := hw _ hm
    refine EvP.step ?_
    simp only [impl_SlabOk.l0]
    refine EvP.yes (by omega) (EvP.yes h0 (EvP.yes (by omega) ?_))
    have bad : ¬ SlabP f l → EvP (fun k => impl_SlabOk.j1 k (l.length : Int) led (rd l i) l (l.length : Int) i true f l) (fun r => r = true ↔ SlabP f l) := fun h => by
      refine EvP.step ?_
      simp only [impl_SlabOk.j1]
      exact EvP.yes (by simp) (EvP.ret ⟨(fun h => by cases h), fun z => absurd z h⟩)
    have good : ∀ led' : List Bool, led'.length = l.length → (-1 ≤ rd l i ∧ rd l i < (l.length : Int)) → (∀ b : Int, 0 ≤ b → b < i → 0 ≤ rd l b → rd l b ≠ rd l i) →
        (∀ v : Int, 0 ≤ v → v < (l.length : Int) → (rdOf false led' v = true ↔ ∃ j : Int, 0 ≤ j ∧ j < i + 1 ∧ rd l j = v)) →
        EvP (fun k => impl_SlabOk.l0 k (l.length : Int) led' l (l.length : Int) (wrap64 (i + 1)) f l) (fun r => r = true ↔ SlabP f l) := fun led' hb' hn hne hl' => by
      rw [w64 (x := i + 1) (by omega) (by omega)]
      refine ih (i + 1) led' (by omega) (by omega) hb' (fun j j0 j1 => ?_) (fun a b a0 a1 b0 b1 r0 e => ?_) hl'
      · by_cases e : j = i
        · rw [e]; exact hn
        · exact hN j j0 (by omega)
      · by_cases ea : a = i
        · by_cases eb : b = i
          · omega
          · subst ea; exact absurd e.symm (hne b b0 (by omega) (by rw [← e]; exact r0))
        · by_cases eb : b = i
          · subst eb; exact absurd e (hne a a0 (by omega) r0)
          · exact hI a b a0 (by omega) b0 (by omega) r0 e
    unfold impl_within.f
    simp only [w64 (x := (l.length : Int) - 1) (by omega) (by omega)]
    by_cases hn : -1 ≤ rd l i ∧ rd l i < (l.length : Int)
    · rw [if_pos (by omega), decide_eq_true (by omega)]
      simp only [Option.bind_some]
      refine EvP.yes (by simp) (EvP.ite (fun hp => ?_) (fun hp => ?_))
      · refine EvP.yes (by omega) (EvP.yes (by omega) ?_)
        cases hc : rdOf false led (rd l i) with
        | true =>
          obtain ⟨j, j0, j1, e⟩ := (hled _ (by omega) hn.2).1 hc
          exact bad (fun s => by have := s.inj j i j0 (by omega) h0 (by omega) (by omega) e; omega)
        | false =>
          refine EvP.step ?_
          simp only [impl_SlabOk.j1]
          refine EvP.no (by simp) (EvP.yes hp (EvP.yes (by omega) (EvP.yes (by omega) ?_)))
          refine good _ (by rw [List.length_set]; exact hb) hn (fun b b0 b1 b2 e => ?_) (fun v v0 v1 => ?_)
          · rw [(hled _ (by omega) hn.2).2 ⟨b, b0, b1, e⟩] at hc; cases hc
          · rw [rdOf_set led _ v true (by omega) v0 (by omega)]
            by_cases ev : v = rd l i
            · rw [if_pos ev]
              exact ⟨fun _ => ⟨i, h0, by omega, ev.symm⟩, fun _ => rfl⟩
            · rw [if_neg ev, hled v v0 v1]
              constructor
              · rintro ⟨j, j0, j1, e⟩; exact ⟨j, j0, by omega, e⟩
              · rintro ⟨j, j0, j1, e⟩
                refine ⟨j, j0, ?_, e⟩
                by_cases ej : j = i
                · subst ej; exact absurd e.symm ev
                · omega
      · refine EvP.step ?_
        simp only [impl_SlabOk.j1]
        refine EvP.no (by simp) (EvP.no hp ?_)
        refine good led hb hn (fun b b0 b1 b2 e => by omega) (fun v v0 v1 => ?_)
        rw [hled v v0 v1]
        constructor
        · rintro ⟨j, j0, j1, e⟩; exact ⟨j, j0, by omega, e⟩
        · rintro ⟨j, j0, j1, e⟩
          refine ⟨j, j0, ?_, e⟩
          by_cases ej : j = i
          · subst ej; omega
          · omega
    · have e : (if rd l i ≥ -1 then some (decide (rd l i ≤ (l.length : Int) - 1)) else some false) = some false := by
        split
        · rw [decide_eq_false (by omega)]
        · rfl
      rw [e]
      simp only [Option.bind_some]
      exact EvP.no (by simp) (bad (fun s => hn (s.nx i h0 (by omega))))
theorem slabOkImpl {f : Int} {l : List Int} (hf : -9223372036854775808 ≤ f ∧ f ≤ 9223372036854775807) (hw : ∀ x ∈ l, -9223372036854775808 ≤ x ∧ x ≤ 9223372036854775807) : EvP (fun k => impl_SlabOk.f k f l) (fun r => r = true ↔ SlabP f l) := by
  unfold impl_SlabOk.f
  refine EvP.ite (fun h => EvP.ret ⟨(fun z => by cases z), fun s => by have := s.len; omega⟩) (fun h => EvP.yes (by omega) (EvP.yes (by omega) ?_))
  refine slabOk_l0 (by omega) hf hw l.length 0 _ (by omega) (by omega) (by simp) (fun j h1 h2 => by omega) (fun a b a0 a1 => by omega) (fun v v0 v1 => ?_)
  constructor
  · intro h
    rw [rdOf_bool _ v v0 (by simp; omega)] at h
    simp at h
  · rintro ⟨j, j0, j1, _⟩; omega
theorem ahead_l0 {l : List Int} {f v : Int} (hl : (l.length : Int) ≤ 1000000) : ∀ (d : Nat) (i : Int), 0 ≤ i → i + d = (l.length : Int) → (∀ j : Int, 0 ≤ j → j < i → rd l j ≠ v) →
    EvP (fun k => spec_l16Ahead.l0 k v i f l) (fun r => (r = -1 ∧ ∀ j : Int, 0 ≤ j → j < (l.length : Int) → rd l j ≠ v) ∨ (0 ≤ r ∧ r < (l.length : Int) ∧ rd l r = v ∧ ∀ j : Int, 0 ≤ j → j < r → rd l j ≠ v)) := by
  intro d
  induction d with
  | zero =>
    intro i h0 hd hj
    refine EvP.step ?_
    simp only [spec_l16Ahead.l0]
    exact EvP.no (by omega) (EvP.ret (.inl ⟨rfl, fun j j0 j1 => hj j j0 (by omega)⟩))
  | succ d ih =>
    intro i h0 hd hj
    refine EvP.step ?_
    simp only [spec_l16Ahead.l0]
    refine EvP.yes (by omega) (EvP.yes h0 (EvP.ite (fun e => EvP.ret (.inr ⟨h0, by omega, e, hj⟩)) (fun e => ?_)))
    simp only [w64 (x := i + 1) (by omega) (by omega)]
    refine ih (i + 1) (by omega) (by omega) (fun j j0 j1 => ?_)
    by_cases hji : j = i
    · rw [hji]; exact e
    · exact hj j j0 (by omega)
theorem ahead_ok {l : List Int} {f v : Int} (hl : (l.length : Int) ≤ 1000000) : EvP (fun k => spec_l16Ahead.f k f l v) (fun r => (r = -1 ∧ ∀ j : Int, 0 ≤ j → j < (l.length : Int) → rd l j ≠ v) ∨ (0 ≤ r ∧ r < (l.length : Int) ∧ rd l r = v ∧ ∀ j : Int, 0 ≤ j → j < r → rd l j ≠ v)) :=
  ahead_l0 hl l.length 0 (by omega) (by omega) (fun j h1 h2 => by omega)
theorem head_ok {l : List Int} {f v : Int} (hl : (l.length : Int) ≤ 1000000) : EvP (fun k => spec_l16Head.f k f l v) (fun r => r = true ↔ Hd l v) := by
  unfold spec_l16Head.f
  refine EvP.ite (fun h0 => EvP.ite (fun h1 => ?_) (fun h1 => EvP.ret ⟨(fun h => by cases h), fun h => absurd h.2.1 h1⟩)) (fun h0 => EvP.ret ⟨(fun h => by cases h), fun h => absurd h.1 h0⟩)
  refine EvP.bind (ahead_ok hl) ?_
  rintro r (⟨rfl, h⟩ | ⟨r0, r1, r2, _⟩)
  · exact EvP.ret ⟨fun _ => ⟨h0, h1, h⟩, fun _ => rfl⟩
  · refine EvP.ret ⟨fun h => ?_, fun h => absurd r2 (h.2.2 r r0 r1)⟩
    simp at h
    omega
theorem specOk_l12 {f : Int} {l : List Int} (hN : Nx l) (hl : l.length ≤ 128) : ∀ (d : Nat) (i : Int), 0 ≤ i → i + d = (l.length : Int) → (∀ j : Int, 0 ≤ j → j < i → Ends l j) →
    EvP (fun k => spec_SlabOk.l1 k (l.length : Int) i f l) (fun r => r = true ↔ ∀ j : Int, 0 ≤ j → j < (l.length : Int) → Ends l j) := by
  intro d
  induction d with
  | zero =>
    intro i h0 hd hj
    refine EvP.step ?_
    simp only [spec_SlabOk.l1]
    exact EvP.no (by omega) (EvP.ret ⟨fun _ j j0 j1 => hj j j0 (by omega), fun _ => rfl⟩)
  | succ d ih =>
    intro i h0 hd hj
    refine EvP.step ?_
    simp only [spec_SlabOk.l1]
    refine EvP.yes (by omega) ?_
    have next : Ends l i → EvP (fun k => spec_SlabOk.l1 k (l.length : Int) (wrap64 (i + 1)) f l) (fun r => r = true ↔ ∀ j : Int, 0 ≤ j → j < (l.length : Int) → Ends l j) := fun he => by
      rw [w64 (by omega) (by omega)]
      exact ih (i + 1) (by omega) (by omega) (fun j j0 j1 => by
        by_cases e : j = i
        · rw [e]; exact he
        · exact hj j j0 (by omega))
    have inner : ∀ (c : Nat) (a : Nat) (at_ : Int), a + c = l.length → at_ = walkF a l i → EvP (fun k => spec_SlabOk.l2 k (l.length : Int) i at_ (a : Int) f l) (fun r => r = true ↔ ∀ j : Int, 0 ≤ j → j < (l.length : Int) → Ends l j) := by
      intro c
      induction c with
      | zero =>
        intro a at_ ha hat
        refine EvP.step ?_
        simp only [spec_SlabOk.l2]
        refine EvP.no (by omega) (EvP.ite (fun hp => EvP.ret ⟨(fun h => by cases h), fun h => ?_⟩) (fun hp => ?_))
        · have := h i h0 (by omega)
          unfold Ends at this
          rw [show l.length = a by omega, ← hat] at this
          omega
        · refine next ?_
          unfold Ends
          rw [show l.length = a by omega, ← hat]
          omega
      | succ c ihc =>
        intro a at_ ha hat
        refine EvP.step ?_
        simp only [spec_SlabOk.l2]
        refine EvP.yes (by omega) (EvP.ite (fun hp => ?_) (fun hp => ?_))
        · have hlt := walk_lt hN a i (by omega)
          rw [← hat] at hlt
          refine EvP.yes (by omega) (EvP.yes hlt ?_)
          rw [w64 (by omega) (by omega), show (a : Int) + 1 = ((a + 1 : Nat) : Int) by omega]
          exact ihc (a + 1) _ (by omega) (by rw [walk_succ a l i (by rw [← hat]; omega), hat])
        · refine next ?_
          unfold Ends
          rw [show l.length = a + (c + 1) by omega, walk_add, ← hat, walk_neg _ _ _ (by omega)]
          omega
    exact inner l.length 0 i (by omega) rfl
theorem specOk_l0 {f : Int} {l : List Int} (hl : l.length ≤ 128) (hfree : f = -1 ∨ Hd l f) : ∀ (d : Nat) (i : Int), 0 ≤ i → i + d = (l.length : Int) →
      (∀ j : Int, 0 ≤ j → j < i → -1 ≤ rd l j ∧ rd l j < (l.length : Int)) →
      (∀ a b : Int, 0 ≤ a → a < i → 0 ≤ b → b < (l.length : Int) → 0 ≤ rd l a → rd l a = rd l b → a ≤ b) →
    EvP (fun k => spec_SlabOk.l0 k (l.length : Int) i f l) (fun r => r = true ↔ SlabP f l) := by
  intro d
  induction d with
  | zero =>
    intro i h0 hd hN hI
    have e : i = (l.length : Int) := by omega
    subst e
    refine EvP.step ?_
    simp only [spec_SlabOk.l0]
    refine EvP.no (by omega) ?_
    have hN' : Nx l := hN
    have hI' : Inj l := fun a b a0 a1 b0 b1 r e => by
      have h1 := hI a b a0 a1 b0 b1 r e
      have h2 := hI b a b0 b1 a0 a1 (by rw [← e]; exact r) e.symm
      omega
    refine (specOk_l12 hN' hl l.length 0 (by omega) (by omega) (fun j h1 h2 => by omega)).mono ?_
    intro r hr
    rw [hr]
    exact ⟨fun h => ⟨hl, hN', hI', h, hfree⟩, fun s => s.ends⟩
  | succ d ih =>
    intro i h0 hd hN hI
    refine EvP.step ?_
    simp only [spec_SlabOk.l0]
    have bad : ¬ SlabP f l → EvP (fun _ => some false) (fun r : Bool => r = true ↔ SlabP f l) := fun h => EvP.ret ⟨(fun h => by cases h), fun z => absurd z h⟩
    refine EvP.yes (by omega) (EvP.yes h0 (EvP.yes (by omega) (EvP.ite (fun h => bad (fun s => by have := s.nx i h0 (by omega); omega)) (fun h1 => EvP.ite (fun h => bad (fun s => by have := s.nx i h0 (by omega); omega)) (fun h2 => ?_)))))
    have next : (∀ b : Int, 0 ≤ b → b < (l.length : Int) → 0 ≤ rd l i → rd l i = rd l b → i ≤ b) → EvP (fun k => spec_SlabOk.l0 k (l.length : Int) (wrap64 (i + 1)) f l) (fun r => r = true ↔ SlabP f l) := fun hn => by
      rw [w64 (by omega) (by omega)]
      refine ih (i + 1) (by omega) (by omega) (fun j j0 j1 => ?_) (fun a b a0 a1 b0 b1 r e => ?_)
      · by_cases e : j = i
        · rw [e]; exact ⟨by omega, by omega⟩
        · exact hN j j0 (by omega)
      · by_cases ea : a = i
        · subst ea; exact hn b b0 b1 r e
        · exact hI a b a0 (by omega) b0 b1 r e
    refine EvP.ite (fun hp => ?_) (fun hp => next (fun b b0 b1 r => by omega))
    refine EvP.bind (ahead_ok (by omega)) ?_
    rintro r (⟨rfl, h⟩ | ⟨r0, r1, r2, r3⟩)
    · exact absurd rfl (h i h0 (by omega))
    · refine EvP.ite (fun e => ?_) (fun e => bad (fun s => e (s.inj r i r0 r1 h0 (by omega) (by rw [r2]; omega) r2)))
      subst e
      refine next (fun b b0 b1 _ e => ?_)
      by_cases hb : b < r
      · exact absurd e.symm (r3 b b0 hb)
      · omega
theorem slabOkSpec {f : Int} {l : List Int} (hm : l.length ≤ 100000000) : EvP (fun k => spec_SlabOk.f k f l) (fun r => r = true ↔ SlabP f l) := by
  unfold spec_SlabOk.f
  have bad : ¬ SlabP f l → EvP (fun k => spec_SlabOk.j0 k (l.length : Int) true f l) (fun r => r = true ↔ SlabP f l) := fun h => by
    refine EvP.step ?_
    simp only [spec_SlabOk.j0]
    exact EvP.yes (by simp) (EvP.ret ⟨(fun h => by cases h), fun z => absurd z h⟩)
  have good : l.length ≤ 128 → (f = -1 ∨ Hd l f) → EvP (fun k => spec_SlabOk.j0 k (l.length : Int) false f l) (fun r => r = true ↔ SlabP f l) := fun h1 h2 => by
    refine EvP.step ?_
    simp only [spec_SlabOk.j0]
    exact EvP.no (by simp) (specOk_l0 h1 h2 l.length 0 (by omega) (by omega) (fun j h1 h2 => by omega) (fun a b a0 a1 => by omega))
  refine EvP.ite (fun h => bad (fun s => by have := s.len; omega)) (fun h => EvP.ite (fun e => good (by omega) (.inl e)) (fun e => ?_))
  refine EvP.bind (head_ok (by omega)) ?_
  intro b hb
  cases b with
  | true => exact good (by omega) (.inr (hb.1 rfl))
  | false => exact bad (fun s => by
      rcases s.free with h | h
      · exact e h
      · have := hb.2 h; cases this)
def newNext (n : Nat) : List Int := (List.range n).map fun (i : Nat) => if i + 1 = n then -1 else (i : Int) + 1
theorem newNext_length (n : Nat) : (newNext n).length = n := by simp [newNext]
theorem rd_newNext (n : Nat) (i : Int) (h0 : 0 ≤ i) (h1 : i < (n : Int)) : rd (newNext n) i = if i + 1 = (n : Int) then -1 else i + 1 := by
  rw [rd_get _ i h0 (by rw [newNext_length]; exact h1)]
  simp only [newNext, List.getElem_map, List.getElem_range]
  split <;> split <;> omega
def slabNew (n : Int) : Int × List Int := if 0 ≤ n ∧ n ≤ 128 then (if n = 0 then -1 else 0, newNext n.toNat) else (0, [])
theorem rd_snoc (l : List Int) (v i : Int) (h0 : 0 ≤ i) (h1 : i ≤ (l.length : Int)) : rd (l ++ [v]) i = if i = (l.length : Int) then v else rd l i := by
  unfold rd
  rw [List.getD_eq_getElem?_getD, List.getD_eq_getElem?_getD]
  by_cases h : i = (l.length : Int)
  · rw [if_pos h, List.getElem?_append_right (by omega), show i.toNat - l.length = 0 by omega]; rfl
  · rw [if_neg h, List.getElem?_append_left (by omega)]
theorem specNew_l0 {n : Int} (hn : 0 ≤ n ∧ n ≤ 128) : ∀ (d : Nat) (i f : Int) (l : List Int), 0 ≤ i → i + d = n → f = (if i = 0 then -1 else 0) → (l.length : Int) = i → (∀ j : Int, 0 ≤ j → j < i → rd l j = if j + 1 = n then -1 else j + 1) →
    EvP (fun k => spec_SlabNew.l0 k n i f l) (fun r => r = (if n = 0 then -1 else 0, newNext n.toNat)) := by
  intro d
  induction d with
  | zero =>
    intro i f l h0 hd hf hl hr
    refine EvP.step ?_
    simp only [spec_SlabNew.l0]
    refine EvP.no (by omega) (EvP.ret ?_)
    rw [hf, show i = n by omega, list_ext_rd (a := l) (b := newNext n.toNat) (by rw [newNext_length]; omega) (fun j h1 h2 => by rw [hr j h1 (by omega), rd_newNext _ j h1 (by omega), show (n.toNat : Int) = n by omega])]
  | succ d ih =>
    intro i f l h0 hd hf hl hr
    refine EvP.step ?_
    simp only [spec_SlabNew.l0]
    simp only [w64 (x := i + 1) (by omega) (by omega), w64 (x := n - 1) (by omega) (by omega)]
    refine EvP.yes (by omega) (EvP.ite (fun h => EvP.yes (by omega) ?_) (fun h => EvP.yes (by omega) ?_))
    all_goals
      refine ih (i + 1) 0 _ (by omega) (by omega) (by rw [if_neg (by omega)]) (by rw [List.length_append]; simp only [List.length_cons, List.length_nil]; omega) (fun j j0 j1 => ?_)
      rw [rd_snoc l _ j j0 (by omega)]
      by_cases e : j = (l.length : Int)
      · rw [if_pos e]; split <;> omega
      · rw [if_neg e]; exact hr j j0 (by omega)
theorem specNew_ok (n : Int) : EvP (fun k => spec_SlabNew.f k n) (fun r => r = slabNew n) := by
  unfold spec_SlabNew.f slabNew
  have bad : ¬ (0 ≤ n ∧ n ≤ 128) → EvP (fun k => spec_SlabNew.j0 k n true) (fun r => r = if 0 ≤ n ∧ n ≤ 128 then (if n = 0 then -1 else 0, newNext n.toNat) else (0, [])) := fun h => by
    refine EvP.step ?_
    simp only [spec_SlabNew.j0]
    refine EvP.yes (by simp) (EvP.ret ?_)
    rw [if_neg h]
  refine EvP.ite (fun h => bad (by omega)) (fun h => ?_)
  by_cases h2 : n > 128
  · rw [decide_eq_true h2]; exact bad (by omega)
  · rw [decide_eq_false h2]
    refine EvP.step ?_
    simp only [spec_SlabNew.j0]
    refine EvP.no (by simp) ?_
    rw [if_pos ⟨by omega, by omega⟩]
    exact specNew_l0 (by omega) n.toNat 0 (-1) [] (by omega) (by omega) rfl rfl (fun j h1 h2 => by omega)
theorem walkSpec_l0 {l : List Int} {f : Int} (hN : Nx l) (hl : l.length ≤ 1000000) : ∀ (m : Nat) (i : Int) (out : List Int), i < (l.length : Int) → (ch l i).length = m → Ends l i → out.length + m ≤ l.length →
    EvP (fun k => spec_l16Walk.l0 k out i f l) (fun r => r = out ++ ch l i) := by
  intro m
  induction m with
  | zero =>
    intro i out hi hm he _
    by_cases h0 : 0 ≤ i
    · rw [ch_cons h0 he] at hm; simp at hm
    · refine EvP.step ?_
      simp only [spec_l16Walk.l0]
      refine EvP.no (by omega) (EvP.ret ?_)
      rw [ch_nil (by omega), List.append_nil]
  | succ m ih =>
    intro i out hi hm he ho
    by_cases h0 : 0 ≤ i
    · have hc := ch_cons h0 he
      rw [hc] at hm ⊢
      refine EvP.step ?_
      simp only [spec_l16Walk.l0]
      refine EvP.yes (by omega) (EvP.yes (by omega) (EvP.yes (by omega) (EvP.yes h0 (EvP.yes hi ?_))))
      refine (ih (rd l i) (out ++ [i]) (hN i h0 hi).2 (by simpa using hm) (ends_next h0 he) (by rw [List.length_append]; simp only [List.length_cons, List.length_nil]; omega)).mono ?_
      rintro r rfl
      rw [List.append_assoc]; rfl
    · rw [ch_nil (by omega)] at hm; simp at hm
theorem walkSpec {l : List Int} {f : Int} (hN : Nx l) (hl : l.length ≤ 1000000) {i : Int} (hi : i < (l.length : Int)) (he : Ends l i) : EvP (fun k => spec_l16Walk.f k f l i) (fun r => r = ch l i) := by
  have hle := ch_len_le hN hi he
  have := walkSpec_l0 (f := f) hN hl _ i [] hi rfl he (by simpa using hle)
  simpa [spec_l16Walk.f] using this
theorem SlabP.freeEnds {f : Int} {l : List Int} (h : SlabP f l) : f < (l.length : Int) ∧ Ends l f := by
  rcases h.free with e | e
  · exact ⟨by omega, by unfold Ends; rw [walk_neg _ _ _ (by omega)]; omega⟩
  · exact ⟨e.2.1, h.ends f e.1 e.2.1⟩
theorem SlabP.headEnds {f h : Int} {l : List Int} (s : SlabP f l) (e : Hd l h) : h < (l.length : Int) ∧ Ends l h := ⟨e.2.1, s.ends h e.1 e.2.1⟩
theorem rd_cons_zero (x : Int) (c : List Int) : rd (x :: c) 0 = x := rfl
theorem rd_cons_pos {x : Int} {c : List Int} {i : Int} (h : 0 < i) : rd (x :: c) i = rd c (i - 1) := by
  unfold rd
  rw [show i.toNat = (i - 1).toNat + 1 by omega, List.getD_cons_succ]
theorem rd_take {l : List Int} {n : Nat} {i : Int} (h : i < (n : Int)) (h0 : 0 ≤ i) : rd (l.take n) i = rd l i := by
  unfold rd
  rw [List.getD_eq_getElem?_getD, List.getD_eq_getElem?_getD, List.getElem?_take, if_pos (by omega)]
theorem ch_at {l : List Int} {i : Int} (he : Ends l i) : ∀ j : Int, 0 ≤ j → j < ((ch l i).length : Int) → (j + 1 < ((ch l i).length : Int) → rd l (rd (ch l i) j) = rd (ch l i) (j + 1)) ∧ (j + 1 = ((ch l i).length : Int) → rd l (rd (ch l i) j) < 0) := by
  refine ends_ind (l := l) (C := fun i => ∀ j : Int, 0 ≤ j → j < ((ch l i).length : Int) → (j + 1 < ((ch l i).length : Int) → rd l (rd (ch l i) j) = rd (ch l i) (j + 1)) ∧ (j + 1 = ((ch l i).length : Int) → rd l (rd (ch l i) j) < 0)) (fun i hi j j0 j1 => ?_) (fun i h0 h ih j j0 j1 => ?_) _ i rfl he
  · rw [ch_nil hi] at j1; simp at j1; omega
  · rw [ch_cons h0 h] at j1 ⊢
    simp only [List.length_cons] at j1 ⊢
    by_cases hj : j = 0
    · subst hj
      rw [rd_cons_zero, rd_cons_pos (by omega), show (0 : Int) + 1 - 1 = 0 by omega]
      constructor
      · intro hl
        by_cases hr : 0 ≤ rd l i
        · rw [ch_cons hr (ends_next h0 h), rd_cons_zero]
        · rw [ch_nil (by omega)] at hl; simp at hl
      · intro hl
        by_cases hr : 0 ≤ rd l i
        · rw [ch_cons hr (ends_next h0 h)] at hl; simp only [List.length_cons] at hl; omega
        · omega
    · obtain ⟨h1, h2⟩ := ih (j - 1) (by omega) (by omega)
      rw [rd_cons_pos (by omega), rd_cons_pos (by omega), show j + 1 - 1 = j - 1 + 1 by omega]
      exact ⟨fun hl => h1 (by omega), fun hl => h2 (by omega)⟩
theorem ch_mem_at {l : List Int} {i j : Int} (h0 : 0 ≤ j) (h1 : j < ((ch l i).length : Int)) : rd (ch l i) j ∈ ch l i := by
  rw [rd_get _ j h0 h1]; exact List.getElem_mem _
theorem ch_first {l : List Int} {i : Int} (he : Ends l i) (h : 0 < (ch l i).length) : 0 ≤ i ∧ rd (ch l i) 0 = i := by
  by_cases h0 : 0 ≤ i
  · exact ⟨h0, by rw [ch_cons h0 he, rd_cons_zero]⟩
  · rw [ch_nil (by omega)] at h; simp at h
theorem clone_ok {l : List Int} (hl : l.length ≤ 1000000) : slices_Clone_int_int.f l = some l := by
  unfold slices_Clone_int_int.f
  rw [Option.bind_some, if_pos (by simp only [List.length_nil]; omega), List.nil_append]
theorem copySlab_ok {f : Int} {l : List Int} (hl : l.length ≤ 1000000) : impl_copySlab.f f l = some (f, l) := by
  unfold impl_copySlab.f
  rw [clone_ok hl, Option.bind_some]
theorem l16Copy_ok {f : Int} {l : List Int} (hl : l.length ≤ 1000000) : spec_l16Copy.f f l = some (f, l) := by
  unfold spec_l16Copy.f
  rw [Option.bind_some, if_pos (by simp only [List.length_nil]; omega), List.nil_append]
def TakeR (f : Int) (l : List Int) (n : Int) (r : Int × List Int × Int × Int) : Prop :=
  (SlabP f l ∧ 1 ≤ n → (((ch l f).length : Int) < n → r = (0, [], -1, 2)) ∧ (n ≤ ((ch l f).length : Int) → r = (rd l (rd (ch l f) (n - 1)), l.set (rd (ch l f) (n - 1)).toNat (-1), f, 0))) ∧ (¬ (SlabP f l ∧ 1 ≤ n) → r = (0, [], -1, 1))
theorem TakeR.one {f n : Int} {l : List Int} {a b : Int × List Int × Int × Int} (ha : TakeR f l n a) (hb : TakeR f l n b) : b = a := by
  by_cases h : SlabP f l ∧ 1 ≤ n
  · by_cases h2 : ((ch l f).length : Int) < n
    · rw [(ha.1 h).1 h2, (hb.1 h).1 h2]
    · rw [(ha.1 h).2 (by omega), (hb.1 h).2 (by omega)]
  · rw [ha.2 h, hb.2 h]
theorem TakeR.small {f n : Int} {l : List Int} {a : Int × List Int × Int × Int} (ha : TakeR f l n a) : (a.2.1.length : Int) ≤ 1000 := by
  by_cases h : SlabP f l ∧ 1 ≤ n
  · have := h.1.len
    by_cases h2 : ((ch l f).length : Int) < n
    · rw [(ha.1 h).1 h2]; simp
    · rw [(ha.1 h).2 (by omega)]; simp only [List.length_set]; omega
  · rw [ha.2 h]; simp
theorem takeImpl {f n : Int} {l : List Int} (hf : -9223372036854775808 ≤ f ∧ f ≤ 9223372036854775807) (hw : ∀ x ∈ l, -9223372036854775808 ≤ x ∧ x ≤ 9223372036854775807) (hn : -9223372036854775808 ≤ n ∧ n ≤ 9223372036854775807) : EvP (fun k => impl_SlabTake.f k f l n) (TakeR f l n) := by
  unfold impl_SlabTake.f
  refine EvP.bind (slabOkImpl hf hw) ?_
  intro b hb
  have bad : ¬ (SlabP f l ∧ 1 ≤ n) → EvP (fun k => impl_SlabTake.j0 k n true f l) (TakeR f l n) := fun z => by
    refine EvP.step ?_
    simp only [impl_SlabTake.j0]
    exact EvP.yes (by simp) (EvP.ret ⟨fun s => absurd s z, fun _ => rfl⟩)
  refine EvP.ite (fun e => ?_) (fun e => bad (fun s => e (hb.2 s.1)))
  have s := hb.1 e
  have hsl := s.len
  by_cases h1 : n < 1
  · rw [decide_eq_true h1]; exact bad (fun z => by omega)
  rw [decide_eq_false h1]
  refine EvP.step ?_
  simp only [impl_SlabTake.j0]
  refine EvP.no (by simp) (EvP.bind (chainImpl s.nx (by omega) s.freeEnds.1 s.freeEnds.2) ?_)
  rintro _ rfl
  have hle := ch_len_le s.nx s.freeEnds.1 s.freeEnds.2
  refine EvP.ite (fun h2 => EvP.ret ⟨fun _ => ⟨fun _ => rfl, fun z => by omega⟩, fun z => absurd ⟨s, by omega⟩ z⟩) (fun h2 => ?_)
  simp only [copySlab_ok (f := f) (l := l) (by omega), Option.bind_some, w64 (x := n - 1) (by omega) (by omega)]
  have hr := ch_range s.nx s.freeEnds.1 _ (ch_mem_at (l := l) (i := f) (j := n - 1) (by omega) (by omega))
  refine EvP.yes (by omega) (EvP.yes (by omega) (EvP.yes hr.1 (EvP.yes hr.2 (EvP.yes hr.2 (EvP.ret ?_)))))
  exact ⟨fun _ => ⟨fun z => by omega, fun _ => rfl⟩, fun z => absurd ⟨s, by omega⟩ z⟩
theorem takeSpec {f n : Int} {l : List Int} (hm : l.length ≤ 100000000) (hn : -9223372036854775808 ≤ n ∧ n ≤ 9223372036854775807) : EvP (fun k => spec_SlabTake.f k f l n) (TakeR f l n) := by
  unfold spec_SlabTake.f
  refine EvP.bind (slabOkSpec hm) ?_
  intro b hb
  have bad : ¬ (SlabP f l ∧ 1 ≤ n) → EvP (fun k => spec_SlabTake.j0 k n true f l) (TakeR f l n) := fun z => by
    refine EvP.step ?_
    simp only [spec_SlabTake.j0]
    exact EvP.yes (by simp) (EvP.ret ⟨fun s => absurd s z, fun _ => rfl⟩)
  refine EvP.ite (fun e => ?_) (fun e => bad (fun s => e (hb.2 s.1)))
  have s := hb.1 e
  have hsl := s.len
  by_cases h1 : n < 1
  · rw [decide_eq_true h1]; exact bad (fun z => by omega)
  rw [decide_eq_false h1]
  refine EvP.step ?_
  simp only [spec_SlabTake.j0]
  refine EvP.no (by simp) (EvP.bind (walkSpec s.nx (by omega) s.freeEnds.1 s.freeEnds.2) ?_)
  rintro _ rfl
  have hle := ch_len_le s.nx s.freeEnds.1 s.freeEnds.2
  refine EvP.ite (fun h2 => EvP.ret ⟨fun _ => ⟨fun _ => rfl, fun z => by omega⟩, fun z => absurd ⟨s, by omega⟩ z⟩) (fun h2 => ?_)
  simp only [l16Copy_ok (f := f) (l := l) (by omega), Option.bind_some, w64 (x := n - 1) (by omega) (by omega)]
  have hr := ch_range s.nx s.freeEnds.1 _ (ch_mem_at (l := l) (i := f) (j := n - 1) (by omega) (by omega))
  have hat := ch_at s.freeEnds.2 (n - 1) (by omega) (by omega)
  have hfst := ch_first s.freeEnds.2 (by omega)
  have hnx := s.nx _ hr.1 hr.2
  refine EvP.yes (by omega) (EvP.yes (by omega) (EvP.yes hr.1 (EvP.yes hr.2 (EvP.ite (fun h3 => ?_) (fun h3 => ?_)))))
  · refine EvP.yes (by omega) (EvP.yes (by omega) (EvP.yes (by omega) (EvP.ret ?_)))
    refine ⟨fun _ => ⟨fun z => by omega, fun _ => ?_⟩, fun z => absurd ⟨s, by omega⟩ z⟩
    rw [hat.1 (by omega), hfst.2, show n - 1 + 1 = n by omega]
  · refine EvP.yes (by omega) (EvP.ret ?_)
    refine ⟨fun _ => ⟨fun z => by omega, fun _ => ?_⟩, fun z => absurd ⟨s, by omega⟩ z⟩
    have h4 := hat.2 (by omega)
    rw [hfst.2, show rd l (rd (ch l f) (n - 1)) = -1 by omega]
def GiveR (f : Int) (l : List Int) (h : Int) (r : Int × List Int × Int) : Prop :=
  (SlabP f l → (Hd l h ∧ h ≠ f → r = (h, l.set (rd (ch l h) (((ch l h).length : Int) - 1)).toNat f, 0)) ∧ (¬ (Hd l h ∧ h ≠ f) → r = (0, [], 3))) ∧ (¬ SlabP f l → r = (0, [], 1))
theorem GiveR.one {f h : Int} {l : List Int} {a b : Int × List Int × Int} (ha : GiveR f l h a) (hb : GiveR f l h b) : b = a := by
  by_cases s : SlabP f l
  · by_cases h2 : Hd l h ∧ h ≠ f
    · rw [(ha.1 s).1 h2, (hb.1 s).1 h2]
    · rw [(ha.1 s).2 h2, (hb.1 s).2 h2]
  · rw [ha.2 s, hb.2 s]
theorem GiveR.small {f h : Int} {l : List Int} {a : Int × List Int × Int} (ha : GiveR f l h a) : (a.2.1.length : Int) ≤ 1000 := by
  by_cases s : SlabP f l
  · have := s.len
    by_cases h2 : Hd l h ∧ h ≠ f
    · rw [(ha.1 s).1 h2]; simp only [List.length_set]; omega
    · rw [(ha.1 s).2 h2]; simp
  · rw [ha.2 s]; simp
theorem ch_head_pos {l : List Int} {h : Int} (hh : Hd l h) (he : Ends l h) : 0 < (ch l h).length := by
  rw [ch_cons hh.1 he]; simp
theorem giveImpl {f h : Int} {l : List Int} (hf : -9223372036854775808 ≤ f ∧ f ≤ 9223372036854775807) (hw : ∀ x ∈ l, -9223372036854775808 ≤ x ∧ x ≤ 9223372036854775807) (hh : -9223372036854775808 ≤ h ∧ h ≤ 9223372036854775807) : EvP (fun k => impl_SlabGive.f k f l h) (GiveR f l h) := by
  unfold impl_SlabGive.f
  refine EvP.bind (slabOkImpl hf hw) ?_
  intro b hb
  refine EvP.ite (fun e => ?_) (fun e => EvP.ret ⟨fun s => absurd (hb.2 s) e, fun _ => rfl⟩)
  have s := hb.1 e
  have hsl := s.len
  have bad : ¬ (Hd l h ∧ h ≠ f) → EvP (fun k => impl_SlabGive.j0 k h true f l) (GiveR f l h) := fun z => by
    refine EvP.step ?_
    simp only [impl_SlabGive.j0]
    exact EvP.yes (by simp) (EvP.ret ⟨fun _ => ⟨fun y => absurd y z, fun _ => rfl⟩, fun y => absurd s y⟩)
  refine EvP.bind (isHead_ok (by omega) hh) ?_
  intro c hc
  refine EvP.ite (fun e => ?_) (fun e => bad (fun s => e (hc.2 s.1)))
  have hd := hc.1 e
  by_cases hne : h = f
  · simp only [show (h == f) = true from by simpa using hne]
    exact bad (fun s => s.2 hne)
  · simp only [show (h == f) = false from by simpa using hne]
    refine EvP.step ?_
    simp only [impl_SlabGive.j0]
    simp only [copySlab_ok (f := f) (l := l) (by omega), Option.bind_some]
    refine EvP.no (by simp) (EvP.bind (chainImpl s.nx (by omega) (s.headEnds hd).1 (s.headEnds hd).2) ?_)
    rintro _ rfl
    have hle := ch_len_le s.nx (s.headEnds hd).1 (s.headEnds hd).2
    have hpos := ch_head_pos hd (s.headEnds hd).2
    rw [w64 (x := ((ch l h).length : Int) - 1) (by omega) (by omega)]
    have hr := ch_range s.nx (s.headEnds hd).1 _ (ch_mem_at (l := l) (i := h) (j := ((ch l h).length : Int) - 1) (by omega) (by omega))
    refine EvP.yes (by omega) (EvP.yes (by omega) (EvP.yes hr.1 (EvP.yes hr.2 (EvP.ret ?_))))
    exact ⟨fun _ => ⟨fun _ => rfl, fun z => absurd ⟨hd, hne⟩ z⟩, fun z => absurd s z⟩
theorem giveSpec {f h : Int} {l : List Int} (hm : l.length ≤ 100000000) : EvP (fun k => spec_SlabGive.f k f l h) (GiveR f l h) := by
  unfold spec_SlabGive.f
  refine EvP.bind (slabOkSpec hm) ?_
  intro b hb
  refine EvP.ite (fun e => ?_) (fun e => EvP.ret ⟨fun s => absurd (hb.2 s) e, fun _ => rfl⟩)
  have s := hb.1 e
  have hsl := s.len
  have bad : ¬ (Hd l h ∧ h ≠ f) → EvP (fun k => spec_SlabGive.j0 k h true f l) (GiveR f l h) := fun z => by
    refine EvP.step ?_
    simp only [spec_SlabGive.j0]
    exact EvP.yes (by simp) (EvP.ret ⟨fun _ => ⟨fun y => absurd y z, fun _ => rfl⟩, fun y => absurd s y⟩)
  refine EvP.bind (head_ok (by omega)) ?_
  intro c hc
  refine EvP.ite (fun e => ?_) (fun e => bad (fun s => e (hc.2 s.1)))
  have hd := hc.1 e
  by_cases hne : h = f
  · simp only [show (h == f) = true from by simpa using hne]
    exact bad (fun s => s.2 hne)
  · simp only [show (h == f) = false from by simpa using hne]
    refine EvP.step ?_
    simp only [spec_SlabGive.j0]
    refine EvP.no (by simp) (EvP.bind (walkSpec s.nx (by omega) (s.headEnds hd).1 (s.headEnds hd).2) ?_)
    rintro _ rfl
    have hle := ch_len_le s.nx (s.headEnds hd).1 (s.headEnds hd).2
    have hpos := ch_head_pos hd (s.headEnds hd).2
    simp only [l16Copy_ok (f := f) (l := l) (by omega), Option.bind_some]
    rw [w64 (x := ((ch l h).length : Int) - 1) (by omega) (by omega)]
    have hr := ch_range s.nx (s.headEnds hd).1 _ (ch_mem_at (l := l) (i := h) (j := ((ch l h).length : Int) - 1) (by omega) (by omega))
    refine EvP.yes (by omega) (EvP.yes (by omega) (EvP.yes hr.1 (EvP.yes hr.2 (EvP.ret ?_))))
    exact ⟨fun _ => ⟨fun _ => rfl, fun z => absurd ⟨hd, hne⟩ z⟩, fun z => absurd s z⟩
theorem roomSpec {f : Int} {l : List Int} (hm : l.length ≤ 100000000) : EvP (fun k => spec_SlabRoom.f k f l) (fun r => (SlabP f l → r = ((ch l f).length : Int)) ∧ (¬ SlabP f l → r = -1)) := by
  unfold spec_SlabRoom.f
  refine EvP.bind (slabOkSpec (f := f) (l := l) (by omega)) ?_
  intro b hb
  refine EvP.ite (fun h => ?_) (fun h => EvP.ret ⟨fun s => absurd (hb.2 s) h, fun _ => rfl⟩)
  have s := hb.1 h
  refine EvP.bind (walkSpec s.nx (by have := s.len; omega) s.freeEnds.1 s.freeEnds.2) ?_
  rintro _ rfl
  exact EvP.ret ⟨fun _ => rfl, fun n => absurd s n⟩
theorem roomImpl {f : Int} {l : List Int} (hf : -9223372036854775808 ≤ f ∧ f ≤ 9223372036854775807) (hw : ∀ x ∈ l, -9223372036854775808 ≤ x ∧ x ≤ 9223372036854775807) : EvP (fun k => impl_SlabRoom.f k f l) (fun r => (SlabP f l → r = ((ch l f).length : Int)) ∧ (¬ SlabP f l → r = -1)) := by
  unfold impl_SlabRoom.f
  refine EvP.bind (slabOkImpl (f := f) (l := l) hf hw) ?_
  intro b hb
  refine EvP.ite (fun h => ?_) (fun h => EvP.ret ⟨fun s => absurd (hb.2 s) h, fun _ => rfl⟩)
  have s := hb.1 h
  refine EvP.bind (chainImpl s.nx (by have := s.len; omega) s.freeEnds.1 s.freeEnds.2) ?_
  rintro _ rfl
  exact EvP.ret ⟨fun _ => rfl, fun n => absurd s n⟩
theorem chainOp {f h : Int} {l : List Int} (hf : -9223372036854775808 ≤ f ∧ f ≤ 9223372036854775807) (hw : ∀ x ∈ l, -9223372036854775808 ≤ x ∧ x ≤ 9223372036854775807) (hh : -9223372036854775808 ≤ h ∧ h ≤ 9223372036854775807) : EvP (fun k => impl_SlabChain.f k f l h) (fun r => SlabP f l ∧ Hd l h → r = ch l h) := by
  unfold impl_SlabChain.f
  refine EvP.bind (slabOkImpl (f := f) (l := l) hf hw) ?_
  intro b hb
  refine EvP.ite (fun e => ?_) (fun e => EvP.ret (fun s => absurd (hb.2 s.1) e))
  have s := hb.1 e
  refine EvP.bind (isHead_ok (by have := s.len; omega) hh) ?_
  intro c hc
  refine EvP.ite (fun e => ?_) (fun e => EvP.ret (fun s => absurd (hc.2 s.2) e))
  have hd := hc.1 e
  refine EvP.bind (chainImpl s.nx (by have := s.len; omega) (s.headEnds hd).1 (s.headEnds hd).2) ?_
  rintro _ rfl
  exact EvP.ret (fun _ => rfl)
def I64 (x : Int) : Prop := -9223372036854775808 ≤ x ∧ x ≤ 9223372036854775807
structure SlabB (f : Int) (l : List Int) : Prop where
  free : I64 f
  all : ∀ x ∈ l, I64 x
  len : (l.length : Int) ≤ 130
theorem I64.small {x : Int} (h0 : -1000000 ≤ x) (h1 : x ≤ 1000000) : I64 x := ⟨by omega, by omega⟩
theorem I64.at {l : List Int} (h : ∀ x ∈ l, I64 x) (i : Int) : I64 (rd l i) := by
  by_cases hi : i.toNat < l.length
  · unfold rd
    rw [List.getD_eq_getElem?_getD, List.getElem?_eq_getElem hi]
    exact h _ (List.getElem_mem hi)
  · unfold rd
    rw [List.getD_eq_getElem?_getD, List.getElem?_eq_none (by omega)]
    exact I64.small (by decide) (by decide)
theorem I64.set {l : List Int} (h : ∀ x ∈ l, I64 x) (i : Nat) {v : Int} (hv : I64 v) : ∀ x ∈ l.set i v, I64 x := fun x hx => by
  rcases List.mem_or_eq_of_mem_set hx with hx | rfl
  · exact h x hx
  · exact hv
theorem SlabB.none (f : Int) (h : I64 f) : SlabB f [] := ⟨h, (fun x hx => by cases hx), by simp⟩
theorem TakeR.slab {f n : Int} {l : List Int} {r : Int × List Int × Int × Int} (h : TakeR f l n r) (b : SlabB f l) : SlabB r.1 r.2.1 := by
  by_cases hs : SlabP f l ∧ 1 ≤ n
  · by_cases h2 : ((ch l f).length : Int) < n
    · rw [(h.1 hs).1 h2]; exact SlabB.none _ (I64.small (by decide) (by decide))
    · rw [(h.1 hs).2 (by omega)]
      exact ⟨I64.at b.all _, I64.set b.all _ (I64.small (by decide) (by decide)), by rw [List.length_set]; exact b.len⟩
  · rw [h.2 hs]; exact SlabB.none _ (I64.small (by decide) (by decide))
theorem GiveR.slab {f n : Int} {l : List Int} {r : Int × List Int × Int} (h : GiveR f l n r) (b : SlabB f l) : SlabB r.1 r.2.1 := by
  by_cases hs : SlabP f l
  · by_cases h2 : Hd l n ∧ n ≠ f
    · rw [(h.1 hs).1 h2]
      have h3 := b.len
      have h4 := h2.1.2.1
      have h5 := h2.1.1
      exact ⟨I64.small (by omega) (by omega), I64.set b.all _ b.free, by rw [List.length_set]; exact b.len⟩
    · rw [(h.1 hs).2 h2]; exact SlabB.none _ (I64.small (by decide) (by decide))
  · rw [h.2 hs]; exact SlabB.none _ (I64.small (by decide) (by decide))
def Sd (s : List Int) (B : Int) (r : Int × List Int × Int × Int) : Prop := SlabB r.1 r.2.1 ∧ Cu s r.2.2.1 r.2.2.2 B
theorem slab_l0 {s : List Int} : ∀ (d : Nat) (B f p sd : Int) (l : List Int), d ≤ 100 → B + 2 * d ≤ 1000 → Cu s p sd B → SlabB f l → EvP (fun k => spec_l01Cur_slab.l0 k (d : Int) s p sd f l) (Sd s 1000)
  | 0, B, f, p, sd, l, hd, hB, hc, hb => by
    refine EvP.step ?_
    simp only [spec_l01Cur_slab.l0]
    exact EvP.no (by omega) (EvP.ret ⟨hb, hc.le (by omega)⟩)
  | d + 1, B, f, p, sd, l, hd, hB, hc, hb => by
    have hlen := hb.len
    have go : ∀ (p' sd' f' : Int) (l' : List Int), Cu s p' sd' (B + 2) → SlabB f' l' → EvP (fun k => spec_l01Cur_slab.l0 k (wrap64 (((d + 1 : Nat) : Int) - 1)) s p' sd' f' l') (Sd s 1000) := fun p' sd' f' l' h1 h2 => by
      rw [w64 (by omega) (by omega), show ((d + 1 : Nat) : Int) - 1 = (d : Int) by omega]
      exact slab_l0 d (B + 2) f' p' sd' l' (by omega) (by omega) h1 h2
    have take : ∀ (p' sd' : Int), Cu s p' sd' (B + 1) → EvP (fun k => spec_l01Cur_slab.j1 k ((d + 1 : Nat) : Int) false s p' sd' f l) (Sd s 1000) := fun p' sd' h1 => by
      refine EvP.step ?_
      simp only [spec_l01Cur_slab.j1]
      refine EvP.no (by simp) (EvP.bind (pickE h1 (by omega)) (fun r hr => ?_))
      rw [w64 (by omega) (by omega)]
      refine EvP.bind (takeSpec (f := f) (l := l) (n := 1 + r.1) (by omega) (by omega)) (fun q hq => ?_)
      refine EvP.ite (fun _ => go _ _ _ _ (hr.1.le (by omega)) (hq.slab hb)) (fun _ => go _ _ _ _ (hr.1.le (by omega)) hb)
    refine EvP.step ?_
    simp only [spec_l01Cur_slab.l0]
    refine EvP.yes (by omega) (EvP.bind (once_ok hc (by omega)) (fun o ho => ?_))
    refine EvP.ite (fun _ => ?_) (fun _ => take _ _ ho)
    by_cases hz : (l.length : Int) > 0
    · rw [decide_eq_true hz]
      refine EvP.step ?_
      simp only [spec_l01Cur_slab.j1]
      refine EvP.yes (by simp) (EvP.bind (pickE ho (by omega)) (fun r hr => ?_))
      refine EvP.bind (giveSpec (f := f) (l := l) (h := r.1) (by omega)) (fun q hq => ?_)
      refine EvP.ite (fun _ => go _ _ _ _ (hr.1.le (by omega)) (hq.slab hb)) (fun _ => go _ _ _ _ (hr.1.le (by omega)) hb)
    · rw [decide_eq_false hz]
      exact take _ _ ho
theorem slab_ok {s : List Int} {p sd : Int} (hc : Cu s p sd 0) (hl : (s.length : Int) ≤ 1048576) : EvP (fun k => spec_l01Cur_slab.f k s p sd) (Sd s 1000) := by
  unfold spec_l01Cur_slab.f
  refine EvP.bind (pickE hc (by omega)) (fun a ha => ?_)
  refine EvP.bind (pickE ha.1 (by omega)) (fun b hb => ?_)
  rw [w64 (x := b.1 * 90) (by omega) (by omega), w64 (by omega) (by omega)]
  refine EvP.bind (specNew_ok _) ?_
  rintro _ rfl
  refine EvP.bind (size_ok hb.1 (by omega) hl (by omega) (by omega)) (fun z hz => ?_)
  have e : z.1 = ((z.1.toNat : Nat) : Int) := by omega
  rw [e]
  refine slab_l0 z.1.toNat 3 _ _ _ _ (by omega) (by omega) (hz.1.le (by omega)) ?_
  have hn : 0 ≤ a.1 + b.1 * 90 ∧ a.1 + b.1 * 90 ≤ 128 := by omega
  unfold slabNew
  rw [if_pos hn]
  refine ⟨?_, fun x hx => ?_, by rw [newNext_length]; omega⟩
  · dsimp only; split <;> exact I64.small (by decide) (by decide)
  · have hx' : x ∈ (List.range (a.1 + b.1 * 90).toNat).map fun (i : Nat) => if i + 1 = (a.1 + b.1 * 90).toNat then -1 else (i : Int) + 1 := hx
    obtain ⟨i, hi, rfl⟩ := List.mem_map.1 hx'
    have := List.mem_range.1 hi
    split
    · exact I64.small (by decide) (by decide)
    · exact I64.small (by omega) (by omega)
theorem bad_l0 {s : List Int} : ∀ (d : Nat) (B f p sd : Int) (l : List Int), d ≤ 200 → B + d ≤ 2000 → (l.length : Int) + d = 129 ∨ 129 ≤ (l.length : Int) ∧ d = 0 → Cu s p sd B → SlabB f l → EvP (fun k => spec_l01Cur_badSlab.l0 k s p sd f l) (Sd s 2001)
  | 0, B, f, p, sd, l, hd, hB, hn, hc, hb => by
    refine EvP.step ?_
    simp only [spec_l01Cur_badSlab.l0]
    refine EvP.bind (pickE hc (by omega)) (fun r hr => ?_)
    rw [w64 (by omega) (by omega)]
    exact EvP.no (by omega) (EvP.ret ⟨hb, hr.1.le (by omega)⟩)
  | d + 1, B, f, p, sd, l, hd, hB, hn, hc, hb => by
    have hlen := hb.len
    refine EvP.step ?_
    simp only [spec_l01Cur_badSlab.l0]
    refine EvP.bind (pickE hc (by omega)) (fun r hr => ?_)
    rw [w64 (by omega) (by omega)]
    refine EvP.ite (fun h => EvP.yes (by omega) ?_) (fun h => EvP.ret ⟨hb, hr.1.le (by omega)⟩)
    refine bad_l0 d (B + 1) f _ _ _ (by omega) (by omega) (by simp only [List.length_append, List.length_singleton]; omega) hr.1 ⟨hb.free, fun x hx => ?_, by simp only [List.length_append, List.length_singleton]; omega⟩
    rcases List.mem_append.1 hx with hx | hx
    · exact hb.all x hx
    · rw [List.mem_singleton.1 hx]; exact I64.small (by decide) (by decide)
theorem badSlab_ok {s : List Int} {p sd : Int} (hc : Cu s p sd 0) (hl : (s.length : Int) ≤ 1048576) : EvP (fun k => spec_l01Cur_badSlab.f k s p sd) (Sd s 2100) := by
  unfold spec_l01Cur_badSlab.f
  refine EvP.bind (slab_ok hc hl) (fun b hb => ?_)
  obtain ⟨hb, hcu⟩ := hb
  have hlen := hb.len
  refine EvP.bind (pickE hcu (by omega)) (fun c hc2 => ?_)
  refine EvP.ite (fun _ => ?_) (fun _ => ?_)
  · refine EvP.bind (raw_ok hc2.1 (by omega)) (fun r hr => ?_)
    refine EvP.bind (pickE hr.1 (by omega)) (fun t ht => ?_)
    simp only [Option.bind_some]
    refine EvP.bind (pickE ht.1 (by omega)) (fun u hu => ?_)
    have hlst : ∀ x ∈ ([r.1, t.1] : List Int), I64 x := fun x hx => by
      simp only [List.mem_cons, List.not_mem_nil, or_false] at hx
      rcases hx with rfl | rfl
      · exact hr.2
      · exact I64.small (by omega) (by omega)
    exact EvP.yes (by omega) (EvP.yes (by simp only [List.length_cons, List.length_nil]; omega) (EvP.ret ⟨⟨I64.at hlst _, hb.all, hb.len⟩, hu.1.le (by omega)⟩))
  refine EvP.ite (fun _ => ?_) (fun _ => ?_)
  · refine EvP.ite (fun hz => ?_) (fun _ => EvP.ret ⟨hb, hc2.1.le (by omega)⟩)
    refine EvP.bind (pickE hc2.1 (by omega)) (fun i hi => ?_)
    refine EvP.bind (pickE hi.1 (by omega)) (fun j hj => ?_)
    refine EvP.bind (raw_ok hj.1 (by omega)) (fun r hr => ?_)
    simp only [Option.bind_some]
    refine EvP.bind (pickE hr.1 (by omega)) (fun u hu => ?_)
    have hlst : ∀ x ∈ ([j.1, r.1, -1] : List Int), I64 x := fun x hx => by
      simp only [List.mem_cons, List.not_mem_nil, or_false] at hx
      rcases hx with rfl | rfl | rfl
      · exact I64.small (by omega) (by omega)
      · exact hr.2
      · exact I64.small (by decide) (by decide)
    exact EvP.yes (by omega) (EvP.yes (by simp only [List.length_cons, List.length_nil]; omega) (EvP.yes (by omega) (EvP.yes (by omega) (EvP.ret ⟨⟨hb.free, I64.set hb.all _ (I64.at hlst _), by rw [List.length_set]; exact hb.len⟩, hu.1.le (by omega)⟩))))
  refine EvP.ite (fun _ => ?_) (fun _ => EvP.ret ⟨hb, hc2.1.le (by omega)⟩)
  by_cases hn : (b.2.1.length : Int) ≤ 129
  · exact (bad_l0 (129 - b.2.1.length) 1001 _ _ _ _ (by omega) (by omega) (by omega) hc2.1 hb).mono (fun r hr => ⟨hr.1, hr.2.le (by omega)⟩)
  · exact (bad_l0 0 1001 _ _ _ _ (by omega) (by omega) (by omega) hc2.1 hb).mono (fun r hr => ⟨hr.1, hr.2.le (by omega)⟩)

theorem cut_rd {l : List Int} {a i : Int} (h0 : 0 ≤ a) (h1 : a < (l.length : Int)) (hi : 0 ≤ i) : rd (l.set a.toNat (-1)) i = if i = a then -1 else rd l i := rd_set l a i (-1) h0 hi h1
theorem cut_walk {l : List Int} {a : Int} (h0 : 0 ≤ a) (h1 : a < (l.length : Int)) : ∀ (k : Nat) (i : Int), walkF k l i < 0 → walkF k (l.set a.toNat (-1)) i < 0
  | 0, i, h => h
  | k + 1, i, h => by
    rw [walkF] at h ⊢
    by_cases hi : 0 ≤ i
    · rw [if_pos hi] at h ⊢
      rw [cut_rd h0 h1 hi]
      by_cases e : i = a
      · rw [if_pos e, walk_neg _ _ _ (by omega)]; omega
      · rw [if_neg e]; exact cut_walk h0 h1 k _ h
    · rw [if_neg hi] at h ⊢; exact h
theorem cut_ends {l : List Int} {a i : Int} (h0 : 0 ≤ a) (h1 : a < (l.length : Int)) (h : Ends l i) : Ends (l.set a.toNat (-1)) i := by
  unfold Ends at h ⊢
  rw [List.length_set]
  exact cut_walk h0 h1 _ _ h
theorem cut_take {l : List Int} {a : Int} (h0 : 0 ≤ a) (h1 : a < (l.length : Int)) : ∀ (m : Nat) (i : Int), Ends l i → m < (ch l i).length → rd (ch l i) (m : Int) = a → ch (l.set a.toNat (-1)) i = (ch l i).take (m + 1) ∧ ch l (rd l a) = (ch l i).drop (m + 1)
  | 0, i, he, hm, ha => by
    have hi := ch_first he hm
    have e : i = a := by rw [← ha, show ((0 : Nat) : Int) = 0 from rfl, hi.2]
    subst e
    rw [ch_cons hi.1 (cut_ends h0 h1 he), cut_rd h0 h1 hi.1, if_pos rfl, ch_nil (l := l.set i.toNat (-1)) (i := -1) (by decide), ch_cons hi.1 he]
    exact ⟨rfl, rfl⟩
  | m + 1, i, he, hm, ha => by
    have hi := ch_first he (by omega)
    have hnd := ch_nodup he
    rw [ch_cons hi.1 he] at hm ha hnd ⊢
    rw [rd_cons_pos (by omega), show ((m + 1 : Nat) : Int) - 1 = (m : Int) by omega] at ha
    have hm' : m < (ch l (rd l i)).length := by simpa using hm
    have hmem : a ∈ ch l (rd l i) := by rw [← ha]; exact ch_mem_at (by omega) (by omega)
    have e : i ≠ a := fun e => (List.nodup_cons.1 hnd).1 (e ▸ hmem)
    have ih := cut_take h0 h1 m (rd l i) (ends_next hi.1 he) hm' ha
    rw [ch_cons hi.1 (cut_ends h0 h1 he), cut_rd h0 h1 hi.1, if_neg e, ih.1, ih.2]
    exact ⟨rfl, rfl⟩
theorem cut_same {l : List Int} {a i : Int} (h0 : 0 ≤ a) (h1 : a < (l.length : Int)) (he : Ends l i) : a ∉ ch l i → ch (l.set a.toNat (-1)) i = ch l i := by
  refine ends_ind (C := fun i => a ∉ ch l i → ch (l.set a.toNat (-1)) i = ch l i) (fun i hi _ => by rw [ch_nil hi, ch_nil hi]) (fun i hi he ih hn => ?_) _ i rfl he
  rw [ch_cons hi he] at hn ⊢
  have e : i ≠ a := fun e => hn (by simp [e])
  rw [ch_cons hi (cut_ends h0 h1 he), cut_rd h0 h1 hi, if_neg e, ih (fun g => hn (by simp [g]))]
theorem cut_slab {f a : Int} {l : List Int} (s : SlabP f l) (ha : a ∈ ch l f) : SlabP (rd l a) (l.set a.toNat (-1)) ∧ Hd (l.set a.toNat (-1)) f ∧ f ≠ rd l a := by
  have hr := ch_range s.nx s.freeEnds.1 a ha
  have f0 : 0 ≤ f := by
    by_cases h : 0 ≤ f
    · exact h
    · rw [ch_nil (by omega)] at ha; cases ha
  have hf : Hd l f := by
    rcases s.free with e | e
    · omega
    · exact e
  have hlen : (l.set a.toNat (-1)).length = l.length := List.length_set
  have hna := s.nx a hr.1 hr.2
  refine ⟨⟨by rw [hlen]; exact s.len, fun i i0 i1 => ?_, fun i j i0 i1 j0 j1 g e => ?_, fun i i0 i1 => cut_ends hr.1 hr.2 (s.ends i i0 (by omega)), ?_⟩, ⟨hf.1, by rw [hlen]; exact hf.2.1, fun i i0 i1 => ?_⟩, fun e => hf.2.2 a hr.1 hr.2 e.symm⟩
  · rw [cut_rd hr.1 hr.2 i0, hlen]
    have := s.nx i i0 (by omega)
    split <;> omega
  · rw [cut_rd hr.1 hr.2 i0] at g e
    rw [cut_rd hr.1 hr.2 j0] at e
    by_cases ei : i = a
    · rw [if_pos ei] at g; omega
    · rw [if_neg ei] at g e
      by_cases ej : j = a
      · rw [if_pos ej] at e; omega
      · rw [if_neg ej] at e
        exact s.inj i j i0 (by omega) j0 (by omega) g e
  · by_cases h : 0 ≤ rd l a
    · refine .inr ⟨h, by rw [hlen]; omega, fun i i0 i1 => ?_⟩
      rw [cut_rd hr.1 hr.2 i0]
      split
      · omega
      · rename_i e
        intro g
        exact e (s.inj i a i0 (by omega) hr.1 hr.2 (by omega) g)
    · exact .inl (by omega)
  · rw [cut_rd hr.1 hr.2 i0]
    split
    · omega
    · exact hf.2.2 i i0 (by omega)
theorem drawTake_ok {s : List Int} (hb : Bs s) (hl : (s.length : Int) ≤ 1048576) : EvP (fun k => spec_DrawSlabTake.f k s) (fun r => SlabB r.1 r.2.1 ∧ I64 r.2.2) := by
  unfold spec_DrawSlabTake.f
  refine EvP.bind (open_ok hb) (fun o ho => ?_)
  obtain ⟨e, hc⟩ := ho
  rw [e]
  refine EvP.bind (badSlab_ok hc hl) (fun b hb2 => ?_)
  obtain ⟨sb, hcu⟩ := hb2
  have hlen := sb.len
  refine EvP.bind (pickE hcu (by omega)) (fun p hp => ?_)
  refine EvP.bind (raw_ok hp.1 (by omega)) (fun r hr => ?_)
  refine EvP.bind (roomSpec (by omega)) (fun t _ => ?_)
  refine EvP.bind (roomSpec (by omega)) (fun u hu => ?_)
  simp only [Option.bind_some]
  refine EvP.bind (pickE hr.1 (by omega)) (fun q hq => ?_)
  have ht : I64 t := by
    rename_i ht
    by_cases sp : SlabP b.1 b.2.1
    · have := ch_len_le sp.nx sp.freeEnds.1 sp.freeEnds.2
      rw [ht.1 sp]; exact I64.small (by omega) (by omega)
    · rw [ht.2 sp]; exact I64.small (by decide) (by decide)
  have hlst : ∀ x ∈ ([wrap64 (1 + p.1), r.1, mx 0 t, wrap64 (u + 1)] : List Int), I64 x := fun x hx => by
    simp only [List.mem_cons, List.not_mem_nil, or_false] at hx
    rcases hx with rfl | rfl | rfl | rfl
    · exact w64r
    · exact hr.2
    · unfold mx; split
      · exact ht
      · exact I64.small (by decide) (by decide)
    · exact w64r
  exact EvP.yes (by omega) (EvP.yes (by simp only [List.length_cons, List.length_nil]; omega) (EvP.ret ⟨sb, I64.at hlst _⟩))
theorem same_l0 {l : List Int} (hl : (l.length : Int) ≤ 1000000) : ∀ (d : Nat) (i : Int), 0 ≤ i → i + d = (l.length : Int) → EvP (fun k => laws_same.l0 k l l i) (fun r => r = true)
  | 0, i, h0, hi => by
    refine EvP.step ?_
    simp only [laws_same.l0]
    exact EvP.no (by omega) (EvP.ret rfl)
  | d + 1, i, h0, hi => by
    refine EvP.step ?_
    simp only [laws_same.l0]
    refine EvP.yes (by omega) (EvP.yes h0 (EvP.yes (by omega) (EvP.yes (by simp) ?_)))
    rw [w64 (by omega) (by omega)]
    exact same_l0 hl d (i + 1) (by omega) (by omega)
theorem same_self {l : List Int} (hl : (l.length : Int) ≤ 1000000) : EvP (fun k => laws_same.f k l l) (fun r => r = true) := by
  unfold laws_same.f
  exact EvP.yes (by simp) (same_l0 hl l.length 0 (by omega) (by omega))
theorem FnTakeGive : laws_FnTakeGive.Pure := by
  intro s _ _ hw
  have hb := Bs.of hw
  refine EvP.rounds ?_
  unfold laws_FnTakeGive.f
  refine EvP.bind (big_ok s) (fun t ht => ?_)
  refine EvP.ite (fun _ => EvP.ret rfl) (fun hn => ?_)
  have hl := ht (by simpa using hn)
  obtain ⟨d, hd, sb, hi⟩ := drawTake_ok hb hl
  obtain ⟨f, l, n⟩ := d
  dsimp only at sb hi
  have hlen := sb.len
  refine EvP.bind (P := fun x => x = (f, l, n)) ⟨_, hd, rfl⟩ ?_
  rintro _ rfl
  refine EvP.bind (takeSpec (f := f) (l := l) (n := n) (by omega) hi) (fun q hq => ?_)
  refine EvP.bind (P := fun x => x = (f, l, n)) ⟨_, hd, rfl⟩ ?_
  rintro _ rfl
  refine EvP.bind (takeImpl (f := f) (l := l) (n := n) sb.free sb.all hi) (fun q' hq' => ?_)
  have e := hq.one hq'
  subst e
  refine EvP.yes rfl ?_
  by_cases hz : q'.2.2.2 = 0
  · have hg : (SlabP f l ∧ 1 ≤ n) ∧ n ≤ ((ch l f).length : Int) := by
      by_cases h1 : SlabP f l ∧ 1 ≤ n
      · by_cases h2 : ((ch l f).length : Int) < n
        · rw [(hq.1 h1).1 h2] at hz; simp at hz
        · exact ⟨h1, by omega⟩
      · rw [hq.2 h1] at hz; simp at hz
    obtain ⟨⟨sp, n1⟩, n2⟩ := hg
    have eq := (hq.1 ⟨sp, n1⟩).2 n2
    have sb' := hq.slab sb
    have ha : rd (ch l f) (n - 1) ∈ ch l f := ch_mem_at (by omega) (by omega)
    have hr := ch_range sp.nx sp.freeEnds.1 _ ha
    obtain ⟨c1, c2, c3⟩ := cut_slab sp ha
    have ct := cut_take hr.1 hr.2 (n - 1).toNat f sp.freeEnds.2 (by omega) (by rw [show (((n - 1).toNat : Nat) : Int) = n - 1 by omega])
    rw [show (n - 1).toNat + 1 = n.toNat by omega] at ct
    have hnd := ch_nodup sp.freeEnds.2
    have hin : rd (ch l f) (n - 1) ∈ (ch l f).take n.toNat := by
      rw [← rd_take (l := ch l f) (n := n.toNat) (i := n - 1) (by omega) (by omega)]
      rw [rd_get _ _ (by omega) (by rw [List.length_take]; omega)]
      exact List.getElem_mem _
    have hout : rd (ch l f) (n - 1) ∉ ch l (rd l (rd (ch l f) (n - 1))) := fun g => by
      rw [ct.2] at g
      have := List.nodup_append.1 (by rw [List.take_append_drop]; exact hnd : ((ch l f).take n.toNat ++ (ch l f).drop n.toNat).Nodup)
      exact this.2.2 _ hin _ g rfl
    have hsame := cut_same hr.1 hr.2 (ends_next hr.1 (sp.ends _ hr.1 hr.2)) hout
    have hclen : (ch (l.set (rd (ch l f) (n - 1)).toNat (-1)) f).length = n.toNat := by rw [ct.1, List.length_take]; omega
    rw [eq] at sb' ⊢
    dsimp only at sb' ⊢
    have hlen' := sb'.len
    have fI : I64 f := sb.free
    refine EvP.step ?_
    simp only [laws_FnTakeGive.j0]
    refine EvP.no (by simp) ?_
    refine EvP.bind (chainOp (h := f) sb'.free sb'.all fI) (fun c hc => ?_)
    have ec := hc ⟨c1, c2⟩
    refine EvP.yes (by rw [ec, hclen]; omega) ?_
    refine EvP.bind (roomImpl sb'.free sb'.all) (fun r1 hr1 => ?_)
    refine EvP.bind (roomSpec (f := f) (l := l) (by omega)) (fun r2 hr2 => ?_)
    have e1 := hr1.1 c1
    have e2 := hr2.1 sp
    rw [hsame, ct.2, List.length_drop] at e1
    have hle := ch_len_le sp.nx sp.freeEnds.1 sp.freeEnds.2
    rw [w64 (by omega) (by omega), show (r1 != r2 - n) = false by simp; omega]
    refine EvP.step ?_
    simp only [laws_FnTakeGive.j1]
    refine EvP.no (by simp) ?_
    refine EvP.bind (giveImpl (h := f) sb'.free sb'.all fI) (fun g hg => ?_)
    have eg := (hg.1 c1).1 ⟨c2, c3⟩
    have hlast : rd (ch (l.set (rd (ch l f) (n - 1)).toNat (-1)) f) (((ch (l.set (rd (ch l f) (n - 1)).toNat (-1)) f).length : Int) - 1) = rd (ch l f) (n - 1) := by
      rw [hclen, ct.1, show (n.toNat : Int) - 1 = n - 1 by omega, rd_take (by omega) (by omega)]
    rw [hlast] at eg
    have hback : (l.set (rd (ch l f) (n - 1)).toNat (-1)).set (rd (ch l f) (n - 1)).toNat (rd l (rd (ch l f) (n - 1))) = l := by
      rw [List.set_set, rd_get l _ hr.1 hr.2, List.set_getElem_self]
    rw [hback] at eg
    rw [eg]
    refine EvP.yes (by simp) (EvP.yes (by simp) (EvP.bind (same_self (l := l) (by omega)) ?_))
    rintro _ rfl
    exact EvP.ret rfl
  · refine EvP.step ?_
    simp only [laws_FnTakeGive.j0]
    exact EvP.yes (by simpa using hz) (EvP.ret (by simp))

end Go.Proofs.Ytaglpjlapfocfaa.Pure
