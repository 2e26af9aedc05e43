/- Whatever is put into a new store and given back: what was put and is still there is read as it was put, what has room is put, and the room is as the book tells. No condition. -/
import Derived.Test.YtlafobfjbkhioaaPFnStoreBookx
import Derived.Laws.BitsLemmas
namespace Go.Proofs.Ytlafobfjbkhioaa.Pure
open Go.RowKit Go.Proofs.Ytlafobfjbkhioaa.PFnStoreBook Go.Proofs.YtlafobfjbkhioaaW.PrintWords Go.Proofs.YtlafobfjbkhioaaW.PrintLast Go.Proofs.YtlafobfjbkhioaaW.PrintMore
set_option linter.unusedVariables false
set_option linter.unusedSimpArgs false

def EvP {α : Type} (g : Nat → Option α) (P : α → Prop) : Prop := ∃ r, Ev g r ∧ P r
theorem EvP.of {α : Type} {o : Option α} {P : α → Prop} (h : ∃ r, o = some r ∧ P r) : EvP (fun _ => o) P := by
  obtain ⟨r, rfl, hp⟩ := h
  exact ⟨r, Ev.now r, hp⟩
theorem EvP.ret {α : Type} {r : α} {P : α → Prop} (h : P r) : EvP (fun _ => some r) P := ⟨r, Ev.now r, h⟩
theorem EvP.bind {α β : Type} {g : Nat → Option α} {f : Nat → α → Option β} {P : α → Prop} {Q : β → Prop} (h : EvP g P) (k : ∀ r, P r → EvP (fun n => f n r) Q) : EvP (fun n => (g n).bind (f n)) Q := by
  obtain ⟨r, hr, hp⟩ := h
  obtain ⟨q, hq, hQ⟩ := k r hp
  exact ⟨q, Ev.bind hr hq, hQ⟩
theorem EvP.ite {α : Type} {c : Prop} [Decidable c] {a b : Nat → Option α} {Q : α → Prop} (h : c → EvP a Q) (h' : ¬ c → EvP b Q) : EvP (fun n => if c then a n else b n) Q := by
  by_cases hc : c
  · simp only [if_pos hc]; exact h hc
  · simp only [if_neg hc]; exact h' hc
theorem EvP.yes {α : Type} {c : Prop} [Decidable c] {a b : Nat → Option α} {Q : α → Prop} (hc : c) (h : EvP a Q) : EvP (fun n => if c then a n else b n) Q := by
  simp only [if_pos hc]; exact h
theorem EvP.no {α : Type} {c : Prop} [Decidable c] {a b : Nat → Option α} {Q : α → Prop} (hc : ¬ c) (h : EvP b Q) : EvP (fun n => if c then a n else b n) Q := by
  simp only [if_neg hc]; exact h
theorem EvP.step {α : Type} {g : Nat → Option α} {Q : α → Prop} (h : EvP (fun k => g (k + 1)) Q) : EvP g Q := by
  obtain ⟨r, hr, hq⟩ := h
  exact ⟨r, Ev.step (fun _ => rfl) hr, hq⟩
theorem EvP.mono {α : Type} {g : Nat → Option α} {P Q : α → Prop} (h : EvP g P) (hpq : ∀ r, P r → Q r) : EvP g Q := by
  obtain ⟨r, hr, hp⟩ := h
  exact ⟨r, hr, hpq r hp⟩
theorem EvP.rounds {α : Type} {g : Nat → Option α} {r : α} (h : EvP g (fun x => x = r)) : ∃ k, g k = some r := by
  obtain ⟨q, hq, rfl⟩ := h
  exact hq.rounds
theorem w64 {x : Int} (h0 : -9223372036854775808 ≤ x) (h1 : x ≤ 9223372036854775807) : wrap64 x = x := by unfold wrap64; omega
theorem tmod_pos {a b : Int} (h : 0 ≤ a) : Int.tmod a b = a % b := Int.tmod_eq_emod_of_nonneg h
theorem tdiv_pos {a b : Int} (h : 0 ≤ a) : Int.tdiv a b = a / b := Int.tdiv_eq_ediv_of_nonneg h
def Bs (s : List Int) : Prop := ∀ x ∈ s, 0 ≤ x ∧ x ≤ 255
theorem Bs.nil : Bs [] := fun _ h => by cases h
theorem Bs.take {s : List Int} (h : Bs s) (n : Nat) : Bs (s.take n) := fun y hy => h y (List.mem_of_mem_take hy)
theorem Bs.drop {s : List Int} (h : Bs s) (n : Nat) : Bs (s.drop n) := fun y hy => h y (List.mem_of_mem_drop hy)
theorem Bs.set {s : List Int} (h : Bs s) (i : Nat) {x : Int} (h0 : 0 ≤ x) (h1 : x ≤ 255) : Bs (s.set i x) := fun y hy => by
  rcases List.mem_or_eq_of_mem_set hy with hy | rfl
  · exact h y hy
  · exact ⟨h0, h1⟩
theorem rd_get (s : List Int) (i : Int) (h0 : 0 ≤ i) (h1 : i < (s.length : Int)) : rd s i = s[i.toNat]'(by omega) := by
  unfold rd
  rw [List.getD_eq_getElem?_getD, List.getElem?_eq_getElem (by omega)]
  rfl
theorem Bs.rdb {s : List Int} (h : Bs s) (i : Int) : 0 ≤ rd s i ∧ rd s i ≤ 255 := by
  by_cases hi : i.toNat < s.length
  · unfold rd
    rw [List.getD_eq_getElem?_getD, List.getElem?_eq_getElem hi]
    exact h _ (List.getElem_mem hi)
  · unfold rd
    rw [List.getD_eq_getElem?_getD, List.getElem?_eq_none (by omega)]
    exact ⟨by decide, by decide⟩
theorem Bs.of {s : List Int} (h : ∀ x ∈ s, (Lit.int .u8 x).wf = true) : Bs s := fun x hx => by
  have := h x hx
  simp [Lit.wf, IntKind.min, IntKind.max, IntKind.bits, IntKind.signed] at this
  omega
theorem mx_le (a b : Int) : a ≤ mx a b ∧ b ≤ mx a b ∧ (mx a b = a ∨ mx a b = b) := by unfold mx; split <;> omega
theorem mn_le (a b : Int) : mn a b ≤ a ∧ mn a b ≤ b ∧ (mn a b = a ∨ mn a b = b) := by unfold mn; split <;> omega
theorem rem_ok {x n : Int} (h0 : 0 ≤ x) (hn : 2 ≤ n) : 0 ≤ Int.tmod x n ∧ Int.tmod x n < n := by
  rw [tmod_pos h0]
  exact ⟨Int.emod_nonneg _ (by omega), Int.emod_lt_of_pos _ (by omega)⟩
theorem big_ok (s : List Int) : EvP (fun _ => laws_big.f s) (fun b => b = false → (s.length : Int) ≤ 1048576) := by
  unfold laws_big.f
  refine EvP.ret (fun h => ?_)
  simp at h
  omega
theorem some_no {P : Prop} [Decidable P] (h : ¬ P) : (some false : Option Bool) = some (decide P) := by rw [decide_eq_false h]
theorem some_iff {P Q : Prop} [Decidable P] [Decidable Q] (h : Q ↔ P) : (some (decide Q) : Option Bool) = some (decide P) := by rw [decide_eq_decide.2 h]
theorem within_ok (a b c : Int) : impl_within.f a b c = some (decide (b ≤ a ∧ a ≤ c)) := by
  unfold impl_within.f
  split
  · exact some_iff (by omega)
  · exact some_no (by omega)
theorem lpick_l0 {s : List Int} {a n : Int} (hb : Bs s) (hs : 0 < (s.length : Int)) (ha : 0 ≤ a ∧ a ≤ 1000000) (hn : 2 ≤ n) : ∀ (d : Nat) (x i : Int), 0 ≤ x → x ≤ 1000000000000 → 0 ≤ i → i + d = 3 → (d = 3 → x = 0) → (d = 2 → x ≤ 255) → (d = 1 → x ≤ 8160) → (d = 0 → x ≤ 253215) →
    EvP (fun k => laws_pick.l0 k s a n x i) (fun r => 0 ≤ r ∧ r < n) := by
  intro d
  induction d with
  | zero =>
    intro x i h0 h1 hi hd _ _ _ _
    refine EvP.step ?_
    simp only [laws_pick.l0]
    refine EvP.no (by omega) (EvP.no (by omega) ?_)
    simp only [w64 (x := x + a) (by omega) (by omega)]
    exact EvP.ret (rem_ok (by omega) hn)
  | succ d ih =>
    intro x i h0 h1 hi hd e3 e2 e1 e0
    refine EvP.step ?_
    simp only [laws_pick.l0]
    simp only [w64 (x := a + i) (by omega) (by omega), w64 (x := i + 1) (by omega) (by omega)]
    have hm : 0 ≤ Int.tmod (a + i) (s.length : Int) ∧ Int.tmod (a + i) (s.length : Int) < (s.length : Int) := by
      rw [tmod_pos (by omega)]
      exact ⟨Int.emod_nonneg _ (by omega), Int.emod_lt_of_pos _ (by omega)⟩
    have hr := hb.rdb (Int.tmod (a + i) (s.length : Int))
    simp only [w64 (x := rd s (Int.tmod (a + i) (s.length : Int))) (by omega) (by omega), w64 (x := 31 * x) (by omega) (by omega)]
    simp only [w64 (x := 31 * x + rd s (Int.tmod (a + i) (s.length : Int))) (by omega) (by omega)]
    refine EvP.yes (by omega) (EvP.no (by omega) (EvP.yes hm.1 (EvP.yes hm.2 ?_)))
    exact ih _ _ (by omega) (by omega) (by omega) (by omega) (by omega) (by omega) (by omega) (by omega)
theorem lpick {s : List Int} {a n : Int} (hb : Bs s) (ha : 0 ≤ a ∧ a ≤ 1000000) : EvP (fun k => laws_pick.f k s a n) (fun r => 0 ≤ r ∧ (r < n ∨ r = 0)) := by
  unfold laws_pick.f
  refine EvP.ite (fun _ => ?_) (fun hl => ?_)
  · refine EvP.step ?_
    simp only [laws_pick.j0]
    exact EvP.yes (by simp) (EvP.ret ⟨by omega, .inr rfl⟩)
  · refine EvP.step ?_
    simp only [laws_pick.j0]
    refine EvP.ite (fun _ => EvP.ret ⟨by omega, .inr rfl⟩) (fun hn => ?_)
    refine (lpick_l0 hb (by omega) ha (by simp at hn; omega) 3 0 0 (by omega) (by omega) (by omega) (by omega) (by omega) (by omega) (by omega) (by omega)).mono ?_
    rintro r ⟨h0, h1⟩
    exact ⟨h0, .inl h1⟩
theorem bytesOf_ok {l : List Int} (h : l.length ≤ 1000000) : EvP (fun _ => laws_bytesOf.f l) (fun r => r = l) := by
  unfold laws_bytesOf.f
  refine EvP.bind (EvP.ret (P := fun y => y = []) rfl) ?_
  rintro y rfl
  exact EvP.yes (by simp only [List.length_nil]; omega) (EvP.ret (by simp))
theorem rd_set (l : List Int) (i j : Int) (v : Int) (hi : 0 ≤ i) (hj : 0 ≤ j) (hl : i < (l.length : Int)) : rd (l.set i.toNat v) j = if j = i then v else rd l j := by
  unfold rd
  rw [List.getD_eq_getElem?_getD, List.getD_eq_getElem?_getD]
  by_cases h : j = i
  · subst h
    rw [if_pos rfl, List.getElem?_set_self (by omega)]; rfl
  · rw [if_neg h, List.getElem?_set_ne (by omega)]
theorem list_ext_rd {a b : List Int} (hl : a.length = b.length) (h : ∀ i : Int, 0 ≤ i → i < (a.length : Int) → rd a i = rd b i) : a = b := by
  apply List.ext_getElem hl
  intro i h1 h2
  have := h (i : Int) (by omega) (by omega)
  rw [rd_get a _ (by omega) (by omega), rd_get b _ (by omega) (by omega)] at this
  simpa using this
theorem nodup_erase {l : List Int} (h : l.Nodup) (a : Int) : (l.erase a).Nodup ∧ ∀ x ∈ l.erase a, x ≠ a := by
  induction l with
  | nil => exact ⟨by simp, by simp⟩
  | cons b t ih =>
    obtain ⟨h1, h2⟩ := List.nodup_cons.1 h
    by_cases e : b = a
    · subst e
      rw [List.erase_cons_head]
      exact ⟨h2, fun x hx he => h1 (he ▸ hx)⟩
    · rw [List.erase_cons_tail (by simpa using e)]
      obtain ⟨i1, i2⟩ := ih h2
      refine ⟨List.nodup_cons.2 ⟨fun hb => h1 (List.mem_of_mem_erase hb), i1⟩, fun x hx => ?_⟩
      rcases List.mem_cons.1 hx with rfl | hx
      · exact e
      · exact i2 x hx
theorem sub_len : ∀ (R L : List Int), R.Nodup → (∀ x ∈ R, x ∈ L) → R.length ≤ L.length
  | [], L, _, _ => by simp
  | a :: R, L, hn, hs => by
    obtain ⟨h1, h2⟩ := List.nodup_cons.1 hn
    have ha := hs a (by simp)
    have := sub_len R (L.erase a) h2 (fun x hx => (List.mem_erase_of_ne (show x ≠ a by rintro rfl; exact h1 hx)).2 (hs x (by simp [hx])))
    rw [List.length_erase_of_mem ha] at this
    have hp : 0 < L.length := List.length_pos_of_mem ha
    simp only [List.length_cons]
    omega
def ints : Nat → List Int
  | 0 => []
  | n + 1 => ints n ++ [(n : Int)]
theorem ints_mem : ∀ (n : Nat) (x : Int), x ∈ ints n ↔ 0 ≤ x ∧ x < (n : Int)
  | 0, x => by simp only [ints, List.not_mem_nil, false_iff]; omega
  | n + 1, x => by
    rw [ints, List.mem_append, ints_mem n x, List.mem_singleton]
    omega
theorem ints_nodup : ∀ n : Nat, (ints n).Nodup
  | 0 => by simp [ints]
  | n + 1 => by
    rw [ints]
    refine List.nodup_append.2 ⟨ints_nodup n, by simp, fun a ha b hb e => ?_⟩
    rw [List.mem_singleton.1 hb] at e
    have := (ints_mem n a).1 ha
    omega
theorem ints_length : ∀ n : Nat, (ints n).length = n
  | 0 => rfl
  | n + 1 => by rw [ints, List.length_append, ints_length n]; rfl
theorem pigeon : ∀ (n : Nat) (l : List Int), l.Nodup → (∀ x ∈ l, 0 ≤ x ∧ x < (n : Int)) → l.length ≤ n
  | 0, l, _, h => by
    cases l with
    | nil => simp
    | cons a t => have := h a (by simp); omega
  | n + 1, l, hn, h => by
    by_cases hm : (n : Int) ∈ l
    · obtain ⟨e1, e2⟩ := nodup_erase hn (n : Int)
      have := pigeon n (l.erase (n : Int)) e1 (fun x hx => by
        have h1 := h x (List.mem_of_mem_erase hx)
        have h2 := e2 x hx
        omega)
      rw [List.length_erase_of_mem hm] at this
      omega
    · have := pigeon n l hn (fun x hx => by
        have h1 := h x hx
        have h2 : x ≠ (n : Int) := fun e => hm (e ▸ hx)
        omega)
      omega
theorem pigeon_full {n : Nat} {l : List Int} (hn : l.Nodup) (h : ∀ x ∈ l, 0 ≤ x ∧ x < (n : Int)) (hl : l.length = n) {i : Int} (h0 : 0 ≤ i) (h1 : i < (n : Int)) : i ∈ l := by
  by_cases hm : i ∈ l
  · exact hm
  · exfalso
    have := pigeon n (i :: l) (List.nodup_cons.2 ⟨hm, hn⟩) (fun x hx => by
      rcases List.mem_cons.1 hx with rfl | hx
      · exact ⟨h0, h1⟩
      · exact h x hx)
    simp at this
    omega
def chainF : Nat → List Int → Int → List Int
  | 0, _, _ => []
  | k + 1, l, i => if 0 ≤ i then i :: chainF k l (rd l i) else []
def walkF : Nat → List Int → Int → Int
  | 0, _, i => i
  | k + 1, l, i => if 0 ≤ i then walkF k l (rd l i) else i
/-- All Nexts are -1 or a block. -/
def Nx (l : List Int) : Prop := ∀ i : Int, 0 ≤ i → i < (l.length : Int) → -1 ≤ rd l i ∧ rd l i < (l.length : Int)
/-- No block is the Next of two. -/
def Inj (l : List Int) : Prop := ∀ i j : Int, 0 ≤ i → i < (l.length : Int) → 0 ≤ j → j < (l.length : Int) → 0 ≤ rd l i → rd l i = rd l j → i = j
def Hd (l : List Int) (h : Int) : Prop := 0 ≤ h ∧ h < (l.length : Int) ∧ ∀ i : Int, 0 ≤ i → i < (l.length : Int) → rd l i ≠ h
theorem walk_neg : ∀ (k : Nat) (l : List Int) (i : Int), i < 0 → walkF k l i = i
  | 0, _, _, _ => rfl
  | k + 1, l, i, h => by rw [walkF, if_neg (by omega)]
theorem chain_neg : ∀ (k : Nat) (l : List Int) (i : Int), i < 0 → chainF k l i = []
  | 0, _, _, _ => rfl
  | k + 1, l, i, h => by rw [chainF, if_neg (by omega)]
theorem walk_add : ∀ (a b : Nat) (l : List Int) (i : Int), walkF (a + b) l i = walkF b l (walkF a l i)
  | 0, b, l, i => by rw [Nat.zero_add]; rfl
  | a + 1, b, l, i => by
    rw [show a + 1 + b = (a + b) + 1 by omega, walkF, walkF]
    by_cases h : 0 ≤ i
    · rw [if_pos h, if_pos h]; exact walk_add a b l _
    · rw [if_neg h, if_neg h, walk_neg b l i (by omega)]
theorem walk_succ (k : Nat) (l : List Int) (i : Int) (h : 0 ≤ walkF k l i) : walkF (k + 1) l i = rd l (walkF k l i) := by
  rw [walk_add k 1]
  show (if 0 ≤ walkF k l i then walkF 0 l (rd l (walkF k l i)) else walkF k l i) = _
  rw [if_pos h]; rfl
theorem chain_ends : ∀ (k : Nat) (l : List Int) (i : Int), walkF k l i < 0 → ∀ d, chainF (k + d) l i = chainF k l i
  | 0, l, i, h, d => by
    have h' : i < 0 := h
    rw [chain_neg _ _ _ h', chain_neg _ _ _ h']
  | k + 1, l, i, h, d => by
    rw [show k + 1 + d = (k + d) + 1 by omega, chainF, chainF]
    by_cases h0 : 0 ≤ i
    · rw [if_pos h0, if_pos h0]
      rw [walkF, if_pos h0] at h
      rw [chain_ends k l _ h d]
    · rw [if_neg h0, if_neg h0]
theorem chain_snoc : ∀ (k : Nat) (l : List Int) (i : Int), 0 ≤ walkF k l i → chainF (k + 1) l i = chainF k l i ++ [walkF k l i]
  | 0, l, i, h => by
    have h' : 0 ≤ i := h
    simp [chainF, walkF, h']
  | k + 1, l, i, h => by
    have h0 : 0 ≤ i := by
      by_cases h0 : 0 ≤ i
      · exact h0
      · rw [walkF, if_neg h0] at h; omega
    rw [walkF, if_pos h0] at h
    rw [chainF, if_pos h0, chain_snoc k l _ h, chainF, if_pos h0, walkF, if_pos h0]
    rfl
theorem chain_range {l : List Int} (hN : Nx l) : ∀ (k : Nat) (i : Int), i < (l.length : Int) → ∀ x ∈ chainF k l i, 0 ≤ x ∧ x < (l.length : Int)
  | 0, i, _, x, hx => by simp [chainF] at hx
  | k + 1, i, hi, x, hx => by
    rw [chainF] at hx
    split at hx
    · rename_i h0
      rcases List.mem_cons.1 hx with rfl | hx
      · exact ⟨h0, hi⟩
      · exact chain_range hN k _ (hN i h0 hi).2 x hx
    · simp at hx
theorem walk_lt {l : List Int} (hN : Nx l) : ∀ (k : Nat) (i : Int), i < (l.length : Int) → walkF k l i < (l.length : Int)
  | 0, i, h => h
  | k + 1, i, h => by
    rw [walkF]
    split
    · rename_i h0; exact walk_lt hN k _ (hN i h0 h).2
    · exact h
theorem chain_prev {l : List Int} : ∀ (k : Nat) (i z : Int), z ∈ chainF (k + 1) l i → z ≠ i → ∃ y ∈ chainF k l i, 0 ≤ y ∧ rd l y = z
  | 0, i, z, hz, hne => by
    rw [chainF] at hz
    split at hz
    · rcases List.mem_cons.1 hz with rfl | hz
      · exact absurd rfl hne
      · simp [chainF] at hz
    · simp at hz
  | k + 1, i, z, hz, hne => by
    rw [chainF] at hz
    split at hz
    · rename_i h0
      rcases List.mem_cons.1 hz with rfl | hz
      · exact absurd rfl hne
      · by_cases e : z = rd l i
        · exact ⟨i, by rw [chainF, if_pos h0]; simp, h0, e.symm⟩
        · obtain ⟨y, hy, h1, h2⟩ := chain_prev k (rd l i) z hz e
          exact ⟨y, by rw [chainF, if_pos h0]; exact List.mem_cons_of_mem _ hy, h1, h2⟩
    · simp at hz
theorem head_nodup {l : List Int} (hN : Nx l) (hI : Inj l) {h : Int} (hh : Hd l h) : ∀ k : Nat, (chainF k l h).Nodup
  | 0 => by simp [chainF]
  | k + 1 => by
    have ih := head_nodup hN hI hh k
    by_cases hw : 0 ≤ walkF k l h
    · rw [chain_snoc k l h hw]
      refine List.nodup_append.2 ⟨ih, by simp, fun a ha b hb e => ?_⟩
      rw [List.mem_singleton.1 hb] at e
      subst e
      cases k with
      | zero => simp [chainF] at ha
      | succ k =>
        have hw' : 0 ≤ walkF k l h := by
          by_cases h0 : 0 ≤ walkF k l h
          · exact h0
          · rw [walk_add k 1, walk_neg 1 l _ (by omega)] at hw; omega
        have hlt := walk_lt hN k h hh.2.1
        rw [walk_succ k l h hw'] at ha hw
        have hne : rd l (walkF k l h) ≠ h := hh.2.2 _ hw' hlt
        obtain ⟨y, hy, y0, y1⟩ := chain_prev k h _ ha hne
        have yr := chain_range hN k h hh.2.1 y hy
        have e := hI y (walkF k l h) y0 yr.2 hw' hlt (by rw [y1]; exact hw) y1
        subst e
        rw [chain_snoc k l h hw'] at ih
        exact (List.nodup_append.1 ih).2.2 _ hy _ (by simp) rfl
    · rw [chain_ends k l h (by omega) 1]; exact ih
theorem head_ends {l : List Int} (hN : Nx l) (hI : Inj l) {h : Int} (hh : Hd l h) : walkF l.length l h < 0 := by
  by_cases hw : 0 ≤ walkF l.length l h
  · exfalso
    have n1 := head_nodup hN hI hh (l.length + 1)
    have n2 := pigeon l.length _ n1 (chain_range hN _ h hh.2.1)
    have n3 : ∀ k, 0 ≤ walkF k l h → (chainF (k + 1) l h).length = k + 1 := by
      intro k
      induction k with
      | zero => intro hk; rw [chain_snoc 0 l h hk]; simp [chainF]
      | succ k ih =>
        intro hk
        have hk' : 0 ≤ walkF k l h := by
          by_cases h0 : 0 ≤ walkF k l h
          · exact h0
          · rw [walk_add k 1, walk_neg 1 l _ (by omega)] at hk; omega
        rw [chain_snoc (k + 1) l h hk, List.length_append, ih hk']
        simp
    rw [n3 _ hw] at n2
    omega
  · omega
def ch (l : List Int) (i : Int) : List Int := chainF l.length l i
def Ends (l : List Int) (i : Int) : Prop := walkF l.length l i < 0
theorem ends_step {l : List Int} {i : Int} (h0 : 0 ≤ i) (h : Ends l i) : walkF (l.length - 1) l (rd l i) < 0 ∧ 0 < l.length := by
  unfold Ends at h
  cases hn : l.length with
  | zero => rw [hn] at h; exact absurd h (by show ¬ i < 0; omega)
  | succ n => rw [hn, walkF, if_pos h0] at h; exact ⟨h, by omega⟩
theorem ends_next {l : List Int} {i : Int} (h0 : 0 ≤ i) (h : Ends l i) : Ends l (rd l i) := by
  obtain ⟨h1, h2⟩ := ends_step h0 h
  unfold Ends
  rw [show l.length = (l.length - 1) + 1 by omega, walk_add, walk_neg _ _ _ h1]
  exact h1
theorem ch_cons {l : List Int} {i : Int} (h0 : 0 ≤ i) (h : Ends l i) : ch l i = i :: ch l (rd l i) := by
  obtain ⟨h1, h2⟩ := ends_step h0 h
  unfold ch
  have e : chainF l.length l i = i :: chainF (l.length - 1) l (rd l i) := by
    conv => lhs; rw [show l.length = (l.length - 1) + 1 by omega]
    rw [chainF, if_pos h0]
  rw [e]
  congr 1
  have := chain_ends (l.length - 1) l (rd l i) h1 1
  rw [show l.length - 1 + 1 = l.length by omega] at this
  exact this.symm
theorem ch_nil {l : List Int} {i : Int} (h : i < 0) : ch l i = [] := chain_neg _ _ _ h
/-- Induction along a chain that ends. -/
theorem ends_ind {l : List Int} {C : Int → Prop} (hn : ∀ i, i < 0 → C i) (hs : ∀ i, 0 ≤ i → Ends l i → C (rd l i) → C i) : ∀ (m : Nat) (i : Int), (ch l i).length = m → Ends l i → C i
  | 0, i, hm, he => by
    by_cases h0 : 0 ≤ i
    · rw [ch_cons h0 he] at hm; simp at hm
    · exact hn i (by omega)
  | m + 1, i, hm, he => by
    by_cases h0 : 0 ≤ i
    · rw [ch_cons h0 he] at hm
      exact hs i h0 he (ends_ind hn hs m (rd l i) (by simpa using hm) (ends_next h0 he))
    · exact hn i (by omega)
theorem ch_mem_le {l : List Int} {i : Int} (he : Ends l i) : ∀ x ∈ ch l i, Ends l x ∧ (ch l x).length ≤ (ch l i).length := by
  refine ends_ind (l := l) (C := fun i => ∀ x ∈ ch l i, Ends l x ∧ (ch l x).length ≤ (ch l i).length) (fun i hi x hx => ?_) (fun i h0 h ih x hx => ?_) _ i rfl he
  · rw [ch_nil hi] at hx; cases hx
  · rw [ch_cons h0 h] at hx ⊢
    rcases List.mem_cons.1 hx with rfl | hx
    · exact ⟨h, by rw [ch_cons h0 h]; exact Nat.le_refl _⟩
    · obtain ⟨e1, e2⟩ := ih x hx
      exact ⟨e1, by simp only [List.length_cons]; omega⟩
theorem ch_nodup {l : List Int} {i : Int} (he : Ends l i) : (ch l i).Nodup := by
  refine ends_ind (l := l) (C := fun i => (ch l i).Nodup) (fun i hi => ?_) (fun i h0 h ih => ?_) _ i rfl he
  · rw [ch_nil hi]; simp
  · have hlen := ch_cons h0 h
    rw [hlen]
    refine List.nodup_cons.2 ⟨fun hm => ?_, ih⟩
    have h2 := (ch_mem_le (ends_next h0 h) i hm).2
    rw [hlen] at h2
    simp at h2
    omega
theorem ch_range {l : List Int} (hN : Nx l) {i : Int} (hi : i < (l.length : Int)) : ∀ x ∈ ch l i, 0 ≤ x ∧ x < (l.length : Int) := chain_range hN _ i hi
theorem ch_next {l : List Int} {i : Int} (he : Ends l i) : ∀ x ∈ ch l i, 0 ≤ rd l x → rd l x ∈ ch l i := by
  refine ends_ind (l := l) (C := fun i => ∀ x ∈ ch l i, 0 ≤ rd l x → rd l x ∈ ch l i) (fun i hi x hx => ?_) (fun i h0 h ih x hx hr => ?_) _ i rfl he
  · rw [ch_nil hi] at hx; cases hx
  · rw [ch_cons h0 h] at hx ⊢
    rcases List.mem_cons.1 hx with rfl | hx
    · exact List.mem_cons_of_mem _ (by rw [ch_cons hr (ends_next h0 h)]; simp)
    · exact List.mem_cons_of_mem _ (ih x hx hr)
theorem ch_prev {l : List Int} {i : Int} (he : Ends l i) : ∀ z ∈ ch l i, z ≠ i → ∃ y ∈ ch l i, 0 ≤ y ∧ rd l y = z := by
  refine ends_ind (l := l) (C := fun i => ∀ z ∈ ch l i, z ≠ i → ∃ y ∈ ch l i, 0 ≤ y ∧ rd l y = z) (fun i hi z hz _ => ?_) (fun i h0 h ih z hz hne => ?_) _ i rfl he
  · rw [ch_nil hi] at hz; cases hz
  · rw [ch_cons h0 h] at hz ⊢
    rcases List.mem_cons.1 hz with rfl | hz
    · exact absurd rfl hne
    · by_cases e : z = rd l i
      · exact ⟨i, by simp, h0, e.symm⟩
      · obtain ⟨y, hy, h1, h2⟩ := ih z hz e
        exact ⟨y, List.mem_cons_of_mem _ hy, h1, h2⟩
theorem ch_meet {l : List Int} (hN : Nx l) (hI : Inj l) {i j : Int} (hi : Ends l i) (hj : Ends l j) (hil : i < (l.length : Int)) (hjl : j < (l.length : Int)) : ∀ x, x ∈ ch l i → x ∈ ch l j → i ∈ ch l j ∨ j ∈ ch l i := by
  have base : ∀ i, i < (l.length : Int) → Ends l i → ∀ x, x ∈ ch l i → x ∈ ch l j → i ∈ ch l j ∨ j ∈ ch l i := by
    intro i hil hi
    refine ends_ind (l := l) (C := fun i => i < (l.length : Int) → ∀ x, x ∈ ch l i → x ∈ ch l j → i ∈ ch l j ∨ j ∈ ch l i) (fun i hi _ x hx => ?_) (fun i h0 h ih hil x hx hx' => ?_) _ i rfl hi hil
    · rw [ch_nil hi] at hx; cases hx
    · rw [ch_cons h0 h] at hx ⊢
      rcases List.mem_cons.1 hx with rfl | hx
      · exact .inl hx'
      · have hr := hN i h0 hil
        rcases ih hr.2 x hx hx' with h1 | h1
        · by_cases e : rd l i = j
          · by_cases hp : 0 ≤ rd l i
            · right
              refine List.mem_cons_of_mem _ ?_
              rw [ch_cons hp (ends_next h0 h), ← e]; simp
            · rw [ch_nil (by omega)] at hx; cases hx
          · obtain ⟨y, hy, y0, y1⟩ := ch_prev hj _ h1 e
            have yr := ch_range hN hjl y hy
            have p0 := ch_range hN hjl _ h1
            have := hI i y h0 hil y0 yr.2 p0.1 y1.symm
            exact .inl (this ▸ hy)
        · exact .inr (List.mem_cons_of_mem _ h1)
  exact base i hil hi
theorem heads_apart {l : List Int} (hN : Nx l) (hI : Inj l) {h h' x : Int} (hh : Hd l h) (hh' : Hd l h') (hx : x ∈ ch l h) (hx' : x ∈ ch l h') : h = h' := by
  have e1 := head_ends hN hI hh
  have e2 := head_ends hN hI hh'
  by_cases e : h = h'
  · exact e
  · exfalso
    rcases ch_meet hN hI e1 e2 hh.2.1 hh'.2.1 x hx hx' with hm | hm
    · obtain ⟨y, hy, y0, y1⟩ := ch_prev e2 h hm e
      exact hh.2.2 y y0 (ch_range hN hh'.2.1 y hy).2 y1
    · obtain ⟨y, hy, y0, y1⟩ := ch_prev e1 h' hm (fun z => e z.symm)
      exact hh'.2.2 y y0 (ch_range hN hh.2.1 y hy).2 y1
/-- The chains of the heads below n, one behind the other; sel: which are heads. -/
def chains (l : List Int) (sel : Int → Bool) : Nat → List Int
  | 0 => []
  | n + 1 => chains l sel n ++ if sel (n : Int) = true then ch l (n : Int) else []
theorem chains_mem {l : List Int} {sel : Int → Bool} : ∀ {n : Nat} {x : Int}, x ∈ chains l sel n ↔ ∃ h : Nat, h < n ∧ sel (h : Int) = true ∧ x ∈ ch l (h : Int)
  | 0, x => by simp [chains]
  | n + 1, x => by
    rw [chains, List.mem_append, chains_mem]
    constructor
    · rintro (⟨h, h1, h2, h3⟩ | hx)
      · exact ⟨h, by omega, h2, h3⟩
      · split at hx
        · rename_i hs; exact ⟨n, by omega, hs, hx⟩
        · cases hx
    · rintro ⟨h, h1, h2, h3⟩
      by_cases e : h = n
      · subst e; right; rw [if_pos h2]; exact h3
      · exact .inl ⟨h, by omega, h2, h3⟩
theorem chains_nodup {l : List Int} (hN : Nx l) (hI : Inj l) {sel : Int → Bool} (hs : ∀ h : Int, 0 ≤ h → h < (l.length : Int) → sel h = true → Hd l h) : ∀ n : Nat, n ≤ l.length → (chains l sel n).Nodup
  | 0, _ => by simp [chains]
  | n + 1, hn => by
    rw [chains]
    refine List.nodup_append.2 ⟨chains_nodup hN hI hs n (by omega), ?_, fun a ha b hb e => ?_⟩
    · split
      · rename_i h; exact ch_nodup (head_ends hN hI (hs _ (by omega) (by omega) h))
      · simp
    · subst e
      obtain ⟨h, h1, h2, h3⟩ := chains_mem.1 ha
      split at hb
      · rename_i hsn
        have := heads_apart hN hI (hs (h : Int) (by omega) (by omega) h2) (hs (n : Int) (by omega) (by omega) hsn) h3 hb
        omega
      · cases hb
theorem all_end_iff {l : List Int} (hN : Nx l) (hI : Inj l) {sel : Int → Bool} (hs : ∀ h : Int, 0 ≤ h → h < (l.length : Int) → (sel h = true ↔ Hd l h)) :
    (chains l sel l.length).length = l.length ↔ ∀ i : Int, 0 ≤ i → i < (l.length : Int) → Ends l i := by
  have nd := chains_nodup hN hI (fun h h0 h1 h2 => (hs h h0 h1).1 h2) l.length (Nat.le_refl _)
  have rg : ∀ x ∈ chains l sel l.length, 0 ≤ x ∧ x < (l.length : Int) := fun x hx => by
    obtain ⟨h, h1, h2, h3⟩ := chains_mem.1 hx
    exact ch_range hN (by omega) x h3
  constructor
  · intro hl i h0 h1
    obtain ⟨h, h2, h3, h4⟩ := chains_mem.1 (pigeon_full nd rg hl h0 h1)
    exact (ch_mem_le (head_ends hN hI ((hs _ (by omega) (by omega)).1 h3)) i h4).1
  · intro ha
    have key : ∀ (d : Nat) (i : Int), 0 ≤ i → i < (l.length : Int) → l.length - (ch l i).length = d → i ∈ chains l sel l.length := by
      intro d
      induction d using Nat.strongRecOn with
      | _ d ih =>
        intro i h0 h1 hd
        by_cases hh : Hd l i
        · refine chains_mem.2 ⟨i.toNat, by omega, ?_, ?_⟩
          · rw [show (i.toNat : Int) = i by omega]; exact (hs i h0 h1).2 hh
          · rw [show (i.toNat : Int) = i by omega, ch_cons h0 (ha i h0 h1)]; simp
        · have : ∃ j : Int, 0 ≤ j ∧ j < (l.length : Int) ∧ rd l j = i := by
            refine Classical.byContradiction fun hc => hh ⟨h0, h1, fun j j0 j1 e => hc ⟨j, j0, j1, e⟩⟩
          obtain ⟨j, j0, j1, e⟩ := this
          have hj := ch_cons j0 (ha j j0 j1)
          rw [e] at hj
          have hle := pigeon l.length _ (ch_nodup (ha j j0 j1)) (ch_range hN j1)
          rw [hj] at hle
          simp only [List.length_cons] at hle
          have hm := ih (l.length - (ch l j).length) (by rw [hj]; simp only [List.length_cons]; omega) j j0 j1 rfl
          obtain ⟨h, h2, h3, h4⟩ := chains_mem.1 hm
          refine chains_mem.2 ⟨h, h2, h3, ?_⟩
          have := ch_next (ha h (by omega) (by omega)) j h4 (by rw [e]; exact h0)
          rwa [e] at this
    have hle := pigeon l.length _ nd rg
    have hge : l.length ≤ (chains l sel l.length).length := by
      have h1 := sub_len (ints l.length) (chains l sel l.length) (ints_nodup _) (fun x hx => by
        have := (ints_mem l.length x).1 hx
        exact key _ x this.1 this.2 rfl)
      rwa [ints_length] at h1
    omega
theorem chainImpl_l0 {l : List Int} {f : Int} (hN : Nx l) (hl : (l.length : Int) ≤ 1000000) : ∀ (m : Nat) (i : Int) (out : List Int), i < (l.length : Int) → (ch l i).length = m → Ends l i → out.length + m ≤ 10000000 →
    EvP (fun k => impl_Slab_chain.l0 k out i f l) (fun r => r = out ++ ch l i) := by
  intro m
  induction m with
  | zero =>
    intro i out hi hm he _
    by_cases h0 : 0 ≤ i
    · rw [ch_cons h0 he] at hm; simp at hm
    · refine EvP.step ?_
      simp only [impl_Slab_chain.l0]
      refine EvP.no (by omega) (EvP.ret ?_)
      rw [ch_nil (by omega), List.append_nil]
  | succ m ih =>
    intro i out hi hm he ho
    by_cases h0 : 0 ≤ i
    · have hc := ch_cons h0 he
      rw [hc] at hm ⊢
      refine EvP.step ?_
      simp only [impl_Slab_chain.l0]
      refine EvP.yes (by omega) (EvP.yes (by omega) (EvP.yes h0 (EvP.yes hi ?_)))
      refine (ih (rd l i) (out ++ [i]) (hN i h0 hi).2 (by simpa using hm) (ends_next h0 he) (by rw [List.length_append]; simp only [List.length_cons, List.length_nil]; omega)).mono ?_
      rintro r rfl
      rw [List.append_assoc]; rfl
    · rw [ch_nil (by omega)] at hm; simp at hm
theorem ch_len_le {l : List Int} (hN : Nx l) {i : Int} (hi : i < (l.length : Int)) (he : Ends l i) : (ch l i).length ≤ l.length := pigeon _ _ (ch_nodup he) (ch_range hN hi)
theorem chainImpl {l : List Int} {f : Int} (hN : Nx l) (hl : (l.length : Int) ≤ 1000000) {i : Int} (hi : i < (l.length : Int)) (he : Ends l i) : EvP (fun k => impl_Slab_chain.f k f l i) (fun r => r = ch l i) := by
  have hle := ch_len_le hN hi he
  have := chainImpl_l0 (f := f) hN hl _ i [] hi rfl he (by simp; omega)
  simpa [impl_Slab_chain.f] using this
theorem index_l0 {l : List Int} {v : Int} (hl : (l.length : Int) ≤ 1000000) : ∀ (d : Nat) (i : Int), 0 ≤ i → i + d = (l.length : Int) → (∀ j : Int, 0 ≤ j → j < i → rd l j ≠ v) →
    EvP (fun k => slices_Index_int_int.l0 k l v (l.length : Int) i) (fun r => (r = -1 ∧ ∀ j : Int, 0 ≤ j → j < (l.length : Int) → rd l j ≠ v) ∨ (0 ≤ r ∧ r < (l.length : Int) ∧ rd l r = v)) := by
  intro d
  induction d with
  | zero =>
    intro i h0 hd hj
    refine EvP.step ?_
    simp only [slices_Index_int_int.l0]
    exact EvP.no (by omega) (EvP.ret (.inl ⟨rfl, fun j j0 j1 => hj j j0 (by omega)⟩))
  | succ d ih =>
    intro i h0 hd hj
    refine EvP.step ?_
    simp only [slices_Index_int_int.l0]
    refine EvP.yes (by omega) (EvP.yes h0 (EvP.yes (by omega) (EvP.ite (fun e => EvP.ret (.inr ⟨h0, by omega, e.symm⟩)) (fun e => ?_))))
    simp only [w64 (x := i + 1) (by omega) (by omega)]
    refine ih (i + 1) (by omega) (by omega) (fun j j0 j1 => ?_)
    by_cases hji : j = i
    · rw [hji]; exact fun z => e z.symm
    · exact hj j j0 (by omega)
theorem contains_ok {l : List Int} {v : Int} (hl : (l.length : Int) ≤ 1000000) : EvP (fun k => slices_Contains_int_int.f k l v) (fun r => r = true ↔ ∃ j : Int, 0 ≤ j ∧ j < (l.length : Int) ∧ rd l j = v) := by
  unfold slices_Contains_int_int.f slices_Index_int_int.f
  refine EvP.bind (index_l0 hl l.length 0 (by omega) (by omega) (fun j h1 h2 => by omega)) ?_
  rintro r (⟨rfl, h⟩ | ⟨h0, h1, h2⟩)
  · refine EvP.ret ?_
    simp
    exact fun j j0 j1 => h j j0 j1
  · refine EvP.ret ?_
    simp only [ge_iff_le, decide_eq_true_eq]
    exact ⟨fun _ => ⟨r, h0, h1, h2⟩, fun _ => h0⟩
theorem isHead_ok {l : List Int} {f v : Int} (hl : (l.length : Int) ≤ 1000000) (hv : -9223372036854775808 ≤ v ∧ v ≤ 9223372036854775807) : EvP (fun k => impl_Slab_isHead.f k f l v) (fun r => r = true ↔ Hd l v) := by
  unfold impl_Slab_isHead.f impl_within.f
  simp only [w64 (x := (l.length : Int) - 1) (by omega) (by omega)]
  by_cases hr : 0 ≤ v ∧ v < (l.length : Int)
  · rw [if_pos (by omega), decide_eq_true (by omega)]
    simp only [Option.bind_some]
    refine EvP.yes (by simp) (EvP.bind (contains_ok hl) ?_)
    intro b hb
    refine EvP.ret ?_
    constructor
    · intro hn
      refine ⟨hr.1, hr.2, fun i h0 h1 e => ?_⟩
      have := hb.2 ⟨i, h0, h1, e⟩
      simp [this] at hn
    · rintro ⟨_, _, h⟩
      cases b with
      | false => rfl
      | true =>
        obtain ⟨j, j0, j1, e⟩ := hb.1 rfl
        exact absurd e (h j j0 j1)
  · have e : (if v ≥ 0 then some (decide (v ≤ (l.length : Int) - 1)) else some false) = some false := by
      split
      · rw [decide_eq_false (by omega)]
      · rfl
    rw [e]
    simp only [Option.bind_some]
    refine EvP.no (by simp) (EvP.ret ?_)
    constructor
    · intro h; cases h
    · rintro ⟨h0, h1, _⟩; exact absurd ⟨h0, h1⟩ hr
/-- What both sides tell of a slab. -/
structure SlabP (f : Int) (l : List Int) : Prop where
  len : l.length ≤ 128
  nx : Nx l
  inj : Inj l
  ends : ∀ i : Int, 0 ≤ i → i < (l.length : Int) → Ends l i
  free : f = -1 ∨ Hd l f
theorem rdOf_bool (b : List Bool) (i : Int) (h0 : 0 ≤ i) (h1 : i < (b.length : Int)) : rdOf false b i = b[i.toNat]'(by omega) := by
  unfold rdOf
  rw [List.getD_eq_getElem?_getD, List.getElem?_eq_getElem (by omega)]
  rfl
theorem rdOf_set (b : List Bool) (i j : Int) (v : Bool) (hi : 0 ≤ i) (hj : 0 ≤ j) (hl : i < (b.length : Int)) : rdOf false (b.set i.toNat v) j = if j = i then v else rdOf false b j := by
  unfold rdOf
  rw [List.getD_eq_getElem?_getD, List.getD_eq_getElem?_getD]
  by_cases h : j = i
  · subst h
    rw [if_pos rfl, List.getElem?_set_self (by omega)]; rfl
  · rw [if_neg h, List.getElem?_set_ne (by omega)]
theorem slabOk_l1 {f : Int} {l : List Int} {led : List Bool} (hN : Nx l) (hI : Inj l) (hl : l.length ≤ 128) (hf : -9223372036854775808 ≤ f ∧ f ≤ 9223372036854775807) (hb : led.length = l.length) (hled : ∀ i : Int, 0 ≤ i → i < (l.length : Int) → (rdOf false led i = false ↔ Hd l i)) :
    ∀ (d : Nat) (i : Int), 0 ≤ i → i + d = (l.length : Int) →
    EvP (fun k => impl_SlabOk.l1 k (l.length : Int) led ((chains l (fun h => !rdOf false led h) i.toNat).length : Int) (l.length : Int) i f l)
      (fun r => r = true ↔ ((chains l (fun h => !rdOf false led h) l.length).length = l.length ∧ (f = -1 ∨ Hd l f))) := by
  have hle : ∀ n : Nat, n ≤ l.length → (chains l (fun h => !rdOf false led h) n).length ≤ l.length := fun n hn =>
    pigeon _ _ (chains_nodup hN hI (fun h h0 h1 h2 => (hled h h0 h1).1 (by simpa using h2)) n hn) (fun x hx => by
      obtain ⟨h, h1, h2, h3⟩ := chains_mem.1 hx
      exact ch_range hN (by omega) x h3)
  intro d
  induction d with
  | zero =>
    intro i h0 hd
    refine EvP.step ?_
    simp only [impl_SlabOk.l1]
    refine EvP.no (by omega) ?_
    rw [show i.toNat = l.length by omega]
    refine EvP.ite (fun hr => ?_) (fun hr => EvP.ret ⟨(fun h => by cases h), fun h => absurd h.1 (by omega)⟩)
    refine EvP.ite (fun e => EvP.ret ⟨fun _ => ⟨by omega, .inl e⟩, fun _ => rfl⟩) (fun e => ?_)
    refine EvP.bind (isHead_ok (by omega) hf) ?_
    intro b hb'
    refine EvP.ret ?_
    constructor
    · intro h; exact ⟨by omega, .inr (hb'.1 h)⟩
    · rintro ⟨_, h | h⟩
      · exact absurd h e
      · exact hb'.2 h
  | succ d ih =>
    intro i h0 hd
    refine EvP.step ?_
    simp only [impl_SlabOk.l1]
    simp only [w64 (x := i + 1) (by omega) (by omega)]
    have hc : chains l (fun h => !rdOf false led h) (i + 1).toNat = chains l (fun h => !rdOf false led h) i.toNat ++ if (!rdOf false led i) = true then ch l i else [] := by
      rw [show (i + 1).toNat = i.toNat + 1 by omega, chains, show ((i.toNat : Nat) : Int) = i by omega]
    have h2 := hle (i + 1).toNat (by omega)
    refine EvP.yes (by omega) (EvP.yes h0 (EvP.yes (by omega) (EvP.ite (fun e => ?_) (fun e => ?_))))
    · have := ih (i + 1) (by omega) (by omega)
      rw [hc, e] at this
      simpa using this
    · have e' : rdOf false led i = false := by simpa using e
      have hh := (hled i h0 (by omega)).1 e'
      have he := head_ends hN hI hh
      refine EvP.bind (chainImpl hN (by omega) hh.2.1 he) ?_
      rintro _ rfl
      have := ih (i + 1) (by omega) (by omega)
      rw [hc, e'] at this h2
      rw [w64 (by omega) (by simp at h2; omega)]
      simpa using this
theorem slabOk_l0 {f : Int} {l : List Int} (hl : l.length ≤ 128) (hf : -9223372036854775808 ≤ f ∧ f ≤ 9223372036854775807) (hw : ∀ x ∈ l, -9223372036854775808 ≤ x ∧ x ≤ 9223372036854775807) :
    ∀ (d : Nat) (i : Int) (led : List Bool), 0 ≤ i → i + d = (l.length : Int) → led.length = l.length →
      (∀ j : Int, 0 ≤ j → j < i → -1 ≤ rd l j ∧ rd l j < (l.length : Int)) →
      (∀ a b : Int, 0 ≤ a → a < i → 0 ≤ b → b < i → 0 ≤ rd l a → rd l a = rd l b → a = b) →
      (∀ v : Int, 0 ≤ v → v < (l.length : Int) → (rdOf false led v = true ↔ ∃ j : Int, 0 ≤ j ∧ j < i ∧ rd l j = v)) →
    EvP (fun k => impl_SlabOk.l0 k (l.length : Int) led l (l.length : Int) i f l) (fun r => r = true ↔ SlabP f l) := by
  intro d
  induction d with
  | zero =>
    intro i led h0 hd hb hN hI hled
    have e : i = (l.length : Int) := by omega
    subst e
    refine EvP.step ?_
    simp only [impl_SlabOk.l0]
    refine EvP.no (by omega) ?_
    have hN' : Nx l := hN
    have hI' : Inj l := fun a b a0 a1 b0 b1 r e => hI a b a0 a1 b0 b1 r e
    have hh : ∀ v : Int, 0 ≤ v → v < (l.length : Int) → (rdOf false led v = false ↔ Hd l v) := fun v v0 v1 => by
      constructor
      · intro h
        refine ⟨v0, v1, fun j j0 j1 e => ?_⟩
        rw [(hled v v0 v1).2 ⟨j, j0, j1, e⟩] at h
        cases h
      · rintro ⟨_, _, h⟩
        cases hr : rdOf false led v with
        | false => rfl
        | true =>
          obtain ⟨j, j0, j1, e⟩ := (hled v v0 v1).1 hr
          exact absurd e (h j j0 j1)
    have := slabOk_l1 hN' hI' hl hf hb hh l.length 0 (by omega) (by omega)
    refine (EvP.mono (P := fun r => r = true ↔ ((chains l (fun h => !rdOf false led h) l.length).length = l.length ∧ (f = -1 ∨ Hd l f))) (by simpa [chains] using this) ?_)
    intro r hr
    rw [hr, all_end_iff hN' hI' (fun h h0 h1 => by rw [← hh h h0 h1]; simp)]
    exact ⟨fun ⟨a, b⟩ => ⟨hl, hN', hI', a, b⟩, fun s => ⟨s.ends, s.free⟩⟩
  | succ d ih =>
    intro i led h0 hd hb hN hI hled
    have hm : rd l i ∈ l := by rw [rd_get l i h0 (by omega)]; exact List.getElem_mem _
    have hr := hw _ hm
    refine EvP.step ?_
    simp only [impl_SlabOk.l0]
    refine EvP.yes (by omega) (EvP.yes h0 (EvP.yes (by omega) ?_))
    have bad : ¬ SlabP f l → EvP (fun k => impl_SlabOk.j1 k (l.length : Int) led (rd l i) l (l.length : Int) i true f l) (fun r => r = true ↔ SlabP f l) := fun h => by
      refine EvP.step ?_
      simp only [impl_SlabOk.j1]
      exact EvP.yes (by simp) (EvP.ret ⟨(fun h => by cases h), fun z => absurd z h⟩)
    have good : ∀ led' : List Bool, led'.length = l.length → (-1 ≤ rd l i ∧ rd l i < (l.length : Int)) → (∀ b : Int, 0 ≤ b → b < i → 0 ≤ rd l b → rd l b ≠ rd l i) →
        (∀ v : Int, 0 ≤ v → v < (l.length : Int) → (rdOf false led' v = true ↔ ∃ j : Int, 0 ≤ j ∧ j < i + 1 ∧ rd l j = v)) →
        EvP (fun k => impl_SlabOk.l0 k (l.length : Int) led' l (l.length : Int) (wrap64 (i + 1)) f l) (fun r => r = true ↔ SlabP f l) := fun led' hb' hn hne hl' => by
      rw [w64 (x := i + 1) (by omega) (by omega)]
      refine ih (i + 1) led' (by omega) (by omega) hb' (fun j j0 j1 => ?_) (fun a b a0 a1 b0 b1 r0 e => ?_) hl'
      · by_cases e : j = i
        · rw [e]; exact hn
        · exact hN j j0 (by omega)
      · by_cases ea : a = i
        · by_cases eb : b = i
          · omega
          · subst ea; exact absurd e.symm (hne b b0 (by omega) (by rw [← e]; exact r0))
        · by_cases eb : b = i
          · subst eb; exact absurd e (hne a a0 (by omega) r0)
          · exact hI a b a0 (by omega) b0 (by omega) r0 e
    unfold impl_within.f
    simp only [w64 (x := (l.length : Int) - 1) (by omega) (by omega)]
    by_cases hn : -1 ≤ rd l i ∧ rd l i < (l.length : Int)
    · rw [if_pos (by omega), decide_eq_true (by omega)]
      simp only [Option.bind_some]
      refine EvP.yes (by simp) (EvP.ite (fun hp => ?_) (fun hp => ?_))
      · refine EvP.yes (by omega) (EvP.yes (by omega) ?_)
        cases hc : rdOf false led (rd l i) with
        | true =>
          obtain ⟨j, j0, j1, e⟩ := (hled _ (by omega) hn.2).1 hc
          exact bad (fun s => by have := s.inj j i j0 (by omega) h0 (by omega) (by omega) e; omega)
        | false =>
          refine EvP.step ?_
          simp only [impl_SlabOk.j1]
          refine EvP.no (by simp) (EvP.yes hp (EvP.yes (by omega) (EvP.yes (by omega) ?_)))
          refine good _ (by rw [List.length_set]; exact hb) hn (fun b b0 b1 b2 e => ?_) (fun v v0 v1 => ?_)
          · rw [(hled _ (by omega) hn.2).2 ⟨b, b0, b1, e⟩] at hc; cases hc
          · rw [rdOf_set led _ v true (by omega) v0 (by omega)]
            by_cases ev : v = rd l i
            · rw [if_pos ev]
              exact ⟨fun _ => ⟨i, h0, by omega, ev.symm⟩, fun _ => rfl⟩
            · rw [if_neg ev, hled v v0 v1]
              constructor
              · rintro ⟨j, j0, j1, e⟩; exact ⟨j, j0, by omega, e⟩
              · rintro ⟨j, j0, j1, e⟩
                refine ⟨j, j0, ?_, e⟩
                by_cases ej : j = i
                · subst ej; exact absurd e.symm ev
                · omega
      · refine EvP.step ?_
        simp only [impl_SlabOk.j1]
        refine EvP.no (by simp) (EvP.no hp ?_)
        refine good led hb hn (fun b b0 b1 b2 e => by omega) (fun v v0 v1 => ?_)
        rw [hled v v0 v1]
        constructor
        · rintro ⟨j, j0, j1, e⟩; exact ⟨j, j0, by omega, e⟩
        · rintro ⟨j, j0, j1, e⟩
          refine ⟨j, j0, ?_, e⟩
          by_cases ej : j = i
          · subst ej; omega
          · omega
    · have e : (if rd l i ≥ -1 then some (decide (rd l i ≤ (l.length : Int) - 1)) else some false) = some false := by
        split
        · rw [decide_eq_false (by omega)]
        · rfl
      rw [e]
      simp only [Option.bind_some]
      exact EvP.no (by simp) (bad (fun s => hn (s.nx i h0 (by omega))))
theorem slabOkImpl {f : Int} {l : List Int} (hf : -9223372036854775808 ≤ f ∧ f ≤ 9223372036854775807) (hw : ∀ x ∈ l, -9223372036854775808 ≤ x ∧ x ≤ 9223372036854775807) : EvP (fun k => impl_SlabOk.f k f l) (fun r => r = true ↔ SlabP f l) := by
  unfold impl_SlabOk.f
  refine EvP.ite (fun h => EvP.ret ⟨(fun z => by cases z), fun s => by have := s.len; omega⟩) (fun h => EvP.yes (by omega) (EvP.yes (by omega) ?_))
  refine slabOk_l0 (by omega) hf hw l.length 0 _ (by omega) (by omega) (by simp) (fun j h1 h2 => by omega) (fun a b a0 a1 => by omega) (fun v v0 v1 => ?_)
  constructor
  · intro h
    rw [rdOf_bool _ v v0 (by simp; omega)] at h
    simp at h
  · rintro ⟨j, j0, j1, _⟩; omega
theorem ahead_l0 {l : List Int} {f v : Int} (hl : (l.length : Int) ≤ 1000000) : ∀ (d : Nat) (i : Int), 0 ≤ i → i + d = (l.length : Int) → (∀ j : Int, 0 ≤ j → j < i → rd l j ≠ v) →
    EvP (fun k => spec_l16Ahead.l0 k v i f l) (fun r => (r = -1 ∧ ∀ j : Int, 0 ≤ j → j < (l.length : Int) → rd l j ≠ v) ∨ (0 ≤ r ∧ r < (l.length : Int) ∧ rd l r = v ∧ ∀ j : Int, 0 ≤ j → j < r → rd l j ≠ v)) := by
  intro d
  induction d with
  | zero =>
    intro i h0 hd hj
    refine EvP.step ?_
    simp only [spec_l16Ahead.l0]
    exact EvP.no (by omega) (EvP.ret (.inl ⟨rfl, fun j j0 j1 => hj j j0 (by omega)⟩))
  | succ d ih =>
    intro i h0 hd hj
    refine EvP.step ?_
    simp only [spec_l16Ahead.l0]
    refine EvP.yes (by omega) (EvP.yes h0 (EvP.ite (fun e => EvP.ret (.inr ⟨h0, by omega, e, hj⟩)) (fun e => ?_)))
    simp only [w64 (x := i + 1) (by omega) (by omega)]
    refine ih (i + 1) (by omega) (by omega) (fun j j0 j1 => ?_)
    by_cases hji : j = i
    · rw [hji]; exact e
    · exact hj j j0 (by omega)
theorem ahead_ok {l : List Int} {f v : Int} (hl : (l.length : Int) ≤ 1000000) : EvP (fun k => spec_l16Ahead.f k f l v) (fun r => (r = -1 ∧ ∀ j : Int, 0 ≤ j → j < (l.length : Int) → rd l j ≠ v) ∨ (0 ≤ r ∧ r < (l.length : Int) ∧ rd l r = v ∧ ∀ j : Int, 0 ≤ j → j < r → rd l j ≠ v)) :=
  ahead_l0 hl l.length 0 (by omega) (by omega) (fun j h1 h2 => by omega)
theorem head_ok {l : List Int} {f v : Int} (hl : (l.length : Int) ≤ 1000000) : EvP (fun k => spec_l16Head.f k f l v) (fun r => r = true ↔ Hd l v) := by
  unfold spec_l16Head.f
  refine EvP.ite (fun h0 => EvP.ite (fun h1 => ?_) (fun h1 => EvP.ret ⟨(fun h => by cases h), fun h => absurd h.2.1 h1⟩)) (fun h0 => EvP.ret ⟨(fun h => by cases h), fun h => absurd h.1 h0⟩)
  refine EvP.bind (ahead_ok hl) ?_
  rintro r (⟨rfl, h⟩ | ⟨r0, r1, r2, _⟩)
  · exact EvP.ret ⟨fun _ => ⟨h0, h1, h⟩, fun _ => rfl⟩
  · refine EvP.ret ⟨fun h => ?_, fun h => absurd r2 (h.2.2 r r0 r1)⟩
    simp at h
    omega
theorem specOk_l12 {f : Int} {l : List Int} (hN : Nx l) (hl : l.length ≤ 128) : ∀ (d : Nat) (i : Int), 0 ≤ i → i + d = (l.length : Int) → (∀ j : Int, 0 ≤ j → j < i → Ends l j) →
    EvP (fun k => spec_SlabOk.l1 k (l.length : Int) i f l) (fun r => r = true ↔ ∀ j : Int, 0 ≤ j → j < (l.length : Int) → Ends l j) := by
  intro d
  induction d with
  | zero =>
    intro i h0 hd hj
    refine EvP.step ?_
    simp only [spec_SlabOk.l1]
    exact EvP.no (by omega) (EvP.ret ⟨fun _ j j0 j1 => hj j j0 (by omega), fun _ => rfl⟩)
  | succ d ih =>
    intro i h0 hd hj
    refine EvP.step ?_
    simp only [spec_SlabOk.l1]
    refine EvP.yes (by omega) ?_
    have next : Ends l i → EvP (fun k => spec_SlabOk.l1 k (l.length : Int) (wrap64 (i + 1)) f l) (fun r => r = true ↔ ∀ j : Int, 0 ≤ j → j < (l.length : Int) → Ends l j) := fun he => by
      rw [w64 (by omega) (by omega)]
      exact ih (i + 1) (by omega) (by omega) (fun j j0 j1 => by
        by_cases e : j = i
        · rw [e]; exact he
        · exact hj j j0 (by omega))
    have inner : ∀ (c : Nat) (a : Nat) (at_ : Int), a + c = l.length → at_ = walkF a l i → EvP (fun k => spec_SlabOk.l2 k (l.length : Int) i at_ (a : Int) f l) (fun r => r = true ↔ ∀ j : Int, 0 ≤ j → j < (l.length : Int) → Ends l j) := by
      intro c
      induction c with
      | zero =>
        intro a at_ ha hat
        refine EvP.step ?_
        simp only [spec_SlabOk.l2]
        refine EvP.no (by omega) (EvP.ite (fun hp => EvP.ret ⟨(fun h => by cases h), fun h => ?_⟩) (fun hp => ?_))
        · have := h i h0 (by omega)
          unfold Ends at this
          rw [show l.length = a by omega, ← hat] at this
          omega
        · refine next ?_
          unfold Ends
          rw [show l.length = a by omega, ← hat]
          omega
      | succ c ihc =>
        intro a at_ ha hat
        refine EvP.step ?_
        simp only [spec_SlabOk.l2]
        refine EvP.yes (by omega) (EvP.ite (fun hp => ?_) (fun hp => ?_))
        · have hlt := walk_lt hN a i (by omega)
          rw [← hat] at hlt
          refine EvP.yes (by omega) (EvP.yes hlt ?_)
          rw [w64 (by omega) (by omega), show (a : Int) + 1 = ((a + 1 : Nat) : Int) by omega]
          exact ihc (a + 1) _ (by omega) (by rw [walk_succ a l i (by rw [← hat]; omega), hat])
        · refine next ?_
          unfold Ends
          rw [show l.length = a + (c + 1) by omega, walk_add, ← hat, walk_neg _ _ _ (by omega)]
          omega
    exact inner l.length 0 i (by omega) rfl
theorem specOk_l0 {f : Int} {l : List Int} (hl : l.length ≤ 128) (hfree : f = -1 ∨ Hd l f) : ∀ (d : Nat) (i : Int), 0 ≤ i → i + d = (l.length : Int) →
      (∀ j : Int, 0 ≤ j → j < i → -1 ≤ rd l j ∧ rd l j < (l.length : Int)) →
      (∀ a b : Int, 0 ≤ a → a < i → 0 ≤ b → b < (l.length : Int) → 0 ≤ rd l a → rd l a = rd l b → a ≤ b) →
    EvP (fun k => spec_SlabOk.l0 k (l.length : Int) i f l) (fun r => r = true ↔ SlabP f l) := by
  intro d
  induction d with
  | zero =>
    intro i h0 hd hN hI
    have e : i = (l.length : Int) := by omega
    subst e
    refine EvP.step ?_
    simp only [spec_SlabOk.l0]
    refine EvP.no (by omega) ?_
    have hN' : Nx l := hN
    have hI' : Inj l := fun a b a0 a1 b0 b1 r e => by
      have h1 := hI a b a0 a1 b0 b1 r e
      have h2 := hI b a b0 b1 a0 a1 (by rw [← e]; exact r) e.symm
      omega
    refine (specOk_l12 hN' hl l.length 0 (by omega) (by omega) (fun j h1 h2 => by omega)).mono ?_
    intro r hr
    rw [hr]
    exact ⟨fun h => ⟨hl, hN', hI', h, hfree⟩, fun s => s.ends⟩
  | succ d ih =>
    intro i h0 hd hN hI
    refine EvP.step ?_
    simp only [spec_SlabOk.l0]
    have bad : ¬ SlabP f l → EvP (fun _ => some false) (fun r : Bool => r = true ↔ SlabP f l) := fun h => EvP.ret ⟨(fun h => by cases h), fun z => absurd z h⟩
    refine EvP.yes (by omega) (EvP.yes h0 (EvP.yes (by omega) (EvP.ite (fun h => bad (fun s => by have := s.nx i h0 (by omega); omega)) (fun h1 => EvP.ite (fun h => bad (fun s => by have := s.nx i h0 (by omega); omega)) (fun h2 => ?_)))))
    have next : (∀ b : Int, 0 ≤ b → b < (l.length : Int) → 0 ≤ rd l i → rd l i = rd l b → i ≤ b) → EvP (fun k => spec_SlabOk.l0 k (l.length : Int) (wrap64 (i + 1)) f l) (fun r => r = true ↔ SlabP f l) := fun hn => by
      rw [w64 (by omega) (by omega)]
      refine ih (i + 1) (by omega) (by omega) (fun j j0 j1 => ?_) (fun a b a0 a1 b0 b1 r e => ?_)
      · by_cases e : j = i
        · rw [e]; exact ⟨by omega, by omega⟩
        · exact hN j j0 (by omega)
      · by_cases ea : a = i
        · subst ea; exact hn b b0 b1 r e
        · exact hI a b a0 (by omega) b0 b1 r e
    refine EvP.ite (fun hp => ?_) (fun hp => next (fun b b0 b1 r => by omega))
    refine EvP.bind (ahead_ok (by omega)) ?_
    rintro r (⟨rfl, h⟩ | ⟨r0, r1, r2, r3⟩)
    · exact absurd rfl (h i h0 (by omega))
    · refine EvP.ite (fun e => ?_) (fun e => bad (fun s => e (s.inj r i r0 r1 h0 (by omega) (by rw [r2]; omega) r2)))
      subst e
      refine next (fun b b0 b1 _ e => ?_)
      by_cases hb : b < r
      · exact absurd e.symm (r3 b b0 hb)
      · omega
theorem slabOkSpec {f : Int} {l : List Int} (hm : l.length ≤ 100000000) : EvP (fun k => spec_SlabOk.f k f l) (fun r => r = true ↔ SlabP f l) := by
  unfold spec_SlabOk.f
  have bad : ¬ SlabP f l → EvP (fun k => spec_SlabOk.j0 k (l.length : Int) true f l) (fun r => r = true ↔ SlabP f l) := fun h => by
    refine EvP.step ?_
    simp only [spec_SlabOk.j0]
    exact EvP.yes (by simp) (EvP.ret ⟨(fun h => by cases h), fun z => absurd z h⟩)
  have good : l.length ≤ 128 → (f = -1 ∨ Hd l f) → EvP (fun k => spec_SlabOk.j0 k (l.length : Int) false f l) (fun r => r = true ↔ SlabP f l) := fun h1 h2 => by
    refine EvP.step ?_
    simp only [spec_SlabOk.j0]
    exact EvP.no (by simp) (specOk_l0 h1 h2 l.length 0 (by omega) (by omega) (fun j h1 h2 => by omega) (fun a b a0 a1 => by omega))
  refine EvP.ite (fun h => bad (fun s => by have := s.len; omega)) (fun h => EvP.ite (fun e => good (by omega) (.inl e)) (fun e => ?_))
  refine EvP.bind (head_ok (by omega)) ?_
  intro b hb
  cases b with
  | true => exact good (by omega) (.inr (hb.1 rfl))
  | false => exact bad (fun s => by
      rcases s.free with h | h
      · exact e h
      · have := hb.2 h; cases this)
def newNext (n : Nat) : List Int := (List.range n).map fun (i : Nat) => if i + 1 = n then -1 else (i : Int) + 1
theorem newNext_length (n : Nat) : (newNext n).length = n := by simp [newNext]
theorem rd_newNext (n : Nat) (i : Int) (h0 : 0 ≤ i) (h1 : i < (n : Int)) : rd (newNext n) i = if i + 1 = (n : Int) then -1 else i + 1 := by
  rw [rd_get _ i h0 (by rw [newNext_length]; exact h1)]
  simp only [newNext, List.getElem_map, List.getElem_range]
  split <;> split <;> omega
def slabNew (n : Int) : Int × List Int := if 0 ≤ n ∧ n ≤ 128 then (if n = 0 then -1 else 0, newNext n.toNat) else (0, [])
theorem rd_snoc (l : List Int) (v i : Int) (h0 : 0 ≤ i) (h1 : i ≤ (l.length : Int)) : rd (l ++ [v]) i = if i = (l.length : Int) then v else rd l i := by
  unfold rd
  rw [List.getD_eq_getElem?_getD, List.getD_eq_getElem?_getD]
  by_cases h : i = (l.length : Int)
  · rw [if_pos h, List.getElem?_append_right (by omega), show i.toNat - l.length = 0 by omega]; rfl
  · rw [if_neg h, List.getElem?_append_left (by omega)]
theorem implNew_l0 {n : Int} (hn : 0 ≤ n ∧ n ≤ 128) : ∀ (d : Nat) (i f : Int) (l : List Int), 0 ≤ i → i + d = n → f = (if i = 0 then -1 else 0) → (l.length : Int) = i → (∀ j : Int, 0 ≤ j → j < i → rd l j = j + 1) →
    EvP (fun k => impl_SlabNew.l0 k n n i f l) (fun r => r = (if n = 0 then -1 else 0, newNext n.toNat)) := by
  intro d
  induction d with
  | zero =>
    intro i f l h0 hd hf hl hr
    refine EvP.step ?_
    simp only [impl_SlabNew.l0]
    refine EvP.no (by omega) (EvP.ite (fun hp => ?_) (fun hp => EvP.ret ?_))
    · simp only [w64 (x := n - 1) (by omega) (by omega)]
      refine EvP.yes (by omega) (EvP.yes (by omega) (EvP.ret ?_))
      rw [hf, show i = n by omega, list_ext_rd (a := l.set (n - 1).toNat (-1)) (b := newNext n.toNat) (by rw [newNext_length, List.length_set]; omega) (fun j h1 h2 => ?_)]
      rw [List.length_set] at h2
      rw [rd_set l (n - 1) j (-1) (by omega) h1 (by omega), rd_newNext _ j h1 (by omega), show (n.toNat : Int) = n by omega]
      by_cases e : j = n - 1
      · rw [if_pos e, if_pos (by omega)]
      · rw [if_neg e, if_neg (by omega)]; exact hr j h1 (by omega)
    · have e : n = 0 := by omega
      subst e
      have e2 : l = [] := List.eq_nil_of_length_eq_zero (by omega)
      subst e2
      rw [hf, show i = 0 by omega]; rfl
  | succ d ih =>
    intro i f l h0 hd hf hl hr
    refine EvP.step ?_
    simp only [impl_SlabNew.l0]
    simp only [w64 (x := i + 1) (by omega) (by omega)]
    refine EvP.yes (by omega) (EvP.yes (by omega) ?_)
    refine ih (i + 1) 0 _ (by omega) (by omega) (by rw [if_neg (by omega)]) (by rw [List.length_append]; simp only [List.length_cons, List.length_nil]; omega) (fun j j0 j1 => ?_)
    rw [rd_snoc l _ j j0 (by omega)]
    by_cases e : j = (l.length : Int)
    · rw [if_pos e]; omega
    · rw [if_neg e]; exact hr j j0 (by omega)
theorem implNew_ok (n : Int) : EvP (fun k => impl_SlabNew.f k n) (fun r => r = slabNew n) := by
  unfold impl_SlabNew.f slabNew
  simp only [within_ok, Option.bind_some]
  refine EvP.ite (fun h => ?_) (fun h => EvP.ret ?_)
  · have h : 0 ≤ n ∧ n ≤ 128 := by simpa using h
    rw [if_pos h]
    exact implNew_l0 h n.toNat 0 (-1) [] (by omega) (by omega) rfl rfl (fun j h1 h2 => by omega)
  · rw [if_neg (by simpa using h)]
theorem SlabP.freeEnds {f : Int} {l : List Int} (h : SlabP f l) : f < (l.length : Int) ∧ Ends l f := by
  rcases h.free with e | e
  · exact ⟨by omega, by unfold Ends; rw [walk_neg _ _ _ (by omega)]; omega⟩
  · exact ⟨e.2.1, h.ends f e.1 e.2.1⟩
theorem SlabP.headEnds {f h : Int} {l : List Int} (s : SlabP f l) (e : Hd l h) : h < (l.length : Int) ∧ Ends l h := ⟨e.2.1, s.ends h e.1 e.2.1⟩
def StoreP (f : Int) (l d : List Int) : Prop := SlabP f l ∧ d.length = 16 * l.length
theorem storeOkImpl {f : Int} {l d : List Int} (hf : -9223372036854775808 ≤ f ∧ f ≤ 9223372036854775807) (hw : ∀ x ∈ l, -9223372036854775808 ≤ x ∧ x ≤ 9223372036854775807) : EvP (fun k => impl_StoreOk.f k f l d) (fun r => r = true ↔ StoreP f l d) := by
  unfold impl_StoreOk.f
  refine EvP.bind (slabOkImpl hf hw) ?_
  intro b hb
  refine EvP.ite (fun h => EvP.ret ?_) (fun h => EvP.ret ⟨(fun h => by cases h), fun s => absurd (hb.2 s.1) h⟩)
  have := (hb.1 h).len
  rw [w64 (by omega) (by omega), beq_iff_eq]
  exact ⟨fun e => ⟨hb.1 h, by omega⟩, fun s => by have := s.2; omega⟩
theorem storeOkSpec {f : Int} {l d : List Int} (hm : l.length ≤ 100000000) : EvP (fun k => spec_StoreOk.f k f l d) (fun r => r = true ↔ StoreP f l d) := by
  unfold spec_StoreOk.f
  refine EvP.bind (slabOkSpec hm) ?_
  intro b hb
  refine EvP.ite (fun h => EvP.ret ?_) (fun h => EvP.ret ⟨(fun h => by cases h), fun s => absurd (hb.2 s.1) h⟩)
  have := (hb.1 h).len
  rw [w64 (by omega) (by omega), beq_iff_eq]
  exact ⟨fun e => ⟨hb.1 h, by omega⟩, fun s => by have := s.2; omega⟩
def blk (d : List Int) (b : Int) : List Int := (d.take (16 * (b + 1)).toNat).drop (16 * b).toNat
def cat (d : List Int) (c : List Int) : List Int := c.flatMap (blk d)
theorem blk_len {d : List Int} {b : Int} (h0 : 0 ≤ b) (h1 : 16 * (b + 1) ≤ (d.length : Int)) : (blk d b).length = 16 := by
  unfold blk
  rw [List.length_drop, List.length_take]; omega
theorem rd_blk {d : List Int} {b i : Int} (h0 : 0 ≤ b) (h1 : 16 * (b + 1) ≤ (d.length : Int)) (i0 : 0 ≤ i) (i1 : i < 16) : rd (blk d b) i = rd d (16 * b + i) := by
  unfold blk rd
  rw [List.getD_eq_getElem?_getD, List.getD_eq_getElem?_getD, List.getElem?_drop, List.getElem?_take]
  rw [if_pos (by omega), show (16 * b).toNat + i.toNat = (16 * b + i).toNat by omega]
theorem cat_len {d : List Int} : ∀ {c : List Int}, (∀ x ∈ c, 0 ≤ x ∧ 16 * (x + 1) ≤ (d.length : Int)) → (cat d c).length = 16 * c.length
  | [], _ => rfl
  | x :: c, h => by
    have h1 := h x (by simp)
    have ih := cat_len (d := d) (c := c) (fun y hy => h y (by simp [hy]))
    unfold cat at ih ⊢
    rw [List.flatMap_cons, List.length_append, blk_len h1.1 h1.2, ih]
    simp only [List.length_cons]; omega
theorem rd_app_left {a b : List Int} {i : Int} (h0 : 0 ≤ i) (h : i < (a.length : Int)) : rd (a ++ b) i = rd a i := by
  unfold rd
  rw [List.getD_eq_getElem?_getD, List.getD_eq_getElem?_getD, List.getElem?_append_left (by omega)]
theorem rd_app_right {a b : List Int} {i : Int} (h : (a.length : Int) ≤ i) : rd (a ++ b) i = rd b (i - a.length) := by
  unfold rd
  rw [List.getD_eq_getElem?_getD, List.getD_eq_getElem?_getD, List.getElem?_append_right (by omega), show (i - (a.length : Int)).toNat = i.toNat - a.length by omega]
theorem rd_cons_zero (x : Int) (c : List Int) : rd (x :: c) 0 = x := rfl
theorem rd_cons_pos {x : Int} {c : List Int} {i : Int} (h : 0 < i) : rd (x :: c) i = rd c (i - 1) := by
  unfold rd
  rw [show i.toNat = (i - 1).toNat + 1 by omega, List.getD_cons_succ]
theorem rd_cat {d : List Int} : ∀ {c : List Int} {i : Int}, (∀ x ∈ c, 0 ≤ x ∧ 16 * (x + 1) ≤ (d.length : Int)) → 0 ≤ i → i < 16 * (c.length : Int) → rd (cat d c) i = rd d (16 * rd c (i / 16) + i % 16)
  | [], i, _, h0, h1 => by simp at h1; omega
  | x :: c, i, h, h0, h1 => by
    have hx := h x (by simp)
    have hl := blk_len hx.1 hx.2
    show rd (blk d x ++ cat d c) i = _
    by_cases hi : i < 16
    · rw [rd_app_left h0 (by omega), rd_blk hx.1 hx.2 h0 hi, show i / 16 = 0 by omega, rd_cons_zero, show i % 16 = i by omega]
    · rw [rd_app_right (by omega), hl, rd_cat (d := d) (c := c) (i := i - (16 : Nat)) (fun y hy => h y (by simp [hy])) (by omega) (by simp only [List.length_cons] at h1; omega), rd_cons_pos (by omega),
        show (i - ((16 : Nat) : Int)) / 16 = i / 16 - 1 by omega, show (i - ((16 : Nat) : Int)) % 16 = i % 16 by omega]
theorem rd_take {l : List Int} {n : Nat} {i : Int} (h : i < (n : Int)) (h0 : 0 ≤ i) : rd (l.take n) i = rd l i := by
  unfold rd
  rw [List.getD_eq_getElem?_getD, List.getD_eq_getElem?_getD, List.getElem?_take, if_pos (by omega)]
theorem ch_at {l : List Int} {i : Int} (he : Ends l i) : ∀ j : Int, 0 ≤ j → j < ((ch l i).length : Int) → (j + 1 < ((ch l i).length : Int) → rd l (rd (ch l i) j) = rd (ch l i) (j + 1)) ∧ (j + 1 = ((ch l i).length : Int) → rd l (rd (ch l i) j) < 0) := by
  refine ends_ind (l := l) (C := fun i => ∀ j : Int, 0 ≤ j → j < ((ch l i).length : Int) → (j + 1 < ((ch l i).length : Int) → rd l (rd (ch l i) j) = rd (ch l i) (j + 1)) ∧ (j + 1 = ((ch l i).length : Int) → rd l (rd (ch l i) j) < 0)) (fun i hi j j0 j1 => ?_) (fun i h0 h ih j j0 j1 => ?_) _ i rfl he
  · rw [ch_nil hi] at j1; simp at j1; omega
  · rw [ch_cons h0 h] at j1 ⊢
    simp only [List.length_cons] at j1 ⊢
    by_cases hj : j = 0
    · subst hj
      rw [rd_cons_zero, rd_cons_pos (by omega), show (0 : Int) + 1 - 1 = 0 by omega]
      constructor
      · intro hl
        by_cases hr : 0 ≤ rd l i
        · rw [ch_cons hr (ends_next h0 h), rd_cons_zero]
        · rw [ch_nil (by omega)] at hl; simp at hl
      · intro hl
        by_cases hr : 0 ≤ rd l i
        · rw [ch_cons hr (ends_next h0 h)] at hl; simp only [List.length_cons] at hl; omega
        · omega
    · obtain ⟨h1, h2⟩ := ih (j - 1) (by omega) (by omega)
      rw [rd_cons_pos (by omega), rd_cons_pos (by omega), show j + 1 - 1 = j - 1 + 1 by omega]
      exact ⟨fun hl => h1 (by omega), fun hl => h2 (by omega)⟩
theorem ch_mem_at {l : List Int} {i j : Int} (h0 : 0 ≤ j) (h1 : j < ((ch l i).length : Int)) : rd (ch l i) j ∈ ch l i := by
  rw [rd_get _ j h0 h1]; exact List.getElem_mem _
theorem ch_first {l : List Int} {i : Int} (he : Ends l i) (h : 0 < (ch l i).length) : 0 ≤ i ∧ rd (ch l i) 0 = i := by
  by_cases h0 : 0 ≤ i
  · exact ⟨h0, by rw [ch_cons h0 he, rd_cons_zero]⟩
  · rw [ch_nil (by omega)] at h; simp at h
theorem clone_ok {l : List Int} (hl : l.length ≤ 1000000) : slices_Clone_int_int.f l = some l := by
  unfold slices_Clone_int_int.f
  rw [Option.bind_some, if_pos (by simp only [List.length_nil]; omega), List.nil_append]
theorem copySlab_ok {f : Int} {l : List Int} (hl : l.length ≤ 1000000) : impl_copySlab.f f l = some (f, l) := by
  unfold impl_copySlab.f
  rw [clone_ok hl, Option.bind_some]
def TakeR (f : Int) (l : List Int) (n : Int) (r : Int × List Int × Int × Int) : Prop :=
  (SlabP f l ∧ 1 ≤ n → (((ch l f).length : Int) < n → r = (0, [], -1, 2)) ∧ (n ≤ ((ch l f).length : Int) → r = (rd l (rd (ch l f) (n - 1)), l.set (rd (ch l f) (n - 1)).toNat (-1), f, 0))) ∧ (¬ (SlabP f l ∧ 1 ≤ n) → r = (0, [], -1, 1))
theorem takeImpl {f n : Int} {l : List Int} (hf : -9223372036854775808 ≤ f ∧ f ≤ 9223372036854775807) (hw : ∀ x ∈ l, -9223372036854775808 ≤ x ∧ x ≤ 9223372036854775807) (hn : -9223372036854775808 ≤ n ∧ n ≤ 9223372036854775807) : EvP (fun k => impl_SlabTake.f k f l n) (TakeR f l n) := by
  unfold impl_SlabTake.f
  refine EvP.bind (slabOkImpl hf hw) ?_
  intro b hb
  have bad : ¬ (SlabP f l ∧ 1 ≤ n) → EvP (fun k => impl_SlabTake.j0 k n true f l) (TakeR f l n) := fun z => by
    refine EvP.step ?_
    simp only [impl_SlabTake.j0]
    exact EvP.yes (by simp) (EvP.ret ⟨fun s => absurd s z, fun _ => rfl⟩)
  refine EvP.ite (fun e => ?_) (fun e => bad (fun s => e (hb.2 s.1)))
  have s := hb.1 e
  have hsl := s.len
  by_cases h1 : n < 1
  · rw [decide_eq_true h1]; exact bad (fun z => by omega)
  rw [decide_eq_false h1]
  refine EvP.step ?_
  simp only [impl_SlabTake.j0]
  refine EvP.no (by simp) (EvP.bind (chainImpl s.nx (by omega) s.freeEnds.1 s.freeEnds.2) ?_)
  rintro _ rfl
  have hle := ch_len_le s.nx s.freeEnds.1 s.freeEnds.2
  refine EvP.ite (fun h2 => EvP.ret ⟨fun _ => ⟨fun _ => rfl, fun z => by omega⟩, fun z => absurd ⟨s, by omega⟩ z⟩) (fun h2 => ?_)
  simp only [copySlab_ok (f := f) (l := l) (by omega), Option.bind_some, w64 (x := n - 1) (by omega) (by omega)]
  have hr := ch_range s.nx s.freeEnds.1 _ (ch_mem_at (l := l) (i := f) (j := n - 1) (by omega) (by omega))
  refine EvP.yes (by omega) (EvP.yes (by omega) (EvP.yes hr.1 (EvP.yes hr.2 (EvP.yes hr.2 (EvP.ret ?_)))))
  exact ⟨fun _ => ⟨fun z => by omega, fun _ => rfl⟩, fun z => absurd ⟨s, by omega⟩ z⟩
def GiveR (f : Int) (l : List Int) (h : Int) (r : Int × List Int × Int) : Prop :=
  (SlabP f l → (Hd l h ∧ h ≠ f → r = (h, l.set (rd (ch l h) (((ch l h).length : Int) - 1)).toNat f, 0)) ∧ (¬ (Hd l h ∧ h ≠ f) → r = (0, [], 3))) ∧ (¬ SlabP f l → r = (0, [], 1))
theorem ch_head_pos {l : List Int} {h : Int} (hh : Hd l h) (he : Ends l h) : 0 < (ch l h).length := by
  rw [ch_cons hh.1 he]; simp
theorem giveImpl {f h : Int} {l : List Int} (hf : -9223372036854775808 ≤ f ∧ f ≤ 9223372036854775807) (hw : ∀ x ∈ l, -9223372036854775808 ≤ x ∧ x ≤ 9223372036854775807) (hh : -9223372036854775808 ≤ h ∧ h ≤ 9223372036854775807) : EvP (fun k => impl_SlabGive.f k f l h) (GiveR f l h) := by
  unfold impl_SlabGive.f
  refine EvP.bind (slabOkImpl hf hw) ?_
  intro b hb
  refine EvP.ite (fun e => ?_) (fun e => EvP.ret ⟨fun s => absurd (hb.2 s) e, fun _ => rfl⟩)
  have s := hb.1 e
  have hsl := s.len
  have bad : ¬ (Hd l h ∧ h ≠ f) → EvP (fun k => impl_SlabGive.j0 k h true f l) (GiveR f l h) := fun z => by
    refine EvP.step ?_
    simp only [impl_SlabGive.j0]
    exact EvP.yes (by simp) (EvP.ret ⟨fun _ => ⟨fun y => absurd y z, fun _ => rfl⟩, fun y => absurd s y⟩)
  refine EvP.bind (isHead_ok (by omega) hh) ?_
  intro c hc
  refine EvP.ite (fun e => ?_) (fun e => bad (fun s => e (hc.2 s.1)))
  have hd := hc.1 e
  by_cases hne : h = f
  · simp only [show (h == f) = true from by simpa using hne]
    exact bad (fun s => s.2 hne)
  · simp only [show (h == f) = false from by simpa using hne]
    refine EvP.step ?_
    simp only [impl_SlabGive.j0]
    simp only [copySlab_ok (f := f) (l := l) (by omega), Option.bind_some]
    refine EvP.no (by simp) (EvP.bind (chainImpl s.nx (by omega) (s.headEnds hd).1 (s.headEnds hd).2) ?_)
    rintro _ rfl
    have hle := ch_len_le s.nx (s.headEnds hd).1 (s.headEnds hd).2
    have hpos := ch_head_pos hd (s.headEnds hd).2
    rw [w64 (x := ((ch l h).length : Int) - 1) (by omega) (by omega)]
    have hr := ch_range s.nx (s.headEnds hd).1 _ (ch_mem_at (l := l) (i := h) (j := ((ch l h).length : Int) - 1) (by omega) (by omega))
    refine EvP.yes (by omega) (EvP.yes (by omega) (EvP.yes hr.1 (EvP.yes hr.2 (EvP.ret ?_))))
    exact ⟨fun _ => ⟨fun _ => rfl, fun z => absurd ⟨hd, hne⟩ z⟩, fun z => absurd s z⟩
theorem cut_rd {l : List Int} {a i : Int} (h0 : 0 ≤ a) (h1 : a < (l.length : Int)) (hi : 0 ≤ i) : rd (l.set a.toNat (-1)) i = if i = a then -1 else rd l i := rd_set l a i (-1) h0 hi h1
theorem cut_walk {l : List Int} {a : Int} (h0 : 0 ≤ a) (h1 : a < (l.length : Int)) : ∀ (k : Nat) (i : Int), walkF k l i < 0 → walkF k (l.set a.toNat (-1)) i < 0
  | 0, i, h => h
  | k + 1, i, h => by
    rw [walkF] at h ⊢
    by_cases hi : 0 ≤ i
    · rw [if_pos hi] at h ⊢
      rw [cut_rd h0 h1 hi]
      by_cases e : i = a
      · rw [if_pos e, walk_neg _ _ _ (by omega)]; omega
      · rw [if_neg e]; exact cut_walk h0 h1 k _ h
    · rw [if_neg hi] at h ⊢; exact h
theorem cut_ends {l : List Int} {a i : Int} (h0 : 0 ≤ a) (h1 : a < (l.length : Int)) (h : Ends l i) : Ends (l.set a.toNat (-1)) i := by
  unfold Ends at h ⊢
  rw [List.length_set]
  exact cut_walk h0 h1 _ _ h
theorem cut_take {l : List Int} {a : Int} (h0 : 0 ≤ a) (h1 : a < (l.length : Int)) : ∀ (m : Nat) (i : Int), Ends l i → m < (ch l i).length → rd (ch l i) (m : Int) = a → ch (l.set a.toNat (-1)) i = (ch l i).take (m + 1) ∧ ch l (rd l a) = (ch l i).drop (m + 1)
  | 0, i, he, hm, ha => by
    have hi := ch_first he hm
    have e : i = a := by rw [← ha, show ((0 : Nat) : Int) = 0 from rfl, hi.2]
    subst e
    rw [ch_cons hi.1 (cut_ends h0 h1 he), cut_rd h0 h1 hi.1, if_pos rfl, ch_nil (l := l.set i.toNat (-1)) (i := -1) (by decide), ch_cons hi.1 he]
    exact ⟨rfl, rfl⟩
  | m + 1, i, he, hm, ha => by
    have hi := ch_first he (by omega)
    have hnd := ch_nodup he
    rw [ch_cons hi.1 he] at hm ha hnd ⊢
    rw [rd_cons_pos (by omega), show ((m + 1 : Nat) : Int) - 1 = (m : Int) by omega] at ha
    have hm' : m < (ch l (rd l i)).length := by simpa using hm
    have hmem : a ∈ ch l (rd l i) := by rw [← ha]; exact ch_mem_at (by omega) (by omega)
    have e : i ≠ a := fun e => (List.nodup_cons.1 hnd).1 (e ▸ hmem)
    have ih := cut_take h0 h1 m (rd l i) (ends_next hi.1 he) hm' ha
    rw [ch_cons hi.1 (cut_ends h0 h1 he), cut_rd h0 h1 hi.1, if_neg e, ih.1, ih.2]
    exact ⟨rfl, rfl⟩
theorem cut_same {l : List Int} {a i : Int} (h0 : 0 ≤ a) (h1 : a < (l.length : Int)) (he : Ends l i) : a ∉ ch l i → ch (l.set a.toNat (-1)) i = ch l i := by
  refine ends_ind (C := fun i => a ∉ ch l i → ch (l.set a.toNat (-1)) i = ch l i) (fun i hi _ => by rw [ch_nil hi, ch_nil hi]) (fun i hi he ih hn => ?_) _ i rfl he
  rw [ch_cons hi he] at hn ⊢
  have e : i ≠ a := fun e => hn (by simp [e])
  rw [ch_cons hi (cut_ends h0 h1 he), cut_rd h0 h1 hi, if_neg e, ih (fun g => hn (by simp [g]))]
theorem cut_slab {f a : Int} {l : List Int} (s : SlabP f l) (ha : a ∈ ch l f) : SlabP (rd l a) (l.set a.toNat (-1)) ∧ Hd (l.set a.toNat (-1)) f ∧ f ≠ rd l a := by
  have hr := ch_range s.nx s.freeEnds.1 a ha
  have f0 : 0 ≤ f := by
    by_cases h : 0 ≤ f
    · exact h
    · rw [ch_nil (by omega)] at ha; cases ha
  have hf : Hd l f := by
    rcases s.free with e | e
    · omega
    · exact e
  have hlen : (l.set a.toNat (-1)).length = l.length := List.length_set
  have hna := s.nx a hr.1 hr.2
  refine ⟨⟨by rw [hlen]; exact s.len, fun i i0 i1 => ?_, fun i j i0 i1 j0 j1 g e => ?_, fun i i0 i1 => cut_ends hr.1 hr.2 (s.ends i i0 (by omega)), ?_⟩, ⟨hf.1, by rw [hlen]; exact hf.2.1, fun i i0 i1 => ?_⟩, fun e => hf.2.2 a hr.1 hr.2 e.symm⟩
  · rw [cut_rd hr.1 hr.2 i0, hlen]
    have := s.nx i i0 (by omega)
    split <;> omega
  · rw [cut_rd hr.1 hr.2 i0] at g e
    rw [cut_rd hr.1 hr.2 j0] at e
    by_cases ei : i = a
    · rw [if_pos ei] at g; omega
    · rw [if_neg ei] at g e
      by_cases ej : j = a
      · rw [if_pos ej] at e; omega
      · rw [if_neg ej] at e
        exact s.inj i j i0 (by omega) j0 (by omega) g e
  · by_cases h : 0 ≤ rd l a
    · refine .inr ⟨h, by rw [hlen]; omega, fun i i0 i1 => ?_⟩
      rw [cut_rd hr.1 hr.2 i0]
      split
      · omega
      · rename_i e
        intro g
        exact e (s.inj i a i0 (by omega) hr.1 hr.2 (by omega) g)
    · exact .inl (by omega)
  · rw [cut_rd hr.1 hr.2 i0]
    split
    · omega
    · exact hf.2.2 i i0 (by omega)
def splice (d : List Int) (lo : Nat) (ys : List Int) : List Int := d.take lo ++ (ys ++ d.drop (lo + ys.length))
def setFrom (x c : List Int) : Nat → Int → List Int → List Int
  | 0, _, d => d
  | n + 1, j, d => setFrom x c n (j + 1) (d.set (16 * rd c (j / 16) + j % 16).toNat (rd x j))
def putFrom (x c : List Int) : Nat → Int → List Int → List Int
  | 0, _, d => d
  | n + 1, i, d => putFrom x c n (i + 1) (splice d (16 * rd c i).toNat ((x.drop (16 * i).toNat).take 16))
theorem splice_nil (d : List Int) (lo : Nat) : splice d lo [] = d := by
  unfold splice
  rw [List.nil_append, List.length_nil, Nat.add_zero, List.take_append_drop]
theorem splice_len {d ys : List Int} {lo : Nat} (h : lo + ys.length ≤ d.length) : (splice d lo ys).length = d.length := by
  unfold splice
  simp only [List.length_append, List.length_take, List.length_drop]
  omega
theorem splice_cons {d : List Int} {lo : Nat} (y : Int) (ys : List Int) (h : lo < d.length) : splice d lo (y :: ys) = splice (d.set lo y) (lo + 1) ys := by
  unfold splice
  have e1 : (d.set lo y).take (lo + 1) = d.take lo ++ [y] := by
    rw [List.take_succ_eq_append_getElem (by rw [List.length_set]; exact h), List.getElem_set_self, List.take_set_of_le (Nat.le_refl _)]
  rw [e1, List.drop_set_of_lt (by omega), List.length_cons, List.append_assoc, show lo + (ys.length + 1) = lo + 1 + ys.length by omega]
  rfl
theorem setFrom_add (x c : List Int) : ∀ (m n : Nat) (j : Int) (d : List Int), setFrom x c (m + n) j d = setFrom x c n (j + m) (setFrom x c m j d)
  | 0, n, j, d => by rw [Nat.zero_add, setFrom, show j + ((0 : Nat) : Int) = j by omega]
  | m + 1, n, j, d => by
    rw [show m + 1 + n = (m + n) + 1 by omega, setFrom, setFrom, setFrom_add x c m n, show j + 1 + (m : Int) = j + ((m + 1 : Nat) : Int) by omega]
theorem setFrom_len (x c : List Int) : ∀ (n : Nat) (j : Int) (d : List Int), (setFrom x c n j d).length = d.length
  | 0, _, _ => rfl
  | n + 1, j, d => by rw [setFrom, setFrom_len x c n, List.length_set]
theorem setFrom_blk {x c : List Int} {i : Int} (hi : 0 ≤ i) (hb : 0 ≤ rd c i) : ∀ (k : Nat) (r : Int) (d : List Int), 0 ≤ r → r + k ≤ 16 → 16 * i + r + k ≤ (x.length : Int) → 16 * rd c i + r + k ≤ (d.length : Int) → setFrom x c k (16 * i + r) d = splice d (16 * rd c i + r).toNat ((x.drop (16 * i + r).toNat).take k)
  | 0, r, d, _, _, _, _ => by rw [List.take_zero, splice_nil, setFrom]
  | k + 1, r, d, h0, h1, h2, h3 => by
    have e1 : (16 * i + r) / 16 = i := by omega
    have e2 : (16 * i + r) % 16 = r := by omega
    rw [setFrom, e1, e2, show 16 * i + r + 1 = 16 * i + (r + 1) by omega, setFrom_blk hi hb k (r + 1) _ (by omega) (by omega) (by omega) (by rw [List.length_set]; omega)]
    rw [List.drop_eq_getElem_cons (i := (16 * i + r).toNat) (by omega), List.take_succ_cons, splice_cons _ _ (by omega), ← rd_get x (16 * i + r) (by omega) (by omega)]
    rw [show (16 * rd c i + r).toNat + 1 = (16 * rd c i + (r + 1)).toNat by omega, show (16 * i + r).toNat + 1 = (16 * i + (r + 1)).toNat by omega]
theorem putFrom_eq {x c : List Int} {D : Nat} (hc : ∀ y ∈ c, 0 ≤ y ∧ 16 * (y + 1) ≤ (D : Int)) : ∀ (n : Nat) (i : Int) (d : List Int), 0 ≤ i → i + n = (c.length : Int) → d.length = D → (x.length : Int) ≤ 16 * (c.length : Int) → putFrom x c n i d = setFrom x c (x.length - (16 * i).toNat) (16 * i) d
  | 0, i, d, h0, h1, h2, h3 => by
    rw [show x.length - (16 * i).toNat = 0 by omega, putFrom, setFrom]
  | n + 1, i, d, h0, h1, h2, h3 => by
    have hx : rd c i ∈ c := by rw [rd_get c i h0 (by omega)]; exact List.getElem_mem _
    have hr := hc _ hx
    rw [putFrom]
    by_cases hz : (x.length : Int) ≤ 16 * i
    · rw [List.drop_of_length_le (by omega), List.take_nil, splice_nil, putFrom_eq hc n (i + 1) d (by omega) (by omega) h2 h3, show x.length - (16 * (i + 1)).toNat = 0 by omega, show x.length - (16 * i).toNat = 0 by omega, setFrom, setFrom]
    · obtain ⟨k, hk⟩ : ∃ k, k = min 16 (x.length - (16 * i).toNat) := ⟨_, rfl⟩
      have ht : (x.drop (16 * i).toNat).take 16 = (x.drop (16 * i).toNat).take k := by
        by_cases h16 : k = 16
        · rw [h16]
        · rw [List.take_of_length_le (by rw [List.length_drop]; omega), List.take_of_length_le (by rw [List.length_drop]; omega)]
      have hb := setFrom_blk (x := x) (c := c) h0 hr.1 k 0 d (by omega) (by omega) (by omega) (by omega)
      simp only [Int.add_zero] at hb
      rw [ht, ← hb, putFrom_eq hc n (i + 1) _ (by omega) (by omega) (by rw [setFrom_len]; exact h2) h3, show x.length - (16 * i).toNat = k + (x.length - (16 * (i + 1)).toNat) by omega, setFrom_add]
      by_cases h16 : k = 16
      · rw [show 16 * (i + 1) = 16 * i + (k : Int) by omega]
      · rw [show x.length - (16 * (i + 1)).toNat = 0 by omega, setFrom, setFrom]
theorem implPut_l0 {f h : Int} {l x c : List Int} {D : Nat} (hc : ∀ y ∈ c, 0 ≤ y ∧ 16 * (y + 1) ≤ (D : Int)) (hD : D ≤ 1000000) (hx : x.length ≤ 1048576) (hcl : c.length ≤ 1000) : ∀ (n : Nat) (i : Int) (d : List Int), 0 ≤ i → i + n = (c.length : Int) → d.length = D →
    EvP (fun k => impl_StorePut.l0 k x h c (c.length : Int) i f l d) (fun r => r = (f, l, putFrom x c n i d, h, 0)) := by
  intro n
  induction n with
  | zero =>
    intro i d h0 hn hd
    refine EvP.step ?_
    simp only [impl_StorePut.l0]
    exact EvP.no (by omega) (EvP.ret rfl)
  | succ n ih =>
    intro i d h0 hn hd
    have hm : rd c i ∈ c := by rw [rd_get c i h0 (by omega)]; exact List.getElem_mem _
    have hr := hc _ hm
    have hb := blk_len (d := d) hr.1 (by omega)
    unfold blk at hb
    have hmn := mn_le (x.length : Int) (16 * i)
    have e1 : x.drop (mn (x.length : Int) (16 * i)).toNat = x.drop (16 * i).toNat := by
      rcases hmn.2.2 with e | e
      · rw [e, List.drop_of_length_le (by omega), List.drop_of_length_le (by omega)]
      · rw [e]
    refine EvP.step ?_
    simp only [impl_StorePut.l0]
    simp only [w64 (x := 16 * rd c i) (by omega) (by omega), w64 (x := rd c i + 1) (by omega) (by omega), w64 (x := i + 1) (by omega) (by omega), w64 (x := 16 * i) (by omega) (by omega)]
    simp only [w64 (x := 16 * (rd c i + 1)) (by omega) (by omega)]
    refine EvP.yes (by omega) (EvP.yes h0 (EvP.yes (by omega) (EvP.yes (by omega) (EvP.yes (by omega) (EvP.yes (by omega) ?_)))))
    refine EvP.bind (EvP.ret rfl) ?_
    rintro _ rfl
    refine EvP.yes (by omega) (EvP.yes hmn.1 ?_)
    rw [hb, e1]
    have e2 : d.take (16 * rd c i).toNat ++ ((x.drop (16 * i).toNat).take (min (x.drop (16 * i).toNat).length 16) ++ d.drop ((16 * rd c i).toNat + min (x.drop (16 * i).toNat).length 16)) = splice d (16 * rd c i).toNat ((x.drop (16 * i).toNat).take 16) := by
      unfold splice
      have e3 : (x.drop (16 * i).toNat).take (min (x.drop (16 * i).toNat).length 16) = (x.drop (16 * i).toNat).take 16 := by
        by_cases h16 : 16 ≤ (x.drop (16 * i).toNat).length
        · rw [Nat.min_eq_right h16]
        · rw [List.take_of_length_le (by omega), List.take_of_length_le (by omega)]
      rw [e3, List.length_take, Nat.min_comm]
    rw [e2]
    refine ih (i + 1) _ (by omega) (by omega) ?_
    rw [splice_len (by rw [List.length_take]; omega)]
    exact hd
/-- What a taking has made. -/
theorem take_made {f n : Int} {l : List Int} {q : Int × List Int × Int × Int} (s : SlabP f l) (hn : 1 ≤ n) (h : TakeR f l n q) (hq : q.2.2.2 = 0) : SlabP q.1 q.2.1 ∧ q.2.2.1 < (q.2.1.length : Int) ∧ Ends q.2.1 q.2.2.1 ∧ q.2.1.length = l.length ∧ ((ch q.2.1 q.2.2.1).length : Int) = n ∧ ∀ y ∈ ch q.2.1 q.2.2.1, 0 ≤ y ∧ y < (l.length : Int) := by
  have h1 := h.1 ⟨s, hn⟩
  by_cases h2 : ((ch l f).length : Int) < n
  · have := h1.1 h2
    subst this
    cases hq
  · have := h1.2 (by omega)
    subst this
    have ha := ch_mem_at (l := l) (i := f) (j := n - 1) (by omega) (by omega)
    have hr := ch_range s.nx s.freeEnds.1 _ ha
    have hs := cut_slab s ha
    have hc := cut_take hr.1 hr.2 (n - 1).toNat f s.freeEnds.2 (by omega) (by rw [show (((n - 1).toNat : Nat) : Int) = n - 1 by omega])
    have hl : (l.set (rd (ch l f) (n - 1)).toNat (-1)).length = l.length := List.length_set
    dsimp only
    refine ⟨hs.1, (hs.1.headEnds hs.2.1).1, (hs.1.headEnds hs.2.1).2, hl, ?_, fun y hy => ?_⟩
    · rw [hc.1, List.length_take]; omega
    · rw [hc.1] at hy
      exact ch_range s.nx s.freeEnds.1 y (List.mem_of_mem_take hy)
/-- What StorePut comes to. -/
def SPutR (f : Int) (l d x : List Int) (r : Int × List Int × List Int × Int × Int) : Prop :=
  (StoreP f l d → ∃ q, TakeR f l (mx 1 (((x.length : Int) + 15) / 16)) q ∧ r = if q.2.2.2 = 0 then (q.1, q.2.1, setFrom x (ch q.2.1 q.2.2.1) x.length 0 d, q.2.2.1, 0) else (0, [], [], -1, q.2.2.2)) ∧ (¬ StoreP f l d → r = (0, [], [], -1, 1))
theorem need_in {n : Nat} (h : n ≤ 1048576) : 1 ≤ mx 1 (((n : Int) + 15) / 16) ∧ mx 1 (((n : Int) + 15) / 16) ≤ 100000 ∧ (n : Int) ≤ 16 * mx 1 (((n : Int) + 15) / 16) ∧ mx 1 (wrap64 (Int.tdiv (wrap64 ((wrap64 ((n : Int) + 16)) - 1)) 16)) = mx 1 (((n : Int) + 15) / 16) := by
  have := mx_le 1 (((n : Int) + 15) / 16)
  refine ⟨by omega, by omega, by omega, ?_⟩
  rw [w64 (x := (n : Int) + 16) (by omega) (by omega), w64 (x := (n : Int) + 16 - 1) (by omega) (by omega), tdiv_pos (by omega), w64 (by omega) (by omega), show (n : Int) + 16 - 1 = n + 15 by omega]
theorem sputImpl {f : Int} {l d x : List Int} (hf : -9223372036854775808 ≤ f ∧ f ≤ 9223372036854775807) (hw : ∀ x ∈ l, -9223372036854775808 ≤ x ∧ x ≤ 9223372036854775807) (hx : x.length ≤ 1048576) :
    EvP (fun k => impl_StorePut.f k f l d x) (SPutR f l d x) := by
  have hn := need_in hx
  unfold impl_StorePut.f
  refine EvP.bind (storeOkImpl hf hw) (fun t ht => ?_)
  refine EvP.ite (fun e => ?_) (fun e => EvP.ret ⟨fun s => absurd (ht.2 s) e, fun _ => rfl⟩)
  have s := ht.1 e
  have h3 := s.1.len
  have h4 := s.2
  rw [hn.2.2.2]
  refine EvP.bind (takeImpl hf hw (n := mx 1 (((x.length : Int) + 15) / 16)) (by omega)) (fun q hq => ?_)
  refine EvP.ite (fun e => ?_) (fun e => EvP.ret ⟨fun _ => ⟨q, hq, by rw [if_neg e]⟩, fun z => absurd s z⟩)
  refine EvP.bind (P := fun r => r = d) ?_ ?_
  · unfold slices_Clone_byte_byte.f
    refine EvP.bind (EvP.ret rfl) ?_
    rintro _ rfl
    refine EvP.yes (by simp only [List.length_nil]; omega) (EvP.ret ?_)
    rw [List.nil_append]
  intro d' hd'
  rw [hd']
  have m := take_made s.1 hn.1 hq e
  refine EvP.bind (chainImpl m.1.nx (by omega) m.2.1 m.2.2.1) ?_
  rintro _ rfl
  have hle := ch_len_le m.1.nx m.2.1 m.2.2.1
  have hc : ∀ y ∈ ch q.2.1 q.2.2.1, 0 ≤ y ∧ 16 * (y + 1) ≤ ((d.length : Nat) : Int) := fun y hy => by have := m.2.2.2.2.2 y hy; omega
  refine (implPut_l0 hc (by omega) hx (by omega) (ch q.2.1 q.2.2.1).length 0 d (by omega) (by omega) rfl).mono ?_
  rintro r rfl
  refine ⟨fun _ => ⟨q, hq, ?_⟩, fun z => absurd s z⟩
  rw [if_pos e, putFrom_eq hc (ch q.2.1 q.2.2.1).length 0 d (by omega) (by omega) rfl (by omega)]
  rfl
inductive IsCh (l : List Int) : Int → List Int → Prop where
  | nil {i : Int} (h : i < 0) : IsCh l i []
  | cons {i : Int} {c : List Int} (h : 0 ≤ i) (t : IsCh l (rd l i) c) : IsCh l i (i :: c)
theorem IsCh.of {l : List Int} {i : Int} (he : Ends l i) : IsCh l i (ch l i) :=
  ends_ind (C := fun i => IsCh l i (ch l i)) (fun i h => by rw [ch_nil h]; exact IsCh.nil h) (fun i h e ih => by rw [ch_cons h e]; exact IsCh.cons h ih) _ i rfl he
theorem IsCh.walk {l : List Int} {i : Int} {c : List Int} (h : IsCh l i c) : walkF c.length l i < 0 ∧ chainF c.length l i = c := by
  induction h with
  | nil h => exact ⟨h, rfl⟩
  | cons h t ih =>
    rw [List.length_cons, walkF, chainF, if_pos h, if_pos h, ih.2]
    exact ⟨ih.1, rfl⟩
theorem IsCh.ends {l : List Int} {i : Int} {c : List Int} (h : IsCh l i c) (hl : c.length ≤ l.length) : Ends l i ∧ ch l i = c := by
  have hw := h.walk
  unfold Ends ch
  obtain ⟨d, hd⟩ : ∃ d, l.length = c.length + d := ⟨l.length - c.length, by omega⟩
  rw [hd, walk_add, chain_ends _ _ _ hw.1, walk_neg _ _ _ hw.1]
  exact hw
theorem IsCh.set_far {l : List Int} {i z v : Int} {c : List Int} (h : IsCh l i c) (h0 : 0 ≤ z) (h1 : z < (l.length : Int)) : z ∉ c → IsCh (l.set z.toNat v) i c := by
  induction h with
  | nil h => exact fun _ => IsCh.nil h
  | cons h t ih =>
    intro hz
    refine IsCh.cons h ?_
    rw [rd_set _ _ _ _ h0 h h1, if_neg (fun e => hz (by simp [e]))]
    exact ih (fun g => hz (by simp [g]))
theorem IsCh.set_last {l : List Int} {i z f : Int} {c cf : List Int} (h : IsCh l i c) (h0 : 0 ≤ z) (h1 : z < (l.length : Int)) (hl : rd l z < 0) (hf : IsCh (l.set z.toNat f) f cf) : z ∈ c → IsCh (l.set z.toNat f) i (c ++ cf) := by
  induction h with
  | nil h => exact fun hz => by cases hz
  | cons h t ih =>
    rename_i j c
    intro hz
    refine IsCh.cons h ?_
    rw [rd_set _ _ _ _ h0 h h1]
    by_cases e : j = z
    · rw [if_pos e]
      subst e
      cases t with
      | nil _ => exact hf
      | cons h' _ => omega
    · rw [if_neg e]
      exact ih (by rcases List.mem_cons.1 hz with g | g; exact absurd g.symm e; exact g)
theorem ch_sub {l : List Int} {f i : Int} (hf : Ends l f) (hi : Ends l i) : i ∈ ch l f → ∀ y ∈ ch l i, y ∈ ch l f := by
  refine ends_ind (C := fun i => i ∈ ch l f → ∀ y ∈ ch l i, y ∈ ch l f) (fun i h _ y hy => by rw [ch_nil h] at hy; cases hy) (fun i h e ih hm y hy => ?_) _ i rfl hi
  rw [ch_cons h e] at hy
  rcases List.mem_cons.1 hy with g | g
  · rw [g]; exact hm
  · by_cases hn : 0 ≤ rd l i
    · exact ih (ch_next hf i hm hn) y g
    · rw [ch_nil (by omega)] at g; cases g
theorem give_slab {f h : Int} {l : List Int} (s : SlabP f l) (hh : Hd l h) (hne : h ≠ f) :
    SlabP h (l.set (rd (ch l h) (((ch l h).length : Int) - 1)).toNat f) ∧ ch (l.set (rd (ch l h) (((ch l h).length : Int) - 1)).toNat f) h = ch l h ++ ch l f ∧
    ∀ i, Hd l i → i ≠ h → i ≠ f → Hd (l.set (rd (ch l h) (((ch l h).length : Int) - 1)).toNat f) i ∧ ch (l.set (rd (ch l h) (((ch l h).length : Int) - 1)).toNat f) i = ch l i := by
  have he := s.headEnds hh
  have hp := ch_head_pos hh he.2
  have zm := ch_mem_at (l := l) (i := h) (j := ((ch l h).length : Int) - 1) (by omega) (by omega)
  have zl := (ch_at he.2 (((ch l h).length : Int) - 1) (by omega) (by omega)).2 (by omega)
  generalize rd (ch l h) (((ch l h).length : Int) - 1) = z at zm zl
  have zr := ch_range s.nx he.1 z zm
  have hlen : (l.set z.toNat f).length = l.length := List.length_set
  have fh : ∀ y, y ∈ ch l f → Hd l f := fun y hy => by
    rcases s.free with e | e
    · rw [e, ch_nil (by decide)] at hy; cases hy
    · exact e
  have zf : z ∉ ch l f := fun g => hne (heads_apart s.nx s.inj hh (fh z g) zm g)
  have isf : IsCh (l.set z.toNat f) f (ch l f) := (IsCh.of s.freeEnds.2).set_far zr.1 zr.2 zf
  have hr := fun (i : Int) (i0 : 0 ≤ i) => rd_set l z i f zr.1 i0 zr.2
  have far : ∀ i, i < (l.length : Int) → Ends l i → z ∉ ch l i → Ends (l.set z.toNat f) i ∧ ch (l.set z.toNat f) i = ch l i := fun i il ie g =>
    ((IsCh.of ie).set_far zr.1 zr.2 g).ends (by rw [hlen]; exact ch_len_le s.nx il ie)
  have near : ∀ i, i < (l.length : Int) → Ends l i → z ∈ ch l i → Ends (l.set z.toNat f) i ∧ ch (l.set z.toNat f) i = ch l i ++ ch l f := fun i il ie g => by
    refine ((IsCh.of ie).set_last zr.1 zr.2 zl isf g).ends ?_
    rw [hlen]
    refine pigeon _ _ (List.nodup_append.2 ⟨ch_nodup ie, ch_nodup s.freeEnds.2, fun a ha b hb e => ?_⟩) (fun y hy => ?_)
    · subst e
      have hf := fh a hb
      rcases ch_meet s.nx s.inj ie s.freeEnds.2 il s.freeEnds.1 a ha hb with q | q
      · exact zf (ch_sub s.freeEnds.2 ie q z g)
      · by_cases e : f = i
        · exact zf (e ▸ g)
        · obtain ⟨y, hy, y0, hyf⟩ := ch_prev ie f q e
          have := ch_range s.nx il y hy
          exact hf.2.2 y this.1 this.2 hyf
    · rcases List.mem_append.1 hy with q | q
      · exact ch_range s.nx il y q
      · exact ch_range s.nx s.freeEnds.1 y q
  have hd' : ∀ i, Hd l i → i ≠ f → Hd (l.set z.toNat f) i := fun i hi hif => ⟨hi.1, by rw [hlen]; exact hi.2.1, fun j j0 j1 => by
    rw [hr j j0]
    split
    · exact fun e => hif e.symm
    · exact hi.2.2 j j0 (by omega)⟩
  refine ⟨⟨by rw [hlen]; exact s.len, fun i i0 i1 => ?_, fun i j i0 i1 j0 j1 g e => ?_, fun i i0 i1 => ?_, .inr (hd' h hh hne)⟩, (near h he.1 he.2 zm).2, fun i hi hih hif => ⟨hd' i hi hif, ?_⟩⟩
  · rw [hr i i0, hlen]
    have := s.nx i i0 (by omega)
    have := s.freeEnds.1
    have : -1 ≤ f := by
      rcases s.free with e | e
      · omega
      · have := e.1; omega
    split <;> omega
  · rw [hr i i0] at g e
    rw [hr j j0] at e
    by_cases ei : i = z
    · rw [if_pos ei] at g e
      by_cases ej : j = z
      · omega
      · rw [if_neg ej] at e
        rcases s.free with q | q
        · omega
        · exact absurd e.symm (q.2.2 j j0 (by omega))
    · rw [if_neg ei] at g e
      by_cases ej : j = z
      · rw [if_pos ej] at e
        rcases s.free with q | q
        · omega
        · exact absurd e (q.2.2 i i0 (by omega))
      · rw [if_neg ej] at e
        exact s.inj i j i0 (by omega) j0 (by omega) g e
  · have ie := s.ends i i0 (by omega)
    by_cases g : z ∈ ch l i
    · exact (near i (by omega) ie g).1
    · exact (far i (by omega) ie g).1
  · have ie := s.headEnds hi
    exact (far i ie.1 ie.2 (fun g => hih (heads_apart s.nx s.inj hi hh g zm))).2
theorem take_slab {f n : Int} {l : List Int} (s : SlabP f l) (h1 : 1 ≤ n) (h2 : n ≤ ((ch l f).length : Int)) :
    SlabP (rd l (rd (ch l f) (n - 1))) (l.set (rd (ch l f) (n - 1)).toNat (-1)) ∧ Hd (l.set (rd (ch l f) (n - 1)).toNat (-1)) f ∧ f ≠ rd l (rd (ch l f) (n - 1)) ∧
    ch (l.set (rd (ch l f) (n - 1)).toNat (-1)) f = (ch l f).take n.toNat ∧ ((ch (l.set (rd (ch l f) (n - 1)).toNat (-1)) (rd l (rd (ch l f) (n - 1)))).length : Int) = ((ch l f).length : Int) - n ∧
    ∀ i, Hd l i → i ≠ f → Hd (l.set (rd (ch l f) (n - 1)).toNat (-1)) i ∧ i ≠ rd l (rd (ch l f) (n - 1)) ∧ ch (l.set (rd (ch l f) (n - 1)).toNat (-1)) i = ch l i ∧ ∀ y ∈ ch l i, y ∉ ch l f := by
  have am := ch_mem_at (l := l) (i := f) (j := n - 1) (by omega) (by omega)
  have ar := ch_range s.nx s.freeEnds.1 _ am
  have hs := cut_slab s am
  have hc := cut_take ar.1 ar.2 (n - 1).toNat f s.freeEnds.2 (by omega) (by rw [show (((n - 1).toNat : Nat) : Int) = n - 1 by omega])
  have hlen : (l.set (rd (ch l f) (n - 1)).toNat (-1)).length = l.length := List.length_set
  have f0 := ch_first s.freeEnds.2 (by omega)
  have hf : Hd l f := by
    rcases s.free with e | e
    · omega
    · exact e
  rw [show (n - 1).toNat + 1 = n.toNat by omega] at hc
  generalize ha : rd (ch l f) (n - 1) = a at am ar hs hc hlen
  have hna := s.nx a ar.1 ar.2
  refine ⟨hs.1, hs.2.1, hs.2.2, hc.1, ?_, fun i hi hif => ⟨⟨hi.1, by rw [hlen]; exact hi.2.1, fun j j0 j1 => ?_⟩, fun e => hi.2.2 a ar.1 ar.2 e.symm, ?_, fun y hy g => hif (heads_apart s.nx s.inj hi hf hy g)⟩⟩
  · have hnm : a ∉ ch l (rd l a) := by
      rw [hc.2]
      intro g
      have hnd := ch_nodup s.freeEnds.2
      obtain ⟨q, hq, hqe⟩ := List.mem_iff_getElem.1 g
      rw [List.getElem_drop] at hqe
      rw [rd_get _ (n - 1) (by omega) (by omega)] at ha
      have := (List.getElem_inj hnd).1 (hqe.trans ha.symm)
      omega
    by_cases h0 : 0 ≤ rd l a
    · rw [cut_same ar.1 ar.2 (s.ends _ h0 hna.2) hnm, hc.2, List.length_drop]
      omega
    · have e2 : (ch l f).drop n.toNat = [] := by rw [← hc.2, ch_nil (by omega)]
      rw [ch_nil (by omega)]
      have := congrArg List.length e2
      rw [List.length_drop] at this
      simp only [List.length_nil] at this ⊢
      omega
  · rw [cut_rd ar.1 ar.2 j0]
    split
    · have := hi.1; omega
    · exact hi.2.2 j j0 (by omega)
  · have ie := s.headEnds hi
    exact cut_same ar.1 ar.2 ie.2 (fun g => hif (heads_apart s.nx s.inj hi hf g am))
theorem setFrom_far {x c : List Int} {pos : Int} (h0 : 0 ≤ pos) : ∀ (n : Nat) (j : Int) (d : List Int), (∀ p, j ≤ p → p < j + n → 0 ≤ 16 * rd c (p / 16) + p % 16 ∧ 16 * rd c (p / 16) + p % 16 < (d.length : Int) ∧ pos ≠ 16 * rd c (p / 16) + p % 16) → rd (setFrom x c n j d) pos = rd d pos
  | 0, _, _, _ => rfl
  | n + 1, j, d, h => by
    have hj := h j (by omega) (by omega)
    rw [setFrom, setFrom_far h0 n (j + 1) _ (fun p p0 p1 => by rw [List.length_set]; exact h p (by omega) (by omega)), rd_set _ _ _ _ hj.1 h0 hj.2.1, if_neg hj.2.2]
theorem setFrom_at {x c : List Int} : ∀ (n : Nat) (j : Int) (d : List Int) (p : Int), j ≤ p → p < j + n → (∀ p, j ≤ p → p < j + n → 0 ≤ 16 * rd c (p / 16) + p % 16 ∧ 16 * rd c (p / 16) + p % 16 < (d.length : Int)) →
    (∀ p q, j ≤ p → p < j + n → j ≤ q → q < j + n → 16 * rd c (p / 16) + p % 16 = 16 * rd c (q / 16) + q % 16 → p = q) → rd (setFrom x c n j d) (16 * rd c (p / 16) + p % 16) = rd x p
  | 0, j, d, p, h0, h1, _, _ => by omega
  | n + 1, j, d, p, h0, h1, hr, hi => by
    have hj := hr j (by omega) (by omega)
    rw [setFrom]
    by_cases e : p = j
    · subst e
      rw [setFrom_far hj.1 n (p + 1) _ (fun q q0 q1 => ?_), rd_set _ _ _ _ hj.1 hj.1 hj.2, if_pos rfl]
      have := hr q (by omega) (by omega)
      rw [List.length_set]
      refine ⟨this.1, this.2, fun e => ?_⟩
      have := hi p q (by omega) (by omega) (by omega) (by omega) e
      omega
    · exact setFrom_at n (j + 1) _ p (by omega) (by omega) (fun q q0 q1 => by rw [List.length_set]; exact hr q (by omega) (by omega)) (fun q q' a1 a2 a3 a4 => hi q q' (by omega) (by omega) (by omega) (by omega))
theorem rd_inj {c : List Int} (hn : c.Nodup) {a b : Int} (a0 : 0 ≤ a) (a1 : a < (c.length : Int)) (b0 : 0 ≤ b) (b1 : b < (c.length : Int)) (h : rd c a = rd c b) : a = b := by
  rw [rd_get c a a0 a1, rd_get c b b0 b1] at h
  have := (List.getElem_inj hn).1 h
  omega
theorem rd_mem {c : List Int} {i : Int} (h0 : 0 ≤ i) (h1 : i < (c.length : Int)) : rd c i ∈ c := by
  rw [rd_get c i h0 h1]; exact List.getElem_mem _
theorem put_content {x c d : List Int} (hn : c.Nodup) (hc : ∀ y ∈ c, 0 ≤ y ∧ 16 * (y + 1) ≤ (d.length : Int)) (hx : (x.length : Int) ≤ 16 * (c.length : Int)) : (cat (setFrom x c x.length 0 d) c).take x.length = x := by
  have hc' : ∀ y ∈ c, 0 ≤ y ∧ 16 * (y + 1) ≤ ((setFrom x c x.length 0 d).length : Int) := fun y hy => by rw [setFrom_len]; exact hc y hy
  have hcl := cat_len hc'
  refine list_ext_rd (by rw [List.length_take]; omega) (fun i h0 h1 => ?_)
  rw [List.length_take] at h1
  rw [rd_take (by omega) h0, rd_cat hc' h0 (by omega)]
  refine setFrom_at x.length 0 d i (by omega) (by omega) (fun p p0 p1 => ?_) (fun p q p0 p1 q0 q1 e => ?_)
  · have := hc _ (rd_mem (c := c) (i := p / 16) (by omega) (by omega)); omega
  · have hp := hc _ (rd_mem (c := c) (i := p / 16) (by omega) (by omega))
    have hq := hc _ (rd_mem (c := c) (i := q / 16) (by omega) (by omega))
    have := rd_inj hn (a := p / 16) (b := q / 16) (by omega) (by omega) (by omega) (by omega) (by omega)
    omega
theorem put_other {x c d : List Int} (hc : ∀ y ∈ c, 0 ≤ y ∧ 16 * (y + 1) ≤ (d.length : Int)) (hx : (x.length : Int) ≤ 16 * (c.length : Int)) : ∀ (c' : List Int), (∀ y ∈ c', 0 ≤ y ∧ 16 * (y + 1) ≤ (d.length : Int)) → (∀ y ∈ c', y ∉ c) → cat (setFrom x c x.length 0 d) c' = cat d c'
  | [], _, _ => rfl
  | b :: c', hr, hd => by
    have ih := put_other hc hx c' (fun y hy => hr y (by simp [hy])) (fun y hy => hd y (by simp [hy]))
    have hb := hr b (by simp)
    have hb' := hd b (by simp)
    unfold cat at ih ⊢
    rw [List.flatMap_cons, List.flatMap_cons, ih]
    congr 1
    have h1 : 16 * (b + 1) ≤ ((setFrom x c x.length 0 d).length : Int) := by rw [setFrom_len]; exact hb.2
    refine list_ext_rd (by rw [blk_len hb.1 h1, blk_len hb.1 hb.2]) (fun i i0 i1 => ?_)
    rw [blk_len hb.1 h1] at i1
    rw [rd_blk hb.1 h1 i0 (by omega), rd_blk hb.1 hb.2 i0 (by omega)]
    refine setFrom_far (by omega) x.length 0 d (fun p p0 p1 => ?_)
    have hm := rd_mem (c := c) (i := p / 16) (by omega) (by omega)
    have := hc _ hm
    refine ⟨by omega, by omega, fun e => hb' ?_⟩
    rw [show b = rd c (p / 16) by omega]
    exact hm
theorem new_ch (n : Nat) : ∀ (m : Nat) (i : Int), 0 ≤ i → i + (m + 1 : Nat) = (n : Int) → ∃ c, IsCh (newNext n) i c ∧ c.length = m + 1
  | 0, i, h0, h1 => ⟨[i], IsCh.cons h0 (IsCh.nil (by rw [rd_newNext n i h0 (by omega), if_pos (by omega)]; decide)), rfl⟩
  | m + 1, i, h0, h1 => by
    obtain ⟨c, hc, hl⟩ := new_ch n m (i + 1) (by omega) (by omega)
    exact ⟨i :: c, IsCh.cons h0 (by rw [rd_newNext n i h0 (by omega), if_neg (by omega)]; exact hc), by rw [List.length_cons, hl]⟩
theorem new_slab {n : Nat} (h1 : 1 ≤ n) (h2 : n ≤ 128) : SlabP 0 (newNext n) ∧ (ch (newNext n) 0).length = n := by
  have hl := newNext_length n
  have all : ∀ i : Int, 0 ≤ i → i < (n : Int) → ∃ c, IsCh (newNext n) i c ∧ (c.length : Int) = n - i := fun i i0 i1 => by
    obtain ⟨c, hc, hcl⟩ := new_ch n (n - 1 - i.toNat) i i0 (by omega)
    exact ⟨c, hc, by omega⟩
  refine ⟨⟨by rw [hl]; exact h2, fun i i0 i1 => ?_, fun i j i0 i1 j0 j1 g e => ?_, fun i i0 i1 => ?_, .inr ⟨by decide, by rw [hl]; omega, fun i i0 i1 => ?_⟩⟩, ?_⟩
  · rw [hl] at i1 ⊢
    rw [rd_newNext n i i0 i1]; split <;> omega
  · rw [hl] at i1 j1
    rw [rd_newNext n i i0 i1] at g e
    rw [rd_newNext n j j0 j1] at e
    split at e <;> split at e <;> split at g <;> omega
  · rw [hl] at i1
    obtain ⟨c, hc, hcl⟩ := all i i0 i1
    exact (hc.ends (by rw [hl]; omega)).1
  · rw [hl] at i1
    rw [rd_newNext n i i0 i1]; split <;> omega
  · obtain ⟨c, hc, hcl⟩ := all 0 (by decide) (by omega)
    rw [(hc.ends (by rw [hl]; omega)).2]; omega
/-- What StoreGet comes to. -/
def GetP (f : Int) (l d : List Int) (h n : Int) : Prop := StoreP f l d ∧ Hd l h ∧ h ≠ f ∧ 0 ≤ n ∧ n ≤ 16 * ((ch l h).length : Int)
def GetR (f : Int) (l d : List Int) (h n : Int) (r : List Int × Bool) : Prop := (GetP f l d h n → r = ((cat d (ch l h)).take n.toNat, true)) ∧ (¬ GetP f l d h n → r = ([], false))
theorem chain_in {f : Int} {l d : List Int} {h : Int} (s : StoreP f l d) (hh : Hd l h) : ∀ x ∈ ch l h, 0 ≤ x ∧ 16 * (x + 1) ≤ (d.length : Int) := fun x hx => by
  have := ch_range s.1.nx hh.2.1 x hx
  have := s.2
  omega
theorem implGet_l0 {f n : Int} {l d c : List Int} (hc : ∀ x ∈ c, 0 ≤ x ∧ 16 * (x + 1) ≤ (d.length : Int)) (hl : c.length ≤ 1000) (hd : d.length ≤ 1000000) (hn : -9223372036854775808 ≤ n ∧ n ≤ 9223372036854775807) : ∀ (m : Nat) (i : Int), 0 ≤ i → i + m = (c.length : Int) →
    EvP (fun k => impl_StoreGet.l0 k n (cat d (c.take i.toNat)) c (c.length : Int) i f l d) (fun r => r = if 0 ≤ n ∧ n ≤ 16 * (c.length : Int) then ((cat d c).take n.toNat, true) else ([], false)) := by
  intro m
  induction m with
  | zero =>
    intro i h0 hm
    refine EvP.step ?_
    simp only [impl_StoreGet.l0]
    refine EvP.no (by omega) ?_
    rw [List.take_of_length_le (by omega)]
    have hcl := cat_len hc
    simp only [within_ok, Option.bind_some]
    refine EvP.ite (fun h => ?_) (fun h => EvP.ret (by rw [if_neg (by simp at h; omega)]))
    have h : 0 ≤ n ∧ n ≤ ((cat d c).length : Int) := by simpa using h
    refine EvP.yes (by omega) (EvP.yes (by omega) (EvP.ret ?_))
    rw [if_pos (by omega)]
  | succ m ih =>
    intro i h0 hm
    have hx : rd c i ∈ c := by rw [rd_get c i h0 (by omega)]; exact List.getElem_mem _
    have hr := hc _ hx
    refine EvP.step ?_
    simp only [impl_StoreGet.l0]
    simp only [w64 (x := 16 * rd c i) (by omega) (by omega), w64 (x := rd c i + 1) (by omega) (by omega), w64 (x := i + 1) (by omega) (by omega)]
    simp only [w64 (x := 16 * (rd c i + 1)) (by omega) (by omega)]
    have hb := blk_len hr.1 hr.2
    have hcl := cat_len (d := d) (c := c.take i.toNat) (fun x hx => hc x (List.mem_of_mem_take hx))
    rw [List.length_take] at hcl
    have e : cat d (c.take i.toNat) ++ blk d (rd c i) = cat d (c.take (i + 1).toNat) := by
      rw [show (i + 1).toNat = i.toNat + 1 by omega, List.take_succ_eq_append_getElem (by omega), ← rd_get c i h0 (by omega)]
      unfold cat
      rw [List.flatMap_append]
      simp
    refine EvP.yes (by omega) (EvP.yes h0 (EvP.yes (by omega) (EvP.yes (by omega) (EvP.yes (by omega) (EvP.yes hr.2 (EvP.yes ?_ ?_))))))
    · show (cat d (c.take i.toNat)).length + (blk d (rd c i)).length < _
      rw [hb, hcl]; omega
    · show EvP (fun k => impl_StoreGet.l0 k n (cat d (c.take i.toNat) ++ blk d (rd c i)) c (c.length : Int) (i + 1) f l d) _
      rw [e]
      exact ih (i + 1) (by omega) (by omega)
theorem implGet_ok {f h n : Int} {l d : List Int} (hf : -9223372036854775808 ≤ f ∧ f ≤ 9223372036854775807) (hw : ∀ x ∈ l, -9223372036854775808 ≤ x ∧ x ≤ 9223372036854775807) (hh : -9223372036854775808 ≤ h ∧ h ≤ 9223372036854775807) (hn : -9223372036854775808 ≤ n ∧ n ≤ 9223372036854775807) :
    EvP (fun k => impl_StoreGet.f k f l d h n) (GetR f l d h n) := by
  unfold impl_StoreGet.f
  refine EvP.bind (storeOkImpl hf hw) ?_
  intro b hb
  have bad : ¬ GetP f l d h n → EvP (fun k => impl_StoreGet.j0 k h n true f l d) (GetR f l d h n) := fun z => by
    refine EvP.step ?_
    simp only [impl_StoreGet.j0]
    exact EvP.yes (by simp) (EvP.ret ⟨fun s => absurd s z, fun _ => rfl⟩)
  refine EvP.ite (fun e => ?_) (fun e => bad (fun s => e (hb.2 s.1)))
  have s := hb.1 e
  have hsl := s.1.len
  refine EvP.bind (isHead_ok (by omega) hh) ?_
  intro c hc
  refine EvP.ite (fun e => ?_) (fun e => bad (fun s => e (hc.2 s.2.1)))
  have hd := hc.1 e
  by_cases hne : h = f
  · simp only [show (h == f) = true from by simpa using hne]
    exact bad (fun s => s.2.2.1 hne)
  · simp only [show (h == f) = false from by simpa using hne]
    refine EvP.step ?_
    simp only [impl_StoreGet.j0]
    refine EvP.no (by simp) (EvP.bind (chainImpl s.1.nx (by omega) (s.1.headEnds hd).1 (s.1.headEnds hd).2) ?_)
    rintro _ rfl
    have hle := ch_len_le s.1.nx (s.1.headEnds hd).1 (s.1.headEnds hd).2
    have := s.2
    refine (implGet_l0 (chain_in s hd) (by omega) (by omega) hn (ch l h).length 0 (by omega) (by omega)).mono ?_
    rintro r rfl
    refine ⟨fun z => by rw [if_pos z.2.2.2], fun z => by rw [if_neg (fun y => z ⟨s, hd, hne, y⟩)]⟩
/-- What StoreGive comes to. -/
def SGiveR (f : Int) (l d : List Int) (h : Int) (r : Int × List Int × List Int × Int) : Prop :=
  (StoreP f l d → ∃ q, GiveR f l h q ∧ r = if q.2.2 = 0 then (q.1, q.2.1, d, 0) else (0, [], [], q.2.2)) ∧ (¬ StoreP f l d → r = (0, [], [], 1))
theorem sgiveImpl {f h : Int} {l d : List Int} (hf : -9223372036854775808 ≤ f ∧ f ≤ 9223372036854775807) (hw : ∀ x ∈ l, -9223372036854775808 ≤ x ∧ x ≤ 9223372036854775807) (hh : -9223372036854775808 ≤ h ∧ h ≤ 9223372036854775807) :
    EvP (fun k => impl_StoreGive.f k f l d h) (SGiveR f l d h) := by
  unfold impl_StoreGive.f
  refine EvP.bind (storeOkImpl hf hw) (fun t ht => ?_)
  refine EvP.ite (fun e => ?_) (fun e => EvP.ret ⟨fun s => absurd (ht.2 s) e, fun _ => rfl⟩)
  have s := ht.1 e
  have h3 := s.1.len
  have h4 := s.2
  refine EvP.bind (giveImpl hf hw hh) (fun q hq => ?_)
  refine EvP.ite (fun e => ?_) (fun e => EvP.ret ⟨fun _ => ⟨q, hq, by rw [if_neg e]⟩, fun z => absurd s z⟩)
  refine EvP.bind (P := fun r => r = d) ?_ ?_
  · unfold slices_Clone_byte_byte.f
    refine EvP.bind (EvP.ret rfl) ?_
    rintro _ rfl
    refine EvP.yes (by simp only [List.length_nil]; omega) (EvP.ret ?_)
    rw [List.nil_append]
  rintro _ rfl
  exact EvP.ret ⟨fun _ => ⟨q, hq, by rw [if_pos e]⟩, fun z => absurd s z⟩
theorem roomImpl {f : Int} {l : List Int} (hf : -9223372036854775808 ≤ f ∧ f ≤ 9223372036854775807) (hw : ∀ x ∈ l, -9223372036854775808 ≤ x ∧ x ≤ 9223372036854775807) : EvP (fun k => impl_SlabRoom.f k f l) (fun r => (SlabP f l → r = ((ch l f).length : Int)) ∧ (¬ SlabP f l → r = -1)) := by
  unfold impl_SlabRoom.f
  refine EvP.bind (slabOkImpl (f := f) (l := l) hf hw) ?_
  intro b hb
  refine EvP.ite (fun h => ?_) (fun h => EvP.ret ⟨fun s => absurd (hb.2 s) h, fun _ => rfl⟩)
  have s := hb.1 h
  refine EvP.bind (chainImpl s.nx (by have := s.len; omega) s.freeEnds.1 s.freeEnds.2) ?_
  rintro _ rfl
  exact EvP.ret ⟨fun _ => rfl, fun n => absurd s n⟩
theorem chainOp {f h : Int} {l : List Int} (hf : -9223372036854775808 ≤ f ∧ f ≤ 9223372036854775807) (hw : ∀ x ∈ l, -9223372036854775808 ≤ x ∧ x ≤ 9223372036854775807) (hh : -9223372036854775808 ≤ h ∧ h ≤ 9223372036854775807) : EvP (fun k => impl_SlabChain.f k f l h) (fun r => SlabP f l ∧ Hd l h → r = ch l h) := by
  unfold impl_SlabChain.f
  refine EvP.bind (slabOkImpl (f := f) (l := l) hf hw) ?_
  intro b hb
  refine EvP.ite (fun e => ?_) (fun e => EvP.ret (fun s => absurd (hb.2 s.1) e))
  have s := hb.1 e
  refine EvP.bind (isHead_ok (by have := s.len; omega) hh) ?_
  intro c hc
  refine EvP.ite (fun e => ?_) (fun e => EvP.ret (fun s => absurd (hc.2 s.2) e))
  have hd := hc.1 e
  refine EvP.bind (chainImpl s.nx (by have := s.len; omega) (s.headEnds hd).1 (s.headEnds hd).2) ?_
  rintro _ rfl
  exact EvP.ret (fun _ => rfl)

def need (t : List Int) : Int := mx 1 (((t.length : Int) + 15) / 16)
theorem need_pos {t : List Int} (h : t.length ≤ 60) : 1 ≤ need t ∧ need t ≤ 4 ∧ (t.length : Int) ≤ 16 * need t := by
  have := mx_le 1 (((t.length : Int) + 15) / 16)
  unfold need
  omega
theorem need_w {n : Nat} (h : n ≤ 60) : mx 1 (wrap64 (Int.tdiv (wrap64 ((n : Int) + 15)) 16)) = mx 1 (((n : Int) + 15) / 16) := by
  rw [w64 (x := (n : Int) + 15) (by omega) (by omega), tdiv_pos (by omega), w64 (by omega) (by omega)]
structure Held (f : Int) (l d : List Int) (p : Int × List Int) : Prop where
  hd : Hd l p.1
  ne : p.1 ≠ f
  len : ((ch l p.1).length : Int) = need p.2
  txt : (cat d (ch l p.1)).take p.2.length = p.2
  sz : p.2.length ≤ 60
structure Book (f : Int) (l d : List Int) (ps : List (Int × List Int)) (room : Int) : Prop where
  st : StoreP f l d
  each : ∀ p ∈ ps, Held f l d p
  nd : (ps.map (·.1)).Nodup
  room : room = ((ch l f).length : Int)
theorem SlabP.free64 {f : Int} {l : List Int} (s : SlabP f l) : -9223372036854775808 ≤ f ∧ f ≤ 9223372036854775807 := by
  have := s.len
  rcases s.free with e | e
  · omega
  · have := e.1; have := e.2.1; omega
theorem SlabP.all64 {f : Int} {l : List Int} (s : SlabP f l) : ∀ x ∈ l, -9223372036854775808 ≤ x ∧ x ≤ 9223372036854775807 := fun x hx => by
  obtain ⟨i, hi, e⟩ := List.mem_iff_getElem.1 hx
  have h := s.nx i (by omega) (by omega)
  rw [rd_get l i (by omega) (by omega)] at h
  have := s.len
  simp only [Int.toNat_natCast] at h
  rw [e] at h
  omega
theorem Book.le {f : Int} {l d : List Int} {ps : List (Int × List Int)} {room : Int} (b : Book f l d ps room) : 0 ≤ room ∧ room ≤ 128 := by
  have := ch_len_le b.st.1.nx b.st.1.freeEnds.1 b.st.1.freeEnds.2
  have := b.st.1.len
  have := b.room
  omega
theorem Book.put {f : Int} {l d x : List Int} {ps : List (Int × List Int)} {room : Int} (b : Book f l d ps room) (hx : x.length ≤ 60) {r : Int × List Int × List Int × Int × Int} (h : SPutR f l d x r) :
    (r.2.2.2.2 = 0 ↔ need x ≤ room) ∧ (r.2.2.2.2 = 0 → Book r.1 r.2.1 r.2.2.1 (ps ++ [(r.2.2.2.1, x)]) (room - need x)) := by
  obtain ⟨q, hq, rfl⟩ := h.1 b.st
  have s := b.st.1
  have hn := need_pos hx
  have hq' := hq.1 ⟨s, hn.1⟩
  have hroom := b.room
  by_cases hlt : ((ch l f).length : Int) < need x
  · have e := hq'.1 hlt
    subst e
    rw [if_neg (by decide)]
    exact ⟨⟨(fun h => by cases h), (fun h => by omega)⟩, (fun h => by cases h)⟩
  · have e := hq'.2 (by unfold need at hlt; omega)
    subst e
    rw [if_pos rfl]
    refine ⟨⟨fun _ => by omega, fun _ => rfl⟩, fun _ => ?_⟩
    have t := take_slab s hn.1 (by omega)
    dsimp only
    unfold need at t
    have hst := b.st.2
    have hlen : (l.set (rd (ch l f) (mx 1 (((x.length : Int) + 15) / 16) - 1)).toNat (-1)).length = l.length := List.length_set
    have hcr : ∀ y ∈ (ch l f).take (need x).toNat, 0 ≤ y ∧ 16 * (y + 1) ≤ (d.length : Int) := fun y hy => by
      have := ch_range s.nx s.freeEnds.1 y (List.mem_of_mem_take hy)
      omega
    have hcl : (((ch l f).take (need x).toNat).length : Int) = need x := by rw [List.length_take]; omega
    have e4 := t.2.2.2.1
    refine ⟨⟨t.1, by rw [setFrom_len, hlen]; exact hst⟩, fun p hp => ?_, ?_, by rw [t.2.2.2.2.1, hroom]; rfl⟩
    · rcases List.mem_append.1 hp with g | g
      · have hp := b.each p g
        have tp := t.2.2.2.2.2 p.1 hp.hd hp.ne
        refine ⟨tp.1, tp.2.1, by rw [tp.2.2.1]; exact hp.len, ?_, hp.sz⟩
        have ie := s.headEnds hp.hd
        have hpo := put_other (x := x) hcr (by rw [hcl]; exact hn.2.2) (ch l p.1) (fun y hy => by have := ch_range s.nx ie.1 y hy; omega) (fun y hy g => tp.2.2.2 y hy (List.mem_of_mem_take g))
        rw [e4, tp.2.2.1]
        refine Eq.trans (congrArg (List.take p.2.length) ?_) hp.txt
        exact hpo
      · have : p = (f, x) := by simpa using g
        subst this
        refine ⟨t.2.1, t.2.2.1, ?_, ?_, hx⟩
        · dsimp only
          rw [e4]
          exact hcl
        · dsimp only
          rw [e4]
          exact put_content ((ch_nodup s.freeEnds.2).sublist (List.take_sublist _ _)) hcr (by rw [show (ch l f).take (mx 1 (((x.length : Int) + 15) / 16)).toNat = (ch l f).take (need x).toNat from rfl, hcl]; exact hn.2.2)
    · rw [List.map_append]
      refine List.nodup_append.2 ⟨b.nd, by simp, fun a ha c hc e => ?_⟩
      obtain ⟨p, hp, rfl⟩ := List.mem_map.1 ha
      have hc : c = f := by simpa using hc
      exact (b.each p hp).ne (e.trans hc)
theorem Book.give {f : Int} {l d : List Int} {A B : List (Int × List Int)} {p : Int × List Int} {room : Int} (b : Book f l d (A ++ p :: B) room) {r : Int × List Int × List Int × Int} (h : SGiveR f l d p.1 r) :
    r.2.2.2 = 0 ∧ Book r.1 r.2.1 r.2.2.1 (A ++ B) (room + need p.2) := by
  obtain ⟨q, hq, rfl⟩ := h.1 b.st
  have s := b.st.1
  have hp := b.each p (by simp)
  have e := (hq.1 s).1 ⟨hp.hd, hp.ne⟩
  subst e
  rw [if_pos rfl]
  refine ⟨rfl, ?_⟩
  have g := give_slab s hp.hd hp.ne
  have hnd := b.nd
  rw [List.map_append, List.map_cons] at hnd
  have hnm := (List.Perm.nodup_iff List.perm_middle).1 hnd
  rw [← List.map_append] at hnm
  have hnd2 := List.nodup_cons.1 hnm
  refine ⟨⟨g.1, by rw [List.length_set]; exact b.st.2⟩, fun o ho => ?_, hnd2.2, ?_⟩
  · have ho' := b.each o (by rcases List.mem_append.1 ho with z | z <;> simp [z])
    have hne : o.1 ≠ p.1 := fun e => hnd2.1 (e ▸ List.mem_map.2 ⟨o, ho, rfl⟩)
    have t := g.2.2 o.1 ho'.hd hne ho'.ne
    exact ⟨t.1, hne, by rw [t.2]; exact ho'.len, by rw [t.2]; exact ho'.txt, ho'.sz⟩
  · dsimp only
    rw [g.2.1, List.length_append, b.room]
    have := hp.len
    omega
theorem rdOf_texts {ps : List (Int × List Int)} {i : Int} (h0 : 0 ≤ i) (h1 : i < (ps.length : Int)) : ∃ p ∈ ps, rd (ps.map (·.1)) i = p.1 ∧ rdOf ByteArray.empty (ps.map fun p => strOfNums p.2) i = strOfNums p.2 ∧ ps = ps.take i.toNat ++ p :: ps.drop (i + 1).toNat := by
  refine ⟨ps[i.toNat]'(by omega), List.getElem_mem _, ?_, ?_, ?_⟩
  · rw [rd_get _ i h0 (by rw [List.length_map]; exact h1), List.getElem_map]
  · unfold rdOf
    rw [List.getD_eq_getElem?_getD, List.getElem?_eq_getElem (by rw [List.length_map]; omega), List.getElem_map]
    rfl
  · rw [show (i + 1).toNat = i.toNat + 1 by omega, List.getElem_cons_drop, List.take_append_drop]
theorem book_l2 {f room : Int} {l d : List Int} {ps : List (Int × List Int)} (b : Book f l d ps room) (hp : ps.length ≤ 1000) : ∀ (n : Nat) (i : Int), 0 ≤ i → i + n = (ps.length : Int) →
    EvP (fun k => laws_FnStoreBook.l2 k (ps.map (·.1)) (ps.map fun p => strOfNums p.2) room i f l d) (fun r => r = true) := by
  intro n
  have s := b.st.1
  have h64 := s.free64
  have hl64 := s.all64
  induction n with
  | zero =>
    intro i h0 hn
    refine EvP.step ?_
    simp only [laws_FnStoreBook.l2]
    refine EvP.no (by rw [List.length_map]; omega) ?_
    refine EvP.bind (storeOkSpec (by have := s.len; omega)) (fun t ht => EvP.yes (ht.2 b.st) ?_)
    refine EvP.bind (roomImpl h64 hl64) (fun r hr => EvP.ret ?_)
    rw [hr.1 s, b.room]
    simp
  | succ n ih =>
    intro i h0 hn
    obtain ⟨p, hm, e1, e2, _⟩ := rdOf_texts (ps := ps) h0 (by omega)
    have hh := b.each p hm
    have hsl := s.len
    have hnp := need_pos hh.sz
    have hlen := hh.len
    refine EvP.step ?_
    simp only [laws_FnStoreBook.l2]
    rw [e1, e2, strOfNums_size, w64 (x := i + 1) (by omega) (by omega)]
    refine EvP.yes (by rw [List.length_map]; omega) (EvP.yes h0 (EvP.yes (by rw [List.length_map]; omega) ?_))
    have h1 := hh.hd.1
    have h2 := hh.hd.2.1
    have hsz := hh.sz
    refine EvP.bind (implGet_ok (f := f) (h := p.1) (n := (p.2.length : Int)) (l := l) (d := d) h64 hl64 (by omega) (by omega)) (fun r hr => ?_)
    have er := hr.1 ⟨b.st, hh.hd, hh.ne, by omega, by omega⟩
    subst er
    rw [Int.toNat_natCast, hh.txt]
    refine EvP.yes rfl (EvP.yes rfl ?_)
    refine EvP.bind (chainOp h64 hl64 (by omega)) (fun c hc => ?_)
    have ec := hc ⟨s, hh.hd⟩
    subst ec
    refine EvP.yes ?_ (ih (i + 1) (by omega) (by omega))
    rw [need_w hh.sz, hlen]
    rfl
theorem book_l0 {s : List Int} (hb : Bs s) (hs : (s.length : Int) ≤ 1048576) : ∀ (n : Nat) (i f room : Int) (l d : List Int) (ps : List (Int × List Int)), 0 ≤ i → i + n = mn 30 (s.length : Int) → ps.length ≤ i.toNat → Book f l d ps room →
    EvP (fun k => laws_FnStoreBook.l0 k s (ps.map (·.1)) (ps.map fun p => strOfNums p.2) room i f l d) (fun r => r = true) := by
  intro n
  have hmn := mn_le 30 (s.length : Int)
  induction n with
  | zero =>
    intro i f room l d ps h0 hn hp b
    refine EvP.step ?_
    simp only [laws_FnStoreBook.l0]
    exact EvP.no (by omega) (book_l2 b (by omega) ps.length 0 (by omega) (by omega))
  | succ n ih =>
    intro i f room l d ps h0 hn hp b
    have hsl := b.st.1
    have h64 := hsl.free64
    have hl64 := hsl.all64
    have hrm := b.le
    have grow : ∀ (m : Nat) (x : List Int), x.length + m = 60 → EvP (fun k => laws_FnStoreBook.l1 k s (ps.map (·.1)) (ps.map fun p => strOfNums p.2) room i x f l d) (fun r => r = true) := by
      intro m
      have fin : ∀ (x : List Int), x.length ≤ 60 → EvP (fun k => (laws_bytesOf.f x).bind fun t346 => ((impl_StorePut.f k f l d t346).bind fun bt349 => (if ((bt349.2.2.2.2 == 0) != (decide ((mx 1 (wrap64 (Int.tdiv (wrap64 ((x.length : Int) + 15)) 16))) ≤ room))) = true then (some false) else (if bt349.2.2.2.2 = 0 then (if (ps.map (·.1)).length < 17592186044416 then (if (ps.map fun p => strOfNums p.2).length < 8796093022208 then (laws_FnStoreBook.l0 k s ((ps.map (·.1)) ++ [bt349.2.2.2.1]) ((ps.map fun p => strOfNums p.2) ++ [strOfNums x]) (wrap64 (room - (mx 1 (wrap64 (Int.tdiv (wrap64 ((x.length : Int) + 15)) 16))))) (wrap64 (i + 1)) bt349.1 bt349.2.1 bt349.2.2.1) else (none)) else (none)) else (laws_FnStoreBook.l0 k s (ps.map (·.1)) (ps.map fun p => strOfNums p.2) room (wrap64 (i + 1)) f l d))))) (fun r => r = true) := by
        intro x hx
        have hnp := need_pos hx
        refine EvP.bind (bytesOf_ok (by omega)) ?_
        rintro _ rfl
        rename_i x
        refine EvP.bind (sputImpl (f := f) (l := l) (d := d) (x := x) h64 hl64 (by omega)) (fun r hr => ?_)
        have hput := b.put hx hr
        rw [need_w hx, w64 (x := i + 1) (by omega) (by omega)]
        rw [show mx 1 (((x.length : Int) + 15) / 16) = need x from rfl, w64 (x := room - need x) (by omega) (by omega)]
        refine EvP.no ?_ ?_
        · by_cases e : r.2.2.2.2 = 0
          · simp [e, hput.1.1 e]
          · rw [decide_eq_false (fun g => e (hput.1.2 g))]; simp [e]
        refine EvP.ite (fun e => EvP.yes (by rw [List.length_map]; omega) (EvP.yes (by rw [List.length_map]; omega) ?_)) (fun e => ih (i + 1) f room l d ps (by omega) (by omega) (by omega) b)
        have := ih (i + 1) r.1 (room - need x) r.2.1 r.2.2.1 (ps ++ [(r.2.2.2.1, x)]) (by omega) (by omega) (by rw [List.length_append, List.length_singleton]; omega) (hput.2 e)
        rw [List.map_append, List.map_append] at this
        exact this
      induction m with
      | zero =>
        intro x hx
        refine EvP.step ?_
        simp only [laws_FnStoreBook.l1]
        refine EvP.bind (lpick (a := i) (n := 61) hb (by omega)) (fun t ht => ?_)
        exact EvP.no (by omega) (fin x (by omega))
      | succ m ihm =>
        intro x hx
        refine EvP.step ?_
        simp only [laws_FnStoreBook.l1]
        refine EvP.bind (lpick (a := i) (n := 61) hb (by omega)) (fun t ht => ?_)
        refine EvP.ite (fun e => EvP.yes (by omega) (ihm _ (by rw [List.length_append, List.length_singleton]; omega))) (fun e => fin x (by omega))
    have go : ∀ z, (z = true → 0 < ps.length) → EvP (fun k => laws_FnStoreBook.j1 k s (ps.map (·.1)) (ps.map fun p => strOfNums p.2) room i z f l d) (fun r => r = true) := by
      intro z hz
      refine EvP.step ?_
      simp only [laws_FnStoreBook.j1]
      refine EvP.ite (fun e => ?_) (fun e => grow 60 [] rfl)
      have hpos := hz e
      rw [w64 (x := i + 5) (by omega) (by omega)]
      refine EvP.bind (lpick (a := i + 5) (n := ((ps.map (·.1)).length : Int)) hb (by omega)) (fun t ht => ?_)
      rw [List.length_map] at ht
      have ht1 : t < (ps.length : Int) := by omega
      refine EvP.yes ht.1 (EvP.yes (by rw [List.length_map]; exact ht1) ?_)
      obtain ⟨p, hm, e1, e2, e3⟩ := rdOf_texts (ps := ps) ht.1 ht1
      have hh := b.each p hm
      have h1 := hh.hd.1
      have h2 := hh.hd.2.1
      have hl := hsl.len
      rw [e1, e2, strOfNums_size]
      refine EvP.bind (sgiveImpl (f := f) (l := l) (d := d) (h := p.1) h64 hl64 (by omega)) (fun r hr => ?_)
      have b' := b
      rw [e3] at b'
      have hg := b'.give hr
      have hnp := need_pos hh.sz
      rw [need_w hh.sz, show mx 1 (((p.2.length : Int) + 15) / 16) = need p.2 from rfl, w64 (x := room + need p.2) (by omega) (by omega), w64 (x := t + 1) (by omega) (by omega), w64 (x := i + 1) (by omega) (by omega)]
      refine EvP.yes hg.1 (EvP.yes (by rw [List.length_map]; exact ht1) ?_)
      refine EvP.bind (EvP.ret rfl) ?_
      rintro _ rfl
      refine EvP.yes (by rw [List.length_map]; omega) (EvP.bind (EvP.ret rfl) ?_)
      rintro _ rfl
      refine EvP.yes (by simp only [List.length_nil, List.length_take, List.length_map]; omega) (EvP.bind (EvP.ret rfl) ?_)
      rintro _ rfl
      refine EvP.yes (by omega) (EvP.yes (by rw [List.length_map]; omega) (EvP.bind (EvP.ret rfl) ?_))
      rintro _ rfl
      refine EvP.yes (by simp only [List.length_nil, List.length_append, List.length_take, List.length_drop, List.length_map]; omega) (EvP.bind (EvP.ret rfl) ?_)
      rintro _ rfl
      refine EvP.yes (by rw [List.length_map]; omega) (EvP.bind (EvP.ret rfl) ?_)
      rintro _ rfl
      refine EvP.yes (by simp only [List.length_nil, List.length_take, List.length_map]; omega) (EvP.bind (EvP.ret rfl) ?_)
      rintro _ rfl
      refine EvP.yes (by rw [List.length_map]; omega) (EvP.bind (EvP.ret rfl) ?_)
      rintro _ rfl
      refine EvP.yes (by simp only [List.length_nil, List.length_append, List.length_take, List.length_drop, List.length_map]; omega) ?_
      rw [List.nil_append, List.nil_append, ← List.map_take, ← List.map_take, ← List.map_drop, ← List.map_drop, ← List.map_append, ← List.map_append]
      exact ih (i + 1) _ _ _ _ _ (by omega) (by omega) (by rw [List.length_append, List.length_take, List.length_drop]; omega) hg.2
    refine EvP.step ?_
    simp only [laws_FnStoreBook.l0]
    rw [w64 (x := i + 2) (by omega) (by omega)]
    refine EvP.yes (by omega) ?_
    refine EvP.ite (fun e => ?_) (fun e => go false (by simp))
    rw [List.length_map] at e
    refine EvP.bind (lpick (a := i + 2) (n := 3) hb (by omega)) (fun t ht => ?_)
    exact go _ (fun _ => by omega)
theorem FnStoreBook : laws_FnStoreBook.Pure := by
  intro s _ _ hw
  have hb := Bs.of hw
  refine EvP.rounds ?_
  unfold laws_FnStoreBook.f
  refine EvP.bind (big_ok s) ?_
  intro z hbig
  refine EvP.ite (fun _ => EvP.ret rfl) (fun hb0 => ?_)
  have hl := hbig (by simpa using hb0)
  refine EvP.bind (lpick (a := 1) (n := 40) hb (by omega)) ?_
  rintro t ⟨t0, t1⟩
  rw [w64 (x := 1 + t) (by omega) (by omega)]
  have hm : (newNext (1 + t).toNat).length = (1 + t).toNat := newNext_length _
  have hs := new_slab (n := (1 + t).toNat) (by omega) (by omega)
  refine EvP.bind (P := fun r => r = (0, newNext (1 + t).toNat, List.replicate ((1 + t) * 16).toNat 0)) ?_ ?_
  · unfold impl_StoreNew.f
    simp only [within_ok, Option.bind_some]
    refine EvP.yes (by simp; omega) ?_
    refine EvP.bind (implNew_ok (1 + t)) ?_
    rintro _ rfl
    rw [w64 (x := (1 + t) * 16) (by omega) (by omega)]
    refine EvP.yes (by omega) (EvP.yes (by omega) (EvP.ret ?_))
    unfold slabNew
    rw [if_pos (by omega), if_neg (by omega)]
  rintro _ rfl
  have hmn := mn_le 30 (s.length : Int)
  refine book_l0 hb hl (mn 30 (s.length : Int)).toNat 0 0 (1 + t) (newNext (1 + t).toNat) _ [] (by omega) (by omega) (by simp) ⟨⟨hs.1, by rw [List.length_replicate, hm]; omega⟩, (fun p hp => by cases hp), by simp, by rw [hs.2]; omega⟩

end Go.Proofs.Ytlafobfjbkhioaa.Pure
