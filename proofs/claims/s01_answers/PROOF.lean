import PyProof.Rows.All
import Wide.All
import OpenK.AllK
import Wide.FinOn
import Open.SpecLaws
import KE.OsGo
import HandS.ForSpec
import HandS.Comp
import HandS.Iter
import HandS.NoneIn
import HandS.CallLocal
import PySem.Challenge.RW_clientsync_s01_answers
set_option Elab.async false
set_option linter.all false
set_option maxRecDepth 100000
set_option maxHeartbeats 4000000
/-! Mathematics, first part: numbers as bytes. No program in sight. -/
namespace Cs
open Kex8

/-! ### encoded numbers -/
theorem vi_len : ∀ (f n : Nat), (varintIn f n).length ≤ f
  | 0, _ => Nat.le_refl _
  | f + 1, n => by
    show (if n < 128 then [n] else (n % 128 + 128) :: varintIn f (n / 128)).length ≤ f + 1
    split
    · show 1 ≤ f + 1
      omega
    · exact Nat.succ_le_succ (vi_len f (n / 128))
theorem vi_byte : ∀ (f n x : Nat), x ∈ varintIn f n → x ≤ 255
  | 0, _, _, h => by cases h
  | f + 1, n, x, h => by
    have e : varintIn (f + 1) n = if n < 128 then [n] else (n % 128 + 128) :: varintIn f (n / 128) := rfl
    rw [e] at h
    split at h
    · have : x = n := by simpa using h
      omega
    · rcases List.mem_cons.mp h with h | h
      · have := Nat.mod_lt n (by decide : 128 > 0)
        omega
      · exact vi_byte f (n / 128) x h
theorem varint_len (n : Nat) : (varint n).length ≤ 10 := vi_len 10 n
theorem varint_byte {n x : Nat} (h : x ∈ varint n) : x ≤ 255 := vi_byte 10 n x h
theorem vi_small {f n : Nat} (h : n < 128) : varintIn (f + 1) n = [n] := if_pos h
theorem vi_big {f n : Nat} (h : ¬ n < 128) : varintIn (f + 1) n = (n % 128 + 128) :: varintIn f (n / 128) := if_neg h
theorem varint_pos (n : Nat) : 1 ≤ (varint n).length := by
  unfold varint
  by_cases h : n < 128
  · rw [vi_small h]
    exact Nat.le_refl _
  · rw [vi_big h]
    exact Nat.succ_le_succ (Nat.zero_le _)
/-- where the loop of encoded stands: acc is written, n is left -/
def EncI (n0 : Nat) (acc : List Nat) (n : Nat) : Prop := ∃ f, acc ++ varintIn (f + 1) n = varint n0 ∧ n < 128 ^ (f + 1)
theorem EncI.start {n : Nat} (h : n < 128 ^ 10) : EncI n [] n := ⟨9, rfl, h⟩
theorem EncI.turn {n0 n : Nat} {acc : List Nat} (h : EncI n0 acc n) (c : ¬ n < 128) : EncI n0 (acc ++ [n % 128 + 128]) (n / 128) := by
  obtain ⟨f, e, l⟩ := h
  cases f with
  | zero => exact absurd (by simpa using l) c
  | succ f =>
    refine ⟨f, ?_, ?_⟩
    · rw [← e, vi_big c, List.append_assoc]
      rfl
    · rw [Nat.div_lt_iff_lt_mul (by decide)]
      rw [Nat.pow_succ] at l
      exact l
theorem EncI.done {n0 n : Nat} {acc : List Nat} (h : EncI n0 acc n) (c : n < 128) : acc ++ [n] = varint n0 := by
  obtain ⟨f, e, _⟩ := h
  rw [vi_small c] at e
  exact e
theorem EncI.len {n0 n : Nat} {acc : List Nat} (h : EncI n0 acc n) : acc.length ≤ 10 := by
  obtain ⟨f, e, _⟩ := h
  have := congrArg List.length e
  rw [List.length_append] at this
  have := varint_len n0
  omega

/-! ### numbers read -/
theorem rv_some : ∀ (f v k : Nat) (b : Bytes) (x : Nat) (r : Bytes), readVarintIn f v k b = some (x, r) → ∃ p, b = p ++ r ∧ 1 ≤ p.length
  | 0, _, _, _, _, _, h => by cases h
  | f + 1, _, _, [], _, _, h => by cases h
  | f + 1, v, k, c :: rest, x, r, h => by
    have e : readVarintIn (f + 1) v k (c :: rest) = if 255 < c then none else if c < 128 then (if c = 0 ∧ k ≠ 1 then none else some (v + k * c, rest)) else readVarintIn f (v + k * (c - 128)) (k * 128) rest := rfl
    rw [e] at h
    split at h
    · cases h
    · split at h
      · split at h
        · cases h
        · have := Option.some.inj h
          obtain ⟨_, rfl⟩ := Prod.mk.inj this
          exact ⟨[c], rfl, Nat.le_refl _⟩
      · obtain ⟨p, rfl, hp⟩ := rv_some f _ _ rest x r h
        exact ⟨c :: p, rfl, Nat.succ_le_succ (Nat.zero_le _)⟩
theorem rv_lt : ∀ (f v k : Nat) (b : Bytes) (x : Nat) (r : Bytes), v < k → readVarintIn f v k b = some (x, r) → x < k * 128 ^ f
  | 0, _, _, _, _, _, _, h => by cases h
  | f + 1, _, _, [], _, _, _, h => by cases h
  | f + 1, v, k, c :: rest, x, r, hk, h => by
    have e : readVarintIn (f + 1) v k (c :: rest) = if 255 < c then none else if c < 128 then (if c = 0 ∧ k ≠ 1 then none else some (v + k * c, rest)) else readVarintIn f (v + k * (c - 128)) (k * 128) rest := rfl
    rw [e] at h
    have pw : k * 128 ≤ k * 128 ^ (f + 1) := by
      rw [Nat.pow_succ]
      have : 1 ≤ 128 ^ f := Nat.one_le_pow _ _ (by decide)
      calc k * 128 = k * (1 * 128) := by rw [Nat.one_mul]
        _ ≤ k * (128 ^ f * 128) := Nat.mul_le_mul_left k (Nat.mul_le_mul_right 128 this)
    have step : ∀ d, d < 128 → v + k * d < k * 128 := fun d hd => by
      calc v + k * d < k + k * d := Nat.add_lt_add_right hk _
        _ = k * (d + 1) := by rw [Nat.mul_succ, Nat.add_comm]
        _ ≤ k * 128 := Nat.mul_le_mul_left k hd
    split at h
    · cases h
    · split at h
      · next hc =>
        split at h
        · cases h
        · have := Option.some.inj h
          obtain ⟨rfl, rfl⟩ := Prod.mk.inj this
          exact Nat.lt_of_lt_of_le (step c hc) pw
      · have := rv_lt f _ _ rest x r (step (c - 128) (by omega)) h
        rw [Nat.pow_succ, Nat.mul_comm (128 ^ f) 128, ← Nat.mul_assoc]
        exact this
theorem rv_app : ∀ (f v k : Nat) (b c : Bytes) (x : Nat) (r : Bytes), readVarintIn f v k b = some (x, r) → readVarintIn f v k (b ++ c) = some (x, r ++ c)
  | 0, _, _, _, _, _, _, h => by cases h
  | f + 1, _, _, [], _, _, _, h => by cases h
  | f + 1, v, k, d :: rest, c, x, r, h => by
    have e : ∀ rest, readVarintIn (f + 1) v k (d :: rest) = if 255 < d then none else if d < 128 then (if d = 0 ∧ k ≠ 1 then none else some (v + k * d, rest)) else readVarintIn f (v + k * (d - 128)) (k * 128) rest := fun _ => rfl
    rw [List.cons_append, e]
    rw [e] at h
    split at h
    · cases h
    · split at h
      · split at h
        · cases h
        · next h1 h2 h3 =>
          have := Option.some.inj h
          obtain ⟨rfl, rfl⟩ := Prod.mk.inj this
          rw [if_neg h1, if_pos h2, if_neg h3]
      · next h1 h2 =>
        rw [if_neg h1, if_neg h2]
        exact rv_app f _ _ rest c x r h
/-- what is read of b ++ c without touching c is read of b -/
theorem rv_cut : ∀ (f v k : Nat) (b c : Bytes) (x : Nat) (r : Bytes), readVarintIn f v k (b ++ c) = some (x, r) → c.length ≤ r.length → ∃ r', r = r' ++ c ∧ readVarintIn f v k b = some (x, r')
  | 0, _, _, _, _, _, _, h, _ => by cases h
  | f + 1, v, k, [], c, x, r, h, hl => by
    obtain ⟨p, e, hp⟩ := rv_some (f + 1) v k _ x r h
    have := congrArg List.length e
    rw [List.nil_append, List.length_append] at this
    omega
  | f + 1, v, k, d :: rest, c, x, r, h, hl => by
    have e : ∀ rest, readVarintIn (f + 1) v k (d :: rest) = if 255 < d then none else if d < 128 then (if d = 0 ∧ k ≠ 1 then none else some (v + k * d, rest)) else readVarintIn f (v + k * (d - 128)) (k * 128) rest := fun _ => rfl
    rw [List.cons_append, e] at h
    rw [e]
    split at h
    · cases h
    · split at h
      · split at h
        · cases h
        · next h1 h2 h3 =>
          have := Option.some.inj h
          obtain ⟨rfl, rfl⟩ := Prod.mk.inj this
          exact ⟨rest, rfl, by rw [if_neg h1, if_pos h2, if_neg h3]⟩
      · next h1 h2 =>
        obtain ⟨r', e1, e2⟩ := rv_cut f _ _ rest c x r h hl
        exact ⟨r', e1, by rw [if_neg h1, if_neg h2]; exact e2⟩
/-- the number that begins at a place, and the place behind it -/
def rdAt (l : Bytes) (i : Nat) : Option (Nat × Nat) := match readVarint (l.drop i) with
  | none => none
  | some (v, r) => some (v, l.length - r.length)
theorem rdAt_none {l : Bytes} {i : Nat} (h : readVarint (l.drop i) = none) : rdAt l i = none := by
  unfold rdAt
  rw [h]
theorem rdAt_some {l : Bytes} {i v : Nat} {r : Bytes} (h : readVarint (l.drop i) = some (v, r)) : rdAt l i = some (v, l.length - r.length) := by
  unfold rdAt
  rw [h]
theorem rdAt_inv {l : Bytes} {i v e : Nat} (h : rdAt l i = some (v, e)) : readVarint (l.drop i) = some (v, l.drop e) ∧ i < e ∧ e ≤ l.length ∧ v < 2 ^ 35 := by
  cases q : readVarint (l.drop i) with
  | none =>
    rw [rdAt_none q] at h
    cases h
  | some p =>
    obtain ⟨x, r⟩ := p
    rw [rdAt_some q] at h
    obtain ⟨rfl, rfl⟩ := Prod.mk.inj (Option.some.inj h)
    obtain ⟨p, e1, e2⟩ := rv_some 5 0 1 _ _ _ q
    have lt := rv_lt 5 0 1 _ _ _ (by decide) q
    have e3 := congrArg List.length e1
    rw [List.length_drop, List.length_append] at e3
    refine ⟨?_, by omega, by omega, by simpa using lt⟩
    have e4 : l.drop (l.length - r.length) = r := by
      have e5 : l.drop (l.length - r.length) = (l.drop i).drop p.length := by
        rw [List.drop_drop]
        congr 1
        omega
      rw [e5, e1, List.drop_left]
    rw [e4]
theorem rdAt_of {l : Bytes} {i v : Nat} {r : Bytes} (h : readVarint (l.drop i) = some (v, r)) : ∃ e, rdAt l i = some (v, e) ∧ r = l.drop e := by
  refine ⟨_, rdAt_some h, ?_⟩
  have := (rdAt_inv (rdAt_some h)).1
  rw [h] at this
  exact (Prod.mk.inj (Option.some.inj this)).2
theorem rdAt_none' {l : Bytes} {i : Nat} (h : rdAt l i = none) : readVarint (l.drop i) = none := by
  cases q : readVarint (l.drop i) with
  | none => rfl
  | some p =>
    rw [rdAt_some (v := p.1) (r := p.2) q] at h
    cases h
/-- of a beginning -/
theorem rdAt_take {l : Bytes} {B i v e : Nat} (hB : B ≤ l.length) (h : rdAt l i = some (v, e)) (he : e ≤ B) : rdAt (l.take B) i = some (v, e) := by
  obtain ⟨h1, h2, h3, h4⟩ := rdAt_inv h
  have e0 : l.drop i = (l.take B).drop i ++ l.drop B := by
    rw [← List.drop_append_of_le_length (by rw [List.length_take]; omega), List.take_append_drop]
  have hq : readVarintIn 5 0 1 ((l.take B).drop i ++ l.drop B) = some (v, l.drop e) := by rw [← e0]; exact h1
  obtain ⟨r', e1, e2⟩ := rv_cut 5 0 1 _ _ _ _ hq (by rw [List.length_drop, List.length_drop]; omega)
  rw [rdAt_some (show readVarint ((l.take B).drop i) = some (v, r') from e2)]
  have := congrArg List.length e1
  rw [List.length_append, List.length_drop, List.length_drop] at this
  rw [List.length_take]
  congr 2
  omega
theorem rdAt_grow {l : Bytes} {B i v e : Nat} (hB : B ≤ l.length) (hi : i ≤ B) (h : rdAt (l.take B) i = some (v, e)) : rdAt l i = some (v, e) ∧ e ≤ B := by
  obtain ⟨h1, h2, h3, h4⟩ := rdAt_inv h
  have e0 : l.drop i = (l.take B).drop i ++ l.drop B := by
    rw [← List.drop_append_of_le_length (by rw [List.length_take]; omega), List.take_append_drop]
  have q := rv_app 5 0 1 _ (l.drop B) _ _ h1
  rw [← e0] at q
  rw [rdAt_some (show readVarint (l.drop i) = some (v, _) from q)]
  rw [List.length_take] at h3
  refine ⟨?_, by omega⟩
  rw [List.length_append, List.length_drop, List.length_drop, List.length_take]
  congr 2
  omega
/-- where the loop of read_number stands behind i turns -/
def RdI (l : Bytes) (at_ i number weight : Nat) : Prop := readVarint (l.drop at_) = readVarintIn (5 - i) number weight (l.drop (at_ + i)) ∧ weight = 128 ^ i
theorem RdI.start (l : Bytes) (at_ : Nat) : RdI l at_ 0 0 1 := ⟨rfl, rfl⟩
theorem RdI.short {l : Bytes} {a i n k : Nat} (h : RdI l a i n k) (c : l.length ≤ a + i) : rdAt l a = none := by
  refine rdAt_none ?_
  rw [h.1, List.drop_eq_nil_of_le c]
  cases 5 - i <;> rfl
theorem RdI.over {l : Bytes} {a n k : Nat} (h : RdI l a 5 n k) : rdAt l a = none := rdAt_none h.1
theorem RdI.open {l : Bytes} {a i n k b : Nat} (h : RdI l a i n k) (hi : i < 5) (hb : l[a + i]? = some b) (h255 : b ≤ 255) :
    readVarint (l.drop a) = if b < 128 then (if b = 0 ∧ k ≠ 1 then none else some (n + k * b, l.drop (a + i + 1))) else readVarintIn (5 - (i + 1)) (n + k * (b - 128)) (k * 128) (l.drop (a + i + 1)) := by
  have e : l.drop (a + i) = b :: l.drop (a + i + 1) := by
    obtain ⟨h1, h2⟩ := List.getElem?_eq_some_iff.mp hb
    rw [List.drop_eq_getElem_cons h1, h2]
  have e5 : 5 - i = (5 - (i + 1)) + 1 := by omega
  rw [h.1, e, e5]
  show (if 255 < b then none else _) = _
  rw [if_neg (by omega)]
theorem RdI.zero {l : Bytes} {a i n k b : Nat} (h : RdI l a i n k) (hi : i < 5) (hb : l[a + i]? = some b) (c : b = 0) (h0 : 0 < i) : rdAt l a = none := by
  have hk : k ≠ 1 := by
    have h2 := h.2
    have : 128 ^ 1 ≤ 128 ^ i := Nat.pow_le_pow_right (by decide) h0
    omega
  refine rdAt_none ?_
  rw [h.open hi hb (by omega), if_pos (by omega), if_pos ⟨c, hk⟩]
theorem RdI.last {l : Bytes} {a i n k b : Nat} (h : RdI l a i n k) (hi : i < 5) (hb : l[a + i]? = some b) (c : b < 128) (h0 : ¬ (b = 0 ∧ 0 < i)) : rdAt l a = some (n + b % 128 * k, a + i + 1) := by
  have q := h.open hi hb (by omega)
  rw [if_pos c, if_neg ?_] at q
  · rw [rdAt_some q, Nat.mod_eq_of_lt c, Nat.mul_comm k b, List.length_drop]
    have := (List.getElem?_eq_some_iff.mp hb).1
    congr 2
    omega
  · rintro ⟨h1, h2⟩
    refine h0 ⟨h1, ?_⟩
    rcases Nat.eq_zero_or_pos i with hz | hz
    · subst hz
      exact absurd h.2 h2
    · exact hz
theorem RdI.turn {l : Bytes} {a i n k b : Nat} (h : RdI l a i n k) (hi : i < 5) (hb : l[a + i]? = some b) (c : ¬ b < 128) (h255 : b ≤ 255) : RdI l a (i + 1) (n + b % 128 * k) (k * 128) := by
  refine ⟨?_, ?_⟩
  · rw [h.open hi hb h255, if_neg c, Nat.mul_comm k (b - 128)]
    have : b % 128 = b - 128 := by omega
    rw [this]
    rfl
  · rw [h.2, Nat.pow_succ]
theorem RdI.weight {l : Bytes} {a i n k : Nat} (h : RdI l a i n k) (hi : i ≤ 5) : k < 2 ^ 40 := by
  rw [h.2]
  have : 128 ^ i ≤ 128 ^ 5 := Nat.pow_le_pow_right (by decide) hi
  have : 128 ^ 5 < 2 ^ 40 := by decide
  omega

/-! ### the checksum -/
theorem sums_snoc (b : Bytes) (x : Nat) : sums (b ++ [x]) = (((sums b).1 + x) % 255, ((sums b).2 + ((sums b).1 + x) % 255) % 255) := by
  unfold sums
  rw [List.foldl_append]
  rfl
theorem checksum_len (b : Bytes) : (checksum b).length = 2 := rfl
theorem sums_lt : ∀ (b : Bytes) (s : Nat × Nat), s.1 < 255 → s.2 < 255 → (b.foldl (fun s x => ((s.1 + x) % 255, (s.2 + (s.1 + x) % 255) % 255)) s).1 < 255 ∧ (b.foldl (fun s x => ((s.1 + x) % 255, (s.2 + (s.1 + x) % 255) % 255)) s).2 < 255
  | [], _, h1, h2 => ⟨h1, h2⟩
  | x :: b, s, _, _ => sums_lt b _ (Nat.mod_lt _ (by decide)) (Nat.mod_lt _ (by decide))
theorem checksum_byte {b : Bytes} {x : Nat} (h : x ∈ checksum b) : x ≤ 255 := by
  have q := sums_lt b (0, 0) (by decide) (by decide)
  have e : checksum b = [(sums b).2, (sums b).1] := rfl
  rw [e] at h
  have q1 : (sums b).1 < 255 := q.1
  have q2 : (sums b).2 < 255 := q.2
  rcases List.mem_cons.mp h with h | h
  · omega
  · have : x = (sums b).1 := by simpa using h
    omega
theorem take_snoc {α : Type} : ∀ {l : List α} {i : Nat} {x : α}, l[i]? = some x → l.take (i + 1) = l.take i ++ [x]
  | [], i, x, h => by simp at h
  | a :: l, 0, x, h => by
    have e : a = x := Option.some.inj h
    subst e
    rfl
  | a :: l, i + 1, x, h => by
    have ih := take_snoc (l := l) (i := i) (x := x) h
    show a :: l.take (i + 1) = a :: l.take i ++ [x]
    rw [ih]
    rfl
end Cs

/-! Mathematics, second part: snapshots. -/
namespace Cs
open Kex8

/-! ### written -/
theorem entries_len : ∀ (k l : Nat) (c : Config), (entriesFrom k l c).length ≤ 20 * c.length
  | _, _, [] => Nat.le_refl _
  | k, l, v :: r => by
    have e : entriesFrom k l (v :: r) = if v = 0 then entriesFrom (k + 1) l r else varint (k - l) ++ varint v ++ entriesFrom (k + 1) (k + 1) r := rfl
    rw [e, List.length_cons]
    split
    · have := entries_len (k + 1) l r
      omega
    · rw [List.length_append, List.length_append]
      have := entries_len (k + 1) (k + 1) r
      have := varint_len (k - l)
      have := varint_len v
      omega
theorem entries_byte : ∀ (k l : Nat) (c : Config) (x : Nat), x ∈ entriesFrom k l c → x ≤ 255
  | _, _, [], _, h => by cases h
  | k, l, v :: r, x, h => by
    have e : entriesFrom k l (v :: r) = if v = 0 then entriesFrom (k + 1) l r else varint (k - l) ++ varint v ++ entriesFrom (k + 1) (k + 1) r := rfl
    rw [e] at h
    split at h
    · exact entries_byte _ _ r x h
    · rcases List.mem_append.mp h with h | h
      · rcases List.mem_append.mp h with h | h
        · exact varint_byte h
        · exact varint_byte h
      · exact entries_byte _ _ r x h
theorem snap_len (v : Nat) (c : Config) : (snapshot v c).length ≤ 20 * c.length + 22 := by
  show ((varint v ++ varint (c.countP (· != 0)) ++ entriesFrom 0 0 c) ++ checksum (varint v ++ varint (c.countP (· != 0)) ++ entriesFrom 0 0 c)).length ≤ _
  rw [List.length_append, List.length_append, List.length_append, checksum_len]
  have := varint_len v
  have := varint_len (c.countP (· != 0))
  have := entries_len 0 0 c
  omega
theorem snap_byte {v x : Nat} {c : Config} (h : x ∈ snapshot v c) : x ≤ 255 := by
  have h : x ∈ (varint v ++ varint (c.countP (· != 0)) ++ entriesFrom 0 0 c) ++ checksum (varint v ++ varint (c.countP (· != 0)) ++ entriesFrom 0 0 c) := h
  rcases List.mem_append.mp h with h | h
  · rcases List.mem_append.mp h with h | h
    · rcases List.mem_append.mp h with h | h
      · exact varint_byte h
      · exact varint_byte h
    · exact entries_byte _ _ c x h
  · exact checksum_byte h
/-- where the loop of snapshot stands ahead of the i-th key: E is written, L is one more than the last key -/
def SnI (c : Config) (i L : Nat) (E : Bytes) : Prop := E ++ entriesFrom i L (c.drop i) = entriesFrom 0 0 c ∧ L ≤ i
theorem SnI.start (c : Config) : SnI c 0 0 [] := ⟨rfl, Nat.le_refl _⟩
theorem SnI.zero {c : Config} {i L : Nat} {E : Bytes} (h : SnI c i L E) (hi : c[i]? = some 0) : SnI c (i + 1) L E := by
  obtain ⟨h1, h2⟩ := List.getElem?_eq_some_iff.mp hi
  refine ⟨?_, by have := h.2; omega⟩
  rw [← h.1, List.drop_eq_getElem_cons h1, h2]
  rfl
theorem SnI.turn {c : Config} {i L v : Nat} {E : Bytes} (h : SnI c i L E) (hi : c[i]? = some v) (hv : v ≠ 0) : SnI c (i + 1) (i + 1) (E ++ (varint (i - L) ++ varint v)) := by
  obtain ⟨h1, h2⟩ := List.getElem?_eq_some_iff.mp hi
  refine ⟨?_, Nat.le_refl _⟩
  rw [← h.1, List.drop_eq_getElem_cons h1, h2]
  show _ = E ++ (if v = 0 then _ else varint (i - L) ++ varint v ++ entriesFrom (i + 1) (i + 1) (c.drop (i + 1)))
  rw [if_neg hv, List.append_assoc]
theorem SnI.done {c : Config} {i L : Nat} {E : Bytes} (h : SnI c i L E) (hi : c.length ≤ i) : E = entriesFrom 0 0 c := by
  have q := h.1
  rw [List.drop_eq_nil_of_le hi] at q
  have e : entriesFrom i L [] = [] := rfl
  rw [e, List.append_nil] at q
  exact q
theorem SnI.len {c : Config} {i L : Nat} {E : Bytes} (h : SnI c i L E) : E.length ≤ 20 * c.length := by
  have q := congrArg List.length h.1
  rw [List.length_append] at q
  have := entries_len 0 0 c
  omega
theorem snap_eq (v : Nat) (c : Config) {f : Bytes} (h : f = varint v ++ varint (c.countP (· != 0)) ++ entriesFrom 0 0 c) : f ++ checksum f = snapshot v c := by
  subst h
  rfl
theorem countP_filter_ne (c : Config) : (c.filter fun x => decide (x ≠ 0)).length = c.countP (· != 0) := by
  rw [List.countP_eq_length_filter]
  congr 1
  apply List.filter_congr
  intro x _
  by_cases h : x = 0
  · simp [h]
  · simp [h]

/-! ### read -/
/-- as the program reads the values: n of them from i on, the least key that may come is L -/
def rvP (l : Bytes) : Nat → Nat → Nat → Config → Option (Config × Nat)
  | 0, i, _, c => some (c, i)
  | n + 1, i, L, c => match rdAt l i with
    | none => none
    | some (gap, b) => match rdAt l b with
      | none => none
      | some (v, e) => if 16 ≤ L + gap ∨ v = 0 then none else rvP l n e (L + gap + 1) (c.set (L + gap) v)
theorem rvP_le (l : Bytes) : ∀ (n i L : Nat) (c c' : Config) (e : Nat), i ≤ l.length → rvP l n i L c = some (c', e) → i ≤ e ∧ e ≤ l.length
  | 0, i, L, c, c', e, hi, h => by
    obtain ⟨_, rfl⟩ := Prod.mk.inj (Option.some.inj h)
    exact ⟨Nat.le_refl _, hi⟩
  | n + 1, i, L, c, c', e, hi, h => by
    unfold rvP at h
    split at h
    · cases h
    · next gap b hb =>
      split at h
      · cases h
      · next v e1 he =>
        split at h
        · cases h
        · obtain ⟨_, a1, a2, _⟩ := rdAt_inv hb
          obtain ⟨_, b1, b2, _⟩ := rdAt_inv he
          have := rvP_le l n e1 _ _ _ _ b2 h
          omega
/-- what the program reads, the specification reads of the part ahead of B -/
theorem rvP_spec (l : Bytes) (B : Nat) (hB : B ≤ l.length) : ∀ (n i L : Nat) (c c' : Config) (e : Nat), i ≤ l.length → rvP l n i L c = some (c', e) → e ≤ B → readEntries n L c ((l.take B).drop i) = some (c', (l.take B).drop e)
  | 0, i, L, c, c', e, hi, h, he => by
    obtain ⟨rfl, rfl⟩ := Prod.mk.inj (Option.some.inj h)
    rfl
  | n + 1, i, L, c, c', e, hi, h, he => by
    unfold rvP at h
    split at h
    · cases h
    · next gap b hb =>
      split at h
      · cases h
      · next v e1 he1 =>
        split at h
        · cases h
        · next hc =>
          obtain ⟨_, a1, a2, _⟩ := rdAt_inv hb
          obtain ⟨_, b1, b2, _⟩ := rdAt_inv he1
          have le := rvP_le l n e1 _ _ _ _ b2 h
          have q1 := (rdAt_inv (rdAt_take hB hb (by omega))).1
          have q2 := (rdAt_inv (rdAt_take hB he1 (by omega))).1
          have ih := rvP_spec l B hB n e1 _ _ c' e b2 h he
          unfold readEntries
          rw [q1]
          dsimp only
          rw [q2]
          dsimp only
          rw [if_neg (by exact hc)]
          exact ih
theorem spec_rvP (l : Bytes) (B : Nat) (hB : B ≤ l.length) : ∀ (n i L : Nat) (c c' : Config) (r : Bytes), i ≤ B → readEntries n L c ((l.take B).drop i) = some (c', r) → ∃ e, rvP l n i L c = some (c', e) ∧ r = (l.take B).drop e ∧ e ≤ B
  | 0, i, L, c, c', r, hi, h => by
    obtain ⟨rfl, rfl⟩ := Prod.mk.inj (Option.some.inj h)
    exact ⟨i, rfl, rfl, hi⟩
  | n + 1, i, L, c, c', r, hi, h => by
    unfold readEntries at h
    split at h
    · cases h
    · next gap rest hg =>
      split at h
      · cases h
      · next v rest2 hv =>
        split at h
        · cases h
        · next hc =>
          obtain ⟨b, hb, rfl⟩ := rdAt_of hg
          obtain ⟨e1, he1, rfl⟩ := rdAt_of hv
          obtain ⟨g1, g2⟩ := rdAt_grow hB hi hb
          obtain ⟨g3, g4⟩ := rdAt_grow hB g2 he1
          obtain ⟨e, q1, q2, q3⟩ := spec_rvP l B hB n e1 _ _ c' r g4 h
          refine ⟨e, ?_, q2, q3⟩
          unfold rvP
          rw [g1]
          dsimp only
          rw [g3]
          dsimp only
          rw [if_neg (by exact hc)]
          exact q1
/-- as the program reads a snapshot -/
def rsP (l : Bytes) : Option (Nat × Config) := match rdAt l 0 with
  | none => none
  | some (version, i) => match rdAt l i with
    | none => none
    | some (many, b) => if 16 < many then none else match rvP l many b 0 emptyConfig with
      | none => none
      | some (c, e) => if l.length ≠ e + 2 ∨ checksum (l.take e) ≠ l.drop e then none else some (version, c)
theorem rsP_spec {l : Bytes} {x : Nat × Config} (h : rsP l = some x) : readSnapshot l = some x := by
  unfold rsP at h
  split at h
  · cases h
  · next version i hi =>
    split at h
    · cases h
    · next many b hb =>
      split at h
      · cases h
      · next hm =>
        split at h
        · cases h
        · next c e he =>
          split at h
          · cases h
          · next hc =>
            obtain ⟨_, a1, a2, _⟩ := rdAt_inv hi
            obtain ⟨_, b1, b2, _⟩ := rdAt_inv hb
            have le := rvP_le l _ _ _ _ _ _ b2 he
            have hl : l.length = e + 2 := Classical.byContradiction fun z => hc (Or.inl z)
            have hk : checksum (l.take e) = l.drop e := Classical.byContradiction fun z => hc (Or.inr z)
            have eB : l.length - 2 = e := by omega
            have B : e ≤ l.length := by omega
            have q1 := (rdAt_inv (rdAt_take B hi (by omega))).1
            have q2 := (rdAt_inv (rdAt_take B hb (by omega))).1
            have q3 := rvP_spec l e B _ _ _ _ _ _ b2 he (Nat.le_refl _)
            rw [show (l.take e).drop e = [] from List.drop_eq_nil_of_le (by rw [List.length_take]; exact Nat.min_le_left ..)] at q3
            unfold readSnapshot
            dsimp only
            rw [eB, if_neg (by rintro (z | z); omega; exact z hk.symm)]
            rw [List.drop_zero] at q1
            rw [q1]
            dsimp only
            rw [q2]
            dsimp only
            rw [if_neg (show ¬ keyCount < many from hm), q3]
            exact h
theorem spec_rsP {l : Bytes} {x : Nat × Config} (h : readSnapshot l = some x) : rsP l = some x := by
  unfold readSnapshot at h
  dsimp only at h
  split at h
  · cases h
  · next hc =>
    have h4 : ¬ l.length < 4 := fun z => hc (Or.inl z)
    have hk : l.drop (l.length - 2) = checksum (l.take (l.length - 2)) := Classical.byContradiction fun z => hc (Or.inr z)
    have B : l.length - 2 ≤ l.length := Nat.sub_le ..
    split at h
    · cases h
    · next version rest h1 =>
      split at h
      · cases h
      · next many rest2 h2 =>
        split at h
        · cases h
        · next hm =>
          obtain ⟨i, hi, rfl⟩ := rdAt_of (i := 0) (by rw [List.drop_zero]; exact h1)
          obtain ⟨b, hb, rfl⟩ := rdAt_of h2
          obtain ⟨g1, g2⟩ := rdAt_grow B (Nat.zero_le _) hi
          obtain ⟨g3, g4⟩ := rdAt_grow B g2 hb
          split at h
          · next c he =>
            obtain ⟨e, q1, q2, q3⟩ := spec_rvP l _ B many b 0 emptyConfig c [] g4 he
            have e2 : e = l.length - 2 := by
              have := congrArg List.length q2
              rw [List.length_drop, List.length_take, List.length_nil] at this
              omega
            unfold rsP
            rw [g1]
            dsimp only
            rw [g3]
            dsimp only
            rw [if_neg (show ¬ 16 < many from hm), q1]
            dsimp only
            rw [if_neg]
            · exact h
            · rintro (z | z)
              · omega
              · rw [e2] at z
                exact z hk.symm
          · cases h
theorem rsP_eq (l : Bytes) : rsP l = readSnapshot l := by
  cases h : rsP l with
  | some x => exact (rsP_spec h).symm
  | none =>
    cases q : readSnapshot l with
    | none => rfl
    | some x =>
      rw [spec_rsP q] at h
      cases h
/-! what is read is in its range -/
theorem rvP_cfg (l : Bytes) : ∀ (n i L : Nat) (c c' : Config) (e : Nat), rvP l n i L c = some (c', e) → (∀ x ∈ c, x < 2 ^ 35) → c'.length = c.length ∧ ∀ x ∈ c', x < 2 ^ 35
  | 0, i, L, c, c', e, h, hc => by
    obtain ⟨rfl, _⟩ := Prod.mk.inj (Option.some.inj h)
    exact ⟨rfl, hc⟩
  | n + 1, i, L, c, c', e, h, hc => by
    unfold rvP at h
    split at h
    · cases h
    · next gap b hb =>
      split at h
      · cases h
      · next v e1 he1 =>
        split at h
        · cases h
        · obtain ⟨h1, h2⟩ := rvP_cfg l n _ _ _ _ _ h fun x hx => by
            rcases List.mem_or_eq_of_mem_set hx with hx | hx
            · exact hc x hx
            · rw [hx]
              exact (rdAt_inv he1).2.2.2
          rw [List.length_set] at h1
          exact ⟨h1, h2⟩
theorem rsP_cfg {l : Bytes} {v : Nat} {c : Config} (h : rsP l = some (v, c)) : v < 2 ^ 35 ∧ c.length = 16 ∧ ∀ x ∈ c, x < 2 ^ 35 := by
  unfold rsP at h
  split at h
  · cases h
  · next version i hi =>
    split at h
    · cases h
    · split at h
      · cases h
      · split at h
        · cases h
        · next c1 e he =>
          split at h
          · cases h
          · obtain ⟨rfl, rfl⟩ := Prod.mk.inj (Option.some.inj h)
            have q := rvP_cfg l _ _ _ _ _ _ he fun x hx => by
              have : x = 0 := (List.mem_replicate.mp hx).2
              omega
            exact ⟨(rdAt_inv hi).2.2.2, q.1.trans (by rfl), q.2⟩
theorem rs_cfg {l : Bytes} {v : Nat} {c : Config} (h : readSnapshot l = some (v, c)) : v < 2 ^ 35 ∧ c.length = 16 ∧ ∀ x ∈ c, x < 2 ^ 35 := rsP_cfg (by rw [rsP_eq]; exact h)
end Cs

/-! Mathematics, third part: patches. -/
namespace Cs
open Kex8

/-! ### matches -/
/-- where the loop of match_length stands: many bytes are alike -/
def MlI (s t : Bytes) (many : Nat) : Prop := commonPrefix s t = many + commonPrefix (s.drop many) (t.drop many)
theorem MlI.start (s t : Bytes) : MlI s t 0 := by
  show commonPrefix s t = 0 + commonPrefix s t
  rw [Nat.zero_add]
theorem cp_nil_right (s : Bytes) : commonPrefix s [] = 0 := by cases s <;> rfl
theorem MlI.end1 {s t : Bytes} {m : Nat} (h : MlI s t m) (c : s.length ≤ m) : commonPrefix s t = m := by
  rw [h, List.drop_eq_nil_of_le c]
  rfl
theorem MlI.end2 {s t : Bytes} {m : Nat} (h : MlI s t m) (c : t.length ≤ m) : commonPrefix s t = m := by
  rw [h, List.drop_eq_nil_of_le c, cp_nil_right]
  rfl
theorem MlI.end3 {s t : Bytes} {m a b : Nat} (h : MlI s t m) (ha : s[m]? = some a) (hb : t[m]? = some b) (c : a ≠ b) : commonPrefix s t = m := by
  obtain ⟨a1, a2⟩ := List.getElem?_eq_some_iff.mp ha
  obtain ⟨b1, b2⟩ := List.getElem?_eq_some_iff.mp hb
  rw [h, List.drop_eq_getElem_cons a1, List.drop_eq_getElem_cons b1, a2, b2]
  show m + (if a = b then _ else 0) = m
  rw [if_neg c]
  rfl
theorem MlI.turn {s t : Bytes} {m a : Nat} (h : MlI s t m) (ha : s[m]? = some a) (hb : t[m]? = some a) : MlI s t (m + 1) := by
  obtain ⟨a1, a2⟩ := List.getElem?_eq_some_iff.mp ha
  obtain ⟨b1, b2⟩ := List.getElem?_eq_some_iff.mp hb
  unfold MlI
  rw [h, List.drop_eq_getElem_cons a1, List.drop_eq_getElem_cons b1, a2, b2]
  show m + (if a = a then commonPrefix (s.drop (m + 1)) (t.drop (m + 1)) + 1 else 0) = _
  rw [if_pos rfl]
  omega
theorem cp_le : ∀ (s t : Bytes), commonPrefix s t ≤ s.length ∧ commonPrefix s t ≤ t.length
  | [], t => ⟨Nat.zero_le _, Nat.zero_le _⟩
  | a :: s, [] => ⟨Nat.zero_le _, Nat.zero_le _⟩
  | a :: s, b :: t => by
    show (if a = b then commonPrefix s t + 1 else 0) ≤ s.length + 1 ∧ (if a = b then commonPrefix s t + 1 else 0) ≤ t.length + 1
    have := cp_le s t
    split <;> omega
/-- one more offset -/
def lmStep (s t : Bytes) (best : Nat × Nat) (i : Nat) : Nat × Nat := if best.2 < commonPrefix (s.drop i) t then (i, commonPrefix (s.drop i) t) else best
theorem lm_eq (s t : Bytes) : longestMatch s t = (List.range s.length).foldl (lmStep s t) (0, 0) := rfl
def lmTo (s t : Bytes) (k : Nat) : Nat × Nat := (List.range k).foldl (lmStep s t) (0, 0)
theorem lmTo_zero (s t : Bytes) : lmTo s t 0 = (0, 0) := rfl
theorem lmTo_succ (s t : Bytes) (k : Nat) : lmTo s t (k + 1) = lmStep s t (lmTo s t k) k := by
  unfold lmTo
  rw [List.range_succ, List.foldl_append]
  rfl
theorem lmTo_le (s t : Bytes) : ∀ k, k ≤ s.length → (lmTo s t k).1 ≤ s.length ∧ (lmTo s t k).2 ≤ t.length
  | 0, _ => ⟨Nat.zero_le _, Nat.zero_le _⟩
  | k + 1, h => by
    rw [lmTo_succ]
    unfold lmStep
    have := lmTo_le s t k (by omega)
    split
    · exact ⟨by omega, (cp_le _ _).2⟩
    · exact this
theorem lm_le (s t : Bytes) : (longestMatch s t).1 ≤ s.length ∧ (longestMatch s t).2 ≤ t.length := lmTo_le s t s.length (Nat.le_refl _)

/-! ### written -/
theorem flush_len (p : Bytes) : (flush p).length ≤ p.length + 10 := by
  unfold flush
  split
  · exact Nat.zero_le _
  · rw [List.length_append]
    have := varint_len (2 * p.length + 1)
    omega
theorem flush_byte {p : Bytes} {x : Nat} (hp : ∀ y ∈ p, y ≤ 255) (h : x ∈ flush p) : x ≤ 255 := by
  unfold flush at h
  split at h
  · cases h
  · rcases List.mem_append.mp h with h | h
    · exact varint_byte h
    · exact hp x h
theorem cmds_nil (s : Bytes) (f : Nat) (p : Bytes) : commands s f [] p = flush p := by cases f <;> rfl
theorem cmds_cons (s : Bytes) (f : Nat) (b : Nat) (r p : Bytes) : commands s (f + 1) (b :: r) p = if (longestMatch s (b :: r)).2 < 3 then commands s f r (p ++ [b]) else flush p ++ varint (2 * (longestMatch s (b :: r)).2) ++ varint (longestMatch s (b :: r)).1 ++ commands s f ((b :: r).drop (longestMatch s (b :: r)).2) [] := rfl
theorem cmds_len (s : Bytes) : ∀ (f : Nat) (t p : Bytes), (commands s f t p).length ≤ p.length + 30 * t.length + 10
  | 0, t, p => by
    have := flush_len p
    show (flush p).length ≤ _
    omega
  | f + 1, [], p => by
    have := flush_len p
    show (flush p).length ≤ _
    omega
  | f + 1, b :: r, p => by
    rw [cmds_cons]
    split
    · have := cmds_len s f r (p ++ [b])
      rw [List.length_append, List.length_singleton] at this
      rw [List.length_cons]
      omega
    · next h =>
      have := cmds_len s f ((b :: r).drop (longestMatch s (b :: r)).2) []
      have l2 := (lm_le s (b :: r)).2
      rw [List.length_drop] at this
      rw [List.length_append, List.length_append, List.length_append]
      have := flush_len p
      have := varint_len (2 * (longestMatch s (b :: r)).2)
      have := varint_len (longestMatch s (b :: r)).1
      have : ([] : Bytes).length = 0 := rfl
      omega
theorem cmds_byte (s : Bytes) : ∀ (f : Nat) (t p : Bytes) (x : Nat), (∀ y ∈ t, y ≤ 255) → (∀ y ∈ p, y ≤ 255) → x ∈ commands s f t p → x ≤ 255
  | 0, t, p, x, ht, hp, h => flush_byte hp h
  | f + 1, [], p, x, ht, hp, h => flush_byte hp h
  | f + 1, b :: r, p, x, ht, hp, h => by
    rw [cmds_cons] at h
    split at h
    · refine cmds_byte s f r (p ++ [b]) x (fun y hy => ht y (List.mem_cons_of_mem _ hy)) (fun y hy => ?_) h
      rcases List.mem_append.mp hy with hy | hy
      · exact hp y hy
      · have : y = b := by simpa using hy
        rw [this]
        exact ht b (List.mem_cons_self ..)
    · rcases List.mem_append.mp h with h | h
      · rcases List.mem_append.mp h with h | h
        · rcases List.mem_append.mp h with h | h
          · exact flush_byte hp h
          · exact varint_byte h
        · exact varint_byte h
      · exact cmds_byte s f _ [] x (fun y hy => ht y (List.mem_of_mem_drop hy)) (fun y hy => by cases hy) h
theorem patch_len (s t : Bytes) : (patch s t).length ≤ 30 * t.length + 12 := by
  show (commands s t.length t [] ++ checksum t).length ≤ _
  rw [List.length_append, checksum_len]
  have := cmds_len s t.length t []
  have : ([] : Bytes).length = 0 := rfl
  omega
theorem patch_byte {s t : Bytes} {x : Nat} (ht : ∀ y ∈ t, y ≤ 255) (h : x ∈ patch s t) : x ≤ 255 := by
  have h : x ∈ commands s t.length t [] ++ checksum t := h
  rcases List.mem_append.mp h with h | h
  · exact cmds_byte s _ t [] x ht (fun y hy => by cases hy) h
  · exact checksum_byte h
/-- where the loop of patch_of stands -/
def PaI (s t : Bytes) (i : Nat) (found pending : Bytes) : Prop := ∃ f, found ++ commands s f (t.drop i) pending = commands s t.length t [] ∧ t.length - i ≤ f
theorem PaI.start (s t : Bytes) : PaI s t 0 [] [] := ⟨t.length, rfl, Nat.sub_le ..⟩
theorem PaI.open {s t : Bytes} {i : Nat} {found pending : Bytes} (h : PaI s t i found pending) {b : Nat} (hb : t[i]? = some b) : ∃ f, t.drop i = b :: t.drop (i + 1) ∧ found ++ commands s (f + 1) (t.drop i) pending = commands s t.length t [] ∧ t.length - (i + 1) ≤ f := by
  obtain ⟨f, e, l⟩ := h
  obtain ⟨h1, h2⟩ := List.getElem?_eq_some_iff.mp hb
  cases f with
  | zero => omega
  | succ f => exact ⟨f, by rw [List.drop_eq_getElem_cons h1, h2], e, by omega⟩
theorem PaI.put {s t : Bytes} {i : Nat} {found pending : Bytes} (h : PaI s t i found pending) {b : Nat} (hb : t[i]? = some b) (c : (longestMatch s (t.drop i)).2 < 3) : PaI s t (i + 1) found (pending ++ [b]) := by
  obtain ⟨f, e0, e, l⟩ := h.open hb
  refine ⟨f, ?_, l⟩
  rw [← e, e0, cmds_cons, if_pos (by rw [← e0]; exact c)]
theorem PaI.copy {s t : Bytes} {i : Nat} {found pending : Bytes} (h : PaI s t i found pending) {b : Nat} (hb : t[i]? = some b) (c : ¬ (longestMatch s (t.drop i)).2 < 3) :
    PaI s t (i + (longestMatch s (t.drop i)).2) (found ++ (flush pending ++ varint (2 * (longestMatch s (t.drop i)).2) ++ varint (longestMatch s (t.drop i)).1)) [] := by
  obtain ⟨f, e0, e, l⟩ := h.open hb
  refine ⟨f, ?_, by omega⟩
  rw [← e]
  conv => rhs; rw [e0, cmds_cons, ← e0]
  rw [if_neg c, List.drop_drop, List.append_assoc]
theorem PaI.done {s t : Bytes} {i : Nat} {found pending : Bytes} (h : PaI s t i found pending) (c : t.length ≤ i) : found ++ flush pending = commands s t.length t [] := by
  obtain ⟨f, e, _⟩ := h
  rw [List.drop_eq_nil_of_le c, cmds_nil] at e
  exact e
theorem PaI.len {s t : Bytes} {i : Nat} {found pending : Bytes} (h : PaI s t i found pending) : found.length ≤ 30 * t.length + 10 := by
  obtain ⟨f, e, _⟩ := h
  have := congrArg List.length e
  rw [List.length_append] at this
  have := cmds_len s t.length t []
  have : ([] : Bytes).length = 0 := rfl
  omega

/-! ### applied -/
/-- what the command at a place builds, and the place behind it -/
def cmdAt (code : Bytes) (i : Nat) (src out : Bytes) : Option (Nat × Bytes) := match rdAt code i with
  | none => none
  | some (n, b) => if n < 2 then none
    else if n % 2 = 1 then (if code.length < b + n / 2 then none else some (b + n / 2, out ++ (code.drop b).take (n / 2)))
    else match rdAt code b with
      | none => none
      | some (o, e) => if src.length < o + n / 2 then none else some (e, out ++ (src.drop o).take (n / 2))
theorem run_nil (s : Bytes) (f : Nat) (out : Bytes) : run s (f + 1) [] out = some out := rfl
theorem run_step {s code out : Bytes} {i f : Nat} (hi : i < code.length) : run s (f + 1) (code.drop i) out = match cmdAt code i s out with
    | none => none
    | some (j, o) => run s f (code.drop j) o := by
  have hc : code.drop i = code[i] :: code.drop (i + 1) := List.drop_eq_getElem_cons hi
  have e : run s (f + 1) (code.drop i) out = match readVarint (code.drop i) with
    | none => none
    | some (n, rest) => if n < 2 then none
      else if n % 2 = 1 then (if rest.length < n / 2 then none else run s f (rest.drop (n / 2)) (out ++ rest.take (n / 2)))
      else match readVarint rest with
        | none => none
        | some (offset, rest) => if s.length < offset + n / 2 then none else run s f rest (out ++ (s.drop offset).take (n / 2)) := by
    rw [hc]
    rfl
  rw [e]
  unfold cmdAt
  cases q : rdAt code i with
  | none => rw [rdAt_none' q]
  | some p =>
    obtain ⟨n, b⟩ := p
    obtain ⟨h1, h2, h3, h4⟩ := rdAt_inv q
    rw [h1]
    dsimp only
    split
    · rfl
    · split
      · rw [List.length_drop]
        by_cases c : code.length < b + n / 2
        · rw [if_pos (by omega), if_pos c]
        · rw [if_neg (by omega), if_neg c, List.drop_drop]
      · cases q2 : rdAt code b with
        | none => rw [rdAt_none' q2]
        | some p2 =>
          obtain ⟨o, e2⟩ := p2
          rw [(rdAt_inv q2).1]
          dsimp only
          split <;> rfl
theorem cmdAt_le {code src out o : Bytes} {i j : Nat} (h : cmdAt code i src out = some (j, o)) : i < j ∧ j ≤ code.length ∧ o.length ≤ out.length + (j - i) * (src.length + 1) ∧ (∀ x ∈ o, x ∈ out ∨ x ∈ code ∨ x ∈ src) := by
  unfold cmdAt at h
  split at h
  · cases h
  · next n b hb =>
    obtain ⟨_, a1, a2, _⟩ := rdAt_inv hb
    split at h
    · cases h
    · split at h
      · split at h
        · cases h
        · next hc =>
          obtain ⟨rfl, rfl⟩ := Prod.mk.inj (Option.some.inj h)
          refine ⟨by omega, by omega, ?_, fun x hx => ?_⟩
          · rw [List.length_append, List.length_take]
            have : b + n / 2 - i ≤ (b + n / 2 - i) * (src.length + 1) := Nat.le_mul_of_pos_right _ (Nat.succ_pos _)
            have : min (n / 2) (code.drop b).length ≤ n / 2 := Nat.min_le_left ..
            omega
          · rcases List.mem_append.mp hx with hx | hx
            · exact .inl hx
            · exact .inr (.inl (List.mem_of_mem_drop (List.mem_of_mem_take hx)))
      · split at h
        · cases h
        · next o1 e1 he =>
          obtain ⟨_, b1, b2, _⟩ := rdAt_inv he
          split at h
          · cases h
          · next hc =>
            obtain ⟨rfl, rfl⟩ := Prod.mk.inj (Option.some.inj h)
            refine ⟨by omega, by omega, ?_, fun x hx => ?_⟩
            · rw [List.length_append, List.length_take]
              have : 1 * (src.length + 1) ≤ (e1 - i) * (src.length + 1) := Nat.mul_le_mul_right _ (by omega)
              have : min (n / 2) (src.drop o1).length ≤ (src.drop o1).length := Nat.min_le_right ..
              rw [List.length_drop] at this
              rw [List.length_drop]
              omega
            · rcases List.mem_append.mp hx with hx | hx
              · exact .inl hx
              · exact .inr (.inr (List.mem_of_mem_drop (List.mem_of_mem_take hx)))
/-- where the loop of applied stands -/
structure ApI (p src : Bytes) (i : Nat) (out : Bytes) : Prop where
  eq : ∃ f, run src (p.length + 1) (p.take (p.length - 2)) [] = run src (f + 1) ((p.take (p.length - 2)).drop i) out ∧ (p.length - 2) - i ≤ f
  at_ : i ≤ p.length - 2
  len : out.length ≤ i * (src.length + 1)
  mem : ∀ x ∈ out, x ∈ p ∨ x ∈ src
theorem ApI.start (p src : Bytes) : ApI p src 0 [] := ⟨⟨p.length, rfl, by omega⟩, Nat.zero_le _, Nat.zero_le _, fun x hx => by cases hx⟩
theorem ApI.code_len (p : Bytes) : (p.take (p.length - 2)).length = p.length - 2 := by rw [List.length_take]; omega
theorem ApI.done {p src out : Bytes} {i : Nat} (h : ApI p src i out) (c : ¬ i < p.length - 2) : run src (p.length + 1) (p.take (p.length - 2)) [] = some out := by
  obtain ⟨f, e, _⟩ := h.eq
  rw [e, List.drop_eq_nil_of_le (by rw [ApI.code_len]; omega)]
  rfl
theorem ApI.bad {p src out : Bytes} {i : Nat} (h : ApI p src i out) (c : i < p.length - 2) (q : cmdAt (p.take (p.length - 2)) i src out = none) : run src (p.length + 1) (p.take (p.length - 2)) [] = none := by
  obtain ⟨f, e, _⟩ := h.eq
  rw [e, run_step (by rw [ApI.code_len]; exact c), q]
theorem ApI.turn {p src out o : Bytes} {i j : Nat} (h : ApI p src i out) (c : i < p.length - 2) (q : cmdAt (p.take (p.length - 2)) i src out = some (j, o)) : ApI p src j o ∧ i < j := by
  obtain ⟨f, e, l⟩ := h.eq
  obtain ⟨h1, h2, h3, h4⟩ := cmdAt_le q
  rw [ApI.code_len] at h2
  cases f with
  | zero => omega
  | succ f =>
    refine ⟨⟨⟨f, ?_, by omega⟩, h2, ?_, fun x hx => ?_⟩, h1⟩
    · rw [e, run_step (by rw [ApI.code_len]; exact c), q]
    · have := h.len
      have e2 : j * (src.length + 1) = i * (src.length + 1) + (j - i) * (src.length + 1) := by
        rw [← Nat.add_mul]
        congr 1
        omega
      omega
    · rcases h4 x hx with hx | hx | hx
      · exact h.mem x hx
      · exact .inl (List.mem_of_mem_take hx)
      · exact .inr hx
theorem apply_short {p src : Bytes} (h : p.length < 2) : apply p src = none := if_pos h
theorem apply_none {p src : Bytes} (h : ¬ p.length < 2) (q : run src (p.length + 1) (p.take (p.length - 2)) [] = none) : apply p src = none := by
  unfold apply
  rw [if_neg h, q]
theorem apply_some {p src out : Bytes} (h : ¬ p.length < 2) (q : run src (p.length + 1) (p.take (p.length - 2)) [] = some out) : apply p src = if checksum out = p.drop (p.length - 2) then some out else none := by
  unfold apply
  rw [if_neg h, q]
  dsimp only
  by_cases c : p.drop (p.length - 2) = checksum out
  · rw [if_pos c, if_pos c.symm]
  · rw [if_neg c, if_neg fun z => c z.symm]
theorem ApI.len_le {p src out : Bytes} {i : Nat} (h : ApI p src i out) : out.length ≤ p.length * (src.length + 1) :=
  Nat.le_trans h.len (Nat.mul_le_mul_right _ (Nat.le_trans h.at_ (Nat.sub_le ..)))
end Cs

/-! Mathematics, fourth part: what holds of every state. -/
namespace Cs
open Kex8

structure MsgOk (n : Nat) (m : Message) : Prop where
  cl : m.client < n
  len : m.content.length ≤ 11000
  byte : m.type = 1 ∨ m.type = 2 → ∀ x ∈ m.content, x ≤ 255
  five : m.type = 3 → m.content.length ≤ 5
structure CliOk (N : Nat) (c : Client) : Prop where
  ver : c.version < 2 ^ 35
  cfg : c.config.length = 16
  cfgx : ∀ x ∈ c.config, x < 2 ^ 35
  ack : c.acknowledged ≤ c.exposures.length
  pen : c.exposures.length ≤ c.acknowledged + 12
  len : c.exposures.length ≤ N
structure CfgOk (c : Config) : Prop where
  len : c.length = 16
  val : ∀ x ∈ c, x ≤ 1000000
structure Good (N : Nat) (s : System) : Prop where
  v1 : 1 ≤ s.versions.length
  v20 : s.versions.length ≤ 20
  vc : ∀ c ∈ s.versions, CfgOk c
  st : CfgOk s.staged
  n4 : s.clients.length ≤ 4
  nk : s.counted.length = s.clients.length
  cl : ∀ c ∈ s.clients, CliOk N c
  ct : ∀ q ∈ s.counted, q.length ≤ N
  ch : s.channel.length ≤ 30
  ms : ∀ m ∈ s.channel, MsgOk s.clients.length m
theorem CliOk.mono {N M : Nat} {c : Client} (h : CliOk N c) (l : N ≤ M) : CliOk M c := ⟨h.ver, h.cfg, h.cfgx, h.ack, h.pen, Nat.le_trans h.len l⟩
theorem Good.mono {N M : Nat} {s : System} (h : Good N s) (l : N ≤ M) : Good M s :=
  ⟨h.v1, h.v20, h.vc, h.st, h.n4, h.nk, fun c hc => (h.cl c hc).mono l, fun q hq => Nat.le_trans (h.ct q hq) l, h.ch, h.ms⟩
theorem empty_ok : CfgOk emptyConfig := ⟨rfl, fun x hx => by have := (List.mem_replicate.mp hx).2; omega⟩
theorem CfgOk.lt {c : Config} (h : CfgOk c) : ∀ x ∈ c, x < 2 ^ 35 := fun x hx => Nat.lt_of_le_of_lt (h.val x hx) (by decide)
theorem lt_big {x : Nat} (h : x < 2 ^ 35) : x < 128 ^ 10 := Nat.lt_of_lt_of_le h (by decide)
/-! the clients by their numbers -/
theorem client_get {s : System} {i : Nat} (h : i < s.clients.length) : s.clients[i]? = some (clientAt s i) := by
  unfold clientAt
  rw [List.getD_eq_getElem?_getD, List.getElem?_eq_getElem h]
  rfl
theorem client_mem {s : System} {i : Nat} (h : i < s.clients.length) : clientAt s i ∈ s.clients := List.mem_of_getElem? (client_get h)
theorem counted_get {s : System} {i : Nat} (h : i < s.counted.length) : s.counted[i]? = some (s.counted.getD i []) := by
  rw [List.getD_eq_getElem?_getD, List.getElem?_eq_getElem h]
  rfl
theorem config_get {s : System} {v : Nat} (h : v < s.versions.length) : s.versions[v]? = some (configAt s v) := by
  unfold configAt
  rw [List.getD_eq_getElem?_getD, List.getElem?_eq_getElem h]
  rfl
theorem config_mem {s : System} {v : Nat} (h : v < s.versions.length) : configAt s v ∈ s.versions := List.mem_of_getElem? (config_get h)
theorem snapAt_len {N : Nat} {s : System} (g : Good N s) {v : Nat} (h : v < s.versions.length) : (snapshotAt s v).length ≤ 342 := by
  have := snap_len v (configAt s v)
  have := (g.vc _ (config_mem h)).len
  unfold snapshotAt
  omega

/-! what changes a state -/
theorem Good.on_send {N : Nat} {s : System} {m : Message} (g : Good N s) (hm : MsgOk s.clients.length m) : Good N (send s m) := by
  unfold send
  split
  · exact g
  · next h =>
    have h30 : s.channel.length < 30 := by
      have : maxChannel = 30 := rfl
      omega
    refine ⟨g.v1, g.v20, g.vc, g.st, g.n4, g.nk, g.cl, g.ct, ?_, fun x hx => ?_⟩
    · show (s.channel ++ [m]).length ≤ 30
      rw [List.length_append, List.length_singleton]
      exact h30
    · rcases List.mem_append.mp hx with hx | hx
      · exact g.ms x hx
      · have : x = m := by simpa using hx
        rw [this]
        exact hm
theorem send_clients (s : System) (m : Message) : (send s m).clients = s.clients := by
  unfold send
  split <;> rfl
theorem Good.on_client {N : Nat} {s : System} {i : Nat} {c : Client} (g : Good N s) (hc : CliOk N c) : Good N (withClient s i c) := by
  refine ⟨g.v1, g.v20, g.vc, g.st, ?_, ?_, fun x hx => ?_, g.ct, g.ch, ?_⟩
  · show (s.clients.set i c).length ≤ 4
    rw [List.length_set]
    exact g.n4
  · show s.counted.length = (s.clients.set i c).length
    rw [List.length_set]
    exact g.nk
  · rcases List.mem_or_eq_of_mem_set hx with hx | hx
    · exact g.cl x hx
    · rw [hx]
      exact hc
  · show ∀ m ∈ s.channel, MsgOk (s.clients.set i c).length m
    rw [List.length_set]
    exact g.ms
theorem Good.on_counted {N : Nat} {s : System} {i : Nat} {q : List Nat} (g : Good N s) (hq : q.length ≤ N) : Good N { s with counted := s.counted.set i q } := by
  refine ⟨g.v1, g.v20, g.vc, g.st, g.n4, ?_, g.cl, fun x hx => ?_, g.ch, g.ms⟩
  · show (s.counted.set i q).length = s.clients.length
    rw [List.length_set]
    exact g.nk
  · rcases List.mem_or_eq_of_mem_set hx with hx | hx
    · exact g.ct x hx
    · rw [hx]
      exact hq
theorem Good.on_channel {N : Nat} {s : System} {l : List Message} (g : Good N s) (hl : l.length ≤ 30) (hm : ∀ m ∈ l, m ∈ s.channel) : Good N { s with channel := l } :=
  ⟨g.v1, g.v20, g.vc, g.st, g.n4, g.nk, g.cl, g.ct, hl, fun m h => g.ms m (hm m h)⟩
theorem mem_erase {α : Type} {l : List α} {i : Nat} {x : α} (h : x ∈ l.eraseIdx i) : x ∈ l := List.mem_of_mem_eraseIdx h
theorem erase_len {α : Type} (l : List α) (i : Nat) : (l.eraseIdx i).length ≤ l.length := by
  rw [List.length_eraseIdx]
  split <;> omega
theorem Good.on_erase {N : Nat} {s : System} {i : Nat} (g : Good N s) : Good N { s with channel := s.channel.eraseIdx i } :=
  g.on_channel (Nat.le_trans (erase_len _ _) g.ch) fun _ h => mem_erase h
theorem CliOk.taken {N : Nat} {c : Client} {v : Nat} {cfg : Config} (h : CliOk N c) (hv : v < 2 ^ 35 ∧ cfg.length = 16 ∧ ∀ x ∈ cfg, x < 2 ^ 35) : CliOk N { c with version := v, config := cfg } :=
  ⟨hv.1, hv.2.1, hv.2.2, h.ack, h.pen, h.len⟩
theorem fresh_len {content : List Nat} (k : Nat) (h : content.length ≤ 5) : (content.drop k).length ≤ 5 := by
  rw [List.length_drop]
  omega
theorem Good.on_receive {N : Nat} {s : System} {m : Message} (g : Good N s) (hm : MsgOk s.clients.length m) : Good (N + 5) (receive s m).1 := by
  have gc := g.cl _ (client_mem hm.cl)
  have g5 : Good (N + 5) s := g.mono (by omega)
  unfold receive
  dsimp only
  split
  · split
    · exact g5
    · next h =>
      have hn : m.number < s.versions.length := by
        unfold latest at h
        omega
      have hl : latest s < s.versions.length := by
        have := g.v1
        unfold latest
        omega
      split
      · refine g5.on_send ⟨hm.cl, ?_, fun _ x hx => ?_, fun z => by cases z⟩
        · have := patch_len (snapshotAt s m.number) (snapshotAt s (latest s))
          have := snapAt_len g hl
          show (patch (snapshotAt s m.number) (snapshotAt s (latest s))).length ≤ 11000
          omega
        · exact patch_byte (fun y hy => snap_byte hy) hx
      · refine g5.on_send ⟨hm.cl, ?_, fun _ x hx => snap_byte hx, fun z => by cases z⟩
        have := snapAt_len g hl
        show (snapshotAt s (latest s)).length ≤ 11000
        omega
  · split
    · exact g5
    · split
      · exact g5
      · split
        · exact g5
        · next h => exact g5.on_client ((gc.mono (by omega)).taken (rs_cfg h))
  · split
    · exact g5
    · next h =>
      split
      · exact g5
      · exact g5.on_client ((gc.mono (by omega)).taken (rs_cfg h))
  · next ht =>
    split
    · exact g5
    · have hk : m.client < s.counted.length := by rw [g.nk]; exact hm.cl
      have hq := g.ct _ (List.mem_of_getElem? (counted_get hk))
      have h5 := fresh_len ((s.counted.getD m.client []).length - m.number) (hm.five ht)
      refine Good.on_send (s := { s with counted := _ }) (g5.on_counted ?_) ⟨hm.cl, Nat.zero_le _, fun _ x hx => (nomatch hx), fun z => (nomatch z)⟩
      rw [List.length_append]
      omega
  · split
    · exact g5
    · next h =>
      refine g5.on_client ⟨gc.ver, gc.cfg, gc.cfgx, ?_, ?_, ?_⟩
      · show m.number ≤ (clientAt s m.client).exposures.length
        omega
      · have := gc.pen
        show (clientAt s m.client).exposures.length ≤ m.number + 12
        omega
      · have := gc.len
        show (clientAt s m.client).exposures.length ≤ N + 5
        omega
theorem receive_clients {N : Nat} {s : System} {m : Message} : (receive s m).1.clients.length = s.clients.length := by
  unfold receive
  dsimp only
  have hs : ∀ (s : System) (m : Message), (send s m).clients.length = s.clients.length := fun s m => by rw [send_clients]
  have hw : ∀ (s : System) (i : Nat) (c : Client), (withClient s i c).clients.length = s.clients.length := fun s i c => by
    show (s.clients.set i c).length = _
    rw [List.length_set]
  repeat' split
  all_goals first | rfl | exact hs _ _ | exact hw _ _ _
theorem Good.on_drain : ∀ (f N : Nat) (s : System), Good N s → Good (N + 5 * f) (drain f s).1
  | 0, N, s, g => g
  | f + 1, N, s, g => by
    cases e : s.channel with
    | nil =>
      have q : drain (f + 1) s = (s, 0) := by
        unfold drain
        rw [e]
      rw [q]
      exact g.mono (by omega)
    | cons m rest =>
      have q : (drain (f + 1) s).1 = (drain f (receive { s with channel := rest } m).1).1 := by
        conv => lhs; unfold drain
        rw [e]
      rw [q]
      have g1 : Good N { s with channel := rest } := g.on_channel (by have := g.ch; rw [e, List.length_cons] at this; omega) (fun x hx => by rw [e]; exact List.mem_cons_of_mem _ hx)
      have hm : MsgOk ({ s with channel := rest } : System).clients.length m := g.ms m (by rw [e]; exact List.mem_cons_self ..)
      exact (Good.on_drain f (N + 5) _ (g1.on_receive hm)).mono (by omega)
/-- a new state -/
def fresh (n : Nat) : System := ⟨[emptyConfig], emptyConfig, List.replicate n ⟨0, emptyConfig, [], 0⟩, List.replicate n [], []⟩
theorem fresh_good {n : Nat} (h : n ≤ 4) : Good 0 (fresh n) := by
  refine ⟨Nat.le_refl _, by show 1 ≤ 20; decide, fun c hc => ?_, empty_ok, ?_, ?_, fun c hc => ?_, fun q hq => ?_, Nat.zero_le _, fun m hm => by cases hm⟩
  · have : c = emptyConfig := by simpa [fresh] using hc
    rw [this]
    exact empty_ok
  · show (List.replicate n _).length ≤ 4
    rw [List.length_replicate]
    exact h
  · show (List.replicate n _).length = (List.replicate n _).length
    rw [List.length_replicate, List.length_replicate]
  · rw [(List.mem_replicate.mp hc).2]
    exact ⟨by decide, rfl, empty_ok.lt, Nat.le_refl _, by decide, Nat.le_refl _⟩
  · rw [(List.mem_replicate.mp hq).2]
    exact Nat.le_refl _
/-- a call on a state -/
def stepS (s : System) (q : Request) : System × Result := match step (some s) q with
  | (some t, r) => (t, r)
  | (none, r) => (s, r)
end Cs

/-! Mathematics, fifth part: what a message does, case by case; what applying leads to. -/
namespace Cs
open Kex8
theorem receive_0 {s : System} {m : Message} (h : m.type = 0) : receive s m = if latest s ≤ m.number then (s, 0)
    else if latest s ≤ m.number + 3 then (send s ⟨1, m.client, m.number, patch (snapshotAt s m.number) (snapshotAt s (latest s))⟩, 1)
    else (send s ⟨2, m.client, latest s, snapshotAt s (latest s)⟩, 1) := by
  unfold receive
  rw [h]
  rfl
theorem receive_1 {s : System} {m : Message} (h : m.type = 1) : receive s m = if (clientAt s m.client).version ≠ m.number then (s, 0) else match apply m.content (snapshot (clientAt s m.client).version (clientAt s m.client).config) with
    | none => (s, 0)
    | some b => match readSnapshot b with
      | none => (s, 0)
      | some (v, config) => (withClient s m.client { clientAt s m.client with version := v, config := config }, 2) := by
  unfold receive
  rw [h]
  rfl
theorem receive_2 {s : System} {m : Message} (h : m.type = 2) : receive s m = match readSnapshot m.content with
    | none => (s, 0)
    | some (v, config) => if v ≤ (clientAt s m.client).version then (s, 0) else (withClient s m.client { clientAt s m.client with version := v, config := config }, 2) := by
  unfold receive
  rw [h]
  rfl
theorem receive_3 {s : System} {m : Message} (h : m.type = 3) : receive s m = if (s.counted.getD m.client []).length < m.number then (s, 0)
    else (send { s with counted := s.counted.set m.client (s.counted.getD m.client [] ++ m.content.drop ((s.counted.getD m.client []).length - m.number)) }
      ⟨4, m.client, (s.counted.getD m.client []).length + (m.content.drop ((s.counted.getD m.client []).length - m.number)).length, []⟩,
      if (m.content.drop ((s.counted.getD m.client []).length - m.number)).isEmpty then 1 else 3) := by
  unfold receive
  rw [h]
  rfl
theorem receive_4 {s : System} {m : Message} (h0 : m.type ≠ 0) (h1 : m.type ≠ 1) (h2 : m.type ≠ 2) (h3 : m.type ≠ 3) : receive s m = if m.number ≤ (clientAt s m.client).acknowledged ∨ (clientAt s m.client).exposures.length < m.number then (s, 0)
    else (withClient s m.client { clientAt s m.client with acknowledged := m.number }, 2) := by
  unfold receive
  dsimp only
  split
  · next h => exact absurd h h0
  · next h => exact absurd h h1
  · next h => exact absurd h h2
  · next h => exact absurd h h3
  · rfl
theorem run_mem (src : Bytes) : ∀ (f : Nat) (b out o : Bytes), run src f b out = some o → ∀ x ∈ o, x ∈ out ∨ x ∈ b ∨ x ∈ src
  | 0, _, _, _, h, _, _ => by cases h
  | f + 1, [], out, o, h, x, hx => by
    have e : out = o := Option.some.inj h
    rw [e]
    exact .inl hx
  | f + 1, c :: r, out, o, h, x, hx => by
    have hs := run_step (s := src) (code := c :: r) (out := out) (i := 0) (f := f) (Nat.succ_pos _)
    rw [List.drop_zero] at hs
    rw [hs] at h
    split at h
    · cases h
    · next j o1 hc =>
      rcases run_mem src f _ o1 o h x hx with q | q | q
      · rcases (cmdAt_le hc).2.2.2 x q with q | q | q
        · exact .inl q
        · exact .inr (.inl q)
        · exact .inr (.inr q)
      · exact .inr (.inl (List.mem_of_mem_drop q))
      · exact .inr (.inr q)
theorem apply_byte {p src o : Bytes} (h : apply p src = some o) (hp : ∀ x ∈ p, x ≤ 255) (hs : ∀ x ∈ src, x ≤ 255) : ∀ x ∈ o, x ≤ 255 := fun x hx => by
  unfold apply at h
  split at h
  · cases h
  · split at h
    · cases h
    · next out hr =>
      split at h
      · have e : out = o := Option.some.inj h
        subst e
        rcases run_mem src _ _ _ _ hr x hx with q | q | q
        · cases q
        · exact hp x (List.mem_of_mem_take q)
        · exact hs x q
      · cases h
theorem apply_len {p src o : Bytes} (h : apply p src = some o) : o.length ≤ p.length * (src.length + 1) := by
  unfold apply at h
  split at h
  · cases h
  · split at h
    · cases h
    · next out hr =>
      split at h
      · have e : out = o := Option.some.inj h
        subst e
        have key : ∀ (f : Nat) (b out o : Bytes), run src f b out = some o → o.length ≤ out.length + b.length * (src.length + 1) := by
          intro f
          induction f with
          | zero =>
            intro b out o h
            cases h
          | succ f ih =>
            intro b out o h
            cases b with
            | nil =>
              have e : out = o := Option.some.inj h
              rw [e]
              omega
            | cons c r =>
              have hs := run_step (s := src) (code := c :: r) (out := out) (i := 0) (f := f) (Nat.succ_pos _)
              rw [List.drop_zero] at hs
              rw [hs] at h
              split at h
              · cases h
              · next j o1 hc =>
                have q := ih _ _ _ h
                obtain ⟨h1, h2, h3, _⟩ := cmdAt_le hc
                rw [List.length_drop] at q
                have e2 : (c :: r).length * (src.length + 1) = (j - 0) * (src.length + 1) + ((c :: r).length - j) * (src.length + 1) := by
                  rw [← Nat.add_mul]
                  congr 1
                  omega
                omega
        have q := key _ _ _ _ hr
        have l1 : (p.take (p.length - 2)).length * (src.length + 1) ≤ p.length * (src.length + 1) := Nat.mul_le_mul_right _ (by rw [List.length_take]; omega)
        have l2 : ([] : Bytes).length = 0 := rfl
        omega
      · cases h
end Cs

/-! Mathematics, sixth part: the calls as one list of numbers; what each call does to a state. -/
namespace Cs
open Kex8

/-! ### calls and requests -/
/-- the j-th operation's numbers and rows, and the request that they stand for -/
inductive Rq : Nat → List Nat → List (List Nat) → Kex8.Request → Prop
  | stage (a b : Nat) : Rq 1 [a, b] [] (.stage a b)
  | publish : Rq 2 [] [] .publish
  | poll (a : Nat) : Rq 3 [a] [] (.poll a)
  | expose (a b : Nat) : Rq 4 [a, b] [] (.expose a b)
  | flush (a : Nat) : Rq 5 [a] [] (.flushClient a)
  | deliver (a : Nat) : Rq 6 [a] [] (.deliver a)
  | copy (a : Nat) : Rq 7 [a] [] (.deliverCopy a)
  | drop (a : Nat) : Rq 8 [a] [] (.drop a)
  | drain : Rq 9 [] [] .drain
  | forget (a : Nat) : Rq 10 [a] [] (.forget a)
  | messages : Rq 11 [] [] .messages
  | content (a : Nat) : Rq 12 [a] [] (.messageContent a)
  | state (a : Nat) : Rq 13 [a] [] (.clientState a)
  | cvalue (a b : Nat) : Rq 14 [a, b] [] (.clientValue a b)
  | svalue (a b : Nat) : Rq 15 [a, b] [] (.serverValue a b)
  | counted (a : Nat) : Rq 16 [a] [] (.counted a)
  | count (a : Nat) : Rq 17 [a] [] (.countCode a)
  | snapshot (a : Nat) : Rq 18 [a] [] (.snapshot a)
  | patch (a b : Nat) : Rq 19 [a, b] [] (.patch a b)
  | apply (p b : List Nat) : p.length ≤ 200 → b.length ≤ 200 → Rq 20 [] [p, b] (.apply p b)
  | read (b : List Nat) : b.length ≤ 200 → Rq 21 [] [b] (.readSnapshot b)
  | diff (b c : List Nat) : b.length ≤ 200 → c.length ≤ 200 → Rq 22 [] [b, c] (.difference b c)
  | varint (a : Nat) : a < 2 ^ 35 → Rq 23 [a] [] (.varint a)
  | readv (b : List Nat) : b.length ≤ 200 → Rq 24 [] [b] (.readVarint b)
  | sum (b : List Nat) : b.length ≤ 200 → Rq 25 [] [b] (.checksum b)
  | summary : Rq 26 [] [] .summary
theorem stepS_of {s t : Kex8.System} {q : Kex8.Request} {r : Kex8.Result} (h : Kex8.step (some s) q = (some t, r)) : stepS s q = (t, r) := by
  unfold stepS
  rw [h]
/-- every call leaves a good state good -/
theorem Good.on_step {N : Nat} {s : System} (g : Good N s) {j : Nat} {ns : List Nat} {rs : List (List Nat)} {rq : Request} (q : Rq j ns rs rq) : ∃ t r, step (some s) rq = (some t, r) ∧ Good (N + 500) t := by
  have gm : Good (N + 500) s := g.mono (by omega)
  cases q with
  | stage a b =>
    have es : Kex8.step (some s) (.stage a b) = if 16 ≤ a then (some s, .value (-2)) else if 1000000 < b then (some s, .value (-22)) else (some { s with staged := s.staged.set a b }, .value (s.staged.getD a 0 : Nat)) := rfl
    rw [es]
    split
    · exact ⟨_, _, rfl, gm⟩
    · split
      · exact ⟨_, _, rfl, gm⟩
      · next h1 h2 =>
        refine ⟨_, _, rfl, ⟨gm.v1, gm.v20, gm.vc, ⟨?_, fun x hx => ?_⟩, gm.n4, gm.nk, gm.cl, gm.ct, gm.ch, gm.ms⟩⟩
        · show (s.staged.set a b).length = 16
          rw [List.length_set]
          exact g.st.len
        · rcases List.mem_or_eq_of_mem_set hx with hx | hx
          · exact g.st.val x hx
          · omega
  | publish =>
    have es : Kex8.step (some s) .publish = if 20 ≤ s.versions.length then (some s, .value (-28)) else (some { s with versions := s.versions ++ [s.staged] }, .value (s.versions.length : Nat)) := rfl
    rw [es]
    split
    · exact ⟨_, _, rfl, gm⟩
    · next h =>
      have e : (s.versions ++ [s.staged]).length = s.versions.length + 1 := by rw [List.length_append]; rfl
      refine ⟨_, _, rfl, ⟨by show 1 ≤ (s.versions ++ [s.staged]).length; omega, by show (s.versions ++ [s.staged]).length ≤ 20; omega, fun c hc => ?_, gm.st, gm.n4, gm.nk, gm.cl, gm.ct, gm.ch, gm.ms⟩⟩
      rcases List.mem_append.mp hc with hc | hc
      · exact g.vc c hc
      · have : c = s.staged := by simpa using hc
        rw [this]
        exact g.st
  | poll a =>
    have es : Kex8.step (some s) (.poll a) = if s.clients.length ≤ a then (some s, .value (-2)) else if 30 ≤ s.channel.length then (some s, .value (-28)) else (some (Kex8.send s ⟨0, a, (Kex8.clientAt s a).version, []⟩), .value (s.channel.length + 1 : Nat)) := rfl
    rw [es]
    split
    · exact ⟨_, _, rfl, gm⟩
    · split
      · exact ⟨_, _, rfl, gm⟩
      · next h1 h2 => exact ⟨_, _, rfl, gm.on_send ⟨by show a < _; omega, Nat.zero_le _, fun _ x hx => (nomatch hx), fun z => (nomatch z)⟩⟩
  | expose a b =>
    have es : Kex8.step (some s) (.expose a b) = if s.clients.length ≤ a then (some s, .value (-2)) else if 255 < b then (some s, .value (-22)) else if 12 ≤ (Kex8.pending (Kex8.clientAt s a)).length then (some s, .value (-28)) else
      (some (Kex8.withClient s a { Kex8.clientAt s a with exposures := (Kex8.clientAt s a).exposures ++ [b] }), .value ((Kex8.clientAt s a).exposures.length : Nat)) := rfl
    rw [es]
    split
    · exact ⟨_, _, rfl, gm⟩
    · split
      · exact ⟨_, _, rfl, gm⟩
      · split
        · exact ⟨_, _, rfl, gm⟩
        · next h1 h2 h3 =>
          have gc := g.cl _ (client_mem (s := s) (i := a) (by omega))
          have pl : (Kex8.pending (Kex8.clientAt s a)).length = (Kex8.clientAt s a).exposures.length - (Kex8.clientAt s a).acknowledged := by
            unfold Kex8.pending
            rw [List.length_drop]
          have e : ((Kex8.clientAt s a).exposures ++ [b]).length = (Kex8.clientAt s a).exposures.length + 1 := by rw [List.length_append]; rfl
          have ga := gc.ack
          have gl := gc.len
          refine ⟨_, _, rfl, gm.on_client ⟨gc.ver, gc.cfg, gc.cfgx, ?_, ?_, ?_⟩⟩
          · show _ ≤ ((Kex8.clientAt s a).exposures ++ [b]).length
            show (Kex8.clientAt s a).acknowledged ≤ _
            omega
          · show ((Kex8.clientAt s a).exposures ++ [b]).length ≤ (Kex8.clientAt s a).acknowledged + 12
            omega
          · show ((Kex8.clientAt s a).exposures ++ [b]).length ≤ N + 500
            omega
  | flush a =>
    have es : Kex8.step (some s) (.flushClient a) = if s.clients.length ≤ a then (some s, .value (-2)) else if (Kex8.pending (Kex8.clientAt s a)).isEmpty then (some s, .value (-6)) else if 30 ≤ s.channel.length then (some s, .value (-28)) else
      (some (Kex8.send s ⟨3, a, (Kex8.clientAt s a).acknowledged, (Kex8.pending (Kex8.clientAt s a)).take 5⟩), .value (((Kex8.pending (Kex8.clientAt s a)).take 5).length : Nat)) := rfl
    rw [es]
    split
    · exact ⟨_, _, rfl, gm⟩
    · split
      · exact ⟨_, _, rfl, gm⟩
      · split
        · exact ⟨_, _, rfl, gm⟩
        · next h1 h2 h3 =>
          have l5 : ((Kex8.pending (Kex8.clientAt s a)).take 5).length ≤ 5 := by
            rw [List.length_take]
            exact Nat.min_le_left ..
          exact ⟨_, _, rfl, gm.on_send ⟨by show a < _; omega, Nat.le_trans l5 (by decide), fun z => (by rcases z with z | z <;> exact nomatch z), fun _ => l5⟩⟩
  | deliver a =>
    have es : Kex8.step (some s) (.deliver a) = match s.channel[a]? with
      | none => (some s, .value (-2))
      | some m => (some (Kex8.receive { s with channel := s.channel.eraseIdx a } m).1, .value ((Kex8.receive { s with channel := s.channel.eraseIdx a } m).2 : Nat)) := rfl
    rw [es]
    cases h : s.channel[a]? with
    | none => exact ⟨_, _, rfl, gm⟩
    | some m => exact ⟨_, _, rfl, (g.on_erase.on_receive (g.ms m (List.mem_of_getElem? h))).mono (by omega)⟩
  | copy a =>
    have es : Kex8.step (some s) (.deliverCopy a) = match s.channel[a]? with
      | none => (some s, .value (-2))
      | some m => (some (Kex8.receive s m).1, .value ((Kex8.receive s m).2 : Nat)) := rfl
    rw [es]
    cases h : s.channel[a]? with
    | none => exact ⟨_, _, rfl, gm⟩
    | some m => exact ⟨_, _, rfl, (g.on_receive (g.ms m (List.mem_of_getElem? h))).mono (by omega)⟩
  | drop a =>
    have es : Kex8.step (some s) (.drop a) = if s.channel.length ≤ a then (some s, .value (-2)) else (some { s with channel := s.channel.eraseIdx a }, .value (s.channel.length - 1 : Nat)) := rfl
    rw [es]
    split
    · exact ⟨_, _, rfl, gm⟩
    · exact ⟨_, _, rfl, gm.on_erase⟩
  | drain => exact ⟨_, _, rfl, (Good.on_drain 100 N s g).mono (by omega)⟩
  | forget a =>
    have es : Kex8.step (some s) (.forget a) = if s.clients.length ≤ a then (some s, .value (-2)) else (some (Kex8.withClient s a { Kex8.clientAt s a with version := 0, config := Kex8.emptyConfig }), .value ((Kex8.clientAt s a).version : Nat)) := rfl
    rw [es]
    split
    · exact ⟨_, _, rfl, gm⟩
    · next h => exact ⟨_, _, rfl, gm.on_client ((gm.cl _ (client_mem (by omega))).taken ⟨by decide, rfl, empty_ok.lt⟩)⟩
  | messages => exact ⟨_, _, rfl, gm⟩
  | content a => exact ⟨_, _, rfl, gm⟩
  | state a => exact ⟨_, _, rfl, gm⟩
  | cvalue a b => exact ⟨_, _, rfl, gm⟩
  | svalue a b => exact ⟨_, _, rfl, gm⟩
  | counted a => exact ⟨_, _, rfl, gm⟩
  | count a => exact ⟨_, _, rfl, gm⟩
  | snapshot a => exact ⟨_, _, rfl, gm⟩
  | patch a b => exact ⟨_, _, rfl, gm⟩
  | apply p b _ _ => exact ⟨_, _, rfl, gm⟩
  | read b _ => exact ⟨_, _, rfl, gm⟩
  | diff b c _ _ => exact ⟨_, _, rfl, gm⟩
  | varint a _ => exact ⟨_, _, rfl, gm⟩
  | readv b _ => exact ⟨_, _, rfl, gm⟩
  | sum b _ => exact ⟨_, _, rfl, gm⟩
  | summary => exact ⟨_, _, rfl, gm⟩

/-! ### the list of numbers -/
def up (l : List Nat) : List Int := l.map fun (n : Nat) => (n : Int)
theorem up_len (l : List Nat) : (up l).length = l.length := by unfold up; rw [List.length_map]
theorem up_drop (l : List Nat) (i : Nat) : (up l).drop i = up (l.drop i) := by unfold up; rw [List.map_drop]
theorem up_take (l : List Nat) (i : Nat) : (up l).take i = up (l.take i) := by unfold up; rw [List.map_take]
theorem up_nat (l : List Nat) : (up l).map Kex8Neutral.nat = l := by
  unfold up
  rw [List.map_map]
  have e : (Kex8Neutral.nat ∘ fun (n : Nat) => (n : Int)) = id := rfl
  rw [e, List.map_id]
theorem up_of : ∀ (l : List Int), (∀ x ∈ l, 0 ≤ x) → up (l.map Int.toNat) = l
  | [], _ => rfl
  | x :: l, h => by
    show ((x.toNat : Nat) : Int) :: up (l.map Int.toNat) = x :: l
    rw [up_of l fun y hy => h y (List.mem_cons_of_mem _ hy), Int.toNat_of_nonneg (h x (List.mem_cons_self ..))]
def nums : List Nat := [1, 2, 0, 1, 2, 1, 1, 1, 1, 0, 1, 0, 1, 1, 2, 2, 1, 1, 1, 2, 0, 0, 0, 1, 0, 0, 0]
def rowsL : List Nat := [0, 0, 0, 0, 0, 0, 0, 0, 0, 0, 0, 0, 0, 0, 0, 0, 0, 0, 0, 0, 2, 1, 2, 0, 1, 1, 0]
theorem shape_small : ∀ j : Nat, j < 27 → PyKex8.shape (j : Int) = some (nums.getD j 0, rowsL.getD j 0) := by decide
theorem shape_big {j : Nat} (h : 27 ≤ j) : PyKex8.shape (j : Int) = none := by
  unfold PyKex8.shape
  repeat rw [if_neg (by omega)]
theorem shape_at {j n k : Nat} (h : PyKex8.shape (j : Int) = some (n, k)) : nums[j]? = some n ∧ rowsL[j]? = some k := by
  by_cases c : j < 27
  · rw [shape_small j c] at h
    obtain ⟨rfl, rfl⟩ := Prod.mk.inj (Option.some.inj h)
    have l1 : nums.length = 27 := rfl
    have l2 : rowsL.length = 27 := rfl
    refine ⟨?_, ?_⟩
    · rw [List.getD_eq_getElem?_getD, List.getElem?_eq_getElem (by omega)]
      rfl
    · rw [List.getD_eq_getElem?_getD, List.getElem?_eq_getElem (by omega)]
      rfl
  · rw [shape_big (by omega)] at h
    cases h
/-- k rows from a place on, and the place behind them -/
def rowsN (ln : List Nat) : Nat → Nat → Option (List (List Nat) × Nat)
  | 0, e => some ([], e)
  | k + 1, e => match ln[e]? with
    | none => none
    | some m => if e + 1 + m ≤ ln.length then match rowsN ln k (e + 1 + m) with
      | none => none
      | some (xs, f) => some ((ln.drop (e + 1)).take m :: xs, f) else none
theorem rows_at (ln : List Nat) : ∀ (k e : Nat) (xs : List (List Int)) (t : List Int), e ≤ ln.length → PyFlat.rows k (up (ln.drop e)) = some (xs, t) → ∃ ys f, rowsN ln k e = some (ys, f) ∧ xs = ys.map up ∧ t = up (ln.drop f) ∧ e ≤ f ∧ f ≤ ln.length ∧ ys.length = k
  | 0, e, xs, t, he, h => by
    obtain ⟨rfl, rfl⟩ := Prod.mk.inj (Option.some.inj h)
    exact ⟨[], e, rfl, rfl, rfl, Nat.le_refl _, he, rfl⟩
  | k + 1, e, xs, t, he, h => by
    unfold PyFlat.rows at h
    split at h
    · cases h
    · next x s hrow =>
      split at h
      · cases h
      · next xs2 t2 hr =>
        obtain ⟨rfl, rfl⟩ := Prod.mk.inj (Option.some.inj h)
        by_cases c : e < ln.length
        · rw [List.drop_eq_getElem_cons c] at hrow
          have e1 : PyFlat.row (up (ln[e] :: ln.drop (e + 1))) = if 0 ≤ ((ln[e] : Nat) : Int) ∧ ((ln[e] : Nat) : Int).toNat ≤ (up (ln.drop (e + 1))).length then some ((up (ln.drop (e + 1))).take ((ln[e] : Nat) : Int).toNat, (up (ln.drop (e + 1))).drop ((ln[e] : Nat) : Int).toNat) else none := rfl
          rw [e1, Int.toNat_natCast] at hrow
          split at hrow
          · next hc =>
            obtain ⟨rfl, rfl⟩ := Prod.mk.inj (Option.some.inj hrow)
            have hc2 := hc.2
            rw [up_len, List.length_drop] at hc2
            rw [up_drop, List.drop_drop] at hr
            obtain ⟨ys, f, q1, q2, q3, q4, q5, q6⟩ := rows_at ln k (e + 1 + ln[e]) xs2 t2 (by omega) hr
            refine ⟨(ln.drop (e + 1)).take ln[e] :: ys, f, ?_, ?_, q3, by omega, q5, by rw [List.length_cons, q6]⟩
            · unfold rowsN
              rw [List.getElem?_eq_getElem c]
              dsimp only
              rw [if_pos (by omega), q1]
            · rw [List.map_cons, up_take, q2]
          · cases hrow
        · rw [List.drop_eq_nil_of_le (by omega)] at hrow
          cases hrow
/-- one call is taken off -/
theorem calls_turn {ln : List Nat} {i f : Nat} {rest : List (List (List Int))} (hi : i < ln.length) (h : PyFlat.calls PyKex8.shape f (up (ln.drop i)) = some rest) :
    ∃ (j n k : Nat) (rs : List (List Nat)) (e f' : Nat) (cs : List (List (List Int))), ln[i]? = some j ∧ PyKex8.shape (j : Int) = some (n, k) ∧ ((ln.drop (i + 1)).take n).length = n ∧ rowsN ln k (i + 1 + n) = some (rs, e) ∧ rs.length = k ∧ i < e ∧ e ≤ ln.length ∧
      i + 1 + n ≤ ln.length ∧ rest = (((j : Int) :: up ((ln.drop (i + 1)).take n)) :: rs.map up) :: cs ∧ PyFlat.calls PyKex8.shape f' (up (ln.drop e)) = some cs := by
  rw [List.drop_eq_getElem_cons hi] at h
  have e0 : up (ln[i] :: ln.drop (i + 1)) = ((ln[i] : Nat) : Int) :: up (ln.drop (i + 1)) := rfl
  rw [e0] at h
  cases f with
  | zero => cases h
  | succ f =>
    unfold PyFlat.calls at h
    split at h
    · cases h
    · next c t hc =>
      split at h
      · cases h
      · next cs hcs =>
        obtain rfl := Option.some.inj h
        have ec : PyFlat.call PyKex8.shape (((ln[i] : Nat) : Int) :: up (ln.drop (i + 1))) = match PyKex8.shape ((ln[i] : Nat) : Int) with
          | none => none
          | some (n, k) => if (up (ln.drop (i + 1))).length < n then none else match PyFlat.rows k ((up (ln.drop (i + 1))).drop n) with
            | none => none
            | some (xs, t) => some ((((ln[i] : Nat) : Int) :: (up (ln.drop (i + 1))).take n) :: xs, t) := rfl
        rw [ec] at hc
        split at hc
        · cases hc
        · next n k hs =>
          split at hc
          · cases hc
          · next hlen =>
            rw [up_len, List.length_drop] at hlen
            split at hc
            · cases hc
            · next xs t2 hr =>
              obtain ⟨rfl, rfl⟩ := Prod.mk.inj (Option.some.inj hc)
              rw [up_drop, List.drop_drop] at hr
              obtain ⟨ys, e, q1, q2, q3, q4, q5, q6⟩ := rows_at ln k (i + 1 + n) xs t2 (by omega) hr
              refine ⟨ln[i], n, k, ys, e, f, cs, List.getElem?_eq_getElem hi, hs, ?_, q1, q6, by omega, q5, by omega, ?_, ?_⟩
              · rw [List.length_take, List.length_drop]
                omega
              · rw [q2, up_take]
              · rw [← q3]
                exact hcs
theorem calls_end {f : Nat} {rest : List (List (List Int))} (h : PyFlat.calls PyKex8.shape f (up []) = some rest) : rest = [] := by
  cases f <;> exact (Option.some.inj h).symm
theorem len1 {α : Type} {l : List α} (h : l.length = 1) : ∃ a, l = [a] := match l, h with
  | [a], _ => ⟨a, rfl⟩
theorem len2 {α : Type} {l : List α} (h : l.length = 2) : ∃ a b, l = [a, b] := match l, h with
  | [a, b], _ => ⟨a, b, rfl⟩
theorem lists_one {b : List (Int × Int × Nat × Nat)} {r : List Int} {rs : List (List Int)} (h : PyInside.lists ((0, 4294967295, 0, 200) :: b) (r :: rs) = true) : r.length ≤ 200 ∧ PyInside.lists b rs = true := by
  have e : (decide (0 ≤ r.length) && decide (r.length ≤ 200) && r.all (PyInside.within 0 4294967295) && PyInside.lists b rs) = true := h
  rw [Bool.and_eq_true, Bool.and_eq_true, Bool.and_eq_true] at e
  exact ⟨of_decide_eq_true e.1.1.2, e.2⟩
theorem req_of : ∀ (j : Nat) (ns : List Nat) (rs : List (List Nat)), PyKex8.shape (j : Int) = some (ns.length, rs.length) → (∀ x ∈ ns, x < 2 ^ 32) → PyInside.call PyKex8.bound (((j : Int) :: up ns) :: rs.map up) = true →
    (j = 0 ∧ ∃ a, ns = [a] ∧ rs = [] ∧ Kex8Neutral.requestOf (PyKex8.whole (((j : Int) :: up ns) :: rs.map up)) = some (.create a)) ∨
    (j ≠ 0 ∧ ∃ rq, Rq j ns rs rq ∧ Kex8Neutral.requestOf (PyKex8.whole (((j : Int) :: up ns) :: rs.map up)) = some rq)
  | 0, ns, rs, h, hx, hb => by
    have e : some (1, 0) = some (ns.length, rs.length) := h
    obtain ⟨e1, e2⟩ := Prod.mk.inj (Option.some.inj e)
    obtain ⟨a, rfl⟩ := len1 e1.symm
    obtain rfl : rs = [] := List.length_eq_zero_iff.mp e2.symm
    exact .inl ⟨rfl, a, rfl, rfl, rfl⟩
  | 1, ns, rs, h, hx, hb => by
    have e : some (2, 0) = some (ns.length, rs.length) := h
    obtain ⟨e1, e2⟩ := Prod.mk.inj (Option.some.inj e)
    obtain ⟨a, b, rfl⟩ := len2 e1.symm
    obtain rfl : rs = [] := List.length_eq_zero_iff.mp e2.symm
    exact .inr ⟨by decide, _, .stage a b, rfl⟩
  | 2, ns, rs, h, hx, hb => by
    have e : some (0, 0) = some (ns.length, rs.length) := h
    obtain ⟨e1, e2⟩ := Prod.mk.inj (Option.some.inj e)
    obtain rfl : ns = [] := List.length_eq_zero_iff.mp e1.symm
    obtain rfl : rs = [] := List.length_eq_zero_iff.mp e2.symm
    exact .inr ⟨by decide, _, .publish, rfl⟩
  | 3, ns, rs, h, hx, hb => by
    have e : some (1, 0) = some (ns.length, rs.length) := h
    obtain ⟨e1, e2⟩ := Prod.mk.inj (Option.some.inj e)
    obtain ⟨a, rfl⟩ := len1 e1.symm
    obtain rfl : rs = [] := List.length_eq_zero_iff.mp e2.symm
    exact .inr ⟨by decide, _, .poll a, rfl⟩
  | 4, ns, rs, h, hx, hb => by
    have e : some (2, 0) = some (ns.length, rs.length) := h
    obtain ⟨e1, e2⟩ := Prod.mk.inj (Option.some.inj e)
    obtain ⟨a, b, rfl⟩ := len2 e1.symm
    obtain rfl : rs = [] := List.length_eq_zero_iff.mp e2.symm
    exact .inr ⟨by decide, _, .expose a b, rfl⟩
  | 5, ns, rs, h, hx, hb => by
    have e : some (1, 0) = some (ns.length, rs.length) := h
    obtain ⟨e1, e2⟩ := Prod.mk.inj (Option.some.inj e)
    obtain ⟨a, rfl⟩ := len1 e1.symm
    obtain rfl : rs = [] := List.length_eq_zero_iff.mp e2.symm
    exact .inr ⟨by decide, _, .flush a, rfl⟩
  | 6, ns, rs, h, hx, hb => by
    have e : some (1, 0) = some (ns.length, rs.length) := h
    obtain ⟨e1, e2⟩ := Prod.mk.inj (Option.some.inj e)
    obtain ⟨a, rfl⟩ := len1 e1.symm
    obtain rfl : rs = [] := List.length_eq_zero_iff.mp e2.symm
    exact .inr ⟨by decide, _, .deliver a, rfl⟩
  | 7, ns, rs, h, hx, hb => by
    have e : some (1, 0) = some (ns.length, rs.length) := h
    obtain ⟨e1, e2⟩ := Prod.mk.inj (Option.some.inj e)
    obtain ⟨a, rfl⟩ := len1 e1.symm
    obtain rfl : rs = [] := List.length_eq_zero_iff.mp e2.symm
    exact .inr ⟨by decide, _, .copy a, rfl⟩
  | 8, ns, rs, h, hx, hb => by
    have e : some (1, 0) = some (ns.length, rs.length) := h
    obtain ⟨e1, e2⟩ := Prod.mk.inj (Option.some.inj e)
    obtain ⟨a, rfl⟩ := len1 e1.symm
    obtain rfl : rs = [] := List.length_eq_zero_iff.mp e2.symm
    exact .inr ⟨by decide, _, .drop a, rfl⟩
  | 9, ns, rs, h, hx, hb => by
    have e : some (0, 0) = some (ns.length, rs.length) := h
    obtain ⟨e1, e2⟩ := Prod.mk.inj (Option.some.inj e)
    obtain rfl : ns = [] := List.length_eq_zero_iff.mp e1.symm
    obtain rfl : rs = [] := List.length_eq_zero_iff.mp e2.symm
    exact .inr ⟨by decide, _, .drain, rfl⟩
  | 10, ns, rs, h, hx, hb => by
    have e : some (1, 0) = some (ns.length, rs.length) := h
    obtain ⟨e1, e2⟩ := Prod.mk.inj (Option.some.inj e)
    obtain ⟨a, rfl⟩ := len1 e1.symm
    obtain rfl : rs = [] := List.length_eq_zero_iff.mp e2.symm
    exact .inr ⟨by decide, _, .forget a, rfl⟩
  | 11, ns, rs, h, hx, hb => by
    have e : some (0, 0) = some (ns.length, rs.length) := h
    obtain ⟨e1, e2⟩ := Prod.mk.inj (Option.some.inj e)
    obtain rfl : ns = [] := List.length_eq_zero_iff.mp e1.symm
    obtain rfl : rs = [] := List.length_eq_zero_iff.mp e2.symm
    exact .inr ⟨by decide, _, .messages, rfl⟩
  | 12, ns, rs, h, hx, hb => by
    have e : some (1, 0) = some (ns.length, rs.length) := h
    obtain ⟨e1, e2⟩ := Prod.mk.inj (Option.some.inj e)
    obtain ⟨a, rfl⟩ := len1 e1.symm
    obtain rfl : rs = [] := List.length_eq_zero_iff.mp e2.symm
    exact .inr ⟨by decide, _, .content a, rfl⟩
  | 13, ns, rs, h, hx, hb => by
    have e : some (1, 0) = some (ns.length, rs.length) := h
    obtain ⟨e1, e2⟩ := Prod.mk.inj (Option.some.inj e)
    obtain ⟨a, rfl⟩ := len1 e1.symm
    obtain rfl : rs = [] := List.length_eq_zero_iff.mp e2.symm
    exact .inr ⟨by decide, _, .state a, rfl⟩
  | 14, ns, rs, h, hx, hb => by
    have e : some (2, 0) = some (ns.length, rs.length) := h
    obtain ⟨e1, e2⟩ := Prod.mk.inj (Option.some.inj e)
    obtain ⟨a, b, rfl⟩ := len2 e1.symm
    obtain rfl : rs = [] := List.length_eq_zero_iff.mp e2.symm
    exact .inr ⟨by decide, _, .cvalue a b, rfl⟩
  | 15, ns, rs, h, hx, hb => by
    have e : some (2, 0) = some (ns.length, rs.length) := h
    obtain ⟨e1, e2⟩ := Prod.mk.inj (Option.some.inj e)
    obtain ⟨a, b, rfl⟩ := len2 e1.symm
    obtain rfl : rs = [] := List.length_eq_zero_iff.mp e2.symm
    exact .inr ⟨by decide, _, .svalue a b, rfl⟩
  | 16, ns, rs, h, hx, hb => by
    have e : some (1, 0) = some (ns.length, rs.length) := h
    obtain ⟨e1, e2⟩ := Prod.mk.inj (Option.some.inj e)
    obtain ⟨a, rfl⟩ := len1 e1.symm
    obtain rfl : rs = [] := List.length_eq_zero_iff.mp e2.symm
    exact .inr ⟨by decide, _, .counted a, rfl⟩
  | 17, ns, rs, h, hx, hb => by
    have e : some (1, 0) = some (ns.length, rs.length) := h
    obtain ⟨e1, e2⟩ := Prod.mk.inj (Option.some.inj e)
    obtain ⟨a, rfl⟩ := len1 e1.symm
    obtain rfl : rs = [] := List.length_eq_zero_iff.mp e2.symm
    exact .inr ⟨by decide, _, .count a, rfl⟩
  | 18, ns, rs, h, hx, hb => by
    have e : some (1, 0) = some (ns.length, rs.length) := h
    obtain ⟨e1, e2⟩ := Prod.mk.inj (Option.some.inj e)
    obtain ⟨a, rfl⟩ := len1 e1.symm
    obtain rfl : rs = [] := List.length_eq_zero_iff.mp e2.symm
    exact .inr ⟨by decide, _, .snapshot a, rfl⟩
  | 19, ns, rs, h, hx, hb => by
    have e : some (2, 0) = some (ns.length, rs.length) := h
    obtain ⟨e1, e2⟩ := Prod.mk.inj (Option.some.inj e)
    obtain ⟨a, b, rfl⟩ := len2 e1.symm
    obtain rfl : rs = [] := List.length_eq_zero_iff.mp e2.symm
    exact .inr ⟨by decide, _, .patch a b, rfl⟩
  | 20, ns, rs, h, hx, hb => by
    have e : some (0, 2) = some (ns.length, rs.length) := h
    obtain ⟨e1, e2⟩ := Prod.mk.inj (Option.some.inj e)
    obtain rfl : ns = [] := List.length_eq_zero_iff.mp e1.symm
    obtain ⟨r, q, rfl⟩ := len2 e2.symm
    have l0 := lists_one (b := [(0, 4294967295, 0, 200)]) (rs := [up q]) hb
    have l1 := l0.1
    have l2 := (lists_one (b := []) (rs := []) l0.2).1
    refine .inr ⟨by decide, _, .apply r q (by rw [up_len] at l1; exact l1) (by rw [up_len] at l2; exact l2), ?_⟩
    show some (Kex8.Request.apply ((up r).map Kex8Neutral.nat) ((up q).map Kex8Neutral.nat)) = _
    rw [up_nat, up_nat]
  | 21, ns, rs, h, hx, hb => by
    have e : some (0, 1) = some (ns.length, rs.length) := h
    obtain ⟨e1, e2⟩ := Prod.mk.inj (Option.some.inj e)
    obtain rfl : ns = [] := List.length_eq_zero_iff.mp e1.symm
    obtain ⟨r, rfl⟩ := len1 e2.symm
    have l1 := (lists_one (b := []) (rs := []) hb).1
    refine .inr ⟨by decide, _, .read r (by rw [up_len] at l1; exact l1), ?_⟩
    show some (Kex8.Request.readSnapshot ((up r).map Kex8Neutral.nat)) = _
    rw [up_nat]
  | 22, ns, rs, h, hx, hb => by
    have e : some (0, 2) = some (ns.length, rs.length) := h
    obtain ⟨e1, e2⟩ := Prod.mk.inj (Option.some.inj e)
    obtain rfl : ns = [] := List.length_eq_zero_iff.mp e1.symm
    obtain ⟨r, q, rfl⟩ := len2 e2.symm
    have l0 := lists_one (b := [(0, 4294967295, 0, 200)]) (rs := [up q]) hb
    have l1 := l0.1
    have l2 := (lists_one (b := []) (rs := []) l0.2).1
    refine .inr ⟨by decide, _, .diff r q (by rw [up_len] at l1; exact l1) (by rw [up_len] at l2; exact l2), ?_⟩
    show some (Kex8.Request.difference ((up r).map Kex8Neutral.nat) ((up q).map Kex8Neutral.nat)) = _
    rw [up_nat, up_nat]
  | 23, ns, rs, h, hx, hb => by
    have e : some (1, 0) = some (ns.length, rs.length) := h
    obtain ⟨e1, e2⟩ := Prod.mk.inj (Option.some.inj e)
    obtain ⟨a, rfl⟩ := len1 e1.symm
    obtain rfl : rs = [] := List.length_eq_zero_iff.mp e2.symm
    exact .inr ⟨by decide, _, .varint a (Nat.lt_trans (hx a (List.mem_cons_self ..)) (by decide)), rfl⟩
  | 24, ns, rs, h, hx, hb => by
    have e : some (0, 1) = some (ns.length, rs.length) := h
    obtain ⟨e1, e2⟩ := Prod.mk.inj (Option.some.inj e)
    obtain rfl : ns = [] := List.length_eq_zero_iff.mp e1.symm
    obtain ⟨r, rfl⟩ := len1 e2.symm
    have l1 := (lists_one (b := []) (rs := []) hb).1
    refine .inr ⟨by decide, _, .readv r (by rw [up_len] at l1; exact l1), ?_⟩
    show some (Kex8.Request.readVarint ((up r).map Kex8Neutral.nat)) = _
    rw [up_nat]
  | 25, ns, rs, h, hx, hb => by
    have e : some (0, 1) = some (ns.length, rs.length) := h
    obtain ⟨e1, e2⟩ := Prod.mk.inj (Option.some.inj e)
    obtain rfl : ns = [] := List.length_eq_zero_iff.mp e1.symm
    obtain ⟨r, rfl⟩ := len1 e2.symm
    have l1 := (lists_one (b := []) (rs := []) hb).1
    refine .inr ⟨by decide, _, .sum r (by rw [up_len] at l1; exact l1), ?_⟩
    show some (Kex8.Request.checksum ((up r).map Kex8Neutral.nat)) = _
    rw [up_nat]
  | 26, ns, rs, h, hx, hb => by
    have e : some (0, 0) = some (ns.length, rs.length) := h
    obtain ⟨e1, e2⟩ := Prod.mk.inj (Option.some.inj e)
    obtain rfl : ns = [] := List.length_eq_zero_iff.mp e1.symm
    obtain rfl : rs = [] := List.length_eq_zero_iff.mp e2.symm
    exact .inr ⟨by decide, _, .summary, rfl⟩
  | j + 27, ns, rs, h, _, _ => by
    rw [shape_big (by omega)] at h
    cases h
theorem asked_parts {l : List Int} (h : PyKex8.answers_asked l = true) : ∃ raw, PyFlat.calls PyKex8.shape l.length l = some raw ∧ raw.length ≤ 200 ∧ (∀ c ∈ raw, PyInside.call PyKex8.bound c = true) ∧ (PyKex8.answers l).length ≤ 10000000 := by
  unfold PyKex8.answers_asked at h
  split at h
  · cases h
  · next raw hr =>
    rw [Bool.and_eq_true, Bool.and_eq_true, Bool.and_eq_true, Bool.and_eq_true] at h
    obtain ⟨⟨⟨⟨_, h1⟩, h2⟩, _⟩, h3⟩ := h
    exact ⟨raw, hr, of_decide_eq_true h1, List.all_eq_true.mp h2, of_decide_eq_true h3⟩
theorem answers_eq {l : List Int} {raw : List (List (List Int))} (h : PyFlat.calls PyKex8.shape l.length l = some raw) : PyKex8.answers l = PyFlat.told (PyFlat.played Kex8Neutral.step Kex8Neutral.start (raw.map PyKex8.whole)) := by
  unfold PyKex8.answers PyKex8.calls
  rw [h]
theorem played_cons {s : Kex8.State} {c : List (List Int)} {cs : List (List (List Int))} {rq : Request} (h : Kex8Neutral.requestOf (PyKex8.whole c) = some rq) :
    PyFlat.told (PyFlat.played Kex8Neutral.step s ((c :: cs).map PyKex8.whole)) = (((Kex8Neutral.fields (Kex8.step s rq).2).length : Nat) : Int) :: Kex8Neutral.fields (Kex8.step s rq).2 ++ PyFlat.told (PyFlat.played Kex8Neutral.step (Kex8.step s rq).1 (cs.map PyKex8.whole)) := by
  have e : Kex8Neutral.step s (PyKex8.whole c) = ((Kex8.step s rq).1, Kex8Neutral.fields (Kex8.step s rq).2) := by
    unfold Kex8Neutral.step
    rw [h]
  have e2 : PyFlat.told (PyFlat.played Kex8Neutral.step s ((c :: cs).map PyKex8.whole)) = ((((Kex8Neutral.step s (PyKex8.whole c)).2).length : Nat) : Int) :: (Kex8Neutral.step s (PyKex8.whole c)).2 ++ PyFlat.told (PyFlat.played Kex8Neutral.step (Kex8Neutral.step s (PyKex8.whole c)).1 (cs.map PyKex8.whole)) := rfl
  rw [e2, e]
end Cs

/-! The program by places, the words of the proof. -/
namespace Cs
open PySem PySem.Spec PyProof.Rows L2
open PySem.W (Codec)

def top (i : Nat) : Stmt := PySem.Challenge.pw_clientsync_s01_answers.main.body.getD i (.Pass ⟨0, 0, 0, 0⟩)
abbrev s_encoded : Stmt := top 3
theorem sc_encoded : FnScope ["number", "found"] ["number"] (defScope s_encoded) := ⟨rfl, rfl, rfl, by decide +kernel, rfl, by decide +kernel, by decide +kernel⟩
abbrev s_read_number : Stmt := top 4
theorem sc_read_number : FnScope ["code", "at", "number", "weight", "turn", "byte"] ["code", "at"] (defScope s_read_number) := ⟨rfl, rfl, rfl, by decide +kernel, rfl, by decide +kernel, by decide +kernel⟩
abbrev s_checksum : Stmt := top 5
theorem sc_checksum : FnScope ["code", "s", "t", "byte"] ["code"] (defScope s_checksum) := ⟨rfl, rfl, rfl, by decide +kernel, rfl, by decide +kernel, by decide +kernel⟩
abbrev s_snapshot : Stmt := top 6
theorem sc_snapshot : FnScope ["version", "config", "value", "found", "last", "key"] ["version", "config"] (defScope s_snapshot) := ⟨rfl, rfl, rfl, by decide +kernel, rfl, by decide +kernel, by decide +kernel⟩
abbrev s_read_values : Stmt := top 7
theorem sc_read_values : FnScope ["code", "at", "many", "config", "key", "turn", "gap", "behind", "value", "end"] ["code", "at", "many"] (defScope s_read_values) := ⟨rfl, rfl, rfl, by decide +kernel, rfl, by decide +kernel, by decide +kernel⟩
abbrev s_read_snapshot : Stmt := top 8
theorem sc_read_snapshot : FnScope ["code", "version", "at", "many", "behind", "found", "config", "end"] ["code"] (defScope s_read_snapshot) := ⟨rfl, rfl, rfl, by decide +kernel, rfl, by decide +kernel, by decide +kernel⟩
abbrev s_match_length : Stmt := top 11
theorem sc_match_length : FnScope ["source", "offset", "target", "at", "many"] ["source", "offset", "target", "at"] (defScope s_match_length) := ⟨rfl, rfl, rfl, by decide +kernel, rfl, by decide +kernel, by decide +kernel⟩
abbrev s_longest_match : Stmt := top 12
theorem sc_longest_match : FnScope ["source", "target", "at", "best", "offset", "many"] ["source", "target", "at"] (defScope s_longest_match) := ⟨rfl, rfl, rfl, by decide +kernel, rfl, by decide +kernel, by decide +kernel⟩
abbrev s_inserted : Stmt := top 13
theorem sc_inserted : FnScope ["pending"] ["pending"] (defScope s_inserted) := ⟨rfl, rfl, rfl, by decide +kernel, rfl, by decide +kernel, by decide +kernel⟩
abbrev s_patch_of : Stmt := top 14
theorem sc_patch_of : FnScope ["source", "target", "found", "pending", "at", "offset", "many"] ["source", "target"] (defScope s_patch_of) := ⟨rfl, rfl, rfl, by decide +kernel, rfl, by decide +kernel, by decide +kernel⟩
abbrev s_run_command : Stmt := top 15
theorem sc_run_command : FnScope ["code", "at", "source", "result", "number", "behind", "many", "offset", "end"] ["code", "at", "source", "result"] (defScope s_run_command) := ⟨rfl, rfl, rfl, by decide +kernel, rfl, by decide +kernel, by decide +kernel⟩
abbrev s_applied : Stmt := top 16
theorem sc_applied : FnScope ["patch", "source", "code", "result", "at"] ["patch", "source"] (defScope s_applied) := ⟨rfl, rfl, rfl, by decide +kernel, rfl, by decide +kernel, by decide +kernel⟩
abbrev s_Client_init : Stmt := inClass (top 24) 0
theorem sc_Client_init : FnScope ["self"] ["self"] (defScope s_Client_init) := ⟨rfl, rfl, rfl, by decide +kernel, rfl, by decide +kernel, by decide +kernel⟩
abbrev s_Message_init : Stmt := inClass (top 25) 0
theorem sc_Message_init : FnScope ["self", "form", "client", "number", "content"] ["self", "form", "client", "number", "content"] (defScope s_Message_init) := ⟨rfl, rfl, rfl, by decide +kernel, rfl, by decide +kernel, by decide +kernel⟩
abbrev s_Platform_init : Stmt := inClass (top 26) 0
theorem sc_Platform_init : FnScope ["self", "many", "number"] ["self", "many"] (defScope s_Platform_init) := ⟨rfl, rfl, rfl, by decide +kernel, rfl, by decide +kernel, by decide +kernel⟩
abbrev s_latest : Stmt := top 27
theorem sc_latest : FnScope ["platform"] ["platform"] (defScope s_latest) := ⟨rfl, rfl, rfl, by decide +kernel, rfl, by decide +kernel, by decide +kernel⟩
abbrev s_version_bytes : Stmt := top 28
theorem sc_version_bytes : FnScope ["platform", "version"] ["platform", "version"] (defScope s_version_bytes) := ⟨rfl, rfl, rfl, by decide +kernel, rfl, by decide +kernel, by decide +kernel⟩
abbrev s_send : Stmt := top 29
theorem sc_send : FnScope ["platform", "message"] ["platform", "message"] (defScope s_send) := ⟨rfl, rfl, rfl, by decide +kernel, rfl, by decide +kernel, by decide +kernel⟩
abbrev s_is_full : Stmt := top 30
theorem sc_is_full : FnScope ["platform"] ["platform"] (defScope s_is_full) := ⟨rfl, rfl, rfl, by decide +kernel, rfl, by decide +kernel, by decide +kernel⟩
abbrev s_pending_count : Stmt := top 31
theorem sc_pending_count : FnScope ["client"] ["client"] (defScope s_pending_count) := ⟨rfl, rfl, rfl, by decide +kernel, rfl, by decide +kernel, by decide +kernel⟩
abbrev s_receive_request : Stmt := top 38
theorem sc_receive_request : FnScope ["platform", "message", "newest", "goal", "content"] ["platform", "message"] (defScope s_receive_request) := ⟨rfl, rfl, rfl, by decide +kernel, rfl, by decide +kernel, by decide +kernel⟩
abbrev s_take : Stmt := top 39
theorem sc_take : FnScope ["client", "found"] ["client", "found"] (defScope s_take) := ⟨rfl, rfl, rfl, by decide +kernel, rfl, by decide +kernel, by decide +kernel⟩
abbrev s_receive_patch : Stmt := top 40
theorem sc_receive_patch : FnScope ["platform", "message", "client", "result", "found"] ["platform", "message"] (defScope s_receive_patch) := ⟨rfl, rfl, rfl, by decide +kernel, rfl, by decide +kernel, by decide +kernel⟩
abbrev s_receive_whole : Stmt := top 41
theorem sc_receive_whole : FnScope ["platform", "message", "client", "found"] ["platform", "message"] (defScope s_receive_whole) := ⟨rfl, rfl, rfl, by decide +kernel, rfl, by decide +kernel, by decide +kernel⟩
abbrev s_receive_batch : Stmt := top 42
theorem sc_receive_batch : FnScope ["platform", "message", "client", "many", "codes"] ["platform", "message"] (defScope s_receive_batch) := ⟨rfl, rfl, rfl, by decide +kernel, rfl, by decide +kernel, by decide +kernel⟩
abbrev s_receive_receipt : Stmt := top 43
theorem sc_receive_receipt : FnScope ["platform", "message", "client"] ["platform", "message"] (defScope s_receive_receipt) := ⟨rfl, rfl, rfl, by decide +kernel, rfl, by decide +kernel, by decide +kernel⟩
abbrev s_receive : Stmt := top 44
theorem sc_receive : FnScope ["platform", "message"] ["platform", "message"] (defScope s_receive) := ⟨rfl, rfl, rfl, by decide +kernel, rfl, by decide +kernel, by decide +kernel⟩
abbrev s_has_client : Stmt := top 51
theorem sc_has_client : FnScope ["platform", "number"] ["platform", "number"] (defScope s_has_client) := ⟨rfl, rfl, rfl, by decide +kernel, rfl, by decide +kernel, by decide +kernel⟩
abbrev s_has_message : Stmt := top 52
theorem sc_has_message : FnScope ["platform", "index"] ["platform", "index"] (defScope s_has_message) := ⟨rfl, rfl, rfl, by decide +kernel, rfl, by decide +kernel, by decide +kernel⟩
abbrev s_has_version : Stmt := top 53
theorem sc_has_version : FnScope ["platform", "version"] ["platform", "version"] (defScope s_has_version) := ⟨rfl, rfl, rfl, by decide +kernel, rfl, by decide +kernel, by decide +kernel⟩
abbrev s_are_bytes : Stmt := top 54
theorem sc_are_bytes : FnScope ["rows", "byte", "row"] ["rows"] (defScope s_are_bytes) := ⟨rfl, rfl, rfl, by decide +kernel, rfl, by decide +kernel, by decide +kernel⟩
abbrev s_with_length : Stmt := top 55
theorem sc_with_length : FnScope ["row"] ["row"] (defScope s_with_length) := ⟨rfl, rfl, rfl, by decide +kernel, rfl, by decide +kernel, by decide +kernel⟩
abbrev s_stage : Stmt := top 56
theorem sc_stage : FnScope ["platform", "numbers", "rows", "key", "value", "previous"] ["platform", "numbers", "rows"] (defScope s_stage) := ⟨rfl, rfl, rfl, by decide +kernel, rfl, by decide +kernel, by decide +kernel⟩
abbrev s_publish : Stmt := top 57
theorem sc_publish : FnScope ["platform", "numbers", "rows"] ["platform", "numbers", "rows"] (defScope s_publish) := ⟨rfl, rfl, rfl, by decide +kernel, rfl, by decide +kernel, by decide +kernel⟩
abbrev s_poll : Stmt := top 58
theorem sc_poll : FnScope ["platform", "numbers", "rows"] ["platform", "numbers", "rows"] (defScope s_poll) := ⟨rfl, rfl, rfl, by decide +kernel, rfl, by decide +kernel, by decide +kernel⟩
abbrev s_expose : Stmt := top 59
theorem sc_expose : FnScope ["platform", "numbers", "rows", "number", "code", "client"] ["platform", "numbers", "rows"] (defScope s_expose) := ⟨rfl, rfl, rfl, by decide +kernel, rfl, by decide +kernel, by decide +kernel⟩
abbrev s_flush_client : Stmt := top 60
theorem sc_flush_client : FnScope ["platform", "numbers", "rows", "client", "codes"] ["platform", "numbers", "rows"] (defScope s_flush_client) := ⟨rfl, rfl, rfl, by decide +kernel, rfl, by decide +kernel, by decide +kernel⟩
abbrev s_take_first : Stmt := top 61
theorem sc_take_first : FnScope ["platform", "index"] ["platform", "index"] (defScope s_take_first) := ⟨rfl, rfl, rfl, by decide +kernel, rfl, by decide +kernel, by decide +kernel⟩
abbrev s_deliver : Stmt := top 62
theorem sc_deliver : FnScope ["platform", "numbers", "rows"] ["platform", "numbers", "rows"] (defScope s_deliver) := ⟨rfl, rfl, rfl, by decide +kernel, rfl, by decide +kernel, by decide +kernel⟩
abbrev s_deliver_copy : Stmt := top 63
theorem sc_deliver_copy : FnScope ["platform", "numbers", "rows"] ["platform", "numbers", "rows"] (defScope s_deliver_copy) := ⟨rfl, rfl, rfl, by decide +kernel, rfl, by decide +kernel, by decide +kernel⟩
abbrev s_drop : Stmt := top 64
theorem sc_drop : FnScope ["platform", "numbers", "rows"] ["platform", "numbers", "rows"] (defScope s_drop) := ⟨rfl, rfl, rfl, by decide +kernel, rfl, by decide +kernel, by decide +kernel⟩
abbrev s_drain : Stmt := top 65
theorem sc_drain : FnScope ["platform", "numbers", "rows", "many"] ["platform", "numbers", "rows"] (defScope s_drain) := ⟨rfl, rfl, rfl, by decide +kernel, rfl, by decide +kernel, by decide +kernel⟩
abbrev s_forget : Stmt := top 66
theorem sc_forget : FnScope ["platform", "numbers", "rows", "client", "version"] ["platform", "numbers", "rows"] (defScope s_forget) := ⟨rfl, rfl, rfl, by decide +kernel, rfl, by decide +kernel, by decide +kernel⟩
abbrev s_messages : Stmt := top 67
theorem sc_messages : FnScope ["platform", "numbers", "rows", "found", "message"] ["platform", "numbers", "rows"] (defScope s_messages) := ⟨rfl, rfl, rfl, by decide +kernel, rfl, by decide +kernel, by decide +kernel⟩
abbrev s_message_content : Stmt := top 68
theorem sc_message_content : FnScope ["platform", "numbers", "rows"] ["platform", "numbers", "rows"] (defScope s_message_content) := ⟨rfl, rfl, rfl, by decide +kernel, rfl, by decide +kernel, by decide +kernel⟩
abbrev s_client_state : Stmt := top 69
theorem sc_client_state : FnScope ["platform", "numbers", "rows", "client"] ["platform", "numbers", "rows"] (defScope s_client_state) := ⟨rfl, rfl, rfl, by decide +kernel, rfl, by decide +kernel, by decide +kernel⟩
abbrev s_client_value : Stmt := top 70
theorem sc_client_value : FnScope ["platform", "numbers", "rows", "number", "key"] ["platform", "numbers", "rows"] (defScope s_client_value) := ⟨rfl, rfl, rfl, by decide +kernel, rfl, by decide +kernel, by decide +kernel⟩
abbrev s_server_value : Stmt := top 71
theorem sc_server_value : FnScope ["platform", "numbers", "rows", "version", "key"] ["platform", "numbers", "rows"] (defScope s_server_value) := ⟨rfl, rfl, rfl, by decide +kernel, rfl, by decide +kernel, by decide +kernel⟩
abbrev s_tell_counted : Stmt := top 72
theorem sc_tell_counted : FnScope ["platform", "numbers", "rows"] ["platform", "numbers", "rows"] (defScope s_tell_counted) := ⟨rfl, rfl, rfl, by decide +kernel, rfl, by decide +kernel, by decide +kernel⟩
abbrev s_count_code : Stmt := top 73
theorem sc_count_code : FnScope ["platform", "numbers", "rows", "many", "client", "code"] ["platform", "numbers", "rows"] (defScope s_count_code) := ⟨rfl, rfl, rfl, by decide +kernel, rfl, by decide +kernel, by decide +kernel⟩
abbrev s_tell_snapshot : Stmt := top 74
theorem sc_tell_snapshot : FnScope ["platform", "numbers", "rows"] ["platform", "numbers", "rows"] (defScope s_tell_snapshot) := ⟨rfl, rfl, rfl, by decide +kernel, rfl, by decide +kernel, by decide +kernel⟩
abbrev s_tell_patch : Stmt := top 75
theorem sc_tell_patch : FnScope ["platform", "numbers", "rows", "first", "second"] ["platform", "numbers", "rows"] (defScope s_tell_patch) := ⟨rfl, rfl, rfl, by decide +kernel, rfl, by decide +kernel, by decide +kernel⟩
abbrev s_apply : Stmt := top 76
theorem sc_apply : FnScope ["platform", "numbers", "rows", "result"] ["platform", "numbers", "rows"] (defScope s_apply) := ⟨rfl, rfl, rfl, by decide +kernel, rfl, by decide +kernel, by decide +kernel⟩
abbrev s_tell_read_snapshot : Stmt := top 77
theorem sc_tell_read_snapshot : FnScope ["platform", "numbers", "rows", "found"] ["platform", "numbers", "rows"] (defScope s_tell_read_snapshot) := ⟨rfl, rfl, rfl, by decide +kernel, rfl, by decide +kernel, by decide +kernel⟩
abbrev s_difference : Stmt := top 78
theorem sc_difference : FnScope ["platform", "numbers", "rows"] ["platform", "numbers", "rows"] (defScope s_difference) := ⟨rfl, rfl, rfl, by decide +kernel, rfl, by decide +kernel, by decide +kernel⟩
abbrev s_varint : Stmt := top 79
theorem sc_varint : FnScope ["platform", "numbers", "rows"] ["platform", "numbers", "rows"] (defScope s_varint) := ⟨rfl, rfl, rfl, by decide +kernel, rfl, by decide +kernel, by decide +kernel⟩
abbrev s_read_varint : Stmt := top 80
theorem sc_read_varint : FnScope ["platform", "numbers", "rows", "number", "behind"] ["platform", "numbers", "rows"] (defScope s_read_varint) := ⟨rfl, rfl, rfl, by decide +kernel, rfl, by decide +kernel, by decide +kernel⟩
abbrev s_tell_checksum : Stmt := top 81
theorem sc_tell_checksum : FnScope ["platform", "numbers", "rows"] ["platform", "numbers", "rows"] (defScope s_tell_checksum) := ⟨rfl, rfl, rfl, by decide +kernel, rfl, by decide +kernel, by decide +kernel⟩
abbrev s_summary : Stmt := top 82
theorem sc_summary : FnScope ["platform", "numbers", "rows", "found", "client"] ["platform", "numbers", "rows"] (defScope s_summary) := ⟨rfl, rfl, rfl, by decide +kernel, rfl, by decide +kernel, by decide +kernel⟩
abbrev s_answer : Stmt := top 89
theorem sc_answer : FnScope ["platform", "call", "numbers", "rows", "deed"] ["platform", "call", "numbers", "rows"] (defScope s_answer) := ⟨rfl, rfl, rfl, by decide +kernel, rfl, by decide +kernel, by decide +kernel⟩
abbrev s_answers : Stmt := top 90
theorem sc_answers : FnScope ["calls", "platform", "found", "at", "call", "end", "numbers", "rows", "turn", "told"] ["calls"] (defScope s_answers) := ⟨rfl, rfl, rfl, by decide +kernel, rfl, by decide +kernel, by decide +kernel⟩

/-! ### what is global -/
/-- a def of the module, callable by its name -/
structure Ca (P : Program) (w : World) (K : PySem.W.Frag) (mg : Str → Option Value) (base : Heap) (k : Nat) (x : Str) (ps : List Str) (sp : Sp) : Prop where
  ex : ∃ (f : Addr) (fd : FuncData), FnOk P w K mg base CX0 k f fd ps sp ∧ mg x = some (.ref f) ∧ PySem.W.keepIn K (.ref f) = true ∧ Binds K fd ps []
/-- a class of the module, made by its name -/
structure Mc (P : Program) (w : World) (K : PySem.W.Frag) (mg : Str → Option Value) (base : Heap) (k : Nat) (x : Str) (C : Addr) (ps : List Str) (sp : Sp) : Prop where
  ex : ∃ (f : Addr) (fd : FuncData), Mk K C f ∧ FnOk P w K mg base CX0 k f fd ps sp ∧ mg x = some (.ref C) ∧ Binds K fd ps []
/-- a def of the text as it stands -/
structure Gf (K : PySem.W.Frag) (mg : Str → Option Value) (x : Str) (st : Stmt) (ps : List Str) : Prop where
  ex : ∃ (f : Addr) (fd : FuncData), Fun K x x st f fd ∧ mg x = some (.ref f) ∧ Binds K fd ps []
section
variable {P : Program} {w : World} {K : PySem.W.Frag} {mg : Str → Option Value} {base : Heap}
theorem ca_of {x : Str} {st : Stmt} {N ps : List Str} {k : Nat} {sp : Sp} (G : Gf K mg x st ps) (S : FnScope N ps (defScope st)) (len : ∀ vs H Q E, sp vs H Q E → vs.length = ps.length)
    (hbody : ∀ (f : Addr) (cdv : Value) (A : Around) (outer : List Env) (s : Shared) (H : Hp) (vs : List V) (Q : VK) (E : XK), Room k (A.deeper (envOfC x (defScope st) s.heap.objs.size f cdv)) → sp vs H Q E →
      ∃ t, PSs (cxOf CX0 P w K mg base N x (defScope st) f cdv A outer s H E).nox (defBody st) t ∧ t { nx := fun _ H' => Q .non H', rt := Q } (start N vs) H) : Ca P w K mg base (k + 1) x ps sp := by
  obtain ⟨f, fd, F, hm, b⟩ := G.ex
  exact ⟨f, fd, F.ok S len (hbody f), hm, F.kp, b⟩
end
section
variable {X : Cx} {k j : Nat} {C : Addr} {x : Str} {ps : List Str} {sp : Sp} {p pos : Pos} {e : Expr} {es : List Expr} {t : TA}
theorem pe_ca (c : Ca X.prog X.w X.K X.mg X.base k x ps sp) (hr : Room j X.A) (hk : k ≤ j) (hg : Gl X x) (ha : PA X (e :: es) t)
    (hdb : (x == ("__debug__" : Str)) = false := by decide) (he : starEach (e :: es) X.env = (false, eval e X.env) :: starEach es X.env := by rfl) (hpl : (backTo pos (starEach es X.env)).any (·.1) = false := by rfl) :
    PE X (.Call (.Name x p) (e :: es) [] pos) (tCall sp [] E0 t) := by
  obtain ⟨f, fd, F, hm, kp, b⟩ := c.ex
  exact pe_call F (hr.mono hk) hg hm kp b .nil pass0 ha hdb he hpl
theorem pe_mc (c : Mc X.prog X.w X.K X.mg X.base k x C ps sp) (hr : Room j X.A) (hk : k + 1 ≤ j) (hg : Gl X x) (ha : PA X (e :: es) t)
    (hdb : (x == ("__debug__" : Str)) = false := by decide) (he : starEach (e :: es) X.env = (false, eval e X.env) :: starEach es X.env := by rfl) (hpl : (backTo pos (starEach es X.env)).any (·.1) = false := by rfl) :
    PE X (.Call (.Name x p) (e :: es) [] pos) (tMake C sp [] E0 t) := by
  obtain ⟨f, fd, M, F, hm, b⟩ := c.ex
  exact pe_make M F (hr.mono hk) hg hm b .nil pass0 ha hdb he hpl
theorem pe_mc0 (c : Mc X.prog X.w X.K X.mg X.base k x C ps sp) (hr : Room j X.A) (hk : k + 1 ≤ j) (hg : Gl X x)
    (hdb : (x == ("__debug__" : Str)) = false := by decide) :
    PE X (.Call (.Name x p) [] [] pos) (tMake C sp [] E0 tNil) := by
  obtain ⟨f, fd, M, F, hm, b⟩ := c.ex
  exact pe_make0 M F (hr.mono hk) hg hm b .nil pass0 hdb
/-- a whole number of the module -/
theorem pe_k {n : Int} (hg : Gl X x) (h : ∃ u, X.mg x = some (.int n u)) (hd : (x == ("__debug__" : Str)) = false := by decide) : PE X (.Name x pos) (tC (.int n)) := by
  obtain ⟨u, hm⟩ := h
  exact pe_glob hg hm ⟨u, rfl⟩ hd
end

/-! ### lists of whole numbers -/
def nv (l : List Nat) : List V := l.map fun (n : Nat) => V.int (n : Int)
theorem nv_len (l : List Nat) : (nv l).length = l.length := by unfold nv; rw [List.length_map]
theorem nv_nil : nv [] = [] := rfl
theorem nv_cons (a : Nat) (l : List Nat) : nv (a :: l) = V.int (a : Int) :: nv l := rfl
theorem nv_app (l m : List Nat) : nv (l ++ m) = nv l ++ nv m := by unfold nv; rw [List.map_append]; try rfl
theorem nv_snoc (l : List Nat) (a : Nat) : nv (l ++ [a]) = nv l ++ [V.int (a : Int)] := by unfold nv; rw [List.map_append]; try rfl
theorem nv_get {l : List Nat} {i n : Nat} (h : l[i]? = some n) : (nv l)[i]? = some (V.int (n : Int)) := by
  unfold nv
  rw [List.getElem?_map, h]
  rfl
theorem nv_get' {l : List Nat} {i : Nat} {v : V} (h : (nv l)[i]? = some v) : ∃ n, l[i]? = some n ∧ v = V.int (n : Int) := by
  unfold nv at h
  rw [List.getElem?_map] at h
  cases e : l[i]? with
  | none =>
    rw [e] at h
    cases h
  | some n =>
    rw [e] at h
    exact ⟨n, rfl, (Option.some.inj h).symm⟩
theorem nv_at {l : List Nat} {i n : Nat} {z : Int} (e : z = (i : Int)) (h : l[i]? = some n) : atI (nv l) z = some (V.int (n : Int)) := at_of e (nv_get h)
theorem nv_inj : ∀ {l m : List Nat}, nv l = nv m → l = m
  | [], [], _ => rfl
  | [], _ :: _, h => by cases h
  | _ :: _, [], h => by cases h
  | a :: l, b :: m, h => by
    injection h with h1 h2
    injection h1 with h3
    rw [nv_inj h2, Int.ofNat.inj h3]
/-- at a a list of these numbers -/
abbrev LN (H : Hp) (a : Addr) (l : List Nat) : Prop := H a = some (.lst (nv l))
theorem ln_snoc {H : Hp} {p : Addr} {A : List Nat} {n : Nat} : LN (upd H p (.lst (nv A ++ [V.int (n : Int)]))) p (A ++ [n]) := by
  show upd H p _ p = _
  rw [upd_same, nv_snoc]
theorem ln_app {H : Hp} {p : Addr} {A B : List Nat} : LN (upd H p (.lst (nv A ++ nv B))) p (A ++ B) := by
  show upd H p _ p = _
  rw [upd_same, nv_app]
theorem vint1 {a b : Int} (h : a = b) : [V.int a] = [V.int b] := by rw [h]
/-- a new list comes back, all that stood stands -/
def RetL (H : Hp) (Q : VK) (l : List Nat) : Prop := ∀ (H' : Hp) (p : Addr), Same H H' → H p = none → LN H' p l → Q (.ref p) H'
theorem same_new {H : Hp} {p : Addr} {o : HO} (h : H p = none) : Same H (upd H p o) := fun b u e => by
  rw [upd_ne (ne_of_none e h)]
  exact e
end Cs
namespace L2
open PySem PySem.Spec PyProof.Rows
theorem Same.new {H H' : Hp} {p : Addr} {o : HO} (s : Same H H') (h : H' p = none) : Same H (upd H' p o) := s.trans (Cs.same_new h)
/-- one new object is written, the rest stands -/
theorem Same.wr {H H' : Hp} {p : Addr} {o : HO} (s : Same H H') (h : H p = none) : Same H (upd H' p o) := fun b u e => by
  rw [upd_ne (ne_of_none e h)]
  exact s b u e
end L2
namespace Cs
open PySem PySem.Spec PyProof.Rows L2
open PySem.W (Codec)
/-- over enumerate of a list that the body leaves as it is: each pair is a new tuple -/
theorem for_enum {K : PySem.W.Frag} {a : Addr} {xs : List V} {g : TG} {tb : TS} {D : Ends} {σ : L2.St} {H : Hp} (Pv : Nat → L2.St → Hp → Prop) (h0 : Pv 0 σ H) (hl : ∀ i σ H, i ≤ xs.length → Pv i σ H → SqL K H a xs)
    (hs : ∀ i x T σ H, xs[i]? = some x → Pv i σ H → H T = none → g (.ref T) σ (upd H T (.tup [.int (i : Nat), x])) fun σ2 H2 => tb { D with nx := Pv (i + 1), ct := Pv (i + 1), bk := D.nx } σ2 H2)
    (hd : ∀ σ H, Pv xs.length σ H → D.nx σ H) :
    ∃ W : Nat → Nat → L2.St → Hp → Prop, (∃ m, W 0 m σ H) ∧ ∀ i m σ H, W i m σ H →
      ((Ite K a).stop i H ∧ D.nx σ H) ∨ ((Ite K a).go i H ∧ ∃ N : L2.St → Hp → Prop, (∀ σ' H', N σ' H' → ∃ m', m' < m ∧ W (i + 1) m' σ' H') ∧ ∀ x H', (Ite K a).yld i H x H' → g x σ H' fun σ2 H2 => tb { D with nx := N, ct := N, bk := D.nx } σ2 H2) := by
  refine ⟨fun i m σ H => m = xs.length - i ∧ i ≤ xs.length ∧ Pv i σ H, ⟨xs.length, by simp, Nat.zero_le _, h0⟩, ?_⟩
  rintro i m σ H ⟨rfl, hi, p⟩
  have q := hl i σ H hi p
  by_cases hlt : i < xs.length
  · refine .inr ⟨⟨xs, xs[i], q, List.getElem?_eq_getElem hlt⟩, Pv (i + 1), fun σ' H' p' => ⟨xs.length - (i + 1), by omega, rfl, hlt, p'⟩, ?_⟩
    rintro x H' ⟨T, y, rfl, hT, rfl, hy⟩
    exact hs i y T σ H (hy xs q) p hT
  · have e : i = xs.length := by omega
    subst e
    exact .inl ⟨⟨xs, q, Nat.le_refl _⟩, hd σ H p⟩
/-- an if whose test is a decision -/
theorem itd {p A B : Prop} [Decidable p] (h1 : p → A) (h2 : ¬ p → B) : if decide p = true then A else B := by
  by_cases h : p
  · rw [if_pos (decide_eq_true h)]
    exact h1 h
  · rw [if_neg (by rw [decide_eq_false h]; exact Bool.false_ne_true)]
    exact h2 h
/-- .. that is turned round -/
theorem itn {p A B : Prop} [Decidable p] (h1 : ¬ p → A) (h2 : p → B) : if (!decide p) = true then A else B := by
  by_cases h : p
  · rw [decide_eq_true h]
    exact iteF (h2 h)
  · rw [decide_eq_false h]
    exact iteT (h1 h)
theorem itb {b : Bool} {A B : Prop} (h1 : b = true → A) (h2 : b = false → B) : if b = true then A else B := by
  cases b with
  | true => exact iteT (h1 rfl)
  | false => exact iteF (h2 rfl)
theorem int_ne {a b : Int} (h : ¬ V.int a = V.int b) : a ≠ b := fun e => h (by rw [e])
theorem int_eq {a b : Int} (h : V.int a = V.int b) : a = b := V.int.inj h
theorem big_line {n : Nat} (h : n ≤ 16000000) : n ≤ sizeLine := Nat.le_trans h (by decide)
theorem big_line' {n : Nat} (h : n ≤ 16000000) : n < sizeLine := Nat.lt_of_le_of_lt h (by decide)
end Cs

/-! Slices of lists of whole numbers; two such lists compared. -/
namespace Cs
open PySem PySem.Spec PyProof.Rows L2
open PySem.W (Codec)
theorem nv_drop (l : List Nat) (i : Nat) : (nv l).drop i = nv (l.drop i) := by
  unfold nv
  rw [List.map_drop]
theorem nv_take (l : List Nat) (i : Nat) : (nv l).take i = nv (l.take i) := by
  unfold nv
  rw [List.map_take]
theorem cut_nn {l : List Nat} {i j : Nat} {a b : Int} (ha : a = (i : Int)) (hb : b = (j : Int)) : cutV (nv l) (some a) (some b) = nv ((l.drop i).take (j - i)) := by
  subst ha hb
  unfold cutV
  rw [HT.sIx_nat, HT.sIx_nat, nv_len, nv_drop, nv_take]
  congr 1
  by_cases h : i ≤ l.length
  · rw [Nat.min_eq_left h]
    by_cases h2 : j ≤ l.length
    · rw [Nat.min_eq_left h2]
    · rw [Nat.min_eq_right (by omega), List.take_of_length_le (by rw [List.length_drop]; omega), List.take_of_length_le (by rw [List.length_drop]; omega)]
  · rw [List.drop_eq_nil_of_le (show l.length ≤ min i l.length by omega), List.drop_eq_nil_of_le (show l.length ≤ i by omega), List.take_nil, List.take_nil]
theorem cut_from {l : List Nat} {i : Nat} {a : Int} (ha : a = (i : Int)) : cutV (nv l) (some a) none = nv (l.drop i) := by
  subst ha
  unfold cutV
  rw [HT.sIx_nat, HT.sIx_none, nv_len, nv_drop, nv_take]
  congr 1
  by_cases h : i ≤ l.length
  · rw [Nat.min_eq_left h, List.take_of_length_le (by rw [List.length_drop]; omega)]
  · rw [Nat.min_eq_right (by omega), List.drop_eq_nil_of_le (Nat.le_refl _), List.drop_eq_nil_of_le (by omega), List.take_nil]
theorem cut_to {l : List Nat} {j : Nat} {b : Int} (hb : b = (j : Int)) : cutV (nv l) none (some b) = nv (l.take j) := by
  subst hb
  unfold cutV
  rw [HT.sIx_nat, HT.sIx_none, nv_len, nv_drop, nv_take, List.drop_zero, Nat.sub_zero]
  congr 1
  by_cases h : j ≤ l.length
  · rw [Nat.min_eq_left h]
  · rw [Nat.min_eq_right (by omega), List.take_of_length_le (Nat.le_refl _), List.take_of_length_le (by omega)]
theorem sIx_m2 (n d : Nat) : HT.sIx n d (some (-2)) = n - 2 := by
  have e : HT.sIx n d (some (-2)) = ((-2 : Int) + (n : Int)).toNat := by
    show (if (-2 : Int) < 0 then ((-2 : Int) + (n : Int)).toNat else min (-2 : Int).toNat n) = _
    rw [if_pos (by decide)]
  omega
theorem cut_to2 {l : List Nat} : cutV (nv l) none (some (-2)) = nv (l.take (l.length - 2)) := by
  unfold cutV
  rw [sIx_m2, HT.sIx_none, nv_len, nv_drop, nv_take, List.drop_zero, Nat.sub_zero]
theorem cut_from2 {l : List Nat} : cutV (nv l) (some (-2)) none = nv (l.drop (l.length - 2)) := by
  unfold cutV
  rw [sIx_m2, HT.sIx_none, nv_len, nv_drop, nv_take]
  congr 1
  rw [List.take_of_length_le (by rw [List.length_drop]; omega)]
theorem ixN_of {n j : Nat} {z : Int} (e : z = (j : Int)) (h : j < n) : ixN n z = some j := by
  subst e
  unfold ixN
  rw [if_pos (by omega), if_pos (by omega)]
  simp
/-- as data -/
def nd (l : List Nat) : List PyData := l.map fun (n : Nat) => PyData.int (n : Int)
theorem canLay_nd : ∀ l : List Nat, PyData.canLayAll0 (nd l) = true
  | [] => rfl
  | n :: l => by
    show (PyData.canLay0 (.int (n : Int)) && PyData.canLayAll0 (nd l)) = true
    rw [canLay_nd l]
    rfl
theorem shaped_nd (l : List Nat) : SeqAt.shaped (.list (nd l)) = true := by
  unfold SeqAt.shaped
  rw [Bool.and_eq_true]
  refine ⟨canLay_nd l, decide_eq_true ?_⟩
  have : ∀ l : List Nat, PyData.depthAll (nd l) ≤ 1 := fun l => by
    induction l with
    | nil => simp [nd, PyData.depthAll]
    | cons n l ih => simp [nd, PyData.depthAll, PyData.depth] at ih ⊢; omega
  have := this l
  simp [PyData.depth]
  omega
theorem eqv_nd : ∀ l m : List Nat, PyData.eqv (.list (nd l)) (.list (nd m)) = decide (l = m)
  | [], [] => rfl
  | [], _ :: _ => rfl
  | _ :: _, [] => rfl
  | a :: l, b :: m => by
    show ((((a : Int) == (b : Int))) && PyData.eqvAll (nd l) (nd m)) = _
    have ih : PyData.eqvAll (nd l) (nd m) = decide (l = m) := eqv_nd l m
    rw [ih]
    by_cases h : a = b
    · subst h
      by_cases h2 : l = m
      · subst h2
        simp
      · simp [h2]
    · have h3 : ¬ (a : Int) = (b : Int) := by omega
      have h4 : ¬ (a :: l = b :: m) := fun z => h (List.cons.inj z).1
      rw [decide_eq_false h4, beq_eq_false_iff_ne.mpr h3, Bool.false_and]
theorem dpAll_nd {K : PySem.W.Frag} {H : Hp} : ∀ l : List Nat, DpAll K H (nv l) (nd l)
  | [] => .nil
  | n :: l => .cons (.int (n : Int)) (dpAll_nd l)
theorem dp_nd {K : PySem.W.Frag} {H : Hp} {a : Addr} {l : List Nat} (h : LN H a l) : Dp K H (.ref a) (.list (nd l)) := .lst (SqL.of h) (dpAll_nd l)
end Cs

/-! encoded, read_number, checksum. -/
namespace Cs
open PySem PySem.Spec PyProof.Rows L2
open PySem.W (Codec)
section
variable {P : Program} {w : World} {K : PySem.W.Frag} {mg : Str → Option Value} {base : Heap}

def spEnc : Sp := fun vs H Q _ => ∃ n : Nat, vs = [.int (n : Int)] ∧ n < 128 ^ 10 ∧ RetL H Q (Kex8.varint n)
theorem ok_encoded (G : Gf K mg "encoded" s_encoded ["number"]) : Ca P w K mg base 1 "encoded" ["number"] spEnc := by
  refine ca_of G sc_encoded (fun vs H Q E h => ?_) (fun f cdv A outer s H vs Q E hr h => ?_)
  · obtain ⟨n, rfl, _⟩ := h
    rfl
  · obtain ⟨n, rfl, hn, k⟩ := h
    refine ⟨_, pss_cons (ps_set (i := 1) sc_encoded.nd rfl (.inl rfl) (pe_lst pa_nil))
      (pss_cons (ps_while PassesOwn.never (pt_cmpR op_ge (pv 0) pe_int (nomark _))
        (pss_cons (ps_expr (pe_bm PySem.F.plainAttrs_list PySem.F.slot_list_append PySem.F.type_list_append mt_append (pv 1) (pa_cons (pe_op op_add (pe_op op_mod (pv 0) pe_int) pe_int) pa_nil)))
        (pss_one (ps_set (i := 0) sc_encoded.nd rfl (.inl rfl) (pe_op op_fdiv (pv 0) pe_int)))))
      (pss_cons (ps_expr (pe_bm PySem.F.plainAttrs_list PySem.F.slot_list_append PySem.F.type_list_append mt_append (pv 1) (pa_cons (pv 0) pa_nil)))
      (pss_one (ps_ret (pv 1))))), ?_⟩
    refine ⟨Nat.zero_le _, fun p hp => ?_⟩
    refine ⟨fun m σ H' => ∃ acc, σ = [some (.int (m : Int)), some (.ref p)] ∧ EncI n acc m ∧ Same H H' ∧ LN H' p acc, ⟨n, [], rfl, EncI.start hn, same_new hp, upd_same⟩, ?_⟩
    rintro m σ H' ⟨acc, rfl, I, s1, hl⟩
    refine ⟨_, rfl, _, _, rfl, rfl, _, rfl, ?_⟩
    refine itd (fun c => ?_) (fun c => ?_)
    · have c' : ¬ m < 128 := by omega
      refine ⟨fun σ' H' => ∃ m', m' < m ∧ ∃ acc, σ' = [some (.int (m' : Int)), some (.ref p)] ∧ EncI n acc m' ∧ Same H H' ∧ LN H' p acc, fun _ _ z => z, ?_⟩
      refine ⟨_, rfl, .inl ⟨rfl, _, SqL.of hl⟩, _, rfl, _, _, rfl, rfl, (by show (0 : Int) < 128; decide), _, _, rfl, rfl, p, _, _, rfl, rfl, hl, (by rw [nv_len]; exact big_line' (by have := I.len; omega)), ?_⟩
      refine ⟨_, rfl, _, _, rfl, rfl, ⟨by decide, by decide⟩, ?_⟩
      refine ⟨m / 128, Nat.div_lt_self (by omega) (by decide), acc ++ [m % 128 + 128], rfl, I.turn c', s1.wr hp, ?_⟩
      show upd H' p _ p = _
      rw [upd_same, nv_snoc]
      rfl
    · have c' : m < 128 := by omega
      refine ⟨_, rfl, .inl ⟨rfl, _, SqL.of hl⟩, _, rfl, p, _, _, rfl, rfl, hl, (by rw [nv_len]; exact big_line' (by have := I.len; omega)), ?_⟩
      refine ⟨_, rfl, ?_⟩
      refine k _ p (s1.wr hp) hp ?_
      show upd H' p _ p = _
      rw [upd_same, ← nv_snoc, I.done c']

/-- what read_number gives back -/
def rdV (l : List Nat) (i : Nat) : List V := match rdAt l i with
  | none => [.int (-1), .int (i : Int)]
  | some (v, e) => [.int (v : Int), .int (e : Int)]
theorem rdV_none {l : List Nat} {i : Nat} (h : rdAt l i = none) : rdV l i = [.int (-1), .int (i : Int)] := by
  unfold rdV
  rw [h]
theorem rdV_some {l : List Nat} {i v e : Nat} (h : rdAt l i = some (v, e)) : rdV l i = [.int (v : Int), .int (e : Int)] := by
  unfold rdV
  rw [h]
def spRead : Sp := fun vs H Q _ => ∃ (a : Addr) (l : List Nat) (i : Nat), vs = [.ref a, .int (i : Int)] ∧ LN H a l ∧ (∀ x ∈ l, x ≤ 255) ∧
  ∀ (H' : Hp) (p : Addr), Same H H' → H p = none → H' p = some (.tup (rdV l i)) → Q (.ref p) H'
structure TxNum (mg : Str → Option Value) : Prop where
  len : mg "len" = none
  range : mg "range" = none
  bytes : ∃ t, mg "MOST_BYTES" = some (.int 5 t)
theorem ok_read_number (G : Gf K mg "read_number" s_read_number ["code", "at"]) (T : TxNum mg) : Ca P w K mg base 1 "read_number" ["code", "at"] spRead := by
  refine ca_of G sc_read_number (fun vs H Q E h => ?_) (fun f cdv A outer s H vs Q E hr h => ?_)
  · obtain ⟨a, l, i, rfl, _⟩ := h
    rfl
  · obtain ⟨a, l, at_, rfl, hl, hb, k⟩ := h
    refine ⟨_, pss_cons (ps_set (i := 2) sc_read_number.nd rfl (.inl rfl) pe_int)
      (pss_cons (ps_set (i := 3) sc_read_number.nd rfl (.inl rfl) pe_int)
      (pss_cons (ps_for PassesOwn.never rfl (pi_range1 rfl T.range (pa_cons (pe_k rfl T.bytes) pa_nil)) (pg_name (i := 4) sc_read_number.nd rfl (.inl rfl))
        (pss_cons (ps_if (pt_cmpR op_ge (pe_op op_add (pv 1) (pv 4)) (pe_callB call_len_seq (by rfl) T.len PySem.boot_len (pa_cons (pv 0) pa_nil)) (nomark _))
          (pss_one (ps_ret (pe_tup (pa_cons (pe_un un_neg pe_int) (pa_cons (pv 1) pa_nil))))) pss_nil)
        (pss_cons (ps_set (i := 5) sc_read_number.nd rfl (.inl rfl) (pe_ix ix_list (pv 0) (pe_op op_add (pv 1) (pv 4)) (fun _ _ => rfl)))
        (pss_cons (ps_aug (i := 2) sc_read_number.nd rfl (.inl rfl) (pe_op op_mul (pe_op op_mod (pv 5) pe_int) (pv 3)) ip_add)
        (pss_cons (ps_set (i := 3) sc_read_number.nd rfl (.inl rfl) (pe_op op_mul (pv 3) pe_int))
        (pss_one (ps_if (pt_cmpR op_lt (pv 5) pe_int (nomark _))
          (pss_cons (ps_if (PW.pt (pw_and (pt_cmpR op_eq (pv 5) pe_int (nomark _)) (pw_and1 (pt_cmpR op_gt (pv 4) pe_int (nomark _)))))
            (pss_one (ps_ret (pe_tup (pa_cons (pe_un un_neg pe_int) (pa_cons (pv 1) pa_nil))))) pss_nil)
          (pss_one (ps_ret (pe_tup (pa_cons (pv 2) (pa_cons (pe_op op_add (pe_op op_add (pv 1) (pv 4)) pe_int) pa_nil)))))) pss_nil)))))))
      (pss_one (ps_ret (pe_tup (pa_cons (pe_un un_neg pe_int) (pa_cons (pv 1) pa_nil))))))), ?_⟩
    have bad : ∀ (H' : Hp), Same H H' → rdAt l at_ = none → ∀ p, H' p = none → Q (.ref p) (upd H' p (.tup [.int (-1), .int (at_ : Int)])) := fun H' s1 e p hp =>
      k _ p (Same.new s1 hp) (s1.free hp) (by rw [upd_same, rdV_none e])
    refine ⟨5, rfl, by decide, by decide, for_range (lo := 0) (n := 5) (fun i σ H' => ∃ (number weight : Nat) (v4 v5 : Option V), i ≤ 5 ∧ σ = [some (.ref a), some (.int (at_ : Int)), some (.int (number : Int)), some (.int (weight : Int)), v4, v5] ∧ RdI l at_ i number weight ∧ Same H H')
      ⟨0, 1, none, none, Nat.zero_le _, rfl, RdI.start l at_, Same.refl H⟩ ?_ ?_⟩
    · rintro i σ H' hi ⟨number, weight, v4, v5, hi5, rfl, I, s1⟩
      have hl' := s1 _ _ hl
      refine ⟨_, rfl, _, rfl, _, _, rfl, rfl, _, rfl, a, nv l, rfl, .inl (SqL.of hl'), _, _, rfl, rfl, _, rfl, ?_⟩
      refine itd (fun c => ?_) (fun c => ?_)
      · have c' : l.length ≤ at_ + i := by
          rw [nv_len] at c
          omega
        refine ⟨_, rfl, _, rfl, (by show 2 ≤ sizeLine; decide), fun p hp => bad H' s1 (I.short c') p hp⟩
      · have c' : at_ + i < l.length := by
          rw [nv_len] at c
          omega
        obtain ⟨b, hb'⟩ : ∃ b, l[at_ + i]? = some b := ⟨_, List.getElem?_eq_getElem c'⟩
        have b255 : b ≤ 255 := hb b (List.mem_of_getElem? hb')
        have wl := I.weight hi5
        refine ⟨_, rfl, _, rfl, _, rfl, _, _, rfl, rfl, a, _, _, _, rfl, rfl, SqL.of hl', nv_at (i := at_ + i) (by omega) hb', ?_⟩
        refine ⟨_, rfl, _, rfl, _, _, rfl, rfl, (by show (0 : Int) < 128; decide), _, rfl, _, _, rfl, rfl, .inl ⟨by omega, by omega⟩, _, _, rfl, rfl, ?_⟩
        refine ⟨_, rfl, _, _, rfl, rfl, .inr ⟨by decide, by decide⟩, ?_⟩
        refine ⟨_, rfl, _, _, rfl, rfl, _, rfl, ?_⟩
        refine itd (fun d => ?_) (fun d => ?_)
        · have d' : b < 128 := by omega
          refine ⟨_, rfl, rfl, _, rfl, ?_⟩
          have fin : ¬ (b = 0 ∧ 0 < i) → ∀ p, H' p = none → Q (.ref p) (upd H' p (.tup [.int ((number : Int) + (b : Int) % 128 * (weight : Int)), .int ((at_ : Int) + (0 + (i : Int)) + 1)])) := fun z p hp => by
            refine k _ p (Same.new s1 hp) (s1.free hp) ?_
            rw [upd_same, rdV_some (I.last hi hb' d' z)]
            have e1 : ((at_ : Int) + (0 + (i : Int)) + 1) = ((at_ + i + 1 : Nat) : Int) := by omega
            rw [e1]
            rfl
          refine itd (fun z => ?_) (fun z => ?_)
          · have z' : b = 0 := by
              have z2 := int_eq z
              omega
            refine ⟨_, rfl, _, _, rfl, rfl, _, rfl, ?_⟩
            refine itd (fun y => ?_) (fun y => ?_)
            · have y' : 0 < i := by omega
              refine ⟨_, rfl, _, rfl, (by show 2 ≤ sizeLine; decide), fun p hp => bad H' s1 (I.zero hi hb' z' y') p hp⟩
            · have y' : ¬ 0 < i := by omega
              refine ⟨_, rfl, _, rfl, _, rfl, _, _, rfl, rfl, _, _, rfl, rfl, (by show 2 ≤ sizeLine; decide), fun p hp => fin (fun u => y' u.2) p hp⟩
          · have z' : b ≠ 0 := fun u => z (by rw [u]; rfl)
            refine iteF ?_
            refine ⟨_, rfl, _, rfl, _, rfl, _, _, rfl, rfl, _, _, rfl, rfl, (by show 2 ≤ sizeLine; decide), fun p hp => fin (fun u => z' u.1) p hp⟩
        · have d' : ¬ b < 128 := by omega
          exact ⟨number + b % 128 * weight, weight * 128, _, _, by omega, rfl, I.turn hi hb' d' b255, s1⟩
    · rintro σ H' ⟨number, weight, v4, v5, hi5, rfl, I, s1⟩
      refine ⟨_, rfl, _, rfl, (by show 2 ≤ sizeLine; decide), fun p hp => bad H' s1 I.over p hp⟩

def spSum : Sp := fun vs H Q _ => ∃ (a : Addr) (l : List Nat), vs = [.ref a] ∧ LN H a l ∧ RetL H Q (Kex8.checksum l)
theorem ok_checksum (G : Gf K mg "checksum" s_checksum ["code"]) : Ca P w K mg base 1 "checksum" ["code"] spSum := by
  refine ca_of G sc_checksum (fun vs H Q E h => ?_) (fun f cdv A outer s H vs Q E hr h => ?_)
  · obtain ⟨a, l, rfl, _⟩ := h
    rfl
  · obtain ⟨a, l, rfl, hl, k⟩ := h
    refine ⟨_, pss_cons (ps_set (i := 1) sc_checksum.nd rfl (.inl rfl) pe_int)
      (pss_cons (ps_set (i := 2) sc_checksum.nd rfl (.inl rfl) pe_int)
      (pss_cons (ps_for PassesOwn.never rfl (pi_list (pv 0)) (pg_name (i := 3) sc_checksum.nd rfl (.inl rfl))
        (pss_cons (ps_set (i := 1) sc_checksum.nd rfl (.inl rfl) (pe_op op_mod (pe_op op_add (pv 1) (pv 3)) pe_int))
        (pss_one (ps_set (i := 2) sc_checksum.nd rfl (.inl rfl) (pe_op op_mod (pe_op op_add (pv 2) (pv 1)) pe_int)))))
      (pss_one (ps_ret (pe_lst (pa_cons (pv 2) (pa_cons (pv 1) pa_nil))))))), ?_⟩
    refine ⟨_, rfl, a, rfl, ⟨_, SqL.of hl⟩, for_list (K := K) (a := a) (xs := nv l) (fun i σ H' => ∃ (v3 : Option V), σ = [some (.ref a), some (.int ((Kex8.sums (l.take i)).1 : Int)), some (.int ((Kex8.sums (l.take i)).2 : Int)), v3] ∧ Same H H')
      ⟨none, rfl, Same.refl H⟩ (fun i σ H' _ ⟨_, _, s1⟩ => SqL.of (s1 _ _ hl)) ?_ ?_⟩
    · rintro i x σ H' hx ⟨v3, rfl, s1⟩
      obtain ⟨n, hn, rfl⟩ := nv_get' hx
      refine ⟨_, rfl, _, rfl, _, _, rfl, rfl, _, _, rfl, rfl, (by show (0 : Int) < 255; decide), ?_⟩
      refine ⟨_, rfl, _, rfl, _, _, rfl, rfl, _, _, rfl, rfl, (by show (0 : Int) < 255; decide), ?_⟩
      refine ⟨some (.int (n : Int)), ?_, s1⟩
      rw [take_snoc hn, sums_snoc]
      rfl
    · rintro σ H' ⟨v3, rfl, s1⟩
      rw [nv_len, List.take_length]
      refine ⟨_, rfl, _, rfl, (by show 2 ≤ sizeLine; decide), fun p hp => ?_⟩
      refine k _ p (Same.new s1 hp) (s1.free hp) ?_
      show upd H' p _ p = _
      rw [upd_same]
      rfl
end
end Cs

/-! snapshot, read_values, read_snapshot. -/
namespace Cs
open PySem PySem.Spec PyProof.Rows L2
open PySem.W (Codec)
theorem take_filter_snoc {c : List Nat} {i n : Nat} (hn : c[i]? = some n) : (c.take (i + 1)).filter (fun x => decide (x ≠ 0)) = if n = 0 then (c.take i).filter (fun x => decide (x ≠ 0)) else (c.take i).filter (fun x => decide (x ≠ 0)) ++ [n] := by
  rw [take_snoc hn, List.filter_append]
  by_cases h : n = 0
  · rw [if_pos h]
    subst h
    simp
  · rw [if_neg h]
    simp [h]
section
variable {P : Program} {w : World} {K : PySem.W.Frag} {mg : Str → Option Value} {base : Heap}

def spSnap : Sp := fun vs H Q _ => ∃ (v : Nat) (a : Addr) (c : List Nat), vs = [.int (v : Int), .ref a] ∧ v < 128 ^ 10 ∧ LN H a c ∧ c.length ≤ 16 ∧ (∀ x ∈ c, x < 128 ^ 10) ∧ RetL H Q (Kex8.snapshot v c)
structure TxSnap (mg : Str → Option Value) : Prop where
  len : mg "len" = none
  enumerate : mg "enumerate" = none
theorem ok_snapshot (G : Gf K mg "snapshot" s_snapshot ["version", "config"]) (T : TxSnap mg) (c1 : Ca P w K mg base 1 "encoded" ["number"] spEnc) (c2 : Ca P w K mg base 1 "checksum" ["code"] spSum) : Ca P w K mg base 2 "snapshot" ["version", "config"] spSnap := by
  refine ca_of G sc_snapshot (fun vs H Q E h => ?_) (fun f cdv A outer s H vs Q E hr h => ?_)
  · obtain ⟨v, a, c, rfl, _⟩ := h
    rfl
  · obtain ⟨v, a, c, rfl, hv, hc, h16, hx, k⟩ := h
    refine ⟨_, pss_cons (ps_set (i := 3) sc_snapshot.nd rfl (.inl rfl) (pe_op op_cat
        (pe_ca c1 hr (by decide) rfl (pa_cons (pv 0) pa_nil))
        (pe_ca c1 hr (by decide) rfl (pa_cons (pe_callB call_len_seq (by rfl) T.len PySem.boot_len (pa_cons
          (pe_lc (own := [("value", 2)]) (g := gName 2) rfl sc_snapshot.nd (pi_list (pv 1)) (blkOk_by (own := [("value", 2)]) (N := ["version", "config", "value", "found", "last", "key"]) (sc := defScope s_snapshot) (by decide +kernel))
            (fun _ _ _ _ _ => pg_name (i := 2) sc_snapshot.nd rfl (Or.inl rfl)) (fun _ _ _ _ _ => pts_one (pt_cmpR op_ne (pv 2) pe_int (nomark _))) (fun _ _ _ _ _ => pv 2)) pa_nil)) pa_nil))))
      (pss_cons (ps_set (i := 4) sc_snapshot.nd rfl (.inl rfl) (pe_un un_neg pe_int))
      (pss_cons (ps_for PassesOwn.never rfl (pi_enum (by rfl) T.enumerate (pa_cons (pv 1) pa_nil)) (pg_tup rfl (pgs_cons (pg_name (i := 5) sc_snapshot.nd rfl (.inl rfl)) (pgs_cons (pg_name (i := 2) sc_snapshot.nd rfl (.inl rfl)) pgs_nil)))
        (pss_one (ps_if (pt_cmpR op_ne (pv 2) pe_int (nomark _))
          (pss_cons (ps_expr (pe_bm PySem.F.plainAttrs_list PySem.F.slot_list_extend PySem.F.type_list_extend mt_extend (pv 3) (pa_cons (pe_op op_cat
            (pe_ca c1 hr (by decide) rfl (pa_cons (pe_op op_sub (pe_op op_sub (pv 5) (pv 4)) pe_int) pa_nil))
            (pe_ca c1 hr (by decide) rfl (pa_cons (pv 2) pa_nil))) pa_nil)))
          (pss_one (ps_set (i := 4) sc_snapshot.nd rfl (.inl rfl) (pv 5)))) pss_nil)))
      (pss_one (ps_ret (pe_op op_cat (pv 3) (pe_ca c2 hr (by decide) rfl (pa_cons (pv 3) pa_nil))))))), ?_⟩
    -- found = encoded(version) + encoded(len([..]))
    refine ⟨_, rfl, v, rfl, hv, fun H1 p1 s1 n1 e1 => ?_⟩
    refine ⟨_, rfl, a, rfl, ⟨_, SqL.of (s1 _ _ hc)⟩, fun D hD => lc_list (K := K) (a := a) (xs := nv c) (fun i H' => Same H1 H' ∧ LN H' D ((c.take i).filter fun x => decide (x ≠ 0)))
      ⟨same_new hD, upd_same⟩ (fun i H' _ h => SqL.of (h.1 _ _ (s1 _ _ hc))) ?_ ?_⟩
    · rintro i x H' hx1 ⟨s2, hl⟩
      obtain ⟨n, hn, rfl⟩ := nv_get' hx1
      refine ⟨rfl, _, rfl, rfl, _, rfl, ?_⟩
      have tf := take_filter_snoc hn
      refine itn (fun z => ?_) (fun z => ?_)
      · have z' : n ≠ 0 := fun u => z (by rw [u]; rfl)
        refine ⟨_, rfl, _, hl, ?_, fun b o e => ?_, ?_⟩
        · rw [nv_len]
          have := List.length_filter_le (fun x => decide (x ≠ 0)) (c.take i)
          rw [List.length_take] at this
          exact big_line' (by omega)
        · rw [upd_ne (ne_of_none e hD)]
          exact s2 _ _ e
        · rw [tf, if_neg z']
          exact ln_snoc
      · have z' : n = 0 := by
          have := int_eq z
          omega
        refine ⟨s2, ?_⟩
        rw [tf, if_pos z']
        exact hl
    · rintro H2 ⟨s2, hl⟩
      rw [nv_len, List.take_length] at hl
      refine ⟨D, _, rfl, .inl (SqL.of hl), ?_⟩
      have hcl : (c.filter fun x => decide (x ≠ 0)).length ≤ 16 := Nat.le_trans (List.length_filter_le ..) h16
      refine ⟨(c.filter fun x => decide (x ≠ 0)).length, (by rw [nv_len]; rfl), Nat.lt_of_le_of_lt hcl (by decide), fun H3 p3 s3 n3 e3 => ?_⟩
      have s13 : Same H1 H3 := s2.trans s3
      have e13 := s13 _ _ e1
      refine ⟨p1, p3, _, _, rfl, rfl, e13, e3, (by rw [nv_len, nv_len]; exact big_line (by have := varint_len v; have := varint_len (c.filter fun x => decide (x ≠ 0)).length; omega)), fun q hq => ?_⟩
      rw [countP_filter_ne] at e3
      rw [countP_filter_ne, ← nv_app]
      -- last = -1
      refine ⟨_, rfl, ?_⟩
      have s0 : Same H H3 := s1.trans s13
      have hq0 : H q = none := s0.free hq
      have hc3 : LN (upd H3 q (.lst (nv (Kex8.varint v ++ Kex8.varint (c.countP (· != 0)))))) a c := (same_new hq) _ _ (s0 _ _ hc)
      refine ⟨_, rfl, a, nv c, rfl, SqL.of hc3, for_enum (K := K) (a := a) (xs := nv c) (fun i σ H' => ∃ (v2 v5 : Option V) (L : Nat) (B : List Nat), σ = [some (.int (v : Int)), some (.ref a), v2, some (.ref q), some (.int ((L : Int) - 1)), v5] ∧ SnI c i L B ∧ Same H H' ∧ LN H' q (Kex8.varint v ++ Kex8.varint (c.countP (· != 0)) ++ B))
        ⟨none, none, 0, [], rfl, SnI.start c, s0.new hq, by rw [List.append_nil]; exact upd_same⟩ (fun i σ H' _ ⟨_, _, _, _, _, _, s4, _⟩ => SqL.of (s4 _ _ hc)) ?_ ?_⟩
      · rintro i x Tt σ H' hx1 ⟨v2, v5, L, B, rfl, I, s4, hl4⟩ hT
        obtain ⟨n, hn, rfl⟩ := nv_get' hx1
        have s5 : Same H (upd H' Tt (.tup [.int (i : Nat), .int (n : Int)])) := s4.new hT
        have hl5 : LN (upd H' Tt (.tup [.int (i : Nat), .int (n : Int)])) q (Kex8.varint v ++ Kex8.varint (c.countP (· != 0)) ++ B) := (same_new hT) _ _ hl4
        refine ⟨Tt, _, rfl, SqT.of upd_same, rfl, _, _, rfl, _, _, rfl, rfl, ?_⟩
        refine ⟨_, rfl, rfl, _, rfl, ?_⟩
        refine itn (fun z => ?_) (fun z => ?_)
        · have z' : n ≠ 0 := fun u => z (by rw [u]; rfl)
          have hi16 : i < c.length := (List.getElem?_eq_some_iff.mp hn).1
          refine ⟨_, rfl, .inl ⟨rfl, _, SqL.of hl5⟩, _, rfl, _, rfl, _, _, rfl, rfl, _, _, rfl, rfl, i - L, vint1 (by have := I.2; omega), Nat.lt_of_lt_of_le (show i - L < 16 by omega) (by decide), fun H6 p6 s6 n6 e6 => ?_⟩
          refine ⟨_, rfl, n, rfl, hx n (List.mem_of_getElem? hn), fun H7 p7 s7 n7 e7 => ?_⟩
          have e67 := s7 _ _ e6
          have hl7 := s7 _ _ (s6 _ _ hl5)
          have v1 := varint_len (i - L)
          have v2' := varint_len n
          have v3 := varint_len v
          have v4 := varint_len (c.countP (· != 0))
          have v6 := I.len
          refine ⟨p6, p7, _, _, rfl, rfl, e67, e7, (by rw [nv_len, nv_len]; exact big_line (by omega)), fun r hr7 => ?_⟩
          rw [← nv_app]
          have hl8 : LN (upd H7 r (.lst (nv (Kex8.varint (i - L) ++ Kex8.varint n)))) q _ := (same_new hr7) _ _ hl7
          refine ⟨q, r, _, _, rfl, rfl, hl8, upd_same, (by rw [nv_len, nv_len]; exact big_line (by rw [List.length_append, List.length_append, List.length_append]; omega)), ?_⟩
          refine ⟨_, rfl, ?_⟩
          refine ⟨some (.int (n : Int)), some (.int (i : Int)), i + 1, B ++ (Kex8.varint (i - L) ++ Kex8.varint n), ?_, I.turn hn z', ?_, ?_⟩
          · rw [show (((i + 1 : Nat) : Int) - 1) = (i : Int) by omega]
            rfl
          · exact (((s5.trans s6).trans s7).new hr7).wr hq0
          · rw [← List.append_assoc]
            exact ln_app
        · have z' : n = 0 := by
            have := int_eq z
            omega
          exact ⟨_, _, L, B, rfl, I.zero (by rw [hn, z']), s5, hl5⟩
      · rintro σ H' ⟨v2, v5, L, B, rfl, I, s4, hl4⟩
        rw [nv_len] at I
        have eB := I.done (Nat.le_refl _)
        refine ⟨_, rfl, _, rfl, q, _, rfl, hl4, fun H6 p6 s6 n6 e6 => ?_⟩
        have v3 := varint_len v
        have v4 := varint_len (c.countP (· != 0))
        have v6 := I.len
        refine ⟨q, p6, _, _, rfl, rfl, s6 _ _ hl4, e6, (by rw [nv_len, nv_len, checksum_len]; exact big_line (by rw [List.length_append, List.length_append]; omega)), fun r hr6 => ?_⟩
        have s7 := s4.trans s6
        refine k _ r (s7.new hr6) (s7.free hr6) ?_
        rw [← snap_eq v c (f := Kex8.varint v ++ Kex8.varint (c.countP (· != 0)) ++ B) (by rw [eB])]
        exact ln_app

def spRv : Sp := fun vs H Q _ => ∃ (a : Addr) (l : List Nat) (i n : Nat), vs = [.ref a, .int (i : Int), .int (n : Int)] ∧ LN H a l ∧ (∀ x ∈ l, x ≤ 255) ∧ n ≤ 16 ∧
  (rvP l n i 0 Kex8.emptyConfig = none → ∀ H' : Hp, Same H H' → Q .non H') ∧
  (∀ c e, rvP l n i 0 Kex8.emptyConfig = some (c, e) → ∀ (H' : Hp) (p q : Addr), Same H H' → H p = none → LN H' p c → H' q = some (.tup [.ref p, .int (e : Int)]) → Q (.ref q) H')
structure TxRv (mg : Str → Option Value) : Prop where
  range : mg "range" = none
  keys : ∃ t, mg "KEYS" = some (.int 16 t)
theorem ok_read_values (G : Gf K mg "read_values" s_read_values ["code", "at", "many"]) (T : TxRv mg) (c1 : Ca P w K mg base 1 "read_number" ["code", "at"] spRead) : Ca P w K mg base 2 "read_values" ["code", "at", "many"] spRv := by
  refine ca_of G sc_read_values (fun vs H Q E h => ?_) (fun f cdv A outer s H vs Q E hr h => ?_)
  · obtain ⟨a, l, i, n, rfl, _⟩ := h
    rfl
  · obtain ⟨a, l, i0, n, rfl, hl, hb, hn, kN, kS⟩ := h
    have nd := sc_read_values.nd
    refine ⟨_, pss_cons (ps_set (i := 3) nd rfl (.inl rfl) (pe_op op_rep (pe_lst (pa_cons pe_int pa_nil)) (pe_k rfl T.keys)))
      (pss_cons (ps_set (i := 4) nd rfl (.inl rfl) (pe_un un_neg pe_int))
      (pss_cons (ps_for PassesOwn.never rfl (pi_range1 rfl T.range (pa_cons (pv 2) pa_nil)) (pg_name (i := 5) nd rfl (.inl rfl))
        (pss_cons (ps_asg (pe_ca c1 hr (by decide) rfl (pa_cons (pv 0) (pa_cons (pv 1) pa_nil))) (pg_tup rfl (pgs_cons (pg_name (i := 6) nd rfl (.inl rfl)) (pgs_cons (pg_name (i := 7) nd rfl (.inl rfl)) pgs_nil))))
        (pss_cons (ps_asg (pe_ca c1 hr (by decide) rfl (pa_cons (pv 0) (pa_cons (pv 7) pa_nil))) (pg_tup rfl (pgs_cons (pg_name (i := 8) nd rfl (.inl rfl)) (pgs_cons (pg_name (i := 9) nd rfl (.inl rfl)) pgs_nil))))
        (pss_cons (ps_if (PW.pt (pw_or (pt_cmpR op_lt (pv 6) pe_int (nomark _)) (pw_or (pt_cmpR op_le (pv 8) pe_int (nomark _)) (pw_or1 (pt_cmpR op_ge (pe_op op_add (pe_op op_add (pv 4) pe_int) (pv 6)) (pe_k rfl T.keys) (nomark _))))))
          (pss_one (ps_ret pe_non)) pss_nil)
        (pss_cons (ps_set (i := 4) nd rfl (.inl rfl) (pe_op op_add (pe_op op_add (pv 4) pe_int) (pv 6)))
        (pss_cons (ps_asg (pv 8) (pg_sub (pv 3) (pv 4) set_list))
        (pss_one (ps_set (i := 1) nd rfl (.inl rfl) (pv 9)))))))))
      (pss_one (ps_ret (pe_tup (pa_cons (pv 3) (pa_cons (pv 1) pa_nil))))))), ?_⟩
    refine ⟨(by show 1 ≤ sizeLine; decide), fun p0 h0 => ?_⟩
    refine ⟨p0, 16, _, rfl, rfl, upd_same, by decide, by decide, (by show 1 * 16 ≤ sizeLine; decide), fun p hp => ?_⟩
    have n0 : H p0 = none := h0
    have s0 : Same H (upd H p0 (.lst [V.int 0])) := same_new h0
    have np : H p = none := s0.free hp
    refine ⟨_, rfl, ?_⟩
    refine ⟨_, rfl, n, rfl, by omega, by omega, for_range (lo := 0) (n := n) (fun i σ H' => ∃ (at_ L : Nat) (cfg : List Nat) (v5 v6 v7 v8 v9 : Option V), i ≤ n ∧ σ = [some (.ref a), some (.int (at_ : Int)), some (.int (n : Int)), some (.ref p), some (.int ((L : Int) - 1)), v5, v6, v7, v8, v9] ∧ rvP l n i0 0 Kex8.emptyConfig = rvP l (n - i) at_ L cfg ∧ cfg.length = 16 ∧ Same H H' ∧ LN H' p cfg)
      ⟨i0, 0, Kex8.emptyConfig, none, none, none, none, none, Nat.zero_le _, rfl, rfl, rfl, s0.new hp, upd_same⟩ ?_ ?_⟩
    · rintro i σ H' hi ⟨at_, L, cfg, v5, v6, v7, v8, v9, hi2, rfl, e, lc, s1, hc⟩
      obtain ⟨m, hm⟩ : ∃ m, n - i = m + 1 := ⟨n - (i + 1), by omega⟩
      rw [hm] at e
      refine ⟨_, rfl, _, rfl, a, l, at_, rfl, s1 _ _ hl, hb, fun H1 p1 s2 n1 e1 => ?_⟩
      have s12 := s1.trans s2
      cases q1 : rdAt l at_ with
      | none =>
        rw [rdV_none q1] at e1
        refine ⟨p1, _, rfl, SqT.of e1, rfl, _, _, rfl, _, _, rfl, rfl, ?_⟩
        refine ⟨_, rfl, _, rfl, a, l, at_, rfl, s12 _ _ hl, hb, fun H3 p3 s3 n3 e3 => ?_⟩
        rw [rdV_none q1] at e3
        refine ⟨p3, _, rfl, SqT.of e3, rfl, _, _, rfl, _, _, rfl, rfl, ?_⟩
        refine ⟨_, rfl, _, _, rfl, rfl, _, rfl, ?_⟩
        refine itd (fun _ => ?_) (fun z => absurd (by decide) z)
        refine iteT (kN ?_ _ (s12.trans s3))
        rw [e]
        unfold rvP
        rw [q1]
      | some gb =>
        obtain ⟨gap, b⟩ := gb
        rw [rdV_some q1] at e1
        refine ⟨p1, _, rfl, SqT.of e1, rfl, _, _, rfl, _, _, rfl, rfl, ?_⟩
        refine ⟨_, rfl, _, rfl, a, l, b, rfl, s12 _ _ hl, hb, fun H3 p3 s3 n3 e3 => ?_⟩
        have s13 := s12.trans s3
        cases q2 : rdAt l b with
        | none =>
          rw [rdV_none q2] at e3
          refine ⟨p3, _, rfl, SqT.of e3, rfl, _, _, rfl, _, _, rfl, rfl, ?_⟩
          refine ⟨_, rfl, _, _, rfl, rfl, _, rfl, ?_⟩
          refine itd (fun z => absurd z (by omega)) (fun _ => ?_)
          refine ⟨_, rfl, _, _, rfl, rfl, _, rfl, ?_⟩
          refine itd (fun _ => ?_) (fun z => absurd (by decide) z)
          refine iteT (kN ?_ _ s13)
          rw [e]
          unfold rvP
          rw [q1]
          dsimp only
          rw [q2]
        | some ve =>
          obtain ⟨v, e2⟩ := ve
          rw [rdV_some q2] at e3
          refine ⟨p3, _, rfl, SqT.of e3, rfl, _, _, rfl, _, _, rfl, rfl, ?_⟩
          refine ⟨_, rfl, _, _, rfl, rfl, _, rfl, ?_⟩
          refine itd (fun z => absurd z (by omega)) (fun _ => ?_)
          have go : rvP l n i0 0 Kex8.emptyConfig = if 16 ≤ L + gap ∨ v = 0 then none else rvP l m e2 (L + gap + 1) (cfg.set (L + gap) v) := by
            rw [e]
            conv => lhs; unfold rvP
            rw [q1]
            dsimp only
            rw [q2]
          refine ⟨_, rfl, _, _, rfl, rfl, _, rfl, ?_⟩
          refine itd (fun z => ?_) (fun z => ?_)
          · refine iteT (kN ?_ _ s13)
            rw [go, if_pos (Or.inr (by omega))]
          · refine ⟨_, rfl, _, _, rfl, rfl, _, rfl, _, _, rfl, rfl, _, _, rfl, rfl, _, rfl, ?_⟩
            refine itd (fun y => ?_) (fun y => ?_)
            · refine kN ?_ _ s13
              rw [go, if_pos (Or.inl (by omega))]
            · have hLg : L + gap < 16 := by omega
              rw [if_neg (by omega)] at go
              refine ⟨_, rfl, _, _, rfl, rfl, _, rfl, _, _, rfl, rfl, ?_⟩
              refine ⟨_, rfl, _, rfl, _, rfl, p, _, _, L + gap, rfl, rfl, s3 _ _ (s2 _ _ hc), ixN_of (by omega) (by rw [nv_len, lc]; exact hLg), ?_⟩
              refine ⟨_, rfl, ?_⟩
              refine ⟨e2, L + gap + 1, cfg.set (L + gap) v, some (.int (0 + (i : Int))), some (.int (gap : Int)), some (.int (b : Int)), some (.int (v : Int)), some (.int (e2 : Int)), hi, ?_, ?_, ?_, s13.wr np, ?_⟩
              · rw [show (((L + gap + 1 : Nat) : Int) - 1) = (L : Int) - 1 + 1 + (gap : Int) by omega]
                rfl
              · rw [go]
                congr 1
                omega
              · rw [List.length_set, lc]
              · show upd H3 p _ p = _
                rw [upd_same]
                unfold nv
                rw [List.map_set]
    · rintro σ H' ⟨at_, L, cfg, v5, v6, v7, v8, v9, hi2, rfl, e, lc, s1, hc⟩
      rw [Nat.sub_self] at e
      refine ⟨_, rfl, _, rfl, (by show 2 ≤ sizeLine; decide), fun q hq => ?_⟩
      exact kS cfg at_ e _ p q (s1.new hq) np ((same_new hq) _ _ hc) upd_same

def spRs : Sp := fun vs H Q _ => ∃ (a : Addr) (l : List Nat), vs = [.ref a] ∧ LN H a l ∧ (∀ x ∈ l, x ≤ 255) ∧
  (Kex8.readSnapshot l = none → ∀ H' : Hp, Same H H' → Q .non H') ∧
  (∀ v c, Kex8.readSnapshot l = some (v, c) → ∀ (H' : Hp) (p q : Addr), Same H H' → H p = none → LN H' p c → H' q = some (.tup [.int (v : Int), .ref p]) → Q (.ref q) H')
structure TxRs (mg : Str → Option Value) : Prop where
  len : mg "len" = none
  keys : ∃ t, mg "KEYS" = some (.int 16 t)
theorem ok_read_snapshot (G : Gf K mg "read_snapshot" s_read_snapshot ["code"]) (T : TxRs mg) (c1 : Ca P w K mg base 1 "read_number" ["code", "at"] spRead) (c2 : Ca P w K mg base 2 "read_values" ["code", "at", "many"] spRv) (c3 : Ca P w K mg base 1 "checksum" ["code"] spSum) :
    Ca P w K mg base 3 "read_snapshot" ["code"] spRs := by
  refine ca_of G sc_read_snapshot (fun vs H Q E h => ?_) (fun f cdv A outer s H vs Q E hr h => ?_)
  · obtain ⟨a, l, rfl, _⟩ := h
    rfl
  · obtain ⟨a, l, rfl, hl, hb, kN, kS⟩ := h
    have nd := sc_read_snapshot.nd
    refine ⟨_, pss_cons (ps_asg (pe_ca c1 hr (by decide) rfl (pa_cons (pv 0) (pa_cons pe_int pa_nil))) (pg_tup rfl (pgs_cons (pg_name (i := 1) nd rfl (.inl rfl)) (pgs_cons (pg_name (i := 2) nd rfl (.inl rfl)) pgs_nil))))
      (pss_cons (ps_if (pt_cmpR op_lt (pv 1) pe_int (nomark _)) (pss_one (ps_ret pe_non)) pss_nil)
      (pss_cons (ps_asg (pe_ca c1 hr (by decide) rfl (pa_cons (pv 0) (pa_cons (pv 2) pa_nil))) (pg_tup rfl (pgs_cons (pg_name (i := 3) nd rfl (.inl rfl)) (pgs_cons (pg_name (i := 4) nd rfl (.inl rfl)) pgs_nil))))
      (pss_cons (ps_if (pt_not (pt_chain op_le op_le pe_int (pv 3) (pe_k rfl T.keys))) (pss_one (ps_ret pe_non)) pss_nil)
      (pss_cons (ps_set (i := 5) nd rfl (.inl rfl) (pe_ca c2 hr (by decide) rfl (pa_cons (pv 0) (pa_cons (pv 4) (pa_cons (pv 3) pa_nil)))))
      (pss_cons (ps_if (pt_cmpR op_isN (pv 5) pe_non (nomark _)) (pss_one (ps_ret pe_non)) pss_nil)
      (pss_cons (ps_asg (pv 5) (pg_tup rfl (pgs_cons (pg_name (i := 6) nd rfl (.inl rfl)) (pgs_cons (pg_name (i := 7) nd rfl (.inl rfl)) pgs_nil))))
      (pss_cons (ps_if (PW.pt (pw_or (pt_cmpR op_ne (pe_callB call_len_seq (by rfl) T.len PySem.boot_len (pa_cons (pv 0) pa_nil)) (pe_op op_add (pv 7) pe_int) (nomark _))
          (pw_or1 (pt_cmpR (op_neD hr.units) (pe_ca c3 hr (by decide) rfl (pa_cons (pe_slice sl_list (pv 0) po_none (po_some (pv 7))) pa_nil)) (pe_slice sl_list (pv 0) (po_some (pv 7)) po_none) (nomark _)))))
        (pss_one (ps_ret pe_non)) pss_nil)
      (pss_one (ps_ret (pe_tup (pa_cons (pv 1) (pa_cons (pv 6) pa_nil)))))))))))), ?_⟩
    rw [← rsP_eq] at kN kS
    unfold rsP at kN kS
    refine ⟨_, rfl, a, l, 0, rfl, hl, hb, fun H1 p1 s1 n1 e1 => ?_⟩
    cases q1 : rdAt l 0 with
    | none =>
      rw [rdV_none q1] at e1
      rw [q1] at kN
      refine ⟨p1, _, rfl, SqT.of e1, rfl, _, _, rfl, _, _, rfl, rfl, ?_⟩
      refine ⟨_, rfl, _, _, rfl, rfl, _, rfl, ?_⟩
      exact itd (fun _ => kN rfl _ s1) (fun z => absurd (by decide) z)
    | some vb =>
      obtain ⟨v, i⟩ := vb
      rw [rdV_some q1] at e1
      rw [q1] at kN kS
      dsimp only at kN kS
      refine ⟨p1, _, rfl, SqT.of e1, rfl, _, _, rfl, _, _, rfl, rfl, ?_⟩
      refine ⟨_, rfl, _, _, rfl, rfl, _, rfl, ?_⟩
      refine itd (fun z => absurd z (by omega)) (fun _ => ?_)
      refine ⟨_, rfl, _, rfl, a, l, i, rfl, s1 _ _ hl, hb, fun H2 p2 s2 n2 e2 => ?_⟩
      have s12 := s1.trans s2
      cases q2 : rdAt l i with
      | none =>
        rw [rdV_none q2] at e2
        rw [q2] at kN
        refine ⟨p2, _, rfl, SqT.of e2, rfl, _, _, rfl, _, _, rfl, rfl, ?_⟩
        refine ⟨_, rfl, _, _, rfl, rfl, _, rfl, ?_⟩
        exact itd (fun z => absurd z (by decide)) (fun _ => ⟨_, rfl, iteT (kN rfl _ s12)⟩)
      | some nb =>
        obtain ⟨n, b⟩ := nb
        rw [rdV_some q2] at e2
        rw [q2] at kN kS
        dsimp only at kN kS
        refine ⟨p2, _, rfl, SqT.of e2, rfl, _, _, rfl, _, _, rfl, rfl, ?_⟩
        refine ⟨_, rfl, _, _, rfl, rfl, _, rfl, ?_⟩
        refine itd (fun _ => ?_) (fun z => absurd z (by omega))
        refine ⟨_, _, rfl, rfl, _, rfl, ?_⟩
        refine itn (fun z => ?_) (fun z => ?_)
        · exact kN (if_pos (by omega)) _ s12
        · have hn : n ≤ 16 := by omega
          rw [if_neg (by omega)] at kN kS
          refine ⟨_, rfl, _, rfl, _, rfl, a, l, b, n, rfl, s12 _ _ hl, hb, hn, fun q3 H3 s3 => ?_, fun c e q3 H3 p3 t3 s3 n3 hc ht => ?_⟩
          · rw [q3] at kN
            refine ⟨_, rfl, rfl, _, rfl, ?_⟩
            exact itd (fun _ => kN rfl _ (s12.trans s3)) (fun z => absurd rfl z)
          · rw [q3] at kN kS
            dsimp only at kN kS
            have s13 := s12.trans s3
            refine ⟨_, rfl, rfl, _, rfl, ?_⟩
            refine itd (fun z => nomatch z) (fun _ => ?_)
            refine ⟨_, rfl, t3, _, rfl, SqT.of ht, rfl, _, _, rfl, _, _, rfl, rfl, ?_⟩
            have hl3 := s13 _ _ hl
            refine ⟨_, rfl, a, _, rfl, .inl (SqL.of hl3), _, rfl, _, _, rfl, rfl, rfl, _, rfl, ?_⟩
            refine itn (fun z => ?_) (fun z => ?_)
            · have z2 := int_ne z
              rw [nv_len] at z2
              refine iteT (kN (if_pos (Or.inl fun u => z2 (by omega))) _ s13)
            · have z2 := int_eq z
              rw [nv_len] at z2
              refine ⟨_, rfl, _, rfl, _, rfl, a, _, rfl, SqL.of hl3, fun p4 h4 => ?_⟩
              rw [cut_to rfl]
              have hl4 : LN (upd H3 p4 (.lst (nv (l.take e)))) a l := (same_new h4) _ _ hl3
              refine ⟨p4, l.take e, rfl, upd_same, fun H5 p5 s5 n5 e5 => ?_⟩
              refine ⟨_, rfl, _, rfl, _, rfl, a, _, rfl, SqL.of (s5 _ _ hl4), fun p6 h6 => ?_⟩
              rw [cut_from rfl]
              have s36 : Same H3 (upd H5 p6 (.lst (nv (l.drop e)))) := ((same_new h4).trans s5).new h6
              refine ⟨_, _, dp_nd ((same_new h6) _ _ e5), dp_nd upd_same, shaped_nd _, shaped_nd _, _, rfl, ?_⟩
              rw [eqv_nd]
              refine itn (fun y => ?_) (fun y => ?_)
              · exact kN (if_pos (Or.inr y)) _ (s13.trans s36)
              · refine ⟨_, rfl, _, rfl, (by show 2 ≤ sizeLine; decide), fun q hq => ?_⟩
                refine kS v c (if_neg (by rintro (u | u); omega; exact u y)) _ p3 q ((s13.trans s36).new hq) (s12.free n3) ((same_new hq) _ _ (s36 _ _ hc)) upd_same
end
end Cs

/-! match_length, longest_match, inserted, patch_of, run_command, applied. -/
namespace Cs
open PySem PySem.Spec PyProof.Rows L2
open PySem.W (Codec)
section
variable {P : Program} {w : World} {K : PySem.W.Frag} {mg : Str → Option Value} {base : Heap}

def spMl : Sp := fun vs H Q _ => ∃ (a b : Addr) (s t : List Nat) (o i : Nat), vs = [.ref a, .int (o : Int), .ref b, .int (i : Int)] ∧ LN H a s ∧ LN H b t ∧
  ∀ H' : Hp, Same H H' → Q (.int (Kex8.commonPrefix (s.drop o) (t.drop i) : Nat)) H'
structure TxLen (mg : Str → Option Value) : Prop where
  len : mg "len" = none
theorem ok_match_length (G : Gf K mg "match_length" s_match_length ["source", "offset", "target", "at"]) (T : TxLen mg) : Ca P w K mg base 1 "match_length" ["source", "offset", "target", "at"] spMl := by
  refine ca_of G sc_match_length (fun vs H Q E h => ?_) (fun f cdv A outer s H vs Q E hr h => ?_)
  · obtain ⟨a, b, s, t, o, i, rfl, _⟩ := h
    rfl
  · obtain ⟨a, b, s, t, o, i, rfl, ha, hb, k⟩ := h
    have nd := sc_match_length.nd
    refine ⟨_, pss_cons (ps_set (i := 4) nd rfl (.inl rfl) pe_int)
      (pss_cons (ps_while PassesOwn.never (PW.pt (pw_and (pt_cmpR op_lt (pe_op op_add (pv 1) (pv 4)) (pe_callB call_len_seq (by rfl) T.len PySem.boot_len (pa_cons (pv 0) pa_nil)) (nomark _))
          (pw_and (pt_cmpR op_lt (pe_op op_add (pv 3) (pv 4)) (pe_callB call_len_seq (by rfl) T.len PySem.boot_len (pa_cons (pv 2) pa_nil)) (nomark _))
          (pw_and1 (pt_cmpR op_eq (pe_ix ix_list (pv 0) (pe_op op_add (pv 1) (pv 4)) (fun _ _ => rfl)) (pe_ix ix_list (pv 2) (pe_op op_add (pv 3) (pv 4)) (fun _ _ => rfl)) (nomark _))))))
        (pss_one (ps_aug (i := 4) nd rfl (.inl rfl) pe_int ip_add)))
      (pss_one (ps_ret (pv 4)))), ?_⟩
    refine ⟨fun m σ H' => ∃ many : Nat, m = s.length - (o + many) ∧ σ = [some (.ref a), some (.int (o : Int)), some (.ref b), some (.int (i : Int)), some (.int (many : Int))] ∧ MlI (s.drop o) (t.drop i) many ∧ Same H H',
      ⟨_, 0, rfl, rfl, MlI.start _ _, Same.refl H⟩, ?_⟩
    rintro m σ H' ⟨many, rfl, rfl, I, s1⟩
    have ha' := s1 _ _ ha
    have hb' := s1 _ _ hb
    refine ⟨_, rfl, _, rfl, _, _, rfl, rfl, _, rfl, a, _, rfl, .inl (SqL.of ha'), _, _, rfl, rfl, _, rfl, ?_⟩
    refine itd (fun c1 => ?_) (fun c1 => ?_)
    · rw [nv_len] at c1
      refine ⟨_, rfl, _, rfl, _, _, rfl, rfl, _, rfl, b, _, rfl, .inl (SqL.of hb'), _, _, rfl, rfl, _, rfl, ?_⟩
      refine itd (fun c2 => ?_) (fun c2 => ?_)
      · rw [nv_len] at c2
        obtain ⟨x, hx⟩ : ∃ x, s[o + many]? = some x := ⟨_, List.getElem?_eq_getElem (show o + many < s.length by omega)⟩
        obtain ⟨y, hy⟩ : ∃ y, t[i + many]? = some y := ⟨_, List.getElem?_eq_getElem (show i + many < t.length by omega)⟩
        have hx' : (s.drop o)[many]? = some x := by rw [List.getElem?_drop]; exact hx
        have hy' : (t.drop i)[many]? = some y := by rw [List.getElem?_drop]; exact hy
        refine ⟨_, rfl, _, rfl, _, rfl, _, _, rfl, rfl, a, _, _, _, rfl, rfl, SqL.of ha', nv_at (i := o + many) (by omega) hx, ?_⟩
        refine ⟨_, rfl, _, rfl, _, rfl, _, _, rfl, rfl, b, _, _, _, rfl, rfl, SqL.of hb', nv_at (i := i + many) (by omega) hy, ?_⟩
        refine ⟨rfl, _, rfl, ?_⟩
        refine itd (fun c3 => ?_) (fun c3 => ?_)
        · have e3 : x = y := by
            have := int_eq c3
            omega
          subst e3
          refine ⟨fun σ' H2 => ∃ m', m' < s.length - (o + many) ∧ ∃ many : Nat, m' = s.length - (o + many) ∧ σ' = [some (.ref a), some (.int (o : Int)), some (.ref b), some (.int (i : Int)), some (.int (many : Int))] ∧ MlI (s.drop o) (t.drop i) many ∧ Same H H2, fun _ _ z => z, ?_⟩
          refine ⟨_, rfl, _, _, rfl, rfl, ?_⟩
          exact ⟨_, (by omega), many + 1, rfl, rfl, I.turn hx' hy', s1⟩
        · have e3 : x ≠ y := fun z => c3 (by rw [z])
          refine ⟨_, rfl, ?_⟩
          have e := I.end3 hx' hy' e3
          rw [e] at k
          exact k H' s1
      · rw [nv_len] at c2
        refine ⟨_, rfl, ?_⟩
        have e := I.end2 (by rw [List.length_drop]; omega)
        rw [e] at k
        exact k H' s1
    · rw [nv_len] at c1
      refine ⟨_, rfl, ?_⟩
      have e := I.end1 (by rw [List.length_drop]; omega)
      rw [e] at k
      exact k H' s1

def spLm : Sp := fun vs H Q _ => ∃ (a b : Addr) (s t : List Nat) (i : Nat), vs = [.ref a, .ref b, .int (i : Int)] ∧ LN H a s ∧ LN H b t ∧ s.length ≤ 16000000 ∧
  ∀ (H' : Hp) (q : Addr), Same H H' → H q = none → H' q = some (.tup [.int ((Kex8.longestMatch s (t.drop i)).1 : Nat), .int ((Kex8.longestMatch s (t.drop i)).2 : Nat)]) → Q (.ref q) H'
structure TxLm (mg : Str → Option Value) : Prop where
  len : mg "len" = none
  range : mg "range" = none
theorem ok_longest_match (G : Gf K mg "longest_match" s_longest_match ["source", "target", "at"]) (T : TxLm mg) (c1 : Ca P w K mg base 1 "match_length" ["source", "offset", "target", "at"] spMl) : Ca P w K mg base 2 "longest_match" ["source", "target", "at"] spLm := by
  refine ca_of G sc_longest_match (fun vs H Q E h => ?_) (fun f cdv A outer s H vs Q E hr h => ?_)
  · obtain ⟨a, b, s, t, i, rfl, _⟩ := h
    rfl
  · obtain ⟨a, b, s, t, i, rfl, ha, hb, hs, k⟩ := h
    have nd := sc_longest_match.nd
    refine ⟨_, pss_cons (ps_set (i := 3) nd rfl (.inl rfl) (pe_tup (pa_cons pe_int (pa_cons pe_int pa_nil))))
      (pss_cons (ps_for PassesOwn.never rfl (pi_range1 rfl T.range (pa_cons (pe_callB call_len_seq (by rfl) T.len PySem.boot_len (pa_cons (pv 0) pa_nil)) pa_nil)) (pg_name (i := 4) nd rfl (.inl rfl))
        (pss_cons (ps_set (i := 5) nd rfl (.inl rfl) (pe_ca c1 hr (by decide) rfl (pa_cons (pv 0) (pa_cons (pv 4) (pa_cons (pv 1) (pa_cons (pv 2) pa_nil))))))
        (pss_one (ps_if (pt_cmpR op_gt (pv 5) (pe_ix ix_tup (pv 3) pe_int (fun _ _ => rfl)) (nomark _))
          (pss_one (ps_set (i := 3) nd rfl (.inl rfl) (pe_tup (pa_cons (pv 4) (pa_cons (pv 5) pa_nil))))) pss_nil))))
      (pss_one (ps_ret (pv 3)))), ?_⟩
    refine ⟨(by show 2 ≤ sizeLine; decide), fun q0 h0 => ?_⟩
    have ha0 : LN (upd H q0 (.tup [.int 0, .int 0])) a s := (same_new h0) _ _ ha
    refine ⟨_, rfl, a, _, rfl, .inl (SqL.of ha0), s.length, (by rw [nv_len]), by omega, by omega, for_range (lo := 0) (n := s.length) (fun j σ H' => ∃ (q : Addr) (v4 v5 : Option V), j ≤ s.length ∧ σ = [some (.ref a), some (.ref b), some (.int (i : Int)), some (.ref q), v4, v5] ∧ H q = none ∧
        H' q = some (.tup [.int ((lmTo s (t.drop i) j).1 : Nat), .int ((lmTo s (t.drop i) j).2 : Nat)]) ∧ Same H H')
      ⟨q0, none, none, Nat.zero_le _, rfl, h0, upd_same, same_new h0⟩ ?_ ?_⟩
    · rintro j σ H' hj ⟨q, v4, v5, _, rfl, nq, hq, s1⟩
      refine ⟨_, rfl, _, rfl, _, rfl, _, rfl, a, b, s, t, j, i, ?_, s1 _ _ ha, s1 _ _ hb, fun H2 s2 => ?_⟩
      · rw [Int.zero_add]
        rfl
      · have hq2 := s2 _ _ hq
        refine ⟨_, rfl, _, rfl, q, _, _, _, rfl, rfl, SqT.of hq2, at_of (j := 1) rfl rfl, _, _, rfl, rfl, _, rfl, ?_⟩
        have es := lmTo_succ s (t.drop i) j
        unfold lmStep at es
        refine itd (fun c => ?_) (fun c => ?_)
        · rw [if_pos (by omega)] at es
          refine ⟨_, rfl, _, rfl, (by show 2 ≤ sizeLine; decide), fun r hr2 => ?_⟩
          refine ⟨r, some (.int (0 + (j : Int))), some (.int _), hj, rfl, (s1.trans s2).free hr2, ?_, (s1.trans s2).new hr2⟩
          rw [upd_same, es, Int.zero_add]
        · rw [if_neg (by omega)] at es
          refine ⟨q, some (.int (0 + (j : Int))), some (.int _), hj, rfl, nq, ?_, s1.trans s2⟩
          rw [hq2, es]
    · rintro σ H' ⟨q, v4, v5, _, rfl, nq, hq, s1⟩
      exact ⟨_, rfl, k _ q s1 nq hq⟩

def spIns : Sp := fun vs H Q _ => ∃ (a : Addr) (l : List Nat), vs = [.ref a] ∧ LN H a l ∧ l.length ≤ 15000000 ∧ RetL H Q (Kex8.flush l)
theorem ok_inserted (G : Gf K mg "inserted" s_inserted ["pending"]) (T : TxLen mg) (c1 : Ca P w K mg base 1 "encoded" ["number"] spEnc) : Ca P w K mg base 2 "inserted" ["pending"] spIns := by
  refine ca_of G sc_inserted (fun vs H Q E h => ?_) (fun f cdv A outer s H vs Q E hr h => ?_)
  · obtain ⟨a, l, rfl, _⟩ := h
    rfl
  · obtain ⟨a, l, rfl, ha, hl, k⟩ := h
    refine ⟨_, pss_cons (ps_if (pt_cmpR op_eq (pe_callB call_len_seq (by rfl) T.len PySem.boot_len (pa_cons (pv 0) pa_nil)) pe_int (nomark _)) (pss_one (ps_ret (pe_lst pa_nil))) pss_nil)
      (pss_one (ps_ret (pe_op op_cat (pe_ca c1 hr (by decide) rfl (pa_cons (pe_op op_add (pe_op op_mul pe_int (pe_callB call_len_seq (by rfl) T.len PySem.boot_len (pa_cons (pv 0) pa_nil))) pe_int) pa_nil)) (pv 0)))), ?_⟩
    refine ⟨_, rfl, a, _, rfl, .inl (SqL.of ha), rfl, _, rfl, ?_⟩
    unfold RetL at k
    unfold Kex8.flush at k
    refine itd (fun c => ?_) (fun c => ?_)
    · have e := int_eq c
      rw [nv_len] at e
      have e2 : l = [] := List.length_eq_zero_iff.mp (by omega)
      subst e2
      refine ⟨Nat.zero_le _, fun p hp => k _ p (same_new hp) hp upd_same⟩
    · have e := int_ne c
      rw [nv_len] at e
      have e2 : ¬ l.isEmpty = true := fun z => e (by rw [List.isEmpty_iff.mp z]; rfl)
      rw [if_neg e2] at k
      refine ⟨_, rfl, a, _, rfl, .inl (SqL.of ha), _, _, rfl, rfl, .inl ⟨by decide, by decide⟩, _, _, rfl, rfl, 2 * l.length + 1, vint1 (by rw [nv_len]; omega), Nat.lt_of_le_of_lt (show 2 * l.length + 1 ≤ 40000000 by omega) (by decide), fun H1 p1 s1 n1 e1 => ?_⟩
      refine ⟨_, rfl, p1, a, _, _, rfl, rfl, e1, s1 _ _ ha, (by rw [nv_len, nv_len]; exact big_line (by have := varint_len (2 * l.length + 1); omega)), fun q hq => ?_⟩
      exact k _ q (s1.new hq) (s1.free hq) ln_app

def spPat : Sp := fun vs H Q _ => ∃ (a b : Addr) (s t : List Nat), vs = [.ref a, .ref b] ∧ LN H a s ∧ LN H b t ∧ s.length ≤ 16000000 ∧ t.length ≤ 400000 ∧ RetL H Q (Kex8.patch s t)
structure TxPat (mg : Str → Option Value) : Prop where
  len : mg "len" = none
  least : ∃ t, mg "LEAST_COPY" = some (.int 3 t)
theorem ok_patch_of (G : Gf K mg "patch_of" s_patch_of ["source", "target"]) (T : TxPat mg) (c1 : Ca P w K mg base 2 "longest_match" ["source", "target", "at"] spLm) (c2 : Ca P w K mg base 2 "inserted" ["pending"] spIns)
    (c3 : Ca P w K mg base 1 "encoded" ["number"] spEnc) (c4 : Ca P w K mg base 1 "checksum" ["code"] spSum) : Ca P w K mg base 3 "patch_of" ["source", "target"] spPat := by
  refine ca_of G sc_patch_of (fun vs H Q E h => ?_) (fun f cdv A outer s H vs Q E hr h => ?_)
  · obtain ⟨a, b, s, t, rfl, _⟩ := h
    rfl
  · obtain ⟨a, b, s, t, rfl, ha, hb, hs, ht, k⟩ := h
    have nd := sc_patch_of.nd
    refine ⟨_, pss_cons (ps_set (i := 2) nd rfl (.inl rfl) (pe_lst pa_nil))
      (pss_cons (ps_set (i := 3) nd rfl (.inl rfl) (pe_lst pa_nil))
      (pss_cons (ps_set (i := 4) nd rfl (.inl rfl) pe_int)
      (pss_cons (ps_while PassesOwn.never (pt_cmpR op_lt (pv 4) (pe_callB call_len_seq (by rfl) T.len PySem.boot_len (pa_cons (pv 1) pa_nil)) (nomark _))
        (pss_cons (ps_asg (pe_ca c1 hr (by decide) rfl (pa_cons (pv 0) (pa_cons (pv 1) (pa_cons (pv 4) pa_nil)))) (pg_tup rfl (pgs_cons (pg_name (i := 5) nd rfl (.inl rfl)) (pgs_cons (pg_name (i := 6) nd rfl (.inl rfl)) pgs_nil))))
        (pss_one (ps_if (pt_cmpR op_ge (pv 6) (pe_k rfl T.least) (nomark _))
          (pss_cons (ps_expr (pe_bm PySem.F.plainAttrs_list PySem.F.slot_list_extend PySem.F.type_list_extend mt_extend (pv 2) (pa_cons (pe_op op_cat (pe_op op_cat
              (pe_ca c2 hr (by decide) rfl (pa_cons (pv 3) pa_nil)) (pe_ca c3 hr (by decide) rfl (pa_cons (pe_op op_mul pe_int (pv 6)) pa_nil))) (pe_ca c3 hr (by decide) rfl (pa_cons (pv 5) pa_nil))) pa_nil)))
          (pss_cons (ps_set (i := 3) nd rfl (.inl rfl) (pe_lst pa_nil))
          (pss_one (ps_aug (i := 4) nd rfl (.inl rfl) (pv 6) ip_add))))
          (pss_cons (ps_expr (pe_bm PySem.F.plainAttrs_list PySem.F.slot_list_append PySem.F.type_list_append mt_append (pv 3) (pa_cons (pe_ix ix_list (pv 1) (pv 4) (fun _ _ => rfl)) pa_nil)))
          (pss_one (ps_aug (i := 4) nd rfl (.inl rfl) pe_int ip_add)))))))
      (pss_one (ps_ret (pe_op op_cat (pe_op op_cat (pv 2) (pe_ca c2 hr (by decide) rfl (pa_cons (pv 3) pa_nil))) (pe_ca c4 hr (by decide) rfl (pa_cons (pv 1) pa_nil)))))))), ?_⟩
    refine ⟨Nat.zero_le _, fun pf0 hf0 => ?_⟩
    refine ⟨Nat.zero_le _, fun pp0 hp0 => ?_⟩
    have sf0 : Same H (upd H pf0 (.lst [])) := same_new hf0
    refine ⟨fun m σ H' => ∃ (i : Nat) (found pend : List Nat) (pf pp : Addr) (v5 v6 : Option V), m = t.length - i ∧ σ = [some (.ref a), some (.ref b), some (.ref pf), some (.ref pp), some (.int (i : Int)), v5, v6] ∧ PaI s t i found pend ∧ pf ≠ pp ∧ H pf = none ∧ H pp = none ∧
        LN H' pf found ∧ LN H' pp pend ∧ Same H H' ∧ pend.length ≤ i ∧ i ≤ t.length,
      ⟨_, 0, [], [], pf0, pp0, none, none, rfl, rfl, PaI.start s t, ne_of_none upd_same hp0, hf0, sf0.free hp0, (same_new hp0) _ _ upd_same, upd_same, sf0.new hp0, Nat.le_refl _, Nat.zero_le _⟩, ?_⟩
    rintro m σ H' ⟨i, found, pend, pf, pp, v5, v6, rfl, rfl, I, nfp, nf, np, hf, hp, s1, hpl, hit⟩
    have fl := I.len
    refine ⟨_, rfl, _, rfl, b, _, rfl, .inl (SqL.of (s1 _ _ hb)), _, _, rfl, rfl, _, rfl, ?_⟩
    refine itd (fun c => ?_) (fun c => ?_)
    · rw [nv_len] at c
      have hi : i < t.length := by omega
      obtain ⟨y, hy⟩ : ∃ y, t[i]? = some y := ⟨_, List.getElem?_eq_getElem hi⟩
      refine ⟨fun σ' H2 => ∃ m', m' < t.length - i ∧ ∃ (i : Nat) (found pend : List Nat) (pf pp : Addr) (v5 v6 : Option V), m' = t.length - i ∧ σ' = [some (.ref a), some (.ref b), some (.ref pf), some (.ref pp), some (.int (i : Int)), v5, v6] ∧ PaI s t i found pend ∧ pf ≠ pp ∧ H pf = none ∧ H pp = none ∧
        LN H2 pf found ∧ LN H2 pp pend ∧ Same H H2 ∧ pend.length ≤ i ∧ i ≤ t.length, fun _ _ z => z, ?_⟩
      refine ⟨_, rfl, _, rfl, _, rfl, a, b, s, t, i, rfl, s1 _ _ ha, s1 _ _ hb, hs, fun H2 q s2 nq hq => ?_⟩
      have lm := lm_le s (t.drop i)
      rw [List.length_drop] at lm
      have s12 := s1.trans s2
      refine ⟨q, _, rfl, SqT.of hq, rfl, _, _, rfl, _, _, rfl, rfl, ?_⟩
      refine ⟨_, rfl, _, _, rfl, rfl, _, rfl, ?_⟩
      refine itd (fun d => ?_) (fun d => ?_)
      · refine ⟨_, rfl, .inl ⟨rfl, _, SqL.of (s2 _ _ hf)⟩, _, rfl, pp, pend, rfl, s2 _ _ hp, by omega, fun H3 p3 s3 n3 e3 => ?_⟩
        refine ⟨_, rfl, _, _, rfl, rfl, .inl ⟨by decide, by decide⟩, 2 * (Kex8.longestMatch s (t.drop i)).2, rfl, Nat.lt_of_le_of_lt (show _ ≤ 800000 by omega) (by decide), fun H4 p4 s4 n4 e4 => ?_⟩
        have v1 := flush_len pend
        have v2 := varint_len (2 * (Kex8.longestMatch s (t.drop i)).2)
        have v3 := varint_len (Kex8.longestMatch s (t.drop i)).1
        refine ⟨p3, p4, _, _, rfl, rfl, s4 _ _ e3, e4, (by rw [nv_len, nv_len]; exact big_line (by omega)), fun p5 h5 => ?_⟩
        rw [← nv_app]
        refine ⟨_, rfl, (Kex8.longestMatch s (t.drop i)).1, rfl, Nat.lt_of_le_of_lt (show _ ≤ 16000000 by omega) (by decide), fun H6 p6 s6 n6 e6 => ?_⟩
        have e5 := s6 _ _ (show LN _ p5 _ from upd_same)
        refine ⟨p5, p6, _, _, rfl, rfl, e5, e6, (by rw [nv_len, nv_len, List.length_append]; exact big_line (by omega)), fun p7 h7 => ?_⟩
        rw [← nv_app]
        have s26 : Same H2 H6 := ((s3.trans s4).new h5).trans s6
        have hf7 : LN (upd H6 p7 (.lst (nv (Kex8.flush pend ++ Kex8.varint (2 * (Kex8.longestMatch s (t.drop i)).2) ++ Kex8.varint (Kex8.longestMatch s (t.drop i)).1)))) pf found := (same_new h7) _ _ (s26 _ _ (s2 _ _ hf))
        refine ⟨pf, p7, _, _, rfl, rfl, hf7, upd_same, (by rw [nv_len, nv_len, List.length_append, List.length_append]; exact big_line (by omega)), ?_⟩
        refine ⟨Nat.zero_le _, fun p8 h8 => ?_⟩
        refine ⟨_, rfl, _, rfl, _, _, rfl, rfl, ?_⟩
        have s9 : Same H (upd (upd H6 p7 (.lst (nv (Kex8.flush pend ++ Kex8.varint (2 * (Kex8.longestMatch s (t.drop i)).2) ++ Kex8.varint (Kex8.longestMatch s (t.drop i)).1)))) pf (.lst (nv found ++ nv (Kex8.flush pend ++ Kex8.varint (2 * (Kex8.longestMatch s (t.drop i)).2) ++ Kex8.varint (Kex8.longestMatch s (t.drop i)).1)))) := ((s12.trans s26).new h7).wr nf
        refine ⟨_, ?_, i + (Kex8.longestMatch s (t.drop i)).2, _, [], pf, p8, some (.int _), some (.int _), rfl, rfl, I.copy hy (by omega), ?_, nf, s9.free h8, ?_, upd_same, s9.new h8, Nat.zero_le _, by omega⟩
        · omega
        · exact ne_of_none upd_same h8
        · exact (same_new h8) _ _ ln_app
      · refine ⟨_, rfl, .inl ⟨rfl, _, SqL.of (s2 _ _ hp)⟩, _, rfl, _, rfl, b, _, _, _, rfl, rfl, SqL.of (s12 _ _ hb), nv_at rfl hy, pp, _, _, rfl, rfl, s2 _ _ hp, (by rw [nv_len]; exact big_line' (by omega)), ?_⟩
        refine ⟨_, rfl, _, _, rfl, rfl, ?_⟩
        refine ⟨_, ?_, i + 1, found, pend ++ [y], pf, pp, some (.int _), some (.int _), rfl, rfl, I.put hy (by omega), nfp, nf, np, ?_, ln_snoc, s12.wr np, ?_, hi⟩
        · omega
        · show upd H2 pp _ pf = _
          rw [upd_ne nfp]
          exact s2 _ _ hf
        · rw [List.length_append, List.length_singleton]
          omega
    · rw [nv_len] at c
      refine ⟨_, rfl, _, rfl, pp, pend, rfl, hp, by omega, fun H2 p2 s2 n2 e2 => ?_⟩
      have v1 := flush_len pend
      refine ⟨pf, p2, _, _, rfl, rfl, s2 _ _ hf, e2, (by rw [nv_len, nv_len]; exact big_line (by omega)), fun p3 h3 => ?_⟩
      rw [← nv_app]
      have s13 : Same H (upd H2 p3 (.lst (nv (found ++ Kex8.flush pend)))) := (s1.trans s2).new h3
      refine ⟨_, rfl, b, t, rfl, s13 _ _ hb, fun H4 p4 s4 n4 e4 => ?_⟩
      have e3 := s4 _ _ (show LN _ p3 _ from upd_same)
      refine ⟨p3, p4, _, _, rfl, rfl, e3, e4, (by rw [nv_len, nv_len, checksum_len, List.length_append]; exact big_line (by omega)), fun p5 h5 => ?_⟩
      rw [I.done (by omega)]
      exact k _ p5 ((s13.trans s4).new h5) ((s13.trans s4).free h5) ln_app

def spCmd : Sp := fun vs H Q _ => ∃ (a b r : Addr) (code src out : List Nat) (i : Nat), vs = [.ref a, .int (i : Int), .ref b, .ref r] ∧ LN H a code ∧ (∀ x ∈ code, x ≤ 255) ∧ LN H b src ∧ LN H r out ∧ out.length + code.length + src.length ≤ 16000000 ∧
  (cmdAt code i src out = none → ∀ H' : Hp, Same H H' → Q (.int (-1)) H') ∧
  (∀ j o, cmdAt code i src out = some (j, o) → ∀ H' : Hp, (∀ b u, H b = some u → b ≠ r → H' b = some u) → LN H' r o → Q (.int (j : Int)) H')
theorem ok_run_command (G : Gf K mg "run_command" s_run_command ["code", "at", "source", "result"]) (T : TxLen mg) (c1 : Ca P w K mg base 1 "read_number" ["code", "at"] spRead) : Ca P w K mg base 2 "run_command" ["code", "at", "source", "result"] spCmd := by
  refine ca_of G sc_run_command (fun vs H Q E h => ?_) (fun f cdv A outer s H vs Q E hr h => ?_)
  · obtain ⟨a, b, r, code, src, out, i, rfl, _⟩ := h
    rfl
  · obtain ⟨a, b, r, code, src, out, i, rfl, ha, hc, hb, hr0, hsz, kN, kS⟩ := h
    have nd := sc_run_command.nd
    refine ⟨_, pss_cons (ps_asg (pe_ca c1 hr (by decide) rfl (pa_cons (pv 0) (pa_cons (pv 1) pa_nil))) (pg_tup rfl (pgs_cons (pg_name (i := 4) nd rfl (.inl rfl)) (pgs_cons (pg_name (i := 5) nd rfl (.inl rfl)) pgs_nil))))
      (pss_cons (ps_if (pt_cmpR op_lt (pv 4) pe_int (nomark _)) (pss_one (ps_ret (pe_un un_neg pe_int))) pss_nil)
      (pss_cons (ps_set (i := 6) nd rfl (.inl rfl) (pe_op op_fdiv (pv 4) pe_int))
      (pss_cons (ps_if (pt_cmpR op_eq (pe_op op_mod (pv 4) pe_int) pe_int (nomark _))
        (pss_cons (ps_if (pt_cmpR op_gt (pe_op op_add (pv 5) (pv 6)) (pe_callB call_len_seq (by rfl) T.len PySem.boot_len (pa_cons (pv 0) pa_nil)) (nomark _)) (pss_one (ps_ret (pe_un un_neg pe_int))) pss_nil)
        (pss_cons (ps_expr (pe_bm PySem.F.plainAttrs_list PySem.F.slot_list_extend PySem.F.type_list_extend mt_extend (pv 3) (pa_cons (pe_slice sl_list (pv 0) (po_some (pv 5)) (po_some (pe_op op_add (pv 5) (pv 6)))) pa_nil)))
        (pss_one (ps_ret (pe_op op_add (pv 5) (pv 6)))))) pss_nil)
      (pss_cons (ps_asg (pe_ca c1 hr (by decide) rfl (pa_cons (pv 0) (pa_cons (pv 5) pa_nil))) (pg_tup rfl (pgs_cons (pg_name (i := 7) nd rfl (.inl rfl)) (pgs_cons (pg_name (i := 8) nd rfl (.inl rfl)) pgs_nil))))
      (pss_cons (ps_if (PW.pt (pw_or (pt_cmpR op_lt (pv 7) pe_int (nomark _)) (pw_or1 (pt_cmpR op_gt (pe_op op_add (pv 7) (pv 6)) (pe_callB call_len_seq (by rfl) T.len PySem.boot_len (pa_cons (pv 2) pa_nil)) (nomark _))))) (pss_one (ps_ret (pe_un un_neg pe_int))) pss_nil)
      (pss_cons (ps_expr (pe_bm PySem.F.plainAttrs_list PySem.F.slot_list_extend PySem.F.type_list_extend mt_extend (pv 3) (pa_cons (pe_slice sl_list (pv 2) (po_some (pv 7)) (po_some (pe_op op_add (pv 7) (pv 6)))) pa_nil)))
      (pss_one (ps_ret (pv 8))))))))), ?_⟩
    unfold cmdAt at kN kS
    refine ⟨_, rfl, _, rfl, a, code, i, rfl, ha, hc, fun H1 p1 s1 n1 e1 => ?_⟩
    cases q1 : rdAt code i with
    | none =>
      rw [rdV_none q1] at e1
      rw [q1] at kN
      refine ⟨p1, _, rfl, SqT.of e1, rfl, _, _, rfl, _, _, rfl, rfl, ?_⟩
      refine ⟨_, rfl, _, _, rfl, rfl, _, rfl, ?_⟩
      exact itd (fun _ => ⟨_, rfl, kN rfl _ s1⟩) (fun z => absurd (by decide) z)
    | some nb =>
      obtain ⟨n, b1⟩ := nb
      rw [rdV_some q1] at e1
      rw [q1] at kN kS
      dsimp only at kN kS
      refine ⟨p1, _, rfl, SqT.of e1, rfl, _, _, rfl, _, _, rfl, rfl, ?_⟩
      refine ⟨_, rfl, _, _, rfl, rfl, _, rfl, ?_⟩
      refine itd (fun c => ?_) (fun c => ?_)
      · exact ⟨_, rfl, kN (if_pos (by omega)) _ s1⟩
      · rw [if_neg (by omega)] at kN kS
        refine ⟨_, rfl, _, _, rfl, rfl, ⟨by decide, by decide⟩, ?_⟩
        refine ⟨_, rfl, _, _, rfl, rfl, (by show (0 : Int) < 2; decide), rfl, _, rfl, ?_⟩
        refine itd (fun d => ?_) (fun d => ?_)
        · have d2 : n % 2 = 1 := by
            have := int_eq d
            omega
          rw [if_pos d2] at kN kS
          refine ⟨_, rfl, _, rfl, _, _, rfl, rfl, _, rfl, a, _, rfl, .inl (SqL.of (s1 _ _ ha)), _, _, rfl, rfl, _, rfl, ?_⟩
          rw [nv_len]
          refine itd (fun e => ?_) (fun e => ?_)
          · exact ⟨_, rfl, kN (if_pos (by omega)) _ s1⟩
          · have e2 : ¬ code.length < b1 + n / 2 := by omega
            rw [if_neg e2] at kS
            refine ⟨_, rfl, .inl ⟨rfl, _, SqL.of (s1 _ _ hr0)⟩, _, rfl, _, rfl, _, rfl, _, rfl, _, rfl, _, _, rfl, rfl, _, rfl, a, _, rfl, SqL.of (s1 _ _ ha), fun p2 h2 => ?_⟩
            rw [cut_nn (i := b1) (j := b1 + n / 2) rfl (by omega), show b1 + n / 2 - b1 = n / 2 by omega]
            have hr2 : LN (upd H1 p2 (.lst (nv ((code.drop b1).take (n / 2))))) r out := (same_new h2) _ _ (s1 _ _ hr0)
            refine ⟨r, p2, _, _, rfl, rfl, hr2, upd_same, ?_, ?_⟩
            · rw [nv_len, nv_len, List.length_take, List.length_drop]
              exact big_line (by omega)
            · refine ⟨_, rfl, _, rfl, _, _, rfl, rfl, ?_⟩
              refine kS (b1 + n / 2) _ rfl _ (fun b u hbu hne => ?_) ?_
              · rw [upd_ne hne]
                exact (s1.new h2) _ _ hbu
              · exact ln_app
        · have d2 : ¬ n % 2 = 1 := fun z => d (by
            have : ((n : Int) % 2) = 1 := by omega
            show V.int ((n : Int) % 2) = V.int 1
            rw [this])
          rw [if_neg d2] at kN kS
          refine ⟨_, rfl, _, rfl, a, code, b1, rfl, s1 _ _ ha, hc, fun H2 p2 s2 n2 e2 => ?_⟩
          have s12 := s1.trans s2
          cases q2 : rdAt code b1 with
          | none =>
            rw [rdV_none q2] at e2
            rw [q2] at kN
            refine ⟨p2, _, rfl, SqT.of e2, rfl, _, _, rfl, _, _, rfl, rfl, ?_⟩
            refine ⟨_, rfl, _, _, rfl, rfl, _, rfl, ?_⟩
            exact itd (fun _ => iteT ⟨_, rfl, kN rfl _ s12⟩) (fun z => absurd (by decide) z)
          | some oe =>
            obtain ⟨o, e⟩ := oe
            rw [rdV_some q2] at e2
            rw [q2] at kN kS
            dsimp only at kN kS
            refine ⟨p2, _, rfl, SqT.of e2, rfl, _, _, rfl, _, _, rfl, rfl, ?_⟩
            refine ⟨_, rfl, _, _, rfl, rfl, _, rfl, ?_⟩
            refine itd (fun z => absurd z (by omega)) (fun _ => ?_)
            refine ⟨_, rfl, _, rfl, _, _, rfl, rfl, _, rfl, b, _, rfl, .inl (SqL.of (s12 _ _ hb)), _, _, rfl, rfl, _, rfl, ?_⟩
            rw [nv_len]
            refine itd (fun y => ?_) (fun y => ?_)
            · exact ⟨_, rfl, kN (if_pos (by omega)) _ s12⟩
            · have y2 : ¬ src.length < o + n / 2 := by omega
              rw [if_neg y2] at kS
              refine ⟨_, rfl, .inl ⟨rfl, _, SqL.of (s12 _ _ hr0)⟩, _, rfl, _, rfl, _, rfl, _, rfl, _, rfl, _, _, rfl, rfl, _, rfl, b, _, rfl, SqL.of (s12 _ _ hb), fun p3 h3 => ?_⟩
              rw [cut_nn (i := o) (j := o + n / 2) rfl (by omega), show o + n / 2 - o = n / 2 by omega]
              have hr3 : LN (upd H2 p3 (.lst (nv ((src.drop o).take (n / 2))))) r out := (same_new h3) _ _ (s12 _ _ hr0)
              refine ⟨r, p3, _, _, rfl, rfl, hr3, upd_same, ?_, ?_⟩
              · rw [nv_len, nv_len, List.length_take, List.length_drop]
                exact big_line (by omega)
              · refine ⟨_, rfl, ?_⟩
                refine kS e _ rfl _ (fun b u hbu hne => ?_) ?_
                · rw [upd_ne hne]
                  exact (s12.new h3) _ _ hbu
                · exact ln_app

def spApp : Sp := fun vs H Q _ => ∃ (a b : Addr) (p src : List Nat), vs = [.ref a, .ref b] ∧ LN H a p ∧ (∀ x ∈ p, x ≤ 255) ∧ LN H b src ∧ p.length * (src.length + 1) + p.length + src.length ≤ 16000000 ∧
  (Kex8.apply p src = none → ∀ H' : Hp, Same H H' → Q .non H') ∧ (∀ o, Kex8.apply p src = some o → RetL H Q o)
theorem ok_applied (G : Gf K mg "applied" s_applied ["patch", "source"]) (T : TxLen mg) (c1 : Ca P w K mg base 2 "run_command" ["code", "at", "source", "result"] spCmd) (c2 : Ca P w K mg base 1 "checksum" ["code"] spSum) : Ca P w K mg base 3 "applied" ["patch", "source"] spApp := by
  refine ca_of G sc_applied (fun vs H Q E h => ?_) (fun f cdv A outer s H vs Q E hr h => ?_)
  · obtain ⟨a, b, p, src, rfl, _⟩ := h
    rfl
  · obtain ⟨a, b, p, src, rfl, ha, hp, hb, hsz, kN, kS⟩ := h
    have nd := sc_applied.nd
    refine ⟨_, pss_cons (ps_if (pt_cmpR op_lt (pe_callB call_len_seq (by rfl) T.len PySem.boot_len (pa_cons (pv 0) pa_nil)) pe_int (nomark _)) (pss_one (ps_ret pe_non)) pss_nil)
      (pss_cons (ps_set (i := 2) nd rfl (.inl rfl) (pe_slice sl_list (pv 0) po_none (po_some (pe_un un_neg pe_int))))
      (pss_cons (ps_set (i := 3) nd rfl (.inl rfl) (pe_lst pa_nil))
      (pss_cons (ps_set (i := 4) nd rfl (.inl rfl) pe_int)
      (pss_cons (ps_while PassesOwn.never (pt_cmpR op_lt (pv 4) (pe_callB call_len_seq (by rfl) T.len PySem.boot_len (pa_cons (pv 2) pa_nil)) (nomark _))
        (pss_cons (ps_set (i := 4) nd rfl (.inl rfl) (pe_ca c1 hr (by decide) rfl (pa_cons (pv 2) (pa_cons (pv 4) (pa_cons (pv 1) (pa_cons (pv 3) pa_nil))))))
        (pss_one (ps_if (pt_cmpR op_lt (pv 4) pe_int (nomark _)) (pss_one (ps_ret pe_non)) pss_nil))))
      (pss_one (ps_ret (pe_ifExp (pt_cmpR (op_eqD hr.units) (pe_ca c2 hr (by decide) rfl (pa_cons (pv 3) pa_nil)) (pe_slice sl_list (pv 0) (po_some (pe_un un_neg pe_int)) po_none) (nomark _)) (pv 3) pe_non))))))), ?_⟩
    refine ⟨_, rfl, a, _, rfl, .inl (SqL.of ha), _, _, rfl, rfl, _, rfl, ?_⟩
    rw [nv_len]
    refine itd (fun c => ?_) (fun c => ?_)
    · exact kN (apply_short (by omega)) _ (Same.refl H)
    · have c2' : ¬ p.length < 2 := by omega
      refine ⟨_, rfl, _, rfl, _, rfl, a, _, rfl, SqL.of ha, fun pc hpc => ?_⟩
      rw [show (-2 : Int) = -2 from rfl, cut_to2]
      refine ⟨Nat.zero_le _, fun pr hpr => ?_⟩
      have sc : Same H (upd H pc (.lst (nv (p.take (p.length - 2))))) := same_new hpc
      have npr := sc.free hpr
      refine ⟨fun m σ H' => ∃ (i : Nat) (out : List Nat), m = p.length - 2 - i ∧ σ = [some (.ref a), some (.ref b), some (.ref pc), some (.ref pr), some (.int (i : Int))] ∧ ApI p src i out ∧ Same H H' ∧ LN H' pc (p.take (p.length - 2)) ∧ LN H' pr out,
        ⟨_, 0, [], rfl, rfl, ApI.start p src, sc.new hpr, (same_new hpr) _ _ upd_same, upd_same⟩, ?_⟩
      rintro m σ H' ⟨i, out, rfl, rfl, I, s1, hc, ho⟩
      have ll := I.len_le
      refine ⟨_, rfl, _, rfl, pc, _, rfl, .inl (SqL.of hc), _, _, rfl, rfl, _, rfl, ?_⟩
      rw [nv_len, ApI.code_len]
      refine itd (fun d => ?_) (fun d => ?_)
      · refine ⟨fun σ' H2 => ∃ m', m' < p.length - 2 - i ∧ ∃ (i : Nat) (out : List Nat), m' = p.length - 2 - i ∧ σ' = [some (.ref a), some (.ref b), some (.ref pc), some (.ref pr), some (.int (i : Int))] ∧ ApI p src i out ∧ Same H H2 ∧ LN H2 pc (p.take (p.length - 2)) ∧ LN H2 pr out, fun _ _ z => z, ?_⟩
        refine ⟨_, rfl, _, rfl, _, rfl, _, rfl, pc, b, pr, _, src, out, i, rfl, hc, fun x hx => hp x (List.mem_of_mem_take hx), s1 _ _ hb, ho, (by rw [ApI.code_len]; omega), fun q H2 s2 => ?_, fun j o q H2 kp hr2 => ?_⟩
        · refine ⟨_, rfl, _, _, rfl, rfl, _, rfl, ?_⟩
          exact itd (fun _ => kN (apply_none c2' (I.bad (by omega) q)) _ (s1.trans s2)) (fun z => absurd (by decide) z)
        · obtain ⟨I2, lt⟩ := I.turn (by omega) q
          have at2 := I2.at_
          have ncr : pc ≠ pr := by
            rintro rfl
            rw [upd_same] at hpr
            cases hpr
          refine ⟨_, rfl, _, _, rfl, rfl, _, rfl, ?_⟩
          refine itd (fun z => absurd z (by omega)) (fun _ => ?_)
          refine ⟨_, ?_, j, o, rfl, rfl, I2, fun x u e => kp _ _ (s1 _ _ e) (ne_of_none e npr), kp _ _ hc ncr, hr2⟩
          omega
      · have hd := I.done (by omega)
        have ea := apply_some c2' hd
        refine ⟨_, rfl, pr, out, rfl, ho, fun H2 p2 s2 n2 e2 => ?_⟩
        have s12 := s1.trans s2
        refine ⟨_, rfl, _, rfl, _, rfl, a, _, rfl, SqL.of (s12 _ _ ha), fun p3 h3 => ?_⟩
        rw [show (-2 : Int) = -2 from rfl, cut_from2]
        refine ⟨_, _, dp_nd ((same_new h3) _ _ e2), dp_nd upd_same, shaped_nd _, shaped_nd _, _, rfl, ?_⟩
        rw [eqv_nd]
        refine itd (fun y => ?_) (fun y => ?_)
        · rw [if_pos y] at ea
          exact ⟨_, rfl, kS out ea _ pr (s12.new h3) npr ((same_new h3) _ _ (s2 _ _ ho))⟩
        · rw [if_neg y] at ea
          exact kN ea _ (s12.new h3)
end
end Cs

/-! How a state lies in memory. -/
namespace Cs
open PySem PySem.Spec PyProof.Rows L2
open PySem.W (Codec)

/-! ### attributes -/
theorem lk_here {k : Str} {v : V} {r : List (Str × V)} : List.lookup k ((k, v) :: r) = some v := by
  have e : (k == k) = true := beq_self_eq_true k
  simp only [List.lookup, e]
theorem lk_past {k g : Str} {v : V} {r : List (Str × V)} (h : (k == g) = false) : List.lookup k ((g, v) :: r) = List.lookup k r := by
  simp only [List.lookup, h]
theorem put_here {f : Str} {v x : V} {r : List (Str × V)} : putF f v ((f, x) :: r) = (f, v) :: r := if_pos rfl
theorem put_past {f g : Str} {v x : V} {r : List (Str × V)} (h : ¬ g = f) : putF f v ((g, x) :: r) = (g, x) :: putF f v r := if_neg h
/-- a Client's -/
def fC (v : Nat) (g e : Addr) (k : Nat) (q : Addr) : List (Str × V) := [("version", .int (v : Int)), ("config", .ref g), ("exposures", .ref e), ("acknowledged", .int (k : Int)), ("counted", .ref q)]
section
variable {v k : Nat} {g e q : Addr}
theorem fC_1 : (fC v g e k q).lookup ("version" : Str) = some (.int (v : Int)) := lk_here
theorem fC_2 : (fC v g e k q).lookup ("config" : Str) = some (.ref g) := (lk_past (by decide +kernel)).trans lk_here
theorem fC_3 : (fC v g e k q).lookup ("exposures" : Str) = some (.ref e) := (lk_past (by decide +kernel)).trans ((lk_past (by decide +kernel)).trans lk_here)
theorem fC_4 : (fC v g e k q).lookup ("acknowledged" : Str) = some (.int (k : Int)) := (lk_past (by decide +kernel)).trans ((lk_past (by decide +kernel)).trans ((lk_past (by decide +kernel)).trans lk_here))
theorem fC_5 : (fC v g e k q).lookup ("counted" : Str) = some (.ref q) := (lk_past (by decide +kernel)).trans ((lk_past (by decide +kernel)).trans ((lk_past (by decide +kernel)).trans ((lk_past (by decide +kernel)).trans lk_here)))
theorem fC_p1 (x : Nat) : putF "version" (.int (x : Int)) (fC v g e k q) = fC x g e k q := put_here
theorem fC_p2 (x : Addr) : putF "config" (.ref x) (fC v g e k q) = fC v x e k q := (put_past (by decide +kernel)).trans (congrArg _ put_here)
theorem fC_p4 (x : Nat) : putF "acknowledged" (.int (x : Int)) (fC v g e k q) = fC v g e x q := (put_past (by decide +kernel)).trans (congrArg _ ((put_past (by decide +kernel)).trans (congrArg _ ((put_past (by decide +kernel)).trans (congrArg _ put_here)))))
theorem fC_new : putF "counted" (.ref q) (putF "acknowledged" (.int (k : Int)) (putF "exposures" (.ref e) (putF "config" (.ref g) (putF "version" (.int (v : Int)) [])))) = fC v g e k q := by
  have e1 : putF "version" (.int (v : Int)) [] = ([("version", V.int (v : Int))] : List (Str × V)) := rfl
  have e2 : putF "config" (.ref g) ([("version", V.int (v : Int))] : List (Str × V)) = ([("version", V.int (v : Int)), ("config", .ref g)] : List (Str × V)) := (put_past (by decide +kernel)).trans rfl
  have e3 : putF "exposures" (.ref e) ([("version", V.int (v : Int)), ("config", .ref g)] : List (Str × V)) = ([("version", V.int (v : Int)), ("config", .ref g), ("exposures", .ref e)] : List (Str × V)) := (put_past (by decide +kernel)).trans (congrArg _ ((put_past (by decide +kernel)).trans rfl))
  have e4 : putF "acknowledged" (.int (k : Int)) ([("version", V.int (v : Int)), ("config", .ref g), ("exposures", .ref e)] : List (Str × V)) = ([("version", V.int (v : Int)), ("config", .ref g), ("exposures", .ref e), ("acknowledged", .int (k : Int))] : List (Str × V)) :=
    (put_past (by decide +kernel)).trans (congrArg _ ((put_past (by decide +kernel)).trans (congrArg _ ((put_past (by decide +kernel)).trans rfl))))
  rw [e1, e2, e3, e4]
  exact (put_past (by decide +kernel)).trans (congrArg _ ((put_past (by decide +kernel)).trans (congrArg _ ((put_past (by decide +kernel)).trans (congrArg _ ((put_past (by decide +kernel)).trans rfl))))))
end
/-- a Message's -/
def fM (form client number : Nat) (c : Addr) : List (Str × V) := [("form", .int (form : Int)), ("client", .int (client : Int)), ("number", .int (number : Int)), ("content", .ref c)]
section
variable {form client number : Nat} {c : Addr}
theorem fM_1 : (fM form client number c).lookup ("form" : Str) = some (.int (form : Int)) := lk_here
theorem fM_2 : (fM form client number c).lookup ("client" : Str) = some (.int (client : Int)) := (lk_past (by decide +kernel)).trans lk_here
theorem fM_3 : (fM form client number c).lookup ("number" : Str) = some (.int (number : Int)) := (lk_past (by decide +kernel)).trans ((lk_past (by decide +kernel)).trans lk_here)
theorem fM_4 : (fM form client number c).lookup ("content" : Str) = some (.ref c) := (lk_past (by decide +kernel)).trans ((lk_past (by decide +kernel)).trans ((lk_past (by decide +kernel)).trans lk_here))
theorem fM_new : putF "content" (.ref c) (putF "number" (.int (number : Int)) (putF "client" (.int (client : Int)) (putF "form" (.int (form : Int)) []))) = fM form client number c := by
  have e1 : putF "form" (.int (form : Int)) [] = ([("form", V.int (form : Int))] : List (Str × V)) := rfl
  have e2 : putF "client" (.int (client : Int)) ([("form", V.int (form : Int))] : List (Str × V)) = ([("form", V.int (form : Int)), ("client", .int (client : Int))] : List (Str × V)) := (put_past (by decide +kernel)).trans rfl
  have e3 : putF "number" (.int (number : Int)) ([("form", V.int (form : Int)), ("client", .int (client : Int))] : List (Str × V)) = ([("form", V.int (form : Int)), ("client", .int (client : Int)), ("number", .int (number : Int))] : List (Str × V)) := (put_past (by decide +kernel)).trans (congrArg _ ((put_past (by decide +kernel)).trans rfl))
  rw [e1, e2, e3]
  exact (put_past (by decide +kernel)).trans (congrArg _ ((put_past (by decide +kernel)).trans (congrArg _ ((put_past (by decide +kernel)).trans rfl))))
end
/-- a Platform's -/
def fP (ver sta cli chn : Addr) : List (Str × V) := [("versions", .ref ver), ("staged", .ref sta), ("clients", .ref cli), ("channel", .ref chn)]
section
variable {ver sta cli chn : Addr}
theorem fP_1 : (fP ver sta cli chn).lookup ("versions" : Str) = some (.ref ver) := lk_here
theorem fP_2 : (fP ver sta cli chn).lookup ("staged" : Str) = some (.ref sta) := (lk_past (by decide +kernel)).trans lk_here
theorem fP_3 : (fP ver sta cli chn).lookup ("clients" : Str) = some (.ref cli) := (lk_past (by decide +kernel)).trans ((lk_past (by decide +kernel)).trans lk_here)
theorem fP_4 : (fP ver sta cli chn).lookup ("channel" : Str) = some (.ref chn) := (lk_past (by decide +kernel)).trans ((lk_past (by decide +kernel)).trans ((lk_past (by decide +kernel)).trans lk_here))
theorem fP_new : putF "channel" (.ref chn) (putF "clients" (.ref cli) (putF "staged" (.ref sta) (putF "versions" (.ref ver) []))) = fP ver sta cli chn := by
  have e1 : putF "versions" (.ref ver) [] = ([("versions", V.ref ver)] : List (Str × V)) := rfl
  have e2 : putF "staged" (.ref sta) ([("versions", V.ref ver)] : List (Str × V)) = ([("versions", V.ref ver), ("staged", .ref sta)] : List (Str × V)) := (put_past (by decide +kernel)).trans rfl
  have e3 : putF "clients" (.ref cli) ([("versions", V.ref ver), ("staged", .ref sta)] : List (Str × V)) = ([("versions", V.ref ver), ("staged", .ref sta), ("clients", .ref cli)] : List (Str × V)) := (put_past (by decide +kernel)).trans (congrArg _ ((put_past (by decide +kernel)).trans rfl))
  rw [e1, e2, e3]
  exact (put_past (by decide +kernel)).trans (congrArg _ ((put_past (by decide +kernel)).trans (congrArg _ ((put_past (by decide +kernel)).trans rfl))))
end
/-- the three classes -/
structure Kl (K : PySem.W.Frag) (cC cM cP : Addr) : Prop where
  C : Cls K cC
  M : Cls K cM
  P : Cls K cP
  c1 : NoAttr K cC "version"
  c2 : NoAttr K cC "config"
  c3 : NoAttr K cC "exposures"
  c4 : NoAttr K cC "acknowledged"
  c5 : NoAttr K cC "counted"
  m1 : NoAttr K cM "form"
  m2 : NoAttr K cM "client"
  m3 : NoAttr K cM "number"
  m4 : NoAttr K cM "content"
  p1 : NoAttr K cP "versions"
  p2 : NoAttr K cP "staged"
  p3 : NoAttr K cP "clients"
  p4 : NoAttr K cP "channel"

/-! ### the layout -/
/-- what is written while a platform stands, each thing in its place; loc: what the caller alone writes -/
inductive Role where
  | ver | sta | chn | cl (i : Nat) | ex (i : Nat) | ct (i : Nat) | loc
  deriving DecidableEq
structure Lay where
  p : Addr
  dx : Addr
  ver : Addr
  sta : Addr
  cli : Addr
  chn : Addr
  n : Nat
  cs : Nat → Addr
  es : Nat → Addr
  ks : Nat → Addr
  rho : Addr → Option Role
/-- all but the roles in R stays -/
structure Fr (L : Lay) (R : Role → Prop) (H H' : Hp) : Prop where
  keep : ∀ b o, H b = some o → (∀ r, L.rho b = some r → ¬ R r) → H' b = some o
  there : ∀ b o, H b = some o → ∃ u, H' b = some u
theorem Fr.of_same {L : Lay} {R : Role → Prop} {H H' : Hp} (s : Same H H') : Fr L R H H' := ⟨fun b o e _ => s b o e, fun b o e => ⟨o, s b o e⟩⟩
theorem Fr.trans {L : Lay} {R : Role → Prop} {H H1 H2 : Hp} (a : Fr L R H H1) (b : Fr L R H1 H2) : Fr L R H H2 := ⟨fun c o e h => b.keep c o (a.keep c o e h) h, fun c o e => by
  obtain ⟨u, q⟩ := a.there c o e
  exact b.there c u q⟩
theorem there_upd {H : Hp} {a : Addr} {o : HO} : ∀ b u, H b = some u → ∃ u', upd H a o b = some u' := fun b u e => by
  by_cases h : b = a
  · rw [h]
    exact ⟨o, upd_same⟩
  · exact ⟨u, by rw [upd_ne h]; exact e⟩
theorem Fr.wr {L : Lay} {r0 : Role} {H : Hp} {a : Addr} {o : HO} (h : L.rho a = some r0) : Fr L (· = r0) H (upd H a o) := ⟨fun b u e hr => by
  have : b ≠ a := fun z => hr r0 (by rw [z]; exact h) rfl
  rw [upd_ne this]
  exact e, there_upd⟩
theorem Fr.mono {L : Lay} {R R' : Role → Prop} {H H' : Hp} (a : Fr L R H H') (h : ∀ r, R r → R' r) : Fr L R' H H' := ⟨fun b o e hr => a.keep b o e fun r q z => hr r q (h r z), a.there⟩
theorem Fr.fix {L : Lay} {R : Role → Prop} {H H' : Hp} (a : Fr L R H H') {b : Addr} {o : HO} (e : H b = some o) (h : L.rho b = none) : H' b = some o := a.keep b o e fun r q => by
  rw [h] at q
  cases q
theorem Fr.role {L : Lay} {R : Role → Prop} {H H' : Hp} (a : Fr L R H H') {b : Addr} {o : HO} {r : Role} (e : H b = some o) (h : L.rho b = some r) (n : ¬ R r) : H' b = some o := a.keep b o e fun r' q => by
  rw [h] at q
  cases q
  exact n
theorem Fr.refl (L : Lay) (R : Role → Prop) (H : Hp) : Fr L R H H := Fr.of_same (Same.refl H)
/-- what the calls on a platform may write -/
abbrev Kp (L : Lay) (H H' : Hp) : Prop := Fr L (fun r => r ≠ .loc) H H'
theorem Fr.kp {L : Lay} {r0 : Role} {H H' : Hp} (a : Fr L (· = r0) H H') (h : r0 ≠ .loc) : Kp L H H' := a.mono fun r q => by
  rw [q]
  exact h
def MsgAt (cM : Addr) (L : Lay) (H : Hp) (m : Addr) (x : Kex8.Message) : Prop := ∃ dx c, H m = some (.ins cM dx (fM x.type x.client x.number c)) ∧ L.rho m = none ∧ LN H c x.content ∧ L.rho c = none
theorem MsgAt.move {cM : Addr} {L : Lay} {R : Role → Prop} {H H' : Hp} {m : Addr} {x : Kex8.Message} (h : MsgAt cM L H m x) (f : Fr L R H H') : MsgAt cM L H' m x := by
  obtain ⟨dx, c, h1, h2, h3, h4⟩ := h
  exact ⟨dx, c, f.fix h1 h2, h2, f.fix h3 h4, h4⟩
/-- the instance of a client -/
def InsAt (cC : Addr) (L : Lay) (H : Hp) (i : Nat) (c : Kex8.Client) : Prop := ∃ dx g, H (L.cs i) = some (.ins cC dx (fC c.version g (L.es i) c.acknowledged (L.ks i))) ∧ L.rho g = none ∧ LN H g c.config
structure CliAt (cC : Addr) (L : Lay) (H : Hp) (i : Nat) (c : Kex8.Client) (q : List Nat) : Prop where
  ins : InsAt cC L H i c
  ex : LN H (L.es i) c.exposures
  ct : LN H (L.ks i) q
structure LayOk (L : Lay) : Prop where
  rp : L.rho L.p = none
  rver : L.rho L.ver = some .ver
  rsta : L.rho L.sta = some .sta
  rcli : L.rho L.cli = none
  rchn : L.rho L.chn = some .chn
  rcs : ∀ i, i < L.n → L.rho (L.cs i) = some (.cl i)
  res : ∀ i, i < L.n → L.rho (L.es i) = some (.ex i)
  rks : ∀ i, i < L.n → L.rho (L.ks i) = some (.ct i)
def VerAt (L : Lay) (H : Hp) (vs : List Kex8.Config) : Prop := ∃ va : List Addr, H L.ver = some (.lst (va.map V.ref)) ∧ va.length = vs.length ∧ ∀ (i : Nat) (a : Addr) (c : Kex8.Config), va[i]? = some a → vs[i]? = some c → LN H a c ∧ L.rho a = none
def ChnAt (cM : Addr) (L : Lay) (H : Hp) (ms : List Kex8.Message) : Prop := ∃ ma : List Addr, H L.chn = some (.lst (ma.map V.ref)) ∧ ma.length = ms.length ∧ ∀ (i : Nat) (a : Addr) (x : Kex8.Message), ma[i]? = some a → ms[i]? = some x → MsgAt cM L H a x
structure Plat (cC cM cP : Addr) (L : Lay) (H : Hp) (s : Kex8.System) : Prop where
  ok : LayOk L
  own : ∀ b r, L.rho b = some r → ∃ o, H b = some o
  inst : H L.p = some (.ins cP L.dx (fP L.ver L.sta L.cli L.chn))
  cli : H L.cli = some (.lst ((List.range L.n).map fun i => V.ref (L.cs i)))
  nc : s.clients.length = L.n
  nk : s.counted.length = L.n
  ver : VerAt L H s.versions
  sta : LN H L.sta s.staged
  chn : ChnAt cM L H s.channel
  at_ : ∀ i c q, s.clients[i]? = some c → s.counted[i]? = some q → CliAt cC L H i c q
section
variable {cC cM cP : Addr} {L : Lay} {H H' : Hp} {s : Kex8.System} {R : Role → Prop}
theorem Plat.nr (h : Plat cC cM cP L H s) {b : Addr} (e : H b = none) : L.rho b = none := by
  cases q : L.rho b with
  | none => rfl
  | some r =>
    obtain ⟨o, z⟩ := h.own b r q
    rw [e] at z
    cases z
theorem VerAt.move {vs : List Kex8.Config} (ok : LayOk L) (h : VerAt L H vs) (f : Fr L R H H') (n : ¬ R .ver) : VerAt L H' vs := by
  obtain ⟨va, h1, h2, h3⟩ := h
  refine ⟨va, f.role h1 ok.rver n, h2, fun i a c ha hc => ?_⟩
  obtain ⟨h4, h5⟩ := h3 i a c ha hc
  exact ⟨f.fix h4 h5, h5⟩
theorem ChnAt.move {ms : List Kex8.Message} (ok : LayOk L) (h : ChnAt cM L H ms) (f : Fr L R H H') (n : ¬ R .chn) : ChnAt cM L H' ms := by
  obtain ⟨ma, h1, h2, h3⟩ := h
  exact ⟨ma, f.role h1 ok.rchn n, h2, fun i a x ha hx => (h3 i a x ha hx).move f⟩
theorem InsAt.move {i : Nat} {c : Kex8.Client} (ok : LayOk L) (hi : i < L.n) (h : InsAt cC L H i c) (f : Fr L R H H') (n : ¬ R (.cl i)) : InsAt cC L H' i c := by
  obtain ⟨dx, g, h1, h2, h3⟩ := h
  exact ⟨dx, g, f.role h1 (ok.rcs i hi) n, h2, f.fix h3 h2⟩
theorem CliAt.move {i : Nat} {c : Kex8.Client} {q : List Nat} (ok : LayOk L) (hi : i < L.n) (h : CliAt cC L H i c q) (f : Fr L R H H') (n1 : ¬ R (.cl i)) (n2 : ¬ R (.ex i)) (n3 : ¬ R (.ct i)) : CliAt cC L H' i c q :=
  ⟨h.ins.move ok hi f n1, f.role h.ex (ok.res i hi) n2, f.role h.ct (ok.rks i hi) n3⟩
theorem Plat.lt (h : Plat cC cM cP L H s) {i : Nat} {c : Kex8.Client} (e : s.clients[i]? = some c) : i < L.n := by
  rw [← h.nc]
  exact (List.getElem?_eq_some_iff.mp e).1
theorem Plat.own' (h : Plat cC cM cP L H s) (f : Fr L R H H') : ∀ b r, L.rho b = some r → ∃ o, H' b = some o := fun b r q => by
  obtain ⟨o, z⟩ := h.own b r q
  exact f.there b o z
/-- nothing of it is written -/
theorem Plat.move (h : Plat cC cM cP L H s) (f : Fr L R H H') (n : ∀ r, r ≠ .loc → ¬ R r) : Plat cC cM cP L H' s :=
  ⟨h.ok, h.own' f, f.fix h.inst h.ok.rp, f.fix h.cli h.ok.rcli, h.nc, h.nk, h.ver.move h.ok f (n _ (fun z => nomatch z)), f.role h.sta h.ok.rsta (n _ (fun z => nomatch z)), h.chn.move h.ok f (n _ (fun z => nomatch z)),
    fun i c q hc hq => (h.at_ i c q hc hq).move h.ok (h.lt hc) f (n _ (fun z => nomatch z)) (n _ (fun z => nomatch z)) (n _ (fun z => nomatch z))⟩
theorem Plat.same (h : Plat cC cM cP L H s) (e : Same H H') : Plat cC cM cP L H' s := h.move (R := fun _ => False) (Fr.of_same e) (fun _ _ z => z)

/-! ### one thing of it is written -/
theorem Plat.on_sta (h : Plat cC cM cP L H s) (f : Fr L (· = .sta) H H') {l : List Nat} (e : LN H' L.sta l) : Plat cC cM cP L H' { s with staged := l } :=
  ⟨h.ok, h.own' f, f.fix h.inst h.ok.rp, f.fix h.cli h.ok.rcli, h.nc, h.nk, h.ver.move h.ok f (fun z => nomatch z), e, h.chn.move h.ok f (fun z => nomatch z),
    fun i c q hc hq => (h.at_ i c q hc hq).move h.ok (h.lt hc) f (fun z => nomatch z) (fun z => nomatch z) (fun z => nomatch z)⟩
theorem Plat.on_ver (h : Plat cC cM cP L H s) (f : Fr L (· = .ver) H H') {l : List Kex8.Config} (e : VerAt L H' l) : Plat cC cM cP L H' { s with versions := l } :=
  ⟨h.ok, h.own' f, f.fix h.inst h.ok.rp, f.fix h.cli h.ok.rcli, h.nc, h.nk, e, f.role h.sta h.ok.rsta (fun z => nomatch z), h.chn.move h.ok f (fun z => nomatch z),
    fun i c q hc hq => (h.at_ i c q hc hq).move h.ok (h.lt hc) f (fun z => nomatch z) (fun z => nomatch z) (fun z => nomatch z)⟩
theorem Plat.on_chn (h : Plat cC cM cP L H s) (f : Fr L (· = .chn) H H') {l : List Kex8.Message} (e : ChnAt cM L H' l) : Plat cC cM cP L H' { s with channel := l } :=
  ⟨h.ok, h.own' f, f.fix h.inst h.ok.rp, f.fix h.cli h.ok.rcli, h.nc, h.nk, h.ver.move h.ok f (fun z => nomatch z), f.role h.sta h.ok.rsta (fun z => nomatch z), e,
    fun i c q hc hq => (h.at_ i c q hc hq).move h.ok (h.lt hc) f (fun z => nomatch z) (fun z => nomatch z) (fun z => nomatch z)⟩
theorem set_cases {α : Type} {l : List α} {i j : Nat} {x y : α} (h : (l.set i x)[j]? = some y) : (j = i ∧ y = x) ∨ (j ≠ i ∧ l[j]? = some y) := by
  by_cases e : j = i
  · subst e
    refine .inl ⟨rfl, ?_⟩
    rw [List.getElem?_set] at h
    by_cases k : j < l.length
    · simp [k] at h
      exact h.symm
    · simp [k] at h
  · rw [List.getElem?_set_ne (fun z => e z.symm)] at h
    exact .inr ⟨e, h⟩
theorem Plat.on_cl (h : Plat cC cM cP L H s) {i : Nat} {c c' : Kex8.Client} (hc : s.clients[i]? = some c) (f : Fr L (· = .cl i) H H') (e : InsAt cC L H' i c') (hx : c'.exposures = c.exposures) : Plat cC cM cP L H' (Kex8.withClient s i c') := by
  refine ⟨h.ok, h.own' f, f.fix h.inst h.ok.rp, f.fix h.cli h.ok.rcli, ?_, h.nk, h.ver.move h.ok f (fun z => nomatch z), f.role h.sta h.ok.rsta (fun z => nomatch z), h.chn.move h.ok f (fun z => nomatch z), fun j d q hd hq => ?_⟩
  · show (s.clients.set i c').length = L.n
    rw [List.length_set]
    exact h.nc
  · rcases set_cases hd with ⟨rfl, rfl⟩ | ⟨hj, hd⟩
    · have old := h.at_ j c q hc hq
      refine ⟨e, ?_, f.role old.ct (h.ok.rks j (h.lt hc)) (fun z => nomatch z)⟩
      rw [hx]
      exact f.role old.ex (h.ok.res j (h.lt hc)) (fun z => nomatch z)
    · exact (h.at_ j d q hd hq).move h.ok (h.lt hd) f (fun z => hj (Role.cl.inj z)) (fun z => nomatch z) (fun z => nomatch z)
theorem Plat.on_ex (h : Plat cC cM cP L H s) {i : Nat} {c : Kex8.Client} (hc : s.clients[i]? = some c) (f : Fr L (· = .ex i) H H') {x : List Nat} (e : LN H' (L.es i) x) : Plat cC cM cP L H' (Kex8.withClient s i { c with exposures := x }) := by
  refine ⟨h.ok, h.own' f, f.fix h.inst h.ok.rp, f.fix h.cli h.ok.rcli, ?_, h.nk, h.ver.move h.ok f (fun z => nomatch z), f.role h.sta h.ok.rsta (fun z => nomatch z), h.chn.move h.ok f (fun z => nomatch z), fun j d q hd hq => ?_⟩
  · show (s.clients.set i _).length = L.n
    rw [List.length_set]
    exact h.nc
  · rcases set_cases hd with ⟨rfl, rfl⟩ | ⟨hj, hd⟩
    · have old := h.at_ j c q hc hq
      exact ⟨(old.ins.move h.ok (h.lt hc) f (fun z => nomatch z) : InsAt cC L H' j c), e, f.role old.ct (h.ok.rks j (h.lt hc)) (fun z => nomatch z)⟩
    · exact (h.at_ j d q hd hq).move h.ok (h.lt hd) f (fun z => nomatch z) (fun z => hj (Role.ex.inj z)) (fun z => nomatch z)
theorem Plat.on_ct (h : Plat cC cM cP L H s) {i : Nat} (f : Fr L (· = .ct i) H H') {q' : List Nat} (e : LN H' (L.ks i) q') : Plat cC cM cP L H' { s with counted := s.counted.set i q' } := by
  refine ⟨h.ok, h.own' f, f.fix h.inst h.ok.rp, f.fix h.cli h.ok.rcli, h.nc, ?_, h.ver.move h.ok f (fun z => nomatch z), f.role h.sta h.ok.rsta (fun z => nomatch z), h.chn.move h.ok f (fun z => nomatch z), fun j d q hd hq => ?_⟩
  · show (s.counted.set i q').length = L.n
    rw [List.length_set]
    exact h.nk
  · have hj := h.lt hd
    rcases set_cases hq with ⟨rfl, rfl⟩ | ⟨hj2, hq⟩
    · obtain ⟨q0, hq0⟩ : ∃ q0, s.counted[j]? = some q0 := ⟨_, List.getElem?_eq_getElem (by rw [h.nk]; exact hj)⟩
      have old := h.at_ j d q0 hd hq0
      exact ⟨old.ins.move h.ok hj f (fun z => nomatch z), f.role old.ex (h.ok.res j hj) (fun z => nomatch z), e⟩
    · exact (h.at_ j d q hd hq).move h.ok hj f (fun z => nomatch z) (fun z => nomatch z) (fun z => hj2 (Role.ct.inj z))
theorem snoc_cases {α : Type} {l : List α} {j : Nat} {x y : α} (h : (l ++ [x])[j]? = some y) : (j = l.length ∧ y = x) ∨ (j < l.length ∧ l[j]? = some y) := by
  by_cases e : j < l.length
  · rw [List.getElem?_append_left e] at h
    exact .inr ⟨e, h⟩
  · rw [List.getElem?_append_right (by omega)] at h
    have e2 : j - l.length = 0 := by
      have := (List.getElem?_eq_some_iff.mp h).1
      rw [List.length_singleton] at this
      omega
    rw [e2] at h
    exact .inl ⟨by omega, (Option.some.inj h).symm⟩
theorem VerAt.snoc {va : List Addr} {vs : List Kex8.Config} {a : Addr} {c : Kex8.Config} (h2 : va.length = vs.length) (h3 : ∀ (i : Nat) (a : Addr) (c : Kex8.Config), va[i]? = some a → vs[i]? = some c → LN H a c ∧ L.rho a = none)
    (f : Fr L R H H') (e : H' L.ver = some (.lst (va.map V.ref ++ [V.ref a]))) (ha : LN H' a c) (ra : L.rho a = none) : VerAt L H' (vs ++ [c]) := by
  refine ⟨va ++ [a], by rw [List.map_append]; exact e, by rw [List.length_append, List.length_append, h2]; rfl, fun i b d hb hd => ?_⟩
  rcases snoc_cases hb with ⟨e1, rfl⟩ | ⟨l1, hb⟩
  · rcases snoc_cases hd with ⟨e2, rfl⟩ | ⟨l2, hd⟩
    · exact ⟨ha, ra⟩
    · omega
  · rcases snoc_cases hd with ⟨e2, rfl⟩ | ⟨l2, hd⟩
    · omega
    · obtain ⟨q1, q2⟩ := h3 i b d hb hd
      exact ⟨f.fix q1 q2, q2⟩
theorem ChnAt.snoc {ma : List Addr} {ms : List Kex8.Message} {a : Addr} {x : Kex8.Message} (h2 : ma.length = ms.length) (h3 : ∀ (i : Nat) (a : Addr) (x : Kex8.Message), ma[i]? = some a → ms[i]? = some x → MsgAt cM L H a x)
    (f : Fr L R H H') (e : H' L.chn = some (.lst (ma.map V.ref ++ [V.ref a]))) (ha : MsgAt cM L H' a x) : ChnAt cM L H' (ms ++ [x]) := by
  refine ⟨ma ++ [a], by rw [List.map_append]; exact e, by rw [List.length_append, List.length_append, h2]; rfl, fun i b d hb hd => ?_⟩
  rcases snoc_cases hb with ⟨e1, rfl⟩ | ⟨l1, hb⟩
  · rcases snoc_cases hd with ⟨e2, rfl⟩ | ⟨l2, hd⟩
    · exact ha
    · omega
  · rcases snoc_cases hd with ⟨e2, rfl⟩ | ⟨l2, hd⟩
    · omega
    · exact (h3 i b d hb hd).move f
theorem map_erase {α β : Type} (g : α → β) : ∀ (l : List α) (i : Nat), (l.map g).eraseIdx i = (l.eraseIdx i).map g
  | [], _ => rfl
  | _ :: _, 0 => rfl
  | a :: l, i + 1 => by
    show g a :: (l.map g).eraseIdx i = g a :: (l.eraseIdx i).map g
    rw [map_erase g l i]
theorem ChnAt.erase {ma : List Addr} {ms : List Kex8.Message} {k : Nat} (h2 : ma.length = ms.length) (h3 : ∀ (i : Nat) (a : Addr) (x : Kex8.Message), ma[i]? = some a → ms[i]? = some x → MsgAt cM L H a x)
    (f : Fr L R H H') (e : H' L.chn = some (.lst ((ma.map V.ref).eraseIdx k))) : ChnAt cM L H' (ms.eraseIdx k) := by
  refine ⟨ma.eraseIdx k, by rw [← map_erase]; exact e, by rw [List.length_eraseIdx, List.length_eraseIdx, h2], fun i b d hb hd => ?_⟩
  rw [List.getElem?_eraseIdx] at hb hd
  by_cases c : i < k
  · rw [if_pos c] at hb hd
    exact (h3 i b d hb hd).move f
  · rw [if_neg c] at hb hd
    exact (h3 (i + 1) b d hb hd).move f
theorem ref_get {l : List Addr} {i : Nat} {a : Addr} (h : l[i]? = some a) : (l.map V.ref)[i]? = some (V.ref a) := by
  rw [List.getElem?_map, h]
  rfl
theorem cli_get {n i : Nat} {f : Nat → Addr} (h : i < n) : ((List.range n).map fun i => V.ref (f i))[i]? = some (V.ref (f i)) := by
  rw [List.getElem?_map, List.getElem?_range h]
  rfl
end
end Cs

/-! The classes' inits. -/
namespace Cs
open PySem PySem.Spec PyProof.Rows L2
open PySem.W (Codec)
/-- all that stood stands, but the thing at p -/
def SameBut (p : Addr) (H H' : Hp) : Prop := ∀ b o, H b = some o → b ≠ p → H' b = some o
theorem SameBut.new {p q : Addr} {H H' : Hp} {o : HO} (s : SameBut p H H') (h : H' q = none) : SameBut p H (upd H' q o) := fun b u e n => by
  have := s b u e n
  rw [upd_ne (ne_of_none this h)]
  exact this
theorem SameBut.wr {p : Addr} {H H' : Hp} {o : HO} (s : SameBut p H H') : SameBut p H (upd H' p o) := fun b u e n => by
  rw [upd_ne n]
  exact s b u e n
theorem SameBut.trans {p : Addr} {H H1 H2 : Hp} (a : SameBut p H H1) (b : SameBut p H1 H2) : SameBut p H H2 := fun c o e n => b c o (a c o e n) n
theorem SameBut.same {p : Addr} {H H1 H2 : Hp} (a : SameBut p H H1) (b : Same H1 H2) : SameBut p H H2 := fun c o e n => b c o (a c o e n)
theorem SameBut.refl (p : Addr) (H : Hp) : SameBut p H H := fun _ _ e _ => e
section
variable {P : Program} {w : World} {K : PySem.W.Frag} {mg : Str → Option Value} {base : Heap} {cC cM cP : Addr}
/-- a method __init__ of a class, as it stands -/
structure Gi (K : PySem.W.Frag) (mg : Str → Option Value) (x : Str) (qual : Str) (C : Addr) (st : Stmt) (ps : List Str) : Prop where
  ex : ∃ (f : Addr) (fd : FuncData), Fun K "__init__" qual st f fd ∧ Mk K C f ∧ mg x = some (.ref C) ∧ Binds K fd ps []
theorem mc_of {x qual : Str} {C : Addr} {st : Stmt} {N ps : List Str} {k : Nat} {sp : Sp} (G : Gi K mg x qual C st ps) (S : FnScope N ps (defScope st)) (len : ∀ vs H Q E, sp vs H Q E → vs.length = ps.length)
    (hbody : ∀ (f : Addr) (cdv : Value) (A : Around) (outer : List Env) (s : Shared) (H : Hp) (vs : List V) (Q : VK) (E : XK), Room k (A.deeper (envOfC qual (defScope st) s.heap.objs.size f cdv)) → sp vs H Q E →
      ∃ t, PSs (cxOf CX0 P w K mg base N qual (defScope st) f cdv A outer s H E).nox (defBody st) t ∧ t { nx := fun _ H' => Q .non H', rt := Q } (start N vs) H) : Mc P w K mg base (k + 1) x C ps sp := by
  obtain ⟨f, fd, F, M, hm, b⟩ := G.ex
  exact ⟨f, fd, M, F.ok S len (hbody f), hm, b⟩

def spCi (cC : Addr) : Sp := fun vs H Q _ => ∃ (p dx : Addr), vs = [.ref p] ∧ H p = some (.ins cC dx []) ∧
  ∀ (H' : Hp) (g e q : Addr), SameBut p H H' → H g = none → H e = none → H q = none → g ≠ e → g ≠ q → e ≠ q → H' p = some (.ins cC dx (fC 0 g e 0 q)) → LN H' g Kex8.emptyConfig → LN H' e [] → LN H' q [] → Q .non H'
structure TxKeys (mg : Str → Option Value) : Prop where
  keys : ∃ t, mg "KEYS" = some (.int 16 t)
theorem zeros_eq : (List.replicate (16 : Int).toNat [V.int 0]).flatten = nv Kex8.emptyConfig := rfl
theorem ok_Client (G : Gi K mg "Client" "Client.__init__" cC s_Client_init ["self"]) (T : TxKeys mg) (kl : Kl K cC cM cP) : Mc P w K mg base 1 "Client" cC ["self"] (spCi cC) := by
  refine mc_of G sc_Client_init (fun vs H Q E h => ?_) (fun f cdv A outer s H vs Q E hr h => ?_)
  · obtain ⟨p, dx, rfl, _⟩ := h
    rfl
  · obtain ⟨p, dx, rfl, hp, k⟩ := h
    refine ⟨_, pss_cons (ps_fld (pv 0) pe_int rfl)
      (pss_cons (ps_fld (pv 0) (pe_op op_rep (pe_lst (pa_cons pe_int pa_nil)) (pe_k rfl T.keys)) rfl)
      (pss_cons (ps_fld (pv 0) (pe_lst pa_nil) rfl)
      (pss_cons (ps_fld (pv 0) pe_int rfl)
      (pss_one (ps_fld (pv 0) (pe_lst pa_nil) rfl))))), ?_⟩
    refine ⟨_, rfl, p, cC, dx, _, rfl, hp, kl.C, kl.c1, (by show 0 < 1000; decide), ?_⟩
    have s1 : SameBut p H (upd H p (.ins cC dx (putF "version" (.int 0) []))) := (SameBut.refl p H).wr
    refine ⟨(by show 1 ≤ sizeLine; decide), fun a0 h0 => ?_⟩
    refine ⟨a0, 16, _, rfl, rfl, upd_same, by decide, by decide, (by show 1 * 16 ≤ sizeLine; decide), fun g hg => ?_⟩
    have n0 : a0 ≠ p := fun z => by rw [z, upd_same] at h0; cases h0
    have hgp : g ≠ p := fun z => by rw [z, upd_ne n0.symm, upd_same] at hg; cases hg
    have s2 := (s1.new (o := .lst [V.int 0]) h0).new (o := .lst (List.replicate (16 : Int).toNat [V.int 0]).flatten) hg
    rw [zeros_eq] at s2 ⊢
    have p2 : upd (upd (upd H p (.ins cC dx (putF "version" (.int 0) []))) a0 (.lst [V.int 0])) g (.lst (nv Kex8.emptyConfig)) p = some (.ins cC dx (putF "version" (.int 0) [])) := by rw [upd_ne hgp.symm, upd_ne n0.symm, upd_same]
    have g2 : upd (upd (upd H p (.ins cC dx (putF "version" (.int 0) []))) a0 (.lst [V.int 0])) g (.lst (nv Kex8.emptyConfig)) g = some (.lst (nv Kex8.emptyConfig)) := upd_same
    have fg : H g = none := by
      cases e : H g with
      | none => rfl
      | some o =>
        have := (s1.new (o := .lst [V.int 0]) h0) g o e hgp
        rw [hg] at this
        cases this
    generalize upd (upd (upd H p (.ins cC dx (putF "version" (.int 0) []))) a0 (.lst [V.int 0])) g (.lst (nv Kex8.emptyConfig)) = H2 at s2 p2 g2 ⊢
    refine ⟨_, rfl, p, cC, dx, _, rfl, p2, kl.C, kl.c2, (by show 1 < 1000; decide), ?_⟩
    refine ⟨Nat.zero_le _, fun e he => ?_⟩
    have hep : e ≠ p := fun z => by rw [z, upd_same] at he; cases he
    have heg : e ≠ g := fun z => by rw [z, upd_ne hgp, g2] at he; cases he
    have fe : H e = none := by
      cases q : H e with
      | none => rfl
      | some o =>
        have := s2.wr (o := .ins cC dx (putF "config" (.ref g) (putF "version" (.int 0) []))) e o q hep
        rw [he] at this
        cases this
    refine ⟨_, rfl, p, cC, dx, _, rfl, (by rw [upd_ne hep.symm, upd_same]), kl.C, kl.c3, (by show 2 < 1000; decide), ?_⟩
    refine ⟨_, rfl, p, cC, dx, _, rfl, upd_same, kl.C, kl.c4, (by show 3 < 1000; decide), ?_⟩
    refine ⟨Nat.zero_le _, fun q hq => ?_⟩
    have hqp : q ≠ p := fun z => by rw [z, upd_same] at hq; cases hq
    have hqe : q ≠ e := fun z => by rw [z, upd_ne hep, upd_ne hep, upd_same] at hq; cases hq
    have hqg : q ≠ g := fun z => by rw [z, upd_ne hgp, upd_ne hgp, upd_ne heg.symm, upd_ne hgp, g2] at hq; cases hq
    have s5 := (((s2.wr (o := .ins cC dx (putF "config" (.ref g) (putF "version" (.int 0) [])))).new (o := .lst []) he).wr (o := .ins cC dx (putF "exposures" (.ref e) (putF "config" (.ref g) (putF "version" (.int 0) []))))).wr (o := .ins cC dx (putF "acknowledged" (.int 0) (putF "exposures" (.ref e) (putF "config" (.ref g) (putF "version" (.int 0) [])))))
    have fq : H q = none := by
      cases z : H q with
      | none => rfl
      | some o =>
        have := s5 q o z hqp
        rw [hq] at this
        cases this
    refine ⟨_, rfl, p, cC, dx, _, rfl, (by rw [upd_ne hqp.symm, upd_same]), kl.C, kl.c5, (by show 4 < 1000; decide), ?_⟩
    refine k _ g e q ((s5.new hq).wr) fg fe fq heg.symm hqg.symm hqe.symm ?_ ?_ ?_ ?_
    · rw [upd_same]
      exact congrArg (fun z => some (HO.ins cC dx z)) fC_new
    · show upd _ p _ g = _
      rw [upd_ne hgp, upd_ne hqg.symm, upd_ne hgp, upd_ne hgp, upd_ne heg.symm, upd_ne hgp]
      exact g2
    · show upd _ p _ e = _
      rw [upd_ne hep, upd_ne hqe.symm, upd_ne hep, upd_ne hep, upd_same]
      rfl
    · show upd _ p _ q = _
      rw [upd_ne hqp, upd_same]
      rfl

def spMi (cM : Addr) : Sp := fun vs H Q _ => ∃ (p dx : Addr) (form client number : Nat) (c : Addr), vs = [.ref p, .int (form : Int), .int (client : Int), .int (number : Int), .ref c] ∧ H p = some (.ins cM dx []) ∧
  ∀ H' : Hp, SameBut p H H' → H' p = some (.ins cM dx (fM form client number c)) → Q .non H'
theorem ok_Message (G : Gi K mg "Message" "Message.__init__" cM s_Message_init ["self", "form", "client", "number", "content"]) (kl : Kl K cC cM cP) : Mc P w K mg base 1 "Message" cM ["self", "form", "client", "number", "content"] (spMi cM) := by
  refine mc_of G sc_Message_init (fun vs H Q E h => ?_) (fun f cdv A outer s H vs Q E hr h => ?_)
  · obtain ⟨p, dx, a, b, c, d, rfl, _⟩ := h
    rfl
  · obtain ⟨p, dx, form, client, number, c, rfl, hp, k⟩ := h
    refine ⟨_, pss_cons (ps_fld (pv 0) (pv 1) rfl) (pss_cons (ps_fld (pv 0) (pv 2) rfl) (pss_cons (ps_fld (pv 0) (pv 3) rfl) (pss_one (ps_fld (pv 0) (pv 4) rfl)))), ?_⟩
    refine ⟨_, rfl, _, rfl, p, cM, dx, _, rfl, hp, kl.M, kl.m1, (by show 0 < 1000; decide), ?_⟩
    refine ⟨_, rfl, _, rfl, p, cM, dx, _, rfl, upd_same, kl.M, kl.m2, (by show 1 < 1000; decide), ?_⟩
    refine ⟨_, rfl, _, rfl, p, cM, dx, _, rfl, upd_same, kl.M, kl.m3, (by show 2 < 1000; decide), ?_⟩
    refine ⟨_, rfl, _, rfl, p, cM, dx, _, rfl, upd_same, kl.M, kl.m4, (by show 3 < 1000; decide), ?_⟩
    refine k _ ((((SameBut.refl p H).wr.wr).wr).wr) ?_
    rw [upd_same]
    exact congrArg (fun z => some (HO.ins cM dx z)) fM_new
end
end Cs

/-! Platform's init. -/
namespace Cs
open PySem PySem.Spec PyProof.Rows L2
open PySem.W (Codec)

/-! ### roles given out one by one -/
def rput (rho : Addr → Option Role) (a : Addr) (r : Role) : Addr → Option Role := fun b => if b = a then some r else rho b
theorem rput_same {rho : Addr → Option Role} {a : Addr} {r : Role} : rput rho a r a = some r := if_pos rfl
theorem rput_ne {rho : Addr → Option Role} {a b : Addr} {r : Role} (h : b ≠ a) : rput rho a r b = rho b := if_neg h
/-- only what stands has a role; what stood at the start has none but fo -/
structure Rk (fo : Addr) (H0 H : Hp) (rho : Addr → Option Role) : Prop where
  own : ∀ b r, rho b = some r → ∃ o, H b = some o
  old : ∀ b o, H0 b = some o → b ≠ fo → rho b = none
  loc : rho fo = some .loc
theorem Rk.none {fo : Addr} {H0 H : Hp} {rho : Addr → Option Role} (h : Rk fo H0 H rho) {b : Addr} (e : H b = Option.none) : rho b = Option.none := by
  cases q : rho b with
  | none => rfl
  | some r =>
    obtain ⟨o, z⟩ := h.own b r q
    rw [e] at z
    cases z
/-- a role stays when a new thing gets one -/
theorem Rk.keep {fo : Addr} {H0 H : Hp} {rho : Addr → Option Role} (h : Rk fo H0 H rho) {a b : Addr} {r r' : Role} (n : H a = Option.none) (e : rho b = some r) : rput rho a r' b = some r := by
  rw [rput_ne]
  · exact e
  · rintro rfl
    rw [h.none n] at e
    cases e
theorem Rk.keep0 {fo : Addr} {H0 H : Hp} {rho : Addr → Option Role} {a b : Addr} {r' : Role} {o : HO} (n : H a = Option.none) (t : H b = some o) (e : rho b = Option.none) : rput rho a r' b = Option.none := by
  rw [rput_ne (ne_of_none t n)]
  exact e
theorem Rk.heap {fo : Addr} {H0 H H' : Hp} {rho : Addr → Option Role} (h : Rk fo H0 H rho) (t : ∀ b o, H b = some o → ∃ u, H' b = some u) : Rk fo H0 H' rho := ⟨fun b r e => by
  obtain ⟨o, q⟩ := h.own b r e
  exact t b o q, h.old, h.loc⟩
theorem Rk.put {fo : Addr} {H0 H H' : Hp} {rho : Addr → Option Role} (h : Rk fo H0 H rho) {a : Addr} {r : Role} (n : H a = Option.none) (n0 : H0 a = Option.none) (t : ∀ b o, H b = some o → ∃ u, H' b = some u) (ta : ∃ u, H' a = some u) : Rk fo H0 H' (rput rho a r) := by
  refine ⟨fun b r' e => ?_, fun b o e hb => ?_, h.keep n h.loc⟩
  · by_cases z : b = a
    · rw [z]
      exact ta
    · rw [rput_ne z] at e
      obtain ⟨o, q⟩ := h.own b r' e
      exact t b o q
  · rw [rput_ne (ne_of_none e n0)]
    exact h.old b o e hb
theorem SameBut.there {p : Addr} {H H' : Hp} (s : SameBut p H H') (hp : ∃ u, H' p = some u) : ∀ b o, H b = some o → ∃ u, H' b = some u := fun b o e => by
  by_cases z : b = p
  · rw [z]
    exact hp
  · exact ⟨o, s b o e z⟩
/-- what is untracked behind was untracked before -/
theorem SameBut.free {p a : Addr} {H H' : Hp} (s : SameBut p H H') (n : a ≠ p) (e : H' a = none) : H a = none := by
  cases q : H a with
  | none => rfl
  | some o =>
    have := s a o q n
    rw [e] at this
    cases this
/-- the clients made so far -/
structure Made (cC : Addr) (H : Hp) (rho : Addr → Option Role) (i : Nat) (cs es ks : Nat → Addr) : Prop where
  rcs : ∀ j, j < i → rho (cs j) = some (.cl j)
  res : ∀ j, j < i → rho (es j) = some (.ex j)
  rks : ∀ j, j < i → rho (ks j) = some (.ct j)
  ins : ∀ j, j < i → ∃ dx g, H (cs j) = some (.ins cC dx (fC 0 g (es j) 0 (ks j))) ∧ rho g = none ∧ LN H g Kex8.emptyConfig
  ex : ∀ j, j < i → LN H (es j) []
  ct : ∀ j, j < i → LN H (ks j) []
def fset (f : Nat → Addr) (i : Nat) (a : Addr) : Nat → Addr := fun j => if j = i then a else f j
theorem fset_same {f : Nat → Addr} {i : Nat} {a : Addr} : fset f i a i = a := if_pos rfl
theorem fset_ne {f : Nat → Addr} {i j : Nat} {a : Addr} (h : j ≠ i) : fset f i a j = f j := if_neg h
theorem Made.heap {cC p : Addr} {H H' : Hp} {rho : Addr → Option Role} {i : Nat} {cs es ks : Nat → Addr} (m : Made cC H rho i cs es ks) (s : SameBut p H H') (hp : ∀ b u, H b = some u → b = p → (∀ xs, u ≠ .lst xs) ∧ ∀ dx fs, u ≠ .ins cC dx fs) : Made cC H' rho i cs es ks := by
  have nl : ∀ {b : Addr} {xs : List V}, H b = some (.lst xs) → H' b = some (.lst xs) := fun {b xs} e => s _ _ e fun z => (hp _ _ e z).1 xs rfl
  refine ⟨m.rcs, m.res, m.rks, fun j hj => ?_, fun j hj => nl (m.ex j hj), fun j hj => nl (m.ct j hj)⟩
  obtain ⟨dx, g, h1, h2, h3⟩ := m.ins j hj
  exact ⟨dx, g, s _ _ h1 fun z => (hp _ _ h1 z).2 dx _ rfl, h2, nl h3⟩
theorem Made.same {cC : Addr} {H H' : Hp} {rho : Addr → Option Role} {i : Nat} {cs es ks : Nat → Addr} (m : Made cC H rho i cs es ks) (s : Same H H') : Made cC H' rho i cs es ks := by
  refine ⟨m.rcs, m.res, m.rks, fun j hj => ?_, fun j hj => s _ _ (m.ex j hj), fun j hj => s _ _ (m.ct j hj)⟩
  obtain ⟨dx, g, h1, h2, h3⟩ := m.ins j hj
  exact ⟨dx, g, s _ _ h1, h2, s _ _ h3⟩
theorem Made.roles {cC : Addr} {H : Hp} {rho rho' : Addr → Option Role} {i : Nat} {cs es ks : Nat → Addr} (m : Made cC H rho i cs es ks) (hk : ∀ b r, rho b = some r → rho' b = some r) (h0 : ∀ b o, H b = some o → rho b = none → rho' b = none) : Made cC H rho' i cs es ks := by
  refine ⟨fun j hj => hk _ _ (m.rcs j hj), fun j hj => hk _ _ (m.res j hj), fun j hj => hk _ _ (m.rks j hj), fun j hj => ?_, m.ex, m.ct⟩
  obtain ⟨dx, g, h1, h2, h3⟩ := m.ins j hj
  exact ⟨dx, g, h1, h0 _ _ h3 h2, h3⟩
/-- three new things -/
theorem Rk.put3 {fo : Addr} {H0 H H' : Hp} {rho : Addr → Option Role} (h : Rk fo H0 H rho) {x e q : Addr} {r1 r2 r3 : Role} (hx : H x = Option.none) (he : H e = Option.none) (hq : H q = Option.none) (hx0 : H0 x = Option.none) (he0 : H0 e = Option.none) (hq0 : H0 q = Option.none)
    (t : ∀ b o, H b = some o → ∃ u, H' b = some u) (tx : ∃ u, H' x = some u) (te : ∃ u, H' e = some u) (tq : ∃ u, H' q = some u) : Rk fo H0 H' (rput (rput (rput rho x r1) e r2) q r3) ∧
    (∀ b r, rho b = some r → rput (rput (rput rho x r1) e r2) q r3 b = some r) ∧ (∀ b o, H b = some o → rho b = Option.none → rput (rput (rput rho x r1) e r2) q r3 b = Option.none) := by
  have kp : ∀ b r, rho b = some r → rput (rput (rput rho x r1) e r2) q r3 b = some r := fun b r z => by
    obtain ⟨o, w⟩ := h.own b r z
    rw [rput_ne (ne_of_none w hq), rput_ne (ne_of_none w he), rput_ne (ne_of_none w hx)]
    exact z
  refine ⟨⟨fun b r z => ?_, fun b o z hb => ?_, kp _ _ h.loc⟩, kp, fun b o w z => ?_⟩
  · by_cases z1 : b = q
    · rw [z1]
      exact tq
    · rw [rput_ne z1] at z
      by_cases z2 : b = e
      · rw [z2]
        exact te
      · rw [rput_ne z2] at z
        by_cases z3 : b = x
        · rw [z3]
          exact tx
        · rw [rput_ne z3] at z
          obtain ⟨o, w⟩ := h.own b r z
          exact t b o w
  · rw [rput_ne (ne_of_none z hq0), rput_ne (ne_of_none z he0), rput_ne (ne_of_none z hx0)]
    exact h.old b o z hb
  · rw [rput_ne (ne_of_none w hq), rput_ne (ne_of_none w he), rput_ne (ne_of_none w hx)]
    exact z
theorem Made.more {cC : Addr} {H : Hp} {rho : Addr → Option Role} {i : Nat} {cs es ks : Nat → Addr} (m : Made cC H rho i cs es ks) {x e q g dx : Addr} (hx : rho x = some (.cl i)) (he : rho e = some (.ex i)) (hq : rho q = some (.ct i))
    (h1 : H x = some (.ins cC dx (fC 0 g e 0 q))) (hg : rho g = none) (lg : LN H g Kex8.emptyConfig) (le : LN H e []) (lq : LN H q []) : Made cC H rho (i + 1) (fset cs i x) (fset es i e) (fset ks i q) := by
  have cut : ∀ {j : Nat}, j < i + 1 → j = i ∨ (j ≠ i ∧ j < i) := fun {j} h => by omega
  refine ⟨fun j hj => ?_, fun j hj => ?_, fun j hj => ?_, fun j hj => ?_, fun j hj => ?_, fun j hj => ?_⟩
  all_goals
    rcases cut hj with rfl | ⟨n, hj⟩
  · rw [fset_same]; exact hx
  · rw [fset_ne n]; exact m.rcs j hj
  · rw [fset_same]; exact he
  · rw [fset_ne n]; exact m.res j hj
  · rw [fset_same]; exact hq
  · rw [fset_ne n]; exact m.rks j hj
  · rw [fset_same, fset_same, fset_same]; exact ⟨dx, g, h1, hg, lg⟩
  · rw [fset_ne n, fset_ne n, fset_ne n]; exact m.ins j hj
  · rw [fset_same]; exact le
  · rw [fset_ne n]; exact m.ex j hj
  · rw [fset_same]; exact lq
  · rw [fset_ne n]; exact m.ct j hj
section
variable {P : Program} {w : World} {K : PySem.W.Frag} {mg : Str → Option Value} {base : Heap} {cC cM cP : Addr}

def spPi (cC cM cP : Addr) : Sp := fun vs H Q _ => ∃ (p dx : Addr) (n : Nat) (fo : Addr) (of : HO), vs = [.ref p, .int (n : Int)] ∧ H p = some (.ins cP dx []) ∧ n ≤ 4 ∧ H fo = some of ∧ fo ≠ p ∧
  ∀ (H' : Hp) (L : Lay), L.p = p → SameBut p H H' → Plat cC cM cP L H' (fresh n) → L.rho fo = some .loc → (∀ b o, H b = some o → b ≠ fo → L.rho b = none) → Q .non H'
structure TxPi (mg : Str → Option Value) : Prop where
  keys : ∃ t, mg "KEYS" = some (.int 16 t)
  range : mg "range" = none
theorem ok_Platform (G : Gi K mg "Platform" "Platform.__init__" cP s_Platform_init ["self", "many"]) (T : TxPi mg) (kl : Kl K cC cM cP) (ne : cC ≠ cP) (mc : Mc P w K mg base 1 "Client" cC ["self"] (spCi cC)) : Mc P w K mg base 3 "Platform" cP ["self", "many"] (spPi cC cM cP) := by
  refine mc_of G sc_Platform_init (fun vs H Q E h => ?_) (fun f cdv A outer s H vs Q E hr h => ?_)
  · obtain ⟨p, dx, n, fo, of, rfl, _⟩ := h
    rfl
  · obtain ⟨p, dx, n, fo, of, rfl, hp, hn, hfo, nfo, k⟩ := h
    have nd := sc_Platform_init.nd
    refine ⟨_, pss_cons (ps_fld (pv 0) (pe_lst (pa_cons (pe_op op_rep (pe_lst (pa_cons pe_int pa_nil)) (pe_k rfl T.keys)) pa_nil)) rfl)
      (pss_cons (ps_fld (pv 0) (pe_op op_rep (pe_lst (pa_cons pe_int pa_nil)) (pe_k rfl T.keys)) rfl)
      (pss_cons (ps_fld (pv 0) (pe_lc (own := [("number", 2)]) (g := gName 2) rfl nd (pi_range1 rfl T.range (pa_cons (pv 1) pa_nil)) (blkOk_by (own := [("number", 2)]) (N := ["self", "many", "number"]) (sc := defScope s_Platform_init) (by decide +kernel))
          (fun _ _ _ _ _ => pg_name (i := 2) nd rfl (Or.inl rfl)) (fun _ _ _ _ _ => pts_nil) (fun _ _ _ _ _ => pe_mc0 mc hr (by decide) rfl)) rfl)
      (pss_one (ps_fld (pv 0) (pe_lst pa_nil) rfl)))), ?_⟩
    -- versions
    refine ⟨(by show 1 ≤ sizeLine; decide), fun a0 h0 => ?_⟩
    refine ⟨a0, 16, _, rfl, rfl, upd_same, by decide, by decide, (by show 1 * 16 ≤ sizeLine; decide), fun r0 hr0 => ?_⟩
    refine ⟨(by show 1 ≤ sizeLine; decide), fun ver hver => ?_⟩
    rw [zeros_eq] at hver ⊢
    have sA : Same H (upd (upd H a0 (.lst [V.int 0])) r0 (.lst (nv Kex8.emptyConfig))) := (same_new h0).new hr0
    have lr0 : LN (upd (upd H a0 (.lst [V.int 0])) r0 (.lst (nv Kex8.emptyConfig))) r0 Kex8.emptyConfig := upd_same
    have nr0 : H r0 = none := (same_new h0).free hr0
    generalize upd (upd H a0 (.lst [V.int 0])) r0 (.lst (nv Kex8.emptyConfig)) = HA at hver sA lr0 ⊢
    have nver : H ver = none := sA.free hver
    have sB : Same H (upd HA ver (.lst [V.ref r0])) := sA.new hver
    have lB : LN (upd HA ver (.lst [V.ref r0])) r0 Kex8.emptyConfig := (same_new hver) _ _ lr0
    have vB : upd HA ver (.lst [V.ref r0]) ver = some (.lst [V.ref r0]) := upd_same
    generalize upd HA ver (.lst [V.ref r0]) = HB at sB lB vB ⊢
    have pr0 : r0 ≠ p := (ne_of_none hp nr0).symm
    have pver : ver ≠ p := (ne_of_none hp nver).symm
    have vr0 : r0 ≠ ver := ne_of_none lr0 hver
    refine ⟨_, rfl, p, cP, dx, _, rfl, sB _ _ hp, kl.P, kl.p1, (by show 0 < 1000; decide), ?_⟩
    have sC : SameBut p H (upd HB p (.ins cP dx (putF "versions" (.ref ver) []))) := ((SameBut.refl p H).same sB).wr
    have lC : LN (upd HB p (.ins cP dx (putF "versions" (.ref ver) []))) r0 Kex8.emptyConfig := by
      show upd _ p _ r0 = _
      rw [upd_ne pr0]
      exact lB
    have vC : upd HB p (.ins cP dx (putF "versions" (.ref ver) [])) ver = some (.lst [V.ref r0]) := by
      rw [upd_ne pver]
      exact vB
    have iC : upd HB p (.ins cP dx (putF "versions" (.ref ver) [])) p = some (.ins cP dx (putF "versions" (.ref ver) [])) := upd_same
    generalize upd HB p (.ins cP dx (putF "versions" (.ref ver) [])) = HC at sC lC vC iC ⊢
    -- staged
    refine ⟨(by show 1 ≤ sizeLine; decide), fun a1 h1 => ?_⟩
    refine ⟨a1, 16, _, rfl, rfl, upd_same, by decide, by decide, (by show 1 * 16 ≤ sizeLine; decide), fun sta hsta => ?_⟩
    rw [zeros_eq]
    have s1 : Same HC (upd HC a1 (.lst [V.int 0])) := same_new h1
    have nstaC : HC sta = none := s1.free hsta
    have psta : sta ≠ p := (ne_of_none iC nstaC).symm
    have nsta : H sta = none := sC.free psta nstaC
    have sD : Same HC (upd (upd HC a1 (.lst [V.int 0])) sta (.lst (nv Kex8.emptyConfig))) := s1.new hsta
    have lD : LN (upd (upd HC a1 (.lst [V.int 0])) sta (.lst (nv Kex8.emptyConfig))) sta Kex8.emptyConfig := upd_same
    generalize upd (upd HC a1 (.lst [V.int 0])) sta (.lst (nv Kex8.emptyConfig)) = HD at sD lD ⊢
    refine ⟨_, rfl, p, cP, dx, _, rfl, sD _ _ iC, kl.P, kl.p2, (by show 1 < 1000; decide), ?_⟩
    have sE : SameBut p H (upd HD p (.ins cP dx (putF "staged" (.ref sta) (putF "versions" (.ref ver) [])))) := (sC.same sD).wr
    have sCE : SameBut p HC (upd HD p (.ins cP dx (putF "staged" (.ref sta) (putF "versions" (.ref ver) [])))) := ((SameBut.refl p HC).same sD).wr
    have tE : LN (upd HD p (.ins cP dx (putF "staged" (.ref sta) (putF "versions" (.ref ver) [])))) sta Kex8.emptyConfig := by
      show upd _ p _ sta = _
      rw [upd_ne psta]
      exact lD
    have iE : upd HD p (.ins cP dx (putF "staged" (.ref sta) (putF "versions" (.ref ver) []))) p = some (.ins cP dx (putF "staged" (.ref sta) (putF "versions" (.ref ver) []))) := upd_same
    generalize upd HD p (.ins cP dx (putF "staged" (.ref sta) (putF "versions" (.ref ver) []))) = HE at sE sCE tE iE ⊢
    have lE : LN HE r0 Kex8.emptyConfig := sCE _ _ lC pr0
    have vE : HE ver = some (.lst [V.ref r0]) := sCE _ _ vC pver
    -- the roles so far
    have nof : ∀ {b : Addr}, H b = none → b ≠ fo := fun {b} e => (ne_of_none hfo e).symm
    have R0 : Rk fo H H (fun b => if b = fo then some .loc else none) := ⟨fun b r e => (by
        by_cases z : b = fo
        · rw [z]
          exact ⟨of, hfo⟩
        · rw [if_neg z] at e
          cases e), fun b o _ z => if_neg z, if_pos rfl⟩
    have R1 : Rk fo H HC (rput (fun b => if b = fo then some .loc else none) ver .ver) := R0.put nver nver (sC.there ⟨_, iC⟩) ⟨_, vC⟩
    have R2 : Rk fo H HE (rput (rput (fun b => if b = fo then some .loc else none) ver .ver) sta .sta) := R1.put nstaC nsta (sCE.there ⟨_, iE⟩) ⟨_, tE⟩
    have q1 : rput (rput (fun b => if b = fo then some .loc else none) ver .ver) sta .sta ver = some .ver := R1.keep nstaC rput_same
    have q2 : rput (rput (fun b => if b = fo then some .loc else none) ver .ver) sta .sta sta = some .sta := rput_same
    have q3 : rput (rput (fun b => if b = fo then some .loc else none) ver .ver) sta .sta r0 = none := by
      rw [rput_ne (ne_of_none lC nstaC), rput_ne vr0, if_neg (nof nr0)]
    generalize rput (rput (fun b => if b = fo then some .loc else none) ver .ver) sta .sta = rho2 at R2 q1 q2 q3
    -- clients
    refine ⟨_, rfl, n, rfl, by omega, by omega, fun D hD => lc_range (lo := 0) (n := n) (fun i H' => ∃ (rho : Addr → Option Role) (cs es ks : Nat → Addr), Same HE H' ∧ Rk fo H H' rho ∧ (∀ b r, rho2 b = some r → rho b = some r) ∧ (∀ b o, HE b = some o → rho2 b = none → rho b = none) ∧
        rho D = none ∧ H' D = some (.lst ((List.range i).map fun j => V.ref (cs j))) ∧ Made cC H' rho i cs es ks)
      ⟨rho2, fun _ => 0, fun _ => 0, fun _ => 0, same_new hD, R2.heap there_upd, fun _ _ z => z, fun _ _ _ z => z, R2.none hD, upd_same, ⟨fun j z => absurd z (by omega), fun j z => absurd z (by omega), fun j z => absurd z (by omega), fun j z => absurd z (by omega), fun j z => absurd z (by omega), fun j z => absurd z (by omega)⟩⟩ ?_ ?_⟩
    · rintro i H' hi ⟨rho, cs, es, ks, s1', R, kp, kp0, rD, hD', M⟩
      refine ⟨rfl, ?_⟩
      intro x dx' hx hdx ndx
      refine ⟨x, dx', rfl, upd_same, fun H2 g e q s2 hg he hq n1 n2 n3 hx2 lg le lq => ⟨rfl, ?_⟩⟩
      have sm : Same H' H2 := Same.made hx hdx s2
      have un : ∀ {b : Addr}, upd (upd H' dx' (.own x)) x (.ins cC dx' []) b = none → H' b = none ∧ b ≠ x := fun {b} z => by
        by_cases e1 : b = x
        · rw [e1, upd_same] at z
          cases z
        · rw [upd_ne e1] at z
          by_cases e2 : b = dx'
          · rw [e2, upd_same] at z
            cases z
          · rw [upd_ne e2] at z
            exact ⟨z, e1⟩
      obtain ⟨he', hex⟩ := un he
      obtain ⟨hq', hqx⟩ := un hq
      obtain ⟨hg', hgx⟩ := un hg
      have old0 : ∀ {b : Addr}, H' b = none → H b = none := fun {b} z => by
        have zE := s1'.free z
        exact sE.free (ne_of_none iE zE).symm zE
      have hD2 := sm _ _ hD'
      have xD : x ≠ D := (ne_of_none hD' hx).symm
      have eD : e ≠ D := (ne_of_none hD' he').symm
      have qD : q ≠ D := (ne_of_none hD' hq').symm
      have gD : g ≠ D := (ne_of_none hD' hg').symm
      refine ⟨_, hD2, ?_, ?_⟩
      · rw [List.length_map, List.length_range]
        exact big_line' (by omega)
      · obtain ⟨R3, k3, k0⟩ := R.put3 (r1 := .cl i) (r2 := .ex i) (r3 := .ct i) (H' := upd H2 D (.lst (((List.range i).map fun j => V.ref (cs j)) ++ [V.ref x]))) hx he' hq' (old0 hx) (old0 he') (old0 hq') (fun b o z => there_upd _ _ (sm _ _ z)) (there_upd _ _ hx2) (there_upd _ _ le) (there_upd _ _ lq)
        have ln : ∀ {b : Addr} {l : List Nat}, b ≠ D → LN H2 b l → LN (upd H2 D (.lst (((List.range i).map fun j => V.ref (cs j)) ++ [V.ref x]))) b l := fun {b l} z w => by
          show upd _ D _ b = _
          rw [upd_ne z]
          exact w
        have M1 : Made cC H2 (rput (rput (rput rho x (.cl i)) e (.ex i)) q (.ct i)) i cs es ks := (M.roles k3 k0).same sm
        have M2 : Made cC H2 (rput (rput (rput rho x (.cl i)) e (.ex i)) q (.ct i)) (i + 1) (fset cs i x) (fset es i e) (fset ks i q) := by
          refine M1.more (x := x) (e := e) (q := q) (g := g) (dx := dx') ?_ ?_ rput_same hx2 ?_ lg le lq
          · rw [rput_ne hqx.symm, rput_ne hex.symm, rput_same]
          · rw [rput_ne n3, rput_same]
          · rw [rput_ne n2, rput_ne n1, rput_ne hgx]
            exact R.none hg'
        have rD3 : rput (rput (rput rho x (.cl i)) e (.ex i)) q (.ct i) D = none := k0 _ _ hD' rD
        refine ⟨_, fset cs i x, fset es i e, fset ks i q, (s1'.trans sm).wr hD, R3, fun b r z => k3 _ _ (kp b r z), fun b o z w => k0 _ _ (s1' _ _ z) (kp0 _ _ z w), rD3, ?_, ?_⟩
        · rw [upd_same, List.range_succ, List.map_append]
          have e1 : ((List.range i).map fun j => V.ref (fset cs i x j)) = (List.range i).map fun j => V.ref (cs j) := List.map_congr_left fun j hj => by rw [fset_ne (Nat.ne_of_lt (List.mem_range.mp hj))]
          have e2 : ([i].map fun j => V.ref (fset cs i x j)) = [V.ref x] := by
            show [V.ref (fset cs i x i)] = _
            rw [fset_same]
          rw [e1, e2]
        · have nd2 : ∀ {b : Addr} {o : HO}, H2 b = some o → b ≠ D → upd H2 D (.lst (((List.range i).map fun j => V.ref (cs j)) ++ [V.ref x])) b = some o := fun {b o} z w => by
            rw [upd_ne w]
            exact z
          have rb : ∀ {b : Addr} {r : Role}, rput (rput (rput rho x (.cl i)) e (.ex i)) q (.ct i) b = some r → b ≠ D := fun {b r} z w => by
            rw [w, rD3] at z
            cases z
          refine ⟨M2.rcs, M2.res, M2.rks, fun j hj => ?_, fun j hj => nd2 (M2.ex j hj) (rb (M2.res j hj)), fun j hj => nd2 (M2.ct j hj) (rb (M2.rks j hj))⟩
          obtain ⟨d, g', m1, m2, m3⟩ := M2.ins j hj
          refine ⟨d, g', nd2 m1 (rb (M2.rcs j hj)), m2, nd2 m3 ?_⟩
          rintro rfl
          have m4 := HO.lst.inj (Option.some.inj (hD2.symm.trans m3))
          have := congrArg List.length m4
          rw [List.length_map, List.length_range, nv_len] at this
          have : Kex8.emptyConfig.length = 16 := rfl
          omega
    · rintro H' ⟨rho, cs, es, ks, s1', R, kp, kp0, rD, hD', M⟩
      refine ⟨_, rfl, p, cP, dx, _, rfl, s1' _ _ iE, kl.P, kl.p3, (by show 2 < 1000; decide), ?_⟩
      have pD : D ≠ p := (ne_of_none iE hD).symm
      have sF : SameBut p H (upd H' p (.ins cP dx (putF "clients" (.ref D) (putF "staged" (.ref sta) (putF "versions" (.ref ver) []))))) := (sE.same s1').wr
      have sHF : SameBut p H' (upd H' p (.ins cP dx (putF "clients" (.ref D) (putF "staged" (.ref sta) (putF "versions" (.ref ver) []))))) := (SameBut.refl p H').wr
      have iF : upd H' p (.ins cP dx (putF "clients" (.ref D) (putF "staged" (.ref sta) (putF "versions" (.ref ver) [])))) p = some (.ins cP dx (putF "clients" (.ref D) (putF "staged" (.ref sta) (putF "versions" (.ref ver) [])))) := upd_same
      generalize upd H' p (.ins cP dx (putF "clients" (.ref D) (putF "staged" (.ref sta) (putF "versions" (.ref ver) [])))) = HF at sF sHF iF ⊢
      refine ⟨Nat.zero_le _, fun chn hchn => ?_⟩
      have pchn : chn ≠ p := (ne_of_none iF hchn).symm
      have nchn' : H' chn = none := sHF.free pchn hchn
      have nchn : H chn = none := sF.free pchn hchn
      refine ⟨_, rfl, p, cP, dx, _, rfl, (by rw [upd_ne pchn.symm]; exact iF), kl.P, kl.p4, (by show 3 < 1000; decide), ?_⟩
      have sI : SameBut p H (upd (upd HF chn (.lst [])) p (.ins cP dx (putF "channel" (.ref chn) (putF "clients" (.ref D) (putF "staged" (.ref sta) (putF "versions" (.ref ver) [])))))) := (sF.new hchn).wr
      have sHI : SameBut p H' (upd (upd HF chn (.lst [])) p (.ins cP dx (putF "channel" (.ref chn) (putF "clients" (.ref D) (putF "staged" (.ref sta) (putF "versions" (.ref ver) [])))))) := (sHF.new hchn).wr
      have iI : upd (upd HF chn (.lst [])) p (.ins cP dx (putF "channel" (.ref chn) (putF "clients" (.ref D) (putF "staged" (.ref sta) (putF "versions" (.ref ver) []))))) p = some (.ins cP dx (fP ver sta D chn)) := by
        rw [upd_same]
        exact congrArg (fun z => some (HO.ins cP dx z)) fP_new
      have cI : upd (upd HF chn (.lst [])) p (.ins cP dx (putF "channel" (.ref chn) (putF "clients" (.ref D) (putF "staged" (.ref sta) (putF "versions" (.ref ver) []))))) chn = some (.lst []) := by
        rw [upd_ne pchn, upd_same]
      generalize upd (upd HF chn (.lst [])) p (.ins cP dx (putF "channel" (.ref chn) (putF "clients" (.ref D) (putF "staged" (.ref sta) (putF "versions" (.ref ver) []))))) = HI at sI sHI iI cI ⊢
      have RI : Rk fo H HI (rput rho chn .chn) := R.put nchn' nchn (sHI.there ⟨_, iI⟩) ⟨_, cI⟩
      have lE' := s1' _ _ lE
      have MI : Made cC HI (rput rho chn .chn) n cs es ks := (M.roles (fun b r z => R.keep nchn' z) (fun b o z w => Rk.keep0 (fo := fo) (H0 := H) nchn' z w)).heap sHI (fun b u e z => by
        rw [z, s1' _ _ iE] at e
        have e2 := (Option.some.inj e).symm
        rw [e2]
        exact ⟨fun xs q => (nomatch q), fun d fs q => ne (HO.ins.inj q).1.symm⟩)
      have dI : HI D = some (.lst ((List.range n).map fun j => V.ref (cs j))) := sHI _ _ hD' pD
      refine k HI ⟨p, dx, ver, sta, D, chn, n, cs, es, ks, rput rho chn .chn⟩ rfl sI ⟨⟨RI.old _ _ hp nfo.symm, R.keep nchn' (kp _ _ q1), R.keep nchn' (kp _ _ q2), Rk.keep0 (fo := fo) (H0 := H) nchn' hD' rD, rput_same, MI.rcs, MI.res, MI.rks⟩,
        RI.own, iI, dI, List.length_replicate .., List.length_replicate .., ⟨[r0], sHI _ _ (s1' _ _ vE) pver, rfl, ?_⟩, sHI _ _ (s1' _ _ tE) psta, ⟨[], cI, rfl, fun i a x ha _ => by cases ha⟩, ?_⟩ RI.loc RI.old
      · intro i a c ha hc
        cases i with
        | zero =>
          have e1 : r0 = a := Option.some.inj ha
          have e2 : Kex8.emptyConfig = c := Option.some.inj hc
          rw [← e1, ← e2]
          exact ⟨sHI _ _ lE' pr0, Rk.keep0 (fo := fo) (H0 := H) nchn' lE' (kp0 _ _ lE q3)⟩
        | succ i => cases ha
      · intro i c q hc hq
        have hi : i < n := by
          have := (List.getElem?_eq_some_iff.mp hc).1
          rwa [show (fresh n).clients.length = n from List.length_replicate ..] at this
        have ec : c = ⟨0, Kex8.emptyConfig, [], 0⟩ := (List.mem_replicate.mp (List.mem_of_getElem? hc)).2
        have eq : q = [] := (List.mem_replicate.mp (List.mem_of_getElem? hq)).2
        subst ec eq
        obtain ⟨d, g, m1, m2, m3⟩ := MI.ins i hi
        exact ⟨⟨d, g, m1, m2, m3⟩, MI.ex i hi, MI.ct i hi⟩
end
end Cs

/-! The state's functions; messages that are received. -/
namespace Cs
open PySem PySem.Spec PyProof.Rows L2
open PySem.W (Codec)
/-- the module's whole numbers; the built-ins that stand -/
structure Tx (mg : Str → Option Value) : Prop where
  len : mg "len" = none
  enumerate : mg "enumerate" = none
  range : mg "range" = none
  all : mg "all" = none
  list : mg "list" = none
  KEYS : ∃ t, mg "KEYS" = some (.int 16 t)
  MOST_BYTES : ∃ t, mg "MOST_BYTES" = some (.int 5 t)
  LEAST_COPY : ∃ t, mg "LEAST_COPY" = some (.int 3 t)
  MOST_MESSAGES : ∃ t, mg "MOST_MESSAGES" = some (.int 30 t)
  REQUEST : ∃ t, mg "REQUEST" = some (.int 0 t)
  PATCH : ∃ t, mg "PATCH" = some (.int 1 t)
  WHOLE : ∃ t, mg "WHOLE" = some (.int 2 t)
  BATCH : ∃ t, mg "BATCH" = some (.int 3 t)
  RECEIPT : ∃ t, mg "RECEIPT" = some (.int 4 t)
  NOTHING : ∃ t, mg "NOTHING" = some (.int 0 t)
  SENT : ∃ t, mg "SENT" = some (.int 1 t)
  TAKEN : ∃ t, mg "TAKEN" = some (.int 2 t)
  APPENDED : ∃ t, mg "APPENDED" = some (.int 3 t)
  NEAR : ∃ t, mg "NEAR" = some (.int 3 t)
  MOST_VALUE : ∃ t, mg "MOST_VALUE" = some (.int 1000000 t)
  MOST_VERSIONS : ∃ t, mg "MOST_VERSIONS" = some (.int 20 t)
  MOST_PENDING : ∃ t, mg "MOST_PENDING" = some (.int 12 t)
  MOST_BATCH : ∃ t, mg "MOST_BATCH" = some (.int 5 t)
  MOST_DRAINED : ∃ t, mg "MOST_DRAINED" = some (.int 100 t)
  CREATE : ∃ t, mg "CREATE" = some (.int 0 t)
  MOST_CLIENTS : ∃ t, mg "MOST_CLIENTS" = some (.int 4 t)
section
variable {P : Program} {w : World} {K : PySem.W.Frag} {mg : Str → Option Value} {base : Heap} {cC cM cP : Addr}

def spLat (cC cM cP : Addr) : Sp := fun vs H Q _ => ∃ (L : Lay) (s : Kex8.System), vs = [.ref L.p] ∧ Plat cC cM cP L H s ∧ 1 ≤ s.versions.length ∧ (∀ H' : Hp, Same H H' → Q (.int (Kex8.latest s : Nat)) H')
theorem ok_latest (G : Gf K mg "latest" s_latest ["platform"]) (T : Tx mg) (kl : Kl K cC cM cP) : Ca P w K mg base 1 "latest" ["platform"] (spLat cC cM cP) := by
  refine ca_of G sc_latest (fun vs H Q E h => ?_) (fun f cdv A outer s0 H vs Q E hr h => ?_)
  · obtain ⟨L, s, rfl, _⟩ := h
    rfl
  · obtain ⟨L, s, rfl, hP, h1, k⟩ := h
    obtain ⟨va, hv, lv, _⟩ := hP.ver
    refine ⟨_, pss_one (ps_ret (pe_op op_sub (pe_callB call_len_seq (by rfl) T.len PySem.boot_len (pa_cons (pe_fld (pv 0) rfl) pa_nil)) pe_int)), ?_⟩
    refine ⟨_, rfl, L.p, cP, L.dx, _, _, rfl, hP.inst, kl.P, kl.p1, fP_1, L.ver, _, rfl, .inl (SqL.of hv), _, _, rfl, rfl, ?_⟩
    have e : (((va.map V.ref).length : Nat) : Int) - 1 = ((Kex8.latest s : Nat) : Int) := by
      rw [List.length_map, lv]
      unfold Kex8.latest
      omega
    show Q (V.int ((((va.map V.ref).length : Nat) : Int) - 1)) H
    rw [e]
    exact k H (Same.refl H)

def spVb (cC cM cP : Addr) : Sp := fun vs H Q _ => ∃ (L : Lay) (s : Kex8.System) (N v : Nat), vs = [.ref L.p, .int (v : Int)] ∧ Plat cC cM cP L H s ∧ Good N s ∧ v < s.versions.length ∧ RetL H Q (Kex8.snapshotAt s v)
theorem ok_version_bytes (G : Gf K mg "version_bytes" s_version_bytes ["platform", "version"]) (kl : Kl K cC cM cP) (c1 : Ca P w K mg base 2 "snapshot" ["version", "config"] spSnap) : Ca P w K mg base 3 "version_bytes" ["platform", "version"] (spVb cC cM cP) := by
  refine ca_of G sc_version_bytes (fun vs H Q E h => ?_) (fun f cdv A outer s0 H vs Q E hr h => ?_)
  · obtain ⟨L, s, N, v, rfl, _⟩ := h
    rfl
  · obtain ⟨L, s, N, v, rfl, hP, g, hv, k⟩ := h
    obtain ⟨va, h1, l1, h3⟩ := hP.ver
    obtain ⟨a, ha⟩ : ∃ a, va[v]? = some a := ⟨_, List.getElem?_eq_getElem (by rw [l1]; exact hv)⟩
    obtain ⟨la, _⟩ := h3 v a _ ha (config_get hv)
    have gc := g.vc _ (config_mem hv)
    have := g.v20
    refine ⟨_, pss_one (ps_ret (pe_ca c1 hr (by decide) rfl (pa_cons (pv 1) (pa_cons (pe_ix ix_list (pe_fld (pv 0) rfl) (pv 1) (fun _ _ => rfl)) pa_nil)))), ?_⟩
    exact ⟨_, rfl, _, rfl, L.p, cP, L.dx, _, _, rfl, hP.inst, kl.P, kl.p1, fP_1, _, rfl, L.ver, _, _, _, rfl, rfl, SqL.of h1, at_of (j := v) rfl (ref_get ha), v, a, _, rfl,
      Nat.lt_of_lt_of_le (show v < 20 by omega) (by decide), la, Nat.le_of_eq gc.len, fun x hx => lt_big (gc.lt x hx), k⟩

def spSend (cC cM cP : Addr) : Sp := fun vs H Q _ => ∃ (L : Lay) (s : Kex8.System) (m : Addr) (x : Kex8.Message), vs = [.ref L.p, .ref m] ∧ Plat cC cM cP L H s ∧ MsgAt cM L H m x ∧ s.channel.length ≤ 30 ∧
  ∀ H' : Hp, Plat cC cM cP L H' (Kex8.send s x) → Fr L (· = .chn) H H' → Q .non H'
theorem ok_send (G : Gf K mg "send" s_send ["platform", "message"]) (T : Tx mg) (kl : Kl K cC cM cP) : Ca P w K mg base 1 "send" ["platform", "message"] (spSend cC cM cP) := by
  refine ca_of G sc_send (fun vs H Q E h => ?_) (fun f cdv A outer s0 H vs Q E hr h => ?_)
  · obtain ⟨L, s, m, x, rfl, _⟩ := h
    rfl
  · obtain ⟨L, s, m, x, rfl, hP, hm, h30, k⟩ := h
    obtain ⟨ma, h1, l1, h3⟩ := hP.chn
    refine ⟨_, pss_one (ps_if (pt_cmpR op_lt (pe_callB call_len_seq (by rfl) T.len PySem.boot_len (pa_cons (pe_fld (pv 0) rfl) pa_nil)) (pe_k rfl T.MOST_MESSAGES) (nomark _))
      (pss_one (ps_expr (pe_bm PySem.F.plainAttrs_list PySem.F.slot_list_append PySem.F.type_list_append mt_append (pe_fld (pv 0) rfl) (pa_cons (pv 1) pa_nil)))) pss_nil), ?_⟩
    refine ⟨_, rfl, L.p, cP, L.dx, _, _, rfl, hP.inst, kl.P, kl.p4, fP_4, L.chn, _, rfl, .inl (SqL.of h1), _, _, rfl, rfl, _, rfl, ?_⟩
    rw [List.length_map, l1]
    unfold Kex8.send at k
    have e30 : Kex8.maxChannel = 30 := rfl
    refine itd (fun c => ?_) (fun c => ?_)
    · rw [if_neg (by omega)] at k
      refine ⟨_, rfl, L.p, cP, L.dx, _, _, rfl, hP.inst, kl.P, kl.p4, fP_4, .inl ⟨rfl, _, SqL.of h1⟩, _, rfl, L.chn, _, _, rfl, rfl, h1, (by rw [List.length_map, l1]; exact big_line' (by omega)), ?_⟩
      have fr : Fr L (· = .chn) H (upd H L.chn (.lst (ma.map V.ref ++ [V.ref m]))) := Fr.wr hP.ok.rchn
      exact k _ (hP.on_chn fr (ChnAt.snoc l1 h3 fr upd_same (hm.move fr))) fr
    · rw [if_pos (by omega)] at k
      exact k H hP (Fr.refl L _ H)

def spFull (cC cM cP : Addr) : Sp := fun vs H Q _ => ∃ (L : Lay) (s : Kex8.System), vs = [.ref L.p] ∧ Plat cC cM cP L H s ∧ s.channel.length ≤ 30 ∧ (∀ H' : Hp, Same H H' → Q (.bl (decide (30 ≤ s.channel.length))) H')
theorem ok_is_full (G : Gf K mg "is_full" s_is_full ["platform"]) (T : Tx mg) (kl : Kl K cC cM cP) : Ca P w K mg base 1 "is_full" ["platform"] (spFull cC cM cP) := by
  refine ca_of G sc_is_full (fun vs H Q E h => ?_) (fun f cdv A outer s0 H vs Q E hr h => ?_)
  · obtain ⟨L, s, rfl, _⟩ := h
    rfl
  · obtain ⟨L, s, rfl, hP, h30, k⟩ := h
    obtain ⟨ma, h1, l1, h3⟩ := hP.chn
    refine ⟨_, pss_one (ps_ret (pe_cmpR op_eq (pe_callB call_len_seq (by rfl) T.len PySem.boot_len (pa_cons (pe_fld (pv 0) rfl) pa_nil)) (pe_k rfl T.MOST_MESSAGES) (nomark _))), ?_⟩
    refine ⟨_, rfl, L.p, cP, L.dx, _, _, rfl, hP.inst, kl.P, kl.p4, fP_4, L.chn, _, rfl, .inl (SqL.of h1), rfl, ?_⟩
    have e : decide (V.int (((ma.map V.ref).length : Nat) : Int) = V.int 30) = decide (30 ≤ s.channel.length) := by
      rw [List.length_map, l1]
      by_cases c : 30 ≤ s.channel.length
      · rw [decide_eq_true c]
        exact decide_eq_true (by rw [show (s.channel.length : Int) = 30 by omega])
      · rw [decide_eq_false c]
        exact decide_eq_false fun z => c (by have := int_eq z; omega)
    rw [e]
    exact k H (Same.refl H)

def spPend (cC cM cP : Addr) : Sp := fun vs H Q _ => ∃ (L : Lay) (s : Kex8.System) (i : Nat) (c : Kex8.Client), vs = [.ref (L.cs i)] ∧ Plat cC cM cP L H s ∧ s.clients[i]? = some c ∧ c.acknowledged ≤ c.exposures.length ∧
  (∀ H' : Hp, Same H H' → Q (.int ((Kex8.pending c).length : Nat)) H')
theorem Plat.client {L : Lay} {H : Hp} {s : Kex8.System} (h : Plat cC cM cP L H s) {i : Nat} {c : Kex8.Client} (hc : s.clients[i]? = some c) : ∃ q, s.counted[i]? = some q ∧ q = s.counted.getD i [] ∧ CliAt cC L H i c q := by
  have hi := h.lt hc
  have e := counted_get (s := s) (i := i) (by rw [h.nk]; exact hi)
  exact ⟨_, e, rfl, h.at_ i c _ hc e⟩
theorem ok_pending_count (G : Gf K mg "pending_count" s_pending_count ["client"]) (T : Tx mg) (kl : Kl K cC cM cP) : Ca P w K mg base 1 "pending_count" ["client"] (spPend cC cM cP) := by
  refine ca_of G sc_pending_count (fun vs H Q E h => ?_) (fun f cdv A outer s0 H vs Q E hr h => ?_)
  · obtain ⟨L, s, i, c, rfl, _⟩ := h
    rfl
  · obtain ⟨L, s, i, c, rfl, hP, hc, hack, k⟩ := h
    obtain ⟨q, _, _, ⟨⟨dx, g, hi, _, _⟩, hx, _⟩⟩ := hP.client hc
    refine ⟨_, pss_one (ps_ret (pe_op op_sub (pe_callB call_len_seq (by rfl) T.len PySem.boot_len (pa_cons (pe_fld (pv 0) rfl) pa_nil)) (pe_fld (pv 0) rfl))), ?_⟩
    refine ⟨_, rfl, L.cs i, cC, dx, _, _, rfl, hi, kl.C, kl.c3, fC_3, L.es i, _, rfl, .inl (SqL.of hx), _, rfl, L.cs i, cC, dx, _, _, rfl, hi, kl.C, kl.c4, fC_4, _, _, rfl, rfl, ?_⟩
    have e : (((nv c.exposures).length : Nat) : Int) - (c.acknowledged : Int) = (((Kex8.pending c).length : Nat) : Int) := by
      rw [nv_len]
      unfold Kex8.pending
      rw [List.length_drop]
      omega
    show Q (V.int ((((nv c.exposures).length : Nat) : Int) - (c.acknowledged : Int))) H
    rw [e]
    exact k H (Same.refl H)

/-! ### messages -/
def spRecv (cC cM cP : Addr) (p : Nat → Prop) : Sp := fun vs H Q _ => ∃ (L : Lay) (s : Kex8.System) (N : Nat) (m : Addr) (x : Kex8.Message), vs = [.ref L.p, .ref m] ∧ Plat cC cM cP L H s ∧ Good N s ∧ N ≤ 1000000 ∧ MsgAt cM L H m x ∧ MsgOk s.clients.length x ∧ p x.type ∧
  ∀ H' : Hp, Plat cC cM cP L H' (Kex8.receive s x).1 → Kp L H H' → Q (.int ((Kex8.receive s x).2 : Nat)) H'
/-- a new message -/
theorem MsgAt.made {L : Lay} {H H1 H2 : Hp} {x dx c : Addr} {y : Kex8.Message} (nx : L.rho x = none) (h : H2 x = some (.ins cM dx (fM y.type y.client y.number c))) (hc : LN H1 c y.content) (nc : L.rho c = none) (s : Same H1 H2) : MsgAt cM L H2 x y := ⟨dx, c, h, nx, s _ _ hc, nc⟩
theorem ok_receive_request (G : Gf K mg "receive_request" s_receive_request ["platform", "message"]) (T : Tx mg) (kl : Kl K cC cM cP) (c1 : Ca P w K mg base 1 "latest" ["platform"] (spLat cC cM cP)) (c2 : Ca P w K mg base 3 "version_bytes" ["platform", "version"] (spVb cC cM cP))
    (c3 : Ca P w K mg base 3 "patch_of" ["source", "target"] spPat) (c4 : Ca P w K mg base 1 "send" ["platform", "message"] (spSend cC cM cP)) (mc : Mc P w K mg base 1 "Message" cM ["self", "form", "client", "number", "content"] (spMi cM)) :
    Ca P w K mg base 4 "receive_request" ["platform", "message"] (spRecv cC cM cP (· = 0)) := by
  refine ca_of G sc_receive_request (fun vs H Q E h => ?_) (fun f cdv A outer s0 H vs Q E hr h => ?_)
  · obtain ⟨L, s, N, m, x, rfl, _⟩ := h
    rfl
  · obtain ⟨L, s, N, m, x, rfl, hP, g, hN, hm, mo, ty, k⟩ := h
    have nd := sc_receive_request.nd
    refine ⟨_, pss_cons (ps_set (i := 2) nd rfl (.inl rfl) (pe_ca c1 hr (by decide) rfl (pa_cons (pv 0) pa_nil)))
      (pss_cons (ps_if (pt_cmpR op_ge (pe_fld (pv 1) rfl) (pv 2) (nomark _)) (pss_one (ps_ret (pe_k rfl T.NOTHING))) pss_nil)
      (pss_cons (ps_set (i := 3) nd rfl (.inl rfl) (pe_ca c2 hr (by decide) rfl (pa_cons (pv 0) (pa_cons (pv 2) pa_nil))))
      (pss_cons (ps_if (pt_cmpR op_le (pv 2) (pe_op op_add (pe_fld (pv 1) rfl) (pe_k rfl T.NEAR)) (nomark _))
        (pss_cons (ps_set (i := 4) nd rfl (.inl rfl) (pe_ca c3 hr (by decide) rfl (pa_cons (pe_ca c2 hr (by decide) rfl (pa_cons (pv 0) (pa_cons (pe_fld (pv 1) rfl) pa_nil))) (pa_cons (pv 3) pa_nil))))
        (pss_one (ps_expr (pe_ca c4 hr (by decide) rfl (pa_cons (pv 0) (pa_cons (pe_mc mc hr (by decide) rfl (pa_cons (pe_k rfl T.PATCH) (pa_cons (pe_fld (pv 1) rfl) (pa_cons (pe_fld (pv 1) rfl) (pa_cons (pv 4) pa_nil))))) pa_nil))))))
        (pss_one (ps_expr (pe_ca c4 hr (by decide) rfl (pa_cons (pv 0) (pa_cons (pe_mc mc hr (by decide) rfl (pa_cons (pe_k rfl T.WHOLE) (pa_cons (pe_fld (pv 1) rfl) (pa_cons (pv 2) (pa_cons (pv 3) pa_nil))))) pa_nil))))))
      (pss_one (ps_ret (pe_k rfl T.SENT)))))), ?_⟩
    rw [receive_0 ty] at k
    obtain ⟨dm, cm, im, rm, lc, rc⟩ := hm
    have v1 := g.v1
    refine ⟨_, rfl, L, s, rfl, hP, v1, fun H1 s1 => ?_⟩
    have im1 := s1 _ _ im
    refine ⟨_, rfl, m, cM, dm, _, _, rfl, im1, kl.M, kl.m3, fM_3, _, rfl, _, _, rfl, rfl, _, rfl, ?_⟩
    refine itd (fun c => ?_) (fun c => ?_)
    · rw [if_pos (by omega)] at k
      exact k _ (hP.same s1) (Fr.of_same s1)
    · rw [if_neg (by omega)] at k
      have hl : Kex8.latest s < s.versions.length := by
        unfold Kex8.latest
        omega
      have hn : x.number < s.versions.length := by omega
      refine ⟨_, rfl, _, rfl, L, s, N, Kex8.latest s, rfl, hP.same s1, g, hl, fun H2 pg s2 ng lg => ?_⟩
      have s12 := s1.trans s2
      have im2 := s2 _ _ im1
      refine ⟨_, rfl, _, rfl, m, cM, dm, _, _, rfl, im2, kl.M, kl.m3, fM_3, _, _, rfl, rfl, _, _, rfl, rfl, _, rfl, ?_⟩
      refine itd (fun d => ?_) (fun d => ?_)
      · rw [if_pos (by omega)] at k
        refine ⟨_, rfl, _, rfl, m, cM, dm, _, _, rfl, im2, kl.M, kl.m3, fM_3, L, s, N, x.number, rfl, hP.same s12, g, hn, fun H3 pa s3 na la => ?_⟩
        refine ⟨_, rfl, pa, pg, _, _, rfl, la, s3 _ _ lg, ?_, ?_, fun H4 pc s4 nc lpc => ?_⟩
        · have := snapAt_len g hn
          omega
        · have := snapAt_len g hl
          omega
        · have s14 := (s12.trans s3).trans s4
          have im4 := s14 _ _ im
          have hP4 := hP.same s14
          refine ⟨_, rfl, _, rfl, m, cM, dm, _, _, rfl, im4, kl.M, kl.m2, fM_2, _, rfl, m, cM, dm, _, _, rfl, im4, kl.M, kl.m3, fM_3, _, rfl, ?_⟩
          intro y dy hy hdy ndy
          refine ⟨y, dy, 1, x.client, x.number, pc, rfl, upd_same, fun H5 s5 iy => ⟨rfl, ?_⟩⟩
          have s45 : Same H4 H5 := Same.made hy hdy s5
          refine ⟨L, s, y, ⟨1, x.client, x.number, _⟩, rfl, hP4.same s45, ⟨dy, pc, iy, hP4.nr hy, s45 _ _ lpc, (hP.same (s12.trans s3)).nr nc⟩, g.ch, fun H6 hP6 fr => ?_⟩
          exact k _ hP6 ((Fr.of_same (s14.trans s45)).trans (fr.kp (fun z => nomatch z)))
      · rw [if_neg (by omega)] at k
        refine ⟨_, rfl, _, rfl, m, cM, dm, _, _, rfl, im2, kl.M, kl.m2, fM_2, _, rfl, _, rfl, ?_⟩
        intro y dy hy hdy ndy
        refine ⟨y, dy, 2, x.client, Kex8.latest s, pg, rfl, upd_same, fun H5 s5 iy => ⟨rfl, ?_⟩⟩
        have hP2 := hP.same s12
        have s25 : Same H2 H5 := Same.made hy hdy s5
        refine ⟨L, s, y, ⟨2, x.client, Kex8.latest s, _⟩, rfl, hP2.same s25, ⟨dy, pg, iy, hP2.nr hy, s25 _ _ lg, (hP.same s1).nr ng⟩, g.ch, fun H6 hP6 fr => ?_⟩
        exact k _ hP6 ((Fr.of_same (s12.trans s25)).trans (fr.kp (fun z => nomatch z)))

def spTake (cC cM cP : Addr) : Sp := fun vs H Q _ => ∃ (L : Lay) (s : Kex8.System) (i : Nat) (c : Kex8.Client) (t g : Addr) (v : Nat) (cfg : List Nat), vs = [.ref (L.cs i), .ref t] ∧ Plat cC cM cP L H s ∧ s.clients[i]? = some c ∧
  H t = some (.tup [.int (v : Int), .ref g]) ∧ LN H g cfg ∧ L.rho g = none ∧ ∀ H' : Hp, Plat cC cM cP L H' (Kex8.withClient s i { c with version := v, config := cfg }) → Fr L (· = .cl i) H H' → Q (.int 2) H'
theorem ok_take (G : Gf K mg "take" s_take ["client", "found"]) (T : Tx mg) (kl : Kl K cC cM cP) : Ca P w K mg base 1 "take" ["client", "found"] (spTake cC cM cP) := by
  refine ca_of G sc_take (fun vs H Q E h => ?_) (fun f cdv A outer s0 H vs Q E hr h => ?_)
  · obtain ⟨L, s, i, c, t, g, v, cfg, rfl, _⟩ := h
    rfl
  · obtain ⟨L, s, i, c, t, g, v, cfg, rfl, hP, hc, ht, lg, rg, k⟩ := h
    obtain ⟨q, _, _, ⟨⟨dx, g0, hi, _, _⟩, _, _⟩⟩ := hP.client hc
    refine ⟨_, pss_cons (ps_fld (pv 0) (pe_ix ix_tup (pv 1) pe_int (fun _ _ => rfl)) rfl) (pss_cons (ps_fld (pv 0) (pe_ix ix_tup (pv 1) pe_int (fun _ _ => rfl)) rfl) (pss_one (ps_ret (pe_k rfl T.TAKEN)))), ?_⟩
    have rc := hP.ok.rcs i (hP.lt hc)
    have nt : t ≠ L.cs i := ne_of ht hi (by intro z; cases z)
    have ng : g ≠ L.cs i := ne_of lg hi (by intro z; cases z)
    refine ⟨_, rfl, t, _, _, _, rfl, rfl, SqT.of ht, at_of (j := 0) rfl rfl, _, rfl, L.cs i, cC, dx, _, rfl, hi, kl.C, kl.c1, (by show 5 < 1000; decide), ?_⟩
    rw [fC_p1]
    have f1 : Fr L (· = .cl i) H (upd H (L.cs i) (.ins cC dx (fC v g0 (L.es i) c.acknowledged (L.ks i)))) := Fr.wr rc
    refine ⟨_, rfl, t, _, _, _, rfl, rfl, SqT.of (by rw [upd_ne nt]; exact ht), at_of (j := 1) rfl rfl, _, rfl, L.cs i, cC, dx, _, rfl, upd_same, kl.C, kl.c2, (by show 5 < 1000; decide), ?_⟩
    rw [fC_p2]
    have f2 := f1.trans (Fr.wr (o := .ins cC dx (fC v g (L.es i) c.acknowledged (L.ks i))) rc)
    refine k _ (hP.on_cl (c' := { c with version := v, config := cfg }) hc f2 ⟨dx, g, upd_same, rg, ?_⟩ rfl) f2
    show upd _ (L.cs i) _ g = _
    rw [upd_ne ng, upd_ne ng]
    exact lg
theorem ok_receive_patch (G : Gf K mg "receive_patch" s_receive_patch ["platform", "message"]) (T : Tx mg) (kl : Kl K cC cM cP) (c1 : Ca P w K mg base 3 "applied" ["patch", "source"] spApp) (c2 : Ca P w K mg base 2 "snapshot" ["version", "config"] spSnap)
    (c3 : Ca P w K mg base 3 "read_snapshot" ["code"] spRs) (c4 : Ca P w K mg base 1 "take" ["client", "found"] (spTake cC cM cP)) : Ca P w K mg base 4 "receive_patch" ["platform", "message"] (spRecv cC cM cP (· = 1)) := by
  refine ca_of G sc_receive_patch (fun vs H Q E h => ?_) (fun f cdv A outer s0 H vs Q E hr h => ?_)
  · obtain ⟨L, s, N, m, x, rfl, _⟩ := h
    rfl
  · obtain ⟨L, s, N, m, x, rfl, hP, g, hN, hm, mo, ty, k⟩ := h
    have nd := sc_receive_patch.nd
    refine ⟨_, pss_cons (ps_set (i := 2) nd rfl (.inl rfl) (pe_ix ix_list (pe_fld (pv 0) rfl) (pe_fld (pv 1) rfl) (fun _ _ => rfl)))
      (pss_cons (ps_if (pt_cmpR op_ne (pe_fld (pv 2) rfl) (pe_fld (pv 1) rfl) (nomark _)) (pss_one (ps_ret (pe_k rfl T.NOTHING))) pss_nil)
      (pss_cons (ps_set (i := 3) nd rfl (.inl rfl) (pe_ca c1 hr (by decide) rfl (pa_cons (pe_fld (pv 1) rfl) (pa_cons (pe_ca c2 hr (by decide) rfl (pa_cons (pe_fld (pv 2) rfl) (pa_cons (pe_fld (pv 2) rfl) pa_nil))) pa_nil))))
      (pss_cons (ps_if (pt_cmpR op_isN (pv 3) pe_non (nomark _)) (pss_one (ps_ret (pe_k rfl T.NOTHING))) pss_nil)
      (pss_cons (ps_set (i := 4) nd rfl (.inl rfl) (pe_ca c3 hr (by decide) rfl (pa_cons (pv 3) pa_nil)))
      (pss_one (ps_ret (pe_ifExp (pt_cmpR op_isN (pv 4) pe_non (nomark _)) (pe_k rfl T.NOTHING) (pe_ca c4 hr (by decide) rfl (pa_cons (pv 2) (pa_cons (pv 4) pa_nil)))))))))), ?_⟩
    rw [receive_1 ty] at k
    obtain ⟨dm, cm, im, rm, lc, rc⟩ := hm
    have hx : x.client < L.n := by rw [← hP.nc]; exact mo.cl
    have hc := client_get mo.cl
    have gc := g.cl _ (client_mem mo.cl)
    obtain ⟨q, _, _, ⟨⟨dx, g0, hi, rg0, lg0⟩, _, _⟩⟩ := hP.client hc
    generalize Kex8.clientAt s x.client = c at hc gc hi lg0 k
    refine ⟨_, rfl, L.p, cP, L.dx, _, _, rfl, hP.inst, kl.P, kl.p3, fP_3, _, rfl, m, cM, dm, _, _, rfl, im, kl.M, kl.m2, fM_2, L.cli, _, _, _, rfl, rfl, SqL.of hP.cli, at_of (j := x.client) rfl (cli_get hx), ?_⟩
    refine ⟨_, rfl, L.cs x.client, cC, dx, _, _, rfl, hi, kl.C, kl.c1, fC_1, _, rfl, m, cM, dm, _, _, rfl, im, kl.M, kl.m3, fM_3, rfl, _, rfl, ?_⟩
    refine itn (fun z => ?_) (fun z => ?_)
    · rw [if_pos (fun u => z (by rw [u]))] at k
      exact k H hP (Fr.refl L _ H)
    · have z2 : c.version = x.number := by
        have := int_eq z
        omega
      rw [if_neg (fun u => u z2)] at k
      refine ⟨_, rfl, m, cM, dm, _, _, rfl, im, kl.M, kl.m4, fM_4, _, rfl, L.cs x.client, cC, dx, _, _, rfl, hi, kl.C, kl.c1, fC_1, _, rfl, L.cs x.client, cC, dx, _, _, rfl, hi, kl.C, kl.c2, fC_2,
        c.version, g0, c.config, rfl, lt_big gc.ver, lg0, Nat.le_of_eq gc.cfg, fun y hy => lt_big (gc.cfgx y hy), fun H1 p1 s1 n1 l1 => ?_⟩
      have sl := snap_len c.version c.config
      have hcl := gc.cfg
      refine ⟨cm, p1, x.content, _, rfl, s1 _ _ lc, mo.byte (.inl ty), l1, ?_, fun ea H2 s2 => ?_, fun o eo H2 p2 s2 n2 l2 => ?_⟩
      · have ml := mo.len
        have : x.content.length * ((Kex8.snapshot c.version c.config).length + 1) ≤ 11000 * 343 := Nat.mul_le_mul ml (by omega)
        omega
      · rw [ea] at k
        refine ⟨_, rfl, rfl, _, rfl, ?_⟩
        exact itd (fun _ => k _ (hP.same (s1.trans s2)) (Fr.of_same (s1.trans s2))) (fun z => absurd rfl z)
      · rw [eo] at k
        dsimp only at k
        have s12 := s1.trans s2
        refine ⟨_, rfl, rfl, _, rfl, ?_⟩
        refine itd (fun z => nomatch z) (fun _ => ?_)
        refine ⟨_, rfl, p2, o, rfl, l2, apply_byte eo (mo.byte (.inl ty)) (fun y hy => snap_byte hy), fun er H3 s3 => ?_, fun v cfg er H3 p3 t3 s3 n3 l3 h3 => ?_⟩
        · rw [er] at k
          refine ⟨_, rfl, rfl, _, rfl, ?_⟩
          exact itd (fun _ => k _ (hP.same (s12.trans s3)) (Fr.of_same (s12.trans s3))) (fun z => absurd rfl z)
        · rw [er] at k
          dsimp only at k
          have s13 := s12.trans s3
          refine ⟨_, rfl, rfl, _, rfl, ?_⟩
          refine itd (fun z => nomatch z) (fun _ => ?_)
          refine ⟨_, rfl, _, rfl, L, s, x.client, c, t3, p3, v, cfg, rfl, hP.same s13, hc, h3, l3, (hP.same s12).nr n3, fun H4 hP4 fr => ?_⟩
          exact k _ hP4 ((Fr.of_same s13).trans (fr.kp (fun z => nomatch z)))
theorem ok_receive_whole (G : Gf K mg "receive_whole" s_receive_whole ["platform", "message"]) (T : Tx mg) (kl : Kl K cC cM cP) (c3 : Ca P w K mg base 3 "read_snapshot" ["code"] spRs) (c4 : Ca P w K mg base 1 "take" ["client", "found"] (spTake cC cM cP)) :
    Ca P w K mg base 4 "receive_whole" ["platform", "message"] (spRecv cC cM cP (· = 2)) := by
  refine ca_of G sc_receive_whole (fun vs H Q E h => ?_) (fun f cdv A outer s0 H vs Q E hr h => ?_)
  · obtain ⟨L, s, N, m, x, rfl, _⟩ := h
    rfl
  · obtain ⟨L, s, N, m, x, rfl, hP, g, hN, hm, mo, ty, k⟩ := h
    have nd := sc_receive_whole.nd
    refine ⟨_, pss_cons (ps_set (i := 2) nd rfl (.inl rfl) (pe_ix ix_list (pe_fld (pv 0) rfl) (pe_fld (pv 1) rfl) (fun _ _ => rfl)))
      (pss_cons (ps_set (i := 3) nd rfl (.inl rfl) (pe_ca c3 hr (by decide) rfl (pa_cons (pe_fld (pv 1) rfl) pa_nil)))
      (pss_cons (ps_if (PW.pt (pw_or (pt_cmpR op_isN (pv 3) pe_non (nomark _)) (pw_or1 (pt_cmpR op_le (pe_ix ix_tup (pv 3) pe_int (fun _ _ => rfl)) (pe_fld (pv 2) rfl) (nomark _))))) (pss_one (ps_ret (pe_k rfl T.NOTHING))) pss_nil)
      (pss_one (ps_ret (pe_ca c4 hr (by decide) rfl (pa_cons (pv 2) (pa_cons (pv 3) pa_nil))))))), ?_⟩
    rw [receive_2 ty] at k
    obtain ⟨dm, cm, im, rm, lc, rc⟩ := hm
    have hx : x.client < L.n := by rw [← hP.nc]; exact mo.cl
    have hc := client_get mo.cl
    have gc := g.cl _ (client_mem mo.cl)
    obtain ⟨q, _, _, ⟨⟨dx, g0, hi, rg0, lg0⟩, _, _⟩⟩ := hP.client hc
    generalize Kex8.clientAt s x.client = c at hc gc hi lg0 k
    refine ⟨_, rfl, L.p, cP, L.dx, _, _, rfl, hP.inst, kl.P, kl.p3, fP_3, _, rfl, m, cM, dm, _, _, rfl, im, kl.M, kl.m2, fM_2, L.cli, _, _, _, rfl, rfl, SqL.of hP.cli, at_of (j := x.client) rfl (cli_get hx), ?_⟩
    refine ⟨_, rfl, m, cM, dm, _, _, rfl, im, kl.M, kl.m4, fM_4, cm, x.content, rfl, lc, mo.byte (.inr ty), fun er H3 s3 => ?_, fun v cfg er H3 p3 t3 s3 n3 l3 h3 => ?_⟩
    · rw [er] at k
      refine ⟨_, rfl, rfl, _, rfl, ?_⟩
      exact itd (fun _ => iteT (k _ (hP.same s3) (Fr.of_same s3))) (fun z => absurd rfl z)
    · rw [er] at k
      dsimp only at k
      refine ⟨_, rfl, rfl, _, rfl, ?_⟩
      refine itd (fun z => nomatch z) (fun _ => ?_)
      refine ⟨_, rfl, t3, _, _, _, rfl, rfl, SqT.of h3, at_of (j := 0) rfl rfl, _, rfl, L.cs x.client, cC, dx, _, _, rfl, s3 _ _ hi, kl.C, kl.c1, fC_1, _, _, rfl, rfl, _, rfl, ?_⟩
      refine itd (fun z => ?_) (fun z => ?_)
      · rw [if_pos (by omega)] at k
        exact k _ (hP.same s3) (Fr.of_same s3)
      · rw [if_neg (by omega)] at k
        refine ⟨_, rfl, _, rfl, L, s, x.client, c, t3, p3, v, cfg, rfl, hP.same s3, hc, h3, l3, hP.nr n3, fun H4 hP4 fr => ?_⟩
        exact k _ hP4 ((Fr.of_same s3).trans (fr.kp (fun z => nomatch z)))
theorem ok_receive_batch (G : Gf K mg "receive_batch" s_receive_batch ["platform", "message"]) (T : Tx mg) (kl : Kl K cC cM cP) (c4 : Ca P w K mg base 1 "send" ["platform", "message"] (spSend cC cM cP)) (mc : Mc P w K mg base 1 "Message" cM ["self", "form", "client", "number", "content"] (spMi cM)) :
    Ca P w K mg base 4 "receive_batch" ["platform", "message"] (spRecv cC cM cP (· = 3)) := by
  refine ca_of G sc_receive_batch (fun vs H Q E h => ?_) (fun f cdv A outer s0 H vs Q E hr h => ?_)
  · obtain ⟨L, s, N, m, x, rfl, _⟩ := h
    rfl
  · obtain ⟨L, s, N, m, x, rfl, hP, g, hN, hm, mo, ty, k⟩ := h
    have nd := sc_receive_batch.nd
    refine ⟨_, pss_cons (ps_set (i := 2) nd rfl (.inl rfl) (pe_ix ix_list (pe_fld (pv 0) rfl) (pe_fld (pv 1) rfl) (fun _ _ => rfl)))
      (pss_cons (ps_set (i := 3) nd rfl (.inl rfl) (pe_callB call_len_seq (by rfl) T.len PySem.boot_len (pa_cons (pe_fld (pv 2) rfl) pa_nil)))
      (pss_cons (ps_if (pt_cmpR op_lt (pv 3) (pe_fld (pv 1) rfl) (nomark _)) (pss_one (ps_ret (pe_k rfl T.NOTHING))) pss_nil)
      (pss_cons (ps_set (i := 4) nd rfl (.inl rfl) (pe_slice sl_list (pe_fld (pv 1) rfl) (po_some (pe_op op_sub (pv 3) (pe_fld (pv 1) rfl))) po_none))
      (pss_cons (ps_expr (pe_bm PySem.F.plainAttrs_list PySem.F.slot_list_extend PySem.F.type_list_extend mt_extend (pe_fld (pv 2) rfl) (pa_cons (pv 4) pa_nil)))
      (pss_cons (ps_expr (pe_ca c4 hr (by decide) rfl (pa_cons (pv 0) (pa_cons (pe_mc mc hr (by decide) rfl (pa_cons (pe_k rfl T.RECEIPT) (pa_cons (pe_fld (pv 1) rfl) (pa_cons (pe_callB call_len_seq (by rfl) T.len PySem.boot_len (pa_cons (pe_fld (pv 2) rfl) pa_nil)) (pa_cons (pe_lst pa_nil) pa_nil))))) pa_nil))))
      (pss_one (ps_ret (pe_ifExp (pt_cmpR op_gt (pe_callB call_len_seq (by rfl) T.len PySem.boot_len (pa_cons (pv 4) pa_nil)) pe_int (nomark _)) (pe_k rfl T.APPENDED) (pe_k rfl T.SENT))))))))), ?_⟩
    rw [receive_3 ty] at k
    obtain ⟨dm, cm, im, rm, lc, rc⟩ := hm
    have hx : x.client < L.n := by rw [← hP.nc]; exact mo.cl
    have hc := client_get mo.cl
    obtain ⟨q, hq, eq, ⟨⟨dx, g0, hi, rg0, lg0⟩, _, hct⟩⟩ := hP.client hc
    have hqN := g.ct q (List.mem_of_getElem? hq)
    rw [← eq] at k
    have m5 := mo.five ty
    refine ⟨_, rfl, L.p, cP, L.dx, _, _, rfl, hP.inst, kl.P, kl.p3, fP_3, _, rfl, m, cM, dm, _, _, rfl, im, kl.M, kl.m2, fM_2, L.cli, _, _, _, rfl, rfl, SqL.of hP.cli, at_of (j := x.client) rfl (cli_get hx), ?_⟩
    refine ⟨_, rfl, L.cs x.client, cC, dx, _, _, rfl, hi, kl.C, kl.c5, fC_5, L.ks x.client, _, rfl, .inl (SqL.of hct), ?_⟩
    refine ⟨_, rfl, _, rfl, m, cM, dm, _, _, rfl, im, kl.M, kl.m3, fM_3, _, _, rfl, rfl, _, rfl, ?_⟩
    rw [nv_len]
    refine itd (fun z => ?_) (fun z => ?_)
    · rw [if_pos (by omega)] at k
      exact k H hP (Fr.refl L _ H)
    · rw [if_neg (by omega)] at k
      refine ⟨_, rfl, m, cM, dm, _, _, rfl, im, kl.M, kl.m4, fM_4, _, rfl, _, rfl, m, cM, dm, _, _, rfl, im, kl.M, kl.m3, fM_3, _, _, rfl, rfl, _, rfl, cm, _, rfl, SqL.of lc, fun p1 n1 => ?_⟩
      rw [cut_from (i := q.length - x.number) (by omega)]
      generalize ef : x.content.drop (q.length - x.number) = fresh at k ⊢
      have hf : fresh.length ≤ 5 := by rw [← ef]; exact fresh_len _ m5
      have s1 : Same H (upd H p1 (.lst (nv fresh))) := same_new n1
      refine ⟨_, rfl, L.cs x.client, cC, dx, _, _, rfl, s1 _ _ hi, kl.C, kl.c5, fC_5, .inl ⟨rfl, _, SqL.of (s1 _ _ hct)⟩, _, rfl, L.ks x.client, p1, _, _, rfl, rfl, s1 _ _ hct, upd_same, (by rw [nv_len, nv_len]; exact big_line (by omega)), ?_⟩
      have hP1 := hP.same s1
      have f2 : Fr L (· = .ct x.client) (upd H p1 (.lst (nv fresh))) (upd (upd H p1 (.lst (nv fresh))) (L.ks x.client) (.lst (nv q ++ nv fresh))) := Fr.wr (hP.ok.rks _ hx)
      have hP2 := hP1.on_ct f2 (q' := q ++ fresh) ln_app
      have hr1 : L.rho p1 = none := hP.nr n1
      have lf2 : LN (upd (upd H p1 (.lst (nv fresh))) (L.ks x.client) (.lst (nv q ++ nv fresh))) p1 fresh := f2.fix upd_same hr1
      have im2 := f2.fix (s1 _ _ im) rm
      have hi2 := f2.role (s1 _ _ hi) (hP.ok.rcs _ hx) (fun z => nomatch z)
      have k2 : LN (upd (upd H p1 (.lst (nv fresh))) (L.ks x.client) (.lst (nv q ++ nv fresh))) (L.ks x.client) (q ++ fresh) := ln_app
      have f02 : Kp L H (upd (upd H p1 (.lst (nv fresh))) (L.ks x.client) (.lst (nv q ++ nv fresh))) := (Fr.of_same s1).trans (f2.kp (fun z => nomatch z))
      generalize upd (upd H p1 (.lst (nv fresh))) (L.ks x.client) (.lst (nv q ++ nv fresh)) = H2 at hP2 lf2 im2 hi2 k2 f02 ⊢
      refine ⟨_, rfl, _, rfl, m, cM, dm, _, _, rfl, im2, kl.M, kl.m2, fM_2, _, rfl, L.cs x.client, cC, dx, _, _, rfl, hi2, kl.C, kl.c5, fC_5, L.ks x.client, _, rfl, .inl (SqL.of k2), Nat.zero_le _, fun p3 n3 => ?_⟩
      have s3 : Same H2 (upd H2 p3 (.lst [])) := same_new n3
      have hP3 := hP2.same s3
      intro y dy hy hdy ndy
      refine ⟨y, dy, 4, x.client, q.length + fresh.length, p3, (by rw [nv_len, List.length_append]; rfl), upd_same, fun H5 s5 iy => ⟨rfl, ?_⟩⟩
      have s35 : Same (upd H2 p3 (.lst [])) H5 := Same.made hy hdy s5
      refine ⟨L, _, y, ⟨4, x.client, q.length + fresh.length, []⟩, rfl, hP3.same s35, ⟨dy, p3, iy, hP3.nr hy, s35 _ _ upd_same, hP2.nr n3⟩, g.ch, fun H6 hP6 fr => ?_⟩
      have f6 : Kp L H H6 := (f02.trans (Fr.of_same (s3.trans s35))).trans (fr.kp (fun z => nomatch z))
      have lf6 := fr.fix (s35 _ _ (s3 _ _ lf2)) hr1
      refine ⟨_, rfl, p1, _, rfl, .inl (SqL.of lf6), _, _, rfl, rfl, _, rfl, ?_⟩
      rw [nv_len]
      refine itd (fun z => ?_) (fun z => ?_)
      · rw [if_neg (by rw [List.isEmpty_iff]; rintro rfl; exact absurd z (by decide))] at k
        exact k H6 hP6 f6
      · have e0 : fresh = [] := List.length_eq_zero_iff.mp (by omega)
        rw [if_pos (by rw [e0]; rfl)] at k
        exact k H6 hP6 f6
theorem ok_receive_receipt (G : Gf K mg "receive_receipt" s_receive_receipt ["platform", "message"]) (T : Tx mg) (kl : Kl K cC cM cP) : Ca P w K mg base 1 "receive_receipt" ["platform", "message"] (spRecv cC cM cP (fun t => t ≠ 0 ∧ t ≠ 1 ∧ t ≠ 2 ∧ t ≠ 3)) := by
  refine ca_of G sc_receive_receipt (fun vs H Q E h => ?_) (fun f cdv A outer s0 H vs Q E hr h => ?_)
  · obtain ⟨L, s, N, m, x, rfl, _⟩ := h
    rfl
  · obtain ⟨L, s, N, m, x, rfl, hP, g, hN, hm, mo, ⟨t0, t1, t2, t3⟩, k⟩ := h
    have nd := sc_receive_receipt.nd
    refine ⟨_, pss_cons (ps_set (i := 2) nd rfl (.inl rfl) (pe_ix ix_list (pe_fld (pv 0) rfl) (pe_fld (pv 1) rfl) (fun _ _ => rfl)))
      (pss_cons (ps_if (pt_not (pt_chain op_lt op_le (pe_fld (pv 2) rfl) (pe_fld (pv 1) rfl) (pe_callB call_len_seq (by rfl) T.len PySem.boot_len (pa_cons (pe_fld (pv 2) rfl) pa_nil)))) (pss_one (ps_ret (pe_k rfl T.NOTHING))) pss_nil)
      (pss_cons (ps_fld (pv 2) (pe_fld (pv 1) rfl) rfl)
      (pss_one (ps_ret (pe_k rfl T.TAKEN))))), ?_⟩
    rw [receive_4 t0 t1 t2 t3] at k
    obtain ⟨dm, cm, im, rm, lc, rc⟩ := hm
    have hx : x.client < L.n := by rw [← hP.nc]; exact mo.cl
    have hc := client_get mo.cl
    obtain ⟨q, _, _, ⟨⟨dx, g0, hi, rg0, lg0⟩, hex, _⟩⟩ := hP.client hc
    generalize Kex8.clientAt s x.client = c at hc hi lg0 hex k
    refine ⟨_, rfl, L.p, cP, L.dx, _, _, rfl, hP.inst, kl.P, kl.p3, fP_3, _, rfl, m, cM, dm, _, _, rfl, im, kl.M, kl.m2, fM_2, L.cli, _, _, _, rfl, rfl, SqL.of hP.cli, at_of (j := x.client) rfl (cli_get hx), ?_⟩
    refine ⟨_, rfl, L.cs x.client, cC, dx, _, _, rfl, hi, kl.C, kl.c4, fC_4, _, rfl, m, cM, dm, _, _, rfl, im, kl.M, kl.m3, fM_3, _, _, rfl, rfl, _, rfl, ?_⟩
    refine itd (fun z => ?_) (fun z => ?_)
    · refine ⟨_, rfl, L.cs x.client, cC, dx, _, _, rfl, hi, kl.C, kl.c3, fC_3, L.es x.client, _, rfl, .inl (SqL.of hex), _, _, rfl, rfl, _, rfl, ?_⟩
      rw [nv_len]
      refine itn (fun y => ?_) (fun y => ?_)
      · rw [if_pos (Or.inr (by omega))] at k
        exact k H hP (Fr.refl L _ H)
      · rw [if_neg (by omega)] at k
        refine ⟨_, rfl, m, cM, dm, _, _, rfl, im, kl.M, kl.m3, fM_3, _, rfl, L.cs x.client, cC, dx, _, rfl, hi, kl.C, kl.c4, (by show 5 < 1000; decide), ?_⟩
        rw [fC_p4]
        have fr : Fr L (· = .cl x.client) H (upd H (L.cs x.client) (.ins cC dx (fC c.version g0 (L.es x.client) x.number (L.ks x.client)))) := Fr.wr (hP.ok.rcs _ hx)
        exact k _ (hP.on_cl (c' := { c with acknowledged := x.number }) hc fr ⟨dx, g0, upd_same, rg0, fr.fix lg0 rg0⟩ rfl) (fr.kp (fun z => nomatch z))
    · rw [if_pos (Or.inl (by omega))] at k
      exact ⟨_, rfl, iteT (k H hP (Fr.refl L _ H))⟩
theorem ok_receive (G : Gf K mg "receive" s_receive ["platform", "message"]) (T : Tx mg) (kl : Kl K cC cM cP) (c0 : Ca P w K mg base 4 "receive_request" ["platform", "message"] (spRecv cC cM cP (· = 0))) (c1 : Ca P w K mg base 4 "receive_patch" ["platform", "message"] (spRecv cC cM cP (· = 1)))
    (c2 : Ca P w K mg base 4 "receive_whole" ["platform", "message"] (spRecv cC cM cP (· = 2))) (c3 : Ca P w K mg base 4 "receive_batch" ["platform", "message"] (spRecv cC cM cP (· = 3)))
    (c4 : Ca P w K mg base 1 "receive_receipt" ["platform", "message"] (spRecv cC cM cP (fun t => t ≠ 0 ∧ t ≠ 1 ∧ t ≠ 2 ∧ t ≠ 3))) : Ca P w K mg base 5 "receive" ["platform", "message"] (spRecv cC cM cP (fun _ => True)) := by
  refine ca_of G sc_receive (fun vs H Q E h => ?_) (fun f cdv A outer s0 H vs Q E hr h => ?_)
  · obtain ⟨L, s, N, m, x, rfl, _⟩ := h
    rfl
  · obtain ⟨L, s, N, m, x, rfl, hP, g, hN, hm, mo, _, k⟩ := h
    obtain ⟨dm, cm, im, rm, lc, rc⟩ := id hm
    refine ⟨_, pss_cons (ps_if (pt_cmpR op_eq (pe_fld (pv 1) rfl) (pe_k rfl T.REQUEST) (nomark _)) (pss_one (ps_ret (pe_ca c0 hr (by decide) rfl (pa_cons (pv 0) (pa_cons (pv 1) pa_nil))))) pss_nil)
      (pss_cons (ps_if (pt_cmpR op_eq (pe_fld (pv 1) rfl) (pe_k rfl T.PATCH) (nomark _)) (pss_one (ps_ret (pe_ca c1 hr (by decide) rfl (pa_cons (pv 0) (pa_cons (pv 1) pa_nil))))) pss_nil)
      (pss_cons (ps_if (pt_cmpR op_eq (pe_fld (pv 1) rfl) (pe_k rfl T.WHOLE) (nomark _)) (pss_one (ps_ret (pe_ca c2 hr (by decide) rfl (pa_cons (pv 0) (pa_cons (pv 1) pa_nil))))) pss_nil)
      (pss_cons (ps_if (pt_cmpR op_eq (pe_fld (pv 1) rfl) (pe_k rfl T.BATCH) (nomark _)) (pss_one (ps_ret (pe_ca c3 hr (by decide) rfl (pa_cons (pv 0) (pa_cons (pv 1) pa_nil))))) pss_nil)
      (pss_one (ps_ret (pe_ca c4 hr (by decide) rfl (pa_cons (pv 0) (pa_cons (pv 1) pa_nil)))))))), ?_⟩
    have ne : ∀ {a : Nat} {b : Int}, ¬ V.int (a : Int) = V.int b → (a : Int) ≠ b := fun z => int_ne z
    refine ⟨_, rfl, m, cM, dm, _, _, rfl, im, kl.M, kl.m1, fM_1, rfl, _, rfl, ?_⟩
    refine itd (fun z => ?_) (fun z0 => ?_)
    · have e := int_eq z
      exact ⟨_, rfl, _, rfl, L, s, N, m, x, rfl, hP, g, hN, hm, mo, (by omega), k⟩
    refine ⟨_, rfl, m, cM, dm, _, _, rfl, im, kl.M, kl.m1, fM_1, rfl, _, rfl, ?_⟩
    refine itd (fun z => ?_) (fun z1 => ?_)
    · have e := int_eq z
      exact ⟨_, rfl, _, rfl, L, s, N, m, x, rfl, hP, g, hN, hm, mo, (by omega), k⟩
    refine ⟨_, rfl, m, cM, dm, _, _, rfl, im, kl.M, kl.m1, fM_1, rfl, _, rfl, ?_⟩
    refine itd (fun z => ?_) (fun z2 => ?_)
    · have e := int_eq z
      exact ⟨_, rfl, _, rfl, L, s, N, m, x, rfl, hP, g, hN, hm, mo, (by omega), k⟩
    refine ⟨_, rfl, m, cM, dm, _, _, rfl, im, kl.M, kl.m1, fM_1, rfl, _, rfl, ?_⟩
    refine itd (fun z => ?_) (fun z3 => ?_)
    · have e := int_eq z
      exact ⟨_, rfl, _, rfl, L, s, N, m, x, rfl, hP, g, hN, hm, mo, (by omega), k⟩
    have e0 := int_ne z0
    have e1 := int_ne z1
    have e2 := int_ne z2
    have e3 := int_ne z3
    exact ⟨_, rfl, _, rfl, L, s, N, m, x, rfl, hP, g, hN, hm, mo, ⟨(by omega), (by omega), (by omega), (by omega)⟩, k⟩
end
end Cs

/-! The operations: helpers, what changes the state. -/
namespace Cs
open PySem PySem.Spec PyProof.Rows L2
open PySem.W (Codec)

/-- at a a list of these rows -/
def RowsAt (H : Hp) (a : Addr) (rs : List (List Nat)) : Prop := ∃ ras : List Addr, H a = some (.lst (ras.map V.ref)) ∧ ras.length = rs.length ∧ ∀ (i : Nat) (b : Addr) (r : List Nat), ras[i]? = some b → rs[i]? = some r → LN H b r
theorem RowsAt.get {H : Hp} {a : Addr} {rs : List (List Nat)} (h : RowsAt H a rs) {i : Nat} {r : List Nat} (e : rs[i]? = some r) : ∃ (xs : List V) (b : Addr), H a = some (.lst xs) ∧ xs[i]? = some (V.ref b) ∧ LN H b r := by
  obtain ⟨ras, h1, h2, h3⟩ := h
  obtain ⟨b, hb⟩ : ∃ b, ras[i]? = some b := ⟨_, List.getElem?_eq_getElem (by rw [h2]; exact (List.getElem?_eq_some_iff.mp e).1)⟩
  exact ⟨_, b, h1, ref_get hb, h3 i b r hb e⟩
theorem RowsAt.same {H H' : Hp} {a : Addr} {rs : List (List Nat)} (h : RowsAt H a rs) (s : Same H H') : RowsAt H' a rs := by
  obtain ⟨ras, h1, h2, h3⟩ := h
  exact ⟨ras, s _ _ h1, h2, fun i b r hb hr => s _ _ (h3 i b r hb hr)⟩
theorem Fr.free {L : Lay} {R : Role → Prop} {H H' : Hp} (f : Fr L R H H') {t : Addr} (h : H' t = none) : H t = none := by
  cases e : H t with
  | none => rfl
  | some o =>
    obtain ⟨u, q⟩ := f.there t o e
    rw [h] at q
    cases q
theorem vals_list (l : List Nat) : (Kex8Neutral.fields (Kex8.listResult l)).map V.int = nv (l.length :: l) := by
  show V.int _ :: (Kex8.toInts l).map V.int = _
  unfold Kex8.toInts nv
  rw [List.map_map]
  rfl
theorem vals_ints (l : List Nat) : (Kex8.toInts l).map V.int = nv l := by
  unfold Kex8.toInts nv
  rw [List.map_map]
  rfl
section
variable {P : Program} {w : World} {K : PySem.W.Frag} {mg : Str → Option Value} {base : Heap} {cC cM cP : Addr}
def spDeed (cC cM cP : Addr) (j : Nat) : Sp := fun vs H Q _ => ∃ (L : Lay) (s : Kex8.System) (N : Nat) (na ra : Addr) (ns : List Nat) (rs : List (List Nat)) (rq : Kex8.Request), vs = [.ref L.p, .ref na, .ref ra] ∧ Plat cC cM cP L H s ∧ Good N s ∧ N ≤ 200000 ∧
  LN H na ns ∧ RowsAt H ra rs ∧ Rq j ns rs rq ∧
  ∀ (H' : Hp) (t : Addr), Plat cC cM cP L H' (stepS s rq).1 → Kp L H H' → H t = none → H' t = some (.lst ((Kex8Neutral.fields (stepS s rq).2).map V.int)) → Q (.ref t) H'
theorem deed_len {j : Nat} : ∀ vs H Q E, spDeed cC cM cP j vs H Q E → vs.length = (["platform", "numbers", "rows"] : List Str).length := fun vs H Q E h => by
  obtain ⟨L, s, N, na, ra, ns, rs, rq, rfl, _⟩ := h
  rfl
theorem fin {L : Lay} {H H1 : Hp} {Q : VK} {s s' : Kex8.System} {rq : Kex8.Request} {r : Kex8.Result} {t : Addr} {vs : List V}
    (k : ∀ (H' : Hp) (t : Addr), Plat cC cM cP L H' (stepS s rq).1 → Kp L H H' → H t = none → H' t = some (.lst ((Kex8Neutral.fields (stepS s rq).2).map V.int)) → Q (.ref t) H')
    (e : Kex8.step (some s) rq = (some s', r)) (hP : Plat cC cM cP L H1 s') (f : Kp L H H1) (ht : H1 t = none) (hv : vs = (Kex8Neutral.fields r).map V.int) : Q (.ref t) (upd H1 t (.lst vs)) := by
  have e2 := stepS_of e
  rw [e2] at k
  refine k _ t (hP.same (same_new ht)) (f.trans (Fr.of_same (same_new ht))) (f.free ht) ?_
  rw [upd_same, hv]
theorem fin' {L : Lay} {H H1 : Hp} {Q : VK} {s s' : Kex8.System} {rq : Kex8.Request} {r : Kex8.Result} {t : Addr} {l : List Nat}
    (k : ∀ (H' : Hp) (t : Addr), Plat cC cM cP L H' (stepS s rq).1 → Kp L H H' → H t = none → H' t = some (.lst ((Kex8Neutral.fields (stepS s rq).2).map V.int)) → Q (.ref t) H')
    (e : Kex8.step (some s) rq = (some s', r)) (hP : Plat cC cM cP L H1 s') (f : Kp L H H1) (ht : H t = none) (hl : LN H1 t l) (hv : nv l = (Kex8Neutral.fields r).map V.int) : Q (.ref t) H1 := by
  have e2 := stepS_of e
  rw [e2] at k
  refine k _ t hP f ht ?_
  rw [← hv]
  exact hl

/-! ### helpers -/
def spHas (cC cM cP : Addr) (n : Kex8.System → Nat) : Sp := fun vs H Q _ => ∃ (L : Lay) (s : Kex8.System) (i : Nat), vs = [.ref L.p, .int (i : Int)] ∧ Plat cC cM cP L H s ∧ 1 ≤ s.versions.length ∧ ∀ H' : Hp, Same H H' → Q (.bl (decide (i < n s))) H'
theorem has_len {n : Kex8.System → Nat} {ps : List Str} (h2 : ps.length = 2) : ∀ vs H Q E, spHas cC cM cP n vs H Q E → vs.length = ps.length := fun vs H Q E h => by
  obtain ⟨L, s, i, rfl, _⟩ := h
  exact h2.symm
theorem dec_lt {i n : Nat} {a b : Int} (h1 : a = (i : Int)) (h2 : b = (n : Int)) : decide (a < b) = decide (i < n) := by
  subst h1 h2
  by_cases c : i < n
  · rw [decide_eq_true c, decide_eq_true (by omega)]
  · rw [decide_eq_false c, decide_eq_false (by omega)]
theorem ok_has_client (G : Gf K mg "has_client" s_has_client ["platform", "number"]) (T : Tx mg) (kl : Kl K cC cM cP) : Ca P w K mg base 1 "has_client" ["platform", "number"] (spHas cC cM cP fun s => s.clients.length) := by
  refine ca_of G sc_has_client (has_len rfl) (fun f cdv A outer s0 H vs Q E hr h => ?_)
  obtain ⟨L, s, i, rfl, hP, _, k⟩ := h
  refine ⟨_, pss_one (ps_ret (pe_cmpR op_lt (pv 1) (pe_callB call_len_seq (by rfl) T.len PySem.boot_len (pa_cons (pe_fld (pv 0) rfl) pa_nil)) (nomark _))), ?_⟩
  refine ⟨_, rfl, _, rfl, L.p, cP, L.dx, _, _, rfl, hP.inst, kl.P, kl.p3, fP_3, L.cli, _, rfl, .inl (SqL.of hP.cli), _, _, rfl, rfl, ?_⟩
  show Q (V.bl (decide _)) H
  rw [dec_lt (i := i) (n := s.clients.length) rfl (by rw [List.length_map, List.length_range, hP.nc])]
  exact k H (Same.refl H)
theorem ok_has_message (G : Gf K mg "has_message" s_has_message ["platform", "index"]) (T : Tx mg) (kl : Kl K cC cM cP) : Ca P w K mg base 1 "has_message" ["platform", "index"] (spHas cC cM cP fun s => s.channel.length) := by
  refine ca_of G sc_has_message (has_len rfl) (fun f cdv A outer s0 H vs Q E hr h => ?_)
  obtain ⟨L, s, i, rfl, hP, _, k⟩ := h
  obtain ⟨ma, h1, l1, _⟩ := hP.chn
  refine ⟨_, pss_one (ps_ret (pe_cmpR op_lt (pv 1) (pe_callB call_len_seq (by rfl) T.len PySem.boot_len (pa_cons (pe_fld (pv 0) rfl) pa_nil)) (nomark _))), ?_⟩
  refine ⟨_, rfl, _, rfl, L.p, cP, L.dx, _, _, rfl, hP.inst, kl.P, kl.p4, fP_4, L.chn, _, rfl, .inl (SqL.of h1), _, _, rfl, rfl, ?_⟩
  show Q (V.bl (decide _)) H
  rw [dec_lt (i := i) (n := s.channel.length) rfl (by rw [List.length_map, l1])]
  exact k H (Same.refl H)
theorem ok_has_version (G : Gf K mg "has_version" s_has_version ["platform", "version"]) (c1 : Ca P w K mg base 1 "latest" ["platform"] (spLat cC cM cP)) : Ca P w K mg base 2 "has_version" ["platform", "version"] (spHas cC cM cP fun s => s.versions.length) := by
  refine ca_of G sc_has_version (has_len rfl) (fun f cdv A outer s0 H vs Q E hr h => ?_)
  obtain ⟨L, s, i, rfl, hP, v1, k⟩ := h
  refine ⟨_, pss_one (ps_ret (pe_cmpR op_le (pv 1) (pe_ca c1 hr (by decide) rfl (pa_cons (pv 0) pa_nil)) (nomark _))), ?_⟩
  refine ⟨_, rfl, _, rfl, L, s, rfl, hP, v1, fun H1 s1 => ?_⟩
  refine ⟨_, _, rfl, rfl, ?_⟩
  have e : decide ((i : Int) ≤ ((Kex8.latest s : Nat) : Int)) = decide (i < s.versions.length) := by
    have q : Kex8.latest s = s.versions.length - 1 := rfl
    by_cases c : i < s.versions.length
    · rw [decide_eq_true c, decide_eq_true (by omega)]
    · rw [decide_eq_false c, decide_eq_false (by omega)]
  show Q (V.bl (decide ((i : Int) ≤ ((Kex8.latest s : Nat) : Int)))) H1
  rw [e]
  exact k H1 s1

def spAb : Sp := fun vs H Q _ => ∃ (ra : Addr) (rs : List (List Nat)), vs = [.ref ra] ∧ RowsAt H ra rs ∧ rs.length ≤ 1000 ∧ (∀ r ∈ rs, r.length ≤ 1000) ∧ ∀ H' : Hp, Same H H' → Q (.bl (rs.all Kex8.isBytes)) H'
theorem bools_snoc (bs : List Bool) (b : Bool) : bs.map V.bl ++ [V.bl b] = (bs ++ [b]).map V.bl := by
  rw [List.map_append]
  rfl
theorem map_take_snoc {α β : Type} {l : List α} {i : Nat} {x : α} (g : α → β) (h : l[i]? = some x) : (l.take (i + 1)).map g = (l.take i).map g ++ [g x] := by
  rw [take_snoc h, List.map_append]
  rfl
/-- the scope of the outer comprehension -/
def sc_ab : Scope := { kind := .function, names := [(".0", .local), ("row", .local), ("all", .globalImplicit)], isGenerator := false, isCoroutine := false }
theorem ok_are_bytes (G : Gf K mg "are_bytes" s_are_bytes ["rows"]) (T : Tx mg) : Ca P w K mg base 1 "are_bytes" ["rows"] spAb := by
  refine ca_of G sc_are_bytes (fun vs H Q E h => ?_) (fun f cdv A outer s0 H vs Q E hr h => ?_)
  · obtain ⟨ra, rs, rfl, _⟩ := h
    rfl
  · obtain ⟨ra, rs, rfl, hR, l1, l2, k⟩ := h
    have nd := sc_are_bytes.nd
    refine ⟨_, pss_one (ps_ret (pe_callB (cr_all rfl) (by rfl) T.all (by decide +kernel) (pa_cons
      (pe_lc (own := [("row", 2)]) (g := gName 2) (te := tCB (rAll K) (tCons (tLc (iList K (tVar 2)) (gName 1) tYes (tOp (rI0 fun i j => .bl (decide (i ≤ j))) (tVar 1) (tC (.int 255))) [1]) tNil)) rfl nd (pi_list (pv 0)) (blkOk_by (own := [("row", 2)]) (N := ["rows", "byte", "row"]) (sc := defScope s_are_bytes) (by decide +kernel))
        (fun _ _ _ _ _ => pg_name (i := 2) nd rfl (Or.inl rfl)) (fun _ _ _ _ _ => pts_nil)
        (fun _ _ _ _ _ => pe_callB (cr_all rfl) (by rfl) T.all (by decide +kernel) (pa_cons
          (pe_lc (own := [("byte", 1)]) (g := gName 1) rfl nd (pi_list (pv 2)) (blkOk_by (own := [("byte", 1)]) (N := ["rows", "byte", "row"]) (sc := sc_ab) (by decide +kernel))
            (fun _ _ _ _ _ => pg_name (i := 1) nd rfl (Or.inl rfl)) (fun _ _ _ _ _ => pts_nil) (fun _ _ _ _ _ => pe_cmpR op_le (pv 1) pe_int (nomark _))) pa_nil))) pa_nil))), ?_⟩
    obtain ⟨ras, h1, h2, h3⟩ := hR
    refine ⟨_, rfl, ra, rfl, ⟨_, SqL.of h1⟩, fun D hD => lc_list (K := K) (a := ra) (xs := ras.map V.ref) (fun i H' => Same H H' ∧ H' D = some (.lst (((rs.take i).map Kex8.isBytes).map V.bl)))
      ⟨same_new hD, upd_same⟩ (fun i H' _ h => SqL.of (h.1 _ _ h1)) ?_ ?_⟩
    · rintro i x H' hx ⟨s1, hl⟩
      obtain ⟨b, hb, rfl⟩ : ∃ b, ras[i]? = some b ∧ x = V.ref b := by
        rw [List.getElem?_map] at hx
        cases e : ras[i]? with
        | none =>
          rw [e] at hx
          cases hx
        | some b =>
          rw [e] at hx
          exact ⟨b, rfl, (Option.some.inj hx).symm⟩
      obtain ⟨r, hr⟩ : ∃ r, rs[i]? = some r := ⟨_, List.getElem?_eq_getElem (by rw [← h2]; exact (List.getElem?_eq_some_iff.mp hb).1)⟩
      have lr := h3 i b r hb hr
      have lr1 := s1 _ _ lr
      refine ⟨rfl, ?_⟩
      refine ⟨_, rfl, b, rfl, ⟨_, SqL.of lr1⟩, fun D2 hD2 => lc_list (K := K) (a := b) (xs := nv r) (fun i2 H2 => Same H' H2 ∧ H2 D2 = some (.lst (((r.take i2).map fun x => decide (x ≤ 255)).map V.bl)))
        ⟨same_new hD2, upd_same⟩ (fun i2 H2 _ h => SqL.of (h.1 _ _ lr1)) ?_ ?_⟩
      · rintro i2 y H2 hy ⟨s2, hl2⟩
        obtain ⟨n, hn, rfl⟩ := nv_get' hy
        refine ⟨rfl, ?_⟩
        refine ⟨_, rfl, _, _, rfl, rfl, _, hl2, ?_, s2.wr hD2, ?_⟩
        · rw [List.length_map, List.length_map, List.length_take]
          have := l2 r (List.mem_of_getElem? hr)
          exact big_line' (by omega)
        · rw [upd_same, map_take_snoc _ hn, ← bools_snoc]
          have e : decide ((n : Int) ≤ 255) = decide (n ≤ 255) := by
            by_cases c : n ≤ 255
            · rw [decide_eq_true c, decide_eq_true (by omega)]
            · rw [decide_eq_false c, decide_eq_false (by omega)]
          rw [← e]
      · rintro H2 ⟨s2, hl2⟩
        rw [nv_len, List.take_length] at hl2
        refine ⟨D2, r.map fun x => decide (x ≤ 255), rfl, SqL.of hl2, _, s2 _ _ hl, ?_, (s1.trans s2).wr hD, ?_⟩
        · rw [List.length_map, List.length_map, List.length_take]
          exact big_line' (by omega)
        · rw [upd_same, map_take_snoc _ hr, ← bools_snoc]
          have e : (r.map fun x => decide (x ≤ 255)).all id = Kex8.isBytes r := by
            unfold Kex8.isBytes
            rw [List.all_map]
            rfl
          rw [e]
    · rintro H' ⟨s1, hl⟩
      rw [List.length_map, h2, List.take_length] at hl
      refine ⟨D, rs.map Kex8.isBytes, rfl, SqL.of hl, ?_⟩
      have e : (rs.map Kex8.isBytes).all id = rs.all Kex8.isBytes := by
        rw [List.all_map]
        rfl
      rw [e]
      exact k H' s1

def spWl : Sp := fun vs H Q _ => ∃ (a : Addr) (l : List Nat), vs = [.ref a] ∧ LN H a l ∧ l.length ≤ 15000000 ∧ RetL H Q (l.length :: l)
theorem ok_with_length (G : Gf K mg "with_length" s_with_length ["row"]) (T : Tx mg) : Ca P w K mg base 1 "with_length" ["row"] spWl := by
  refine ca_of G sc_with_length (fun vs H Q E h => ?_) (fun f cdv A outer s0 H vs Q E hr h => ?_)
  · obtain ⟨a, l, rfl, _⟩ := h
    rfl
  · obtain ⟨a, l, rfl, hl, h15, k⟩ := h
    refine ⟨_, pss_one (ps_ret (pe_op op_cat (pe_lst (pa_cons (pe_callB call_len_seq (by rfl) T.len PySem.boot_len (pa_cons (pv 0) pa_nil)) pa_nil)) (pv 0))), ?_⟩
    refine ⟨_, rfl, a, _, rfl, .inl (SqL.of hl), (by show 1 ≤ sizeLine; decide), fun p hp => ?_⟩
    refine ⟨_, rfl, p, a, _, _, rfl, rfl, upd_same, (same_new hp) _ _ hl, ?_, fun q hq => ?_⟩
    · rw [nv_len]
      exact big_line (by show 1 + l.length ≤ _; omega)
    · refine k _ q ((same_new hp).new hq) ((same_new hp).free hq) ?_
      show upd _ q _ q = _
      rw [upd_same, nv_len]
      rfl

def spTf (cC cM cP : Addr) : Sp := fun vs H Q _ => ∃ (L : Lay) (s : Kex8.System) (i : Nat) (x : Kex8.Message), vs = [.ref L.p, .int (i : Int)] ∧ Plat cC cM cP L H s ∧ s.channel.length ≤ 30 ∧ s.channel[i]? = some x ∧
  ∀ (H' : Hp) (m : Addr), MsgAt cM L H' m x → Plat cC cM cP L H' { s with channel := s.channel.eraseIdx i } → Fr L (· = .chn) H H' → Q (.ref m) H'
theorem seqIx {i n : Nat} (h : i < n) : seqIndex? (i : Int) n = some i := (ixN_seq (ixN_of rfl h)).1
theorem ok_take_first (G : Gf K mg "take_first" s_take_first ["platform", "index"]) (kl : Kl K cC cM cP) : Ca P w K mg base 1 "take_first" ["platform", "index"] (spTf cC cM cP) := by
  refine ca_of G sc_take_first (fun vs H Q E h => ?_) (fun f cdv A outer s0 H vs Q E hr h => ?_)
  · obtain ⟨L, s, i, x, rfl, _⟩ := h
    rfl
  · obtain ⟨L, s, i, x, rfl, hP, h30, hx, k⟩ := h
    obtain ⟨ma, h1, l1, h3⟩ := hP.chn
    have hi : i < s.channel.length := (List.getElem?_eq_some_iff.mp hx).1
    obtain ⟨m, hm⟩ : ∃ m, ma[i]? = some m := ⟨_, List.getElem?_eq_getElem (by rw [l1]; exact hi)⟩
    refine ⟨_, pss_one (ps_ret (pe_bm PySem.F.plainAttrs_list PySem.F.slot_list_pop PySem.F.type_list_pop mt_popAt (pe_fld (pv 0) rfl) (pa_cons (pv 1) pa_nil))), ?_⟩
    refine ⟨_, rfl, L.p, cP, L.dx, _, _, rfl, hP.inst, kl.P, kl.p4, fP_4, .inl ⟨rfl, _, SqL.of h1⟩, _, rfl, L.chn, _, i, i, _, rfl, rfl, h1, by omega, by omega, seqIx (by rw [List.length_map, l1]; exact hi), ref_get hm, ?_⟩
    have fr : Fr L (· = .chn) H (upd H L.chn (.lst ((ma.map V.ref).eraseIdx i))) := Fr.wr hP.ok.rchn
    exact k _ m ((h3 i m x hm hx).move fr) (hP.on_chn fr (ChnAt.erase l1 h3 fr upd_same)) fr

/-! ### what changes the state -/
theorem ok_stage (G : Gf K mg "stage" s_stage ["platform", "numbers", "rows"]) (T : Tx mg) (kl : Kl K cC cM cP) : Ca P w K mg base 1 "stage" ["platform", "numbers", "rows"] (spDeed cC cM cP 1) := by
  refine ca_of G sc_stage deed_len (fun f cdv A outer s0 H vs Q E hr h => ?_)
  obtain ⟨L, s, N, na, ra, ns, rs, rq, rfl, hP, g, hN, hna, hra, hq, k⟩ := h
  cases hq with
  | stage a b =>
    have nd := sc_stage.nd
    refine ⟨_, pss_cons (ps_asg (pv 1) (pg_unl rfl (pgs_cons (pg_name (i := 3) nd rfl (.inl rfl)) (pgs_cons (pg_name (i := 4) nd rfl (.inl rfl)) pgs_nil))))
      (pss_cons (ps_if (pt_cmpR op_ge (pv 3) (pe_k rfl T.KEYS) (nomark _)) (pss_one (ps_ret (pe_lst (pa_cons (pe_un un_neg pe_int) pa_nil)))) pss_nil)
      (pss_cons (ps_if (pt_cmpR op_gt (pv 4) (pe_k rfl T.MOST_VALUE) (nomark _)) (pss_one (ps_ret (pe_lst (pa_cons (pe_un un_neg pe_int) pa_nil)))) pss_nil)
      (pss_cons (ps_set (i := 5) nd rfl (.inl rfl) (pe_ix ix_list (pe_fld (pv 0) rfl) (pv 3) (fun _ _ => rfl)))
      (pss_cons (ps_asg (pv 4) (pg_sub (pe_fld (pv 0) rfl) (pv 3) set_list))
      (pss_one (ps_ret (pe_lst (pa_cons (pv 5) pa_nil)))))))), ?_⟩
    have st := g.st
    refine ⟨_, rfl, na, _, rfl, SqL.of hna, rfl, _, _, rfl, _, _, rfl, rfl, ?_⟩
    refine ⟨_, rfl, _, _, rfl, rfl, _, rfl, ?_⟩
    have es : Kex8.step (some s) (.stage a b) = if 16 ≤ a then (some s, .value (-2)) else if 1000000 < b then (some s, .value (-22)) else (some { s with staged := s.staged.set a b }, .value (s.staged.getD a 0 : Nat)) := rfl
    refine itd (fun z => ?_) (fun z => ?_)
    · rw [if_pos (by omega)] at es
      exact ⟨_, rfl, (by show 1 ≤ sizeLine; decide), fun t ht => fin k es hP (Fr.refl L _ H) ht rfl⟩
    · rw [if_neg (by omega)] at es
      refine ⟨_, rfl, _, _, rfl, rfl, _, rfl, ?_⟩
      refine itd (fun y => ?_) (fun y => ?_)
      · rw [if_pos (by omega)] at es
        exact ⟨_, rfl, (by show 1 ≤ sizeLine; decide), fun t ht => fin k es hP (Fr.refl L _ H) ht rfl⟩
      · rw [if_neg (by omega)] at es
        have ha : a < s.staged.length := by rw [st.len]; omega
        have hv : s.staged[a]? = some (s.staged.getD a 0) := by
          rw [List.getD_eq_getElem?_getD, List.getElem?_eq_getElem ha]
          rfl
        refine ⟨_, rfl, L.p, cP, L.dx, _, _, rfl, hP.inst, kl.P, kl.p2, fP_2, _, rfl, L.sta, _, _, _, rfl, rfl, SqL.of hP.sta, nv_at rfl hv, ?_⟩
        refine ⟨_, rfl, _, rfl, L.p, cP, L.dx, _, _, rfl, hP.inst, kl.P, kl.p2, fP_2, _, rfl, L.sta, _, _, a, rfl, rfl, hP.sta, ixN_of rfl (by rw [nv_len]; exact ha), ?_⟩
        have fr : Fr L (· = .sta) H (upd H L.sta (.lst ((nv s.staged).set a (V.int (b : Int))))) := Fr.wr hP.ok.rsta
        have hP1 := hP.on_sta fr (l := s.staged.set a b) (by
          show upd H L.sta _ L.sta = _
          rw [upd_same]
          unfold nv
          rw [List.map_set])
        exact ⟨_, rfl, (by show 1 ≤ sizeLine; decide), fun t ht => fin k es hP1 (fr.kp (fun z => nomatch z)) ht rfl⟩
theorem ok_publish (G : Gf K mg "publish" s_publish ["platform", "numbers", "rows"]) (T : Tx mg) (kl : Kl K cC cM cP) (c1 : Ca P w K mg base 1 "latest" ["platform"] (spLat cC cM cP)) : Ca P w K mg base 2 "publish" ["platform", "numbers", "rows"] (spDeed cC cM cP 2) := by
  refine ca_of G sc_publish deed_len (fun f cdv A outer s0 H vs Q E hr h => ?_)
  obtain ⟨L, s, N, na, ra, ns, rs, rq, rfl, hP, g, hN, hna, hra, hq, k⟩ := h
  cases hq with
  | publish =>
    refine ⟨_, pss_cons (ps_if (pt_cmpR op_eq (pe_callB call_len_seq (by rfl) T.len PySem.boot_len (pa_cons (pe_fld (pv 0) rfl) pa_nil)) (pe_k rfl T.MOST_VERSIONS) (nomark _)) (pss_one (ps_ret (pe_lst (pa_cons (pe_un un_neg pe_int) pa_nil)))) pss_nil)
      (pss_cons (ps_expr (pe_bm PySem.F.plainAttrs_list PySem.F.slot_list_append PySem.F.type_list_append mt_append (pe_fld (pv 0) rfl) (pa_cons (pe_callTy call_list_of (by rfl) T.list (by decide +kernel) (pa_cons (pe_fld (pv 0) rfl) pa_nil)) pa_nil)))
      (pss_one (ps_ret (pe_lst (pa_cons (pe_ca c1 hr (by decide) rfl (pa_cons (pv 0) pa_nil)) pa_nil))))), ?_⟩
    obtain ⟨va, h1, l1, h3⟩ := hP.ver
    have v20 := g.v20
    have es : Kex8.step (some s) .publish = if 20 ≤ s.versions.length then (some s, .value (-28)) else (some { s with versions := s.versions ++ [s.staged] }, .value (s.versions.length : Nat)) := rfl
    refine ⟨_, rfl, L.p, cP, L.dx, _, _, rfl, hP.inst, kl.P, kl.p1, fP_1, L.ver, _, rfl, .inl (SqL.of h1), rfl, _, rfl, ?_⟩
    rw [List.length_map, l1]
    refine itd (fun z => ?_) (fun z => ?_)
    · have e := int_eq z
      rw [if_pos (by omega)] at es
      exact ⟨_, rfl, (by show 1 ≤ sizeLine; decide), fun t ht => fin k es hP (Fr.refl L _ H) ht rfl⟩
    · have e := int_ne z
      rw [if_neg (by omega)] at es
      refine ⟨_, rfl, L.p, cP, L.dx, _, _, rfl, hP.inst, kl.P, kl.p1, fP_1, .inl ⟨rfl, _, SqL.of h1⟩, _, rfl, L.p, cP, L.dx, _, _, rfl, hP.inst, kl.P, kl.p2, fP_2, L.sta, _, rfl, .inl (SqL.of hP.sta), fun p hp => ?_⟩
      have s1 : Same H (upd H p (.lst (nv s.staged))) := same_new hp
      refine ⟨L.ver, _, _, rfl, rfl, s1 _ _ h1, (by rw [List.length_map, l1]; exact big_line' (by omega)), ?_⟩
      have f2 : Fr L (· = .ver) (upd H p (.lst (nv s.staged))) (upd (upd H p (.lst (nv s.staged))) L.ver (.lst (va.map V.ref ++ [V.ref p]))) := Fr.wr hP.ok.rver
      have rp := hP.nr hp
      have hP2 := (hP.same s1).on_ver f2 (VerAt.snoc (c := s.staged) l1 h3 ((Fr.of_same s1).trans f2) upd_same (f2.fix upd_same rp) rp)
      have f02 : Kp L H _ := (Fr.of_same s1).trans (f2.kp (fun z => nomatch z))
      refine ⟨_, rfl, L, _, rfl, hP2, ?_, fun H3 s3 => ⟨(by show 1 ≤ sizeLine; decide), fun t ht => fin k es (hP2.same s3) (f02.trans (Fr.of_same s3)) ht ?_⟩⟩
      · rw [List.length_append]
        exact Nat.le_add_left _ _
      · have e3 : Kex8.latest { s with versions := s.versions ++ [s.staged] } = s.versions.length := by
          show (s.versions ++ [s.staged]).length - 1 = _
          rw [List.length_append, List.length_singleton]
          omega
        rw [e3]
        rfl
end
end Cs

/-! The operations that change the state, further. -/
namespace Cs
open PySem PySem.Spec PyProof.Rows L2
open PySem.W (Codec)
section
variable {P : Program} {w : World} {K : PySem.W.Frag} {mg : Str → Option Value} {base : Heap} {cC cM cP : Addr}
theorem ok_poll (G : Gf K mg "poll" s_poll ["platform", "numbers", "rows"]) (T : Tx mg) (kl : Kl K cC cM cP) (c1 : Ca P w K mg base 1 "has_client" ["platform", "number"] (spHas cC cM cP fun s => s.clients.length))
    (c2 : Ca P w K mg base 1 "is_full" ["platform"] (spFull cC cM cP)) (c4 : Ca P w K mg base 1 "send" ["platform", "message"] (spSend cC cM cP)) (mc : Mc P w K mg base 1 "Message" cM ["self", "form", "client", "number", "content"] (spMi cM)) :
    Ca P w K mg base 3 "poll" ["platform", "numbers", "rows"] (spDeed cC cM cP 3) := by
  refine ca_of G sc_poll deed_len (fun f cdv A outer s0 H vs Q E hr h => ?_)
  obtain ⟨L, s, N, na, ra, ns, rs, rq, rfl, hP, g, hN, hna, hra, hq, k⟩ := h
  cases hq with
  | poll a =>
    refine ⟨_, pss_cons (ps_if (pt_not (pt_val (pe_ca c1 hr (by decide) rfl (pa_cons (pv 0) (pa_cons (pe_ix ix_list (pv 1) pe_int (fun _ _ => rfl)) pa_nil))))) (pss_one (ps_ret (pe_lst (pa_cons (pe_un un_neg pe_int) pa_nil)))) pss_nil)
      (pss_cons (ps_if (pt_val (pe_ca c2 hr (by decide) rfl (pa_cons (pv 0) pa_nil))) (pss_one (ps_ret (pe_lst (pa_cons (pe_un un_neg pe_int) pa_nil)))) pss_nil)
      (pss_cons (ps_expr (pe_ca c4 hr (by decide) rfl (pa_cons (pv 0) (pa_cons (pe_mc mc hr (by decide) rfl (pa_cons (pe_k rfl T.REQUEST) (pa_cons (pe_ix ix_list (pv 1) pe_int (fun _ _ => rfl))
          (pa_cons (pe_fld (pe_ix ix_list (pe_fld (pv 0) rfl) (pe_ix ix_list (pv 1) pe_int (fun _ _ => rfl)) (fun _ _ => rfl)) rfl) (pa_cons (pe_lst pa_nil) pa_nil))))) pa_nil))))
      (pss_one (ps_ret (pe_lst (pa_cons (pe_callB call_len_seq (by rfl) T.len PySem.boot_len (pa_cons (pe_fld (pv 0) rfl) pa_nil)) pa_nil)))))), ?_⟩
    have es : Kex8.step (some s) (.poll a) = if s.clients.length ≤ a then (some s, .value (-2)) else if 30 ≤ s.channel.length then (some s, .value (-28)) else (some (Kex8.send s ⟨0, a, (Kex8.clientAt s a).version, []⟩), .value (s.channel.length + 1 : Nat)) := rfl
    refine ⟨_, rfl, _, rfl, na, _, _, _, rfl, rfl, SqL.of hna, at_of (j := 0) rfl rfl, L, s, a, rfl, hP, g.v1, fun H1 s1 => ⟨_, rfl, ?_⟩⟩
    have hP1 := hP.same s1
    refine itn (fun z => ?_) (fun z => ?_)
    · rw [if_pos (Nat.le_of_not_lt z)] at es
      exact ⟨_, rfl, (by show 1 ≤ sizeLine; decide), fun t ht => fin k es hP1 (Fr.of_same s1) ht rfl⟩
    · rw [if_neg (Nat.not_le_of_lt z)] at es
      refine ⟨_, rfl, L, s, rfl, hP1, g.ch, fun H2 s2 => ⟨_, rfl, ?_⟩⟩
      have s12 := s1.trans s2
      have hP2 := hP.same s12
      refine itd (fun yc => ?_) (fun yc => ?_)
      · rw [if_pos yc] at es
        exact ⟨_, rfl, (by show 1 ≤ sizeLine; decide), fun t ht => fin k es hP2 (Fr.of_same s12) ht rfl⟩
      · rw [if_neg yc] at es
        have hc := client_get z
        have ha : a < L.n := hP.lt hc
        have hna2 := s12 _ _ hna
        obtain ⟨q, _, _, ⟨⟨dx, g0, hi, rg0, lg0⟩, _, _⟩⟩ := hP2.client hc
        refine ⟨_, rfl, _, rfl, na, _, _, _, rfl, rfl, SqL.of hna2, at_of (j := 0) rfl rfl, _, rfl, L.p, cP, L.dx, _, _, rfl, hP2.inst, kl.P, kl.p3, fP_3, _, rfl, na, _, _, _, rfl, rfl, SqL.of hna2, at_of (j := 0) rfl rfl,
          L.cli, _, _, _, rfl, rfl, SqL.of hP2.cli, at_of (j := a) rfl (cli_get ha), L.cs a, cC, dx, _, _, rfl, hi, kl.C, kl.c1, fC_1, Nat.zero_le _, fun p3 n3 => ?_⟩
        have s3 : Same H2 (upd H2 p3 (.lst [])) := same_new n3
        have hP3 := hP2.same s3
        intro y dy hy hdy ndy
        refine ⟨y, dy, 0, a, (Kex8.clientAt s a).version, p3, rfl, upd_same, fun H5 s5 iy => ⟨rfl, ?_⟩⟩
        have s35 : Same (upd H2 p3 (.lst [])) H5 := Same.made hy hdy s5
        refine ⟨L, s, y, ⟨0, a, (Kex8.clientAt s a).version, []⟩, rfl, hP3.same s35, ⟨dy, p3, iy, hP3.nr hy, s35 _ _ upd_same, hP2.nr n3⟩, g.ch, fun H6 hP6 fr => ?_⟩
        have f6 : Kp L H H6 := (Fr.of_same (s12.trans (s3.trans s35))).trans (fr.kp (fun z => nomatch z))
        obtain ⟨ma, h1, l1, _⟩ := hP6.chn
        refine ⟨_, rfl, L.p, cP, L.dx, _, _, rfl, hP6.inst, kl.P, kl.p4, fP_4, L.chn, _, rfl, .inl (SqL.of h1), (by show 1 ≤ sizeLine; decide), fun t ht => fin k es hP6 f6 ht ?_⟩
        rw [List.length_map, l1]
        unfold Kex8.send
        rw [if_neg (show ¬ Kex8.maxChannel ≤ s.channel.length from yc)]
        show [V.int (((s.channel ++ [_]).length : Nat) : Int)] = _
        rw [List.length_append]
        rfl
theorem ok_expose (G : Gf K mg "expose" s_expose ["platform", "numbers", "rows"]) (T : Tx mg) (kl : Kl K cC cM cP) (c1 : Ca P w K mg base 1 "has_client" ["platform", "number"] (spHas cC cM cP fun s => s.clients.length))
    (c2 : Ca P w K mg base 1 "pending_count" ["client"] (spPend cC cM cP)) : Ca P w K mg base 2 "expose" ["platform", "numbers", "rows"] (spDeed cC cM cP 4) := by
  refine ca_of G sc_expose deed_len (fun f cdv A outer s0 H vs Q E hr h => ?_)
  obtain ⟨L, s, N, na, ra, ns, rs, rq, rfl, hP, g, hN, hna, hra, hq, k⟩ := h
  cases hq with
  | expose a b =>
    have nd := sc_expose.nd
    refine ⟨_, pss_cons (ps_asg (pv 1) (pg_unl rfl (pgs_cons (pg_name (i := 3) nd rfl (.inl rfl)) (pgs_cons (pg_name (i := 4) nd rfl (.inl rfl)) pgs_nil))))
      (pss_cons (ps_if (pt_not (pt_val (pe_ca c1 hr (by decide) rfl (pa_cons (pv 0) (pa_cons (pv 3) pa_nil))))) (pss_one (ps_ret (pe_lst (pa_cons (pe_un un_neg pe_int) pa_nil)))) pss_nil)
      (pss_cons (ps_if (pt_cmpR op_gt (pv 4) pe_int (nomark _)) (pss_one (ps_ret (pe_lst (pa_cons (pe_un un_neg pe_int) pa_nil)))) pss_nil)
      (pss_cons (ps_set (i := 5) nd rfl (.inl rfl) (pe_ix ix_list (pe_fld (pv 0) rfl) (pv 3) (fun _ _ => rfl)))
      (pss_cons (ps_if (pt_cmpR op_eq (pe_ca c2 hr (by decide) rfl (pa_cons (pv 5) pa_nil)) (pe_k rfl T.MOST_PENDING) (nomark _)) (pss_one (ps_ret (pe_lst (pa_cons (pe_un un_neg pe_int) pa_nil)))) pss_nil)
      (pss_cons (ps_expr (pe_bm PySem.F.plainAttrs_list PySem.F.slot_list_append PySem.F.type_list_append mt_append (pe_fld (pv 5) rfl) (pa_cons (pv 4) pa_nil)))
      (pss_one (ps_ret (pe_lst (pa_cons (pe_op op_sub (pe_callB call_len_seq (by rfl) T.len PySem.boot_len (pa_cons (pe_fld (pv 5) rfl) pa_nil)) pe_int) pa_nil))))))))), ?_⟩
    have es : Kex8.step (some s) (.expose a b) = if s.clients.length ≤ a then (some s, .value (-2)) else if 255 < b then (some s, .value (-22)) else if 12 ≤ (Kex8.pending (Kex8.clientAt s a)).length then (some s, .value (-28)) else
      (some (Kex8.withClient s a { Kex8.clientAt s a with exposures := (Kex8.clientAt s a).exposures ++ [b] }), .value ((Kex8.clientAt s a).exposures.length : Nat)) := rfl
    refine ⟨_, rfl, na, _, rfl, SqL.of hna, rfl, _, _, rfl, _, _, rfl, rfl, ?_⟩
    refine ⟨_, rfl, _, rfl, L, s, a, rfl, hP, g.v1, fun H1 s1 => ⟨_, rfl, ?_⟩⟩
    have hP1 := hP.same s1
    refine itn (fun z => ?_) (fun z => ?_)
    · rw [if_pos (Nat.le_of_not_lt z)] at es
      exact ⟨_, rfl, (by show 1 ≤ sizeLine; decide), fun t ht => fin k es hP1 (Fr.of_same s1) ht rfl⟩
    · rw [if_neg (Nat.not_le_of_lt z)] at es
      refine ⟨_, rfl, _, _, rfl, rfl, _, rfl, ?_⟩
      refine itd (fun y => ?_) (fun y => ?_)
      · rw [if_pos (by omega)] at es
        exact ⟨_, rfl, (by show 1 ≤ sizeLine; decide), fun t ht => fin k es hP1 (Fr.of_same s1) ht rfl⟩
      · rw [if_neg (by omega)] at es
        have hc := client_get z
        have gc := g.cl _ (client_mem z)
        have ha : a < L.n := hP.lt hc
        refine ⟨_, rfl, L.p, cP, L.dx, _, _, rfl, hP1.inst, kl.P, kl.p3, fP_3, _, rfl, L.cli, _, _, _, rfl, rfl, SqL.of hP1.cli, at_of (j := a) rfl (cli_get ha), ?_⟩
        refine ⟨_, rfl, L, s, a, _, rfl, hP1, hc, gc.ack, fun H2 s2 => ⟨rfl, _, rfl, ?_⟩⟩
        have s12 := s1.trans s2
        have hP2 := hP.same s12
        have pl : (Kex8.pending (Kex8.clientAt s a)).length = (Kex8.clientAt s a).exposures.length - (Kex8.clientAt s a).acknowledged := by
          unfold Kex8.pending
          rw [List.length_drop]
        have gp := gc.pen
        have gl := gc.len
        refine itd (fun x => ?_) (fun x => ?_)
        · have e := int_eq x
          rw [if_pos (by omega)] at es
          exact ⟨_, rfl, (by show 1 ≤ sizeLine; decide), fun t ht => fin k es hP2 (Fr.of_same s12) ht rfl⟩
        · have e := int_ne x
          rw [if_neg (by omega)] at es
          obtain ⟨q, _, _, ⟨⟨dx, g0, hi, rg0, lg0⟩, hex, _⟩⟩ := hP2.client hc
          generalize Kex8.clientAt s a = c at hc gc hi lg0 hex es pl gp gl
          refine ⟨_, rfl, L.cs a, cC, dx, _, _, rfl, hi, kl.C, kl.c3, fC_3, .inl ⟨rfl, _, SqL.of hex⟩, _, rfl, L.es a, _, _, rfl, rfl, hex, (by rw [nv_len]; exact big_line' (by omega)), ?_⟩
          have f3 : Fr L (· = .ex a) H2 (upd H2 (L.es a) (.lst (nv c.exposures ++ [V.int (b : Int)]))) := Fr.wr (hP.ok.res _ ha)
          have hP3 := hP2.on_ex hc f3 (x := c.exposures ++ [b]) ln_snoc
          have k3 : LN (upd H2 (L.es a) (.lst (nv c.exposures ++ [V.int (b : Int)]))) (L.es a) (c.exposures ++ [b]) := ln_snoc
          refine ⟨_, rfl, L.cs a, cC, dx, _, _, rfl, f3.role hi (hP.ok.rcs _ ha) (fun z => nomatch z), kl.C, kl.c3, fC_3, L.es a, _, rfl, .inl (SqL.of k3), _, _, rfl, rfl, (by show 1 ≤ sizeLine; decide), fun t ht => fin k es hP3 ((Fr.of_same s12).trans (f3.kp (fun z => nomatch z))) ht ?_⟩
          have e2 : (((nv (c.exposures ++ [b])).length : Nat) : Int) - 1 = ((c.exposures.length : Nat) : Int) := by
            rw [nv_len, List.length_append, List.length_singleton]
            omega
          show [V.int ((((nv (c.exposures ++ [b])).length : Nat) : Int) - 1)] = _
          rw [e2]
          rfl
theorem ok_flush_client (G : Gf K mg "flush_client" s_flush_client ["platform", "numbers", "rows"]) (T : Tx mg) (kl : Kl K cC cM cP) (c1 : Ca P w K mg base 1 "has_client" ["platform", "number"] (spHas cC cM cP fun s => s.clients.length))
    (c2 : Ca P w K mg base 1 "pending_count" ["client"] (spPend cC cM cP)) (c3 : Ca P w K mg base 1 "is_full" ["platform"] (spFull cC cM cP)) (c4 : Ca P w K mg base 1 "send" ["platform", "message"] (spSend cC cM cP))
    (mc : Mc P w K mg base 1 "Message" cM ["self", "form", "client", "number", "content"] (spMi cM)) : Ca P w K mg base 3 "flush_client" ["platform", "numbers", "rows"] (spDeed cC cM cP 5) := by
  refine ca_of G sc_flush_client deed_len (fun f cdv A outer s0 H vs Q E hr h => ?_)
  obtain ⟨L, s, N, na, ra, ns, rs, rq, rfl, hP, g, hN, hna, hra, hq, k⟩ := h
  cases hq with
  | flush a =>
    have nd := sc_flush_client.nd
    refine ⟨_, pss_cons (ps_if (pt_not (pt_val (pe_ca c1 hr (by decide) rfl (pa_cons (pv 0) (pa_cons (pe_ix ix_list (pv 1) pe_int (fun _ _ => rfl)) pa_nil))))) (pss_one (ps_ret (pe_lst (pa_cons (pe_un un_neg pe_int) pa_nil)))) pss_nil)
      (pss_cons (ps_set (i := 3) nd rfl (.inl rfl) (pe_ix ix_list (pe_fld (pv 0) rfl) (pe_ix ix_list (pv 1) pe_int (fun _ _ => rfl)) (fun _ _ => rfl)))
      (pss_cons (ps_if (pt_cmpR op_eq (pe_ca c2 hr (by decide) rfl (pa_cons (pv 3) pa_nil)) pe_int (nomark _)) (pss_one (ps_ret (pe_lst (pa_cons (pe_un un_neg pe_int) pa_nil)))) pss_nil)
      (pss_cons (ps_if (pt_val (pe_ca c3 hr (by decide) rfl (pa_cons (pv 0) pa_nil))) (pss_one (ps_ret (pe_lst (pa_cons (pe_un un_neg pe_int) pa_nil)))) pss_nil)
      (pss_cons (ps_set (i := 4) nd rfl (.inl rfl) (pe_slice sl_list (pe_fld (pv 3) rfl) (po_some (pe_fld (pv 3) rfl)) (po_some (pe_op op_add (pe_fld (pv 3) rfl) (pe_k rfl T.MOST_BATCH)))))
      (pss_cons (ps_expr (pe_ca c4 hr (by decide) rfl (pa_cons (pv 0) (pa_cons (pe_mc mc hr (by decide) rfl (pa_cons (pe_k rfl T.BATCH) (pa_cons (pe_ix ix_list (pv 1) pe_int (fun _ _ => rfl)) (pa_cons (pe_fld (pv 3) rfl) (pa_cons (pv 4) pa_nil))))) pa_nil))))
      (pss_one (ps_ret (pe_lst (pa_cons (pe_callB call_len_seq (by rfl) T.len PySem.boot_len (pa_cons (pv 4) pa_nil)) pa_nil))))))))), ?_⟩
    have es : Kex8.step (some s) (.flushClient a) = if s.clients.length ≤ a then (some s, .value (-2)) else if (Kex8.pending (Kex8.clientAt s a)).isEmpty then (some s, .value (-6)) else if 30 ≤ s.channel.length then (some s, .value (-28)) else
      (some (Kex8.send s ⟨3, a, (Kex8.clientAt s a).acknowledged, (Kex8.pending (Kex8.clientAt s a)).take 5⟩), .value (((Kex8.pending (Kex8.clientAt s a)).take 5).length : Nat)) := rfl
    refine ⟨_, rfl, _, rfl, na, _, _, _, rfl, rfl, SqL.of hna, at_of (j := 0) rfl rfl, L, s, a, rfl, hP, g.v1, fun H1 s1 => ⟨_, rfl, ?_⟩⟩
    have hP1 := hP.same s1
    refine itn (fun z => ?_) (fun z => ?_)
    · rw [if_pos (Nat.le_of_not_lt z)] at es
      exact ⟨_, rfl, (by show 1 ≤ sizeLine; decide), fun t ht => fin k es hP1 (Fr.of_same s1) ht rfl⟩
    · rw [if_neg (Nat.not_le_of_lt z)] at es
      have hc := client_get z
      have gc := g.cl _ (client_mem z)
      have ha : a < L.n := hP.lt hc
      refine ⟨_, rfl, L.p, cP, L.dx, _, _, rfl, hP1.inst, kl.P, kl.p3, fP_3, _, rfl, na, _, _, _, rfl, rfl, SqL.of (s1 _ _ hna), at_of (j := 0) rfl rfl, L.cli, _, _, _, rfl, rfl, SqL.of hP1.cli, at_of (j := a) rfl (cli_get ha), ?_⟩
      refine ⟨_, rfl, L, s, a, _, rfl, hP1, hc, gc.ack, fun H2 s2 => ⟨rfl, _, rfl, ?_⟩⟩
      have s12 := s1.trans s2
      have hP2 := hP.same s12
      refine itd (fun x => ?_) (fun x => ?_)
      · have e := int_eq x
        have e2 : (Kex8.pending (Kex8.clientAt s a)).isEmpty = true := by
          rw [List.isEmpty_iff]
          exact List.length_eq_zero_iff.mp (by omega)
        rw [if_pos e2] at es
        exact ⟨_, rfl, (by show 1 ≤ sizeLine; decide), fun t ht => fin k es hP2 (Fr.of_same s12) ht rfl⟩
      · have e := int_ne x
        have e2 : ¬ (Kex8.pending (Kex8.clientAt s a)).isEmpty = true := fun u => e (by rw [List.isEmpty_iff.mp u]; rfl)
        rw [if_neg e2] at es
        refine ⟨_, rfl, L, s, rfl, hP2, g.ch, fun H3 s3 => ⟨_, rfl, ?_⟩⟩
        have s13 := s12.trans s3
        have hP3 := hP.same s13
        refine itd (fun y => ?_) (fun y => ?_)
        · rw [if_pos y] at es
          exact ⟨_, rfl, (by show 1 ≤ sizeLine; decide), fun t ht => fin k es hP3 (Fr.of_same s13) ht rfl⟩
        · rw [if_neg y] at es
          obtain ⟨q, _, _, ⟨⟨dx, g0, hi, rg0, lg0⟩, hex, _⟩⟩ := hP3.client hc
          generalize Kex8.clientAt s a = c at hc gc hi lg0 hex es e e2
          refine ⟨_, rfl, L.cs a, cC, dx, _, _, rfl, hi, kl.C, kl.c3, fC_3, _, rfl, L.cs a, cC, dx, _, _, rfl, hi, kl.C, kl.c4, fC_4, _, rfl, _, rfl, L.cs a, cC, dx, _, _, rfl, hi, kl.C, kl.c4, fC_4, _, _, rfl, rfl, _, rfl, L.es a, _, rfl, SqL.of hex, fun p1 n1 => ?_⟩
          rw [cut_nn (i := c.acknowledged) (j := c.acknowledged + 5) rfl (by omega), show c.acknowledged + 5 - c.acknowledged = 5 by omega]
          have s4 : Same H3 (upd H3 p1 (.lst (nv ((c.exposures.drop c.acknowledged).take 5)))) := same_new n1
          have lp : LN (upd H3 p1 (.lst (nv ((c.exposures.drop c.acknowledged).take 5)))) p1 ((c.exposures.drop c.acknowledged).take 5) := upd_same
          have rp : L.rho p1 = none := hP3.nr n1
          have s14 := s13.trans s4
          generalize upd H3 p1 (.lst (nv ((c.exposures.drop c.acknowledged).take 5))) = H4 at s4 lp s14 ⊢
          have hP4 := hP.same s14
          refine ⟨_, rfl, _, rfl, na, _, _, _, rfl, rfl, SqL.of (s14 _ _ hna), at_of (j := 0) rfl rfl, _, rfl, L.cs a, cC, dx, _, _, rfl, s4 _ _ hi, kl.C, kl.c4, fC_4, _, rfl, ?_⟩
          intro y1 dy hy hdy ndy
          refine ⟨y1, dy, 3, a, c.acknowledged, p1, rfl, upd_same, fun H5 s5 iy => ⟨rfl, ?_⟩⟩
          have s45 : Same H4 H5 := Same.made hy hdy s5
          refine ⟨L, s, y1, ⟨3, a, c.acknowledged, (c.exposures.drop c.acknowledged).take 5⟩, rfl, hP4.same s45, ⟨dy, p1, iy, hP4.nr hy, s45 _ _ lp, rp⟩, g.ch, fun H6 hP6 fr => ?_⟩
          have f6 : Kp L H H6 := (Fr.of_same (s14.trans s45)).trans (fr.kp (fun z => nomatch z))
          refine ⟨_, rfl, p1, _, rfl, .inl (SqL.of (fr.fix (s45 _ _ lp) rp)), (by show 1 ≤ sizeLine; decide), fun t ht => fin k es hP6 f6 ht ?_⟩
          rw [nv_len]
          rfl
theorem ok_deliver (G : Gf K mg "deliver" s_deliver ["platform", "numbers", "rows"]) (c1 : Ca P w K mg base 1 "has_message" ["platform", "index"] (spHas cC cM cP fun s => s.channel.length))
    (c2 : Ca P w K mg base 1 "take_first" ["platform", "index"] (spTf cC cM cP)) (c3 : Ca P w K mg base 5 "receive" ["platform", "message"] (spRecv cC cM cP (fun _ => True))) : Ca P w K mg base 6 "deliver" ["platform", "numbers", "rows"] (spDeed cC cM cP 6) := by
  refine ca_of G sc_deliver deed_len (fun f cdv A outer s0 H vs Q E hr h => ?_)
  obtain ⟨L, s, N, na, ra, ns, rs, rq, rfl, hP, g, hN, hna, hra, hq, k⟩ := h
  cases hq with
  | deliver a =>
    refine ⟨_, pss_cons (ps_if (pt_not (pt_val (pe_ca c1 hr (by decide) rfl (pa_cons (pv 0) (pa_cons (pe_ix ix_list (pv 1) pe_int (fun _ _ => rfl)) pa_nil))))) (pss_one (ps_ret (pe_lst (pa_cons (pe_un un_neg pe_int) pa_nil)))) pss_nil)
      (pss_one (ps_ret (pe_lst (pa_cons (pe_ca c3 hr (by decide) rfl (pa_cons (pv 0) (pa_cons (pe_ca c2 hr (by decide) rfl (pa_cons (pv 0) (pa_cons (pe_ix ix_list (pv 1) pe_int (fun _ _ => rfl)) pa_nil))) pa_nil))) pa_nil)))), ?_⟩
    have es : Kex8.step (some s) (.deliver a) = match s.channel[a]? with
      | none => (some s, .value (-2))
      | some m => (some (Kex8.receive { s with channel := s.channel.eraseIdx a } m).1, .value ((Kex8.receive { s with channel := s.channel.eraseIdx a } m).2 : Nat)) := rfl
    refine ⟨_, rfl, _, rfl, na, _, _, _, rfl, rfl, SqL.of hna, at_of (j := 0) rfl rfl, L, s, a, rfl, hP, g.v1, fun H1 s1 => ⟨_, rfl, ?_⟩⟩
    have hP1 := hP.same s1
    refine itn (fun z => ?_) (fun z => ?_)
    · rw [List.getElem?_eq_none (Nat.le_of_not_lt z)] at es
      exact ⟨_, rfl, (by show 1 ≤ sizeLine; decide), fun t ht => fin k es hP1 (Fr.of_same s1) ht rfl⟩
    · have hx : s.channel[a]? = some s.channel[a] := List.getElem?_eq_getElem z
      generalize s.channel[a] = x at hx
      rw [hx] at es
      have mo := g.ms x (List.mem_of_getElem? hx)
      refine ⟨_, rfl, _, rfl, _, rfl, na, _, _, _, rfl, rfl, SqL.of (s1 _ _ hna), at_of (j := 0) rfl rfl, L, s, a, x, rfl, hP1, g.ch, hx, fun H2 m hm hP2 f2 => ?_⟩
      refine ⟨L, _, N, m, x, rfl, hP2, g.on_erase, by omega, hm, mo, trivial, fun H3 hP3 f3 => ?_⟩
      exact ⟨(by show 1 ≤ sizeLine; decide), fun t ht => fin k es hP3 (((Fr.of_same s1).trans (f2.kp (fun z => nomatch z))).trans f3) ht rfl⟩
theorem ok_deliver_copy (G : Gf K mg "deliver_copy" s_deliver_copy ["platform", "numbers", "rows"]) (kl : Kl K cC cM cP) (c1 : Ca P w K mg base 1 "has_message" ["platform", "index"] (spHas cC cM cP fun s => s.channel.length))
    (c3 : Ca P w K mg base 5 "receive" ["platform", "message"] (spRecv cC cM cP (fun _ => True))) : Ca P w K mg base 6 "deliver_copy" ["platform", "numbers", "rows"] (spDeed cC cM cP 7) := by
  refine ca_of G sc_deliver_copy deed_len (fun f cdv A outer s0 H vs Q E hr h => ?_)
  obtain ⟨L, s, N, na, ra, ns, rs, rq, rfl, hP, g, hN, hna, hra, hq, k⟩ := h
  cases hq with
  | copy a =>
    refine ⟨_, pss_cons (ps_if (pt_not (pt_val (pe_ca c1 hr (by decide) rfl (pa_cons (pv 0) (pa_cons (pe_ix ix_list (pv 1) pe_int (fun _ _ => rfl)) pa_nil))))) (pss_one (ps_ret (pe_lst (pa_cons (pe_un un_neg pe_int) pa_nil)))) pss_nil)
      (pss_one (ps_ret (pe_lst (pa_cons (pe_ca c3 hr (by decide) rfl (pa_cons (pv 0) (pa_cons (pe_ix ix_list (pe_fld (pv 0) rfl) (pe_ix ix_list (pv 1) pe_int (fun _ _ => rfl)) (fun _ _ => rfl)) pa_nil))) pa_nil)))), ?_⟩
    have es : Kex8.step (some s) (.deliverCopy a) = match s.channel[a]? with
      | none => (some s, .value (-2))
      | some m => (some (Kex8.receive s m).1, .value ((Kex8.receive s m).2 : Nat)) := rfl
    refine ⟨_, rfl, _, rfl, na, _, _, _, rfl, rfl, SqL.of hna, at_of (j := 0) rfl rfl, L, s, a, rfl, hP, g.v1, fun H1 s1 => ⟨_, rfl, ?_⟩⟩
    have hP1 := hP.same s1
    refine itn (fun z => ?_) (fun z => ?_)
    · rw [List.getElem?_eq_none (Nat.le_of_not_lt z)] at es
      exact ⟨_, rfl, (by show 1 ≤ sizeLine; decide), fun t ht => fin k es hP1 (Fr.of_same s1) ht rfl⟩
    · have hx : s.channel[a]? = some s.channel[a] := List.getElem?_eq_getElem z
      generalize s.channel[a] = x at hx
      rw [hx] at es
      have mo := g.ms x (List.mem_of_getElem? hx)
      obtain ⟨ma, h1, l1, h3⟩ := hP1.chn
      obtain ⟨m, hm⟩ : ∃ m, ma[a]? = some m := ⟨_, List.getElem?_eq_getElem (by rw [l1]; exact z)⟩
      refine ⟨_, rfl, _, rfl, L.p, cP, L.dx, _, _, rfl, hP1.inst, kl.P, kl.p4, fP_4, _, rfl, na, _, _, _, rfl, rfl, SqL.of (s1 _ _ hna), at_of (j := 0) rfl rfl, L.chn, _, _, _, rfl, rfl, SqL.of h1, at_of (j := a) rfl (ref_get hm), ?_⟩
      refine ⟨L, s, N, m, x, rfl, hP1, g, by omega, h3 a m x hm hx, mo, trivial, fun H3 hP3 f3 => ?_⟩
      exact ⟨(by show 1 ≤ sizeLine; decide), fun t ht => fin k es hP3 ((Fr.of_same s1).trans f3) ht rfl⟩
theorem ok_drop (G : Gf K mg "drop" s_drop ["platform", "numbers", "rows"]) (T : Tx mg) (kl : Kl K cC cM cP) (c1 : Ca P w K mg base 1 "has_message" ["platform", "index"] (spHas cC cM cP fun s => s.channel.length))
    (c2 : Ca P w K mg base 1 "take_first" ["platform", "index"] (spTf cC cM cP)) : Ca P w K mg base 2 "drop" ["platform", "numbers", "rows"] (spDeed cC cM cP 8) := by
  refine ca_of G sc_drop deed_len (fun f cdv A outer s0 H vs Q E hr h => ?_)
  obtain ⟨L, s, N, na, ra, ns, rs, rq, rfl, hP, g, hN, hna, hra, hq, k⟩ := h
  cases hq with
  | drop a =>
    refine ⟨_, pss_cons (ps_if (pt_not (pt_val (pe_ca c1 hr (by decide) rfl (pa_cons (pv 0) (pa_cons (pe_ix ix_list (pv 1) pe_int (fun _ _ => rfl)) pa_nil))))) (pss_one (ps_ret (pe_lst (pa_cons (pe_un un_neg pe_int) pa_nil)))) pss_nil)
      (pss_cons (ps_expr (pe_ca c2 hr (by decide) rfl (pa_cons (pv 0) (pa_cons (pe_ix ix_list (pv 1) pe_int (fun _ _ => rfl)) pa_nil))))
      (pss_one (ps_ret (pe_lst (pa_cons (pe_callB call_len_seq (by rfl) T.len PySem.boot_len (pa_cons (pe_fld (pv 0) rfl) pa_nil)) pa_nil))))), ?_⟩
    have es : Kex8.step (some s) (.drop a) = if s.channel.length ≤ a then (some s, .value (-2)) else (some { s with channel := s.channel.eraseIdx a }, .value (s.channel.length - 1 : Nat)) := rfl
    refine ⟨_, rfl, _, rfl, na, _, _, _, rfl, rfl, SqL.of hna, at_of (j := 0) rfl rfl, L, s, a, rfl, hP, g.v1, fun H1 s1 => ⟨_, rfl, ?_⟩⟩
    have hP1 := hP.same s1
    refine itn (fun z => ?_) (fun z => ?_)
    · rw [if_pos (Nat.le_of_not_lt z)] at es
      exact ⟨_, rfl, (by show 1 ≤ sizeLine; decide), fun t ht => fin k es hP1 (Fr.of_same s1) ht rfl⟩
    · rw [if_neg (Nat.not_le_of_lt z)] at es
      have hx : s.channel[a]? = some s.channel[a] := List.getElem?_eq_getElem z
      generalize s.channel[a] = x at hx
      refine ⟨_, rfl, _, rfl, na, _, _, _, rfl, rfl, SqL.of (s1 _ _ hna), at_of (j := 0) rfl rfl, L, s, a, x, rfl, hP1, g.ch, hx, fun H2 m hm hP2 f2 => ?_⟩
      obtain ⟨ma, h1, l1, h3⟩ := hP2.chn
      refine ⟨_, rfl, L.p, cP, L.dx, _, _, rfl, hP2.inst, kl.P, kl.p4, fP_4, L.chn, _, rfl, .inl (SqL.of h1), (by show 1 ≤ sizeLine; decide), fun t ht => fin k es hP2 ((Fr.of_same s1).trans (f2.kp (fun z => nomatch z))) ht ?_⟩
      rw [List.length_map, l1]
      show [V.int (((s.channel.eraseIdx a).length : Nat) : Int)] = _
      rw [List.length_eraseIdx, if_pos z]
      rfl
theorem drain_nil {f : Nat} {s : Kex8.System} (h : s.channel = []) : Kex8.drain f s = (s, 0) := by
  cases f with
  | zero => rfl
  | succ f =>
    unfold Kex8.drain
    rw [h]
theorem drain_cons {f : Nat} {s : Kex8.System} {m : Kex8.Message} {r : List Kex8.Message} (h : s.channel = m :: r) : Kex8.drain (f + 1) s = ((Kex8.drain f (Kex8.receive { s with channel := r } m).1).1, (Kex8.drain f (Kex8.receive { s with channel := r } m).1).2 + 1) := by
  conv => lhs; unfold Kex8.drain
  rw [h]
theorem ok_drain (G : Gf K mg "drain" s_drain ["platform", "numbers", "rows"]) (T : Tx mg) (kl : Kl K cC cM cP) (c2 : Ca P w K mg base 1 "take_first" ["platform", "index"] (spTf cC cM cP))
    (c3 : Ca P w K mg base 5 "receive" ["platform", "message"] (spRecv cC cM cP (fun _ => True))) : Ca P w K mg base 6 "drain" ["platform", "numbers", "rows"] (spDeed cC cM cP 9) := by
  refine ca_of G sc_drain deed_len (fun f cdv A outer s0 H vs Q E hr h => ?_)
  obtain ⟨L, s, N, na, ra, ns, rs, rq, rfl, hP, g, hN, hna, hra, hq, k⟩ := h
  cases hq with
  | drain =>
    have nd := sc_drain.nd
    refine ⟨_, pss_cons (ps_set (i := 3) nd rfl (.inl rfl) pe_int)
      (pss_cons (ps_while PassesOwn.never (PW.pt (pw_and (pt_cmpR op_gt (pe_callB call_len_seq (by rfl) T.len PySem.boot_len (pa_cons (pe_fld (pv 0) rfl) pa_nil)) pe_int (nomark _)) (pw_and1 (pt_cmpR op_lt (pv 3) (pe_k rfl T.MOST_DRAINED) (nomark _)))))
        (pss_cons (ps_expr (pe_ca c3 hr (by decide) rfl (pa_cons (pv 0) (pa_cons (pe_ca c2 hr (by decide) rfl (pa_cons (pv 0) (pa_cons pe_int pa_nil))) pa_nil))))
        (pss_one (ps_aug (i := 3) nd rfl (.inl rfl) pe_int ip_add))))
      (pss_one (ps_ret (pe_lst (pa_cons (pv 3) pa_nil))))), ?_⟩
    have es : Kex8.step (some s) .drain = (some (Kex8.drain 100 s).1, .value ((Kex8.drain 100 s).2 : Nat)) := rfl
    refine ⟨fun m σ H' => ∃ (i : Nat) (s' : Kex8.System), m = 100 - i ∧ i ≤ 100 ∧ σ = [some (.ref L.p), some (.ref na), some (.ref ra), some (.int (i : Int))] ∧ Plat cC cM cP L H' s' ∧ Good (N + 5 * i) s' ∧ Kp L H H' ∧
        (Kex8.drain 100 s).1 = (Kex8.drain (100 - i) s').1 ∧ (Kex8.drain 100 s).2 = (Kex8.drain (100 - i) s').2 + i, ⟨_, 0, s, rfl, Nat.zero_le _, rfl, hP, g, Fr.refl L _ H, rfl, rfl⟩, ?_⟩
    rintro m σ H' ⟨i, s', rfl, hi, rfl, hP1, g1, f1, e1, e2⟩
    obtain ⟨ma, h1, l1, h3⟩ := hP1.chn
    have done : (100 - i = 0 ∨ s'.channel = []) → ∀ t, H' t = none → Q (.ref t) (upd H' t (.lst [V.int (i : Int)])) := fun hz t ht => by
      have e3 : Kex8.drain (100 - i) s' = (s', 0) := by
        rcases hz with z | z
        · rw [z]
          rfl
        · exact drain_nil z
      rw [e3] at e1 e2
      rw [e1, e2] at es
      refine fin k es hP1 f1 ht ?_
      show [V.int (i : Int)] = [V.int ((0 + i : Nat) : Int)]
      rw [Nat.zero_add]
    refine ⟨_, rfl, L.p, cP, L.dx, _, _, rfl, hP1.inst, kl.P, kl.p4, fP_4, L.chn, _, rfl, .inl (SqL.of h1), _, _, rfl, rfl, _, rfl, ?_⟩
    rw [List.length_map, l1]
    refine itd (fun z => ?_) (fun z => ?_)
    · refine ⟨_, rfl, _, _, rfl, rfl, _, rfl, ?_⟩
      refine itd (fun y => ?_) (fun y => ?_)
      · refine ⟨fun σ' H2 => ∃ m', m' < 100 - i ∧ ∃ (i : Nat) (s' : Kex8.System), m' = 100 - i ∧ i ≤ 100 ∧ σ' = [some (.ref L.p), some (.ref na), some (.ref ra), some (.int (i : Int))] ∧ Plat cC cM cP L H2 s' ∧ Good (N + 5 * i) s' ∧ Kp L H H2 ∧
          (Kex8.drain 100 s).1 = (Kex8.drain (100 - i) s').1 ∧ (Kex8.drain 100 s).2 = (Kex8.drain (100 - i) s').2 + i, fun _ _ z => z, ?_⟩
        cases hch : s'.channel with
        | nil =>
          rw [hch] at z
          exact absurd z (by decide)
        | cons x r =>
          have hx : s'.channel[0]? = some x := by rw [hch]; rfl
          have mo := g1.ms x (List.mem_of_getElem? hx)
          have er : s'.channel.eraseIdx 0 = r := by rw [hch]; rfl
          refine ⟨_, rfl, _, rfl, L, s', 0, x, rfl, hP1, g1.ch, hx, fun H2 m hm hP2 f2 => ?_⟩
          rw [er] at hP2
          have g2 : Good (N + 5 * i) { s' with channel := r } := by
            have := g1.on_erase (i := 0)
            rw [er] at this
            exact this
          refine ⟨L, _, N + 5 * i, m, x, rfl, hP2, g2, by omega, hm, mo, trivial, fun H3 hP3 f3 => ?_⟩
          refine ⟨_, rfl, _, _, rfl, rfl, ?_⟩
          obtain ⟨j, hj⟩ : ∃ j, 100 - i = j + 1 := ⟨100 - (i + 1), by omega⟩
          have ej : 100 - (i + 1) = j := by omega
          rw [hj, drain_cons hch] at e1 e2
          refine ⟨_, (by omega), i + 1, _, rfl, by omega, rfl, hP3, (g2.on_receive mo).mono (by omega), (f1.trans (f2.kp (fun z => nomatch z))).trans f3, ?_, ?_⟩
          · rw [ej]
            exact e1
          · rw [ej]
            rw [e2]
            omega
      · exact ⟨_, rfl, (by show 1 ≤ sizeLine; decide), fun t ht => done (.inl (by omega)) t ht⟩
    · have e0 : s'.channel = [] := List.length_eq_zero_iff.mp (by omega)
      exact ⟨_, rfl, (by show 1 ≤ sizeLine; decide), fun t ht => done (.inr e0) t ht⟩
theorem ok_forget (G : Gf K mg "forget" s_forget ["platform", "numbers", "rows"]) (T : Tx mg) (kl : Kl K cC cM cP) (c1 : Ca P w K mg base 1 "has_client" ["platform", "number"] (spHas cC cM cP fun s => s.clients.length)) :
    Ca P w K mg base 2 "forget" ["platform", "numbers", "rows"] (spDeed cC cM cP 10) := by
  refine ca_of G sc_forget deed_len (fun f cdv A outer s0 H vs Q E hr h => ?_)
  obtain ⟨L, s, N, na, ra, ns, rs, rq, rfl, hP, g, hN, hna, hra, hq, k⟩ := h
  cases hq with
  | forget a =>
    have nd := sc_forget.nd
    refine ⟨_, pss_cons (ps_if (pt_not (pt_val (pe_ca c1 hr (by decide) rfl (pa_cons (pv 0) (pa_cons (pe_ix ix_list (pv 1) pe_int (fun _ _ => rfl)) pa_nil))))) (pss_one (ps_ret (pe_lst (pa_cons (pe_un un_neg pe_int) pa_nil)))) pss_nil)
      (pss_cons (ps_set (i := 3) nd rfl (.inl rfl) (pe_ix ix_list (pe_fld (pv 0) rfl) (pe_ix ix_list (pv 1) pe_int (fun _ _ => rfl)) (fun _ _ => rfl)))
      (pss_cons (ps_set (i := 4) nd rfl (.inl rfl) (pe_fld (pv 3) rfl))
      (pss_cons (ps_fld (pv 3) pe_int rfl)
      (pss_cons (ps_fld (pv 3) (pe_op op_rep (pe_lst (pa_cons pe_int pa_nil)) (pe_k rfl T.KEYS)) rfl)
      (pss_one (ps_ret (pe_lst (pa_cons (pv 4) pa_nil)))))))), ?_⟩
    have es : Kex8.step (some s) (.forget a) = if s.clients.length ≤ a then (some s, .value (-2)) else (some (Kex8.withClient s a { Kex8.clientAt s a with version := 0, config := Kex8.emptyConfig }), .value ((Kex8.clientAt s a).version : Nat)) := rfl
    refine ⟨_, rfl, _, rfl, na, _, _, _, rfl, rfl, SqL.of hna, at_of (j := 0) rfl rfl, L, s, a, rfl, hP, g.v1, fun H1 s1 => ⟨_, rfl, ?_⟩⟩
    have hP1 := hP.same s1
    refine itn (fun z => ?_) (fun z => ?_)
    · rw [if_pos (Nat.le_of_not_lt z)] at es
      exact ⟨_, rfl, (by show 1 ≤ sizeLine; decide), fun t ht => fin k es hP1 (Fr.of_same s1) ht rfl⟩
    · rw [if_neg (Nat.not_le_of_lt z)] at es
      have hc := client_get z
      have ha : a < L.n := hP.lt hc
      have ra2 := hP.ok.rcs _ ha
      refine ⟨_, rfl, L.p, cP, L.dx, _, _, rfl, hP1.inst, kl.P, kl.p3, fP_3, _, rfl, na, _, _, _, rfl, rfl, SqL.of (s1 _ _ hna), at_of (j := 0) rfl rfl, L.cli, _, _, _, rfl, rfl, SqL.of hP1.cli, at_of (j := a) rfl (cli_get ha), ?_⟩
      obtain ⟨q, _, _, ⟨⟨dx, g0, hi, rg0, lg0⟩, hex, _⟩⟩ := hP1.client hc
      generalize Kex8.clientAt s a = c at hc hi lg0 hex es
      refine ⟨_, rfl, L.cs a, cC, dx, _, _, rfl, hi, kl.C, kl.c1, fC_1, ?_⟩
      refine ⟨_, rfl, L.cs a, cC, dx, _, rfl, hi, kl.C, kl.c1, (by show 5 < 1000; decide), ?_⟩
      rw [show putF "version" (.int 0) (fC c.version g0 (L.es a) c.acknowledged (L.ks a)) = fC 0 g0 (L.es a) c.acknowledged (L.ks a) from fC_p1 0]
      have f1 : Fr L (· = .cl a) H1 (upd H1 (L.cs a) (.ins cC dx (fC 0 g0 (L.es a) c.acknowledged (L.ks a)))) := Fr.wr ra2
      have i1 : upd H1 (L.cs a) (.ins cC dx (fC 0 g0 (L.es a) c.acknowledged (L.ks a))) (L.cs a) = some (.ins cC dx (fC 0 g0 (L.es a) c.acknowledged (L.ks a))) := upd_same
      generalize upd H1 (L.cs a) (.ins cC dx (fC 0 g0 (L.es a) c.acknowledged (L.ks a))) = H2 at f1 i1 ⊢
      refine ⟨(by show 1 ≤ sizeLine; decide), fun a0 h0 => ?_⟩
      refine ⟨a0, 16, _, rfl, rfl, upd_same, by decide, by decide, (by show 1 * 16 ≤ sizeLine; decide), fun p hp => ?_⟩
      rw [zeros_eq]
      have s3 : Same H2 (upd (upd H2 a0 (.lst [V.int 0])) p (.lst (nv Kex8.emptyConfig))) := (same_new h0).new hp
      have lp : LN (upd (upd H2 a0 (.lst [V.int 0])) p (.lst (nv Kex8.emptyConfig))) p Kex8.emptyConfig := upd_same
      have np : H2 p = none := (same_new h0).free hp
      generalize upd (upd H2 a0 (.lst [V.int 0])) p (.lst (nv Kex8.emptyConfig)) = H3 at s3 lp ⊢
      have rp : L.rho p = none := hP1.nr (f1.free np)
      refine ⟨_, rfl, L.cs a, cC, dx, _, rfl, s3 _ _ i1, kl.C, kl.c2, (by show 5 < 1000; decide), ?_⟩
      rw [fC_p2]
      have f4 : Fr L (· = .cl a) H3 (upd H3 (L.cs a) (.ins cC dx (fC 0 p (L.es a) c.acknowledged (L.ks a)))) := Fr.wr ra2
      have f14 := (f1.trans (Fr.of_same s3)).trans f4
      have hP4 := hP1.on_cl (c' := { c with version := 0, config := Kex8.emptyConfig }) hc f14 ⟨dx, p, upd_same, rp, f4.fix lp rp⟩ rfl
      exact ⟨_, rfl, (by show 1 ≤ sizeLine; decide), fun t ht => fin k es hP4 ((Fr.of_same s1).trans (f14.kp (fun z => nomatch z))) ht rfl⟩
end
end Cs

/-! The operations that ask. -/
namespace Cs
open PySem PySem.Spec PyProof.Rows L2
open PySem.W (Codec)
section
variable {P : Program} {w : World} {K : PySem.W.Frag} {mg : Str → Option Value} {base : Heap} {cC cM cP : Addr}
theorem ok_messages (G : Gf K mg "messages" s_messages ["platform", "numbers", "rows"]) (T : Tx mg) (kl : Kl K cC cM cP) : Ca P w K mg base 1 "messages" ["platform", "numbers", "rows"] (spDeed cC cM cP 11) := by
  refine ca_of G sc_messages deed_len (fun f cdv A outer s0 H vs Q E hr h => ?_)
  obtain ⟨L, s, N, na, ra, ns, rs, rq, rfl, hP, g, hN, hna, hra, hq, k⟩ := h
  cases hq with
  | messages =>
    have nd := sc_messages.nd
    refine ⟨_, pss_cons (ps_set (i := 3) nd rfl (.inl rfl) (pe_lst (pa_cons (pe_callB call_len_seq (by rfl) T.len PySem.boot_len (pa_cons (pe_fld (pv 0) rfl) pa_nil)) pa_nil)))
      (pss_cons (ps_for PassesOwn.never rfl (pi_list (pe_fld (pv 0) rfl)) (pg_name (i := 4) nd rfl (.inl rfl))
        (pss_one (ps_expr (pe_bm PySem.F.plainAttrs_list PySem.F.slot_list_extend PySem.F.type_list_extend mt_extend (pv 3) (pa_cons (pe_lst (pa_cons (pe_fld (pv 4) rfl) (pa_cons (pe_fld (pv 4) rfl) (pa_cons (pe_fld (pv 4) rfl)
          (pa_cons (pe_callB call_len_seq (by rfl) T.len PySem.boot_len (pa_cons (pe_fld (pv 4) rfl) pa_nil)) pa_nil))))) pa_nil)))))
      (pss_one (ps_ret (pv 3)))), ?_⟩
    have es : Kex8.step (some s) .messages = (some s, .values s.channel.length (Kex8.toInts (s.channel.flatMap fun m => [m.type, m.client, m.number, m.content.length]))) := rfl
    obtain ⟨ma, h1, l1, h3⟩ := hP.chn
    refine ⟨_, rfl, L.p, cP, L.dx, _, _, rfl, hP.inst, kl.P, kl.p4, fP_4, L.chn, _, rfl, .inl (SqL.of h1), (by show 1 ≤ sizeLine; decide), fun q hq => ?_⟩
    rw [List.length_map, l1]
    have s1 : Same H (upd H q (.lst [V.int (s.channel.length : Int)])) := same_new hq
    refine ⟨_, rfl, L.p, cP, L.dx, _, _, rfl, s1 _ _ hP.inst, kl.P, kl.p4, fP_4, L.chn, rfl, ⟨_, SqL.of (s1 _ _ h1)⟩, for_list (K := K) (a := L.chn) (xs := ma.map V.ref) (fun i σ H' => ∃ v4 : Option V, σ = [some (.ref L.p), some (.ref na), some (.ref ra), some (.ref q), v4] ∧ Same H H' ∧
        LN H' q (s.channel.length :: (s.channel.take i).flatMap fun m => [m.type, m.client, m.number, m.content.length]))
      ⟨none, rfl, s1, upd_same⟩ (fun i σ H' _ ⟨_, _, s2, _⟩ => SqL.of (s2 _ _ h1)) ?_ ?_⟩
    · rintro i x σ H' hx ⟨v4, rfl, s2, hl⟩
      obtain ⟨m, hm, rfl⟩ : ∃ m, ma[i]? = some m ∧ x = V.ref m := by
        rw [List.getElem?_map] at hx
        cases e : ma[i]? with
        | none =>
          rw [e] at hx
          cases hx
        | some b =>
          rw [e] at hx
          exact ⟨b, rfl, (Option.some.inj hx).symm⟩
      have hi : i < s.channel.length := by rw [← l1]; exact (List.getElem?_eq_some_iff.mp hm).1
      obtain ⟨y, hy⟩ : ∃ y, s.channel[i]? = some y := ⟨_, List.getElem?_eq_getElem hi⟩
      obtain ⟨dm, cm, im, rm, lc, rc⟩ := h3 i m y hm hy
      have im2 := s2 _ _ im
      have lc2 := s2 _ _ lc
      refine ⟨_, rfl, .inl ⟨rfl, _, SqL.of hl⟩, _, rfl, m, cM, dm, _, _, rfl, im2, kl.M, kl.m1, fM_1, _, rfl, m, cM, dm, _, _, rfl, im2, kl.M, kl.m2, fM_2, _, rfl, m, cM, dm, _, _, rfl, im2, kl.M, kl.m3, fM_3, _, rfl, m, cM, dm, _, _, rfl, im2, kl.M, kl.m4, fM_4, cm, _, rfl, .inl (SqL.of lc2),
        (by show 4 ≤ sizeLine; decide), fun p hp => ?_⟩
      have hl3 := (same_new (o := .lst [V.int (y.type : Int), V.int (y.client : Int), V.int (y.number : Int), V.int (((nv y.content).length : Nat) : Int)]) hp) _ _ hl
      have ch := g.ch
      have fl : ∀ l : List Kex8.Message, (l.flatMap fun m => [m.type, m.client, m.number, m.content.length]).length ≤ 4 * l.length := fun l => by
        induction l with
        | nil => exact Nat.le_refl _
        | cons a l ih =>
          rw [List.flatMap_cons, List.length_append]
          show 4 + _ ≤ 4 * (l.length + 1)
          omega
      have fl2 := fl (s.channel.take i)
      rw [List.length_take] at fl2
      refine ⟨q, p, _, _, rfl, rfl, hl3, upd_same, ?_, ?_⟩
      · rw [nv_len, List.length_cons]
        exact big_line (by show _ + 4 ≤ _; omega)
      · refine ⟨_, rfl, (s2.new hp).wr hq, ?_⟩
        show upd _ q _ q = _
        rw [upd_same, take_snoc hy, List.flatMap_append, ← List.cons_append, nv_app, nv_len]
        rfl
    · rintro σ H' ⟨v4, rfl, s2, hl⟩
      rw [List.length_map, l1, List.take_length] at hl
      refine ⟨_, rfl, fin' k es (hP.same s2) (Fr.of_same s2) hq hl ?_⟩
      show _ = V.int _ :: (Kex8.toInts _).map V.int
      rw [vals_ints, nv_cons]
theorem ok_message_content (G : Gf K mg "message_content" s_message_content ["platform", "numbers", "rows"]) (kl : Kl K cC cM cP) (c1 : Ca P w K mg base 1 "has_message" ["platform", "index"] (spHas cC cM cP fun s => s.channel.length)) (c2 : Ca P w K mg base 1 "with_length" ["row"] spWl) :
    Ca P w K mg base 2 "message_content" ["platform", "numbers", "rows"] (spDeed cC cM cP 12) := by
  refine ca_of G sc_message_content deed_len (fun f cdv A outer s0 H vs Q E hr h => ?_)
  obtain ⟨L, s, N, na, ra, ns, rs, rq, rfl, hP, g, hN, hna, hra, hq, k⟩ := h
  cases hq with
  | content a =>
    refine ⟨_, pss_cons (ps_if (pt_not (pt_val (pe_ca c1 hr (by decide) rfl (pa_cons (pv 0) (pa_cons (pe_ix ix_list (pv 1) pe_int (fun _ _ => rfl)) pa_nil))))) (pss_one (ps_ret (pe_lst (pa_cons (pe_un un_neg pe_int) pa_nil)))) pss_nil)
      (pss_one (ps_ret (pe_ca c2 hr (by decide) rfl (pa_cons (pe_fld (pe_ix ix_list (pe_fld (pv 0) rfl) (pe_ix ix_list (pv 1) pe_int (fun _ _ => rfl)) (fun _ _ => rfl)) rfl) pa_nil)))), ?_⟩
    have es : Kex8.step (some s) (.messageContent a) = (some s, match s.channel[a]? with
      | none => .value (-2)
      | some m => Kex8.listResult m.content) := rfl
    refine ⟨_, rfl, _, rfl, na, _, _, _, rfl, rfl, SqL.of hna, at_of (j := 0) rfl rfl, L, s, a, rfl, hP, g.v1, fun H1 s1 => ⟨_, rfl, ?_⟩⟩
    have hP1 := hP.same s1
    refine itn (fun z => ?_) (fun z => ?_)
    · rw [List.getElem?_eq_none (Nat.le_of_not_lt z)] at es
      exact ⟨_, rfl, (by show 1 ≤ sizeLine; decide), fun t ht => fin k es hP1 (Fr.of_same s1) ht rfl⟩
    · have hx : s.channel[a]? = some s.channel[a] := List.getElem?_eq_getElem z
      generalize s.channel[a] = x at hx
      rw [hx] at es
      have mo := g.ms x (List.mem_of_getElem? hx)
      obtain ⟨ma, h1, l1, h3⟩ := hP1.chn
      obtain ⟨m, hm⟩ : ∃ m, ma[a]? = some m := ⟨_, List.getElem?_eq_getElem (by rw [l1]; exact z)⟩
      obtain ⟨dm, cm, im, rm, lc, rc⟩ := h3 a m x hm hx
      have ml := mo.len
      refine ⟨_, rfl, L.p, cP, L.dx, _, _, rfl, hP1.inst, kl.P, kl.p4, fP_4, _, rfl, na, _, _, _, rfl, rfl, SqL.of (s1 _ _ hna), at_of (j := 0) rfl rfl, L.chn, _, _, _, rfl, rfl, SqL.of h1, at_of (j := a) rfl (ref_get hm),
        m, cM, dm, _, _, rfl, im, kl.M, kl.m4, fM_4, cm, _, rfl, lc, by omega, fun H2 t s2 n2 l2 => ?_⟩
      exact fin' k es (hP1.same s2) (Fr.of_same (s1.trans s2)) (s1.free n2) l2 (vals_list _).symm
theorem ok_client_state (G : Gf K mg "client_state" s_client_state ["platform", "numbers", "rows"]) (T : Tx mg) (kl : Kl K cC cM cP) (c1 : Ca P w K mg base 1 "has_client" ["platform", "number"] (spHas cC cM cP fun s => s.clients.length)) :
    Ca P w K mg base 2 "client_state" ["platform", "numbers", "rows"] (spDeed cC cM cP 13) := by
  refine ca_of G sc_client_state deed_len (fun f cdv A outer s0 H vs Q E hr h => ?_)
  obtain ⟨L, s, N, na, ra, ns, rs, rq, rfl, hP, g, hN, hna, hra, hq, k⟩ := h
  cases hq with
  | state a =>
    have nd := sc_client_state.nd
    refine ⟨_, pss_cons (ps_if (pt_not (pt_val (pe_ca c1 hr (by decide) rfl (pa_cons (pv 0) (pa_cons (pe_ix ix_list (pv 1) pe_int (fun _ _ => rfl)) pa_nil))))) (pss_one (ps_ret (pe_lst (pa_cons (pe_un un_neg pe_int) pa_nil)))) pss_nil)
      (pss_cons (ps_set (i := 3) nd rfl (.inl rfl) (pe_ix ix_list (pe_fld (pv 0) rfl) (pe_ix ix_list (pv 1) pe_int (fun _ _ => rfl)) (fun _ _ => rfl)))
      (pss_one (ps_ret (pe_lst (pa_cons (pe_fld (pv 3) rfl) (pa_cons (pe_callB call_len_seq (by rfl) T.len PySem.boot_len (pa_cons (pe_fld (pv 3) rfl) pa_nil)) (pa_cons (pe_fld (pv 3) rfl) pa_nil))))))), ?_⟩
    have es : Kex8.step (some s) (.clientState a) = (some s, if s.clients.length ≤ a then .value (-2) else .values (Kex8.clientAt s a).version (Kex8.toInts [(Kex8.clientAt s a).exposures.length, (Kex8.clientAt s a).acknowledged])) := rfl
    refine ⟨_, rfl, _, rfl, na, _, _, _, rfl, rfl, SqL.of hna, at_of (j := 0) rfl rfl, L, s, a, rfl, hP, g.v1, fun H1 s1 => ⟨_, rfl, ?_⟩⟩
    have hP1 := hP.same s1
    refine itn (fun z => ?_) (fun z => ?_)
    · rw [if_pos (Nat.le_of_not_lt z)] at es
      exact ⟨_, rfl, (by show 1 ≤ sizeLine; decide), fun t ht => fin k es hP1 (Fr.of_same s1) ht rfl⟩
    · rw [if_neg (Nat.not_le_of_lt z)] at es
      have hc := client_get z
      have ha : a < L.n := hP.lt hc
      refine ⟨_, rfl, L.p, cP, L.dx, _, _, rfl, hP1.inst, kl.P, kl.p3, fP_3, _, rfl, na, _, _, _, rfl, rfl, SqL.of (s1 _ _ hna), at_of (j := 0) rfl rfl, L.cli, _, _, _, rfl, rfl, SqL.of hP1.cli, at_of (j := a) rfl (cli_get ha), ?_⟩
      obtain ⟨q, _, _, ⟨⟨dx, g0, hi, rg0, lg0⟩, hex, _⟩⟩ := hP1.client hc
      generalize Kex8.clientAt s a = c at hc hi lg0 hex es
      refine ⟨_, rfl, L.cs a, cC, dx, _, _, rfl, hi, kl.C, kl.c1, fC_1, _, rfl, L.cs a, cC, dx, _, _, rfl, hi, kl.C, kl.c3, fC_3, L.es a, _, rfl, .inl (SqL.of hex), _, rfl, L.cs a, cC, dx, _, _, rfl, hi, kl.C, kl.c4, fC_4, (by show 3 ≤ sizeLine; decide), fun t ht => fin k es hP1 (Fr.of_same s1) ht ?_⟩
      rw [nv_len]
      rfl
theorem ok_client_value (G : Gf K mg "client_value" s_client_value ["platform", "numbers", "rows"]) (T : Tx mg) (kl : Kl K cC cM cP) (c1 : Ca P w K mg base 1 "has_client" ["platform", "number"] (spHas cC cM cP fun s => s.clients.length)) :
    Ca P w K mg base 2 "client_value" ["platform", "numbers", "rows"] (spDeed cC cM cP 14) := by
  refine ca_of G sc_client_value deed_len (fun f cdv A outer s0 H vs Q E hr h => ?_)
  obtain ⟨L, s, N, na, ra, ns, rs, rq, rfl, hP, g, hN, hna, hra, hq, k⟩ := h
  cases hq with
  | cvalue a b =>
    have nd := sc_client_value.nd
    refine ⟨_, pss_cons (ps_asg (pv 1) (pg_unl rfl (pgs_cons (pg_name (i := 3) nd rfl (.inl rfl)) (pgs_cons (pg_name (i := 4) nd rfl (.inl rfl)) pgs_nil))))
      (pss_cons (ps_if (PW.pt (pw_or (pt_not (pt_val (pe_ca c1 hr (by decide) rfl (pa_cons (pv 0) (pa_cons (pv 3) pa_nil))))) (pw_or1 (pt_cmpR op_ge (pv 4) (pe_k rfl T.KEYS) (nomark _))))) (pss_one (ps_ret (pe_lst (pa_cons (pe_un un_neg pe_int) pa_nil)))) pss_nil)
      (pss_one (ps_ret (pe_lst (pa_cons (pe_ix ix_list (pe_fld (pe_ix ix_list (pe_fld (pv 0) rfl) (pv 3) (fun _ _ => rfl)) rfl) (pv 4) (fun _ _ => rfl)) pa_nil))))), ?_⟩
    have es : Kex8.step (some s) (.clientValue a b) = (some s, if s.clients.length ≤ a ∨ 16 ≤ b then .value (-2) else .value ((Kex8.clientAt s a).config.getD b 0 : Nat)) := rfl
    refine ⟨_, rfl, na, _, rfl, SqL.of hna, rfl, _, _, rfl, _, _, rfl, rfl, ?_⟩
    refine ⟨_, rfl, _, rfl, L, s, a, rfl, hP, g.v1, fun H1 s1 => ⟨_, rfl, ?_⟩⟩
    have hP1 := hP.same s1
    refine itn (fun z => ?_) (fun z => ?_)
    · rw [if_pos (Or.inl (Nat.le_of_not_lt z))] at es
      exact iteT ⟨_, rfl, (by show 1 ≤ sizeLine; decide), fun t ht => fin k es hP1 (Fr.of_same s1) ht rfl⟩
    · refine ⟨_, rfl, _, _, rfl, rfl, _, rfl, ?_⟩
      refine itd (fun y => ?_) (fun y => ?_)
      · rw [if_pos (Or.inr (by omega))] at es
        exact ⟨_, rfl, (by show 1 ≤ sizeLine; decide), fun t ht => fin k es hP1 (Fr.of_same s1) ht rfl⟩
      · rw [if_neg (by rintro (u | u); exact Nat.not_le_of_lt z u; omega)] at es
        have hc := client_get z
        have gc := g.cl _ (client_mem z)
        have ha : a < L.n := hP.lt hc
        obtain ⟨q, _, _, ⟨⟨dx, g0, hi, rg0, lg0⟩, hex, _⟩⟩ := hP1.client hc
        generalize Kex8.clientAt s a = c at hc gc hi lg0 hex es
        have hv : c.config[b]? = some (c.config.getD b 0) := by
          rw [List.getD_eq_getElem?_getD, List.getElem?_eq_getElem (show b < c.config.length by rw [gc.cfg]; omega)]
          rfl
        exact ⟨_, rfl, L.p, cP, L.dx, _, _, rfl, hP1.inst, kl.P, kl.p3, fP_3, _, rfl, L.cli, _, _, _, rfl, rfl, SqL.of hP1.cli, at_of (j := a) rfl (cli_get ha), L.cs a, cC, dx, _, _, rfl, hi, kl.C, kl.c2, fC_2, _, rfl, g0, _, _, _, rfl, rfl, SqL.of lg0, nv_at rfl hv,
          (by show 1 ≤ sizeLine; decide), fun t ht => fin k es hP1 (Fr.of_same s1) ht rfl⟩
theorem ok_server_value (G : Gf K mg "server_value" s_server_value ["platform", "numbers", "rows"]) (T : Tx mg) (kl : Kl K cC cM cP) (c1 : Ca P w K mg base 2 "has_version" ["platform", "version"] (spHas cC cM cP fun s => s.versions.length)) :
    Ca P w K mg base 3 "server_value" ["platform", "numbers", "rows"] (spDeed cC cM cP 15) := by
  refine ca_of G sc_server_value deed_len (fun f cdv A outer s0 H vs Q E hr h => ?_)
  obtain ⟨L, s, N, na, ra, ns, rs, rq, rfl, hP, g, hN, hna, hra, hq, k⟩ := h
  cases hq with
  | svalue a b =>
    have nd := sc_server_value.nd
    refine ⟨_, pss_cons (ps_asg (pv 1) (pg_unl rfl (pgs_cons (pg_name (i := 3) nd rfl (.inl rfl)) (pgs_cons (pg_name (i := 4) nd rfl (.inl rfl)) pgs_nil))))
      (pss_cons (ps_if (PW.pt (pw_or (pt_not (pt_val (pe_ca c1 hr (by decide) rfl (pa_cons (pv 0) (pa_cons (pv 3) pa_nil))))) (pw_or1 (pt_cmpR op_ge (pv 4) (pe_k rfl T.KEYS) (nomark _))))) (pss_one (ps_ret (pe_lst (pa_cons (pe_un un_neg pe_int) pa_nil)))) pss_nil)
      (pss_one (ps_ret (pe_lst (pa_cons (pe_ix ix_list (pe_ix ix_list (pe_fld (pv 0) rfl) (pv 3) (fun _ _ => rfl)) (pv 4) (fun _ _ => rfl)) pa_nil))))), ?_⟩
    have es : Kex8.step (some s) (.serverValue a b) = (some s, if s.versions.length ≤ a ∨ 16 ≤ b then .value (-2) else .value ((Kex8.configAt s a).getD b 0 : Nat)) := rfl
    refine ⟨_, rfl, na, _, rfl, SqL.of hna, rfl, _, _, rfl, _, _, rfl, rfl, ?_⟩
    refine ⟨_, rfl, _, rfl, L, s, a, rfl, hP, g.v1, fun H1 s1 => ⟨_, rfl, ?_⟩⟩
    have hP1 := hP.same s1
    refine itn (fun z => ?_) (fun z => ?_)
    · rw [if_pos (Or.inl (Nat.le_of_not_lt z))] at es
      exact iteT ⟨_, rfl, (by show 1 ≤ sizeLine; decide), fun t ht => fin k es hP1 (Fr.of_same s1) ht rfl⟩
    · refine ⟨_, rfl, _, _, rfl, rfl, _, rfl, ?_⟩
      refine itd (fun y => ?_) (fun y => ?_)
      · rw [if_pos (Or.inr (by omega))] at es
        exact ⟨_, rfl, (by show 1 ≤ sizeLine; decide), fun t ht => fin k es hP1 (Fr.of_same s1) ht rfl⟩
      · rw [if_neg (by rintro (u | u); exact Nat.not_le_of_lt z u; omega)] at es
        obtain ⟨va, h1, l1, h3⟩ := hP1.ver
        obtain ⟨v, hv⟩ : ∃ v, va[a]? = some v := ⟨_, List.getElem?_eq_getElem (by rw [l1]; exact z)⟩
        obtain ⟨lv, _⟩ := h3 a v _ hv (config_get z)
        have gc := g.vc _ (config_mem z)
        have hb : (Kex8.configAt s a)[b]? = some ((Kex8.configAt s a).getD b 0) := by
          rw [List.getD_eq_getElem?_getD, List.getElem?_eq_getElem (show b < (Kex8.configAt s a).length by rw [gc.len]; omega)]
          rfl
        exact ⟨_, rfl, L.p, cP, L.dx, _, _, rfl, hP1.inst, kl.P, kl.p1, fP_1, _, rfl, L.ver, _, _, _, rfl, rfl, SqL.of h1, at_of (j := a) rfl (ref_get hv), _, rfl, v, _, _, _, rfl, rfl, SqL.of lv, nv_at rfl hb,
          (by show 1 ≤ sizeLine; decide), fun t ht => fin k es hP1 (Fr.of_same s1) ht rfl⟩
theorem ok_tell_counted (G : Gf K mg "tell_counted" s_tell_counted ["platform", "numbers", "rows"]) (kl : Kl K cC cM cP) (c1 : Ca P w K mg base 1 "has_client" ["platform", "number"] (spHas cC cM cP fun s => s.clients.length)) (c2 : Ca P w K mg base 1 "with_length" ["row"] spWl) :
    Ca P w K mg base 2 "tell_counted" ["platform", "numbers", "rows"] (spDeed cC cM cP 16) := by
  refine ca_of G sc_tell_counted deed_len (fun f cdv A outer s0 H vs Q E hr h => ?_)
  obtain ⟨L, s, N, na, ra, ns, rs, rq, rfl, hP, g, hN, hna, hra, hq, k⟩ := h
  cases hq with
  | counted a =>
    refine ⟨_, pss_cons (ps_if (pt_not (pt_val (pe_ca c1 hr (by decide) rfl (pa_cons (pv 0) (pa_cons (pe_ix ix_list (pv 1) pe_int (fun _ _ => rfl)) pa_nil))))) (pss_one (ps_ret (pe_lst (pa_cons (pe_un un_neg pe_int) pa_nil)))) pss_nil)
      (pss_one (ps_ret (pe_ca c2 hr (by decide) rfl (pa_cons (pe_fld (pe_ix ix_list (pe_fld (pv 0) rfl) (pe_ix ix_list (pv 1) pe_int (fun _ _ => rfl)) (fun _ _ => rfl)) rfl) pa_nil)))), ?_⟩
    have es : Kex8.step (some s) (.counted a) = (some s, if s.clients.length ≤ a then .value (-2) else Kex8.listResult (s.counted.getD a [])) := rfl
    refine ⟨_, rfl, _, rfl, na, _, _, _, rfl, rfl, SqL.of hna, at_of (j := 0) rfl rfl, L, s, a, rfl, hP, g.v1, fun H1 s1 => ⟨_, rfl, ?_⟩⟩
    have hP1 := hP.same s1
    refine itn (fun z => ?_) (fun z => ?_)
    · rw [if_pos (Nat.le_of_not_lt z)] at es
      exact ⟨_, rfl, (by show 1 ≤ sizeLine; decide), fun t ht => fin k es hP1 (Fr.of_same s1) ht rfl⟩
    · rw [if_neg (Nat.not_le_of_lt z)] at es
      have hc := client_get z
      have ha : a < L.n := hP.lt hc
      obtain ⟨q, hq, eq, ⟨⟨dx, g0, hi, rg0, lg0⟩, hex, hct⟩⟩ := hP1.client hc
      have hqN := g.ct q (List.mem_of_getElem? hq)
      rw [← eq] at es
      refine ⟨_, rfl, L.p, cP, L.dx, _, _, rfl, hP1.inst, kl.P, kl.p3, fP_3, _, rfl, na, _, _, _, rfl, rfl, SqL.of (s1 _ _ hna), at_of (j := 0) rfl rfl, L.cli, _, _, _, rfl, rfl, SqL.of hP1.cli, at_of (j := a) rfl (cli_get ha),
        L.cs a, cC, dx, _, _, rfl, hi, kl.C, kl.c5, fC_5, L.ks a, _, rfl, hct, by omega, fun H2 t s2 n2 l2 => ?_⟩
      exact fin' k es (hP1.same s2) (Fr.of_same (s1.trans s2)) (s1.free n2) l2 (vals_list _).symm
theorem filter_countP (l : List Nat) (b : Nat) : (l.filter fun x => decide (x = b)).length = l.countP (· == b) := by
  rw [List.countP_eq_length_filter]
  exact congrArg List.length (List.filter_congr fun x _ => by by_cases h : x = b <;> simp [h])
theorem take_filter_eq {c : List Nat} {i n b : Nat} (hn : c[i]? = some n) : (c.take (i + 1)).filter (fun x => decide (x = b)) = if n = b then (c.take i).filter (fun x => decide (x = b)) ++ [n] else (c.take i).filter (fun x => decide (x = b)) := by
  rw [take_snoc hn, List.filter_append]
  by_cases h : n = b
  · rw [if_pos h]
    simp [h]
  · rw [if_neg h]
    simp [h]
theorem ok_count_code (G : Gf K mg "count_code" s_count_code ["platform", "numbers", "rows"]) (T : Tx mg) (kl : Kl K cC cM cP) : Ca P w K mg base 1 "count_code" ["platform", "numbers", "rows"] (spDeed cC cM cP 17) := by
  refine ca_of G sc_count_code deed_len (fun f cdv A outer s0 H vs Q E hr h => ?_)
  obtain ⟨L, s, N, na, ra, ns, rs, rq, rfl, hP, g, hN, hna, hra, hq, k⟩ := h
  cases hq with
  | count b =>
    have nd := sc_count_code.nd
    refine ⟨_, pss_cons (ps_set (i := 3) nd rfl (.inl rfl) pe_int)
      (pss_cons (ps_for PassesOwn.never rfl (pi_list (pe_fld (pv 0) rfl)) (pg_name (i := 4) nd rfl (.inl rfl))
        (pss_one (ps_aug (i := 3) nd rfl (.inl rfl) (pe_callB call_len_seq (by rfl) T.len PySem.boot_len (pa_cons
          (pe_lc (own := [("code", 5)]) (g := gName 5) (tt := tTest (tOp rEq (tVar 5) (tOp (rIxL K) (tVar 1) (tC (.int 0))))) rfl nd (pi_list (pe_fld (pv 4) rfl)) (blkOk_by (own := [("code", 5)]) (N := ["platform", "numbers", "rows", "many", "client", "code"]) (sc := defScope s_count_code) (by decide +kernel))
            (fun _ _ _ _ _ => pg_name (i := 5) nd rfl (Or.inl rfl)) (fun _ _ _ _ _ => pts_one (pt_cmpR op_eq (pv 5) (pe_ix ix_list (pv 1) pe_int (fun _ _ => rfl)) (nomark _))) (fun _ _ _ _ _ => pv 5)) pa_nil)) ip_add)))
      (pss_one (ps_ret (pe_lst (pa_cons (pv 3) pa_nil))))), ?_⟩
    have es : Kex8.step (some s) (.countCode b) = (some s, .value (((s.counted.flatMap id).countP (· == b) : Nat) : Int)) := rfl
    refine ⟨_, rfl, L.p, cP, L.dx, _, _, rfl, hP.inst, kl.P, kl.p3, fP_3, L.cli, rfl, ⟨_, SqL.of hP.cli⟩, for_list (K := K) (a := L.cli) (xs := (List.range L.n).map fun i => V.ref (L.cs i)) (fun i σ H' => ∃ v4 v5 : Option V, σ = [some (.ref L.p), some (.ref na), some (.ref ra), some (.int ((((s.counted.take i).flatMap id).countP (· == b) : Nat) : Int)), v4, v5] ∧ Same H H')
      ⟨none, none, rfl, Same.refl H⟩ (fun i σ H' _ ⟨_, _, _, s2⟩ => SqL.of (s2 _ _ hP.cli)) ?_ ?_⟩
    · rintro i x σ H' hx ⟨v4, v5, rfl, s2⟩
      have hi : i < L.n := by
        have := (List.getElem?_eq_some_iff.mp hx).1
        rwa [List.length_map, List.length_range] at this
      rw [cli_get hi] at hx
      obtain rfl := (Option.some.inj hx).symm
      have hP2 := hP.same s2
      have hc : s.clients[i]? = some (Kex8.clientAt s i) := client_get (by rw [hP.nc]; exact hi)
      obtain ⟨q, hq, eq, ⟨⟨dx, g0, hci, rg0, lg0⟩, hex, hct⟩⟩ := hP2.client hc
      have hqN := g.ct q (List.mem_of_getElem? hq)
      have hna2 := s2 _ _ hna
      refine ⟨_, rfl, ?_⟩
      refine ⟨_, rfl, L.cs i, cC, dx, _, _, rfl, hci, kl.C, kl.c5, fC_5, L.ks i, rfl, ⟨_, SqL.of hct⟩, fun D hD => lc_list (K := K) (a := L.ks i) (xs := nv q) (fun j H2 => Same H' H2 ∧ LN H2 D ((q.take j).filter fun x => decide (x = b)))
        ⟨same_new hD, upd_same⟩ (fun j H2 _ h => SqL.of (h.1 _ _ hct)) ?_ ?_⟩
      · rintro j y H2 hy ⟨s3, hl⟩
        obtain ⟨n, hn, rfl⟩ := nv_get' hy
        have tf := take_filter_eq (b := b) hn
        refine ⟨rfl, _, rfl, _, rfl, na, _, _, _, rfl, rfl, SqL.of (s3 _ _ hna2), at_of (j := 0) rfl rfl, rfl, _, rfl, ?_⟩
        refine itd (fun z => ?_) (fun z => ?_)
        · have z' : n = b := by
            have := int_eq z
            omega
          refine ⟨_, rfl, _, hl, ?_, s3.wr hD, ?_⟩
          · rw [nv_len]
            have := List.length_filter_le (fun x => decide (x = b)) (q.take j)
            rw [List.length_take] at this
            exact big_line' (by omega)
          · rw [tf, if_pos z']
            exact ln_snoc
        · have z' : n ≠ b := fun u => z (by rw [u])
          refine ⟨s3, ?_⟩
          rw [tf, if_neg z']
          exact hl
      · rintro H2 ⟨s3, hl⟩
        rw [nv_len, List.take_length] at hl
        refine ⟨D, _, rfl, .inl (SqL.of hl), _, _, rfl, rfl, some (.ref (L.cs i)), v5, ?_, s2.trans s3⟩
        have e1 : ([q] : List (List Nat)).flatMap id = q := by simp
        rw [take_snoc hq, List.flatMap_append, List.countP_append, e1, nv_len, filter_countP]
        rfl
    · rintro σ H' ⟨v4, v5, rfl, s2⟩
      rw [List.length_map, List.length_range, ← hP.nk, List.take_length]
      exact ⟨_, rfl, (by show 1 ≤ sizeLine; decide), fun t ht => fin k es (hP.same s2) (Fr.of_same s2) ht rfl⟩
theorem ok_tell_snapshot (G : Gf K mg "tell_snapshot" s_tell_snapshot ["platform", "numbers", "rows"]) (c1 : Ca P w K mg base 2 "has_version" ["platform", "version"] (spHas cC cM cP fun s => s.versions.length)) (c2 : Ca P w K mg base 1 "with_length" ["row"] spWl)
    (c3 : Ca P w K mg base 3 "version_bytes" ["platform", "version"] (spVb cC cM cP)) : Ca P w K mg base 4 "tell_snapshot" ["platform", "numbers", "rows"] (spDeed cC cM cP 18) := by
  refine ca_of G sc_tell_snapshot deed_len (fun f cdv A outer s0 H vs Q E hr h => ?_)
  obtain ⟨L, s, N, na, ra, ns, rs, rq, rfl, hP, g, hN, hna, hra, hq, k⟩ := h
  cases hq with
  | snapshot a =>
    refine ⟨_, pss_cons (ps_if (pt_not (pt_val (pe_ca c1 hr (by decide) rfl (pa_cons (pv 0) (pa_cons (pe_ix ix_list (pv 1) pe_int (fun _ _ => rfl)) pa_nil))))) (pss_one (ps_ret (pe_lst (pa_cons (pe_un un_neg pe_int) pa_nil)))) pss_nil)
      (pss_one (ps_ret (pe_ca c2 hr (by decide) rfl (pa_cons (pe_ca c3 hr (by decide) rfl (pa_cons (pv 0) (pa_cons (pe_ix ix_list (pv 1) pe_int (fun _ _ => rfl)) pa_nil))) pa_nil)))), ?_⟩
    have es : Kex8.step (some s) (.snapshot a) = (some s, if s.versions.length ≤ a then .value (-2) else Kex8.listResult (Kex8.snapshotAt s a)) := rfl
    refine ⟨_, rfl, _, rfl, na, _, _, _, rfl, rfl, SqL.of hna, at_of (j := 0) rfl rfl, L, s, a, rfl, hP, g.v1, fun H1 s1 => ⟨_, rfl, ?_⟩⟩
    have hP1 := hP.same s1
    refine itn (fun z => ?_) (fun z => ?_)
    · rw [if_pos (Nat.le_of_not_lt z)] at es
      exact ⟨_, rfl, (by show 1 ≤ sizeLine; decide), fun t ht => fin k es hP1 (Fr.of_same s1) ht rfl⟩
    · rw [if_neg (Nat.not_le_of_lt z)] at es
      have sl := snapAt_len g z
      refine ⟨_, rfl, _, rfl, na, _, _, _, rfl, rfl, SqL.of (s1 _ _ hna), at_of (j := 0) rfl rfl, L, s, N, a, rfl, hP1, g, z, fun H2 p s2 n2 l2 => ?_⟩
      refine ⟨p, _, rfl, l2, by omega, fun H3 t s3 n3 l3 => ?_⟩
      have s13 := (s1.trans s2).trans s3
      exact fin' k es (hP.same s13) (Fr.of_same s13) ((s1.trans s2).free n3) l3 (vals_list _).symm
theorem ok_tell_patch (G : Gf K mg "tell_patch" s_tell_patch ["platform", "numbers", "rows"]) (c1 : Ca P w K mg base 2 "has_version" ["platform", "version"] (spHas cC cM cP fun s => s.versions.length)) (c2 : Ca P w K mg base 1 "with_length" ["row"] spWl)
    (c3 : Ca P w K mg base 3 "version_bytes" ["platform", "version"] (spVb cC cM cP)) (c4 : Ca P w K mg base 3 "patch_of" ["source", "target"] spPat) : Ca P w K mg base 4 "tell_patch" ["platform", "numbers", "rows"] (spDeed cC cM cP 19) := by
  refine ca_of G sc_tell_patch deed_len (fun f cdv A outer s0 H vs Q E hr h => ?_)
  obtain ⟨L, s, N, na, ra, ns, rs, rq, rfl, hP, g, hN, hna, hra, hq, k⟩ := h
  cases hq with
  | patch a b =>
    have nd := sc_tell_patch.nd
    refine ⟨_, pss_cons (ps_asg (pv 1) (pg_unl rfl (pgs_cons (pg_name (i := 3) nd rfl (.inl rfl)) (pgs_cons (pg_name (i := 4) nd rfl (.inl rfl)) pgs_nil))))
      (pss_cons (ps_if (PW.pt (pw_or (pt_not (pt_val (pe_ca c1 hr (by decide) rfl (pa_cons (pv 0) (pa_cons (pv 3) pa_nil))))) (pw_or1 (pt_not (pt_val (pe_ca c1 hr (by decide) rfl (pa_cons (pv 0) (pa_cons (pv 4) pa_nil)))))))) (pss_one (ps_ret (pe_lst (pa_cons (pe_un un_neg pe_int) pa_nil)))) pss_nil)
      (pss_one (ps_ret (pe_ca c2 hr (by decide) rfl (pa_cons (pe_ca c4 hr (by decide) rfl (pa_cons (pe_ca c3 hr (by decide) rfl (pa_cons (pv 0) (pa_cons (pv 3) pa_nil))) (pa_cons (pe_ca c3 hr (by decide) rfl (pa_cons (pv 0) (pa_cons (pv 4) pa_nil))) pa_nil))) pa_nil))))), ?_⟩
    have es : Kex8.step (some s) (.patch a b) = (some s, if s.versions.length ≤ a ∨ s.versions.length ≤ b then .value (-2) else Kex8.listResult (Kex8.patch (Kex8.snapshotAt s a) (Kex8.snapshotAt s b))) := rfl
    refine ⟨_, rfl, na, _, rfl, SqL.of hna, rfl, _, _, rfl, _, _, rfl, rfl, ?_⟩
    refine ⟨_, rfl, _, rfl, L, s, a, rfl, hP, g.v1, fun H1 s1 => ⟨_, rfl, ?_⟩⟩
    have hP1 := hP.same s1
    refine itn (fun z => ?_) (fun z => ?_)
    · rw [if_pos (Or.inl (Nat.le_of_not_lt z))] at es
      exact iteT ⟨_, rfl, (by show 1 ≤ sizeLine; decide), fun t ht => fin k es hP1 (Fr.of_same s1) ht rfl⟩
    · refine ⟨_, rfl, _, rfl, L, s, b, rfl, hP1, g.v1, fun H2 s2 => ⟨_, rfl, ?_⟩⟩
      have s12 := s1.trans s2
      have hP2 := hP.same s12
      refine itn (fun y => ?_) (fun y => ?_)
      · rw [if_pos (Or.inr (Nat.le_of_not_lt y))] at es
        exact ⟨_, rfl, (by show 1 ≤ sizeLine; decide), fun t ht => fin k es hP2 (Fr.of_same s12) ht rfl⟩
      · rw [if_neg (by rintro (u | u); exact Nat.not_le_of_lt z u; exact Nat.not_le_of_lt y u)] at es
        have sa := snapAt_len g z
        have sb := snapAt_len g y
        refine ⟨_, rfl, _, rfl, L, s, N, a, rfl, hP2, g, z, fun H3 p s3 n3 l3 => ?_⟩
        have s13 := s12.trans s3
        refine ⟨_, rfl, _, rfl, L, s, N, b, rfl, hP.same s13, g, y, fun H4 q s4 n4 l4 => ?_⟩
        refine ⟨p, q, _, _, rfl, s4 _ _ l3, l4, by omega, by omega, fun H5 r s5 n5 l5 => ?_⟩
        have pl := patch_len (Kex8.snapshotAt s a) (Kex8.snapshotAt s b)
        refine ⟨r, _, rfl, l5, by omega, fun H6 t s6 n6 l6 => ?_⟩
        have s15 := (s13.trans s4).trans s5
        exact fin' k es (hP.same (s15.trans s6)) (Fr.of_same (s15.trans s6)) (s15.free n6) l6 (vals_list _).symm
theorem byte_of {b : List Nat} (h : Kex8.isBytes b = true) : ∀ x ∈ b, x ≤ 255 := fun x hx => of_decide_eq_true (List.all_eq_true.mp h x hx)
theorem all2 {p b : List Nat} : [p, b].all Kex8.isBytes = true ↔ ¬ (Kex8.isBytes p = false ∨ Kex8.isBytes b = false) := by
  show (Kex8.isBytes p && (Kex8.isBytes b && true)) = true ↔ _
  cases Kex8.isBytes p <;> cases Kex8.isBytes b <;> simp
theorem all1 {b : List Nat} : [b].all Kex8.isBytes = Kex8.isBytes b := by
  show (Kex8.isBytes b && true) = _
  cases Kex8.isBytes b <;> rfl
theorem ok_apply (G : Gf K mg "apply" s_apply ["platform", "numbers", "rows"]) (c1 : Ca P w K mg base 1 "are_bytes" ["rows"] spAb) (c2 : Ca P w K mg base 3 "applied" ["patch", "source"] spApp) (c3 : Ca P w K mg base 1 "with_length" ["row"] spWl) :
    Ca P w K mg base 4 "apply" ["platform", "numbers", "rows"] (spDeed cC cM cP 20) := by
  refine ca_of G sc_apply deed_len (fun f cdv A outer s0 H vs Q E hr h => ?_)
  obtain ⟨L, s, N, na, ra, ns, rs, rq, rfl, hP, g, hN, hna, hra, hq, k⟩ := h
  cases hq with
  | apply p b lp lb =>
    have nd := sc_apply.nd
    refine ⟨_, pss_cons (ps_if (pt_not (pt_val (pe_ca c1 hr (by decide) rfl (pa_cons (pv 2) pa_nil)))) (pss_one (ps_ret (pe_lst (pa_cons (pe_un un_neg pe_int) pa_nil)))) pss_nil)
      (pss_cons (ps_set (i := 3) nd rfl (.inl rfl) (pe_ca c2 hr (by decide) rfl (pa_cons (pe_ix ix_list (pv 2) pe_int (fun _ _ => rfl)) (pa_cons (pe_ix ix_list (pv 2) pe_int (fun _ _ => rfl)) pa_nil))))
      (pss_one (ps_ret (pe_ifExp (pt_cmpR op_isN (pv 3) pe_non (nomark _)) (pe_lst (pa_cons (pe_un un_neg pe_int) pa_nil)) (pe_ca c3 hr (by decide) rfl (pa_cons (pv 3) pa_nil)))))), ?_⟩
    have es : Kex8.step (some s) (.apply p b) = (some s, if Kex8.isBytes p = false ∨ Kex8.isBytes b = false then .value (-22) else match Kex8.apply p b with
      | none => .value (-20)
      | some out => Kex8.listResult out) := rfl
    refine ⟨_, rfl, ra, [p, b], rfl, hra, (by show 2 ≤ 1000; decide), fun r hr => ?_, fun H1 s1 => ⟨_, rfl, ?_⟩⟩
    · rcases List.mem_cons.mp hr with rfl | hr
      · omega
      · have : r = b := by simpa using hr
        rw [this]
        omega
    · have hP1 := hP.same s1
      cases e : [p, b].all Kex8.isBytes with
      | false =>
        rw [if_pos (Classical.byContradiction fun z => by rw [all2.mpr z] at e; cases e)] at es
        exact ⟨_, rfl, (by show 1 ≤ sizeLine; decide), fun t ht => fin k es hP1 (Fr.of_same s1) ht rfl⟩
      | true =>
        have e2 := all2.mp e
        rw [if_neg e2] at es
        have b1 : Kex8.isBytes p = true := by
          cases z : Kex8.isBytes p with
          | true => rfl
          | false => exact absurd (Or.inl z) e2
        have b2 : Kex8.isBytes b = true := by
          cases z : Kex8.isBytes b with
          | true => rfl
          | false => exact absurd (Or.inr z) e2
        have hra1 := hra.same s1
        obtain ⟨xs, pa, x1, x2, lpa⟩ := hra1.get (i := 0) (r := p) rfl
        obtain ⟨ys, pb, y1, y2, lpb⟩ := hra1.get (i := 1) (r := b) rfl
        refine ⟨_, rfl, ra, _, _, _, rfl, rfl, SqL.of x1, at_of (j := 0) rfl x2, _, rfl, ra, _, _, _, rfl, rfl, SqL.of y1, at_of (j := 1) rfl y2, pa, pb, p, b, rfl, lpa, byte_of b1, lpb, ?_, fun ea H2 s2 => ?_, fun o eo H2 r s2 n2 l2 => ?_⟩
        · have : p.length * (b.length + 1) ≤ 200 * 201 := Nat.mul_le_mul lp (by omega)
          omega
        · rw [ea] at es
          have s12 := s1.trans s2
          refine ⟨_, rfl, rfl, _, rfl, ?_⟩
          exact itd (fun _ => ⟨_, rfl, (by show 1 ≤ sizeLine; decide), fun t ht => fin k es (hP.same s12) (Fr.of_same s12) ht rfl⟩) (fun z => absurd rfl z)
        · rw [eo] at es
          have s12 := s1.trans s2
          have ol := apply_len eo
          have : p.length * (b.length + 1) ≤ 200 * 201 := Nat.mul_le_mul lp (by omega)
          refine ⟨_, rfl, rfl, _, rfl, ?_⟩
          refine itd (fun z => nomatch z) (fun _ => ?_)
          refine ⟨_, rfl, r, o, rfl, l2, by omega, fun H3 t s3 n3 l3 => ?_⟩
          have s13 := s12.trans s3
          exact fin' k es (hP.same s13) (Fr.of_same s13) (s12.free n3) l3 (vals_list _).symm
theorem ok_tell_read_snapshot (G : Gf K mg "tell_read_snapshot" s_tell_read_snapshot ["platform", "numbers", "rows"]) (c1 : Ca P w K mg base 1 "are_bytes" ["rows"] spAb) (c2 : Ca P w K mg base 3 "read_snapshot" ["code"] spRs) :
    Ca P w K mg base 4 "tell_read_snapshot" ["platform", "numbers", "rows"] (spDeed cC cM cP 21) := by
  refine ca_of G sc_tell_read_snapshot deed_len (fun f cdv A outer s0 H vs Q E hr h => ?_)
  obtain ⟨L, s, N, na, ra, ns, rs, rq, rfl, hP, g, hN, hna, hra, hq, k⟩ := h
  cases hq with
  | read b lb =>
    have nd := sc_tell_read_snapshot.nd
    refine ⟨_, pss_cons (ps_if (pt_not (pt_val (pe_ca c1 hr (by decide) rfl (pa_cons (pv 2) pa_nil)))) (pss_one (ps_ret (pe_lst (pa_cons (pe_un un_neg pe_int) pa_nil)))) pss_nil)
      (pss_cons (ps_set (i := 3) nd rfl (.inl rfl) (pe_ca c2 hr (by decide) rfl (pa_cons (pe_ix ix_list (pv 2) pe_int (fun _ _ => rfl)) pa_nil)))
      (pss_one (ps_ret (pe_ifExp (pt_cmpR op_isN (pv 3) pe_non (nomark _)) (pe_lst (pa_cons (pe_un un_neg pe_int) pa_nil)) (pe_op op_cat (pe_lst (pa_cons (pe_ix ix_tup (pv 3) pe_int (fun _ _ => rfl)) pa_nil)) (pe_ix ix_tup (pv 3) pe_int (fun _ _ => rfl))))))), ?_⟩
    have es : Kex8.step (some s) (.readSnapshot b) = (some s, if Kex8.isBytes b = false then .value (-22) else match Kex8.readSnapshot b with
      | none => .value (-20)
      | some (v, c) => .values v (Kex8.toInts c)) := rfl
    refine ⟨_, rfl, ra, [b], rfl, hra, (by show 1 ≤ 1000; decide), fun r hr => ?_, fun H1 s1 => ⟨_, rfl, ?_⟩⟩
    · have : r = b := by simpa using hr
      rw [this]
      omega
    · have hP1 := hP.same s1
      rw [all1]
      cases e : Kex8.isBytes b with
      | false =>
        rw [if_pos e] at es
        exact ⟨_, rfl, (by show 1 ≤ sizeLine; decide), fun t ht => fin k es hP1 (Fr.of_same s1) ht rfl⟩
      | true =>
        rw [if_neg (by rw [e]; decide)] at es
        obtain ⟨xs, pb, x1, x2, lpb⟩ := (hra.same s1).get (i := 0) (r := b) rfl
        refine ⟨_, rfl, ra, _, _, _, rfl, rfl, SqL.of x1, at_of (j := 0) rfl x2, pb, b, rfl, lpb, byte_of e, fun er H2 s2 => ?_, fun v c er H2 p q s2 n2 l2 h2 => ?_⟩
        · rw [er] at es
          have s12 := s1.trans s2
          refine ⟨_, rfl, rfl, _, rfl, ?_⟩
          exact itd (fun _ => ⟨_, rfl, (by show 1 ≤ sizeLine; decide), fun t ht => fin k es (hP.same s12) (Fr.of_same s12) ht rfl⟩) (fun z => absurd rfl z)
        · rw [er] at es
          dsimp only at es
          have s12 := s1.trans s2
          have cl := (rs_cfg er).2.1
          refine ⟨_, rfl, rfl, _, rfl, ?_⟩
          refine itd (fun z => nomatch z) (fun _ => ?_)
          refine ⟨_, rfl, q, _, _, _, rfl, rfl, SqT.of h2, at_of (j := 0) rfl rfl, (by show 1 ≤ sizeLine; decide), fun r hr2 => ?_⟩
          have s3 := same_new (o := .lst [V.int (v : Int)]) hr2
          refine ⟨_, rfl, q, _, _, _, rfl, rfl, SqT.of (s3 _ _ h2), at_of (j := 1) rfl rfl, r, p, _, _, rfl, rfl, upd_same, s3 _ _ l2, (by rw [nv_len, cl]; show 1 + 16 ≤ sizeLine; decide), fun t ht => ?_⟩
          have s13 := s12.trans s3
          refine fin k es (hP.same s13) (Fr.of_same s13) ht ?_
          show _ = V.int _ :: (Kex8.toInts c).map V.int
          rw [vals_ints]
          rfl
theorem ok_difference (G : Gf K mg "difference" s_difference ["platform", "numbers", "rows"]) (c1 : Ca P w K mg base 1 "are_bytes" ["rows"] spAb) (c2 : Ca P w K mg base 3 "patch_of" ["source", "target"] spPat) (c3 : Ca P w K mg base 1 "with_length" ["row"] spWl) :
    Ca P w K mg base 4 "difference" ["platform", "numbers", "rows"] (spDeed cC cM cP 22) := by
  refine ca_of G sc_difference deed_len (fun f cdv A outer s0 H vs Q E hr h => ?_)
  obtain ⟨L, s, N, na, ra, ns, rs, rq, rfl, hP, g, hN, hna, hra, hq, k⟩ := h
  cases hq with
  | diff p b lp lb =>
    refine ⟨_, pss_cons (ps_if (pt_not (pt_val (pe_ca c1 hr (by decide) rfl (pa_cons (pv 2) pa_nil)))) (pss_one (ps_ret (pe_lst (pa_cons (pe_un un_neg pe_int) pa_nil)))) pss_nil)
      (pss_one (ps_ret (pe_ca c3 hr (by decide) rfl (pa_cons (pe_ca c2 hr (by decide) rfl (pa_cons (pe_ix ix_list (pv 2) pe_int (fun _ _ => rfl)) (pa_cons (pe_ix ix_list (pv 2) pe_int (fun _ _ => rfl)) pa_nil))) pa_nil)))), ?_⟩
    have es : Kex8.step (some s) (.difference p b) = (some s, if Kex8.isBytes p = false ∨ Kex8.isBytes b = false then .value (-22) else Kex8.listResult (Kex8.patch p b)) := rfl
    refine ⟨_, rfl, ra, [p, b], rfl, hra, (by show 2 ≤ 1000; decide), fun r hr => ?_, fun H1 s1 => ⟨_, rfl, ?_⟩⟩
    · rcases List.mem_cons.mp hr with rfl | hr
      · omega
      · have : r = b := by simpa using hr
        rw [this]
        omega
    · have hP1 := hP.same s1
      cases e : [p, b].all Kex8.isBytes with
      | false =>
        rw [if_pos (Classical.byContradiction fun z => by rw [all2.mpr z] at e; cases e)] at es
        exact ⟨_, rfl, (by show 1 ≤ sizeLine; decide), fun t ht => fin k es hP1 (Fr.of_same s1) ht rfl⟩
      | true =>
        rw [if_neg (all2.mp e)] at es
        have hra1 := hra.same s1
        obtain ⟨xs, pa, x1, x2, lpa⟩ := hra1.get (i := 0) (r := p) rfl
        obtain ⟨ys, pb, y1, y2, lpb⟩ := hra1.get (i := 1) (r := b) rfl
        have pl := patch_len p b
        refine ⟨_, rfl, ra, _, _, _, rfl, rfl, SqL.of x1, at_of (j := 0) rfl x2, _, rfl, ra, _, _, _, rfl, rfl, SqL.of y1, at_of (j := 1) rfl y2, pa, pb, p, b, rfl, lpa, lpb, by omega, by omega, fun H2 r s2 n2 l2 => ?_⟩
        have s12 := s1.trans s2
        refine ⟨r, _, rfl, l2, by omega, fun H3 t s3 n3 l3 => ?_⟩
        have s13 := s12.trans s3
        exact fin' k es (hP.same s13) (Fr.of_same s13) (s12.free n3) l3 (vals_list _).symm
theorem ok_varint (G : Gf K mg "varint" s_varint ["platform", "numbers", "rows"]) (c2 : Ca P w K mg base 1 "encoded" ["number"] spEnc) (c3 : Ca P w K mg base 1 "with_length" ["row"] spWl) :
    Ca P w K mg base 2 "varint" ["platform", "numbers", "rows"] (spDeed cC cM cP 23) := by
  refine ca_of G sc_varint deed_len (fun f cdv A outer s0 H vs Q E hr h => ?_)
  obtain ⟨L, s, N, na, ra, ns, rs, rq, rfl, hP, g, hN, hna, hra, hq, k⟩ := h
  cases hq with
  | varint a la =>
    refine ⟨_, pss_one (ps_ret (pe_ca c3 hr (by decide) rfl (pa_cons (pe_ca c2 hr (by decide) rfl (pa_cons (pe_ix ix_list (pv 1) pe_int (fun _ _ => rfl)) pa_nil)) pa_nil))), ?_⟩
    have es : Kex8.step (some s) (.varint a) = (some s, Kex8.listResult (Kex8.varint a)) := rfl
    have vl := varint_len a
    refine ⟨_, rfl, na, _, _, _, rfl, rfl, SqL.of hna, at_of (j := 0) rfl rfl, a, rfl, lt_big la, fun H1 r s1 n1 l1 => ?_⟩
    refine ⟨r, _, rfl, l1, by omega, fun H2 t s2 n2 l2 => ?_⟩
    have s12 := s1.trans s2
    exact fin' k es (hP.same s12) (Fr.of_same s12) (s1.free n2) l2 (vals_list _).symm
theorem ok_read_varint (G : Gf K mg "read_varint" s_read_varint ["platform", "numbers", "rows"]) (c1 : Ca P w K mg base 1 "are_bytes" ["rows"] spAb) (c2 : Ca P w K mg base 1 "read_number" ["code", "at"] spRead) :
    Ca P w K mg base 2 "read_varint" ["platform", "numbers", "rows"] (spDeed cC cM cP 24) := by
  refine ca_of G sc_read_varint deed_len (fun f cdv A outer s0 H vs Q E hr h => ?_)
  obtain ⟨L, s, N, na, ra, ns, rs, rq, rfl, hP, g, hN, hna, hra, hq, k⟩ := h
  cases hq with
  | readv b lb =>
    have nd := sc_read_varint.nd
    refine ⟨_, pss_cons (ps_if (pt_not (pt_val (pe_ca c1 hr (by decide) rfl (pa_cons (pv 2) pa_nil)))) (pss_one (ps_ret (pe_lst (pa_cons (pe_un un_neg pe_int) pa_nil)))) pss_nil)
      (pss_cons (ps_asg (pe_ca c2 hr (by decide) rfl (pa_cons (pe_ix ix_list (pv 2) pe_int (fun _ _ => rfl)) (pa_cons pe_int pa_nil))) (pg_tup rfl (pgs_cons (pg_name (i := 3) nd rfl (.inl rfl)) (pgs_cons (pg_name (i := 4) nd rfl (.inl rfl)) pgs_nil))))
      (pss_one (ps_ret (pe_ifExp (pt_cmpR op_lt (pv 3) pe_int (nomark _)) (pe_lst (pa_cons (pe_un un_neg pe_int) pa_nil)) (pe_lst (pa_cons (pv 3) (pa_cons (pv 4) pa_nil))))))), ?_⟩
    have es : Kex8.step (some s) (.readVarint b) = (some s, if Kex8.isBytes b = false then .value (-22) else match Kex8.readVarint b with
      | none => .value (-20)
      | some (n, rest) => .values n [((b.length - rest.length : Nat) : Int)]) := rfl
    refine ⟨_, rfl, ra, [b], rfl, hra, (by show 1 ≤ 1000; decide), fun r hr => ?_, fun H1 s1 => ⟨_, rfl, ?_⟩⟩
    · have : r = b := by simpa using hr
      rw [this]
      omega
    · have hP1 := hP.same s1
      rw [all1]
      cases e : Kex8.isBytes b with
      | false =>
        rw [if_pos e] at es
        exact ⟨_, rfl, (by show 1 ≤ sizeLine; decide), fun t ht => fin k es hP1 (Fr.of_same s1) ht rfl⟩
      | true =>
        rw [if_neg (by rw [e]; decide)] at es
        obtain ⟨xs, pb, x1, x2, lpb⟩ := (hra.same s1).get (i := 0) (r := b) rfl
        refine ⟨_, rfl, ra, _, _, _, rfl, rfl, SqL.of x1, at_of (j := 0) rfl x2, pb, b, 0, rfl, lpb, byte_of e, fun H2 q s2 n2 h2 => ?_⟩
        have s12 := s1.trans s2
        cases er : Kex8.readVarint b with
        | none =>
          rw [er] at es
          rw [rdV_none (rdAt_none (by rw [List.drop_zero]; exact er))] at h2
          refine ⟨q, _, rfl, SqT.of h2, rfl, _, _, rfl, _, _, rfl, rfl, ?_⟩
          refine ⟨_, rfl, _, _, rfl, rfl, _, rfl, ?_⟩
          exact itd (fun _ => ⟨_, rfl, (by show 1 ≤ sizeLine; decide), fun t ht => fin k es (hP.same s12) (Fr.of_same s12) ht rfl⟩) (fun z => absurd (by decide) z)
        | some nr =>
          obtain ⟨n, rest⟩ := nr
          rw [er] at es
          rw [rdV_some (rdAt_some (i := 0) (by rw [List.drop_zero]; exact er))] at h2
          refine ⟨q, _, rfl, SqT.of h2, rfl, _, _, rfl, _, _, rfl, rfl, ?_⟩
          refine ⟨_, rfl, _, _, rfl, rfl, _, rfl, ?_⟩
          exact itd (fun z => absurd z (by omega)) (fun _ => ⟨_, rfl, _, rfl, (by show 2 ≤ sizeLine; decide), fun t ht => fin k es (hP.same s12) (Fr.of_same s12) ht rfl⟩)
theorem ok_tell_checksum (G : Gf K mg "tell_checksum" s_tell_checksum ["platform", "numbers", "rows"]) (c1 : Ca P w K mg base 1 "are_bytes" ["rows"] spAb) (c2 : Ca P w K mg base 1 "checksum" ["code"] spSum) :
    Ca P w K mg base 2 "tell_checksum" ["platform", "numbers", "rows"] (spDeed cC cM cP 25) := by
  refine ca_of G sc_tell_checksum deed_len (fun f cdv A outer s0 H vs Q E hr h => ?_)
  obtain ⟨L, s, N, na, ra, ns, rs, rq, rfl, hP, g, hN, hna, hra, hq, k⟩ := h
  cases hq with
  | sum b lb =>
    refine ⟨_, pss_one (ps_ret (pe_ifExp (pt_val (pe_ca c1 hr (by decide) rfl (pa_cons (pv 2) pa_nil))) (pe_ca c2 hr (by decide) rfl (pa_cons (pe_ix ix_list (pv 2) pe_int (fun _ _ => rfl)) pa_nil)) (pe_lst (pa_cons (pe_un un_neg pe_int) pa_nil)))), ?_⟩
    have es : Kex8.step (some s) (.checksum b) = (some s, if Kex8.isBytes b = false then .value (-22) else .values (Kex8.sums b).2 [((Kex8.sums b).1 : Int)]) := rfl
    refine ⟨_, rfl, ra, [b], rfl, hra, (by show 1 ≤ 1000; decide), fun r hr => ?_, fun H1 s1 => ⟨_, rfl, ?_⟩⟩
    · have : r = b := by simpa using hr
      rw [this]
      omega
    · have hP1 := hP.same s1
      rw [all1]
      cases e : Kex8.isBytes b with
      | false =>
        rw [if_pos e] at es
        exact ⟨_, rfl, (by show 1 ≤ sizeLine; decide), fun t ht => fin k es hP1 (Fr.of_same s1) ht rfl⟩
      | true =>
        rw [if_neg (by rw [e]; decide)] at es
        obtain ⟨xs, pb, x1, x2, lpb⟩ := (hra.same s1).get (i := 0) (r := b) rfl
        refine ⟨_, rfl, ra, _, _, _, rfl, rfl, SqL.of x1, at_of (j := 0) rfl x2, pb, b, rfl, lpb, fun H2 t s2 n2 l2 => ?_⟩
        have s12 := s1.trans s2
        exact fin' k es (hP.same s12) (Fr.of_same s12) (s1.free n2) l2 rfl
theorem ok_summary (G : Gf K mg "summary" s_summary ["platform", "numbers", "rows"]) (T : Tx mg) (kl : Kl K cC cM cP) (c1 : Ca P w K mg base 1 "latest" ["platform"] (spLat cC cM cP)) (c2 : Ca P w K mg base 1 "pending_count" ["client"] (spPend cC cM cP)) :
    Ca P w K mg base 2 "summary" ["platform", "numbers", "rows"] (spDeed cC cM cP 26) := by
  refine ca_of G sc_summary deed_len (fun f cdv A outer s0 H vs Q E hr h => ?_)
  obtain ⟨L, s, N, na, ra, ns, rs, rq, rfl, hP, g, hN, hna, hra, hq, k⟩ := h
  cases hq with
  | summary =>
    have nd := sc_summary.nd
    refine ⟨_, pss_cons (ps_set (i := 3) nd rfl (.inl rfl) (pe_lst (pa_cons (pe_ca c1 hr (by decide) rfl (pa_cons (pv 0) pa_nil)) (pa_cons (pe_callB call_len_seq (by rfl) T.len PySem.boot_len (pa_cons (pe_fld (pv 0) rfl) pa_nil)) (pa_cons (pe_callB call_len_seq (by rfl) T.len PySem.boot_len (pa_cons (pe_fld (pv 0) rfl) pa_nil)) pa_nil)))))
      (pss_cons (ps_for PassesOwn.never rfl (pi_list (pe_fld (pv 0) rfl)) (pg_name (i := 4) nd rfl (.inl rfl))
        (pss_one (ps_expr (pe_bm PySem.F.plainAttrs_list PySem.F.slot_list_extend PySem.F.type_list_extend mt_extend (pv 3) (pa_cons (pe_lst (pa_cons (pe_fld (pv 4) rfl) (pa_cons (pe_ca c2 hr (by decide) rfl (pa_cons (pv 4) pa_nil)) pa_nil))) pa_nil)))))
      (pss_one (ps_ret (pv 3)))), ?_⟩
    have es : Kex8.step (some s) .summary = (some s, .values (Kex8.latest s) (Kex8.toInts ([s.channel.length, s.clients.length] ++ s.clients.flatMap fun c => [c.version, (Kex8.pending c).length]))) := rfl
    refine ⟨_, rfl, L, s, rfl, hP, g.v1, fun H1 s1 => ?_⟩
    have hP1 := hP.same s1
    obtain ⟨ma, h1, l1, h3⟩ := hP1.chn
    refine ⟨_, rfl, L.p, cP, L.dx, _, _, rfl, hP1.inst, kl.P, kl.p4, fP_4, L.chn, _, rfl, .inl (SqL.of h1), _, rfl, L.p, cP, L.dx, _, _, rfl, hP1.inst, kl.P, kl.p3, fP_3, L.cli, _, rfl, .inl (SqL.of hP1.cli), (by show 3 ≤ sizeLine; decide), fun q hq => ?_⟩
    have sq : Same H (upd H1 q (.lst [V.int ((Kex8.latest s : Nat) : Int), V.int (((ma.map V.ref).length : Nat) : Int), V.int ((((List.range L.n).map fun i => V.ref (L.cs i)).length : Nat) : Int)])) := s1.new hq
    refine ⟨_, rfl, L.p, cP, L.dx, _, _, rfl, sq _ _ hP.inst, kl.P, kl.p3, fP_3, L.cli, rfl, ⟨_, SqL.of (sq _ _ hP.cli)⟩, for_list (K := K) (a := L.cli) (xs := (List.range L.n).map fun i => V.ref (L.cs i)) (fun i σ H' => ∃ v4 : Option V, σ = [some (.ref L.p), some (.ref na), some (.ref ra), some (.ref q), v4] ∧ Same H H' ∧
        LN H' q (Kex8.latest s :: ([s.channel.length, s.clients.length] ++ (s.clients.take i).flatMap fun c => [c.version, (Kex8.pending c).length])))
      ⟨none, rfl, sq, ?_⟩ (fun i σ H' _ ⟨_, _, s2, _⟩ => SqL.of (s2 _ _ hP.cli)) ?_ ?_⟩
    · show upd H1 q _ q = _
      rw [upd_same, List.length_map, l1, List.length_map, List.length_range, ← hP.nc]
      rfl
    · rintro i x σ H' hx ⟨v4, rfl, s2, hl⟩
      have hi : i < L.n := by
        have := (List.getElem?_eq_some_iff.mp hx).1
        rwa [List.length_map, List.length_range] at this
      rw [cli_get hi] at hx
      obtain rfl := (Option.some.inj hx).symm
      have hP2 := hP.same s2
      have hlt : i < s.clients.length := by rw [hP.nc]; exact hi
      have hc := client_get hlt
      have gc := g.cl _ (client_mem hlt)
      have n4 := g.n4
      obtain ⟨_, _, _, ⟨⟨dx, g0, hci, rg0, lg0⟩, hex, hct⟩⟩ := hP2.client hc
      generalize Kex8.clientAt s i = c at hc gc hci hex lg0
      refine ⟨_, rfl, .inl ⟨rfl, _, SqL.of hl⟩, _, rfl, L.cs i, cC, dx, _, _, rfl, hci, kl.C, kl.c1, fC_1, _, rfl, L, s, i, c, rfl, hP2, hc, gc.ack, fun H3 s3 => ?_⟩
      refine ⟨(by show 2 ≤ sizeLine; decide), fun p hp => ?_⟩
      have hl3 := (same_new (o := .lst [V.int (c.version : Int), V.int (((Kex8.pending c).length : Nat) : Int)]) hp) _ _ (s3 _ _ hl)
      have fl : ∀ l : List Kex8.Client, (l.flatMap fun c => [c.version, (Kex8.pending c).length]).length ≤ 2 * l.length := fun l => by
        induction l with
        | nil => exact Nat.le_refl _
        | cons a l ih =>
          rw [List.flatMap_cons, List.length_append]
          show 2 + _ ≤ 2 * (l.length + 1)
          omega
      have fl2 := fl (s.clients.take i)
      rw [List.length_take] at fl2
      have nq : H q = none := s1.free hq
      refine ⟨q, p, _, _, rfl, rfl, hl3, upd_same, ?_, ?_⟩
      · rw [nv_len, List.length_cons, List.length_append]
        exact big_line (by show 2 + _ + 1 + 2 ≤ _; omega)
      · refine ⟨_, rfl, ((s2.trans s3).new hp).wr nq, ?_⟩
        have e : (Kex8.latest s :: ([s.channel.length, s.clients.length] ++ (s.clients.take (i + 1)).flatMap fun c => [c.version, (Kex8.pending c).length])) =
            (Kex8.latest s :: ([s.channel.length, s.clients.length] ++ (s.clients.take i).flatMap fun c => [c.version, (Kex8.pending c).length])) ++ [c.version, (Kex8.pending c).length] := by
          rw [take_snoc hc, List.flatMap_append]
          rfl
        show upd _ q _ q = _
        rw [e, upd_same, nv_app]
        rfl
    · rintro σ H' ⟨v4, rfl, s2, hl⟩
      rw [List.length_map, List.length_range, ← hP.nc, List.take_length] at hl
      refine ⟨_, rfl, fin' k es (hP.same s2) (Fr.of_same s2) (s1.free hq) hl ?_⟩
      show _ = V.int _ :: (Kex8.toInts _).map V.int
      rw [vals_ints, nv_cons]
end
end Cs

/-! answer, answers. -/
namespace Cs
open PySem PySem.Spec PyProof.Rows L2
open PySem.W (Codec)
/-- a written tuple of the module -/
structure Tab (K : PySem.W.Frag) (mg : Str → Option Value) (x : Str) (xs : List V) : Prop where
  ex : ∃ a : Addr, mg x = some (.ref a) ∧ ∀ H : Hp, SqT K H a xs
section
variable {P : Program} {w : World} {K : PySem.W.Frag} {mg : Str → Option Value} {base : Heap} {cC cM cP : Addr}
/-- the operations' table: at j a def that keeps the j-th promise -/
structure Deeds (P : Program) (w : World) (K : PySem.W.Frag) (mg : Str → Option Value) (base : Heap) (cC cM cP : Addr) : Prop where
  ex : ∃ xs : List V, Tab K mg "DEEDS" xs ∧ ∀ (j : Nat) (ns : List Nat) (rs : List (List Nat)) (rq : Kex8.Request), Rq j ns rs rq → ∃ (f : Addr) (fd : FuncData), xs[j]? = some (.ref f) ∧ FnOk P w K mg base CX0 6 f fd ["platform", "numbers", "rows"] (spDeed cC cM cP j) ∧
    PySem.W.keepIn K (.ref f) = true ∧ Binds K fd ["platform", "numbers", "rows"] []
def spAnswer (cC cM cP : Addr) : Sp := fun vs H Q _ =>
  (∃ (j : Nat) (na ra : Addr), vs = [.non, .int (j : Int), .ref na, .ref ra] ∧ ∀ (H' : Hp) (t : Addr), Same H H' → H t = none → H' t = some (.lst [V.int (-11)]) → Q (.ref t) H') ∨
  (∃ (j : Nat) (L : Lay) (s : Kex8.System) (N : Nat) (na ra : Addr) (ns : List Nat) (rs : List (List Nat)) (rq : Kex8.Request), vs = [.ref L.p, .int (j : Int), .ref na, .ref ra] ∧ Plat cC cM cP L H s ∧ Good N s ∧ N ≤ 200000 ∧ LN H na ns ∧ RowsAt H ra rs ∧ Rq j ns rs rq ∧
    ∀ (H' : Hp) (t : Addr), Plat cC cM cP L H' (stepS s rq).1 → Kp L H H' → H t = none → H' t = some (.lst ((Kex8Neutral.fields (stepS s rq).2).map V.int)) → Q (.ref t) H')
theorem ok_answer (G : Gf K mg "answer" s_answer ["platform", "call", "numbers", "rows"]) (D : Deeds P w K mg base cC cM cP) : Ca P w K mg base 7 "answer" ["platform", "call", "numbers", "rows"] (spAnswer cC cM cP) := by
  refine ca_of G sc_answer (fun vs H Q E h => ?_) (fun f cdv A outer s0 H vs Q E hr h => ?_)
  · rcases h with ⟨j, na, ra, rfl, _⟩ | ⟨j, L, s, N, na, ra, ns, rs, rq, rfl, _⟩
    · rfl
    · rfl
  · have nd := sc_answer.nd
    rcases h with ⟨j, na, ra, rfl, k⟩ | ⟨j, L, s, N, na, ra, ns, rs, rq, rfl, hP, g, hN, hna, hra, hq, k⟩
    · refine ⟨_, pss_cons (ps_if (pt_cmpR op_isN (pv 0) pe_non (nomark _)) (pss_one (ps_ret (pe_lst (pa_cons (pe_un un_neg pe_int) pa_nil)))) pss_nil) pss_never, ?_⟩
      refine ⟨_, rfl, rfl, _, rfl, ?_⟩
      exact itd (fun _ => ⟨_, rfl, (by show 1 ≤ sizeLine; decide), fun t ht => k _ t (same_new ht) ht upd_same⟩) (fun z => absurd rfl z)
    · obtain ⟨xs, ⟨aD, mD, hD⟩, tab⟩ := D.ex
      obtain ⟨fa, fd, e1, F, kp, b⟩ := tab j ns rs rq hq
      refine ⟨_, pss_cons (ps_if (pt_cmpR op_isN (pv 0) pe_non (nomark _)) (pss_one (ps_ret (pe_lst (pa_cons (pe_un un_neg pe_int) pa_nil)))) pss_nil)
        (pss_cons (ps_set (i := 4) nd rfl (.inl rfl) (pe_ix ix_tup (pe_glob rfl mD (v := .ref aD) rfl) (pv 1) (fun _ _ => rfl)))
        (pss_one (ps_ret (pe_callL (i := 4) F hr rfl (.inl rfl) kp b .nil pass0 (pa_cons (pv 0) (pa_cons (pv 2) (pa_cons (pv 3) pa_nil))))))), ?_⟩
      refine ⟨_, rfl, rfl, _, rfl, ?_⟩
      refine itd (fun z => nomatch z) (fun _ => ?_)
      refine ⟨_, rfl, aD, xs, _, _, rfl, rfl, hD H, at_of (j := j) rfl e1, ?_⟩
      exact ⟨rfl, _, rfl, _, rfl, _, rfl, L, s, N, na, ra, ns, rs, rq, rfl, hP, g, hN, hna, hra, hq, k⟩

/-! ### answers -/
theorem seq_keep {H0 H' : Hp} {a : Addr} {xs : List V} (h : SqL K H0 a xs) (k : ∀ o, H0 a = some o → H' a = some o) : SqL K H' a xs := by
  rcases h with (h | ⟨o, h⟩) | h
  · exact .inl (.inl (k _ h))
  · exact .inl (.inr ⟨o, k _ h⟩)
  · exact .inr h
/-- the state and what the name platform holds -/
def StAt (cC cM cP fo : Addr) (a : Addr) (H0 H : Hp) (st : Kex8.State) (pv : V) (n : Nat) : Prop :=
  (st = none ∧ pv = .non) ∨ ∃ (L : Lay) (s : Kex8.System) (N : Nat), st = some s ∧ pv = .ref L.p ∧ Plat cC cM cP L H s ∧ Good N s ∧ N + 500 * n ≤ 100000 ∧ L.rho fo = some .loc ∧ ∀ o, H0 a = some o → L.rho a = none
theorem StAt.same {fo a : Addr} {H0 H H' : Hp} {st : Kex8.State} {pv : V} {n : Nat} (h : StAt cC cM cP fo a H0 H st pv n) (s : Same H H') : StAt cC cM cP fo a H0 H' st pv n := by
  rcases h with h | ⟨L, s', N, e1, e2, hP, g, hN, rf, ra⟩
  · exact .inl h
  · exact .inr ⟨L, s', N, e1, e2, hP.same s, g, hN, rf, ra⟩
/-- the caller's own list is written -/
theorem StAt.wr {fo a : Addr} {H0 H : Hp} {st : Kex8.State} {pv : V} {n : Nat} {o : HO} (h : StAt cC cM cP fo a H0 H st pv n) : StAt cC cM cP fo a H0 (upd H fo o) st pv n := by
  rcases h with h | ⟨L, s', N, e1, e2, hP, g, hN, rf, ra⟩
  · exact .inl h
  · exact .inr ⟨L, s', N, e1, e2, hP.move (Fr.wr rf) (fun r hr z => hr z), g, hN, rf, ra⟩
theorem StAt.mono {fo a : Addr} {H0 H : Hp} {st : Kex8.State} {pv : V} {n m : Nat} (h : StAt cC cM cP fo a H0 H st pv n) (l : m ≤ n) : StAt cC cM cP fo a H0 H st pv m := by
  rcases h with h | ⟨L, s', N, e1, e2, hP, g, hN, rf, ra⟩
  · exact .inl h
  · exact .inr ⟨L, s', N, e1, e2, hP, g, by omega, rf, ra⟩
def spAns (K : PySem.W.Frag) : Sp := fun vs H Q _ => ∃ (a : Addr) (ln : List Nat), vs = [.ref a] ∧ SqL K H a (nv ln) ∧ ln.length ≤ 30000 ∧ (∀ x ∈ ln, x < 2 ^ 32) ∧ PyKex8.answers_asked (up ln) = true ∧
  ∀ (H' : Hp) (p : Addr), H' p = some (.lst ((PyKex8.answers (up ln)).map V.int)) → Q (.ref p) H'
theorem rowsN_succ {ln : List Nat} {k e f : Nat} {r : List Nat} {rs : List (List Nat)} (h : rowsN ln (k + 1) e = some (r :: rs, f)) : ∃ m, ln[e]? = some m ∧ e + 1 + m ≤ ln.length ∧ r = (ln.drop (e + 1)).take m ∧ rowsN ln k (e + 1 + m) = some (rs, f) := by
  unfold rowsN at h
  split at h
  · cases h
  · next m hm =>
    split at h
    · next hl =>
      split at h
      · cases h
      · next xs f2 hr =>
        obtain ⟨e1, rfl⟩ := Prod.mk.inj (Option.some.inj h)
        obtain ⟨rfl, rfl⟩ := List.cons.inj e1
        exact ⟨m, hm, hl, rfl, hr⟩
    · cases h
theorem RowsAt.snoc {H H' : Hp} {a b : Addr} {rs : List (List Nat)} {r : List Nat} {ras : List Addr} (h2 : ras.length = rs.length) (h3 : ∀ (i : Nat) (b : Addr) (r : List Nat), ras[i]? = some b → rs[i]? = some r → LN H b r) (e : H' a = some (.lst (ras.map V.ref ++ [V.ref b])))
    (kp : ∀ c l, LN H c l → c ≠ a → LN H' c l) (ha : H a = some (.lst (ras.map V.ref))) (hb : LN H' b r) (na : ∀ (i : Nat) (b : Addr) (r : List Nat), ras[i]? = some b → rs[i]? = some r → b ≠ a) : RowsAt H' a (rs ++ [r]) := by
  refine ⟨ras ++ [b], by rw [List.map_append]; exact e, by rw [List.length_append, List.length_append, h2]; rfl, fun i c d hc hd => ?_⟩
  rcases snoc_cases hc with ⟨e1, rfl⟩ | ⟨l1, hc⟩
  · rcases snoc_cases hd with ⟨e2, rfl⟩ | ⟨l2, hd⟩
    · exact hb
    · omega
  · rcases snoc_cases hd with ⟨e2, rfl⟩ | ⟨l2, hd⟩
    · omega
    · exact kp _ _ (h3 i c d hc hd) (na i c d hc hd)
structure Rows2 (H : Hp) (a : Addr) (rs : List (List Nat)) : Prop where
  ex : ∃ ras : List Addr, H a = some (.lst (ras.map V.ref)) ∧ ras.length = rs.length ∧ ∀ (i : Nat) (b : Addr) (r : List Nat), ras[i]? = some b → rs[i]? = some r → LN H b r ∧ b ≠ a
theorem Rows2.at_ {H : Hp} {a : Addr} {rs : List (List Nat)} (h : Rows2 H a rs) : RowsAt H a rs := by
  obtain ⟨ras, h1, h2, h3⟩ := h.ex
  exact ⟨ras, h1, h2, fun i b r hb hr => (h3 i b r hb hr).1⟩
theorem ok_answers {fS : Addr} {fdS : FuncData} (G : Fun K "answers" "answers" s_answers fS fdS) (T : Tx mg) (tN : Tab K mg "NUMBERS" (nv nums)) (tR : Tab K mg "ROWS" (nv rowsL)) (c1 : Ca P w K mg base 7 "answer" ["platform", "call", "numbers", "rows"] (spAnswer cC cM cP))
    (mc : Mc P w K mg base 3 "Platform" cP ["self", "many"] (spPi cC cM cP)) : FnOk P w K mg base CX0 8 fS fdS ["calls"] (spAns K) := by
  refine G.ok sc_answers (fun vs H Q E h => ?_) (fun cdv A outer s0 H vs Q E hr h => ?_)
  · obtain ⟨a, ln, rfl, _⟩ := h
    rfl
  · obtain ⟨a, ln, rfl, hS, hlen, hx32, hask, k⟩ := h
    have nd := sc_answers.nd
    obtain ⟨aN, mN, hN⟩ := tN.ex
    obtain ⟨aR, mR, hR⟩ := tR.ex
    refine ⟨_, pss_cons (ps_set (i := 1) nd rfl (.inl rfl) pe_non)
      (pss_cons (ps_set (i := 2) nd rfl (.inl rfl) (pe_lst pa_nil))
      (pss_cons (ps_set (i := 3) nd rfl (.inl rfl) pe_int)
      (pss_cons (ps_while PassesOwn.never (pt_cmpR op_lt (pv 3) (pe_callB call_len_seq (by rfl) T.len PySem.boot_len (pa_cons (pv 0) pa_nil)) (nomark _))
        (pss_cons (ps_set (i := 4) nd rfl (.inl rfl) (pe_ix ix_list (pv 0) (pv 3) (fun _ _ => rfl)))
        (pss_cons (ps_set (i := 5) nd rfl (.inl rfl) (pe_op op_add (pe_op op_add (pv 3) pe_int) (pe_ix ix_tup (pe_glob rfl mN (v := .ref aN) rfl) (pv 4) (fun _ _ => rfl))))
        (pss_cons (ps_set (i := 6) nd rfl (.inl rfl) (pe_slice sl_list (pv 0) (po_some (pe_op op_add (pv 3) pe_int)) (po_some (pv 5))))
        (pss_cons (ps_set (i := 7) nd rfl (.inl rfl) (pe_lst pa_nil))
        (pss_cons (ps_for PassesOwn.never rfl (pi_range1 rfl T.range (pa_cons (pe_ix ix_tup (pe_glob rfl mR (v := .ref aR) rfl) (pv 4) (fun _ _ => rfl)) pa_nil)) (pg_name (i := 8) nd rfl (.inl rfl))
          (pss_cons (ps_expr (pe_bm PySem.F.plainAttrs_list PySem.F.slot_list_append PySem.F.type_list_append mt_append (pv 7) (pa_cons (pe_slice sl_list (pv 0) (po_some (pe_op op_add (pv 5) pe_int)) (po_some (pe_op op_add (pe_op op_add (pv 5) pe_int) (pe_ix ix_list (pv 0) (pv 5) (fun _ _ => rfl))))) pa_nil)))
          (pss_one (ps_set (i := 5) nd rfl (.inl rfl) (pe_op op_add (pe_op op_add (pv 5) pe_int) (pe_ix ix_list (pv 0) (pv 5) (fun _ _ => rfl)))))))
        (pss_cons (ps_set (i := 3) nd rfl (.inl rfl) (pv 5))
        (pss_cons (ps_if (pt_cmpR op_ne (pv 4) (pe_k rfl T.CREATE) (nomark _))
          (pss_one (ps_set (i := 9) nd rfl (.inl rfl) (pe_ca c1 hr (by decide) rfl (pa_cons (pv 1) (pa_cons (pv 4) (pa_cons (pv 6) (pa_cons (pv 7) pa_nil)))))))
          (pss_one (ps_if (pt_chain op_le op_le pe_int (pe_ix ix_list (pv 6) pe_int (fun _ _ => rfl)) (pe_k rfl T.MOST_CLIENTS))
            (pss_cons (ps_set (i := 1) nd rfl (.inl rfl) (pe_mc mc hr (by decide) rfl (pa_cons (pe_ix ix_list (pv 6) pe_int (fun _ _ => rfl)) pa_nil)))
            (pss_one (ps_set (i := 9) nd rfl (.inl rfl) (pe_lst (pa_cons pe_int pa_nil)))))
            (pss_one (ps_set (i := 9) nd rfl (.inl rfl) (pe_lst (pa_cons (pe_un un_neg pe_int) pa_nil)))))))
        (pss_cons (ps_expr (pe_bm PySem.F.plainAttrs_list PySem.F.slot_list_append PySem.F.type_list_append mt_append (pv 2) (pa_cons (pe_callB call_len_seq (by rfl) T.len PySem.boot_len (pa_cons (pv 9) pa_nil)) pa_nil)))
        (pss_one (ps_expr (pe_bm PySem.F.plainAttrs_list PySem.F.slot_list_extend PySem.F.type_list_extend mt_extend (pv 2) (pa_cons (pv 9) pa_nil)))))))))))))
      (pss_one (ps_ret (pv 2)))))), ?_⟩
    obtain ⟨raw, hraw, h200, hbound, hshort⟩ := asked_parts hask
    have hans := answers_eq hraw
    refine ⟨Nat.zero_le _, fun fo hfo => ?_⟩
    refine ⟨fun m σ H' => ∃ (i f : Nat) (rest : List (List (List Int))) (done : List Int) (st : Kex8.State) (pv : V) (v4 v5 v6 v7 v8 v9 : Option V), m = ln.length - i ∧ i ≤ ln.length ∧ σ = [some (.ref a), some pv, some (.ref fo), some (.int (i : Int)), v4, v5, v6, v7, v8, v9] ∧
        PyFlat.calls PyKex8.shape f (up (ln.drop i)) = some rest ∧ rest.length ≤ 200 ∧ (∀ c ∈ rest, PyInside.call PyKex8.bound c = true) ∧ done ++ PyFlat.told (PyFlat.played Kex8Neutral.step st (rest.map PyKex8.whole)) = PyKex8.answers (up ln) ∧
        H' fo = some (.lst (done.map V.int)) ∧ (∀ o, H a = some o → H' a = some o) ∧ StAt cC cM cP fo a H H' st pv rest.length,
      ⟨_, 0, (up ln).length, raw, [], none, .non, none, none, none, none, none, none, rfl, Nat.zero_le _, rfl, hraw, h200, hbound, hans.symm, upd_same, fun o e => (same_new hfo) _ _ e, .inl ⟨rfl, rfl⟩⟩, ?_⟩
    rintro m σ H' ⟨i, f, rest, done, st, pv, v4, v5, v6, v7, v8, v9, rfl, hi, rfl, hcalls, hr200, hb, heq, hdone, hka, hst⟩
    have hS' := seq_keep hS hka
    have hfa : ∀ o, H a = some o → a ≠ fo := fun o e => ne_of_none e hfo
    refine ⟨_, rfl, _, rfl, a, _, rfl, .inl hS', _, _, rfl, rfl, _, rfl, ?_⟩
    rw [nv_len]
    refine itd (fun c => ?_) (fun c => ?_)
    · have hil : i < ln.length := by omega
      obtain ⟨j, n, kk, rs, e, f', cs, hj, hshape, hnl, hrows, hrl, hie, hel, hinl, rfl, hcalls'⟩ := calls_turn hil hcalls
      obtain ⟨sn, sr⟩ := shape_at hshape
      refine ⟨fun σ' H2 => ∃ m', m' < ln.length - i ∧ ∃ (i f : Nat) (rest : List (List (List Int))) (done : List Int) (st : Kex8.State) (pv : V) (v4 v5 v6 v7 v8 v9 : Option V), m' = ln.length - i ∧ i ≤ ln.length ∧ σ' = [some (.ref a), some pv, some (.ref fo), some (.int (i : Int)), v4, v5, v6, v7, v8, v9] ∧
        PyFlat.calls PyKex8.shape f (up (ln.drop i)) = some rest ∧ rest.length ≤ 200 ∧ (∀ c ∈ rest, PyInside.call PyKex8.bound c = true) ∧ done ++ PyFlat.told (PyFlat.played Kex8Neutral.step st (rest.map PyKex8.whole)) = PyKex8.answers (up ln) ∧
        H2 fo = some (.lst (done.map V.int)) ∧ (∀ o, H a = some o → H2 a = some o) ∧ StAt cC cM cP fo a H H2 st pv rest.length, fun _ _ z => z, ?_⟩
      -- call, end, numbers, rows
      refine ⟨_, rfl, _, rfl, a, _, _, _, rfl, rfl, hS', nv_at rfl hj, ?_⟩
      refine ⟨_, rfl, _, _, rfl, rfl, _, rfl, aN, _, _, _, rfl, rfl, hN H', nv_at rfl sn, _, _, rfl, rfl, ?_⟩
      refine ⟨_, rfl, _, rfl, _, _, rfl, rfl, _, rfl, _, rfl, _, rfl, a, _, rfl, hS', fun na hna => ?_⟩
      rw [cut_nn (i := i + 1) (j := i + 1 + n) (a := (i : Int) + 1) (b := (i : Int) + 1 + (n : Int)) (by omega) (by omega), show i + 1 + n - (i + 1) = n by omega]
      generalize hns : (ln.drop (i + 1)).take n = ns at hnl hb heq ⊢
      have s1 : Same H' (upd H' na (.lst (nv ns))) := same_new hna
      have lna : LN (upd H' na (.lst (nv ns))) na ns := upd_same
      generalize upd H' na (.lst (nv ns)) = H1 at s1 lna ⊢
      refine ⟨Nat.zero_le _, fun ra hra => ?_⟩
      have s2 : Same H1 (upd H1 ra (.lst [])) := same_new hra
      have hk2 : kk ≤ 2 := (show ∀ x ∈ rowsL, x ≤ 2 by decide) kk (List.mem_of_getElem? sr)
      have nra : H' ra = none := s1.free hra
      refine ⟨_, rfl, aR, _, _, _, rfl, rfl, hR _, nv_at rfl sr, kk, rfl, by omega, by omega, for_range (lo := 0) (n := kk) (fun t σ H2 => ∃ (et : Nat) (v8 : Option V), t ≤ kk ∧ σ = [some (.ref a), some pv, some (.ref fo), some (.int (i : Int)), some (.int (j : Int)), some (.int (et : Int)), some (.ref na), some (.ref ra), v8, v9] ∧
          rowsN ln (kk - t) et = some (rs.drop t, e) ∧ Same H1 H2 ∧ Rows2 H2 ra (rs.take t))
        ⟨i + 1 + n, v8, Nat.zero_le _, rfl, hrows, s2, ⟨[], upd_same, rfl, fun i b r hb _ => by cases hb⟩⟩ ?_ ?_⟩
      · rintro t σ H2 ht ⟨et, v8', _, rfl, hrn, s3, hR2⟩
        have hS2 := seq_keep hS' (fun o e => (s1.trans s3) _ _ e)
        have htl : t < rs.length := by rw [hrl]; exact ht
        obtain ⟨q, hq⟩ : ∃ q, kk - t = q + 1 := ⟨kk - (t + 1), by omega⟩
        have hq2 : kk - (t + 1) = q := by omega
        rw [hq, List.drop_eq_getElem_cons htl] at hrn
        obtain ⟨m, hm, hml, hr1, hrn2⟩ := rowsN_succ hrn
        obtain ⟨ras, h1, h2, h3⟩ := hR2.ex
        refine ⟨_, rfl, .inl ⟨rfl, _, SqL.of h1⟩, _, rfl, _, rfl, _, _, rfl, rfl, _, rfl, _, rfl, _, _, rfl, rfl, _, rfl, _, rfl, a, _, _, _, rfl, rfl, hS2, nv_at rfl hm, _, _, rfl, rfl, _, rfl, a, _, rfl, hS2, fun p hp => ?_⟩
        rw [cut_nn (i := et + 1) (j := et + 1 + m) (a := (et : Int) + 1) (b := (et : Int) + 1 + (m : Int)) (by omega) (by omega), show et + 1 + m - (et + 1) = m by omega, ← hr1]
        have s4 : Same H2 (upd H2 p (.lst (nv rs[t]))) := same_new hp
        have pra : p ≠ ra := (ne_of_none h1 hp).symm
        refine ⟨ra, _, _, rfl, rfl, s4 _ _ h1, ?_, ?_⟩
        · rw [List.length_map, h2, List.length_take]
          exact big_line' (by omega)
        · have lra : ∀ {b : Addr} {l : List Nat}, LN (upd H2 p (.lst (nv rs[t]))) b l → b ≠ ra → LN (upd (upd H2 p (.lst (nv rs[t]))) ra (.lst (ras.map V.ref ++ [V.ref p]))) b l := fun {b l} z w => by
            show upd _ ra _ b = _
            rw [upd_ne w]
            exact z
          have s5 : Same H1 (upd (upd H2 p (.lst (nv rs[t]))) ra (.lst (ras.map V.ref ++ [V.ref p]))) := (s3.trans s4).wr hra
          have hS3 := seq_keep hS' (fun o e => (s1.trans s5) _ _ e)
          refine ⟨_, rfl, _, _, rfl, rfl, _, rfl, _, rfl, a, _, _, _, rfl, rfl, hS3, nv_at rfl hm, _, _, rfl, rfl, ?_⟩
          refine ⟨et + 1 + m, some (.int (0 + (t : Int))), ht, rfl, ?_, s5, ⟨ras ++ [p], ?_, ?_, fun x b r hb hr => ?_⟩⟩
          · rw [hq2]
            exact hrn2
          · rw [upd_same, List.map_append]
            rfl
          · rw [List.length_append, List.length_take, h2, List.length_take]
            show _ + 1 = _
            omega
          · rw [take_snoc (List.getElem?_eq_getElem htl)] at hr
            rcases snoc_cases hb with ⟨e1, rfl⟩ | ⟨l1, hb⟩
            · rcases snoc_cases hr with ⟨e2, rfl⟩ | ⟨l2, hr⟩
              · exact ⟨lra upd_same pra, pra⟩
              · omega
            · rcases snoc_cases hr with ⟨e2, rfl⟩ | ⟨l2, hr⟩
              · omega
              · obtain ⟨q1, q2⟩ := h3 x b r hb hr
                exact ⟨lra (s4 _ _ q1) q2, q2⟩
      · rintro σ H3 ⟨et, v8', _, rfl, hrn, s3, hR2⟩
        rw [Nat.sub_self] at hrn
        have het : et = e := (Prod.mk.inj (Option.some.inj hrn)).2
        subst het
        rw [← hrl, List.take_length] at hR2
        have s13 := s1.trans s3
        have hna3 := s3 _ _ lna
        have hfo3 := s13 _ _ hdone
        have hka3 : ∀ o, H a = some o → H3 a = some o := fun o z => s13 _ _ (hka o z)
        have hst3 := hst.same s13
        have hcb := hb _ (List.mem_cons_self ..)
        have hshape' : PyKex8.shape (j : Int) = some (ns.length, rs.length) := by rw [hnl, hrl]; exact hshape
        have hns32 : ∀ x ∈ ns, x < 2 ^ 32 := fun x hx => hx32 x (by
          rw [← hns] at hx
          exact List.mem_of_mem_drop (List.mem_of_mem_take hx))
        have hlenA := congrArg List.length heq
        have fin_ : ∀ (H4 : Hp) (t : Addr) (r : List Int) (st' : Kex8.State) (pv' : V) (rq : Kex8.Request) (w4 w5 w6 w7 w8 w9 : Option V), Kex8Neutral.requestOf (PyKex8.whole (((j : Int) :: up ns) :: rs.map up)) = some rq → Kex8Neutral.fields (Kex8.step st rq).2 = r → (Kex8.step st rq).1 = st' →
            H4 fo = some (.lst (done.map V.int)) → H4 t = some (.lst (r.map V.int)) → t ≠ fo → (∀ o, H a = some o → H4 a = some o) → StAt cC cM cP fo a H H4 st' pv' cs.length →
            (done.map V.int).length < sizeLine ∧ (done.map V.int ++ [V.int (((r.map V.int).length : Nat) : Int)]).length + (r.map V.int).length ≤ sizeLine ∧
            upd H4 fo (.lst (done.map V.int ++ [V.int (((r.map V.int).length : Nat) : Int)])) t = some (.lst (r.map V.int)) ∧
            ∃ m', m' < ln.length - i ∧ ∃ (i f : Nat) (rest : List (List (List Int))) (done' : List Int) (st : Kex8.State) (pv : V) (v4 v5 v6 v7 v8 v9 : Option V), m' = ln.length - i ∧ i ≤ ln.length ∧ [some (.ref a), some pv', some (.ref fo), some (.int (et : Int)), w4, w5, w6, w7, w8, w9] = [some (.ref a), some pv, some (.ref fo), some (.int (i : Int)), v4, v5, v6, v7, v8, v9] ∧
              PyFlat.calls PyKex8.shape f (up (ln.drop i)) = some rest ∧ rest.length ≤ 200 ∧ (∀ c ∈ rest, PyInside.call PyKex8.bound c = true) ∧ done' ++ PyFlat.told (PyFlat.played Kex8Neutral.step st (rest.map PyKex8.whole)) = PyKex8.answers (up ln) ∧
              (upd (upd H4 fo (.lst (done.map V.int ++ [V.int (((r.map V.int).length : Nat) : Int)]))) fo (.lst ((done.map V.int ++ [V.int (((r.map V.int).length : Nat) : Int)]) ++ r.map V.int))) fo = some (.lst (done'.map V.int)) ∧
              (∀ o, H a = some o → (upd (upd H4 fo (.lst (done.map V.int ++ [V.int (((r.map V.int).length : Nat) : Int)]))) fo (.lst ((done.map V.int ++ [V.int (((r.map V.int).length : Nat) : Int)]) ++ r.map V.int))) a = some o) ∧
              StAt cC cM cP fo a H (upd (upd H4 fo (.lst (done.map V.int ++ [V.int (((r.map V.int).length : Nat) : Int)]))) fo (.lst ((done.map V.int ++ [V.int (((r.map V.int).length : Nat) : Int)]) ++ r.map V.int))) st pv rest.length := by
          intro H4 t r st' pv' rq w4 w5 w6 w7 w8 w9 hrq er es hf4 ht4 ntf hk4 hs4
          rw [played_cons hrq, er, es] at heq hlenA
          rw [List.length_append, List.length_append, List.length_cons] at hlenA
          refine ⟨?_, ?_, ?_, _, ?_, et, f', cs, done ++ (((r.length : Nat) : Int) :: r), st', pv', w4, w5, w6, w7, w8, w9, rfl, hel, rfl, hcalls', ?_, fun c hc => hb c (List.mem_cons_of_mem _ hc), ?_, ?_, fun o z => ?_, ?_⟩
          · rw [List.length_map]
            exact big_line' (by omega)
          · rw [List.length_append, List.length_map, List.length_map, List.length_singleton]
            exact big_line (by omega)
          · rw [upd_ne ntf]
            exact ht4
          · omega
          · rw [List.length_cons] at hr200
            omega
          · rw [← heq, List.append_assoc]
          · rw [upd_same, List.map_append, List.map_cons, List.length_map, List.append_assoc]
            rfl
          · rw [upd_ne (hfa o z), upd_ne (hfa o z)]
            exact hk4 o z
          · exact hs4.wr.wr
        refine ⟨_, rfl, ?_⟩
        refine ⟨_, rfl, rfl, _, rfl, ?_⟩
        rcases req_of j ns rs hshape' hns32 hcb with ⟨rfl, a0, rfl, rfl, hrq⟩ | ⟨hj0, rq, hq, hrq⟩
        · -- create
          refine itn (fun z => absurd rfl z) (fun _ => ?_)
          have est : Kex8.step st (.create a0) = if a0 = 0 ∨ 4 < a0 then (st, .value (-22)) else (some (fresh a0), .value 0) := by cases st <;> rfl
          refine ⟨_, rfl, na, _, _, _, rfl, rfl, SqL.of hna3, at_of (j := 0) rfl rfl, _, _, rfl, rfl, _, rfl, ?_⟩
          have bad : (a0 = 0 ∨ 4 < a0) → ∀ t, H3 t = none → t ≠ fo ∧ H3 fo = some (.lst (done.map V.int)) := fun _ t ht => ⟨(ne_of_none hfo3 ht).symm, hfo3⟩
          refine itd (fun z => ?_) (fun z => ?_)
          · refine ⟨_, _, rfl, rfl, _, rfl, ?_⟩
            refine itd (fun y => ?_) (fun y => ?_)
            · rw [if_neg (by omega)] at est
              refine ⟨_, rfl, na, _, _, _, rfl, rfl, SqL.of hna3, at_of (j := 0) rfl rfl, ?_⟩
              intro x dx hx hdx ndx
              have fox : fo ≠ x := ne_of_none hfo3 hx
              have fodx : fo ≠ dx := ne_of_none hfo3 hdx
              refine ⟨x, dx, a0, fo, _, rfl, upd_same, by omega, (by rw [upd_ne fox, upd_ne fodx]; exact hfo3), fox, fun H5 L eL sB hP5 rf ro => ⟨rfl, ?_⟩⟩
              have s35 : Same H3 H5 := Same.made hx hdx sB
              refine ⟨(by show 1 ≤ sizeLine; decide), fun t ht => ?_⟩
              have hfo5 := s35 _ _ hfo3
              have ntf : t ≠ fo := (ne_of_none hfo5 ht).symm
              have s56 := same_new (o := .lst [V.int 0]) ht
              have hSt : StAt cC cM cP fo a H (upd H5 t (.lst [V.int 0])) (some (fresh a0)) (.ref x) cs.length := by
                refine .inr ⟨L, fresh a0, 0, rfl, by rw [eL], hP5.same s56, fresh_good (by omega), by rw [List.length_cons] at hr200; omega, rf, fun o z => ro a o ?_ (hfa o z)⟩
                have := hka3 o z
                rw [upd_ne (ne_of_none this hx), upd_ne (ne_of_none this hdx)]
                exact this
              obtain ⟨z1, z2, z3, z4⟩ := fin_ (upd H5 t (.lst [V.int 0])) t [0] (some (fresh a0)) (.ref x) (.create a0) (some (.int 0)) (some (.int (et : Int))) (some (.ref na)) (some (.ref ra)) v8' (some (.ref t)) hrq (by rw [est]; rfl) (by rw [est]) (s56 _ _ hfo5) upd_same ntf (fun o z => s56 _ _ (s35 _ _ (hka3 o z))) hSt
              refine ⟨_, rfl, .inl ⟨rfl, _, SqL.of (s56 _ _ hfo5)⟩, _, rfl, t, _, rfl, .inl (SqL.of upd_same), fo, _, _, rfl, rfl, s56 _ _ hfo5, z1, ?_⟩
              exact ⟨_, rfl, .inl ⟨rfl, _, SqL.of upd_same⟩, _, rfl, fo, t, _, _, rfl, rfl, upd_same, z3, z2, z4⟩
            · rw [if_pos (by omega)] at est
              refine ⟨_, rfl, (by show 1 ≤ sizeLine; decide), fun t ht => ?_⟩
              have ntf : t ≠ fo := (ne_of_none hfo3 ht).symm
              have s56 := same_new (o := .lst [V.int (-22)]) ht
              obtain ⟨z1, z2, z3, z4⟩ := fin_ (upd H3 t (.lst [V.int (-22)])) t [-22] st pv (.create a0) (some (.int 0)) (some (.int (et : Int))) (some (.ref na)) (some (.ref ra)) v8' (some (.ref t)) hrq (by rw [est]; rfl) (by rw [est]) (s56 _ _ hfo3) upd_same ntf (fun o z => s56 _ _ (hka3 o z)) ((hst3.mono (Nat.le_succ _)).same s56)
              refine ⟨_, rfl, .inl ⟨rfl, _, SqL.of (s56 _ _ hfo3)⟩, _, rfl, t, _, rfl, .inl (SqL.of upd_same), fo, _, _, rfl, rfl, s56 _ _ hfo3, z1, ?_⟩
              exact ⟨_, rfl, .inl ⟨rfl, _, SqL.of upd_same⟩, _, rfl, fo, t, _, _, rfl, rfl, upd_same, z3, z2, z4⟩
          · rw [if_pos (by omega)] at est
            refine ⟨_, rfl, iteF ?_⟩
            refine ⟨_, rfl, (by show 1 ≤ sizeLine; decide), fun t ht => ?_⟩
            have ntf : t ≠ fo := (ne_of_none hfo3 ht).symm
            have s56 := same_new (o := .lst [V.int (-22)]) ht
            obtain ⟨z1, z2, z3, z4⟩ := fin_ (upd H3 t (.lst [V.int (-22)])) t [-22] st pv (.create a0) (some (.int 0)) (some (.int (et : Int))) (some (.ref na)) (some (.ref ra)) v8' (some (.ref t)) hrq (by rw [est]; rfl) (by rw [est]) (s56 _ _ hfo3) upd_same ntf (fun o z => s56 _ _ (hka3 o z)) ((hst3.mono (Nat.le_succ _)).same s56)
            refine ⟨_, rfl, .inl ⟨rfl, _, SqL.of (s56 _ _ hfo3)⟩, _, rfl, t, _, rfl, .inl (SqL.of upd_same), fo, _, _, rfl, rfl, s56 _ _ hfo3, z1, ?_⟩
            exact ⟨_, rfl, .inl ⟨rfl, _, SqL.of upd_same⟩, _, rfl, fo, t, _, _, rfl, rfl, upd_same, z3, z2, z4⟩
        · -- an operation
          refine itn (fun _ => ?_) (fun z => absurd (int_eq z) (by omega))
          refine ⟨_, rfl, _, rfl, _, rfl, _, rfl, ?_⟩
          rcases hst3 with ⟨rfl, rfl⟩ | ⟨L, s, N, rfl, rfl, hP, g, hNb, rf, ra0⟩
          · refine .inl ⟨j, na, ra, rfl, fun H4 t s4 n4 l4 => ?_⟩
            have est : Kex8.step none rq = (none, .value (-11)) := by cases hq <;> rfl
            have ntf : t ≠ fo := (ne_of_none hfo3 n4).symm
            obtain ⟨z1, z2, z3, z4⟩ := fin_ H4 t [-11] none .non rq (some (.int (j : Int))) (some (.int (et : Int))) (some (.ref na)) (some (.ref ra)) v8' (some (.ref t)) hrq (by rw [est]; rfl) (by rw [est]) (s4 _ _ hfo3) l4 ntf (fun o z => s4 _ _ (hka3 o z)) (.inl ⟨rfl, rfl⟩)
            refine ⟨_, rfl, .inl ⟨rfl, _, SqL.of (s4 _ _ hfo3)⟩, _, rfl, t, _, rfl, .inl (SqL.of l4), fo, _, _, rfl, rfl, s4 _ _ hfo3, z1, ?_⟩
            exact ⟨_, rfl, .inl ⟨rfl, _, SqL.of upd_same⟩, _, rfl, fo, t, _, _, rfl, rfl, upd_same, z3, z2, z4⟩
          · rw [List.length_cons] at hNb
            refine .inr ⟨j, L, s, N, na, ra, ns, rs, rq, rfl, hP, g, by omega, hna3, hR2.at_, hq, fun H4 t hP4 kp n4 l4 => ?_⟩
            obtain ⟨t2, r2, est, g2⟩ := g.on_step hq
            rw [stepS_of est] at hP4 l4
            have ntf : t ≠ fo := (ne_of_none hfo3 n4).symm
            have hfo4 := kp.role hfo3 rf (fun z => z rfl)
            have hka4 : ∀ o, H a = some o → H4 a = some o := fun o z => kp.fix (hka3 o z) (ra0 o z)
            obtain ⟨z1, z2, z3, z4⟩ := fin_ H4 t (Kex8Neutral.fields r2) (some t2) (.ref L.p) rq (some (.int (j : Int))) (some (.int (et : Int))) (some (.ref na)) (some (.ref ra)) v8' (some (.ref t)) hrq (by rw [est]) (by rw [est]) hfo4 l4 ntf hka4 (.inr ⟨L, t2, N + 500, rfl, rfl, hP4, g2, by omega, rf, ra0⟩)
            refine ⟨_, rfl, .inl ⟨rfl, _, SqL.of hfo4⟩, _, rfl, t, _, rfl, .inl (SqL.of l4), fo, _, _, rfl, rfl, hfo4, z1, ?_⟩
            exact ⟨_, rfl, .inl ⟨rfl, _, SqL.of upd_same⟩, _, rfl, fo, t, _, _, rfl, rfl, upd_same, z3, z2, z4⟩
    · have e0 : ln.drop i = [] := List.drop_eq_nil_of_le (by omega)
      rw [e0] at hcalls
      have e1 := calls_end hcalls
      subst e1
      have e2 : done ++ ([] : List Int) = PyKex8.answers (up ln) := heq
      rw [List.append_nil] at e2
      refine ⟨_, rfl, k H' fo ?_⟩
      rw [hdone, e2]
end
end Cs

/-! The end. -/
namespace Cs
open PySem PySem.Spec PyProof.Rows L2
open PySem.W (Codec)
/-! ### what the top has written -/
section
variable {P : Program} {w : World} {K : PySem.W.Frag} {mg : Str → Option Value} {base : Heap} {cC cM cP : Addr}
theorem gf_mk {h : Heap} {x : Str} {st : Stmt} {ps : List Str} {f : Addr} {oc : Value} {od an : Option Addr} {sl : Array (Option Value)} {kV dc pm cd ct : Value} (X : K.In h) (G : h.Ns mainGlobals mg) (a : PySem.W.nsIn K mainGlobals x = some (some (.ref f)))
    (l : K.lookup f = some ⟨oc, od, .func (PySem.W.fnOf x x (defArgs st) (defBody st) (defScope st) .none kV dc pm an cd ct), sl⟩) (c : PySem.W.codeIn K cd x = true) (k : PySem.W.keepIn K (.ref f) = true)
    (b : ∀ (kV doc pm : Value) (an : Option Addr) (cdv ct : Value) (us : List Value), us.length = ps.length → bindArgs (PySem.W.fnOf x x (defArgs st) (defBody st) (defScope st) .none kV doc pm an cdv ct) ⟨us, []⟩ = pure (ps.zip us)) : Gf K mg x st ps :=
  ⟨f, _, fun_mk l c k, PySem.W.mg_of X G a, (fun_mk l c k).binds b⟩
theorem gi_mk {h : Heap} {x qual : Str} {C : Addr} {st : Stmt} {ps : List Str} {f : Addr} {oc : Value} {od an : Option Addr} {sl : Array (Option Value)} {kV dc pm cd ct : Value} (X : K.In h) (G : h.Ns mainGlobals mg) (aC : PySem.W.nsIn K mainGlobals x = some (some (.ref C)))
    (a : PySem.W.findIn K (.ref C) "__init__" = some (some (.ref f))) (i : PySem.W.isFn K (.ref f) = true) (l : K.lookup f = some ⟨oc, od, .func (PySem.W.fnOf "__init__" qual (defArgs st) (defBody st) (defScope st) .none kV dc pm an cd ct), sl⟩) (c : PySem.W.codeIn K cd qual = true) (k : PySem.W.keepIn K (.ref f) = true)
    (mk : PySem.W.makesIn K C = true) (kc : PySem.W.keepIn K (.ref C) = true)
    (b : ∀ (kV doc pm : Value) (an : Option Addr) (cdv ct : Value) (us : List Value), us.length = ps.length → bindArgs (PySem.W.fnOf "__init__" qual (defArgs st) (defBody st) (defScope st) .none kV doc pm an cdv ct) ⟨us, []⟩ = pure (ps.zip us)) : Gi K mg x qual C st ps :=
  ⟨f, _, fun_mk l c k, ⟨mk, a, i, kc⟩, PySem.W.mg_of X G aC, (fun_mk l c k).binds b⟩
theorem tab_mk {h : Heap} {x : Str} {xs : List V} {a : Addr} {od : Option Addr} {its : Array Value} {n : Nat} {sl : Array (Option Value)} (X : K.In h) (G : h.Ns mainGlobals mg) (h1 : PySem.W.nsIn K mainGlobals x = some (some (.ref a))) (h2 : K.lookup a = some ⟨.type "tuple", od, .seq its n, sl⟩)
    (h3 : its.size ≤ sizeLine) (h4 : Vals xs its.toList) : Tab K mg x xs := ⟨a, PySem.W.mg_of X G h1, fun H => .inr ⟨_, its, n, h2, rfl, rfl, h3, h4⟩⟩
theorem k_mk {h : Heap} {x : Str} {n : Int} {t : Tok} (X : K.In h) (G : h.Ns mainGlobals mg) (a : PySem.W.nsIn K mainGlobals x = some (some (.int n t))) : ∃ t, mg x = some (.int n t) := ⟨t, PySem.W.mg_of X G a⟩
theorem deed_at {k j : Nat} {x : Str} {xs : List V} {f : Addr} (hk : k ≤ 6) (c : Ca P w K mg base k x ["platform", "numbers", "rows"] (spDeed cC cM cP j)) (m : mg x = some (.ref f)) (e : xs[j]? = some (.ref f)) : ∃ (f : Addr) (fd : FuncData), xs[j]? = some (.ref f) ∧ FnOk P w K mg base CX0 6 f fd ["platform", "numbers", "rows"] (spDeed cC cM cP j) ∧
    PySem.W.keepIn K (.ref f) = true ∧ Binds K fd ["platform", "numbers", "rows"] [] := by
  obtain ⟨f2, fd, F, hm, kp, b⟩ := c.ex
  rw [m] at hm
  cases hm
  exact ⟨f, fd, e, F.mono hk, kp, b⟩
/-- all promises together -/
theorem all_ok (T : Tx mg) (kl : Kl K cC cM cP) (ne : cC ≠ cP)
    (g_encoded : Gf K mg "encoded" s_encoded ["number"])
    (g_read_number : Gf K mg "read_number" s_read_number ["code", "at"])
    (g_checksum : Gf K mg "checksum" s_checksum ["code"])
    (g_snapshot : Gf K mg "snapshot" s_snapshot ["version", "config"])
    (g_read_values : Gf K mg "read_values" s_read_values ["code", "at", "many"])
    (g_read_snapshot : Gf K mg "read_snapshot" s_read_snapshot ["code"])
    (g_match_length : Gf K mg "match_length" s_match_length ["source", "offset", "target", "at"])
    (g_longest_match : Gf K mg "longest_match" s_longest_match ["source", "target", "at"])
    (g_inserted : Gf K mg "inserted" s_inserted ["pending"])
    (g_patch_of : Gf K mg "patch_of" s_patch_of ["source", "target"])
    (g_run_command : Gf K mg "run_command" s_run_command ["code", "at", "source", "result"])
    (g_applied : Gf K mg "applied" s_applied ["patch", "source"])
    (g_latest : Gf K mg "latest" s_latest ["platform"])
    (g_version_bytes : Gf K mg "version_bytes" s_version_bytes ["platform", "version"])
    (g_send : Gf K mg "send" s_send ["platform", "message"])
    (g_is_full : Gf K mg "is_full" s_is_full ["platform"])
    (g_pending_count : Gf K mg "pending_count" s_pending_count ["client"])
    (g_receive_request : Gf K mg "receive_request" s_receive_request ["platform", "message"])
    (g_take : Gf K mg "take" s_take ["client", "found"])
    (g_receive_patch : Gf K mg "receive_patch" s_receive_patch ["platform", "message"])
    (g_receive_whole : Gf K mg "receive_whole" s_receive_whole ["platform", "message"])
    (g_receive_batch : Gf K mg "receive_batch" s_receive_batch ["platform", "message"])
    (g_receive_receipt : Gf K mg "receive_receipt" s_receive_receipt ["platform", "message"])
    (g_receive : Gf K mg "receive" s_receive ["platform", "message"])
    (g_has_client : Gf K mg "has_client" s_has_client ["platform", "number"])
    (g_has_message : Gf K mg "has_message" s_has_message ["platform", "index"])
    (g_has_version : Gf K mg "has_version" s_has_version ["platform", "version"])
    (g_are_bytes : Gf K mg "are_bytes" s_are_bytes ["rows"])
    (g_with_length : Gf K mg "with_length" s_with_length ["row"])
    (g_stage : Gf K mg "stage" s_stage ["platform", "numbers", "rows"])
    (g_publish : Gf K mg "publish" s_publish ["platform", "numbers", "rows"])
    (g_poll : Gf K mg "poll" s_poll ["platform", "numbers", "rows"])
    (g_expose : Gf K mg "expose" s_expose ["platform", "numbers", "rows"])
    (g_flush_client : Gf K mg "flush_client" s_flush_client ["platform", "numbers", "rows"])
    (g_take_first : Gf K mg "take_first" s_take_first ["platform", "index"])
    (g_deliver : Gf K mg "deliver" s_deliver ["platform", "numbers", "rows"])
    (g_deliver_copy : Gf K mg "deliver_copy" s_deliver_copy ["platform", "numbers", "rows"])
    (g_drop : Gf K mg "drop" s_drop ["platform", "numbers", "rows"])
    (g_drain : Gf K mg "drain" s_drain ["platform", "numbers", "rows"])
    (g_forget : Gf K mg "forget" s_forget ["platform", "numbers", "rows"])
    (g_messages : Gf K mg "messages" s_messages ["platform", "numbers", "rows"])
    (g_message_content : Gf K mg "message_content" s_message_content ["platform", "numbers", "rows"])
    (g_client_state : Gf K mg "client_state" s_client_state ["platform", "numbers", "rows"])
    (g_client_value : Gf K mg "client_value" s_client_value ["platform", "numbers", "rows"])
    (g_server_value : Gf K mg "server_value" s_server_value ["platform", "numbers", "rows"])
    (g_tell_counted : Gf K mg "tell_counted" s_tell_counted ["platform", "numbers", "rows"])
    (g_count_code : Gf K mg "count_code" s_count_code ["platform", "numbers", "rows"])
    (g_tell_snapshot : Gf K mg "tell_snapshot" s_tell_snapshot ["platform", "numbers", "rows"])
    (g_tell_patch : Gf K mg "tell_patch" s_tell_patch ["platform", "numbers", "rows"])
    (g_apply : Gf K mg "apply" s_apply ["platform", "numbers", "rows"])
    (g_tell_read_snapshot : Gf K mg "tell_read_snapshot" s_tell_read_snapshot ["platform", "numbers", "rows"])
    (g_difference : Gf K mg "difference" s_difference ["platform", "numbers", "rows"])
    (g_varint : Gf K mg "varint" s_varint ["platform", "numbers", "rows"])
    (g_read_varint : Gf K mg "read_varint" s_read_varint ["platform", "numbers", "rows"])
    (g_tell_checksum : Gf K mg "tell_checksum" s_tell_checksum ["platform", "numbers", "rows"])
    (g_summary : Gf K mg "summary" s_summary ["platform", "numbers", "rows"])
    (g_answer : Gf K mg "answer" s_answer ["platform", "call", "numbers", "rows"])
    (i_Client : Gi K mg "Client" "Client.__init__" cC s_Client_init ["self"])
    (i_Message : Gi K mg "Message" "Message.__init__" cM s_Message_init ["self", "form", "client", "number", "content"])
    (i_Platform : Gi K mg "Platform" "Platform.__init__" cP s_Platform_init ["self", "many"])
    {f_stage f_publish f_poll f_expose f_flush_client f_deliver f_deliver_copy f_drop f_drain f_forget f_messages f_message_content f_client_state f_client_value f_server_value f_tell_counted f_count_code f_tell_snapshot f_tell_patch f_apply f_tell_read_snapshot f_difference f_varint f_read_varint f_tell_checksum f_summary : Addr} (tD : Tab K mg "DEEDS" [V.non, .ref f_stage, .ref f_publish, .ref f_poll, .ref f_expose, .ref f_flush_client, .ref f_deliver, .ref f_deliver_copy, .ref f_drop, .ref f_drain, .ref f_forget, .ref f_messages, .ref f_message_content, .ref f_client_state, .ref f_client_value, .ref f_server_value, .ref f_tell_counted, .ref f_count_code, .ref f_tell_snapshot, .ref f_tell_patch, .ref f_apply, .ref f_tell_read_snapshot, .ref f_difference, .ref f_varint, .ref f_read_varint, .ref f_tell_checksum, .ref f_summary])
    (n_stage : mg "stage" = some (.ref f_stage))
    (n_publish : mg "publish" = some (.ref f_publish))
    (n_poll : mg "poll" = some (.ref f_poll))
    (n_expose : mg "expose" = some (.ref f_expose))
    (n_flush_client : mg "flush_client" = some (.ref f_flush_client))
    (n_deliver : mg "deliver" = some (.ref f_deliver))
    (n_deliver_copy : mg "deliver_copy" = some (.ref f_deliver_copy))
    (n_drop : mg "drop" = some (.ref f_drop))
    (n_drain : mg "drain" = some (.ref f_drain))
    (n_forget : mg "forget" = some (.ref f_forget))
    (n_messages : mg "messages" = some (.ref f_messages))
    (n_message_content : mg "message_content" = some (.ref f_message_content))
    (n_client_state : mg "client_state" = some (.ref f_client_state))
    (n_client_value : mg "client_value" = some (.ref f_client_value))
    (n_server_value : mg "server_value" = some (.ref f_server_value))
    (n_tell_counted : mg "tell_counted" = some (.ref f_tell_counted))
    (n_count_code : mg "count_code" = some (.ref f_count_code))
    (n_tell_snapshot : mg "tell_snapshot" = some (.ref f_tell_snapshot))
    (n_tell_patch : mg "tell_patch" = some (.ref f_tell_patch))
    (n_apply : mg "apply" = some (.ref f_apply))
    (n_tell_read_snapshot : mg "tell_read_snapshot" = some (.ref f_tell_read_snapshot))
    (n_difference : mg "difference" = some (.ref f_difference))
    (n_varint : mg "varint" = some (.ref f_varint))
    (n_read_varint : mg "read_varint" = some (.ref f_read_varint))
    (n_tell_checksum : mg "tell_checksum" = some (.ref f_tell_checksum))
    (n_summary : mg "summary" = some (.ref f_summary))
    (tN : Tab K mg "NUMBERS" (nv nums)) (tR : Tab K mg "ROWS" (nv rowsL)) {f : Addr} {fd : FuncData} (F : Fun K "answers" "answers" s_answers f fd) : FnOk P w K mg base CX0 8 f fd ["calls"] (spAns K) := by
  have c_encoded := ok_encoded (P := P) (w := w) (base := base) g_encoded 
  have c_read_number := ok_read_number (P := P) (w := w) (base := base) g_read_number ⟨T.len, T.range, T.MOST_BYTES⟩
  have c_checksum := ok_checksum (P := P) (w := w) (base := base) g_checksum 
  have c_snapshot := ok_snapshot (P := P) (w := w) (base := base) g_snapshot ⟨T.len, T.enumerate⟩ c_encoded c_checksum
  have c_read_values := ok_read_values (P := P) (w := w) (base := base) g_read_values ⟨T.range, T.KEYS⟩ c_read_number
  have c_read_snapshot := ok_read_snapshot (P := P) (w := w) (base := base) g_read_snapshot ⟨T.len, T.KEYS⟩ c_read_number c_read_values c_checksum
  have c_match_length := ok_match_length (P := P) (w := w) (base := base) g_match_length ⟨T.len⟩
  have c_longest_match := ok_longest_match (P := P) (w := w) (base := base) g_longest_match ⟨T.len, T.range⟩ c_match_length
  have c_inserted := ok_inserted (P := P) (w := w) (base := base) g_inserted ⟨T.len⟩ c_encoded
  have c_patch_of := ok_patch_of (P := P) (w := w) (base := base) g_patch_of ⟨T.len, T.LEAST_COPY⟩ c_longest_match c_inserted c_encoded c_checksum
  have c_run_command := ok_run_command (P := P) (w := w) (base := base) g_run_command ⟨T.len⟩ c_read_number
  have c_applied := ok_applied (P := P) (w := w) (base := base) g_applied ⟨T.len⟩ c_run_command c_checksum
  have m_Client := ok_Client (P := P) (w := w) (base := base) i_Client ⟨T.KEYS⟩ kl
  have m_Message := ok_Message (P := P) (w := w) (base := base) i_Message kl
  have m_Platform := ok_Platform (P := P) (w := w) (base := base) i_Platform ⟨T.KEYS, T.range⟩ kl ne m_Client
  have c_latest := ok_latest (P := P) (w := w) (base := base) g_latest T kl
  have c_version_bytes := ok_version_bytes (P := P) (w := w) (base := base) g_version_bytes kl c_snapshot
  have c_send := ok_send (P := P) (w := w) (base := base) g_send T kl
  have c_is_full := ok_is_full (P := P) (w := w) (base := base) g_is_full T kl
  have c_pending_count := ok_pending_count (P := P) (w := w) (base := base) g_pending_count T kl
  have c_receive_request := ok_receive_request (P := P) (w := w) (base := base) g_receive_request T kl c_latest c_version_bytes c_patch_of c_send m_Message
  have c_take := ok_take (P := P) (w := w) (base := base) g_take T kl
  have c_receive_patch := ok_receive_patch (P := P) (w := w) (base := base) g_receive_patch T kl c_applied c_snapshot c_read_snapshot c_take
  have c_receive_whole := ok_receive_whole (P := P) (w := w) (base := base) g_receive_whole T kl c_read_snapshot c_take
  have c_receive_batch := ok_receive_batch (P := P) (w := w) (base := base) g_receive_batch T kl c_send m_Message
  have c_receive_receipt := ok_receive_receipt (P := P) (w := w) (base := base) g_receive_receipt T kl
  have c_receive := ok_receive (P := P) (w := w) (base := base) g_receive T kl c_receive_request c_receive_patch c_receive_whole c_receive_batch c_receive_receipt
  have c_has_client := ok_has_client (P := P) (w := w) (base := base) g_has_client T kl
  have c_has_message := ok_has_message (P := P) (w := w) (base := base) g_has_message T kl
  have c_has_version := ok_has_version (P := P) (w := w) (base := base) g_has_version c_latest
  have c_are_bytes := ok_are_bytes (P := P) (w := w) (base := base) g_are_bytes T
  have c_with_length := ok_with_length (P := P) (w := w) (base := base) g_with_length T
  have c_stage := ok_stage (P := P) (w := w) (base := base) (cC := cC) (cM := cM) (cP := cP) g_stage T kl
  have c_publish := ok_publish (P := P) (w := w) (base := base) (cC := cC) (cM := cM) (cP := cP) g_publish T kl c_latest
  have c_poll := ok_poll (P := P) (w := w) (base := base) (cC := cC) (cM := cM) (cP := cP) g_poll T kl c_has_client c_is_full c_send m_Message
  have c_expose := ok_expose (P := P) (w := w) (base := base) (cC := cC) (cM := cM) (cP := cP) g_expose T kl c_has_client c_pending_count
  have c_flush_client := ok_flush_client (P := P) (w := w) (base := base) (cC := cC) (cM := cM) (cP := cP) g_flush_client T kl c_has_client c_pending_count c_is_full c_send m_Message
  have c_take_first := ok_take_first (P := P) (w := w) (base := base) g_take_first kl
  have c_deliver := ok_deliver (P := P) (w := w) (base := base) (cC := cC) (cM := cM) (cP := cP) g_deliver c_has_message c_take_first c_receive
  have c_deliver_copy := ok_deliver_copy (P := P) (w := w) (base := base) (cC := cC) (cM := cM) (cP := cP) g_deliver_copy kl c_has_message c_receive
  have c_drop := ok_drop (P := P) (w := w) (base := base) (cC := cC) (cM := cM) (cP := cP) g_drop T kl c_has_message c_take_first
  have c_drain := ok_drain (P := P) (w := w) (base := base) (cC := cC) (cM := cM) (cP := cP) g_drain T kl c_take_first c_receive
  have c_forget := ok_forget (P := P) (w := w) (base := base) (cC := cC) (cM := cM) (cP := cP) g_forget T kl c_has_client
  have c_messages := ok_messages (P := P) (w := w) (base := base) (cC := cC) (cM := cM) (cP := cP) g_messages T kl
  have c_message_content := ok_message_content (P := P) (w := w) (base := base) (cC := cC) (cM := cM) (cP := cP) g_message_content kl c_has_message c_with_length
  have c_client_state := ok_client_state (P := P) (w := w) (base := base) (cC := cC) (cM := cM) (cP := cP) g_client_state T kl c_has_client
  have c_client_value := ok_client_value (P := P) (w := w) (base := base) (cC := cC) (cM := cM) (cP := cP) g_client_value T kl c_has_client
  have c_server_value := ok_server_value (P := P) (w := w) (base := base) (cC := cC) (cM := cM) (cP := cP) g_server_value T kl c_has_version
  have c_tell_counted := ok_tell_counted (P := P) (w := w) (base := base) (cC := cC) (cM := cM) (cP := cP) g_tell_counted kl c_has_client c_with_length
  have c_count_code := ok_count_code (P := P) (w := w) (base := base) (cC := cC) (cM := cM) (cP := cP) g_count_code T kl
  have c_tell_snapshot := ok_tell_snapshot (P := P) (w := w) (base := base) (cC := cC) (cM := cM) (cP := cP) g_tell_snapshot c_has_version c_with_length c_version_bytes
  have c_tell_patch := ok_tell_patch (P := P) (w := w) (base := base) (cC := cC) (cM := cM) (cP := cP) g_tell_patch c_has_version c_with_length c_version_bytes c_patch_of
  have c_apply := ok_apply (P := P) (w := w) (base := base) (cC := cC) (cM := cM) (cP := cP) g_apply c_are_bytes c_applied c_with_length
  have c_tell_read_snapshot := ok_tell_read_snapshot (P := P) (w := w) (base := base) (cC := cC) (cM := cM) (cP := cP) g_tell_read_snapshot c_are_bytes c_read_snapshot
  have c_difference := ok_difference (P := P) (w := w) (base := base) (cC := cC) (cM := cM) (cP := cP) g_difference c_are_bytes c_patch_of c_with_length
  have c_varint := ok_varint (P := P) (w := w) (base := base) (cC := cC) (cM := cM) (cP := cP) g_varint c_encoded c_with_length
  have c_read_varint := ok_read_varint (P := P) (w := w) (base := base) (cC := cC) (cM := cM) (cP := cP) g_read_varint c_are_bytes c_read_number
  have c_tell_checksum := ok_tell_checksum (P := P) (w := w) (base := base) (cC := cC) (cM := cM) (cP := cP) g_tell_checksum c_are_bytes c_checksum
  have c_summary := ok_summary (P := P) (w := w) (base := base) (cC := cC) (cM := cM) (cP := cP) g_summary T kl c_latest c_pending_count
  have dd : Deeds P w K mg base cC cM cP := ⟨_, tD, fun j ns rs rq hq => by
    cases hq with
    | stage a b => exact deed_at (by decide) c_stage n_stage rfl
    | publish => exact deed_at (by decide) c_publish n_publish rfl
    | poll a => exact deed_at (by decide) c_poll n_poll rfl
    | expose a b => exact deed_at (by decide) c_expose n_expose rfl
    | flush a => exact deed_at (by decide) c_flush_client n_flush_client rfl
    | deliver a => exact deed_at (by decide) c_deliver n_deliver rfl
    | copy a => exact deed_at (by decide) c_deliver_copy n_deliver_copy rfl
    | drop a => exact deed_at (by decide) c_drop n_drop rfl
    | drain => exact deed_at (by decide) c_drain n_drain rfl
    | forget a => exact deed_at (by decide) c_forget n_forget rfl
    | messages => exact deed_at (by decide) c_messages n_messages rfl
    | content a => exact deed_at (by decide) c_message_content n_message_content rfl
    | state a => exact deed_at (by decide) c_client_state n_client_state rfl
    | cvalue a b => exact deed_at (by decide) c_client_value n_client_value rfl
    | svalue a b => exact deed_at (by decide) c_server_value n_server_value rfl
    | counted a => exact deed_at (by decide) c_tell_counted n_tell_counted rfl
    | count a => exact deed_at (by decide) c_count_code n_count_code rfl
    | snapshot a => exact deed_at (by decide) c_tell_snapshot n_tell_snapshot rfl
    | patch a b => exact deed_at (by decide) c_tell_patch n_tell_patch rfl
    | apply a b c d => exact deed_at (by decide) c_apply n_apply rfl
    | read a b => exact deed_at (by decide) c_tell_read_snapshot n_tell_read_snapshot rfl
    | diff a b c d => exact deed_at (by decide) c_difference n_difference rfl
    | varint a b => exact deed_at (by decide) c_varint n_varint rfl
    | readv a b => exact deed_at (by decide) c_read_varint n_read_varint rfl
    | sum a b => exact deed_at (by decide) c_tell_checksum n_tell_checksum rfl
    | summary => exact deed_at (by decide) c_summary n_summary rfl⟩
  have c_answer := ok_answer (P := P) (w := w) (base := base) g_answer dd
  exact ok_answers F T tN tR c_answer m_Platform
theorem end_mk {h : Heap} {f fa : Addr} {oc : Value} {od an : Option Addr} {sl : Array (Option Value)} {kV dc pm cd ct : Value} (X : K.In h) (G : h.Ns mainGlobals mg) (hfa : mg "answers" = some (.ref fa)) (a : PySem.W.nsIn K mainGlobals "answers" = some (some (.ref f)))
    (l : K.lookup f = some ⟨oc, od, .func (PySem.W.fnOf "answers" "answers" (defArgs s_answers) (defBody s_answers) (defScope s_answers) .none kV dc pm an cd ct), sl⟩) (c : PySem.W.codeIn K cd "answers" = true) (k : PySem.W.keepIn K (.ref f) = true)
    (ok : ∀ (base : Heap) (fd : FuncData), Fun K "answers" "answers" s_answers f fd → FnOk P w K mg base CX0 8 f fd ["calls"] (spAns K)) :
    ∃ fd : FuncData, (∀ (s : Shared) (us : List Value), us.length = (["calls"] : List Str).length → BindsTo s fd ⟨us, []⟩ ((["calls"] : List Str).zip us)) ∧ ∀ base : Heap, K.In base → base.Ns mainGlobals mg → FnOk P w K mg base CX0 8 fa fd ["calls"] (spAns K) := by
  have e := hfa.symm.trans (PySem.W.mg_of X G a)
  cases e
  exact ⟨PySem.W.fnOf "answers" "answers" (defArgs s_answers) (defBody s_answers) (defScope s_answers) .none kV dc pm an cd ct, fun s us hu => match us, hu with | [_], _ => .of_eq rfl, fun base _ _ => ok base _ (fun_mk l c k)⟩
theorem kl_mk {qC qM qP : Str} {sC sM sP : Stmt} {pC pM pP : List Str} (iC : Gi K mg "Client" qC cC sC pC) (iM : Gi K mg "Message" qM cM sM pM) (iP : Gi K mg "Platform" qP cP sP pP)
    (a1 : PySem.W.plainGet K cC Str.empty = true) (a2 : PySem.W.hasDictIn K cC = true) (a3 : PySem.W.plainOver K cC = true) (a4 : PySem.W.findIn K (.ref cC) "__setattr__" = some (some (.builtin "object.__setattr__")))
    (b1 : PySem.W.plainGet K cM Str.empty = true) (b2 : PySem.W.hasDictIn K cM = true) (b3 : PySem.W.plainOver K cM = true) (b4 : PySem.W.findIn K (.ref cM) "__setattr__" = some (some (.builtin "object.__setattr__")))
    (d1 : PySem.W.plainGet K cP Str.empty = true) (d2 : PySem.W.hasDictIn K cP = true) (d3 : PySem.W.plainOver K cP = true) (d4 : PySem.W.findIn K (.ref cP) "__setattr__" = some (some (.builtin "object.__setattr__")))
    (c1 : PySem.W.findIn K (.ref cC) "version" = some none) (c2 : PySem.W.findIn K (.ref cC) "config" = some none) (c3 : PySem.W.findIn K (.ref cC) "exposures" = some none) (c4 : PySem.W.findIn K (.ref cC) "acknowledged" = some none) (c5 : PySem.W.findIn K (.ref cC) "counted" = some none)
    (m1 : PySem.W.findIn K (.ref cM) "form" = some none) (m2 : PySem.W.findIn K (.ref cM) "client" = some none) (m3 : PySem.W.findIn K (.ref cM) "number" = some none) (m4 : PySem.W.findIn K (.ref cM) "content" = some none)
    (p1 : PySem.W.findIn K (.ref cP) "versions" = some none) (p2 : PySem.W.findIn K (.ref cP) "staged" = some none) (p3 : PySem.W.findIn K (.ref cP) "clients" = some none) (p4 : PySem.W.findIn K (.ref cP) "channel" = some none) : Kl K cC cM cP :=
  ⟨⟨a1, a2, a3, a4⟩, ⟨b1, b2, b3, b4⟩, ⟨d1, d2, d3, d4⟩, c1, c2, c3, c4, c5, m1, m2, m3, m4, p1, p2, p3, p4⟩
theorem nv_up (m : List Nat) : nv m = (up m).map V.int := by
  unfold nv up
  rw [List.map_map]
  rfl
/-- the request -/
theorem end_S {H : Hp} {b : Addr} {l : List Int} {Q : VK} {E : XK} (hs : SqL K H b (l.map V.int)) (hl : l.length ≤ 30000) (hb : ∀ x ∈ l, 0 ≤ x ∧ x ≤ 4294967295) (ask : PyKex8.answers_asked l = true)
    (k : ∀ (H' : Hp) (p : Addr), H' p = some (.lst ((PyKex8.answers l).map V.int)) → Q (.ref p) H') : spAns K [.ref b] H Q E := by
  have e : up (l.map Int.toNat) = l := up_of l fun x hx => (hb x hx).1
  have e2 : nv (l.map Int.toNat) = l.map V.int := by rw [nv_up, e]
  refine ⟨b, l.map Int.toNat, rfl, by rw [e2]; exact hs, by rw [List.length_map]; exact hl, fun x hx => ?_, by rw [e]; exact ask, by rw [e]; exact k⟩
  obtain ⟨y, hy, rfl⟩ := List.mem_map.mp hx
  have := hb y hy
  omega
end
end Cs

open PySem PySem.W PyProof.Rows
set_option maxRecDepth 100000 in
set_option maxHeartbeats 0 in
theorem PySem.Challenge.cw_clientsync_s01_answers_holds : PySem.Challenge.rw_clientsync_s01_answers.Holds := by
  w_on; k_headS; (case hw => exact ⟨[.list [.int 2]], by decide +kernel, by decide +kernel⟩)
  k_fillS
  refine L2.walk_specK (r := PySem.Challenge.rw_clientsync_s01_answers) (k := 8) (CX := L2.CX0) (ps := ["calls"]) (sp := Cs.spAns) (by decide +kernel) rfl rfl ⟨rfl, by decide, by decide⟩ (fun w h Y => PySem.W.kIn_of Y) ?F ?S (fun _ _ _ _ z => z)
  case F =>
    intro w mg fa h Y KX G hmg
    have g_encoded := Cs.gf_mk (x := "encoded") (st := Cs.s_encoded) (ps := ["number"]) KX G (by k_is) (by k_is) (by k_is) (by k_is) (fun _ _ _ _ _ _ us hl => match us, hl with | [_], _ => rfl)
    have g_read_number := Cs.gf_mk (x := "read_number") (st := Cs.s_read_number) (ps := ["code", "at"]) KX G (by k_is) (by k_is) (by k_is) (by k_is) (fun _ _ _ _ _ _ us hl => match us, hl with | [_, _], _ => rfl)
    have g_checksum := Cs.gf_mk (x := "checksum") (st := Cs.s_checksum) (ps := ["code"]) KX G (by k_is) (by k_is) (by k_is) (by k_is) (fun _ _ _ _ _ _ us hl => match us, hl with | [_], _ => rfl)
    have g_snapshot := Cs.gf_mk (x := "snapshot") (st := Cs.s_snapshot) (ps := ["version", "config"]) KX G (by k_is) (by k_is) (by k_is) (by k_is) (fun _ _ _ _ _ _ us hl => match us, hl with | [_, _], _ => rfl)
    have g_read_values := Cs.gf_mk (x := "read_values") (st := Cs.s_read_values) (ps := ["code", "at", "many"]) KX G (by k_is) (by k_is) (by k_is) (by k_is) (fun _ _ _ _ _ _ us hl => match us, hl with | [_, _, _], _ => rfl)
    have g_read_snapshot := Cs.gf_mk (x := "read_snapshot") (st := Cs.s_read_snapshot) (ps := ["code"]) KX G (by k_is) (by k_is) (by k_is) (by k_is) (fun _ _ _ _ _ _ us hl => match us, hl with | [_], _ => rfl)
    have g_match_length := Cs.gf_mk (x := "match_length") (st := Cs.s_match_length) (ps := ["source", "offset", "target", "at"]) KX G (by k_is) (by k_is) (by k_is) (by k_is) (fun _ _ _ _ _ _ us hl => match us, hl with | [_, _, _, _], _ => rfl)
    have g_longest_match := Cs.gf_mk (x := "longest_match") (st := Cs.s_longest_match) (ps := ["source", "target", "at"]) KX G (by k_is) (by k_is) (by k_is) (by k_is) (fun _ _ _ _ _ _ us hl => match us, hl with | [_, _, _], _ => rfl)
    have g_inserted := Cs.gf_mk (x := "inserted") (st := Cs.s_inserted) (ps := ["pending"]) KX G (by k_is) (by k_is) (by k_is) (by k_is) (fun _ _ _ _ _ _ us hl => match us, hl with | [_], _ => rfl)
    have g_patch_of := Cs.gf_mk (x := "patch_of") (st := Cs.s_patch_of) (ps := ["source", "target"]) KX G (by k_is) (by k_is) (by k_is) (by k_is) (fun _ _ _ _ _ _ us hl => match us, hl with | [_, _], _ => rfl)
    have g_run_command := Cs.gf_mk (x := "run_command") (st := Cs.s_run_command) (ps := ["code", "at", "source", "result"]) KX G (by k_is) (by k_is) (by k_is) (by k_is) (fun _ _ _ _ _ _ us hl => match us, hl with | [_, _, _, _], _ => rfl)
    have g_applied := Cs.gf_mk (x := "applied") (st := Cs.s_applied) (ps := ["patch", "source"]) KX G (by k_is) (by k_is) (by k_is) (by k_is) (fun _ _ _ _ _ _ us hl => match us, hl with | [_, _], _ => rfl)
    have g_latest := Cs.gf_mk (x := "latest") (st := Cs.s_latest) (ps := ["platform"]) KX G (by k_is) (by k_is) (by k_is) (by k_is) (fun _ _ _ _ _ _ us hl => match us, hl with | [_], _ => rfl)
    have g_version_bytes := Cs.gf_mk (x := "version_bytes") (st := Cs.s_version_bytes) (ps := ["platform", "version"]) KX G (by k_is) (by k_is) (by k_is) (by k_is) (fun _ _ _ _ _ _ us hl => match us, hl with | [_, _], _ => rfl)
    have g_send := Cs.gf_mk (x := "send") (st := Cs.s_send) (ps := ["platform", "message"]) KX G (by k_is) (by k_is) (by k_is) (by k_is) (fun _ _ _ _ _ _ us hl => match us, hl with | [_, _], _ => rfl)
    have g_is_full := Cs.gf_mk (x := "is_full") (st := Cs.s_is_full) (ps := ["platform"]) KX G (by k_is) (by k_is) (by k_is) (by k_is) (fun _ _ _ _ _ _ us hl => match us, hl with | [_], _ => rfl)
    have g_pending_count := Cs.gf_mk (x := "pending_count") (st := Cs.s_pending_count) (ps := ["client"]) KX G (by k_is) (by k_is) (by k_is) (by k_is) (fun _ _ _ _ _ _ us hl => match us, hl with | [_], _ => rfl)
    have g_receive_request := Cs.gf_mk (x := "receive_request") (st := Cs.s_receive_request) (ps := ["platform", "message"]) KX G (by k_is) (by k_is) (by k_is) (by k_is) (fun _ _ _ _ _ _ us hl => match us, hl with | [_, _], _ => rfl)
    have g_take := Cs.gf_mk (x := "take") (st := Cs.s_take) (ps := ["client", "found"]) KX G (by k_is) (by k_is) (by k_is) (by k_is) (fun _ _ _ _ _ _ us hl => match us, hl with | [_, _], _ => rfl)
    have g_receive_patch := Cs.gf_mk (x := "receive_patch") (st := Cs.s_receive_patch) (ps := ["platform", "message"]) KX G (by k_is) (by k_is) (by k_is) (by k_is) (fun _ _ _ _ _ _ us hl => match us, hl with | [_, _], _ => rfl)
    have g_receive_whole := Cs.gf_mk (x := "receive_whole") (st := Cs.s_receive_whole) (ps := ["platform", "message"]) KX G (by k_is) (by k_is) (by k_is) (by k_is) (fun _ _ _ _ _ _ us hl => match us, hl with | [_, _], _ => rfl)
    have g_receive_batch := Cs.gf_mk (x := "receive_batch") (st := Cs.s_receive_batch) (ps := ["platform", "message"]) KX G (by k_is) (by k_is) (by k_is) (by k_is) (fun _ _ _ _ _ _ us hl => match us, hl with | [_, _], _ => rfl)
    have g_receive_receipt := Cs.gf_mk (x := "receive_receipt") (st := Cs.s_receive_receipt) (ps := ["platform", "message"]) KX G (by k_is) (by k_is) (by k_is) (by k_is) (fun _ _ _ _ _ _ us hl => match us, hl with | [_, _], _ => rfl)
    have g_receive := Cs.gf_mk (x := "receive") (st := Cs.s_receive) (ps := ["platform", "message"]) KX G (by k_is) (by k_is) (by k_is) (by k_is) (fun _ _ _ _ _ _ us hl => match us, hl with | [_, _], _ => rfl)
    have g_has_client := Cs.gf_mk (x := "has_client") (st := Cs.s_has_client) (ps := ["platform", "number"]) KX G (by k_is) (by k_is) (by k_is) (by k_is) (fun _ _ _ _ _ _ us hl => match us, hl with | [_, _], _ => rfl)
    have g_has_message := Cs.gf_mk (x := "has_message") (st := Cs.s_has_message) (ps := ["platform", "index"]) KX G (by k_is) (by k_is) (by k_is) (by k_is) (fun _ _ _ _ _ _ us hl => match us, hl with | [_, _], _ => rfl)
    have g_has_version := Cs.gf_mk (x := "has_version") (st := Cs.s_has_version) (ps := ["platform", "version"]) KX G (by k_is) (by k_is) (by k_is) (by k_is) (fun _ _ _ _ _ _ us hl => match us, hl with | [_, _], _ => rfl)
    have g_are_bytes := Cs.gf_mk (x := "are_bytes") (st := Cs.s_are_bytes) (ps := ["rows"]) KX G (by k_is) (by k_is) (by k_is) (by k_is) (fun _ _ _ _ _ _ us hl => match us, hl with | [_], _ => rfl)
    have g_with_length := Cs.gf_mk (x := "with_length") (st := Cs.s_with_length) (ps := ["row"]) KX G (by k_is) (by k_is) (by k_is) (by k_is) (fun _ _ _ _ _ _ us hl => match us, hl with | [_], _ => rfl)
    have g_stage := Cs.gf_mk (x := "stage") (st := Cs.s_stage) (ps := ["platform", "numbers", "rows"]) KX G (by k_is) (by k_is) (by k_is) (by k_is) (fun _ _ _ _ _ _ us hl => match us, hl with | [_, _, _], _ => rfl)
    have g_publish := Cs.gf_mk (x := "publish") (st := Cs.s_publish) (ps := ["platform", "numbers", "rows"]) KX G (by k_is) (by k_is) (by k_is) (by k_is) (fun _ _ _ _ _ _ us hl => match us, hl with | [_, _, _], _ => rfl)
    have g_poll := Cs.gf_mk (x := "poll") (st := Cs.s_poll) (ps := ["platform", "numbers", "rows"]) KX G (by k_is) (by k_is) (by k_is) (by k_is) (fun _ _ _ _ _ _ us hl => match us, hl with | [_, _, _], _ => rfl)
    have g_expose := Cs.gf_mk (x := "expose") (st := Cs.s_expose) (ps := ["platform", "numbers", "rows"]) KX G (by k_is) (by k_is) (by k_is) (by k_is) (fun _ _ _ _ _ _ us hl => match us, hl with | [_, _, _], _ => rfl)
    have g_flush_client := Cs.gf_mk (x := "flush_client") (st := Cs.s_flush_client) (ps := ["platform", "numbers", "rows"]) KX G (by k_is) (by k_is) (by k_is) (by k_is) (fun _ _ _ _ _ _ us hl => match us, hl with | [_, _, _], _ => rfl)
    have g_take_first := Cs.gf_mk (x := "take_first") (st := Cs.s_take_first) (ps := ["platform", "index"]) KX G (by k_is) (by k_is) (by k_is) (by k_is) (fun _ _ _ _ _ _ us hl => match us, hl with | [_, _], _ => rfl)
    have g_deliver := Cs.gf_mk (x := "deliver") (st := Cs.s_deliver) (ps := ["platform", "numbers", "rows"]) KX G (by k_is) (by k_is) (by k_is) (by k_is) (fun _ _ _ _ _ _ us hl => match us, hl with | [_, _, _], _ => rfl)
    have g_deliver_copy := Cs.gf_mk (x := "deliver_copy") (st := Cs.s_deliver_copy) (ps := ["platform", "numbers", "rows"]) KX G (by k_is) (by k_is) (by k_is) (by k_is) (fun _ _ _ _ _ _ us hl => match us, hl with | [_, _, _], _ => rfl)
    have g_drop := Cs.gf_mk (x := "drop") (st := Cs.s_drop) (ps := ["platform", "numbers", "rows"]) KX G (by k_is) (by k_is) (by k_is) (by k_is) (fun _ _ _ _ _ _ us hl => match us, hl with | [_, _, _], _ => rfl)
    have g_drain := Cs.gf_mk (x := "drain") (st := Cs.s_drain) (ps := ["platform", "numbers", "rows"]) KX G (by k_is) (by k_is) (by k_is) (by k_is) (fun _ _ _ _ _ _ us hl => match us, hl with | [_, _, _], _ => rfl)
    have g_forget := Cs.gf_mk (x := "forget") (st := Cs.s_forget) (ps := ["platform", "numbers", "rows"]) KX G (by k_is) (by k_is) (by k_is) (by k_is) (fun _ _ _ _ _ _ us hl => match us, hl with | [_, _, _], _ => rfl)
    have g_messages := Cs.gf_mk (x := "messages") (st := Cs.s_messages) (ps := ["platform", "numbers", "rows"]) KX G (by k_is) (by k_is) (by k_is) (by k_is) (fun _ _ _ _ _ _ us hl => match us, hl with | [_, _, _], _ => rfl)
    have g_message_content := Cs.gf_mk (x := "message_content") (st := Cs.s_message_content) (ps := ["platform", "numbers", "rows"]) KX G (by k_is) (by k_is) (by k_is) (by k_is) (fun _ _ _ _ _ _ us hl => match us, hl with | [_, _, _], _ => rfl)
    have g_client_state := Cs.gf_mk (x := "client_state") (st := Cs.s_client_state) (ps := ["platform", "numbers", "rows"]) KX G (by k_is) (by k_is) (by k_is) (by k_is) (fun _ _ _ _ _ _ us hl => match us, hl with | [_, _, _], _ => rfl)
    have g_client_value := Cs.gf_mk (x := "client_value") (st := Cs.s_client_value) (ps := ["platform", "numbers", "rows"]) KX G (by k_is) (by k_is) (by k_is) (by k_is) (fun _ _ _ _ _ _ us hl => match us, hl with | [_, _, _], _ => rfl)
    have g_server_value := Cs.gf_mk (x := "server_value") (st := Cs.s_server_value) (ps := ["platform", "numbers", "rows"]) KX G (by k_is) (by k_is) (by k_is) (by k_is) (fun _ _ _ _ _ _ us hl => match us, hl with | [_, _, _], _ => rfl)
    have g_tell_counted := Cs.gf_mk (x := "tell_counted") (st := Cs.s_tell_counted) (ps := ["platform", "numbers", "rows"]) KX G (by k_is) (by k_is) (by k_is) (by k_is) (fun _ _ _ _ _ _ us hl => match us, hl with | [_, _, _], _ => rfl)
    have g_count_code := Cs.gf_mk (x := "count_code") (st := Cs.s_count_code) (ps := ["platform", "numbers", "rows"]) KX G (by k_is) (by k_is) (by k_is) (by k_is) (fun _ _ _ _ _ _ us hl => match us, hl with | [_, _, _], _ => rfl)
    have g_tell_snapshot := Cs.gf_mk (x := "tell_snapshot") (st := Cs.s_tell_snapshot) (ps := ["platform", "numbers", "rows"]) KX G (by k_is) (by k_is) (by k_is) (by k_is) (fun _ _ _ _ _ _ us hl => match us, hl with | [_, _, _], _ => rfl)
    have g_tell_patch := Cs.gf_mk (x := "tell_patch") (st := Cs.s_tell_patch) (ps := ["platform", "numbers", "rows"]) KX G (by k_is) (by k_is) (by k_is) (by k_is) (fun _ _ _ _ _ _ us hl => match us, hl with | [_, _, _], _ => rfl)
    have g_apply := Cs.gf_mk (x := "apply") (st := Cs.s_apply) (ps := ["platform", "numbers", "rows"]) KX G (by k_is) (by k_is) (by k_is) (by k_is) (fun _ _ _ _ _ _ us hl => match us, hl with | [_, _, _], _ => rfl)
    have g_tell_read_snapshot := Cs.gf_mk (x := "tell_read_snapshot") (st := Cs.s_tell_read_snapshot) (ps := ["platform", "numbers", "rows"]) KX G (by k_is) (by k_is) (by k_is) (by k_is) (fun _ _ _ _ _ _ us hl => match us, hl with | [_, _, _], _ => rfl)
    have g_difference := Cs.gf_mk (x := "difference") (st := Cs.s_difference) (ps := ["platform", "numbers", "rows"]) KX G (by k_is) (by k_is) (by k_is) (by k_is) (fun _ _ _ _ _ _ us hl => match us, hl with | [_, _, _], _ => rfl)
    have g_varint := Cs.gf_mk (x := "varint") (st := Cs.s_varint) (ps := ["platform", "numbers", "rows"]) KX G (by k_is) (by k_is) (by k_is) (by k_is) (fun _ _ _ _ _ _ us hl => match us, hl with | [_, _, _], _ => rfl)
    have g_read_varint := Cs.gf_mk (x := "read_varint") (st := Cs.s_read_varint) (ps := ["platform", "numbers", "rows"]) KX G (by k_is) (by k_is) (by k_is) (by k_is) (fun _ _ _ _ _ _ us hl => match us, hl with | [_, _, _], _ => rfl)
    have g_tell_checksum := Cs.gf_mk (x := "tell_checksum") (st := Cs.s_tell_checksum) (ps := ["platform", "numbers", "rows"]) KX G (by k_is) (by k_is) (by k_is) (by k_is) (fun _ _ _ _ _ _ us hl => match us, hl with | [_, _, _], _ => rfl)
    have g_summary := Cs.gf_mk (x := "summary") (st := Cs.s_summary) (ps := ["platform", "numbers", "rows"]) KX G (by k_is) (by k_is) (by k_is) (by k_is) (fun _ _ _ _ _ _ us hl => match us, hl with | [_, _, _], _ => rfl)
    have g_answer := Cs.gf_mk (x := "answer") (st := Cs.s_answer) (ps := ["platform", "call", "numbers", "rows"]) KX G (by k_is) (by k_is) (by k_is) (by k_is) (fun _ _ _ _ _ _ us hl => match us, hl with | [_, _, _, _], _ => rfl)
    have i_Client := Cs.gi_mk (x := "Client") (qual := "Client.__init__") (st := Cs.s_Client_init) (ps := ["self"]) KX G (by k_is) (by k_is) (by k_is) (by k_is) (by k_is) (by k_is) (by k_is) (by k_is) (fun _ _ _ _ _ _ us hl => match us, hl with | [_], _ => rfl)
    have i_Message := Cs.gi_mk (x := "Message") (qual := "Message.__init__") (st := Cs.s_Message_init) (ps := ["self", "form", "client", "number", "content"]) KX G (by k_is) (by k_is) (by k_is) (by k_is) (by k_is) (by k_is) (by k_is) (by k_is) (fun _ _ _ _ _ _ us hl => match us, hl with | [_, _, _, _, _], _ => rfl)
    have i_Platform := Cs.gi_mk (x := "Platform") (qual := "Platform.__init__") (st := Cs.s_Platform_init) (ps := ["self", "many"]) KX G (by k_is) (by k_is) (by k_is) (by k_is) (by k_is) (by k_is) (by k_is) (by k_is) (fun _ _ _ _ _ _ us hl => match us, hl with | [_, _], _ => rfl)
    have kl := Cs.kl_mk i_Client i_Message i_Platform (by k_is) (by k_is) (by k_is) (by k_is) (by k_is) (by k_is) (by k_is) (by k_is) (by k_is) (by k_is) (by k_is) (by k_is) (by k_is) (by k_is) (by k_is) (by k_is) (by k_is) (by k_is) (by k_is) (by k_is) (by k_is) (by k_is) (by k_is) (by k_is) (by k_is)
    have T : Cs.Tx mg := ⟨PySem.W.mg_none_of KX G (by k_is), PySem.W.mg_none_of KX G (by k_is), PySem.W.mg_none_of KX G (by k_is), PySem.W.mg_none_of KX G (by k_is), PySem.W.mg_none_of KX G (by k_is), Cs.k_mk KX G (by k_is), Cs.k_mk KX G (by k_is), Cs.k_mk KX G (by k_is), Cs.k_mk KX G (by k_is), Cs.k_mk KX G (by k_is), Cs.k_mk KX G (by k_is), Cs.k_mk KX G (by k_is), Cs.k_mk KX G (by k_is), Cs.k_mk KX G (by k_is), Cs.k_mk KX G (by k_is), Cs.k_mk KX G (by k_is), Cs.k_mk KX G (by k_is), Cs.k_mk KX G (by k_is), Cs.k_mk KX G (by k_is), Cs.k_mk KX G (by k_is), Cs.k_mk KX G (by k_is), Cs.k_mk KX G (by k_is), Cs.k_mk KX G (by k_is), Cs.k_mk KX G (by k_is), Cs.k_mk KX G (by k_is), Cs.k_mk KX G (by k_is)⟩
    have tD := Cs.tab_mk (x := "DEEDS") (xs := [.non, .ref _, .ref _, .ref _, .ref _, .ref _, .ref _, .ref _, .ref _, .ref _, .ref _, .ref _, .ref _, .ref _, .ref _, .ref _, .ref _, .ref _, .ref _, .ref _, .ref _, .ref _, .ref _, .ref _, .ref _, .ref _, .ref _]) KX G (by k_is) (by k_is) (by decide) (.cons rfl (.cons rfl (.cons rfl (.cons rfl (.cons rfl (.cons rfl (.cons rfl (.cons rfl (.cons rfl (.cons rfl (.cons rfl (.cons rfl (.cons rfl (.cons rfl (.cons rfl (.cons rfl (.cons rfl (.cons rfl (.cons rfl (.cons rfl (.cons rfl (.cons rfl (.cons rfl (.cons rfl (.cons rfl (.cons rfl (.cons rfl .nil)))))))))))))))))))))))))))
    have tN := Cs.tab_mk (x := "NUMBERS") (xs := Cs.nv Cs.nums) KX G (by k_is) (by k_is) (by decide) (.cons ⟨_, rfl⟩ (.cons ⟨_, rfl⟩ (.cons ⟨_, rfl⟩ (.cons ⟨_, rfl⟩ (.cons ⟨_, rfl⟩ (.cons ⟨_, rfl⟩ (.cons ⟨_, rfl⟩ (.cons ⟨_, rfl⟩ (.cons ⟨_, rfl⟩ (.cons ⟨_, rfl⟩ (.cons ⟨_, rfl⟩ (.cons ⟨_, rfl⟩ (.cons ⟨_, rfl⟩ (.cons ⟨_, rfl⟩ (.cons ⟨_, rfl⟩ (.cons ⟨_, rfl⟩ (.cons ⟨_, rfl⟩ (.cons ⟨_, rfl⟩ (.cons ⟨_, rfl⟩ (.cons ⟨_, rfl⟩ (.cons ⟨_, rfl⟩ (.cons ⟨_, rfl⟩ (.cons ⟨_, rfl⟩ (.cons ⟨_, rfl⟩ (.cons ⟨_, rfl⟩ (.cons ⟨_, rfl⟩ (.cons ⟨_, rfl⟩ .nil)))))))))))))))))))))))))))
    have tR := Cs.tab_mk (x := "ROWS") (xs := Cs.nv Cs.rowsL) KX G (by k_is) (by k_is) (by decide) (.cons ⟨_, rfl⟩ (.cons ⟨_, rfl⟩ (.cons ⟨_, rfl⟩ (.cons ⟨_, rfl⟩ (.cons ⟨_, rfl⟩ (.cons ⟨_, rfl⟩ (.cons ⟨_, rfl⟩ (.cons ⟨_, rfl⟩ (.cons ⟨_, rfl⟩ (.cons ⟨_, rfl⟩ (.cons ⟨_, rfl⟩ (.cons ⟨_, rfl⟩ (.cons ⟨_, rfl⟩ (.cons ⟨_, rfl⟩ (.cons ⟨_, rfl⟩ (.cons ⟨_, rfl⟩ (.cons ⟨_, rfl⟩ (.cons ⟨_, rfl⟩ (.cons ⟨_, rfl⟩ (.cons ⟨_, rfl⟩ (.cons ⟨_, rfl⟩ (.cons ⟨_, rfl⟩ (.cons ⟨_, rfl⟩ (.cons ⟨_, rfl⟩ (.cons ⟨_, rfl⟩ (.cons ⟨_, rfl⟩ (.cons ⟨_, rfl⟩ .nil)))))))))))))))))))))))))))
    have n_stage := PySem.W.mg_of (n := "stage") (v := .ref _) KX G (by k_is)
    have n_publish := PySem.W.mg_of (n := "publish") (v := .ref _) KX G (by k_is)
    have n_poll := PySem.W.mg_of (n := "poll") (v := .ref _) KX G (by k_is)
    have n_expose := PySem.W.mg_of (n := "expose") (v := .ref _) KX G (by k_is)
    have n_flush_client := PySem.W.mg_of (n := "flush_client") (v := .ref _) KX G (by k_is)
    have n_deliver := PySem.W.mg_of (n := "deliver") (v := .ref _) KX G (by k_is)
    have n_deliver_copy := PySem.W.mg_of (n := "deliver_copy") (v := .ref _) KX G (by k_is)
    have n_drop := PySem.W.mg_of (n := "drop") (v := .ref _) KX G (by k_is)
    have n_drain := PySem.W.mg_of (n := "drain") (v := .ref _) KX G (by k_is)
    have n_forget := PySem.W.mg_of (n := "forget") (v := .ref _) KX G (by k_is)
    have n_messages := PySem.W.mg_of (n := "messages") (v := .ref _) KX G (by k_is)
    have n_message_content := PySem.W.mg_of (n := "message_content") (v := .ref _) KX G (by k_is)
    have n_client_state := PySem.W.mg_of (n := "client_state") (v := .ref _) KX G (by k_is)
    have n_client_value := PySem.W.mg_of (n := "client_value") (v := .ref _) KX G (by k_is)
    have n_server_value := PySem.W.mg_of (n := "server_value") (v := .ref _) KX G (by k_is)
    have n_tell_counted := PySem.W.mg_of (n := "tell_counted") (v := .ref _) KX G (by k_is)
    have n_count_code := PySem.W.mg_of (n := "count_code") (v := .ref _) KX G (by k_is)
    have n_tell_snapshot := PySem.W.mg_of (n := "tell_snapshot") (v := .ref _) KX G (by k_is)
    have n_tell_patch := PySem.W.mg_of (n := "tell_patch") (v := .ref _) KX G (by k_is)
    have n_apply := PySem.W.mg_of (n := "apply") (v := .ref _) KX G (by k_is)
    have n_tell_read_snapshot := PySem.W.mg_of (n := "tell_read_snapshot") (v := .ref _) KX G (by k_is)
    have n_difference := PySem.W.mg_of (n := "difference") (v := .ref _) KX G (by k_is)
    have n_varint := PySem.W.mg_of (n := "varint") (v := .ref _) KX G (by k_is)
    have n_read_varint := PySem.W.mg_of (n := "read_varint") (v := .ref _) KX G (by k_is)
    have n_tell_checksum := PySem.W.mg_of (n := "tell_checksum") (v := .ref _) KX G (by k_is)
    have n_summary := PySem.W.mg_of (n := "summary") (v := .ref _) KX G (by k_is)
    exact Cs.end_mk KX G hmg (by k_is) (by k_is) (by k_is) (by k_is) fun base fd F => Cs.all_ok T kl (by decide) g_encoded g_read_number g_checksum g_snapshot g_read_values g_read_snapshot g_match_length g_longest_match g_inserted g_patch_of g_run_command g_applied g_latest g_version_bytes g_send g_is_full g_pending_count g_receive_request g_take g_receive_patch g_receive_whole g_receive_batch g_receive_receipt g_receive g_has_client g_has_message g_has_version g_are_bytes g_with_length g_stage g_publish g_poll g_expose g_flush_client g_take_first g_deliver g_deliver_copy g_drop g_drain g_forget g_messages g_message_content g_client_state g_client_value g_server_value g_tell_counted g_count_code g_tell_snapshot g_tell_patch g_apply g_tell_read_snapshot g_difference g_varint g_read_varint g_tell_checksum g_summary g_answer i_Client i_Message i_Platform tD n_stage n_publish n_poll n_expose n_flush_client n_deliver n_deliver_copy n_drop n_drain n_forget n_messages n_message_content n_client_state n_client_value n_server_value n_tell_counted n_count_code n_tell_snapshot n_tell_patch n_apply n_tell_read_snapshot n_difference n_varint n_read_varint n_tell_checksum n_summary tN tR F
  case S =>
    intro K H xs a hO hwi hask hx
    cases hx with
    | cons h1 h2 =>
      cases h2
      cases h1 with
      | lst hs ha =>
        have e := L2.ints_dw a.1 _ ha
        subst e
        have q : ((Codec.inLen 0 30000 a.1 && a.1.all (Codec.inInt 0 4294967295)) && true) = true := hwi
        rw [Bool.and_eq_true, Bool.and_eq_true] at q
        have b : ∀ x ∈ a.1, 0 ≤ x ∧ x ≤ 4294967295 := fun x hx => Codec.inInt_iff.mp (List.all_eq_true.mp q.1.2 x hx)
        exact Cs.end_S hs (Codec.inNat_iff.mp q.1.1).2 b hask fun H' p hp => .lst (L2.SqL.of hp) (L2.dw_ints _)
#print axioms PySem.Challenge.cw_clientsync_s01_answers_holds
