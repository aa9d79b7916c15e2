/- Whatever a reader of a base takes is the one text of its answer. Nothing of a program. -/
import Derived.Test.YtdmagjelmhcemaaUn4
namespace Go.Proofs.Ytdmagjelmhcemaa
open Go.RowKit
set_option linter.unusedVariables false
set_option linter.unusedSimpArgs false
theorem ext_getD {a b : List UInt8} (h : a.length = b.length) (h2 : ∀ j, j < a.length → a.getD j 0 = b.getD j 0) : a = b := by
  apply List.ext_getElem h
  intro j hj1 hj2
  have := h2 j hj1
  rw [List.getD_eq_getElem?_getD, List.getD_eq_getElem?_getD, List.getElem?_eq_getElem hj1, List.getElem?_eq_getElem hj2] at this
  exact this
theorem ofNat_toNat {n : Nat} (h : n < 256) : (UInt8.ofNat n).toNat = n := by rw [UInt8.toNat_ofNat', Nat.mod_eq_of_lt (by simpa using h)]
theorem unhexTo_getD (s : List UInt8) (n k : Nat) (h : k < n) : (unhexTo s n).getD k 0 = UInt8.ofNat (16 * worth d16 (s.getD (2 * k) 0) + worth d16 (s.getD (2 * k + 1) 0)) := by simp [unhexTo, List.getD, h]
theorem un16_good {s b : List UInt8} (h : un16 s = .inl b) : wrongAt d16 s = none ∧ s.length % 2 = 0 ∧ b = unhexTo s (s.length / 2) := by
  unfold un16 at h
  split at h
  · cases h
  · split at h
    · cases h
    · cases h; exact ⟨by assumption, by omega, rfl⟩
theorem hex_canon {s b : List UInt8} (h : un16 s = .inl b) : hexOf b = s := by
  obtain ⟨hg, h2, rfl⟩ := un16_good h
  have hl := hexOf_length (unhexTo s (s.length / 2))
  rw [unhexTo_length] at hl
  refine ext_getD (by omega) fun j hj => ?_
  have hk : j / 2 < (unhexTo s (s.length / 2)).length := by rw [unhexTo_length]; omega
  obtain ⟨e1, e2⟩ := hexOf_at (unhexTo s (s.length / 2)) (j / 2) hk
  rw [unhexTo_length] at hk
  have g1 := wrong_good hg (2 * (j / 2)) (by omega)
  have g2 := wrong_good hg (2 * (j / 2) + 1) (by omega)
  have w1 : worth d16 (s.getD (2 * (j / 2)) 0) < 16 := worth_lt g1
  have w2 : worth d16 (s.getD (2 * (j / 2) + 1) 0) < 16 := worth_lt g2
  rw [unhexTo_getD _ _ _ hk, ofNat_toNat (by omega)] at e1 e2
  rcases (show j = 2 * (j / 2) ∨ j = 2 * (j / 2) + 1 by omega) with e | e
  · rw [e, show 2 * (2 * (j / 2) / 2) = 2 * (j / 2) by omega] at *
    rw [e1, show (16 * worth d16 (s.getD (2 * (j / 2)) 0) + worth d16 (s.getD (2 * (j / 2) + 1) 0)) / 16 = worth d16 (s.getD (2 * (j / 2)) 0) by omega]
    exact worth_getD g1
  · have e3 : (hexOf (unhexTo s (s.length / 2))).getD j 0 = (hexOf (unhexTo s (s.length / 2))).getD (2 * (j / 2) + 1) 0 := congrArg (fun i => (hexOf (unhexTo s (s.length / 2))).getD i 0) e
    have e4 : s.getD j 0 = s.getD (2 * (j / 2) + 1) 0 := congrArg (fun i => s.getD i 0) e
    rw [e3, e4, e2, show (16 * worth d16 (s.getD (2 * (j / 2)) 0) + worth d16 (s.getD (2 * (j / 2) + 1) 0)) % 16 = worth d16 (s.getD (2 * (j / 2) + 1) 0) by omega]
    exact worth_getD g2
theorem worth_inj {D : List UInt8} {a b : UInt8} (ha : isBad D a = false) (hb : isBad D b = false) (h : worth D a = worth D b) : a = b := by
  rw [← worth_getD ha, ← worth_getD hb, h]
theorem num_toLE : ∀ n N, num (toLE n N) = N % 256 ^ n
  | 0, N => by rw [show toLE 0 N = [] from rfl, num, Nat.pow_zero, Nat.mod_one]
  | n + 1, N => by
    have e : toLE (n + 1) N = UInt8.ofNat N :: toLE n (N / 256) := by
      unfold toLE
      rw [List.range_succ_eq_map, List.map_cons, List.map_map, Nat.pow_zero, Nat.div_one]
      congr 1
      apply List.map_congr_left
      intro i _
      simp only [Function.comp]
      rw [Nat.pow_succ, Nat.mul_comm, Nat.div_div_eq_div_mul]
    rw [e, num, num_toLE n, UInt8.toNat_ofNat', show 256 ^ (n + 1) = 256 * 256 ^ n by rw [Nat.pow_succ, Nat.mul_comm], Nat.mod_mul]
theorem numTo_inj {s t : List UInt8} (hs : wrongAt d32 s = none) (ht : wrongAt d32 t = none) (hl : s.length = t.length) : ∀ k, k ≤ s.length → numTo s k = numTo t k → ∀ j, j < k → s.getD (s.length - 1 - j) 0 = t.getD (t.length - 1 - j) 0
  | 0, _, _, j, hj => absurd hj (Nat.not_lt_zero j)
  | k + 1, hk, h, j, hj => by
    have h1 := numTo_lt hs k (by omega)
    have h2 := numTo_lt ht k (by omega)
    simp only [numTo] at h
    have hp : 0 < 32 ^ k := Nat.pow_pos (by decide)
    have q1 : (numTo s k + worth d32 (s.getD (s.length - 1 - k) 0) * 32 ^ k) / 32 ^ k = worth d32 (s.getD (s.length - 1 - k) 0) := by rw [Nat.add_mul_div_right _ _ hp, Nat.div_eq_of_lt h1, Nat.zero_add]
    have q2 : (numTo t k + worth d32 (t.getD (t.length - 1 - k) 0) * 32 ^ k) / 32 ^ k = worth d32 (t.getD (t.length - 1 - k) 0) := by rw [Nat.add_mul_div_right _ _ hp, Nat.div_eq_of_lt h2, Nat.zero_add]
    have hw : worth d32 (s.getD (s.length - 1 - k) 0) = worth d32 (t.getD (t.length - 1 - k) 0) := by rw [← q1, ← q2, h]
    rcases Nat.lt_or_ge j k with hjk | hjk
    · exact numTo_inj hs ht hl k (by omega) (by rw [hw] at h; omega) j hjk
    · obtain rfl : j = k := by omega
      exact worth_inj (wrong_good hs _ (by omega)) (wrong_good ht _ (by omega)) hw
theorem un32_good {s b : List UInt8} (h : un32 s = .inl b) : wrongAt d32 s = none ∧ ¬ (s.length % 8 = 1 ∨ s.length % 8 = 3 ∨ s.length % 8 = 6) ∧ numTo s s.length < 256 ^ (5 * s.length / 8) ∧ b = toLE (5 * s.length / 8) (numTo s s.length) := by
  unfold un32 at h
  split at h
  · cases h
  · split at h
    · cases h
    · split at h
      · cases h
      · cases h; exact ⟨by assumption, by assumption, Nat.lt_of_not_le (by assumption), rfl⟩
theorem b32_canon {s b : List UInt8} (h : un32 s = .inl b) : base32Of b = s := by
  obtain ⟨hg, h2, h3, rfl⟩ := un32_good h
  have hl := base32Of_length (toLE (5 * s.length / 8) (numTo s s.length))
  rw [toLE_length] at hl
  have hl' : (base32Of (toLE (5 * s.length / 8) (numTo s s.length))).length = s.length := by
    rw [hl]
    rcases (show s.length % 8 = 0 ∨ s.length % 8 = 2 ∨ s.length % 8 = 4 ∨ s.length % 8 = 5 ∨ s.length % 8 = 7 by omega) with e | e | e | e | e <;> omega
  have hn := numTo_all (toLE (5 * s.length / 8) (numTo s s.length))
  rw [num_toLE, Nat.mod_eq_of_lt h3, hl'] at hn
  refine ext_getD hl' fun j hj => ?_
  have := numTo_inj (base32_good _) hg hl' s.length (by omega) hn (s.length - 1 - j) (by omega)
  rw [hl', show s.length - 1 - (s.length - 1 - j) = j by omega] at this
  exact this
/-! base 64 -/
def val64 (d : List UInt8) : Nat → Nat
  | 0 => 0
  | i + 1 => val64 d i * 64 + worth d64 (d.getD i 0)
def numBE (l : List UInt8) : Nat := l.foldl (fun a b => a * 256 + b.toNat) 0
theorem numBE_snoc (l : List UInt8) (b : UInt8) : numBE (l ++ [b]) = numBE l * 256 + b.toNat := by simp [numBE]
theorem st64_val {d : List UInt8} (hg : wrongAt d64 d = none) : ∀ i, i ≤ d.length → val64 d i = numBE (st64 d i).1 * 2 ^ (6 * i % 8) + (st64 d i).2
  | 0, _ => by simp [val64, st64, numBE]
  | i + 1, hi => by
    have ih := st64_val hg i (by omega)
    have hf := (st64_fit hg i (by omega)).2
    have hw : worth d64 (d.getD i 0) < 64 := worth_lt (wrong_good hg i (by omega))
    rw [val64, ih]
    by_cases h : 8 ≤ 6 * i % 8 + 6
    · rw [st64_hit h]
      have er : 6 * (i + 1) % 8 = 6 * i % 8 + 6 - 8 := by omega
      have e2 : 2 ^ (6 * i % 8) * 64 = 2 ^ (6 * i % 8 + 6 - 8) * 256 := by
        rw [show (64 : Nat) = 2 ^ 6 from rfl, show (256 : Nat) = 2 ^ 8 from rfl, ← Nat.pow_add, ← Nat.pow_add]; congr 1; omega
      rw [er]
      generalize 2 ^ (6 * i % 8 + 6 - 8) = P at e2 ⊢
      generalize 2 ^ (6 * i % 8) = R at e2 hf ⊢
      generalize hX : (st64 d i).2 * 64 + worth d64 (d.getD i 0) = X
      have hXl : X < P * 256 := by
        rw [← e2, ← hX]
        have := Nat.mul_le_mul_right 64 (show (st64 d i).2 + 1 ≤ R from hf)
        omega
      have hP : 0 < P := by omega
      have hq : X / P < 256 := by rw [Nat.div_lt_iff_lt_mul hP, Nat.mul_comm]; exact hXl
      have hd := Nat.div_add_mod X P
      rw [numBE_snoc, ofNat_toNat hq]
      have h1 : (numBE (st64 d i).1 * R + (st64 d i).2) * 64 + worth d64 (d.getD i 0) = numBE (st64 d i).1 * (R * 64) + X := by rw [← hX, Nat.add_mul, Nat.mul_assoc]; omega
      have h2 : (numBE (st64 d i).1 * 256 + X / P) * P = numBE (st64 d i).1 * (P * 256) + P * (X / P) := by rw [Nat.add_mul, Nat.mul_assoc, Nat.mul_comm 256 P, Nat.mul_comm (X / P) P]
      rw [h1, h2, e2]; omega
    · rw [st64_miss h]
      have er : 6 * (i + 1) % 8 = 6 * i % 8 + 6 := by omega
      dsimp only
      rw [er, Nat.pow_add, Nat.add_mul, Nat.mul_assoc, show (2 : Nat) ^ 6 = 64 from rfl]; omega
theorem val64_inj {s t : List UInt8} (hs : wrongAt d64 s = none) (ht : wrongAt d64 t = none) (hl : s.length = t.length) : ∀ k, k ≤ s.length → val64 s k = val64 t k → ∀ j, j < k → s.getD j 0 = t.getD j 0
  | 0, _, _, j, hj => absurd hj (Nat.not_lt_zero j)
  | k + 1, hk, h, j, hj => by
    have w1 : worth d64 (s.getD k 0) < 64 := worth_lt (wrong_good hs k (by omega))
    have w2 : worth d64 (t.getD k 0) < 64 := worth_lt (wrong_good ht k (by omega))
    simp only [val64] at h
    rcases Nat.lt_or_ge j k with hjk | hjk
    · exact val64_inj hs ht hl k (by omega) (by omega) j hjk
    · obtain rfl : j = k := by omega
      exact worth_inj (wrong_good hs _ (by omega)) (wrong_good ht _ (by omega)) (by omega)
theorem un64_good {s b : List UInt8} (h : un64 s = .inl b) : s.length % 4 = 0 ∧ wrongAt d64 (trimK s 2) = none ∧ (st64 (trimK s 2) (trimK s 2).length).2 = 0 ∧ b = (st64 (trimK s 2) (trimK s 2).length).1 := by
  unfold un64 at h
  split at h
  · cases h
  · split at h
    · cases h
    · split at h
      · cases h
      · cases h; exact ⟨by omega, by assumption, by omega, rfl⟩
theorem trim1_back (s : List UInt8) : trim1 s = s ∨ s = trim1 s ++ [61] := by
  unfold trim1
  split
  · rename_i h
    exact .inr (by conv => lhs; rw [← List.take_append_drop (s.length - 1) s, h])
  · exact .inl rfl
theorem trim2_back (s : List UInt8) : ∃ k, k ≤ 2 ∧ s = trimK s 2 ++ List.replicate k 61 := by
  show ∃ k, k ≤ 2 ∧ s = trim1 (trim1 s) ++ List.replicate k 61
  rcases trim1_back s with h | h
  · rw [h]
    rcases trim1_back s with h2 | h2
    · exact ⟨0, by decide, by rw [h2]; simp⟩
    · exact ⟨1, by decide, h2⟩
  · rcases trim1_back (trim1 s) with h2 | h2
    · exact ⟨1, by decide, by rw [h2]; exact h⟩
    · refine ⟨2, by decide, ?_⟩
      have : s = trim1 (trim1 s) ++ [61] ++ [61] := by rw [← h2]; exact h
      rw [List.append_assoc] at this
      exact this
theorem b64_canon {s b : List UInt8} (h : un64 s = .inl b) : base64Of b = s := by
  obtain ⟨h4, hg, hz, hb⟩ := un64_good h
  obtain ⟨k, hk, hs⟩ := trim2_back s
  have hsl : s.length = (trimK s 2).length + k := by have := congrArg List.length hs; simpa using this
  have hbl : b.length = 6 * (trimK s 2).length / 8 := by rw [hb]; exact (st64_fit hg _ (Nat.le_refl _)).1
  generalize trimK s 2 = d at *
  have hm : d.length % 4 ≠ 1 := by omega
  have hD : digN b.length = d.length := by
    unfold digN
    rcases (show d.length % 4 = 0 ∨ d.length % 4 = 2 ∨ d.length % 4 = 3 by omega) with e | e | e
    · rw [if_pos (by omega)]; omega
    · rw [if_neg (by omega)]; omega
    · rw [if_neg (by omega)]; omega
  have hlen : ((base64Of b).take (digN b.length)).length = d.length := by rw [List.length_take]; have := digN_le b; omega
  have v1 := st64_val (base64_good b) d.length (by omega)
  have v2 := st64_val hg d.length (Nat.le_refl _)
  have hbk := b64_back b
  rw [hD] at hbk
  rw [hD, hbk] at v1
  rw [hz, ← hb] at v2
  have hgood := base64_good b
  rw [hD] at hgood hlen
  have key : (base64Of b).take d.length = d := ext_getD hlen fun j hj => val64_inj hgood hg hlen d.length (by omega) (by rw [v1, v2]) j (by omega)
  obtain ⟨k2, hk2, hs2⟩ := trim2_back (base64Of b)
  rw [base64_trim, hD, key] at hs2
  have hl2 := congrArg List.length hs2
  rw [base64_len, List.length_append, List.length_replicate] at hl2
  rw [hs2, hs, show k2 = k by omega]
end Go.Proofs.Ytdmagjelmhcemaa
