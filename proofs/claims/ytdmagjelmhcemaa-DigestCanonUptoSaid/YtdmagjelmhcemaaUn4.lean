/- Base 64 there and back, plainly. Nothing of a program. -/
import Derived.Test.YtdmagjelmhcemaaUn3
namespace Go.Proofs.Ytdmagjelmhcemaa
open Go.RowKit
set_option linter.unusedVariables false
set_option linter.unusedSimpArgs false

theorem encTo_at (t : List UInt8) (n : Nat) : ∀ m j, j < m → (encTo t n m).getD j 0 = four t n j
  | m + 1, j, h => by
    rw [encTo]
    by_cases e : j = m
    · subst e
      rw [List.getD, List.getElem?_append_right (by rw [encTo_length]; exact Nat.le_refl _), encTo_length, Nat.sub_self]; rfl
    · have := encTo_at t n m j (by omega)
      rw [List.getD, List.getElem?_append_left (by rw [encTo_length]; omega)]
      exact this
theorem b64To_at (l : List UInt8) : ∀ n i j, i < n → j < 4 → (b64To l n).getD (4 * i + j) 0 = four (l.drop (3 * i)) (min (l.length - 3 * i) 3) j
  | n + 1, i, j, hi, hj => by
    rw [b64To]
    by_cases e : i = n
    · subst e
      rw [List.getD, List.getElem?_append_right (by rw [b64To_length]; omega), b64To_length, show 4 * i + j - 4 * i = j by omega]
      exact encTo_at _ _ 4 j hj
    · have := b64To_at l n i j (by omega) hj
      rw [List.getD, List.getElem?_append_left (by rw [b64To_length]; omega)]
      exact this
theorem base64_at (l : List UInt8) (i j : Nat) (hi : i < (l.length + 2) / 3) (hj : j < 4) : (base64Of l).getD (4 * i + j) 0 = four (l.drop (3 * i)) (min (l.length - 3 * i) 3) j := b64To_at l _ i j hi hj
theorem base64_len (l : List UInt8) : (base64Of l).length = 4 * ((l.length + 2) / 3) := b64To_length _ _
theorem four_pad {t : List UInt8} {n j : Nat} (h : n < j) : four t n j = 61 := if_pos h
theorem four_dig {t : List UInt8} {n j : Nat} (h : ¬ n < j) : four t n j = d64.getD (three t / 2 ^ (18 - 6 * j) % 64) 0 := if_neg h
theorem not_pad : ∀ v, v < 64 → d64.getD v 0 ≠ 61 := by decide +kernel
theorem trim1_pad {s : List UInt8} (h0 : 0 < s.length) (h : s.getD (s.length - 1) 0 = 61) : trim1 s = s.take (s.length - 1) := by
  have hl : s.length - 1 < s.length := by omega
  refine if_pos ?_
  rw [List.drop_eq_getElem_cons hl, List.drop_of_length_le (by omega)]
  have : s[s.length - 1] = 61 := by simpa [List.getD, hl] using h
  rw [this]
theorem trim1_not {s : List UInt8} (h : s.getD (s.length - 1) 0 ≠ 61) : trim1 s = s := by
  refine if_neg fun e => h ?_
  have hl : s.length - 1 < s.length := by
    have := congrArg List.length e
    simp only [List.length_drop, List.length_cons, List.length_nil] at this; omega
  rw [List.drop_eq_getElem_cons hl] at e
  have := (List.cons.inj e).1
  simp [List.getD, hl, this]
theorem take_getD' (s : List UInt8) (m i : Nat) (h : i < m) : (s.take m).getD i 0 = s.getD i 0 := by
  simp [List.getD, List.getElem?_take, h]
/-- so many characters are digits -/
def digN (n : Nat) : Nat := 4 * (n / 3) + (if n % 3 = 0 then 0 else n % 3 + 1)
theorem base64_trim (l : List UInt8) : trimK (base64Of l) 2 = (base64Of l).take (digN l.length) := by
  have hT := base64_len l
  have hr : l.length % 3 = 0 ∨ l.length % 3 = 1 ∨ l.length % 3 = 2 := by omega
  show trim1 (trim1 (base64Of l)) = _
  rcases hr with e | e | e
  · -- no pad
    have e1 : (l.length + 2) / 3 = l.length / 3 := by omega
    have hlast : (base64Of l).getD ((base64Of l).length - 1) 0 ≠ 61 := by
      rcases Nat.eq_zero_or_pos (l.length / 3) with h | h
      · have : (base64Of l).length = 0 := by rw [hT, e1, h]
        rw [List.eq_nil_of_length_eq_zero this]; decide
      · have h1 := base64_at l (l.length / 3 - 1) 3 (by omega) (by decide)
        rw [show (base64Of l).length - 1 = 4 * (l.length / 3 - 1) + 3 by omega, h1, four_dig (by omega)]
        exact not_pad _ (Nat.mod_lt _ (by decide))
    rw [trim1_not hlast, trim1_not hlast, digN, if_pos e, List.take_of_length_le (by omega)]
  · have h3 := base64_at l (l.length / 3) 3 (by omega) (by decide)
    have h2 := base64_at l (l.length / 3) 2 (by omega) (by decide)
    rw [four_pad (by omega)] at h3 h2
    have hL : (base64Of l).length = 4 * (l.length / 3) + 4 := by omega
    have t1 : trim1 (base64Of l) = (base64Of l).take (4 * (l.length / 3) + 3) := by
      rw [trim1_pad (by omega) (by rw [show (base64Of l).length - 1 = 4 * (l.length / 3) + 3 by omega]; exact h3), hL]; rfl
    have hL1 : ((base64Of l).take (4 * (l.length / 3) + 3)).length = 4 * (l.length / 3) + 3 := by rw [List.length_take, hL]; omega
    rw [t1, trim1_pad (by omega) (by rw [hL1, take_getD' _ _ _ (by omega), show 4 * (l.length / 3) + 3 - 1 = 4 * (l.length / 3) + 2 by omega]; exact h2), hL1, List.take_take, digN, if_neg (by omega), e]
    congr 1; omega
  · have h3 := base64_at l (l.length / 3) 3 (by omega) (by decide)
    have h2 := base64_at l (l.length / 3) 2 (by omega) (by decide)
    rw [four_pad (by omega)] at h3
    rw [four_dig (by omega)] at h2
    have hL : (base64Of l).length = 4 * (l.length / 3) + 4 := by omega
    have t1 : trim1 (base64Of l) = (base64Of l).take (4 * (l.length / 3) + 3) := by
      rw [trim1_pad (by omega) (by rw [show (base64Of l).length - 1 = 4 * (l.length / 3) + 3 by omega]; exact h3), hL]; rfl
    have hL1 : ((base64Of l).take (4 * (l.length / 3) + 3)).length = 4 * (l.length / 3) + 3 := by rw [List.length_take, hL]; omega
    rw [t1, trim1_not (by rw [hL1, take_getD' _ _ _ (by omega), show 4 * (l.length / 3) + 3 - 1 = 4 * (l.length / 3) + 2 by omega, h2]; exact not_pad _ (Nat.mod_lt _ (by decide))), digN, if_neg (by omega), e]
theorem digN_le (l : List UInt8) : digN l.length ≤ (base64Of l).length := by rw [base64_len, digN]; split <;> omega
theorem dig_at (l : List UInt8) (i j : Nat) (hj : j < 4) (h : 4 * i + j < digN l.length) : ((base64Of l).take (digN l.length)).getD (4 * i + j) 0 = d64.getD (three (l.drop (3 * i)) / 2 ^ (18 - 6 * j) % 64) 0 := by
  rw [take_getD' _ _ _ h]
  have hi : i < (l.length + 2) / 3 := by unfold digN at h; split at h <;> omega
  rw [base64_at l i j hi hj, four_dig]
  unfold digN at h; split at h <;> omega
theorem dig_worth (l : List UInt8) (i j : Nat) (hj : j < 4) (h : 4 * i + j < digN l.length) : worth d64 (((base64Of l).take (digN l.length)).getD (4 * i + j) 0) = three (l.drop (3 * i)) / 2 ^ (18 - 6 * j) % 64 := by
  rw [dig_at l i j hj h]; exact (good64 _ (Nat.mod_lt _ (by decide))).2
theorem base64_good (l : List UInt8) : wrongAt d64 ((base64Of l).take (digN l.length)) = none := wrong_none fun j hj => by
  have hj' : j < digN l.length := by rw [List.length_take] at hj; omega
  have h := dig_at l (j / 4) (j % 4) (Nat.mod_lt _ (by decide)) (by omega)
  rw [show 4 * (j / 4) + j % 4 = j by omega] at h
  rw [h]; exact (good64 _ (Nat.mod_lt _ (by decide))).1
theorem three_get (l : List UInt8) (g : Nat) : three (l.drop g) = (l.getD g 0).toNat * 65536 + (l.getD (g + 1) 0).toNat * 256 + (l.getD (g + 2) 0).toNat := by
  simp [three, List.getD]
theorem st64_two {D : List UInt8} {g : Nat} {o : List UInt8} {v0 v1 : Nat} (h : st64 D (4 * g) = (o, 0)) (h0 : worth d64 (D.getD (4 * g + 0) 0) = v0) (h1 : worth d64 (D.getD (4 * g + 1) 0) = v1) : st64 D (4 * g + 2) = (o ++ [UInt8.ofNat ((v0 * 64 + v1) / 16)], (v0 * 64 + v1) % 16) := by
  have s1 : st64 D (4 * g + 1) = (o, v0) := by
    rw [st64_miss (by omega), h]; simp only [Nat.add_zero] at h0; rw [h0]; simp
  rw [show 4 * g + 2 = 4 * g + 1 + 1 by omega, st64_hit (by omega), s1, h1, show 6 * (4 * g + 1) % 8 + 6 - 8 = 4 by omega]
theorem st64_three {D : List UInt8} {g : Nat} {o : List UInt8} {v0 v1 v2 : Nat} (h : st64 D (4 * g) = (o, 0)) (h0 : worth d64 (D.getD (4 * g + 0) 0) = v0) (h1 : worth d64 (D.getD (4 * g + 1) 0) = v1) (h2 : worth d64 (D.getD (4 * g + 2) 0) = v2) :
    st64 D (4 * g + 3) = (o ++ [UInt8.ofNat ((v0 * 64 + v1) / 16)] ++ [UInt8.ofNat (((v0 * 64 + v1) % 16 * 64 + v2) / 4)], ((v0 * 64 + v1) % 16 * 64 + v2) % 4) := by
  have s2 := st64_two h h0 h1
  rw [show 4 * g + 3 = 4 * g + 2 + 1 by omega, st64_hit (by omega), s2, h2, show 6 * (4 * g + 2) % 8 + 6 - 8 = 2 by omega]
theorem st64_four {D : List UInt8} {g : Nat} {o : List UInt8} {v0 v1 v2 v3 : Nat} (h : st64 D (4 * g) = (o, 0)) (h0 : worth d64 (D.getD (4 * g + 0) 0) = v0) (h1 : worth d64 (D.getD (4 * g + 1) 0) = v1) (h2 : worth d64 (D.getD (4 * g + 2) 0) = v2) (h3 : worth d64 (D.getD (4 * g + 3) 0) = v3) :
    st64 D (4 * (g + 1)) = (o ++ [UInt8.ofNat ((v0 * 64 + v1) / 16)] ++ [UInt8.ofNat (((v0 * 64 + v1) % 16 * 64 + v2) / 4)] ++ [UInt8.ofNat (((v0 * 64 + v1) % 16 * 64 + v2) % 4 * 64 + v3)], 0) := by
  have s3 := st64_three h h0 h1 h2
  rw [show 4 * (g + 1) = 4 * g + 3 + 1 by omega, st64_hit (by omega), s3, h3, show 6 * (4 * g + 3) % 8 + 6 - 8 = 0 by omega]
  simp [Nat.mod_one]
theorem take_one (l : List UInt8) (k : Nat) (h : k < l.length) : l.take (k + 1) = l.take k ++ [l.getD k 0] := by
  rw [List.take_succ_eq_append_getElem h]; simp [List.getD, h]
theorem tb (A B C : Nat) (hA : A < 256) (hB : B < 256) (hC : C < 256) :
    ((A * 65536 + B * 256 + C) / 2 ^ (18 - 6 * 0) % 64 * 64 + (A * 65536 + B * 256 + C) / 2 ^ (18 - 6 * 1) % 64) / 16 = A ∧
    (((A * 65536 + B * 256 + C) / 2 ^ (18 - 6 * 0) % 64 * 64 + (A * 65536 + B * 256 + C) / 2 ^ (18 - 6 * 1) % 64) % 16 * 64 + (A * 65536 + B * 256 + C) / 2 ^ (18 - 6 * 2) % 64) / 4 = B ∧
    (((A * 65536 + B * 256 + C) / 2 ^ (18 - 6 * 0) % 64 * 64 + (A * 65536 + B * 256 + C) / 2 ^ (18 - 6 * 1) % 64) % 16 * 64 + (A * 65536 + B * 256 + C) / 2 ^ (18 - 6 * 2) % 64) % 4 * 64 + (A * 65536 + B * 256 + C) / 2 ^ (18 - 6 * 3) % 64 = C ∧
    (B = 0 → ((A * 65536 + B * 256 + C) / 2 ^ (18 - 6 * 0) % 64 * 64 + (A * 65536 + B * 256 + C) / 2 ^ (18 - 6 * 1) % 64) % 16 = 0) ∧
    (C = 0 → (((A * 65536 + B * 256 + C) / 2 ^ (18 - 6 * 0) % 64 * 64 + (A * 65536 + B * 256 + C) / 2 ^ (18 - 6 * 1) % 64) % 16 * 64 + (A * 65536 + B * 256 + C) / 2 ^ (18 - 6 * 2) % 64) % 4 = 0) := by
  generalize hT : A * 65536 + B * 256 + C = T
  simp only [show 18 - 6 * 0 = 18 from rfl, show 18 - 6 * 1 = 12 from rfl, show 18 - 6 * 2 = 6 from rfl, show 18 - 6 * 3 = 0 from rfl, show (2 : Nat) ^ 18 = 262144 from rfl, show (2 : Nat) ^ 12 = 4096 from rfl, show (2 : Nat) ^ 6 = 64 from rfl, Nat.pow_zero, Nat.div_one]
  refine ⟨by omega, by omega, by omega, fun _ => by omega, fun _ => by omega⟩
theorem b64_groups (l : List UInt8) : ∀ g, g ≤ l.length / 3 → st64 ((base64Of l).take (digN l.length)) (4 * g) = (l.take (3 * g), 0)
  | 0, _ => by simp [st64]
  | g + 1, h => by
    have ih := b64_groups l g (by omega)
    have hd : 4 * g + 3 < digN l.length := by unfold digN; split <;> omega
    have w0 := dig_worth l g 0 (by decide) (by omega)
    have w1 := dig_worth l g 1 (by decide) (by omega)
    have w2 := dig_worth l g 2 (by decide) (by omega)
    have w3 := dig_worth l g 3 (by decide) (by omega)
    rw [three_get] at w0 w1 w2 w3
    obtain ⟨n1, n2, n3, -, -⟩ := tb _ _ _ (l.getD (3 * g) 0).toNat_lt (l.getD (3 * g + 1) 0).toNat_lt (l.getD (3 * g + 2) 0).toNat_lt
    rw [st64_four ih w0 w1 w2 w3, n1, n2, n3, UInt8.ofNat_toNat, UInt8.ofNat_toNat, UInt8.ofNat_toNat, show 3 * (g + 1) = 3 * g + 1 + 1 + 1 by omega, take_one l _ (by omega), take_one l _ (by omega), take_one l _ (by omega)]
theorem b64_back (l : List UInt8) : st64 ((base64Of l).take (digN l.length)) (digN l.length) = (l, 0) := by
  have hg := b64_groups l (l.length / 3) (Nat.le_refl _)
  have hr : l.length % 3 = 0 ∨ l.length % 3 = 1 ∨ l.length % 3 = 2 := by omega
  generalize hq : l.length / 3 = q at hg
  rcases hr with e | e | e
  · have e1 : digN l.length = 4 * q := by unfold digN; rw [if_pos e]; omega
    rw [e1] at hg ⊢
    rw [hg, List.take_of_length_le (by omega)]
  · have e1 : digN l.length = 4 * q + 2 := by unfold digN; rw [if_neg (by omega)]; omega
    have w0 := dig_worth l q 0 (by decide) (by omega)
    have w1 := dig_worth l q 1 (by decide) (by omega)
    rw [three_get] at w0 w1
    obtain ⟨n1, -, -, n4, -⟩ := tb _ _ _ (l.getD (3 * q) 0).toNat_lt (l.getD (3 * q + 1) 0).toNat_lt (l.getD (3 * q + 2) 0).toNat_lt
    have h2 := st64_two hg w0 w1
    rw [e1] at h2 ⊢
    rw [h2, n1, n4 (by rw [getD_over l (3 * q + 1) (by omega)]; rfl), UInt8.ofNat_toNat, ← take_one l _ (by omega), List.take_of_length_le (by omega)]
  · have e1 : digN l.length = 4 * q + 3 := by unfold digN; rw [if_neg (by omega)]; omega
    have w0 := dig_worth l q 0 (by decide) (by omega)
    have w1 := dig_worth l q 1 (by decide) (by omega)
    have w2 := dig_worth l q 2 (by decide) (by omega)
    rw [three_get] at w0 w1 w2
    obtain ⟨n1, n2, -, -, n5⟩ := tb _ _ _ (l.getD (3 * q) 0).toNat_lt (l.getD (3 * q + 1) 0).toNat_lt (l.getD (3 * q + 2) 0).toNat_lt
    have h3 := st64_three hg w0 w1 w2
    rw [e1] at h3 ⊢
    rw [h3, n1, n2, n5 (by rw [getD_over l (3 * q + 2) (by omega)]; rfl), UInt8.ofNat_toNat, UInt8.ofNat_toNat, ← take_one l _ (by omega), ← take_one l _ (by omega), List.take_of_length_le (by omega)]
theorem un64_base64 (l : List UInt8) : un64 (base64Of l) = .inl l := by
  have ht := base64_trim l
  have hlen : ((base64Of l).take (digN l.length)).length = digN l.length := by rw [List.length_take]; have := digN_le l; omega
  have hb := b64_back l
  rw [un64_ok (by rw [base64_len]; omega) (by rw [ht]; exact base64_good l) (by rw [ht, hlen, hb]), ht, hlen, hb]
theorem un16_hex (l : List UInt8) : un16 (hexOf l) = .inl l := by
  rw [un16_ok (hexOf_good l) (by rw [hexOf_length]; omega), hexOf_length, show 2 * l.length / 2 = l.length by omega, unhex_hexOf]
theorem un32_base32 (l : List UInt8) : un32 (base32Of l) = .inl l := by
  have hl := base32Of_length l
  have e : 5 * (base32Of l).length / 8 = l.length := by omega
  rw [un32_ok (base32_good l) (by omega) (by rw [e, numTo_all]; exact num_lt l), e, numTo_all, toLE_num]
end Go.Proofs.Ytdmagjelmhcemaa
