/- What a reader of a base leaves; small laws for its walk. Nothing of a program. -/
import Derived.Test.YtdmagjelmhcemaaUn
import Derived.Test.YtdmagjelmhcemaaD
namespace Go.Proofs.Ytdmagjelmhcemaa
open Go.RowKit
set_option linter.unusedVariables false
set_option linter.unusedSimpArgs false
/-- bytes, or an error and its place -/
def RdPost (B8 : Nat) (w : World) (r : List UInt8 ⊕ Nat × Nat) (e : Ending) (w' : World) : Prop := match r with
  | .inr (f, p) => e = .returned (.tuple #[.slice none 0 0, .int .i64 (f : Int), .int .i64 (p : Int)]) ∧ Below w.heap.size w w'
  | .inl l => ∃ g c r, RowOk 1 (some g) l.length c (l.map vb) r ∧ e = .returned (.tuple #[slv (some ⟨g, 0, none⟩) l.length c, .int .i64 0, .int .i64 0]) ∧ Hp w [] [⟨some g, vrow l r, B8, (0, 0)⟩] w'
theorem rd_full {B8 g n : Nat} {w w' : World} {l : List UInt8} {hs : List HB} (hn : l.length = n) (hl : l.length ≤ maxLen) (h : Hp w [] (⟨some g, vbs l, B8, (0, 0)⟩ :: hs) w') : RdPost B8 w (.inl l) (.returned (.tuple #[slv (some ⟨g, 0, none⟩) n n, .int .i64 0, .int .i64 0])) w' := by
  subst hn
  refine ⟨g, l.length, [], ⟨by simp, by simp, Nat.le_refl _, hl, fun h => nomatch h⟩, rfl, ?_⟩
  have e : vrow l [] = vbs l := by simp [vrow, vbs]
  rw [e]
  exact h.pick (is := [0]) (by decide) (.cons 0 rfl .nil)
theorem rd_row {B8 n c : Nat} {o : Option Nat} {w w' : World} {l : List UInt8} {r : List Value} {hs : List HB} (hn : l.length = n) (hok : RowOk 1 o n c (l.map vb) r) (ho : ∃ g, o = some g) (h : Hp w [] (⟨o, (l.map vb ++ r).toArray, B8, (0, 0)⟩ :: hs) w') : RdPost B8 w (.inl l) (.returned (.tuple #[rowv o n c, .int .i64 0, .int .i64 0])) w' := by
  subst hn
  obtain ⟨g, rfl⟩ := ho
  exact ⟨g, c, r, hok, rfl, h.pick (is := [0]) (by decide) (.cons 0 rfl .nil)⟩
def un16 (s : List UInt8) : List UInt8 ⊕ Nat × Nat := match wrongAt d16 s with
  | some i => .inr (10, i)
  | none => if s.length % 2 = 1 then .inr (3, s.length) else .inl (unhexTo s (s.length / 2))
def un32 (s : List UInt8) : List UInt8 ⊕ Nat × Nat := match wrongAt d32 s with
  | some i => .inr (10, i)
  | none => if s.length % 8 = 1 ∨ s.length % 8 = 3 ∨ s.length % 8 = 6 then .inr (3, s.length) else
    if 256 ^ (5 * s.length / 8) ≤ numTo s s.length then .inr (11, 0) else .inl (toLE (5 * s.length / 8) (numTo s s.length))
theorem un16_wrong {s : List UInt8} {i : Nat} (h : wrongAt d16 s = some i) : un16 s = .inr (10, i) := by rw [un16, h]
theorem un16_odd {s : List UInt8} (h : wrongAt d16 s = none) (h2 : s.length % 2 = 1) : un16 s = .inr (3, s.length) := by rw [un16, h]; exact if_pos h2
theorem un16_ok {s : List UInt8} (h : wrongAt d16 s = none) (h2 : ¬ s.length % 2 = 1) : un16 s = .inl (unhexTo s (s.length / 2)) := by rw [un16, h]; exact if_neg h2
theorem un32_wrong {s : List UInt8} {i : Nat} (h : wrongAt d32 s = some i) : un32 s = .inr (10, i) := by rw [un32, h]
theorem un32_short {s : List UInt8} (h : wrongAt d32 s = none) (h2 : s.length % 8 = 1 ∨ s.length % 8 = 3 ∨ s.length % 8 = 6) : un32 s = .inr (3, s.length) := by rw [un32, h]; exact if_pos h2
theorem un32_bits {s : List UInt8} (h : wrongAt d32 s = none) (h2 : ¬ (s.length % 8 = 1 ∨ s.length % 8 = 3 ∨ s.length % 8 = 6)) (h3 : 256 ^ (5 * s.length / 8) ≤ numTo s s.length) : un32 s = .inr (11, 0) := by rw [un32, h]; dsimp only; rw [if_neg h2, if_pos h3]
theorem un32_ok {s : List UInt8} (h : wrongAt d32 s = none) (h2 : ¬ (s.length % 8 = 1 ∨ s.length % 8 = 3 ∨ s.length % 8 = 6)) (h3 : numTo s s.length < 256 ^ (5 * s.length / 8)) : un32 s = .inl (toLE (5 * s.length / 8) (numTo s s.length)) := by rw [un32, h]; dsimp only; rw [if_neg h2, if_neg (by omega)]
theorem wrongInt_some {D s : List UInt8} {i : Nat} (h : wrongAt D s = some i) : wrongInt D s = (i : Nat) := by rw [wrongInt, h]
theorem wrongInt_none {D s : List UInt8} (h : wrongAt D s = none) : wrongInt D s = -1 := by rw [wrongInt, h]
theorem unhexTo_length (s : List UInt8) (k : Nat) : (unhexTo s k).length = k := by simp [unhexTo]
theorem hexor : ∀ a, a < 16 → ∀ b, b < 16 → a * 2 ^ 4 ||| b = 16 * a + b := by decide +kernel
def hexRow (s : List UInt8) (n i : Nat) : List UInt8 := unhexTo s i ++ List.replicate (n - i) 0
theorem hexRow_length (s : List UInt8) (n i : Nat) (h : i ≤ n) : (hexRow s n i).length = n := by simp [hexRow, unhexTo_length]; omega
theorem hexRow_step {s : List UInt8} {n i a b : Nat} (h : i < n) (ha : a = worth d16 (s.getD (2 * i) 0)) (hb : b = worth d16 (s.getD (2 * i + 1) 0)) (h1 : a < 16) (h2 : b < 16) : (hexRow s n i).set i (UInt8.ofNat (a * 2 ^ 4 ||| b)) = hexRow s n (i + 1) := by
  rw [hexRow, List.set_append_right _ _ (by rw [unhexTo_length]; exact Nat.le_refl _), unhexTo_length, Nat.sub_self, hexRow, show n - i = (n - (i + 1)) + 1 by omega, List.replicate_succ, List.set_cons_zero, hexor a h1 b h2, ha, hb]
  simp only [unhexTo, List.range_succ, List.map_append, List.map_cons, List.map_nil, List.append_assoc, List.singleton_append]
theorem hexRow_zero (s : List UInt8) (n : Nat) : hexRow s n 0 = List.replicate n 0 := by simp [hexRow, unhexTo]
theorem hexRow_done (s : List UInt8) (n : Nat) : hexRow s n n = unhexTo s n := by simp [hexRow]
theorem toLE_zero (n : Nat) : toLE n 0 = List.replicate n 0 := by
  apply List.ext_getElem
  · simp [toLE]
  · intro i h1 h2; simp [toLE]
theorem un32_fits {s : List UInt8} {k t v n : Nat} (hd : v * 2 ^ (5 * k % 8) / 256 ^ t = 0) (h : v = worth d32 (s.getD (s.length - 1 - k) 0)) (hN : numTo s k < 32 ^ k) (hlt : numTo s k < 256 ^ n) (ht : t = 0 ∨ 5 * k / 8 + t ≤ n) : numTo s (k + 1) < 256 ^ n := by
  have h0 := un32_done hd h
  have hd0 : v * 2 ^ (5 * k % 8) < 256 ^ t := (Nat.div_eq_zero_iff_lt (Nat.pow_pos (by decide))).1 hd
  rw [Nat.mod_eq_of_lt hd0] at h0
  rw [← h0]
  have e32 : (32 : Nat) ^ k = 2 ^ (5 * k % 8) * 256 ^ (5 * k / 8) := by
    rw [show (32 : Nat) = 2 ^ 5 from rfl, show (256 : Nat) = 2 ^ 8 from rfl, ← Nat.pow_mul, ← Nat.pow_mul, ← Nat.pow_add]
    congr 1; omega
  rw [e32] at hN
  have hr : 5 * k % 8 < 8 := Nat.mod_lt _ (by decide)
  rcases ht with rfl | ht
  · have : v * 2 ^ (5 * k % 8) = 0 := by simpa using hd0
    rw [this, Nat.zero_mul, Nat.add_zero]; exact hlt
  · cases t with
    | zero =>
      have : v * 2 ^ (5 * k % 8) = 0 := by simpa using hd0
      rw [this, Nat.zero_mul, Nat.add_zero]; exact hlt
    | succ t =>
      have e1 : (256 : Nat) ^ (t + 1) = (2 ^ (8 - 5 * k % 8) * 256 ^ t) * 2 ^ (5 * k % 8) := by
        rw [Nat.pow_succ, Nat.mul_comm (2 ^ (8 - 5 * k % 8)), Nat.mul_assoc, ← Nat.pow_add, show 8 - 5 * k % 8 + 5 * k % 8 = 8 by omega]
      rw [e1] at hd0
      have h1 := Nat.lt_of_mul_lt_mul_right hd0
      have h2 := Nat.mul_le_mul_right (2 ^ (5 * k % 8)) (show v + 1 ≤ 2 ^ (8 - 5 * k % 8) * 256 ^ t from h1)
      rw [← e1, Nat.add_mul, Nat.one_mul] at h2
      have h3 := Nat.mul_le_mul_right (256 ^ (5 * k / 8)) h2
      rw [Nat.add_mul, ← Nat.pow_add] at h3
      have h4 : (256 : Nat) ^ (t + 1 + 5 * k / 8) ≤ 256 ^ n := Nat.pow_le_pow_right (by decide) (by omega)
      omega
section
variable {P : Program} {n : Nat} {w0 : World} {M : List Nat} {l : List (Nat × Value)} {hs : List HB} {Q : Exit → Act → World → Prop}
variable {d : Option Tmp} {ty : TypeId} {pos : String} {af : Array Edge} {gd : Option (Nat × Bool)}
theorem ex_or8 {t t2 : TypeId} {x y : Operand} {p q : UInt8} (hx : ev l x = some (.int .u8 (p.toNat : Int))) (hy : ev l y = some (.int .u8 (q.toNat : Int))) : Ex P n w0 M l hs ⟨d, .binOp .or t x y t2, ty, pos, af, gd⟩ (.int .u8 ((p ||| q).toNat : Int)) := by
  have h := ex_orN (P := P) (n := n) (w0 := w0) (M := M) (hs := hs) (d := d) (ty := ty) (pos := pos) (af := af) (gd := gd) (t := t) (t2 := t2) (p := p.toNat) (q := q.toNat) hx hy (by have := p.toNat_lt; simp only [cap]; omega) (by have := q.toNat_lt; simp only [cap]; omega)
  rw [UInt8.toNat_or]; exact h
/-- a test: behind it its slot holds what it is -/
theorem hl_ifb {s : Nat} {x y : Code} {b : Bool} (hc : look l s = some (.bool b)) (h1 : b = true → HL P n w0 M Q x ((s, .bool true) :: l) hs) (h2 : b = false → HL P n w0 M Q y ((s, .bool false) :: l) hs) : HL P n w0 M Q (.cond (.tmp s) x y) l hs := by
  have up : ∀ (v : Value) (a : Act), look l s = some v → Agree n l a → Agree n ((s, v) :: l) a := fun v a hv ha => ⟨ha.size, ha.defers, fun t u ht => by
    by_cases e : s = t
    · subst e
      rw [look_hit] at ht
      obtain rfl := Option.some.inj ht
      exact ha.vals s v hv
    · rw [look_miss _ _ _ _ e] at ht
      exact ha.vals t u ht⟩
  cases b with
  | true => exact hl_true (x := x) (y := y) hc fun a w ha hw => h1 rfl a w (up _ a hc ha) hw
  | false => exact hl_false (x := x) (y := y) hc fun a w ha hw => h2 rfl a w (up _ a hc ha) hw
end
end Go.Proofs.Ytdmagjelmhcemaa
