/- Small laws that the walks over lists of bytes ask for. Nothing of a program. -/
import Derived.Test.YtdmagjelmhcemaaTextLaw
namespace Go.Proofs.Ytdmagjelmhcemaa
open Go.RowKit
set_option linter.unusedVariables false
set_option linter.unusedSimpArgs false

def marks : List UInt8 := [0xc3, 0x3c, 0xc3, 0x3c, 0xc3, 0x3c, 0xc3, 0x3c]
theorem padded_fin (l : List UInt8) {w w' : World} {e : TypeId} {hs : List HB} (y : Option Nat × Nat × List Value)
    (hk : RowOk 1 y.1 (0 + l.length + 8) y.2.1 ([] ++ l.map vb ++ [Value.int .u8 195, Value.int .u8 60, Value.int .u8 195, Value.int .u8 60, Value.int .u8 195, Value.int .u8 60, Value.int .u8 195, Value.int .u8 60]) y.2.2)
    (hw : Hp w [] (⟨y.1, ([] ++ l.map vb ++ [Value.int .u8 195, Value.int .u8 60, Value.int .u8 195, Value.int .u8 60, Value.int .u8 195, Value.int .u8 60, Value.int .u8 195, Value.int .u8 60] ++ y.2.2).toArray, e, (0, 0)⟩ :: hs) w') :
    ∃ g c' r, RowOk 1 (some g) (l.length + 8) c' ((l ++ marks).map vb) r ∧ Ending.returned (rowv y.1 (0 + l.length + 8) y.2.1) = .returned (rowv (some g) (l.length + 8) c') ∧ Hp w [] [⟨some g, vrow l (marks.map vb ++ r), e, (0, 0)⟩] w' := by
  obtain ⟨o, c, r⟩ := y
  rw [Nat.zero_add] at hk ⊢
  cases o with
  | none => have h1 := hk.nil rfl; have h2 := hk.le; dsimp only at h1 h2; omega
  | some g =>
    have e1 : (l ++ marks).map vb = [] ++ l.map vb ++ [Value.int .u8 195, Value.int .u8 60, Value.int .u8 195, Value.int .u8 60, Value.int .u8 195, Value.int .u8 60, Value.int .u8 195, Value.int .u8 60] := by rw [List.map_append]; rfl
    refine ⟨g, c, r, by rw [e1]; exact hk, rfl, ?_⟩
    have e2 : vrow l (marks.map vb ++ r) = ([] ++ l.map vb ++ [Value.int .u8 195, Value.int .u8 60, Value.int .u8 195, Value.int .u8 60, Value.int .u8 195, Value.int .u8 60, Value.int .u8 195, Value.int .u8 60] ++ r).toArray := by
      rw [← e1, List.map_append, List.append_assoc]; rfl
    rw [e2]
    exact hw.pick (is := [0]) (by decide) (.cons 0 rfl .nil)
theorem bytes_short (x y : List UInt8) (h : ¬ ((x.length : Int) = (y.length : Int))) : (x == y) = false := by
  rw [beq_eq_false_iff_ne]; intro e; subst e; exact h rfl
theorem getD_of (x : List UInt8) (g : Nat) (h : g < x.length) : x.getD g 0 = x[g] := by simp [List.getD, h]
theorem bytes_apart (x y : List UInt8) (g : Nat) (h : (!(x.getD g 0 == y.getD g 0)) = true) : (x == y) = false := by
  rw [beq_eq_false_iff_ne]; intro e; subst e; simp at h
theorem bytes_same (x y : List UInt8) (hn : x.length = y.length) (h : x.take x.length = y.take x.length) : (x == y) = true := by
  rw [List.take_length, hn, List.take_length] at h
  subst h; simp
theorem bytes_more (x y : List UInt8) (g : Nat) (h1 : g < x.length) (h2 : g < y.length) (h : x.take g = y.take g) (hb : (!(x.getD g 0 == y.getD g 0)) = false) : x.take (g + 1) = y.take (g + 1) := by
  rw [take_getD x g h1, take_getD y g h2, h]
  have : x.getD g 0 = y.getD g 0 := by simpa using hb
  rw [this]
theorem Hp.mine (w : World) (g : Nat) (cs : Array Value) (t : TypeId) {fr : Nat × Nat} (h : w.heap[g]? = some (.cells cs t fr)) : Hp w [g] [⟨some g, cs, t, fr⟩] w :=
  ⟨rfl, rfl, rfl, Nat.le_refl _, fun _ _ _ => rfl, fun x hx k hk => by
      rw [List.mem_singleton] at hx; subst hx; obtain rfl := Option.some.inj hk; exact h, fun x hx k hk => by
      rw [List.mem_singleton] at hx; subst hx; obtain rfl := Option.some.inj hk; exact .inr (by simp), List.pairwise_singleton _ _⟩
theorem bit_none (l : List UInt8) (k : Nat) (h : ((l.length : Int) ≤ ((k / 8 : Nat) : Int))) : bitOf l k = 0 := by
  unfold bitOf; rw [getD_over l _ (by omega)]; simp
theorem bit_some (l : List UInt8) (k : Nat) : (l.getD (k / 8) 0).toNat / 2 ^ (k % 8) &&& 1 = bitOf l k := Nat.and_two_pow_sub_one_eq_mod _ 1
theorem vrow_own (X : List UInt8) (r : List Value) : ∀ j v, (X.map vb)[j]? = some v → (vrow X r)[0 + j]? = some v := fun j v h => pre_get j v h
theorem vrow_all (X m : List UInt8) (r : List Value) : ∀ j v, ((X ++ m).map vb)[j]? = some v → (vrow X (m.map vb ++ r))[0 + j]? = some v := fun j v h => by
  have e : vrow X (m.map vb ++ r) = ((X ++ m).map vb ++ r).toArray := by rw [List.map_append, List.append_assoc]; rfl
  rw [e]; exact pre_get j v h
theorem marks_length : marks.length = 8 := rfl
theorem pad_length (l : List UInt8) : (l ++ marks).length = l.length + 8 := by simp [marks]

/-! base 64, in rounds -/
theorem copy3 (d : List UInt8) : ((vbs (List.replicate 3 0)).toList.take 0 ++ (d.take 3).map vb ++ (vbs (List.replicate 3 0)).toList.drop (0 + ((d.take 3).map vb).length)).toArray = vbs [d.getD 0 0, d.getD 1 0, d.getD 2 0] := by
  match d with
  | [] => rfl
  | [a] => rfl
  | [a, b] => rfl
  | a :: b :: c :: d => simp [vbs, vb]
theorem chunk_sl {w : World} {q : Option Addr} {l : List UInt8} {i c k : Nat} (h : Sl w q ((l.drop (3 * i)).map vb)) (hk : k = min (l.length - 3 * i) 3) (hc : l.length - 3 * i ≤ c) : Sl w (cut q c k 1) ((l.drop (3 * (i + 1))).map vb) := by
  have h1 := h.drop c k 1 (by simp; omega)
  rw [Nat.mul_one, ← List.map_drop, List.drop_drop] at h1
  by_cases h3 : 3 ≤ l.length - 3 * i
  · rw [show 3 * (i + 1) = 3 * i + k by omega]; exact h1
  · rw [List.drop_of_length_le (by omega)]; exact Sl.nil w _
theorem cut_none {q : Option Addr} {c k s : Nat} (h : cut q c k s = none) : q = none := by
  unfold cut off at h
  split at h
  · exact h
  · cases q with
    | none => rfl
    | some a => cases h
theorem enc_pad (l t : List UInt8) (i n j : Nat) (h : n < j) : (b64To l i ++ encTo t n j).map vb ++ [Value.int .u8 61] = (b64To l i ++ encTo t n (j + 1)).map vb := by
  simp only [encTo, four, if_pos h, List.map_append, List.append_assoc]; rfl
theorem enc_dig (l t : List UInt8) (i n j : Nat) (h : ¬ n < j) : (b64To l i ++ encTo t n j).map vb ++ [Value.int .u8 ((d64.getD (three t / 2 ^ (18 - 6 * j) &&& 63) 0).toNat : Int)] = (b64To l i ++ encTo t n (j + 1)).map vb := by
  simp only [encTo, four, if_neg h, List.map_append, List.append_assoc, and63]; rfl
theorem three_lt (t : List UInt8) : three t < 16777216 := by
  have h0 := (t.getD 0 0).toNat_lt; have h1 := (t.getD 1 0).toNat_lt; have h2 := (t.getD 2 0).toNat_lt
  unfold three; omega
def vTo (t : List UInt8) : Nat → Nat
  | 0 => 0
  | j + 1 => vTo t j * 256 + (t.getD j 0).toNat
theorem vTo_lt (t : List UInt8) : ∀ j, vTo t j < 256 ^ j
  | 0 => by simp [vTo]
  | j + 1 => by
    have h1 := vTo_lt t j
    have h2 := (t.getD j 0).toNat_lt
    simp only [vTo, Nat.pow_succ]; omega
theorem vTo_three (t : List UInt8) : vTo t 3 = three t := by simp only [vTo, three]; omega
theorem drop_getD (l : List UInt8) (a j : Nat) : (l.drop a).getD j 0 = l.getD (a + j) 0 := by simp [List.getD]
theorem vTo_none (l : List UInt8) (a v : Nat) (h : l.length ≤ a + v) : vTo (l.drop a) (v + 1) = vTo (l.drop a) v * 256 := by
  rw [vTo, drop_getD, getD_over l _ h]; exact Nat.add_zero _
end Go.Proofs.Ytdmagjelmhcemaa
