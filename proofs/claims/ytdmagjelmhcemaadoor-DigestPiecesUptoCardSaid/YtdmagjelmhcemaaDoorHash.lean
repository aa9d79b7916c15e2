/- A hasher: its block of cells, its state for a message, and the plain laws of writing. Nothing of a program. -/
import Derived.Test.YtdmagjelmhcemaaDoorSha2
import Derived.Test.YtdmagjelmhcemaaDoorP
namespace Go.Proofs.YtdmagjelmhcemaaDoor
open Go.RowKit
set_option linter.unusedVariables false
set_option linter.unusedSimpArgs false

/-- the cells of a hasher: eight words, 64 bytes, a count -/
def hblk (S : List UInt32) (R : List UInt8) (n : Nat) : Array Value := wrow S (R.map vb ++ [Value.int .i64 (n : Int)])
theorem hblk_list (S : List UInt32) (R : List UInt8) (n : Nat) : (hblk S R n).toList = S.map vw ++ (R.map vb ++ [Value.int .i64 (n : Int)]) := by simp [hblk, wrow]
theorem hblk_size {S : List UInt32} {R : List UInt8} (n : Nat) (hS : S.length = 8) (hR : R.length = 64) : (hblk S R n).size = 73 := by simp [hblk, wrow, hS, hR]
theorem hblk_n {S : List UInt32} {R : List UInt8} (n : Nat) (hS : S.length = 8) (hR : R.length = 64) : (hblk S R n)[72]? = some (.int .i64 (n : Int)) := by
  simp [hblk, wrow, List.getElem?_append, hS, hR]
theorem hblk_set {S : List UInt32} {R : List UInt8} (n k : Nat) (hS : S.length = 8) (hR : R.length = 64) : (hblk S R n).setIfInBounds 72 (.int .i64 (k : Int)) = hblk S R k := by
  apply Array.ext'
  rw [Array.toList_setIfInBounds, hblk_list, hblk_list, List.set_append_right _ _ (by simp [hS]), List.set_append_right _ _ (by simp [hS, hR])]
  simp [hS, hR]
theorem hblk_rest {S : List UInt32} {R : List UInt8} (n : Nat) (hS : S.length = 8) : ∀ j v, (R.map vb)[j]? = some v → (hblk S R n)[8 + j]? = some v := fun j v h => by
  have hj : j < (R.map vb).length := (List.getElem?_eq_some_iff.1 h).1
  rw [← Array.getElem?_toList, hblk_list, List.getElem?_append_right (by simp [hS]), List.getElem?_append_left (by simp [hS] at hj ⊢; exact hj)]
  simpa [hS] using h
theorem hblk_all {S : List UInt32} {R : List UInt8} (n : Nat) : ∀ j v, (S.map vw ++ (R.map vb ++ [Value.int .i64 (n : Int)]))[j]? = some v → (hblk S R n)[0 + j]? = some v := fun j v h => by
  rw [← Array.getElem?_toList, hblk_list, Nat.zero_add]; exact h
theorem hblk_one (S : List UInt32) (R : List UInt8) (n : Nat) : (hblk S R n).all (·.oneCell') = true := by
  rw [Array.all_eq_true']
  intro v hv
  rw [← Array.mem_toList_iff, hblk_list] at hv
  simp only [List.mem_append, List.mem_map, List.mem_singleton] at hv
  rcases hv with ⟨x, _, rfl⟩ | ⟨x, _, rfl⟩ | rfl <;> rfl
theorem hblk_copy {S : List UInt32} {R : List UInt8} (n a : Nat) (xs : List UInt8) (hS : S.length = 8) (hR : R.length = 64) (h : a + xs.length ≤ 64) :
    ((hblk S R n).toList.take (8 + a) ++ xs.map vb ++ (hblk S R n).toList.drop (8 + a + (xs.map vb).length)).toArray = hblk S (R.take a ++ xs ++ R.drop (a + xs.length)) n := by
  apply Array.ext'
  have hl : (S.map vw).length = 8 := by simp [hS]
  rw [hblk_list, hblk_list]
  simp only [List.length_map]
  rw [← hl, List.take_length_add_append, Nat.add_assoc, List.drop_length_add_append, List.take_append_of_le_length (by simp [hR]; omega), List.drop_append_of_le_length (by simp [hR]; omega)]
  simp [List.map_append, List.map_take, List.map_drop]
theorem rest_length {R : List UInt8} (a : Nat) (xs : List UInt8) (hR : R.length = 64) (h : a + xs.length ≤ 64) : (R.take a ++ xs ++ R.drop (a + xs.length)).length = 64 := by
  simp [hR]; omega

/-- the state of a hasher that took a message -/
structure HSt (m : List UInt8) (S : List UInt32) (R : List UInt8) : Prop where
  s : S = blocksTo tK tH m (m.length / 64)
  r : R.length = 64
  t : R.take (m.length % 64) = m.drop (64 * (m.length / 64))
theorem HSt.len {m : List UInt8} {S : List UInt32} {R : List UInt8} (h : HSt m S R) : S.length = 8 := by rw [h.s]; exact blocksTo_length _ _ _ rfl _
theorem HSt.start : HSt [] tH (List.replicate 64 0) := ⟨rfl, by simp, rfl⟩
/-- a piece that does not fill the block -/
theorem HSt.small {m p : List UInt8} {S : List UInt32} {R : List UInt8} (h : HSt m S R) (hp : m.length % 64 + p.length < 64) : HSt (m ++ p) S (R.take (m.length % 64) ++ p ++ R.drop (m.length % 64 + p.length)) := by
  have e1 : (m ++ p).length / 64 = m.length / 64 := by rw [List.length_append]; omega
  have e2 : (m ++ p).length % 64 = m.length % 64 + p.length := by rw [List.length_append]; omega
  refine ⟨?_, rest_length _ _ h.r (by omega), ?_⟩
  · rw [e1, blocksTo_app _ _ _ _ _ (by omega)]; exact h.s
  · rw [e1, e2, List.drop_append_of_le_length (by omega), ← h.t]
    rw [List.take_append_of_le_length (by simp [h.r]; omega), List.take_of_length_le (by simp [h.r]; omega)]
/-- a piece that fills the block -/
theorem HSt.fill {m p : List UInt8} {S : List UInt32} {R : List UInt8} (h : HSt m S R) (hp : 64 ≤ m.length % 64 + p.length) :
    compress tK S (R.take (m.length % 64) ++ p.take (64 - m.length % 64) ++ R.drop (m.length % 64 + (p.take (64 - m.length % 64)).length)) = blocksTo tK tH (m ++ p) (m.length / 64 + 1) := by
  have e1 : (p.take (64 - m.length % 64)).length = 64 - m.length % 64 := by rw [List.length_take]; omega
  have e2 : (m.drop (64 * (m.length / 64))).length = m.length % 64 := by rw [List.length_drop]; omega
  have e3 : R.drop (m.length % 64 + (64 - m.length % 64)) = [] := List.drop_of_length_le (by rw [h.r]; omega)
  rw [blocksTo, blocksTo_app _ _ _ _ _ (by omega), ← h.s, e1, h.t, e3, List.append_nil, List.drop_append_of_le_length (by omega), List.take_append, e2, List.take_of_length_le (l := m.drop _) (by rw [e2]; omega)]
theorem HSt.zero {m p : List UInt8} {S : List UInt32} {R : List UInt8} (h : HSt m S R) : S = blocksTo tK tH (m ++ p) (m.length / 64) := by rw [blocksTo_app _ _ _ _ _ (by omega)]; exact h.s
theorem drop_add_app (m p : List UInt8) (i : Nat) : (m ++ p).drop (m.length + i) = p.drop i := by rw [List.drop_append, List.drop_of_length_le (by omega), List.nil_append, Nat.add_sub_cancel_left]
/-- a whole block of the piece -/
theorem blocks_step {m p : List UInt8} {b i : Nat} (hbi : 64 * b = m.length + i) (hi : 64 + i ≤ p.length) : compress tK (blocksTo tK tH (m ++ p) b) ((p.drop i).take 64) = blocksTo tK tH (m ++ p) (b + 1) := by
  rw [blocksTo, hbi, drop_add_app]
/-- what is left of the piece -/
theorem HSt.last {m p : List UInt8} {R : List UInt8} {b i : Nat} (hR : R.length = 64) (hbi : 64 * b = m.length + i) (hi : i ≤ p.length) (hlt : p.length - i < 64) :
    HSt (m ++ p) (blocksTo tK tH (m ++ p) b) (R.take 0 ++ p.drop i ++ R.drop (0 + (p.drop i).length)) := by
  have e1 : (m ++ p).length / 64 = b := by rw [List.length_append]; omega
  have e2 : (m ++ p).length % 64 = p.length - i := by rw [List.length_append]; omega
  refine ⟨by rw [e1], rest_length _ _ hR (by simp; omega), ?_⟩
  rw [e1, e2, hbi, drop_add_app, List.take_zero, List.nil_append, List.take_append_of_le_length (by simp), List.take_of_length_le (by simp)]

/-! slices that go on -/
/-- cells that stay, whatever is done to these blocks -/
def Sk (w : World) (M : List Nat) (q : Option Addr) (xs : List Value) : Prop := ∀ hs w', Hp w M hs w' → Sl w' q xs
theorem Sk.of {w : World} {M : List Nat} {q : Option Addr} {xs : List Value} (h : Sl w q xs) (hm : ∀ a, q = some a → a.block ∉ M) : Sk w M q xs := fun hs w' hw => h.old hw hm
theorem Sk.older {w0 w : World} {M : List Nat} {hs : List HB} {q : Option Addr} {xs : List Value} (h : Sl w0 q xs) (hw : Hp w0 [] hs w) (hm : ∀ g ∈ M, w0.heap.size ≤ g) : Sk w M q xs := fun hs' w' hw' i v hv => by
  obtain ⟨a, ha, hc⟩ := h i v hv
  refine ⟨a, ha, ?_⟩
  have hlt := World.block_lt_of_cell? w0 _ hc
  rw [add_blk] at hlt
  rw [World.cell?_of_block (w := w0) (w' := w') (a := a.add i) (by rw [add_blk]; exact (hw'.block a.block (Nat.lt_of_lt_of_le hlt hw.size) (fun hm' => Nat.lt_irrefl _ (Nat.lt_of_lt_of_le hlt (hm _ hm')))).trans (hw.block a.block hlt (by simp)))]
  exact hc
theorem Hp.fresh {w : World} {g : Nat} {cs : Array Value} {t : TypeId} {fr : Nat × Nat} {hs : List HB} {w' : World} (h : Hp w [] (⟨some g, cs, t, fr⟩ :: hs) w') : w.heap.size ≤ g := by
  rcases h.new _ List.mem_cons_self g rfl with h | h
  · exact h
  · cases h
theorem drop_sl {w : World} {q : Option Addr} {l : List UInt8} {i c : Nat} (k : Nat) (h : Sl w q ((l.drop i).map vb)) (hc : l.length - i ≤ c) : Sl w (cut q c k 1) ((l.drop (i + k)).map vb) := by
  have h1 := h.drop c k 1 (by simp; omega)
  rw [Nat.mul_one, ← List.map_drop, List.drop_drop] at h1
  exact h1
theorem take_sl {w : World} {q : Option Addr} {l : List UInt8} (k : Nat) (h : Sl w q (l.map vb)) : Sl w q ((l.take k).map vb) := by
  have h1 := h.take k
  rw [← List.map_take] at h1
  exact h1
section
variable {P : Program} {n : Nat} {w0 : World} {M : List Nat} {l : List (Nat × Value)} {hs hs2 : List HB}
variable {d : Option Tmp} {ty : TypeId} {pos : String} {af : Array Edge} {gd : Option (Nat × Bool)}
theorem ex_slice_arr_lo1 {t e : TypeId} {x lo : Operand} {m g o i : Nat} (hx : ev l x = some (.pointer (some ⟨g, o, none⟩))) (hl : ev l lo = some (.int .i64 (i : Int))) (hT : P.underlying t = some (.array m e)) (hz : (P.info? e).map (·.size) = some 1) (h1 : i < m) :
    Ex P n w0 M l hs ⟨d, .slice t x (some lo) none none, ty, pos, af, gd⟩ (slv (some ⟨g, o + i, none⟩) (m - i) (m - i)) := by
  have h := ex_slice_arr_lo (n := n) (w0 := w0) (M := M) (hs := hs) (d := d) (ty := ty) (pos := pos) (af := af) (gd := gd) hx hl hT 1 hz (Nat.le_of_lt h1)
  have hne : ¬ m = i := by omega
  simpa [cut, off, hne, add_plain'] using h
theorem ex_slice_arr_lohi1 {t e : TypeId} {x lo hi : Operand} {m g o i j : Nat} (hx : ev l x = some (.pointer (some ⟨g, o, none⟩))) (hl : ev l lo = some (.int .i64 (i : Int))) (hh : ev l hi = some (.int .i64 (j : Int))) (hT : P.underlying t = some (.array m e)) (hz : (P.info? e).map (·.size) = some 1) (h0 : i ≤ j) (h2 : j ≤ m) (h1 : i < m) :
    Ex P n w0 M l hs ⟨d, .slice t x (some lo) (some hi) none, ty, pos, af, gd⟩ (slv (some ⟨g, o + i, none⟩) (j - i) (m - i)) := by
  have h := ex_slice_arr_lohi (n := n) (w0 := w0) (M := M) (hs := hs) (d := d) (ty := ty) (pos := pos) (af := af) (gd := gd) hx hl hh hT 1 hz h0 h2
  have hne : ¬ m = i := by omega
  simpa [cut, off, hne, add_plain'] using h
end
end Go.Proofs.YtdmagjelmhcemaaDoor
