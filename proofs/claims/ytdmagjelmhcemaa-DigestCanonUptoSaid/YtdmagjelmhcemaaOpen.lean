/- Arguments opened by their shape, lists in lists and structs in lists too; with the bulk of what is read. Nothing of a program. -/
import Derived.Test.YtdmagjelmhcemaaBulk
import Derived.Deep.Slices
namespace Go.Proofs.Ytdmagjelmhcemaa
open Go.RowKit Go.ChangeShapes Go.WideShapes
set_option linter.unusedVariables false
set_option linter.unusedSimpArgs false

/-- a slice: its elements, where they lie, its room -/
structure Lst (α : Type) where
  xs : List α
  p : Option Addr
  c : Nat
def Lst.v {α : Type} (l : Lst α) : Value := slv l.p l.xs.length l.c
structure Lst.Good {α : Type} (w : World) (cells : α → List Value) (l : Lst α) : Prop where
  nil : l.p = none → l.xs.length = 0 ∧ l.c = 0
  le : l.xs.length ≤ l.c
  max : l.c ≤ maxLen
  sl : Sl w l.p (l.xs.flatMap cells)

structure Shp (P : Program) (t : TypeId) (α : Type) where
  cells : α → List Value
  n : Nat
  len : ∀ a, (cells a).length = n
  ok : World → α → Prop
  bulk : α → Nat
  read : ∀ {H : Type} {enc : TypeId × Value → H} {w : World} {base : Nat} {spare : Nat → Bool} {held : Bool} {fuel : Nat} {cs : List Value} {d : DataW H × List MemPlace},
    DataW.trod enc P w base spare held fuel t cs = some d → ∃ a, cs = cells a ∧ ok w a ∧ bulk a ≤ Rows.uptoBulk d.1

theorem exists_list {α : Type} {Q : Nat → α → Prop} : ∀ n : Nat, (∀ i, i < n → ∃ x, Q i x) → ∃ xs : List α, xs.length = n ∧ ∀ i x, xs[i]? = some x → Q i x
  | 0, _ => ⟨[], rfl, by simp⟩
  | n + 1, h => by
    obtain ⟨xs, h1, h2⟩ := exists_list n (fun i hi => h i (by omega))
    obtain ⟨x, hx⟩ := h n (by omega)
    refine ⟨xs ++ [x], by simp [h1], fun i y hy => ?_⟩
    by_cases hi : i < n
    · rw [List.getElem?_append_left (by omega)] at hy; exact h2 i y hy
    · rw [List.getElem?_append_right (by omega)] at hy
      have : i = n := by
        have := (List.getElem?_eq_some_iff.1 hy).1
        simp at this; omega
      subst this
      simp [h1] at hy
      subst hy; exact hx
theorem flatMap_get {α : Type} {f : α → List Value} {n : Nat} (hn : ∀ a, (f a).length = n) : ∀ (xs : List α) (j : Nat) (v : Value), (xs.flatMap f)[j]? = some v → ∃ i r x, j = i * n + r ∧ r < n ∧ xs[i]? = some x ∧ (f x)[r]? = some v
  | [], j, v, h => by simp at h
  | x :: xs, j, v, h => by
    rw [List.flatMap_cons] at h
    by_cases hj : j < n
    · rw [List.getElem?_append_left (by rw [hn]; exact hj)] at h
      exact ⟨0, j, x, by omega, hj, rfl, h⟩
    · rw [List.getElem?_append_right (by rw [hn]; omega), hn] at h
      obtain ⟨i, r, y, h1, h2, h3, h4⟩ := flatMap_get hn xs _ v h
      exact ⟨i + 1, r, y, by rw [Nat.add_mul]; omega, h2, by simpa using h3, h4⟩
theorem flatMap_at {α : Type} {f : α → List Value} {n : Nat} (hn : ∀ a, (f a).length = n) : ∀ (xs : List α) (i : Nat) (x : α) (r : Nat), xs[i]? = some x → r < n → (xs.flatMap f)[i * n + r]? = (f x)[r]?
  | [], i, x, r, h, _ => by simp at h
  | y :: xs, 0, x, r, h, hr => by
    obtain rfl : y = x := by simpa using h
    rw [List.flatMap_cons, Nat.zero_mul, Nat.zero_add, List.getElem?_append_left (by rw [hn]; exact hr)]
  | y :: xs, i + 1, x, r, h, hr => by
    rw [List.flatMap_cons, Nat.add_mul, Nat.one_mul, List.getElem?_append_right (by rw [hn]; omega), hn, show i * n + n + r - n = i * n + r by omega]
    exact flatMap_at hn xs i x r (by simpa using h) hr
def sumBulk {α : Type} (b : α → Nat) (xs : List α) : Nat := (xs.map b).sum
theorem sumBulk_le {α H : Type} {b : α → Nat} : ∀ {xs : List α} {ds : List (DataW H)}, xs.length = ds.length → (∀ (i : Nat) x d, xs[i]? = some x → ds[i]? = some d → b x ≤ Rows.uptoBulk d) → sumBulk b xs ≤ Rows.uptoBulkAll ds
  | [], [], _, _ => by simp [sumBulk, Rows.uptoBulkAll]
  | x :: xs, d :: ds, hl, h => by
    have h1 := h 0 x d rfl rfl
    have h2 := sumBulk_le (b := b) (xs := xs) (ds := ds) (by simpa using hl) (fun i y e hy he => h (i + 1) y e (by simpa using hy) (by simpa using he))
    simp only [sumBulk, List.map_cons, List.sum_cons, Rows.uptoBulkAll] at h2 ⊢
    omega

/-! the shapes -/
def shInt {P : Program} {t : TypeId} (k : IntKind) (ht : P.underlying t = some (.int k)) : Shp P t Int where
  cells n := [.int k n]
  n := 1
  len _ := rfl
  ok _ n := (Lit.int k n).wf = true
  bulk _ := 1
  read h := by
    obtain ⟨n, h1, h2, h3⟩ := DataW.trod_int ht h
    refine ⟨n, h1, h3, ?_⟩
    rw [h2]; simp [Rows.uptoBulk]
def shBool {P : Program} {t : TypeId} (ht : P.underlying t = some .bool) : Shp P t Bool where
  cells b := [.bool b]
  n := 1
  len _ := rfl
  ok _ _ := True
  bulk _ := 1
  read h := by
    obtain ⟨b, h1, h2⟩ := DataW.trod_bool ht h
    refine ⟨b, h1, trivial, ?_⟩
    rw [h2]; simp [Rows.uptoBulk]
def shStr {P : Program} {t : TypeId} (ht : P.underlying t = some .string) : Shp P t (List UInt8) where
  cells L := [.string (bs L)]
  n := 1
  len _ := rfl
  ok _ L := L.length ≤ maxLen
  bulk L := L.length + 1
  read h := by
    obtain ⟨s, h1, h2, h3⟩ := DataW.trod_string ht h
    refine ⟨s.data.toList, by rw [h1]; rfl, by show s.data.toList.length ≤ maxLen; rw [Array.length_toList]; exact h3, ?_⟩
    rw [h2]; simp [Rows.uptoBulk]
theorem flat1 {α : Type} (f : α → Value) (xs : List α) : xs.flatMap (fun a => [f a]) = xs.map f := by
  induction xs with
  | nil => rfl
  | cons x xs ih => rw [List.flatMap_cons, ih]; rfl
theorem bytes_read {P : Program} {t e : TypeId} (ht : P.underlying t = some (.slice e)) (he : P.underlying e = some (.int .u8)) (hc : P.cellsOf e = 1) {H : Type} {enc : TypeId × Value → H} {w : World} {base : Nat} {spare : Nat → Bool} {held : Bool} {fuel : Nat} {cs : List Value} {d : DataW H × List MemPlace}
    (h : DataW.trod enc P w base spare held fuel t cs = some d) : ∃ a : Lst UInt8, cs = [a.v] ∧ a.Good w (fun b => [vb b]) ∧ a.xs.length + 1 ≤ Rows.uptoBulk d.1 := by
  obtain ⟨x, p, c, h1, h2, h3, h4, h5, h6⟩ := open_bytes_cs ht he hc h
  refine ⟨⟨x, p, c⟩, h1, ⟨h2, h3, h4, by rw [flat1]; exact h5⟩, ?_⟩
  rcases h6 with h6 | ⟨els, sp, h7, h8⟩
  · have := bulk_one d.1; dsimp only; omega
  · rw [h7, ← h8]; have := bulk_length els; simp only [Rows.uptoBulk]; omega
def shBytes {P : Program} {t e : TypeId} (ht : P.underlying t = some (.slice e)) (he : P.underlying e = some (.int .u8)) (hc : P.cellsOf e = 1) : Shp P t (Lst UInt8) where
  cells a := [a.v]
  n := 1
  len _ := rfl
  ok w a := a.Good w (fun b => [vb b])
  bulk a := a.xs.length + 1
  read h := bytes_read ht he hc h
def shList {P : Program} {t e : TypeId} {α : Type} (ht : P.underlying t = some (.slice e)) (S : Shp P e α) (hc : P.cellsOf e = S.n) (hp : 0 < S.n) : Shp P t (Lst α) where
  cells a := [a.v]
  n := 1
  len _ := rfl
  ok w a := a.Good w S.cells ∧ ∀ x ∈ a.xs, S.ok w x
  bulk a := sumBulk S.bulk a.xs + 1
  read {H enc w base spare held fuel cs d} h := by
    rcases Go.Deep.open_slice ht h with ⟨rfl, rfl⟩ | ⟨a, len, cap, m, n, D, Pl, rfl, _, hl, hm, hmm, rfl, hx⟩
    · exact ⟨⟨[], none, 0⟩, rfl, ⟨⟨fun _ => ⟨rfl, rfl⟩, Nat.le_refl _, by simp [maxLen], Sl.nil w _⟩, by simp⟩, by simp [sumBulk, Rows.uptoBulk]⟩
    · have hle : len ≤ m := by rw [hmm]; split <;> omega
      obtain ⟨xs, hxl, hxs⟩ := exists_list (α := α) (Q := fun i x => w.cells? base (a.add (i * P.cellsOf e)) (P.cellsOf e) = some (S.cells x) ∧ S.ok w x ∧ S.bulk x ≤ Rows.uptoBulk (D i)) len (fun i hi => by
        obtain ⟨cs', h1, h2⟩ := hx i (by omega)
        obtain ⟨x, h3, h4, h5⟩ := S.read h2
        exact ⟨x, by rw [h1, h3], h4, h5⟩)
      refine ⟨⟨xs, some a, cap⟩, by rw [← hxl]; rfl, ⟨⟨fun h => (by cases h), by rw [hxl]; exact hl, hm, fun j v hv => ?_⟩, fun x hx' => ?_⟩, ?_⟩
      · obtain ⟨i, r, x, rfl, hr, h3, h4⟩ := flatMap_get S.len xs j v hv
        obtain ⟨h5, _, _⟩ := hxs i x h3
        rw [hc] at h5
        obtain ⟨_, _, h6⟩ := World.cells?_some h5
        exact ⟨a, rfl, by rw [← Addr.add_add, h6 r hr]; exact h4⟩
      · obtain ⟨i, hi, rfl⟩ := List.getElem_of_mem hx'
        exact (hxs i _ (List.getElem?_eq_getElem hi)).2.1
      · have h1 := sumBulk_le (b := S.bulk) (xs := xs) (ds := (List.range len).map D) (by simp [hxl]) (fun i x d hx' hd => by
          obtain ⟨_, _, h7⟩ := hxs i x hx'
          have hi : i < len := by have := (List.getElem?_eq_some_iff.1 hx').1; omega
          simp [hi] at hd
          subst hd; exact h7)
        dsimp only
        simp only [Rows.uptoBulk]; omega

/-- the fields of a struct, from an offset on -/
structure FShp (P : Program) (fs : List Field) (off : Nat) (α : Type) where
  cells : α → List Value
  n : Nat
  len : ∀ a, (cells a).length = n
  ok : World → α → Prop
  bulk : α → Nat
  read : ∀ {H : Type} {enc : TypeId × Value → H} {w : World} {base : Nat} {spare : Nat → Bool} {held : Bool} {fuel : Nat} {cs : List Value} {xs : List (DataW H × List MemPlace)},
    xs.length = fs.length → (∀ (i : Nat) f, fs[i]? = some f → DataW.trod enc P w base spare held fuel f.type ((cs.drop f.offset).take (P.cellsOf f.type)) = xs[i]?) → cs.length = off + n →
      ∃ a, cs.drop off = cells a ∧ ok w a ∧ bulk a ≤ Rows.uptoBulkAll (xs.map (·.1))
def fNil {P : Program} {off : Nat} : FShp P [] off Unit where
  cells _ := []
  n := 0
  len _ := rfl
  ok _ _ := True
  bulk _ := 0
  read hx _ hl := ⟨(), List.drop_of_length_le (by omega), trivial, Nat.zero_le _⟩
def fCons {P : Program} {f : Field} {fs : List Field} {off off' : Nat} {α β : Type} (S : Shp P f.type α) (ho : f.offset = off) (hc : P.cellsOf f.type = S.n) (ho' : off + S.n = off') (F : FShp P fs off' β) : FShp P (f :: fs) off (α × β) where
  cells a := S.cells a.1 ++ F.cells a.2
  n := S.n + F.n
  len a := by rw [List.length_append, S.len, F.len]
  ok w a := S.ok w a.1 ∧ F.ok w a.2
  bulk a := S.bulk a.1 + F.bulk a.2
  read {H enc w base spare held fuel cs xs} hx h hl := by
    subst ho'
    cases xs with
    | nil => cases hx
    | cons x xs =>
      have h0 := h 0 f rfl
      rw [ho, hc] at h0
      obtain ⟨a, ha, hok, hb⟩ := S.read (d := x) h0
      obtain ⟨b, hb1, hb2, hb3⟩ := F.read (cs := cs) (xs := xs) (by simpa using hx) (fun i g hg => by simpa using h (i + 1) g (by simpa using hg)) (by omega)
      refine ⟨(a, b), ?_, ⟨hok, hb2⟩, by simp only [List.map_cons, Rows.uptoBulkAll]; omega⟩
      dsimp only
      rw [← hb1, ← ha, ← List.drop_drop, List.take_append_drop]
def shStruct {P : Program} {t : TypeId} {fs : List Field} {α : Type} (F : FShp P fs 0 α) (ht : P.underlying t = some (.struct fs.toArray)) (hc : P.cellsOf t = F.n) : Shp P t α where
  cells := F.cells
  n := F.n
  len := F.len
  ok := F.ok
  bulk a := F.bulk a + 1
  read {H enc w base spare held fuel cs d} h := by
    obtain ⟨xs, n, _, rfl, hl, hxl, hi⟩ := DataW.trod_struct ht h
    obtain ⟨a, h1, h2, h3⟩ := F.read (cs := cs) (xs := xs) (by simpa using hxl) (fun i f hf => hi i f (by simpa using hf)) (by omega)
    exact ⟨a, by simpa using h1, h2, by simp only [Rows.uptoBulk]; omega⟩

/-! arguments -/
theorem open_cell {P : Program} {t : TypeId} {α : Type} (S : Shp P t α) {cell : α → Value} (hcell : ∀ a, S.cells a = [cell a]) {H : Type} {enc : TypeId × Value → H} {w : World} {base : Nat} {spare : Nat → Bool} {held : Bool} {v : Value} {d : DataW H} {ps : List MemPlace} (h1 : v.cells = #[v])
    (hd : DataW.Trod enc P w base spare held t v d ps) : ∃ a, v = cell a ∧ S.ok w a ∧ S.bulk a ≤ Rows.uptoBulk d := by
  obtain ⟨fuel, hf⟩ := hd
  obtain ⟨a, h2, h3, h4⟩ := S.read hf
  rw [h1, hcell] at h2
  exact ⟨a, by simpa using h2, h3, h4⟩
theorem open_lst {P : Program} {t e : TypeId} {α : Type} {r : Reach} {b0 : Nat} (ht : P.underlying t = some (.slice e)) (S : Shp P t (Lst α)) (hcell : ∀ a, S.cells a = [a.v]) {H : Type} {enc : TypeId × Value → H} {w : World} {base : Nat} {spare : Nat → Bool} {held : Bool} {v : Value} {d : DataW H} {ps : List MemPlace}
    (hval : Value.okWide P w r b0 t v) (hd : DataW.Trod enc P w base spare held t v d ps) : ∃ a, v = a.v ∧ S.ok w a ∧ S.bulk a ≤ Rows.uptoBulk d := by
  obtain ⟨a0, l0, c0, rfl⟩ := okWide_slice ht hval
  exact open_cell S hcell rfl hd
theorem bulk_in {H : Type} {d : DataW H} {k : Nat} (hk : k ≤ Rows.uptoBulk d) {l : List (DataW H)} (hs : Rows.uptoSmall H l = true) (hm : d ∈ l) : k ≤ 1048576 :=
  Nat.le_trans (Nat.le_trans hk (bulk_part hm)) (of_decide_eq_true hs)
end Go.Proofs.Ytdmagjelmhcemaa
