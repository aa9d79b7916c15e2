/- The laws of slices, strings and small numbers for the logic of walks. Nothing of a program. -/
import Derived.Test.YtdmagjelmhcemaaE
import Derived.DataElems
import Derived.Laws.OwnMore
import Derived.Laws.Strings2
import Derived.Laws.Strings3
import Derived.Laws.Concat
import Derived.Laws.BytesString
import Derived.Laws.Slices
namespace Go.Proofs.Ytdmagjelmhcemaa
open Go.RowKit
set_option linter.unusedVariables false
set_option linter.unusedSimpArgs false

theorem add_blk (a : Addr) (n : Nat) : (a.add n).block = a.block := by unfold Addr.add; split <;> rfl
/-! ### slices as values -/
def slv (p : Option Addr) (n c : Nat) : Value := .slice p n c
def off (p : Option Addr) (k : Nat) : Option Addr := p.map fun q => q.add k
def ptv (p : Option Addr) (k : Nat) : Value := .pointer (off p k)
def cut (p : Option Addr) (c lo size : Nat) : Option Addr := if c = lo then p else off p (lo * size)
def rowp (o : Option Nat) : Option Addr := o.map fun g => ⟨g, 0, none⟩
def rowv (o : Option Nat) (n c : Nat) : Value := slv (rowp o) n c
/-- the cells from there on -/
def Sl (w : World) (p : Option Addr) (xs : List Value) : Prop := ∀ i v, xs[i]? = some v → ∃ q, p = some q ∧ w.cell? (q.add i) = some v

theorem Sl.nil (w : World) (p : Option Addr) : Sl w p [] := fun i v h => by simp at h
theorem Sl.own {w0 : World} {M : List Nat} {hs : List HB} {w : World} (h : Hp w0 M hs w) (i : Nat) {b : HB} (hi : hs[i]? = some b) {g o : Nat} (hg : b.g = some g) {xs : List Value} (hx : ∀ j v, xs[j]? = some v → b.cs[o + j]? = some v) : Sl w (some ⟨g, o, none⟩) xs :=
  fun j v hv => ⟨⟨g, o, none⟩, rfl, by rw [add_plain']; exact h.cell (List.mem_of_getElem? hi) hg (hx j v hv)⟩
theorem Sl.ownAll {w0 : World} {M : List Nat} {hs : List HB} {w : World} (h : Hp w0 M hs w) (i : Nat) {g : Nat} {vs : List Value} {t : TypeId} {fr : Nat × Nat} (hi : hs[i]? = some ⟨some g, vs.toArray, t, fr⟩) : Sl w (some ⟨g, 0, none⟩) vs :=
  Sl.own h i hi rfl fun j v hv => by simpa using hv
theorem Sl.ownBs {w0 : World} {M : List Nat} {hs : List HB} {w : World} (h : Hp w0 M hs w) (i : Nat) {g : Nat} {l : List UInt8} {t : TypeId} {fr : Nat × Nat} (hi : hs[i]? = some ⟨some g, vbs l, t, fr⟩) : Sl w (some ⟨g, 0, none⟩) (l.map vb) :=
  Sl.own h i hi rfl fun j v hv => by simpa [vbs] using hv
theorem Sl.ownRow {w0 : World} {M : List Nat} {hs : List HB} {w : World} (h : Hp w0 M hs w) (i : Nat) {o : Option Nat} {xs rest : List Value} {t : TypeId} {fr : Nat × Nat} (hi : hs[i]? = some ⟨o, (xs ++ rest).toArray, t, fr⟩) (ho : o = none → xs = []) : Sl w (rowp o) xs := by
  cases o with
  | none => rw [ho rfl]; exact Sl.nil w _
  | some g =>
    refine Sl.own h i hi rfl fun j v hv => ?_
    have := (List.getElem?_eq_some_iff.1 hv).1
    simp [List.getElem?_append_left this, hv]
theorem Sl.old {w0 : World} {M : List Nat} {hs : List HB} {w : World} (h : Hp w0 M hs w) {p : Option Addr} {xs : List Value} (hs : Sl w0 p xs) (hm : ∀ q, p = some q → q.block ∉ M) : Sl w p xs := fun i v hv => by
  obtain ⟨q, hq, hc⟩ := hs i v hv
  refine ⟨q, hq, ?_⟩
  have hlt := World.block_lt_of_cell? w0 _ hc
  rw [add_blk] at hlt
  rw [World.cell?_of_block (w := w0) (w' := w) (a := q.add i) (by rw [add_blk]; exact h.block q.block hlt (hm q hq))]
  exact hc
theorem Sl.old0 {w0 : World} {hs : List HB} {w : World} (h : Hp w0 [] hs w) {p : Option Addr} {xs : List Value} (hs : Sl w0 p xs) : Sl w p xs := hs.old h (by simp)
theorem Sl.take {w : World} {p : Option Addr} {xs : List Value} (h : Sl w p xs) (k : Nat) : Sl w p (xs.take k) := fun i v hv => h i v (by
  rw [List.getElem?_take] at hv
  split at hv
  · exact hv
  · cases hv)
theorem Sl.drop {w : World} {p : Option Addr} {xs : List Value} (h : Sl w p xs) (c lo size : Nat) (hc : xs.length ≤ c * size) : Sl w (cut p c lo size) (xs.drop (lo * size)) := fun i v hv => by
  rw [List.getElem?_drop] at hv
  have hlt : lo * size + i < xs.length := (List.getElem?_eq_some_iff.1 hv).1
  have hne : ¬ c = lo := by intro e; subst e; omega
  obtain ⟨q, rfl, hc⟩ := h _ v hv
  refine ⟨q.add (lo * size), by simp [cut, hne, off], ?_⟩
  rw [Addr.add_add]; exact hc
theorem Sl.sub {w : World} {p : Option Addr} {xs ys : List Value} (h : Sl w p xs) (hy : ∀ (i : Nat) v, ys[i]? = some v → xs[i]? = some v) : Sl w p ys := fun i v hv => h i v (hy i v hv)
theorem pre_get {xs rest : List Value} : ∀ j v, xs[j]? = some v → (xs ++ rest).toArray[0 + j]? = some v := fun j v h => by
  have := (List.getElem?_eq_some_iff.1 h).1
  simp [List.getElem?_append_left this, h]
theorem vbs_get' {l : List UInt8} : ∀ j v, (l.map vb)[j]? = some v → (vbs l)[0 + j]? = some v := fun j v h => by simpa [vbs] using h
theorem map_vb_get (l : List UInt8) (k : Nat) (h : k < l.length) : (l.map vb)[k]? = some (.int .u8 ((l.getD k 0).toNat : Int)) := by simp [vb, h]
theorem map_vb_one (l : List UInt8) : ∀ u ∈ l.map vb, u.oneCell' = true := by
  intro u hu
  obtain ⟨b, _, rfl⟩ := List.mem_map.1 hu
  rfl

def bs (L : List UInt8) : ByteArray := ⟨L.toArray⟩
theorem bs_size (L : List UInt8) : (bs L).size = L.length := by simp [bs, ByteArray.size]
theorem bs_toList (L : List UInt8) : (bs L).toList = L := ByteArray.toList_mk L
theorem bs_get (L : List UInt8) (k : Nat) (h : k < L.length) : (bs L)[k]? = some (L.getD k 0) := by
  rw [ByteArray.getElem?_lt' _ _ (by rw [bs_size]; exact h)]
  simp only [bs, List.getD_eq_getElem?_getD, List.getElem?_eq_getElem h, Option.getD_some]
  rfl

/-- what the program says of an element's type: its zero, its cells, its bytes -/
def Info (P : Program) (e : TypeId) (z : Value) (size bytes : Nat) : Prop := (P.info? e).map (fun i => (i.zero, i.size, i.bytes)) = some (some z, size, bytes)
theorem Info.get {P : Program} {e : TypeId} {z : Value} {size bytes : Nat} (h : Info P e z size bytes) : ∃ i, P.info? e = some i ∧ i.zero = some z ∧ i.size = size ∧ i.bytes = bytes := by
  unfold Info at h
  cases hq : P.info? e with
  | none => simp [hq] at h
  | some i => simp only [hq, Option.map_some, Option.some.injEq, Prod.mk.injEq] at h; exact ⟨i, rfl, h.1, h.2.1, h.2.2⟩

structure RowOk (size : Nat) (o : Option Nat) (n c : Nat) (xs rest : List Value) : Prop where
  len : xs.length = n * size
  room : xs.length + rest.length = c * size
  le : n ≤ c
  max : c ≤ maxLen
  nil : o = none → c = 0
theorem RowOk.empty {size n c : Nat} {o : Option Nat} {xs rest : List Value} (h : RowOk size o n c xs rest) (ho : o = none) : xs = [] := by
  have h1 := h.room
  rw [h.nil ho] at h1
  exact List.eq_nil_of_length_eq_zero (by omega)
theorem RowOk.empty' {size n c : Nat} {o : Option Nat} {xs rest : List Value} (h : RowOk size o n c xs rest) (hp : rowp o = none) : n = 0 ∧ c = 0 := by
  cases o with
  | none => have h1 := h.nil rfl; have h2 := h.le; omega
  | some g => cases hp
theorem RowOk.start (size : Nat) : RowOk size none 0 0 [] [] := ⟨by simp, by simp, Nat.le_refl _, by simp [maxLen], fun _ => rfl⟩

section
variable {P : Program} {n : Nat} {w0 : World} {M : List Nat} {l : List (Nat × Value)} {hs hs2 : List HB}
variable {d : Option Tmp} {ty : TypeId} {pos : String} {af : Array Edge} {gd : Option (Nat × Bool)}

theorem ex_load_sl {t : TypeId} {x : Operand} {p : Option Addr} {k : Nat} {xs : List Value} {v : Value} {dsc : TypeDesc} (hx : ev l x = some (ptv p k)) (hv : ∀ w, Hp w0 M hs w → Sl w p xs) (hk : xs[k]? = some v)
    (hu : P.underlying t = some dsc) (hd : (match dsc with | .struct _ | .array _ _ => true | _ => false) = false) : Ex P n w0 M l hs ⟨d, .load t x, ty, pos, af, gd⟩ v := fun a w ha hw => by
  obtain ⟨q, rfl, hc⟩ := hv w hw k v hk
  exact ex_load_old (p := q.add k) hx (fun w' hw' => by
    obtain ⟨q', hq, hc'⟩ := hv w' hw' k v hk
    obtain rfl := Option.some.inj hq
    exact hc') hu hd a w ha hw
theorem ex_addr_sl {t e : TypeId} {x y : Operand} {p : Option Addr} {m c k : Nat} {ki : IntKind} (hx : ev l x = some (slv p m c)) (hy : ev l y = some (.int ki (k : Int))) (hT : P.underlying t = some (.slice e)) (sz : Nat) (hz : (P.info? e).map (·.size) = some sz) (hk : k < m) (hp : p = none → m = 0) :
    Ex P n w0 M l hs ⟨d, .indexAddr t x y, ty, pos, af, gd⟩ (ptv p (k * sz)) := fun a w ha _ => by
  show Sem.run P (do pure (Next.value (← Instr.indexAt t (a.eval x) (a.eval y)))) w = _
  rw [ha.ev hx, ha.ev hy]
  refine run_v ?_
  cases p with
  | none => exact absurd (hp rfl) (by omega)
  | some q =>
    have hk' : (0 : Int) ≤ (k : Int) ∧ (k : Int) < (m : Int) := by omega
    unfold Instr.indexAt
    simp only [asIntOf, Sem.run_bind, Sem.run_pure, Result.andThen_ok, run_underlying hT w, slv]
    rw [if_pos hk']
    simp [Sem.run_bind, run_sizeOf hz w, ptv, off]
theorem ex_addr_sl1 {t e : TypeId} {x y : Operand} {p : Option Addr} {m c k : Nat} {ki : IntKind} (hx : ev l x = some (slv p m c)) (hy : ev l y = some (.int ki (k : Int))) (hT : P.underlying t = some (.slice e)) (hz : (P.info? e).map (·.size) = some 1) (hk : k < m) (hp : p = none → m = 0) :
    Ex P n w0 M l hs ⟨d, .indexAddr t x y, ty, pos, af, gd⟩ (ptv p k) := by
  have h := ex_addr_sl (n := n) (w0 := w0) (M := M) (hs := hs) (d := d) (ty := ty) (pos := pos) (af := af) (gd := gd) hx hy hT 1 hz hk hp
  simpa using h
theorem ex_addr_own {t e : TypeId} {x y : Operand} {g m c k : Nat} {ki : IntKind} (hx : ev l x = some (slv (some ⟨g, 0, none⟩) m c)) (hy : ev l y = some (.int ki (k : Int))) (hT : P.underlying t = some (.slice e)) (hz : (P.info? e).map (·.size) = some 1) (hk : k < m) :
    Ex P n w0 M l hs ⟨d, .indexAddr t x y, ty, pos, af, gd⟩ (.pointer (some ⟨g, k, none⟩)) := by
  have h := ex_addr_sl1 (n := n) (w0 := w0) (M := M) (hs := hs) (d := d) (ty := ty) (pos := pos) (af := af) (gd := gd) hx hy hT hz hk (fun h => nomatch h)
  simpa [ptv, off, add_plain'] using h

/-! slicing -/
theorem run_sl {t e : TypeId} (hT : P.underlying t = some (.slice e)) (sz : Nat) (hz : (P.info? e).map (·.size) = some sz) (p : Option Addr) (m c lo hi : Nat) (vl vh : Option Value)
    (hl : vl = some (.int .i64 (lo : Int)) ∨ vl = none ∧ lo = 0) (hh : vh = some (.int .i64 (hi : Int)) ∨ vh = none ∧ hi = m) (h1 : lo ≤ hi) (h2 : hi ≤ c) (w : World) :
    (Instr.sliceAt t (slv p m c) vl vh none).run P w = .ok (slv (cut p c lo sz) (hi - lo) (c - lo)) w := by
  have e1 : (if c = lo then p else p.map (·.add (lo * sz))) = cut p c lo sz := by
    unfold cut off
    rfl
  have b1 : (0 : Int) ≤ (lo : Int) ∧ (lo : Int) ≤ (hi : Int) := by omega
  have b2 : (0 : Int) ≤ (hi : Int) ∧ (hi : Int) ≤ (c : Int) := by omega
  rcases hl with rfl | ⟨rfl, rfl⟩ <;> rcases hh with rfl | ⟨rfl, rfl⟩ <;>
    simp [Instr.sliceAt, Instr.slice, slv, run_underlying hT w, Instr.sliceBounds, Instr.sliceBound, asIntOf, Sem.run_bind, run_sizeOf hz w, b1, b2, h1, h2] <;> simpa using e1
theorem cut_zero (p : Option Addr) (c sz : Nat) : cut p c 0 sz = p := by
  unfold cut off
  split
  · rfl
  · cases p <;> simp [Addr.add]
theorem ex_slice_lohi {t e : TypeId} {x lo hi : Operand} {p : Option Addr} {m c i j : Nat} (hx : ev l x = some (slv p m c)) (hl : ev l lo = some (.int .i64 (i : Int))) (hh : ev l hi = some (.int .i64 (j : Int))) (hT : P.underlying t = some (.slice e)) (sz : Nat) (hz : (P.info? e).map (·.size) = some sz)
    (h1 : i ≤ j) (h2 : j ≤ c) : Ex P n w0 M l hs ⟨d, .slice t x (some lo) (some hi) none, ty, pos, af, gd⟩ (slv (cut p c i sz) (j - i) (c - i)) := fun a w ha _ => by
  show Sem.run P (do pure (Next.value (← Instr.sliceAt t (a.eval x) (some (a.eval lo)) (some (a.eval hi)) none))) w = _
  rw [ha.ev hx, ha.ev hl, ha.ev hh]
  exact run_v (run_sl hT sz hz p m c i j _ _ (.inl rfl) (.inl rfl) h1 h2 w)
theorem ex_slice_lo {t e : TypeId} {x lo : Operand} {p : Option Addr} {m c i : Nat} (hx : ev l x = some (slv p m c)) (hl : ev l lo = some (.int .i64 (i : Int))) (hT : P.underlying t = some (.slice e)) (sz : Nat) (hz : (P.info? e).map (·.size) = some sz)
    (h1 : i ≤ m) (h2 : m ≤ c) : Ex P n w0 M l hs ⟨d, .slice t x (some lo) none none, ty, pos, af, gd⟩ (slv (cut p c i sz) (m - i) (c - i)) := fun a w ha _ => by
  show Sem.run P (do pure (Next.value (← Instr.sliceAt t (a.eval x) (some (a.eval lo)) none none))) w = _
  rw [ha.ev hx, ha.ev hl]
  exact run_v (run_sl hT sz hz p m c i m _ _ (.inl rfl) (.inr ⟨rfl, rfl⟩) h1 h2 w)
theorem ex_slice_hi {t e : TypeId} {x hi : Operand} {p : Option Addr} {m c j : Nat} (hx : ev l x = some (slv p m c)) (hh : ev l hi = some (.int .i64 (j : Int))) (hT : P.underlying t = some (.slice e)) (sz : Nat) (hz : (P.info? e).map (·.size) = some sz)
    (h2 : j ≤ c) : Ex P n w0 M l hs ⟨d, .slice t x none (some hi) none, ty, pos, af, gd⟩ (slv p j c) := fun a w ha _ => by
  show Sem.run P (do pure (Next.value (← Instr.sliceAt t (a.eval x) none (some (a.eval hi)) none))) w = _
  rw [ha.ev hx, ha.ev hh]
  have := run_sl hT sz hz p m c 0 j _ _ (.inr ⟨rfl, rfl⟩) (.inl rfl) (Nat.zero_le _) h2 w
  rw [cut_zero] at this
  exact run_v this
theorem run_sl_arr {t e : TypeId} {m : Nat} (hT : P.underlying t = some (.array m e)) (sz : Nat) (hz : (P.info? e).map (·.size) = some sz) (g o lo hi : Nat) (vl vh : Option Value)
    (hl : vl = some (.int .i64 (lo : Int)) ∨ vl = none ∧ lo = 0) (hh : vh = some (.int .i64 (hi : Int)) ∨ vh = none ∧ hi = m) (h1 : lo ≤ hi) (h2 : hi ≤ m) (w : World) :
    (Instr.sliceAt t (.pointer (some ⟨g, o, none⟩)) vl vh none).run P w = .ok (slv (cut (some ⟨g, o, none⟩) m lo sz) (hi - lo) (m - lo)) w := by
  have e1 : some (if m = lo then (⟨g, o, none⟩ : Addr) else (⟨g, o, none⟩ : Addr).add (lo * sz)) = cut (some ⟨g, o, none⟩) m lo sz := by
    unfold cut off
    split <;> rfl
  have b1 : (0 : Int) ≤ (lo : Int) ∧ (lo : Int) ≤ (hi : Int) := by omega
  have b2 : (0 : Int) ≤ (hi : Int) ∧ (hi : Int) ≤ (m : Int) := by omega
  rcases hl with rfl | ⟨rfl, rfl⟩ <;> rcases hh with rfl | ⟨rfl, rfl⟩ <;>
    simp [Instr.sliceAt, Instr.slice, slv, run_underlying hT w, Instr.sliceBounds, Instr.sliceBound, Instr.sureAddr, asIntOf, Sem.run_bind, run_sizeOf hz w, b1, b2, h1, h2] <;> simpa using e1
theorem ex_slice_arr {t e : TypeId} {x : Operand} {m g o : Nat} (hx : ev l x = some (.pointer (some ⟨g, o, none⟩))) (hT : P.underlying t = some (.array m e)) (sz : Nat) (hz : (P.info? e).map (·.size) = some sz) :
    Ex P n w0 M l hs ⟨d, .slice t x none none none, ty, pos, af, gd⟩ (slv (some ⟨g, o, none⟩) m m) := fun a w ha _ => by
  show Sem.run P (do pure (Next.value (← Instr.sliceAt t (a.eval x) none none none))) w = _
  rw [ha.ev hx]
  have := run_sl_arr hT sz hz g o 0 m _ _ (.inr ⟨rfl, rfl⟩) (.inr ⟨rfl, rfl⟩) (Nat.zero_le _) (Nat.le_refl _) w
  rw [cut_zero] at this
  exact run_v this
theorem ex_slice_arr_hi {t e : TypeId} {x hi : Operand} {m g o j : Nat} (hx : ev l x = some (.pointer (some ⟨g, o, none⟩))) (hh : ev l hi = some (.int .i64 (j : Int))) (hT : P.underlying t = some (.array m e)) (sz : Nat) (hz : (P.info? e).map (·.size) = some sz) (h2 : j ≤ m) :
    Ex P n w0 M l hs ⟨d, .slice t x none (some hi) none, ty, pos, af, gd⟩ (slv (some ⟨g, o, none⟩) j m) := fun a w ha _ => by
  show Sem.run P (do pure (Next.value (← Instr.sliceAt t (a.eval x) none (some (a.eval hi)) none))) w = _
  rw [ha.ev hx, ha.ev hh]
  have := run_sl_arr hT sz hz g o 0 j _ _ (.inr ⟨rfl, rfl⟩) (.inl rfl) (Nat.zero_le _) h2 w
  rw [cut_zero] at this
  exact run_v this
theorem ex_slice_arr_lo {t e : TypeId} {x lo : Operand} {m g o i : Nat} (hx : ev l x = some (.pointer (some ⟨g, o, none⟩))) (hl : ev l lo = some (.int .i64 (i : Int))) (hT : P.underlying t = some (.array m e)) (sz : Nat) (hz : (P.info? e).map (·.size) = some sz) (h1 : i ≤ m) :
    Ex P n w0 M l hs ⟨d, .slice t x (some lo) none none, ty, pos, af, gd⟩ (slv (cut (some ⟨g, o, none⟩) m i sz) (m - i) (m - i)) := fun a w ha _ => by
  show Sem.run P (do pure (Next.value (← Instr.sliceAt t (a.eval x) (some (a.eval lo)) none none))) w = _
  rw [ha.ev hx, ha.ev hl]
  exact run_v (run_sl_arr hT sz hz g o i m _ _ (.inl rfl) (.inr ⟨rfl, rfl⟩) h1 (Nat.le_refl _) w)
theorem ex_slice_arr_lohi {t e : TypeId} {x lo hi : Operand} {m g o i j : Nat} (hx : ev l x = some (.pointer (some ⟨g, o, none⟩))) (hl : ev l lo = some (.int .i64 (i : Int))) (hh : ev l hi = some (.int .i64 (j : Int))) (hT : P.underlying t = some (.array m e)) (sz : Nat) (hz : (P.info? e).map (·.size) = some sz) (h1 : i ≤ j) (h2 : j ≤ m) :
    Ex P n w0 M l hs ⟨d, .slice t x (some lo) (some hi) none, ty, pos, af, gd⟩ (slv (cut (some ⟨g, o, none⟩) m i sz) (j - i) (m - i)) := fun a w ha _ => by
  show Sem.run P (do pure (Next.value (← Instr.sliceAt t (a.eval x) (some (a.eval lo)) (some (a.eval hi)) none))) w = _
  rw [ha.ev hx, ha.ev hl, ha.ev hh]
  exact run_v (run_sl_arr hT sz hz g o i j _ _ (.inl rfl) (.inl rfl) h1 h2 w)

/-! strings -/
theorem bs_extract (L : List UInt8) (a b : Nat) : (bs L).extract a b = bs ((L.drop a).take (b - a)) := ByteArray.extract_mk L a b
theorem run_sl_str {t : TypeId} (hT : P.underlying t = some .string) (L : List UInt8) (lo hi : Nat) (vl vh : Option Value)
    (hl : vl = some (.int .i64 (lo : Int)) ∨ vl = none ∧ lo = 0) (hh : vh = some (.int .i64 (hi : Int)) ∨ vh = none ∧ hi = L.length) (h1 : lo ≤ hi) (h2 : hi ≤ L.length) (w : World) :
    (Instr.sliceAt t (.string (bs L)) vl vh none).run P w = .ok (.string (bs ((L.drop lo).take (hi - lo)))) w := by
  have b1 : (0 : Int) ≤ (lo : Int) ∧ (lo : Int) ≤ (hi : Int) := by omega
  have b2 : (0 : Int) ≤ (hi : Int) ∧ (hi : Int) ≤ (L.length : Int) := by omega
  rcases hl with rfl | ⟨rfl, rfl⟩ <;> rcases hh with rfl | ⟨rfl, rfl⟩ <;>
    simp [Instr.sliceAt, Instr.slice, run_underlying hT w, Instr.sliceBounds, Instr.sliceBound, asIntOf, Sem.run_bind, bs_size, bs_extract, b1, b2, h1, h2]
theorem ex_str_lohi {t : TypeId} {x lo hi : Operand} {L : List UInt8} {i j : Nat} (hx : ev l x = some (.string (bs L))) (hl : ev l lo = some (.int .i64 (i : Int))) (hh : ev l hi = some (.int .i64 (j : Int))) (hT : P.underlying t = some .string)
    (h1 : i ≤ j) (h2 : j ≤ L.length) : Ex P n w0 M l hs ⟨d, .slice t x (some lo) (some hi) none, ty, pos, af, gd⟩ (.string (bs ((L.drop i).take (j - i)))) := fun a w ha _ => by
  show Sem.run P (do pure (Next.value (← Instr.sliceAt t (a.eval x) (some (a.eval lo)) (some (a.eval hi)) none))) w = _
  rw [ha.ev hx, ha.ev hl, ha.ev hh]
  exact run_v (run_sl_str hT L i j _ _ (.inl rfl) (.inl rfl) h1 h2 w)
theorem ex_str_lo {t : TypeId} {x lo : Operand} {L : List UInt8} {i : Nat} (hx : ev l x = some (.string (bs L))) (hl : ev l lo = some (.int .i64 (i : Int))) (hT : P.underlying t = some .string)
    (h1 : i ≤ L.length) : Ex P n w0 M l hs ⟨d, .slice t x (some lo) none none, ty, pos, af, gd⟩ (.string (bs (L.drop i))) := fun a w ha _ => by
  show Sem.run P (do pure (Next.value (← Instr.sliceAt t (a.eval x) (some (a.eval lo)) none none))) w = _
  rw [ha.ev hx, ha.ev hl]
  have := run_sl_str hT L i L.length _ _ (.inl rfl) (.inr ⟨rfl, rfl⟩) h1 (Nat.le_refl _) w
  rw [List.take_of_length_le (by simp)] at this
  exact run_v this
theorem ex_str_hi {t : TypeId} {x hi : Operand} {L : List UInt8} {j : Nat} (hx : ev l x = some (.string (bs L))) (hh : ev l hi = some (.int .i64 (j : Int))) (hT : P.underlying t = some .string)
    (h2 : j ≤ L.length) : Ex P n w0 M l hs ⟨d, .slice t x none (some hi) none, ty, pos, af, gd⟩ (.string (bs (L.take j))) := fun a w ha _ => by
  show Sem.run P (do pure (Next.value (← Instr.sliceAt t (a.eval x) none (some (a.eval hi)) none))) w = _
  rw [ha.ev hx, ha.ev hh]
  have := run_sl_str hT L 0 j _ _ (.inr ⟨rfl, rfl⟩) (.inl rfl) (Nat.zero_le _) h2 w
  simp only [List.drop_zero, Nat.sub_zero] at this
  exact run_v this
theorem ex_index_str {t : TypeId} {x y : Operand} {L : List UInt8} {ki : IntKind} {k : Nat} (hx : ev l x = some (.string (bs L))) (hy : ev l y = some (.int ki (k : Int))) (hT : P.underlying t = some .string) (hk : k < L.length) :
    Ex P n w0 M l hs ⟨d, .index t x y, ty, pos, af, gd⟩ (.int .u8 ((L.getD k 0).toNat : Int)) := fun a w ha _ => by
  show Sem.run P (do pure (Next.value (← Instr.index t (a.eval x) (a.eval y)))) w = _
  rw [ha.ev hx, ha.ev hy]
  refine run_v ?_
  have h0 : (0 : Int) ≤ (k : Int) := by omega
  simp only [Instr.index, asIntOf, Sem.run_bind, Sem.run_pure, Result.andThen_ok, run_underlying hT w, if_pos h0, Int.toNat_natCast, bs_get L k hk]
theorem ex_len_str {x : Operand} {t : TypeId} {L : List UInt8} (hx : ev l x = some (.string (bs L))) (hT : P.underlying t = some .string) :
    Ex P n w0 M l hs ⟨d, .call { callee := .builtin .len, args := #[x], argTypes := #[t] }, ty, pos, af, gd⟩ (.int .i64 (L.length : Int)) := by
  have h := ex_len_string (P := P) (n := n) (w0 := w0) (M := M) (l := l) (hs := hs) (d := d) (ty := ty) (pos := pos) (af := af) (gd := gd) hx hT
  simpa [bs_size, goInt] using h
theorem ex_cat {x y : Operand} {t t2 : TypeId} {L K : List UInt8} (hx : ev l x = some (.string (bs L))) (hy : ev l y = some (.string (bs K))) (hb : L.length + K.length ≤ 9223372036854775807) :
    Ex P n w0 M l hs ⟨d, .binOp .add t x y t2, ty, pos, af, gd⟩ (.string (bs (L ++ K))) :=
  ex_bin hx hy (fun w => rfl) fun w => by
    rw [binOp_string_add, run_string_add_sum _ _ _ (by rw [bs_size, bs_size]; exact hb)]
    congr 2
theorem ex_eql_str {x y : Operand} {t t2 : TypeId} {L K : List UInt8} {b : Bool} (hx : ev l x = some (.string (bs L))) (hy : ev l y = some (.string (bs K))) (hb : (L == K) = b) :
    Ex P n w0 M l hs ⟨d, .binOp .eql t x y t2, ty, pos, af, gd⟩ (.bool b) :=
  ex_bin hx hy (fun w => rfl) fun w => by rw [binOp_string_eql, bs_toList, bs_toList, hb]; rfl
theorem ex_neq_str {x y : Operand} {t t2 : TypeId} {L K : List UInt8} {b : Bool} (hx : ev l x = some (.string (bs L))) (hy : ev l y = some (.string (bs K))) (hb : (!(L == K)) = b) :
    Ex P n w0 M l hs ⟨d, .binOp .neq t x y t2, ty, pos, af, gd⟩ (.bool b) :=
  ex_bin hx hy (fun w => rfl) fun w => by rw [binOp_string_neq, bs_toList, bs_toList, hb]; rfl

theorem loadCells_sl {w : World} {q : Addr} {xs : List Value} (h : Sl w (some q) xs) : (loadCells q xs.length).run P w = .ok xs.toArray w :=
  run_loadCells_list w q xs fun j v hv => by
    obtain ⟨q', hq, hc⟩ := h j v hv
    obtain rfl := Option.some.inj hq
    exact hc
theorem ex_conv_bytes {src dst e : TypeId} {x : Operand} {p : Option Addr} {m c : Nat} {L : List UInt8} (hx : ev l x = some (slv p m c)) (hv : ∀ w, Hp w0 M hs w → Sl w p (L.map vb)) (hL : L.length = m)
    (h1 : P.underlying src = some (.slice e)) (h2 : P.underlying e = some (.int .u8)) (h3 : P.underlying dst = some .string) :
    Ex P n w0 M l hs ⟨d, .convert src dst x, ty, pos, af, gd⟩ (.string (bs L)) := fun a w ha hw => by
  show Sem.run P (do pure (Next.value (← convert src dst (a.eval x)))) w = _
  rw [ha.ev hx]
  refine run_v ?_
  rw [slv, run_convert_bytes_string w src dst e _ _ _ h1 h2 h3]
  have hs := hv w hw
  cases p with
  | none =>
    cases L with
    | nil => simp [Conv.bytesToString, bs]; rfl
    | cons b L => obtain ⟨q, hq, _⟩ := hs 0 (vb b) rfl; cases hq
  | some q =>
    have hc := loadCells_sl (P := P) hs
    simp only [List.length_map, hL] at hc
    have e : (L.map vb) = (L.map fun b => (b.toNat : Int)).map (Value.int .u8) := by simp [vb]
    rw [e] at hc
    show (Conv.bytesToString (.slice (some q) m c)).run P w = _
    rw [run_bytesToString w _ m c _ hc]
    congr 2
    have hpush : ∀ (K : List UInt8) (s : List UInt8), (K.map fun b => (b.toNat : Int)).foldl (fun r n => r.push (UInt8.ofNat n.toNat)) (bs s) = bs (s ++ K) := by
      intro K
      induction K with
      | nil => intro s; simp
      | cons b K ih =>
        intro s
        have e2 : (bs s).push b = bs (s ++ [b]) := by simp [bs, ByteArray.push]
        simp only [List.map_cons, List.foldl_cons, Int.toNat_natCast, UInt8.ofNat_toNat, e2, ih, List.append_assoc, List.cons_append, List.nil_append]
    exact hpush L []
theorem ex_conv_int {src dst : TypeId} {x : Operand} {k k2 : IntKind} {p r : Int} {dsc : TypeDesc} (hx : ev l x = some (.int k p)) (h1 : P.underlying src = some dsc) (h2 : P.underlying dst = some (.int k2)) (hr : k2.wrap p = r) :
    Ex P n w0 M l hs ⟨d, .convert src dst x, ty, pos, af, gd⟩ (.int k2 r) := fun a w ha hw => by
  show Sem.run P (do pure (Next.value (← convert src dst (a.eval x)))) w = _
  rw [ha.ev hx]
  refine run_v ?_
  subst hr
  simp [convert, run_underlying h1 w, run_underlying h2 w, Conv.intToInt, Sem.run_bind]

/-! making and growing -/
theorem Hp.nilBlock {w : World} (h : Hp w0 M hs w) (t : TypeId) : Hp w0 M (⟨none, ([] ++ [] : List Value).toArray, t, (0, 0)⟩ :: hs) w :=
  ⟨h.os, h.tape, h.output, h.size, h.block, fun x hx g hg => by
      rcases List.mem_cons.1 hx with rfl | hx
      · cases hg
      · exact h.own x hx g hg, fun x hx g hg => by
      rcases List.mem_cons.1 hx with rfl | hx
      · cases hg
      · exact h.new x hx g hg, .cons (fun x hx g hg => by cases hg) h.dis⟩
theorem ho_nil_block {Q : Exit → Act → World → Prop} {ops : Array Oper} {rest : List Oper} (t : TypeId) (h : HO P n w0 M Q ops rest l (⟨none, ([] ++ [] : List Value).toArray, t, (0, 0)⟩ :: hs)) : HO P n w0 M Q ops rest l hs := fun a w ha hw => h a w ha (hw.nilBlock t)
theorem ha_nil_block {Q : Exit → Act → World → Prop} {ops : Array Oper} {S : List HB} {fuel : Nat} {listed : Array Bool} (t : TypeId) (h : HA P n w0 M Q ops S fuel listed l (⟨none, ([] ++ [] : List Value).toArray, t, (0, 0)⟩ :: hs)) : HA P n w0 M Q ops S fuel listed l hs := fun a w ha hw hS => h a w ha (hw.nilBlock t) hS
theorem hl_nil_block {Q : Exit → Act → World → Prop} {c : Code} (t : TypeId) (h : HL P n w0 M Q c l (⟨none, ([] ++ [] : List Value).toArray, t, (0, 0)⟩ :: hs)) : HL P n w0 M Q c l hs := fun a w ha hw => h a w ha (hw.nilBlock t)
theorem RowOk.made {g c : Nat} (hc : c ≤ maxLen) : RowOk 1 (some g) 0 c [] ((List.replicate c 0).map vb) := ⟨by simp, by simp, Nat.zero_le _, hc, fun h => nomatch h⟩
theorem exw_append0 {s x : Operand} {t e : TypeId} {o : Option Nat} {m c k c2 : Nat} {p : Option Addr} {xs rest news : List Value} {z : Value} {size bytes : Nat} {cs : Array Value}
    (hs1 : ev l s = some (rowv o m c)) (hx : ev l x = some (slv p k c2)) (hcs : cs = (xs ++ rest).toArray) (hok : RowOk size o m c xs rest) (hn : ∀ w, Hp w0 M (⟨o, cs, e, (0, 0)⟩ :: hs2) w → Sl w p news) (hl : news.length = k * size)
    (h1 : ∀ u ∈ news, u.oneCell' = true) (ht : P.underlying t = some (.slice e)) (hI : Info P e z size bytes) (hzs : z.cells.size = size) (hpos : 0 < size)
    (hb : (m + k) * bytes ≤ 140737488355328) (hmax : m + k ≤ maxLen) (hne : p = none → k = 0 ∧ c2 = 0) :
    ExW P n w0 M l (⟨o, cs, e, (0, 0)⟩ :: hs2) ⟨d, .call { callee := .builtin .append, args := #[s, x], argTypes := #[t, t] }, ty, pos, af, gd⟩ (fun y : Option Nat × Nat × List Value => rowv y.1 (m + k) y.2.1)
      (fun y => ⟨y.1, ((xs ++ news) ++ y.2.2).toArray, e, (0, 0)⟩ :: hs2) (fun y => RowOk size y.1 (m + k) y.2.1 (xs ++ news) y.2.2) := fun a w ha hw next Q kk => by
  obtain ⟨i, hi, hz, hsz, hby⟩ := hI.get
  subst hcs
  have hsl := hn w hw
  -- the row as the kit sees it
  have hbase : w0.heap.size ≤ w.heap.size := hw.size
  have hown : w.ownsRow 0 e size (rowv o m c) m xs := by
    refine ⟨hok.len, ?_⟩
    cases o with
    | none =>
      have hc := hok.nil rfl
      have hm : m = 0 := by have := hok.le; omega
      subst hc; subst hm
      exact .inl ⟨rfl, rfl⟩
    | some g =>
      refine .inr ⟨g, c, (xs ++ rest).toArray, rfl, Nat.zero_le _, hw.own ⟨some g, (xs ++ rest).toArray, e, (0, 0)⟩ (by simp) g rfl, hok.le, hok.max, by simpa using hok.room, ?_⟩
      simp [← hok.len]
  have main : ∃ v' w', (Builtin.append_ #[t, t] ty #[rowv o m c, slv p k c2]).run P w = .ok v' w' ∧ w'.ownsRow 0 e size v' (m + k) (xs ++ news) ∧ w.grownBy w' (rowv o m c).ownBlock ∧
      (∀ g, v'.ownBlock = some g → w.heap.size ≤ g ∨ (rowv o m c).ownBlock = some g) := by
    cases p with
    | none =>
      obtain ⟨rfl, rfl⟩ := hne rfl
      have : news = [] := List.eq_nil_of_length_eq_zero (by simpa using hl)
      subst this
      refine ⟨_, w, run_append_owned_none w 0 t ty e i size ht hi _ m xs hown, by simpa using hown, ⟨rfl, rfl, rfl, Nat.le_refl _, fun _ _ _ => rfl⟩, fun g hg => .inr hg⟩
    | some q =>
      have hnews : ∀ j u, news[j]? = some u → w.cell? (q.add j) = some u := fun j u hu => by
        obtain ⟨q', hq, hc⟩ := hsl j u hu
        obtain rfl := Option.some.inj hq
        exact hc
      by_cases hroom : ∃ g, o = some g ∧ m + k ≤ c
      · obtain ⟨g, rfl, hr⟩ := hroom
        obtain ⟨w', r1, r2, r3⟩ := run_append_fits (P := P) w 0 t ty e i size ht hi hsz g m c xs hown q k c2 news hl hnews h1 hr
        exact ⟨_, w', r1, r2, r3, fun g' hg => .inr hg⟩
      · obtain ⟨v', w', r1, r2, r3, r4⟩ := run_append_own (P := P) w w.heap.size t ty e i z size bytes ht hi hz hsz hby hzs hpos (rowv none 0 0) 0 [] ⟨by simp, .inl ⟨rfl, rfl⟩⟩ q 0 0 [] (by simp) (by simp) (by simp) (by simp [maxLen]) (by omega) (Nat.le_refl _)
        clear r1 r2 r3 r4 v' w'
        -- grows (or stays nil)
        cases o with
        | none =>
          have hc := hok.nil rfl
          have hm : m = 0 := by have := hok.le; omega
          subst hc; subst hm
          have hxs : xs = [] := List.eq_nil_of_length_eq_zero (by simpa using hok.len)
          subst hxs
          obtain ⟨v', w', r1, r2, r3, r4⟩ := run_append_own (P := P) w w.heap.size t ty e i z size bytes ht hi hz hsz hby hzs hpos (rowv none 0 0) 0 [] ⟨by simp, .inl ⟨rfl, rfl⟩⟩ q k c2 news hl hnews h1 hmax hb (Nat.le_refl _)
          refine ⟨v', w', r1, ?_, r3, fun g hg => .inl (r2.lt g hg).1⟩
          refine ⟨r2.1, ?_⟩
          rcases r2.2 with r | ⟨g', cap', cur', e1, e2, e3⟩
          · exact .inl r
          · exact .inr ⟨g', cap', cur', e1, Nat.zero_le _, e3⟩
        | some g =>
          have hr : ¬ m + k ≤ c := fun h => hroom ⟨g, rfl, h⟩
          obtain ⟨v', w', r1, r2, r3, r4⟩ := run_append_own (P := P) w 0 t ty e i z size bytes ht hi hz hsz hby hzs hpos (rowv (some g) m c) m xs hown q k c2 news hl hnews h1 hmax hb (Nat.zero_le _)
          have holds : ∀ j u, xs[j]? = some u → w.cell? ((⟨g, 0, none⟩ : Addr).add j) = some u := hown.cells (g := g) rfl
          have hg2 := run_append_grow (P := P) w t ty e i z ht hi hz ⟨g, 0, none⟩ m c xs (by rw [hsz]; exact hown.1) holds q k c2 news (by rw [hsz]; exact hl) hnews (by omega) (by simp only [maxLen] at hmax; omega) (growslice_fits (by omega) (by rw [hby]; exact hb))
          have he := r1.symm.trans hg2
          injection he with he1 he2
          refine ⟨v', w', r1, r2, r3, fun g' hg' => .inl ?_⟩
          rw [he1] at hg'
          simp only [Value.ownBlock, Option.some.injEq] at hg'
          omega
  obtain ⟨v', w', r1, r2, r3, r4⟩ := main
  unfold Oper.wp execOp
  simp only [resolve, invoke, builtin, Sem.run_bind, Sem.run_pure, Result.andThen_ok, List.map_toArray, List.map_cons, List.map_nil, ha.ev hs1, ha.ev hx, r1, Oper.upon_value]
  -- what it left
  have mk : ∃ y : Option Nat × Nat × List Value, RowOk size y.1 (m + k) y.2.1 (xs ++ news) y.2.2 ∧ v' = rowv y.1 (m + k) y.2.1 ∧ Hp w0 M (⟨y.1, ((xs ++ news) ++ y.2.2).toArray, e, (0, 0)⟩ :: hs2) w' := by
    have hd := hw.dis
    rw [List.pairwise_cons] at hd
    have ho : (rowv o m c).ownBlock = o := by cases o <;> rfl
    rw [ho] at r3 r4
    have hnew : ∀ g, o = some g → w0.heap.size ≤ g ∨ g ∈ M := fun g hg => hw.new ⟨o, (xs ++ rest).toArray, e, (0, 0)⟩ (by simp) g hg
    have hblock : ∀ k, k < w0.heap.size → k ∉ M → w'.heap[k]? = w0.heap[k]? := fun k hk hm => by
      rw [r3.block k (Nat.lt_of_lt_of_le hk hw.size) (fun e => by
        rcases hnew k e.symm with h | h
        · omega
        · exact hm h)]
      exact hw.block k hk hm
    have hown2 : ∀ x ∈ hs2, ∀ g, x.g = some g → w'.heap[g]? = some (.cells x.cs x.t x.fr) := fun x hx g hg => by
      rw [r3.block g (hw.lt (by simp [hx]) hg) (fun e => hd.1 x hx g e.symm hg)]
      exact hw.own x (by simp [hx]) g hg
    rcases r2.2 with ⟨hv, hmk⟩ | ⟨g, cap, cur, hv, _, hcell, hle, hcm, hcs, htake⟩
    · refine ⟨(none, 0, []), ⟨r2.1, ?_, by omega, by simp [maxLen], fun _ => rfl⟩, by rw [hv, hmk]; rfl, ?_⟩
      · have := r2.1; rw [hmk] at this; simp at this; simp [this]
      · refine ⟨r3.os.trans hw.os, r3.tape.trans hw.tape, r3.output.trans hw.output, Nat.le_trans hw.size r3.size, hblock, fun x hx g hg => ?_, fun x hx g hg => ?_, .cons (fun x hx g hg => by cases hg) hd.2⟩
        · rcases List.mem_cons.1 hx with rfl | hx
          · cases hg
          · exact hown2 x hx g hg
        · rcases List.mem_cons.1 hx with rfl | hx
          · cases hg
          · exact hw.new x (by simp [hx]) g hg
    · have hcur : cur = ((xs ++ news) ++ cur.toList.drop ((m + k) * size)).toArray := by
        apply Array.ext'
        rw [← htake]; simp
      refine ⟨(some g, cap, cur.toList.drop ((m + k) * size)), ⟨r2.1, ?_, hle, hcm, fun h => nomatch h⟩, by rw [hv]; rfl, ?_⟩
      · have hlen := r2.1
        have : (m + k) * size ≤ cap * size := Nat.mul_le_mul_right _ hle
        simp only [List.length_append, List.length_drop, Array.length_toList, hcs] at hlen ⊢
        omega
      · have hg' := r4 g (by rw [hv]; rfl)
        refine ⟨r3.os.trans hw.os, r3.tape.trans hw.tape, r3.output.trans hw.output, Nat.le_trans hw.size r3.size, hblock, fun x hx g' hg2 => ?_, fun x hx g' hg2 => ?_, .cons (fun x hx g' hg2 hxg => ?_) hd.2⟩
        · rcases List.mem_cons.1 hx with rfl | hx
          · obtain rfl := Option.some.inj hg2
            show _ = some (Obj.cells ((xs ++ news) ++ cur.toList.drop ((m + k) * size)).toArray e (0, 0))
            rw [← hcur]; exact hcell
          · exact hown2 x hx g' hg2
        · rcases List.mem_cons.1 hx with rfl | hx
          · obtain rfl := Option.some.inj hg2
            rcases hg' with h | h
            · exact .inl (Nat.le_trans hw.size h)
            · exact hnew g h
          · exact hw.new x (by simp [hx]) g' hg2
        · obtain rfl := Option.some.inj hg2
          rcases hg' with h | h
          · have := hw.lt (x := x) (by simp [hx]) hxg
            omega
          · exact hd.1 x hx g h hxg
  obtain ⟨y, h1', h2', h3'⟩ := mk
  rw [h2']
  exact kk y w' h1' h3'

theorem exw_make {t e : TypeId} {x y : Operand} {m c : Nat} {z : Value} {size bytes : Nat} (hx : ev l x = some (.int .i64 (m : Int))) (hy : ev l y = some (.int .i64 (c : Int))) (ht : P.underlying t = some (.slice e)) (hI : Info P e z size bytes)
    (hmc : m ≤ c) (hb : bytes * c ≤ 281474976710656) (hc : c ≤ 9223372036854775807) {cs : Array Value} (hcs : madeCells z.cells (c * size) = cs) :
    ExW P n w0 M l hs ⟨d, .makeSlice t x y, ty, pos, af, gd⟩ (fun g : Nat => slv (some ⟨g, 0, none⟩) m c) (fun g => ⟨some g, cs, e, (0, 0)⟩ :: hs) (fun g => w0.heap.size ≤ g) := exw_new fun a w ha hw => by
  obtain ⟨i, hi, hz, hsz, hby⟩ := hI.get
  refine ⟨w.heap.size, _, hw.size, hw.alloc cs e (0, 0), ?_⟩
  show Sem.run P (do pure (Next.value (← Instr.makeSlice t (a.eval x) (a.eval y)))) w = _
  rw [ha.ev hx, ha.ev hy]
  subst hsz; subst hby; subst hcs
  have h := run_make (P := P) w t e i z ht hi hz .i64 .i64 (m : Int) (c : Int) (by omega) (by omega) (by rw [← Int.natCast_mul]; omega) (by omega)
  simp only [Int.toNat_natCast] at h
  exact run_v h
theorem made_one (z : Value) (k : Nat) : madeCells #[z] k = (List.replicate k z).toArray := by
  apply Array.ext'
  apply List.ext_getElem
  · simp [madeCells]
  · intro i h1 h2
    simp [madeCells, Nat.mod_one]
theorem made_bytes (k : Nat) : madeCells (Value.int .u8 0).cells (k * 1) = vbs (List.replicate k 0) := by
  show madeCells #[Value.int .u8 0] (k * 1) = _
  rw [made_one, Nat.mul_one]
  simp [vbs, vb]

/-! lists of elements -/
theorem fill_seq : ∀ (vs : List Value) (cs : List Value) (k : Nat), (∀ v ∈ vs, v.cells = #[v]) → k + vs.length ≤ cs.length →
    Instr.fill (fun i => some (i * 1, 1)) cs.toArray ((vs.zipIdx k).map fun q => (q.2, q.1)) = some (cs.take k ++ vs ++ cs.drop (k + vs.length)).toArray
  | [], cs, k, _, _ => by simp [Instr.fill]
  | v :: vs, cs, k, h1, h2 => by
    have hv := h1 v (by simp)
    simp only [List.length_cons] at h2
    have hk : k < cs.length := by omega
    simp only [List.zipIdx_cons, List.map_cons, Instr.fill, hv, Nat.mul_one]
    rw [if_neg (by simp; omega)]
    have e : (#[v].zipIdx.foldl (fun cs q => cs.setIfInBounds (k + q.2) q.1) cs.toArray) = (cs.set k v).toArray := by simp
    have e' : (#[v].zipIdx.foldl (fun (cs : Array Value) (x : Value × Nat) => match x with | (c, j) => cs.setIfInBounds (k + j) c) cs.toArray) = (cs.set k v).toArray := by simp
    rw [e']
    have ih := fill_seq vs (cs.set k v) (k + 1) (fun u hu => h1 u (by simp [hu])) (by simp; omega)
    simp only [Nat.mul_one] at ih
    rw [ih]
    congr 2
    rw [List.take_set, List.drop_set_of_lt (by omega)]
    have e2 : List.take (k + 1) cs = List.take k cs ++ [cs[k]] := (List.take_append_getElem hk).symm
    rw [e2, List.set_append_right _ _ (by simp; omega)]
    simp [Nat.min_eq_left (Nat.le_of_lt hk), Nat.add_assoc, Nat.add_comm 1]
theorem evs_map {ρ : Operand → Value} : ∀ {xs : List Operand} {vs : List Value} (k : Nat), xs.map ρ = vs → ((xs.zipIdx k).map fun q => (q.2, q.1)).map (fun q : Nat × Operand => (q.1, ρ q.2)) = (vs.zipIdx k).map fun q => (q.2, q.1)
  | [], _, k, h => by subst h; simp
  | x :: xs, vs, k, h => by
    subst h
    simp only [List.map_cons, List.zipIdx_cons, List.cons.injEq, true_and]
    exact evs_map (k + 1) rfl
theorem run_list {t e : TypeId} {vs : List Value} {k : Nat} {i : TypeInfo} {z : Value} (parts : Array (Nat × Value)) (hL : parts.toList = (vs.zipIdx 0).map fun q => (q.2, q.1)) (hk : vs.length = k)
    (ht : P.underlying t = some (.slice e)) (hi : P.info? e = some i) (hz : i.zero = some z) (hsz : i.size = 1) (hzs : z.cells.size = 1) (h1 : ∀ v ∈ vs, v.cells = #[v]) (hk24 : k ≤ 16777216) (w : World) :
    (Instr.buildSlice t k parts).run P w = .ok (slv (some ⟨w.heap.size, 0, none⟩) k k) (w.alloc (.cells vs.toArray e)) := by
  have hf : ∀ cs : Array Value, cs.size = k → Instr.fill (fun i => some (i * 1, 1)) cs ((vs.zipIdx 0).map fun q => (q.2, q.1)) = some vs.toArray := fun cs hcs => by
    have := fill_seq vs cs.toList 0 h1 (by simp; omega)
    have hd : List.drop (0 + vs.length) cs.toList = [] := List.drop_of_length_le (by simp; omega)
    rw [hd] at this
    simpa using this
  by_cases hk0 : k = 0
  · have := hf ((Array.range 0).map fun _ => default) (by simp [hk0])
    simp only [Nat.mul_one] at this
    simp [Instr.buildSlice, run_underlying ht w, Sem.run_bind, sizeOf, typeInfo, hi, hsz, hk0, hL, newRow, this]
    rfl
  · have := hf ((Array.range k).map (z.cells[· % z.cells.size]!)) (by simp)
    simp only [Nat.mul_one] at this
    have h24 : ¬ (16777216 < k) := by omega
    simp [Instr.buildSlice, run_underlying ht w, Sem.run_bind, sizeOf, typeInfo, zeroValue, hi, hz, hsz, hk0, h24, hL, newRow, this]
    rfl
theorem cells_of_one {v : Value} (h : v.oneCell' = true) : v.cells = #[v] := by
  cases v <;> first | rfl | (exact absurd h (by simp [Value.oneCell']))
theorem cells_of_all {vs : List Value} (h : vs.all (·.oneCell') = true) : ∀ v ∈ vs, v.cells = #[v] := fun v hv => cells_of_one (List.all_eq_true.1 h v hv)
theorem exw_list {t e : TypeId} {xs : List Operand} {vs : List Value} {k : Nat} {parts : Array (Nat × Operand)} {z : Value} {bytes : Nat} (hx : evs l xs = some vs) (hp : parts = ((xs.zipIdx 0).map fun q => (q.2, q.1)).toArray) (hk : vs.length = k)
    (ht : P.underlying t = some (.slice e)) (hI : Info P e z 1 bytes) (hzs : z.cells.size = 1) (h1 : vs.all (·.oneCell') = true) (hk24 : k ≤ 16777216) :
    ExW P n w0 M l hs ⟨d, .buildSlice t k parts, ty, pos, af, gd⟩ (fun g : Nat => slv (some ⟨g, 0, none⟩) k k) (fun g => ⟨some g, vs.toArray, e, (0, 0)⟩ :: hs) (fun g => w0.heap.size ≤ g) := exw_new fun a w ha hw => by
  obtain ⟨i, hi, hz, hsz, hby⟩ := hI.get
  refine ⟨w.heap.size, _, hw.size, hw.alloc vs.toArray e (0, 0), ?_⟩
  show Sem.run P (do pure (Next.value (← Instr.buildSlice t k (parts.map fun (i, x) => (i, a.eval x))))) w = _
  refine run_v (run_list _ ?_ hk ht hi hz hsz hzs (cells_of_all h1) hk24 w)
  subst hp
  have hm := evs_map (ρ := a.eval) 0 (ha.evs hx)
  simpa using hm

/-! copying -/
theorem goInt_nat (k : Nat) (h : k ≤ 9223372036854775807) : goInt k = .int .i64 (k : Int) := rfl
theorem exw_copy0 {x y : Operand} {dT sT e et : TypeId} {g o m c k c2 : Nat} {p : Option Addr} {cs : Array Value} {news : List Value} (hx : ev l x = some (slv (some ⟨g, o, none⟩) m c)) (hy : ev l y = some (slv p k c2)) (hn : ∀ w, Hp w0 M (⟨some g, cs, et, (0, 0)⟩ :: hs2) w → Sl w p news) (hl : news.length = Nat.min k m)
    (h1 : ∀ u ∈ news, u.oneCell' = true) (ht : P.underlying dT = some (.slice e)) (hz : (P.info? e).map (·.size) = some 1) (hfit : o + news.length ≤ cs.size) (hne : p = none → k = 0 ∧ c2 = 0) {nk : Nat} (hnk : news.length = nk) {cs' : Array Value} (hcs : (cs.toList.take o ++ news ++ cs.toList.drop (o + news.length)).toArray = cs') :
    ExW P n w0 M l (⟨some g, cs, et, (0, 0)⟩ :: hs2) ⟨d, .call { callee := .builtin .copy, args := #[x, y], argTypes := #[dT, sT] }, ty, pos, af, gd⟩ (fun _ : Unit => .int .i64 (nk : Int))
      (fun _ => ⟨some g, cs', et, (0, 0)⟩ :: hs2) (fun _ => True) := fun a w ha hw next Q kk => by
  subst hnk; subst hcs
  have hg : w.heap[g]? = some (.cells cs et (0, 0)) := hw.own ⟨some g, cs, et, (0, 0)⟩ (by simp) g rfl
  have hr : (Builtin.copy_ #[dT, sT] ty #[slv (some ⟨g, o, none⟩) m c, slv p k c2]).run P w = .ok (goInt news.length) (w.setRow g (cs.toList.take o ++ news ++ cs.toList.drop (o + news.length)).toArray) := by
    cases p with
    | none =>
      obtain ⟨rfl, rfl⟩ := hne rfl
      have : news = [] := List.eq_nil_of_length_eq_zero (by rw [hl]; exact Nat.zero_min m)
      subst this
      have hs := run_copy_nil (P := P) w dT sT ty e ⟨g, o, none⟩ m c ht (by rw [hz]; rfl)
      refine (show _ = _ from hs).trans ?_
      simp only [List.length_nil, List.append_nil, Nat.add_zero, List.take_append_drop, Array.toArray_toList]
      rw [setRow_self w g cs et (0, 0) hg]
      rfl
    | some q =>
      exact run_copy_row P w dT sT ty e g o m c q k c2 cs et news ht hz hg hl (fun j v hv => by
        obtain ⟨q', hq, hc⟩ := hn w hw j v hv
        obtain rfl := Option.some.inj hq
        exact hc) hfit h1
  unfold Oper.wp execOp
  simp only [resolve, invoke, builtin, Sem.run_bind, Sem.run_pure, Result.andThen_ok, List.map_toArray, List.map_cons, List.map_nil, ha.ev hx, ha.ev hy, hr, Oper.upon_value]
  exact kk () _ trivial (hw.setRow (hs1 := []) (x := ⟨some g, cs, et, (0, 0)⟩) rfl _)
end
end Go.Proofs.Ytdmagjelmhcemaa
