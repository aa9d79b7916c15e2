/- Arrays of bytes and of words as Go values: reading an element, comparing two arrays, storing an element. Nothing of a program. -/
import Derived.WalkKit
import Derived.WalkSpells
import Derived.WalkLawsBesides
import Derived.Deep.WholeRow
import Derived.Deep.MidRow
namespace Go.Proofs.Ytdmagjelmhcemaa
open Go.RowKit

/-- a byte as a Go value -/
def vb (b : UInt8) : Value := .int .u8 (b.toNat : Int)
/-- a word of 32 bits as a Go value -/
def vw (b : UInt32) : Value := .int .u32 (b.toNat : Int)
/-- a list of bytes as the cells of an array -/
def vbs (l : List UInt8) : Array Value := (l.map vb).toArray
/-- a list of words as the cells of an array -/
def vws (l : List UInt32) : Array Value := (l.map vw).toArray

theorem vbs_size (l : List UInt8) : (vbs l).size = l.length := by simp [vbs]
theorem vbs_get (l : List UInt8) (k : Nat) (h : k < l.length) : (vbs l)[k]? = some (vb l[k]) := by simp [vbs, h]
theorem vbs_getD (l : List UInt8) (k : Nat) (h : k < l.length) : (vbs l)[k]? = some (.int .u8 ((l.getD k 0).toNat : Int)) := by simp [vbs, vb, h]
theorem vbs_set (l : List UInt8) (k : Nat) (b : UInt8) : (vbs l).setIfInBounds k (.int .u8 (b.toNat : Int)) = vbs (l.set k b) := by
  apply Array.ext'
  simp [vbs, List.map_set, vb]
theorem vws_size (l : List UInt32) : (vws l).size = l.length := by simp [vws]
theorem vws_getD (l : List UInt32) (k : Nat) (h : k < l.length) : (vws l)[k]? = some (.int .u32 ((l.getD k 0).toNat : Int)) := by simp [vws, vw, h]
theorem vws_set (l : List UInt32) (k : Nat) (b : UInt32) : (vws l).setIfInBounds k (.int .u32 (b.toNat : Int)) = vws (l.set k b) := by
  apply Array.ext'
  simp [vws, List.map_set, vw]

theorem vbs_one (l : List UInt8) : (vbs l).all (·.oneCell') = true := by
  rw [Array.all_eq_true_iff_forall_mem]
  intro v hv
  simp only [vbs, List.mem_toArray, List.mem_map] at hv
  obtain ⟨b, _, rfl⟩ := hv
  rfl
theorem vws_one (l : List UInt32) : (vws l).all (·.oneCell') = true := by
  rw [Array.all_eq_true_iff_forall_mem]
  intro v hv
  simp only [vws, List.mem_toArray, List.mem_map] at hv
  obtain ⟨b, _, rfl⟩ := hv
  rfl

theorem bits_xor8 (a b : UInt8) : bits .xor .u8 (a.toNat : Int) (b.toNat : Int) = ((a ^^^ b).toNat : Int) := by
  rw [u8_xor_nat _ _ a.toNat_lt b.toNat_lt]; simp

theorem run_isAgg_no {P : Program} {e : TypeId} {d : TypeDesc} (he : P.underlying e = some d)
    (hd : (match d with | .struct _ | .array _ _ => true | _ => false) = false) (w : World) : (isAgg e).run P w = .ok false w := by
  unfold isAgg
  rw [Sem.run_bind, run_underlying he w]
  cases d <;> simp_all
theorem run_sizeOf {P : Program} {e : TypeId} {n : Nat} (hs : (P.info? e).map (·.size) = some n) (w : World) : (sizeOf e).run P w = .ok n w := by
  cases hq : P.info? e with
  | none => simp [hq] at hs
  | some i => have hs' : i.size = n := by simpa [hq] using hs
              simp [sizeOf, typeInfo, hq, hs', Sem.run_bind]

theorem run_part_one {P : Program} {e : TypeId} {d : TypeDesc} (he : P.underlying e = some d)
    (hd : (match d with | .struct _ | .array _ _ => true | _ => false) = false) (cs : Array Value) (k : Nat) (v : Value) (hv : cs[k]? = some v) (w : World) :
    (part e cs k).run P w = .ok v w := by
  simp [part, Sem.run_bind, run_isAgg_no he hd w, hv]

theorem run_index_arr {P : Program} {T e : TypeId} {n : Nat} (hT : P.underlying T = some (.array n e)) {d : TypeDesc} (he : P.underlying e = some d)
    (hd : (match d with | .struct _ | .array _ _ => true | _ => false) = false) (hs : (P.info? e).map (·.size) = some 1)
    (cs : Array Value) (k : Nat) (hk : k < n) (v : Value) (hv : cs[k]? = some v) (w : World) :
    (Instr.index T (.agg cs) (.int .i64 (k : Int))).run P w = .ok v w := by
  have hk' : (0 : Int) ≤ (k : Int) ∧ (k : Int) < (n : Int) := by omega
  unfold Instr.index
  simp only [asIntOf, Sem.run_bind, Sem.run_pure, Result.andThen_ok, run_underlying hT w]
  rw [if_pos hk']
  simp [Sem.run_bind, run_sizeOf hs w, run_part_one he hd cs k v hv w]

theorem run_eqArr_loop {P : Program} {e : TypeId} {k : IntKind} (he : P.underlying e = some (.int k)) (d : Nat) (w : World) (f g : Nat → Int) (xs ys : Array Value) :
    ∀ (l : List Nat), (∀ i ∈ l, xs[i]? = some (.int k (f i)) ∧ ys[i]? = some (.int k (g i))) →
    (forIn (m := Sem) l ((none, ()) : Option Bool × PUnit) fun i _ => do
        if (!(← Op.equalIn (d + 1) e (← part e xs (i * 1)) (← part e ys (i * 1)))) = true then
          pure (ForInStep.done (some false, ()))
        else pure (ForInStep.yield (none, ()))).run P w =
      .ok (if l.all (fun i => f i == g i) then (none, ()) else (some false, ())) w := by
  intro l
  induction l with
  | nil => intro _; simp
  | cons i l ih =>
    intro h
    obtain ⟨hx, hy⟩ := h i (by simp)
    have ih' := ih (fun j hj => h j (by simp [hj]))
    simp only [List.forIn_cons, Sem.run_bind, Nat.mul_one, run_part_one he rfl xs i _ hx w, run_part_one he rfl ys i _ hy w, Result.andThen_ok, run_equalIn_int w d e k k _ _ he]
    simp only [Nat.mul_one] at ih'
    by_cases hfg : f i = g i
    · have e : (f i == g i) = true := by simp [hfg]
      simp only [e, Bool.not_true, Bool.false_eq_true, if_false, Sem.run_pure, Result.andThen_ok, List.all_cons, Bool.true_and]
      exact ih'
    · have e : (f i == g i) = false := by simp [hfg]
      simp only [e, Bool.not_false, if_true, Sem.run_pure, Result.andThen_ok, List.all_cons, Bool.false_and, Bool.false_eq_true, if_false]

theorem run_equalIn_arr {P : Program} {T e : TypeId} {n : Nat} {k : IntKind} (hT : P.underlying T = some (.array n e)) (he : P.underlying e = some (.int k))
    (hs : (P.info? e).map (·.size) = some 1) (d : Nat) (w : World) (f g : Nat → Int) (xs ys : Array Value)
    (h : ∀ i, i < n → xs[i]? = some (.int k (f i)) ∧ ys[i]? = some (.int k (g i))) :
    (Op.equalIn (d + 2) T (.agg xs) (.agg ys)).run P w = .ok ((List.range n).all fun i => f i == g i) w := by
  have hl := run_eqArr_loop he d w f g xs ys (List.range' 0 n) (fun i hi => h i (by simp at hi; omega))
  rw [Op.equalIn]
  simp only [Sem.run_bind, run_underlying hT w, Result.andThen_ok, run_sizeOf hs w]
  rw [Std.Legacy.Range.forIn_eq_forIn_range']
  have hr : (List.range' 0 n).all (fun i => f i == g i) = (List.range n).all (fun i => f i == g i) := by rw [List.range_eq_range']
  rw [← hr]
  have hz : (List.range' [:n].start [:n].size [:n].step) = List.range' 0 n := by simp [Std.Legacy.Range.size]
  rw [hz, hl]
  cases (List.range' 0 n).all fun i => f i == g i <;> simp

/-- two arrays of bytes, compared -/
theorem all_range_eq {α : Type} [BEq α] [LawfulBEq α] (xs ys : List α) (z : α) (n : Nat) (hx : xs.length = n) (hy : ys.length = n) (t : α → Int) (ht : ∀ a b, t a = t b → a = b) :
    ((List.range n).all fun i => t (xs.getD i z) == t (ys.getD i z)) = (xs == ys) := by
  rw [Bool.eq_iff_iff]
  simp only [List.all_eq_true, List.mem_range, beq_iff_eq]
  constructor
  · intro h
    refine List.ext_getElem (by omega) fun i h1 h2 => ?_
    have := ht _ _ (h i (by omega))
    simpa [List.getD, h1, h2] using this
  · rintro rfl i _; rfl
theorem vb_inj (a b : UInt8) (h : (a.toNat : Int) = (b.toNat : Int)) : a = b := UInt8.toNat_inj.1 (by omega)
theorem vw_inj (a b : UInt32) (h : (a.toNat : Int) = (b.toNat : Int)) : a = b := UInt32.toNat_inj.1 (by omega)
theorem run_neq_vbs {P : Program} {T e : TypeId} {n : Nat} (hT : P.underlying T = some (.array n e)) (he : P.underlying e = some (.int .u8)) (hs : (P.info? e).map (·.size) = some 1)
    (xs ys : List UInt8) (hx : xs.length = n) (hy : ys.length = n) (w : World) :
    (binOp .neq T (.agg (vbs xs)) (.agg (vbs ys))).run P w = .ok (.bool (!(xs == ys))) w := by
  rw [run_neq_struct, run_equalIn_arr hT he hs 9998 w (fun i => ((xs.getD i 0).toNat : Int)) (fun i => ((ys.getD i 0).toNat : Int)) (vbs xs) (vbs ys) (fun i hi => ⟨vbs_getD xs i (by omega), vbs_getD ys i (by omega)⟩),
    all_range_eq xs ys 0 n hx hy (fun a => (a.toNat : Int)) vb_inj]
  rfl
theorem run_eql_vbs {P : Program} {T e : TypeId} {n : Nat} (hT : P.underlying T = some (.array n e)) (he : P.underlying e = some (.int .u8)) (hs : (P.info? e).map (·.size) = some 1)
    (xs ys : List UInt8) (hx : xs.length = n) (hy : ys.length = n) (w : World) :
    (binOp .eql T (.agg (vbs xs)) (.agg (vbs ys))).run P w = .ok (.bool (xs == ys)) w := by
  rw [run_eql_struct, run_equalIn_arr hT he hs 9998 w (fun i => ((xs.getD i 0).toNat : Int)) (fun i => ((ys.getD i 0).toNat : Int)) (vbs xs) (vbs ys) (fun i hi => ⟨vbs_getD xs i (by omega), vbs_getD ys i (by omega)⟩),
    all_range_eq xs ys 0 n hx hy (fun a => (a.toNat : Int)) vb_inj]
  rfl

theorem World.lt_of_heap {w : World} {g : Nat} {o : Obj} (h : w.heap[g]? = some o) : g < w.heap.size := (Array.getElem?_eq_some_iff.1 h).1

/-- a whole array is stored into the block that was made last -/
theorem wpList_store_new {P : Program} {ops : Array Oper} {rest : List Oper} {o : Oper} {a : Act} {w : World} {Q : Exit → Act → World → Prop} {T : TypeId} {c : Array Value} (hgd : o.guard = none) (ty : TypeId) (x y : Operand) (ho : o.op = .store ty x y)
    (cells : Array Value) (hx : a.eval x = .pointer (some ⟨w.heap.size, 0, none⟩)) (hy : a.eval y = .agg cells) (hi : (P.info? ty).map (·.size) = some cells.size)
    (hold : c.size = cells.size) (h1 : cells.all (·.oneCell') = true)
    (h : wpList P ops Q rest (a.put o.dst undef) (w.alloc (.cells cells T))) : wpList P ops Q (o :: rest) a (w.alloc (.cells c T)) :=
  wpList_store_row hgd ty x y ho w.heap.size cells hx hy T c (heap_alloc_new _ _) hi hold h1 (by rw [World.setRow_alloc_new]; exact h)

end Go.Proofs.Ytdmagjelmhcemaa
