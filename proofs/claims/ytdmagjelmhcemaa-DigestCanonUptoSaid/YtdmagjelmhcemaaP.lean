/- The laws of pointers, of fields and of parts of a block, for the logic of walks. Nothing of a program. -/
import Derived.Test.YtdmagjelmhcemaaB
namespace Go.Proofs.Ytdmagjelmhcemaa
open Go.RowKit
set_option linter.unusedVariables false
set_option linter.unusedSimpArgs false

section
variable {P : Program} {n : Nat} {w0 : World} {M : List Nat} {l : List (Nat × Value)} {hs hs2 : List HB}
variable {d : Option Tmp} {ty : TypeId} {pos : String} {af : Array Edge} {gd : Option (Nat × Bool)}

theorem ex_nilCheck {x : Operand} {a : Addr} (hx : ev l x = some (.pointer (some a))) : Ex P n w0 M l hs ⟨d, .nilCheck x, ty, pos, af, gd⟩ (.pointer (some a)) := fun c w ha _ => by
  simp only [execOp, ha.ev hx]; rfl
theorem ex_field_addr {s : TypeId} {x : Operand} {g o k : Nat} {fs : Array Field} {fl : Field} {z : Nat} (hx : ev l x = some (.pointer (some ⟨g, o, none⟩))) (hT : P.underlying s = some (.struct fs)) (hf : fs[k]? = some fl) (hz : (P.info? fl.type).map (·.size) = some z) (h0 : (z == 0) = false) :
    Ex P n w0 M l hs ⟨d, .fieldAddr s x k, ty, pos, af, gd⟩ (.pointer (some ⟨g, o + fl.offset, none⟩)) := fun c w ha _ => by
  show Sem.run P (do pure (Next.value (← Instr.fieldAt s (c.eval x) k))) w = _
  rw [ha.ev hx]
  have h0' : ¬ z = 0 := by simpa using h0
  refine run_v ?_
  simp [Instr.fieldAt, Instr.sureAddr, fieldPlace, Sem.run_bind, run_underlying hT w, hf, run_sizeOf hz w, h0', add_plain']
theorem run_equal_ptr {t e : TypeId} (hT : P.underlying t = some (.pointer e)) (a : Option Addr) (w : World) : (Op.equal t (.pointer a) (.pointer none)).run P w = .ok a.isNone w := by
  show (Op.equalIn (9999 + 1) t _ _).run P w = _
  unfold Op.equalIn
  rw [Sem.run_bind, run_underlying hT w]
  cases a <;> rfl
theorem ex_eql_ptr {t t2 e : TypeId} {x y : Operand} {a : Option Addr} (hx : ev l x = some (.pointer a)) (hy : ev l y = some (.pointer none)) (hT : P.underlying t = some (.pointer e)) {b : Bool} (hb : a.isNone = b) : Ex P n w0 M l hs ⟨d, .binOp .eql t x y t2, ty, pos, af, gd⟩ (.bool b) :=
  ex_bin hx hy (fun w => rfl) fun w => by
    subst hb
    show (do pure (Value.bool (← Op.equal t (.pointer a) (.pointer none))) : Sem Value).run P w = _
    rw [Sem.run_bind, run_equal_ptr hT a w]; rfl
theorem ex_neq_ptr {t t2 e : TypeId} {x y : Operand} {a : Option Addr} (hx : ev l x = some (.pointer a)) (hy : ev l y = some (.pointer none)) (hT : P.underlying t = some (.pointer e)) {b : Bool} (hb : (!a.isNone) = b) : Ex P n w0 M l hs ⟨d, .binOp .neq t x y t2, ty, pos, af, gd⟩ (.bool b) :=
  ex_bin hx hy (fun w => rfl) fun w => by
    subst hb
    show (do pure (Value.bool (!(← Op.equal t (.pointer a) (.pointer none)))) : Sem Value).run P w = _
    rw [Sem.run_bind, run_equal_ptr hT a w]; rfl

/-- an array or a struct that is a part of a block, or of old memory -/
theorem ex_load_agg {t : TypeId} {x : Operand} {g o : Nat} {xs : List Value} {dsc : TypeDesc} (hx : ev l x = some (.pointer (some ⟨g, o, none⟩))) (hv : ∀ w, Hp w0 M hs w → Sl w (some ⟨g, o, none⟩) xs)
    (hu : P.underlying t = some dsc) (hd : (match dsc with | .struct _ | .array _ _ => true | _ => false) = true) (hz : (P.info? t).map (·.size) = some xs.length) : Ex P n w0 M l hs ⟨d, .load t x, ty, pos, af, gd⟩ (.agg xs.toArray) := fun a w ha hw => by
  show Sem.run P (do pure (Next.value (← Instr.loadAt t (a.eval x)))) w = _
  rw [ha.ev hx]
  refine run_v ?_
  have hagg : (isAgg t).run P w = .ok true w := by
    unfold isAgg
    rw [Sem.run_bind, run_underlying hu w]
    cases dsc <;> simp_all
  have hc := loadCells_sl (P := P) (hv w hw)
  simp only [Instr.loadAt, Instr.sureAddr, loadVar, Sem.run_bind, Sem.run_pure, Result.andThen_ok, hagg, if_true, run_sizeOf hz w, hc]
theorem exw_store_part0 {t : TypeId} {x y : Operand} {g o : Nat} {cs cs' : Array Value} {vs : List Value} {et : TypeId} (hx : ev l x = some (.pointer (some ⟨g, o, none⟩))) (hy : ev l y = some (.agg vs.toArray))
    (hz : (P.info? t).map (·.size) = some vs.length) (hfit : o + vs.length ≤ cs.size) (h1 : ∀ v ∈ vs, v.oneCell' = true) (hcs : (cs.toList.take o ++ vs ++ cs.toList.drop (o + vs.length)).toArray = cs') :
    ExW P n w0 M l (⟨some g, cs, et, (0, 0)⟩ :: hs2) ⟨d, .store t x y, ty, pos, af, gd⟩ (fun _ : Unit => undef) (fun _ => ⟨some g, cs', et, (0, 0)⟩ :: hs2) (fun _ => True) := by
  subst hcs
  refine exw_skip fun a w ha hw => ⟨w.setRow g _, hw.setRow (hs1 := []) (x := ⟨some g, cs, et, (0, 0)⟩) rfl _, ?_⟩
  show Sem.run P (do Instr.storeAt t (a.eval x) (a.eval y); pure Next.skip) w = _
  rw [ha.ev hx, ha.ev hy]
  refine run_u ?_
  have hg : w.heap[g]? = some (.cells cs et (0, 0)) := hw.own ⟨some g, cs, et, (0, 0)⟩ (by simp) g rfl
  have hst := run_storeCells_at P g o et vs 0 cs w hg (by simpa using hfit) h1
  simp only [Nat.add_zero] at hst
  simp only [Instr.storeAt, Instr.sureAddr, storeVar, Sem.run_bind, Sem.run_pure, Result.andThen_ok, run_sizeOf hz w, Value.cells, List.size_toArray, ne_eq, not_true_eq_false, if_false]
  exact hst

inductive Evs (l : List (Nat × Value)) : List Operand → List Value → Prop
  | nil : Evs l [] []
  | cons {x v xs vs} : ev l x = some v → Evs l xs vs → Evs l (x :: xs) (v :: vs)
theorem Evs.out {xs : List Operand} {vs : List Value} (h : Evs l xs vs) : evs l xs = some vs := by
  induction h with
  | nil => rfl
  | cons h1 _ ih => simp only [evs, h1, ih]
theorem len8 {α : Type} (a b c d e f g h : α) : [a, b, c, d, e, f, g, h].length = 8 := rfl
/-- an array built of all its elements -/
theorem ex_build_arr {t e : TypeId} {m : Nat} {xs : List Operand} {vs : List Value} {parts : Array (Nat × Operand)} {z : Value} {bytes : Nat} (hx : evs l xs = some vs) (hp : parts = ((xs.zipIdx 0).map fun q => (q.2, q.1)).toArray) (hk : vs.length = m)
    (ht : P.underlying t = some (.array m e)) (hI : Info P t z m bytes) (hz : (P.info? e).map (·.size) = some 1) (hzs : z.cells.size = m) (h1 : vs.all (·.oneCell') = true) : Ex P n w0 M l hs ⟨d, .build t parts, ty, pos, af, gd⟩ (.agg vs.toArray) := fun a w ha _ => by
  obtain ⟨i, hi, hzero, hsz, hby⟩ := hI.get
  show Sem.run P (do pure (Next.value (← Instr.build t (parts.map fun (i, x) => (i, a.eval x))))) w = _
  refine run_v ?_
  subst hp
  have hm := evs_map (ρ := a.eval) 0 (ha.evs hx)
  have hL : ((((xs.zipIdx 0).map fun q => (q.2, q.1)).toArray.map fun (i, x) => (i, a.eval x)) : Array (Nat × Value)).toList = (vs.zipIdx 0).map fun q => (q.2, q.1) := by simpa using hm
  generalize ((((xs.zipIdx 0).map fun q => (q.2, q.1)).toArray.map fun (i, x) => (i, a.eval x)) : Array (Nat × Value)) = pp at hL
  have hf := fill_seq vs z.cells.toList 0 (cells_of_all h1) (by simp; omega)
  have hd : List.drop (0 + vs.length) z.cells.toList = [] := List.drop_of_length_le (by simp; omega)
  rw [hd] at hf
  simp only [List.take_zero, List.nil_append, List.append_nil, Array.toArray_toList] at hf
  simp [Instr.build, run_underlying ht w, Sem.run_bind, zeroValue, typeInfo, hi, hzero, run_sizeOf hz w, hL]
  simp only [Nat.mul_one] at hf
  simp [hf]
theorem ex_build_run {t : TypeId} {parts : Array (Nat × Operand)} {ps : List (Nat × Value)} {v : Value} (hp : ∀ a, Agree n l a → (parts.map fun (i, x) => (i, a.eval x)) = ps.toArray) (hr : ∀ w, (Instr.build t ps.toArray).run P w = .ok v w) : Ex P n w0 M l hs ⟨d, .build t parts, ty, pos, af, gd⟩ v := fun a w ha _ => by
  show Sem.run P (do pure (Next.value (← Instr.build t (parts.map fun (i, x) => (i, a.eval x))))) w = _
  exact run_v (by rw [hp a ha]; exact hr w)
theorem ex_conv32 {dsc : TypeDesc} {src dst : TypeId} {x : Operand} {k : IntKind} {p : Nat} (hx : ev l x = some (.int k (p : Int))) (h1 : P.underlying src = some dsc) (h2 : P.underlying dst = some (.int .u32)) :
    Ex P n w0 M l hs ⟨d, .convert src dst x, ty, pos, af, gd⟩ (vw (UInt32.ofNat p)) := ex_conv_int hx h1 h2 (wrap32 p)
end

/-! rows of words with more behind them -/
def wrow (S : List UInt32) (r : List Value) : Array Value := (S.map vw ++ r).toArray
theorem wrow_get (S : List UInt32) (r : List Value) (k : Nat) (h : k < S.length) : (wrow S r)[k]? = some (vw (S.getD k 0)) := by
  have : k < (S.map vw).length := by simpa using h
  simp [wrow, List.getElem?_append_left this, h]
theorem wrow_set (S : List UInt32) (r : List Value) (k : Nat) (b : UInt32) (h : k < S.length) : (wrow S r).setIfInBounds k (vw b) = wrow (S.set k b) r := by
  have h' : k < (S.map vw).length := by simpa using h
  apply Array.ext'
  simp [wrow, List.set_append_left _ _ h', List.map_set]
theorem wrow_all (S : List UInt32) (r : List Value) : ∀ j v, (S.map vw)[j]? = some v → (wrow S r)[0 + j]? = some v := fun j v h => pre_get j v h
theorem vws_get (l : List UInt32) (k : Nat) (h : k < l.length) : (vws l)[k]? = some (vw (l.getD k 0)) := by simp [vws, h]
theorem vws_put (l : List UInt32) (k : Nat) (b : UInt32) : (vws l).setIfInBounds k (vw b) = vws (l.set k b) := vws_set l k b
theorem map_vw_one (l : List UInt32) : ∀ u ∈ l.map vw, u.oneCell' = true := by
  intro u hu
  obtain ⟨b, _, rfl⟩ := List.mem_map.1 hu
  rfl
/-- cells of a block that stays keep their values -/
theorem Sl.keep {w w' : World} {g : Nat} {cs : Array Value} {t : TypeId} {fr : Nat × Nat} {hs : List HB} {p : Option Addr} {xs : List Value} (h : Sl w p xs) (hg : w.heap[g]? = some (.cells cs t fr)) (hw : Hp w [g] hs w') (i : Nat) (hi : hs[i]? = some ⟨some g, cs, t, fr⟩) : Sl w' p xs := fun j v hv => by
  obtain ⟨q, hq, hc⟩ := h j v hv
  refine ⟨q, hq, ?_⟩
  by_cases e : q.block = g
  · have hn := hw.own _ (List.mem_of_getElem? hi) g rfl
    rw [World.cell?_of_block (w := w) (w' := w') (a := q.add j) (by rw [add_blk, e, hn, hg])]
    exact hc
  · have hlt := World.block_lt_of_cell? w _ hc
    rw [add_blk] at hlt
    rw [World.cell?_of_block (w := w) (w' := w') (a := q.add j) (by rw [add_blk]; exact hw.block q.block hlt (by simpa using e))]
    exact hc
end Go.Proofs.Ytdmagjelmhcemaa
