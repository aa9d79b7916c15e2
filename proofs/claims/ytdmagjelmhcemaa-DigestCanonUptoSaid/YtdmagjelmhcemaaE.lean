/- The laws of single operations for the logic of walks. Nothing of a program. -/
import Derived.Test.YtdmagjelmhcemaaH
import Derived.IntWalk
namespace Go.Proofs.Ytdmagjelmhcemaa
open Go.RowKit
set_option linter.unusedVariables false
set_option linter.unusedSimpArgs false

theorem run_v {P : Program} {s : Sem Value} {v : Value} {w w' : World} (h : s.run P w = .ok v w') : (do pure (Next.value (← s)) : Sem Next).run P w = .ok (.value v) w' := by
  simp [Sem.run_bind, h]
theorem run_u {P : Program} {s : Sem Unit} {w w' : World} (h : s.run P w = .ok () w') : (do s; pure Next.skip : Sem Next).run P w = .ok .skip w' := by
  simp [Sem.run_bind, h]

theorem i64_wrap (x : Int) (h : -9223372036854775808 ≤ x ∧ x ≤ 9223372036854775807) : IntKind.i64.wrap x = x := IntWalk.i64_in x h

section
variable {P : Program} {n : Nat} {w0 : World} {M : List Nat} {l : List (Nat × Value)} {hs : List HB}
variable {d : Option Tmp} {ty : TypeId} {pos : String} {af : Array Edge} {gd : Option (Nat × Bool)}

theorem ex_move {x : Operand} {v : Value} (hx : ev l x = some v) : Ex P n w0 M l hs ⟨d, .move x, ty, pos, af, gd⟩ v := fun a w ha _ => by
  show Sem.run P (pure (Next.value (a.eval x))) w = _
  rw [ha.ev hx]; rfl
theorem ex_assign {x : Operand} {v : Value} (hx : ev l x = some v) : Ex P n w0 M l hs ⟨d, .assign x, ty, pos, af, gd⟩ v := fun a w ha _ => by
  show Sem.run P (pure (Next.value (a.eval x))) w = _
  rw [ha.ev hx]; rfl
theorem ex_pick_true {c x y : Operand} {v : Value} (hc : ev l c = some (.bool true)) (hx : ev l x = some v) : Ex P n w0 M l hs ⟨d, .pick c x y, ty, pos, af, gd⟩ v := fun a w ha _ => by
  show Sem.run P (do pure (Next.value (if ← asBool (a.eval c) then a.eval x else a.eval y))) w = _
  rw [ha.ev hc, ha.ev hx]; simp [asBool, Sem.run_bind]
theorem ex_pick_false {c x y : Operand} {v : Value} (hc : ev l c = some (.bool false)) (hy : ev l y = some v) : Ex P n w0 M l hs ⟨d, .pick c x y, ty, pos, af, gd⟩ v := fun a w ha _ => by
  show Sem.run P (do pure (Next.value (if ← asBool (a.eval c) then a.eval x else a.eval y))) w = _
  rw [ha.ev hc, ha.ev hy]; simp [asBool, Sem.run_bind]

/-! two operands -/
theorem ex_bin {op : BinOp} {t t2 : TypeId} {x y : Operand} {u v r : Value} (hx : ev l x = some u) (hy : ev l y = some v) (hg : ∀ w, (eqGuard op t x y u v).run P w = .ok () w) (hr : ∀ w, (binOp op t u v).run P w = .ok r w) :
    Ex P n w0 M l hs ⟨d, .binOp op t x y t2, ty, pos, af, gd⟩ r := fun a w ha _ => by
  show Sem.run P (do pure (Next.value (← (do eqGuard op t x y (a.eval x) (a.eval y); binOp op t (a.eval x) (a.eval y))))) w = _
  rw [ha.ev hx, ha.ev hy]
  exact run_v (by simp [Sem.run_bind, hg, hr])
theorem ex_int {op : BinOp} {t t2 : TypeId} {x y : Operand} {k : IntKind} {p q : Int} {r : Value} (hx : ev l x = some (.int k p)) (hy : ev l y = some (.int k q)) (hr : ∀ w, (binOp op t (.int k p) (.int k q)).run P w = .ok r w) :
    Ex P n w0 M l hs ⟨d, .binOp op t x y t2, ty, pos, af, gd⟩ r := ex_bin hx hy (fun w => by rw [eqGuard_at_int]; rfl) hr

theorem ex_add {t t2 : TypeId} {x y : Operand} {k : IntKind} {p q r : Int} (hx : ev l x = some (.int k p)) (hy : ev l y = some (.int k q)) (hr : k.wrap (p + q) = r) : Ex P n w0 M l hs ⟨d, .binOp .add t x y t2, ty, pos, af, gd⟩ (.int k r) :=
  ex_int hx hy fun w => by simp [binOp_add, Op.intArith, hr]
theorem ex_sub {t t2 : TypeId} {x y : Operand} {k : IntKind} {p q r : Int} (hx : ev l x = some (.int k p)) (hy : ev l y = some (.int k q)) (hr : k.wrap (p - q) = r) : Ex P n w0 M l hs ⟨d, .binOp .sub t x y t2, ty, pos, af, gd⟩ (.int k r) :=
  ex_int hx hy fun w => by simp [binOp_sub, Op.intArith, hr]
theorem ex_mul {t t2 : TypeId} {x y : Operand} {k : IntKind} {p q r : Int} (hx : ev l x = some (.int k p)) (hy : ev l y = some (.int k q)) (hr : k.wrap (p * q) = r) : Ex P n w0 M l hs ⟨d, .binOp .mul t x y t2, ty, pos, af, gd⟩ (.int k r) :=
  ex_int hx hy fun w => by simp [binOp_mul, Op.intArith, hr]
/-- sums of int that stay in range, said of natural numbers -/
theorem ex_addN {t t2 : TypeId} {x y : Operand} {p q : Nat} (hx : ev l x = some (.int .i64 (p : Int))) (hy : ev l y = some (.int .i64 (q : Int))) (hb : p + q ≤ 9223372036854775807) : Ex P n w0 M l hs ⟨d, .binOp .add t x y t2, ty, pos, af, gd⟩ (.int .i64 ((p + q : Nat) : Int)) :=
  ex_add hx hy (by rw [i64_wrap _ (by omega)]; omega)
theorem ex_subN {t t2 : TypeId} {x y : Operand} {p q : Nat} (hx : ev l x = some (.int .i64 (p : Int))) (hy : ev l y = some (.int .i64 (q : Int))) (hb : q ≤ p) (hp : p ≤ 9223372036854775807) : Ex P n w0 M l hs ⟨d, .binOp .sub t x y t2, ty, pos, af, gd⟩ (.int .i64 ((p - q : Nat) : Int)) :=
  ex_sub hx hy (by rw [i64_wrap _ (by omega)]; omega)
theorem ex_mulN {t t2 : TypeId} {x y : Operand} {p q : Nat} (hx : ev l x = some (.int .i64 (p : Int))) (hy : ev l y = some (.int .i64 (q : Int))) (hb : p * q ≤ 9223372036854775807) : Ex P n w0 M l hs ⟨d, .binOp .mul t x y t2, ty, pos, af, gd⟩ (.int .i64 ((p * q : Nat) : Int)) :=
  ex_mul hx hy (by rw [i64_wrap _ (by rw [← Int.natCast_mul]; omega), Int.natCast_mul])
theorem ex_remN {t t2 : TypeId} {x y : Operand} {p q : Nat} (hx : ev l x = some (.int .i64 (p : Int))) (hy : ev l y = some (.int .i64 (q : Int))) (hq : 0 < q) (hp : p ≤ 9223372036854775807) : Ex P n w0 M l hs ⟨d, .binOp .rem t x y t2, ty, pos, af, gd⟩ (.int .i64 ((p % q : Nat) : Int)) :=
  ex_int hx hy fun w => by
    have h0 : ¬ (q = 0) := by omega
    have : (p : Int).tmod (q : Int) = ((p % q : Nat) : Int) := by rw [Int.natCast_emod]; exact Int.tmod_eq_emod_of_nonneg (by omega)
    have hle : p % q ≤ p := Nat.mod_le p q
    simp [binOp_rem, Op.intDiv, h0, this]
theorem ex_quoN {t t2 : TypeId} {x y : Operand} {p q : Nat} (hx : ev l x = some (.int .i64 (p : Int))) (hy : ev l y = some (.int .i64 (q : Int))) (hq : 0 < q) (hp : p ≤ 9223372036854775807) : Ex P n w0 M l hs ⟨d, .binOp .quo t x y t2, ty, pos, af, gd⟩ (.int .i64 ((p / q : Nat) : Int)) :=
  ex_int hx hy fun w => by
    have h0 : ¬ (q = 0) := by omega
    have : (p : Int).tdiv (q : Int) = ((p / q : Nat) : Int) := by rw [Int.natCast_ediv]; exact Int.tdiv_eq_ediv_of_nonneg (by omega)
    have hle : p / q ≤ p := Nat.div_le_self p q
    have hw : IntKind.i64.wrap ((p : Int) / (q : Int)) = (p : Int) / (q : Int) := i64_wrap _ (by
      have e : (p : Int) / (q : Int) = ((p / q : Nat) : Int) := (Int.natCast_ediv p q).symm
      rw [e]; generalize p / q = z at hle; omega)
    simp [binOp_quo, Op.intDiv, h0, this, hw]

theorem ex_lss {t t2 : TypeId} {x y : Operand} {k : IntKind} {p q : Int} {b : Bool} (hx : ev l x = some (.int k p)) (hy : ev l y = some (.int k q)) (hb : decide (p < q) = b) : Ex P n w0 M l hs ⟨d, .binOp .lss t x y t2, ty, pos, af, gd⟩ (.bool b) :=
  ex_int hx hy fun w => by rw [binOp_lss, hb]; rfl
theorem ex_leq {t t2 : TypeId} {x y : Operand} {k : IntKind} {p q : Int} {b : Bool} (hx : ev l x = some (.int k p)) (hy : ev l y = some (.int k q)) (hb : decide (p ≤ q) = b) : Ex P n w0 M l hs ⟨d, .binOp .leq t x y t2, ty, pos, af, gd⟩ (.bool b) :=
  ex_int hx hy fun w => by rw [binOp_leq, hb]; rfl
theorem ex_gtr {t t2 : TypeId} {x y : Operand} {k : IntKind} {p q : Int} {b : Bool} (hx : ev l x = some (.int k p)) (hy : ev l y = some (.int k q)) (hb : decide (p > q) = b) : Ex P n w0 M l hs ⟨d, .binOp .gtr t x y t2, ty, pos, af, gd⟩ (.bool b) :=
  ex_int hx hy fun w => by rw [binOp_gtr, hb]; rfl
theorem ex_geq {t t2 : TypeId} {x y : Operand} {k : IntKind} {p q : Int} {b : Bool} (hx : ev l x = some (.int k p)) (hy : ev l y = some (.int k q)) (hb : decide (p ≥ q) = b) : Ex P n w0 M l hs ⟨d, .binOp .geq t x y t2, ty, pos, af, gd⟩ (.bool b) :=
  ex_int hx hy fun w => by rw [binOp_geq, hb]; rfl
theorem ex_eql {t t2 : TypeId} {x y : Operand} {k : IntKind} {p q : Int} {b : Bool} (hx : ev l x = some (.int k p)) (hy : ev l y = some (.int k q)) (hb : (p == q) = b) : Ex P n w0 M l hs ⟨d, .binOp .eql t x y t2, ty, pos, af, gd⟩ (.bool b) :=
  ex_int hx hy fun w => by rw [binOp_eql, hb]; rfl
theorem ex_neq {t t2 : TypeId} {x y : Operand} {k : IntKind} {p q : Int} {b : Bool} (hx : ev l x = some (.int k p)) (hy : ev l y = some (.int k q)) (hb : (p != q) = b) : Ex P n w0 M l hs ⟨d, .binOp .neq t x y t2, ty, pos, af, gd⟩ (.bool b) :=
  ex_int hx hy fun w => by rw [binOp_neq, hb]; rfl
theorem ex_xor8 {t t2 : TypeId} {x y : Operand} {p q : UInt8} (hx : ev l x = some (.int .u8 (p.toNat : Int))) (hy : ev l y = some (.int .u8 (q.toNat : Int))) : Ex P n w0 M l hs ⟨d, .binOp .xor t x y t2, ty, pos, af, gd⟩ (.int .u8 ((p ^^^ q).toNat : Int)) :=
  ex_int hx hy fun w => by rw [binOp_xor, intBits_xor, bits_xor8]; rfl
theorem ex_not {t : TypeId} {x : Operand} {b : Bool} (hx : ev l x = some (.bool b)) : Ex P n w0 M l hs ⟨d, .unOp .not t x, ty, pos, af, gd⟩ (.bool (!b)) := fun a w ha _ => by
  show Sem.run P (do pure (Next.value (← Op.unary .not (a.eval x)))) w = _
  rw [ha.ev hx]; exact run_v (by simp [Op.unary])

/-- two arrays of bytes -/
theorem eqGuard_agg (op : BinOp) (t : TypeId) (x y : Operand) (xs ys : Array Value) (hm : P.eqGuardType P.depth t = false) (w : World) : (eqGuard op t x y (.agg xs) (.agg ys)).run P w = .ok () w := run_eqGuard_agg w op t x y xs ys hm
theorem ex_neq_arr {t t2 e : TypeId} {x y : Operand} {m : Nat} {xs ys : List UInt8} (hx : ev l x = some (.agg (vbs xs))) (hy : ev l y = some (.agg (vbs ys))) (hT : P.underlying t = some (.array m e)) (he : P.underlying e = some (.int .u8)) (hz : (P.info? e).map (·.size) = some 1)
    (hm : P.eqGuardType P.depth t = false) (h1 : xs.length = m) (h2 : ys.length = m) {b : Bool} (hb : (!(xs == ys)) = b) : Ex P n w0 M l hs ⟨d, .binOp .neq t x y t2, ty, pos, af, gd⟩ (.bool b) :=
  ex_bin hx hy (eqGuard_agg _ _ _ _ _ _ hm) fun w => by rw [run_neq_vbs hT he hz xs ys h1 h2 w, hb]
theorem ex_eql_arr {t t2 e : TypeId} {x y : Operand} {m : Nat} {xs ys : List UInt8} (hx : ev l x = some (.agg (vbs xs))) (hy : ev l y = some (.agg (vbs ys))) (hT : P.underlying t = some (.array m e)) (he : P.underlying e = some (.int .u8)) (hz : (P.info? e).map (·.size) = some 1)
    (hm : P.eqGuardType P.depth t = false) (h1 : xs.length = m) (h2 : ys.length = m) {b : Bool} (hb : (xs == ys) = b) : Ex P n w0 M l hs ⟨d, .binOp .eql t x y t2, ty, pos, af, gd⟩ (.bool b) :=
  ex_bin hx hy (eqGuard_agg _ _ _ _ _ _ hm) fun w => by rw [run_eql_vbs hT he hz xs ys h1 h2 w, hb]

theorem neq_false_of_eq {α : Type} [BEq α] [LawfulBEq α] {a b : α} (h : a = b) : (!(a == b)) = false := by simp [h]
theorem eql_true_of_eq {α : Type} [BEq α] [LawfulBEq α] {a b : α} (h : a = b) : (a == b) = true := by simp [h]
theorem ex_build0 {t : TypeId} {v : Value} (hr : ∀ w, (Instr.build t #[]).run P w = .ok v w) : Ex P n w0 M l hs ⟨d, .build t #[], ty, pos, af, gd⟩ v := fun a w ha _ => by
  show Sem.run P (do pure (Next.value (← Instr.build t (#[].map fun (i, x) => (i, a.eval x))))) w = _
  exact run_v (by simpa using hr w)

/-! reading memory and aggregates -/
theorem ex_load {t : TypeId} {x : Operand} {g j : Nat} {dsc : TypeDesc} (hx : ev l x = some (.pointer (some ⟨g, j, none⟩))) (i : Nat) {b : HB} (hi : hs[i]? = some b) (hg : b.g = some g) {v : Value} (hv : b.cs[j]? = some v)
    (hu : P.underlying t = some dsc) (hd : (match dsc with | .struct _ | .array _ _ => true | _ => false) = false) : Ex P n w0 M l hs ⟨d, .load t x, ty, pos, af, gd⟩ v := fun a w ha hw => by
  show Sem.run P (do pure (Next.value (← Instr.loadAt t (a.eval x)))) w = _
  rw [ha.ev hx]
  have hc : w.cell? ⟨g, j, none⟩ = some v := hw.cell (List.mem_of_getElem? hi) hg hv
  exact run_v (by simp [Instr.loadAt, Instr.sureAddr, loadVar, Sem.run_bind, run_isAgg_no hu hd w, hc])
theorem ex_load_old {t : TypeId} {x : Operand} {p : Addr} {dsc : TypeDesc} (hx : ev l x = some (.pointer (some p))) {v : Value} (hv : ∀ w, Hp w0 M hs w → w.cell? p = some v)
    (hu : P.underlying t = some dsc) (hd : (match dsc with | .struct _ | .array _ _ => true | _ => false) = false) : Ex P n w0 M l hs ⟨d, .load t x, ty, pos, af, gd⟩ v := fun a w ha hw => by
  show Sem.run P (do pure (Next.value (← Instr.loadAt t (a.eval x)))) w = _
  rw [ha.ev hx]
  exact run_v (by simp [Instr.loadAt, Instr.sureAddr, loadVar, Sem.run_bind, run_isAgg_no hu hd w, hv w hw])
theorem ex_load_row {t : TypeId} {x : Operand} {g : Nat} {dsc : TypeDesc} (hx : ev l x = some (.pointer (some ⟨g, 0, none⟩))) (i : Nat) {b : HB} (hi : hs[i]? = some b) (hg : b.g = some g)
    (hu : P.underlying t = some dsc) (hd : (match dsc with | .struct _ | .array _ _ => true | _ => false) = true) (hz : (P.info? t).map (·.size) = some b.cs.size) : Ex P n w0 M l hs ⟨d, .load t x, ty, pos, af, gd⟩ (.agg b.cs) := fun a w ha hw => by
  show Sem.run P (do pure (Next.value (← Instr.loadAt t (a.eval x)))) w = _
  rw [ha.ev hx]
  refine run_v ?_
  simp only [Instr.loadAt, Instr.sureAddr, Sem.run_bind, Sem.run_pure, Result.andThen_ok]
  exact run_loadVar_row w g b.t t b.cs b.fr dsc (hw.own b (List.mem_of_getElem? hi) g hg) hu hd hz
theorem ex_index_arr {t e : TypeId} {x y : Operand} {m k : Nat} {cs : Array Value} {v : Value} {dsc : TypeDesc} (hx : ev l x = some (.agg cs)) (hy : ev l y = some (.int .i64 (k : Int))) (hT : P.underlying t = some (.array m e)) (he : P.underlying e = some dsc)
    (hd : (match dsc with | .struct _ | .array _ _ => true | _ => false) = false) (hz : (P.info? e).map (·.size) = some 1) (hk : k < m) (hv : cs[k]? = some v) : Ex P n w0 M l hs ⟨d, .index t x y, ty, pos, af, gd⟩ v := fun a w ha _ => by
  show Sem.run P (do pure (Next.value (← Instr.index t (a.eval x) (a.eval y)))) w = _
  rw [ha.ev hx, ha.ev hy]
  exact run_v (run_index_arr hT he hd hz cs k hk v hv w)
theorem add_plain' (g o k : Nat) : (⟨g, o, none⟩ : Addr).add k = ⟨g, o + k, none⟩ := by unfold Addr.add; split <;> simp_all
/-- the address of an array's element -/
theorem ex_addr_arr {t e : TypeId} {x y : Operand} {m k g o : Nat} {ki : IntKind} (hx : ev l x = some (.pointer (some ⟨g, o, none⟩))) (hy : ev l y = some (.int ki (k : Int))) (hT : P.underlying t = some (.array m e)) (sz : Nat) (hz : (P.info? e).map (·.size) = some sz) (hk : k < m) :
    Ex P n w0 M l hs ⟨d, .indexAddr t x y, ty, pos, af, gd⟩ (.pointer (some ⟨g, o + k * sz, none⟩)) := fun a w ha _ => by
  show Sem.run P (do pure (Next.value (← Instr.indexAt t (a.eval x) (a.eval y)))) w = _
  rw [ha.ev hx, ha.ev hy]
  refine run_v ?_
  have hk' : (0 : Int) ≤ (k : Int) ∧ (k : Int) < (m : Int) := by omega
  unfold Instr.indexAt
  simp only [asIntOf, Sem.run_bind, Sem.run_pure, Result.andThen_ok, run_underlying hT w, Instr.sureAddr]
  rw [if_pos hk']
  simp [Sem.run_bind, run_sizeOf hz w, add_plain']
theorem ex_addr_arr0 {t e : TypeId} {x y : Operand} {m k g : Nat} {ki : IntKind} (hx : ev l x = some (.pointer (some ⟨g, 0, none⟩))) (hy : ev l y = some (.int ki (k : Int))) (hT : P.underlying t = some (.array m e)) (hz : (P.info? e).map (·.size) = some 1) (hk : k < m) :
    Ex P n w0 M l hs ⟨d, .indexAddr t x y, ty, pos, af, gd⟩ (.pointer (some ⟨g, k, none⟩)) := by
  have h := ex_addr_arr (n := n) (w0 := w0) (M := M) (hs := hs) (d := d) (ty := ty) (pos := pos) (af := af) (gd := gd) hx hy hT 1 hz hk
  simpa using h
theorem ex_addr_arr1 {t e : TypeId} {x y : Operand} {m k g o : Nat} {ki : IntKind} (hx : ev l x = some (.pointer (some ⟨g, o, none⟩))) (hy : ev l y = some (.int ki (k : Int))) (hT : P.underlying t = some (.array m e)) (hz : (P.info? e).map (·.size) = some 1) (hk : k < m) :
    Ex P n w0 M l hs ⟨d, .indexAddr t x y, ty, pos, af, gd⟩ (.pointer (some ⟨g, o + k, none⟩)) := by
  have h := ex_addr_arr (n := n) (w0 := w0) (M := M) (hs := hs) (d := d) (ty := ty) (pos := pos) (af := af) (gd := gd) hx hy hT 1 hz hk
  simpa using h
/-- the address of a slice's element -/
theorem ex_addr_slice {t e : TypeId} {x y : Operand} {m c k : Nat} {p : Addr} {ki : IntKind} (hx : ev l x = some (.slice (some p) m c)) (hy : ev l y = some (.int ki (k : Int))) (hT : P.underlying t = some (.slice e)) (sz : Nat) (hz : (P.info? e).map (·.size) = some sz) (hk : k < m) :
    Ex P n w0 M l hs ⟨d, .indexAddr t x y, ty, pos, af, gd⟩ (.pointer (some (p.add (k * sz)))) := fun a w ha _ => by
  show Sem.run P (do pure (Next.value (← Instr.indexAt t (a.eval x) (a.eval y)))) w = _
  rw [ha.ev hx, ha.ev hy]
  refine run_v ?_
  have hk' : (0 : Int) ≤ (k : Int) ∧ (k : Int) < (m : Int) := by omega
  unfold Instr.indexAt
  simp only [asIntOf, Sem.run_bind, Sem.run_pure, Result.andThen_ok, run_underlying hT w]
  rw [if_pos hk']
  simp [Sem.run_bind, run_sizeOf hz w]
theorem ex_len_slice {t : TypeId} {x : Operand} {A : Option Addr} {m c : Nat} {e : TypeId} (hx : ev l x = some (.slice A m c)) (hT : P.underlying t = some (.slice e)) :
    Ex P n w0 M l hs ⟨d, .call { callee := .builtin .len, args := #[x], argTypes := #[t] }, ty, pos, af, gd⟩ (.int .i64 (m : Int)) := fun a w ha _ => by
  show Sem.run P (do pure (Next.value (← Builtin.len_ #[t] ty (#[x].map a.eval)))) w = _
  refine run_v ?_
  simp [Builtin.len_, ha.ev hx, Sem.run_bind, run_underlying hT w, goInt]
theorem ex_len_string {t : TypeId} {x : Operand} {s : ByteArray} (hx : ev l x = some (.string s)) (hT : P.underlying t = some .string) :
    Ex P n w0 M l hs ⟨d, .call { callee := .builtin .len, args := #[x], argTypes := #[t] }, ty, pos, af, gd⟩ (.int .i64 (s.size : Int)) := fun a w ha _ => by
  show Sem.run P (do pure (Next.value (← Builtin.len_ #[t] ty (#[x].map a.eval)))) w = _
  refine run_v ?_
  simp [Builtin.len_, ha.ev hx, Sem.run_bind, run_underlying hT w, goInt]

/-! turning the world -/
theorem exw_new {X : Type} {val : X → Value} {hs' : X → List HB} {pre : X → Prop} {o : Oper} (h : ∀ a w, Agree n l a → Hp w0 M hs w → ∃ x w', pre x ∧ Hp w0 M (hs' x) w' ∧ (execOp a.eval o).run P w = .ok (.value (val x)) w') :
    ExW P n w0 M l hs o val hs' pre := fun a w ha hw next Q k => by
  obtain ⟨x, w', h1, h2, h3⟩ := h a w ha hw
  unfold Oper.wp
  rw [h3, Oper.upon_value]
  exact k x w' h1 h2
theorem exw_skip {hs' : List HB} {o : Oper} (h : ∀ a w, Agree n l a → Hp w0 M hs w → ∃ w', Hp w0 M hs' w' ∧ (execOp a.eval o).run P w = .ok .skip w') :
    ExW P n w0 M l hs o (fun _ : Unit => undef) (fun _ => hs') (fun _ => True) := fun a w ha hw next Q k => by
  obtain ⟨w', h2, h3⟩ := h a w ha hw
  unfold Oper.wp
  rw [h3, Oper.upon_skip]
  exact k () w' trivial h2

theorem exw_box {t : TypeId} {x : Operand} {v : Value} (hx : ev l x = some v) :
    ExW P n w0 M l hs ⟨d, .box t x, ty, pos, af, gd⟩ (fun g : Nat => .pointer (some ⟨g, 0, none⟩)) (fun g => ⟨g, v.cells, t, (0, 0)⟩ :: hs) (fun g => w0.heap.size ≤ g) :=
  exw_new fun a w ha hw => ⟨w.heap.size, w.alloc (.cells v.cells t), hw.size, hw.alloc _ _ _, by
    show Sem.run P (do pure (Next.value (← Instr.box t (a.eval x)))) w = _
    rw [ha.ev hx]
    exact run_v (by simp [Instr.box, newVar, newRow, Sem.run_bind])⟩
theorem exw_alloc {t : TypeId} {z : Value} (hz : (P.info? t).map (·.zero) = some (some z)) :
    ExW P n w0 M l hs ⟨d, .alloc t, ty, pos, af, gd⟩ (fun g : Nat => .pointer (some ⟨g, 0, none⟩)) (fun g => ⟨g, z.cells, t, (0, 0)⟩ :: hs) (fun g => w0.heap.size ≤ g) :=
  exw_new fun a w ha hw => ⟨w.heap.size, w.alloc (.cells z.cells t), hw.size, hw.alloc _ _ _, by
    show Sem.run P (do pure (Next.value (← Instr.alloc t true (.tuple #[])))) w = _
    cases hq : P.info? t with
    | none => simp [hq] at hz
    | some i =>
      have hz' : i.zero = some z := by simpa [hq] using hz
      exact run_v (by simp [Instr.alloc, newVar, newRow, Sem.run_bind, zeroValue, typeInfo, hq, hz'])⟩
theorem exw_store {t : TypeId} {x y : Operand} {g j : Nat} {v u : Value} {cs : Array Value} {et : TypeId} (hs1 hs2 : List HB) (hh : hs = hs1 ++ ⟨some g, cs, et, (0, 0)⟩ :: hs2) (hx : ev l x = some (.pointer (some ⟨g, j, none⟩))) (hy : ev l y = some v)
    (hv : cs[j]? = some u) (h1 : v.oneCell' = true) (hz : (P.info? t).map (·.size) = some 1) :
    ExW P n w0 M l hs ⟨d, .store t x y, ty, pos, af, gd⟩ (fun _ : Unit => undef) (fun _ => hs1 ++ ⟨some g, cs.setIfInBounds j v, et, (0, 0)⟩ :: hs2) (fun _ => True) := by
  subst hh
  refine exw_skip fun a w ha hw => ⟨w.setCell ⟨g, j, none⟩ v, hw.setCell j v, ?_⟩
  show Sem.run P (do Instr.storeAt t (a.eval x) (a.eval y); pure Next.skip) w = _
  rw [ha.ev hx, ha.ev hy]
  have hb : w.heap[g]? = some (.cells cs et (0, 0)) := hw.own ⟨some g, cs, et, (0, 0)⟩ (by simp) g rfl
  have hc : w.cell? ⟨g, j, none⟩ = some u := by rw [cell_of_row w g j cs et (0, 0) hb]; exact hv
  have hf : w.frozen? ⟨g, j, none⟩ = false := frozen_of_row w g j cs et hb
  have hvc : v.cells = #[v] := by cases v <;> simp_all [Value.oneCell', Value.cells]
  refine run_u ?_
  simp [Instr.storeAt, Instr.sureAddr, storeVar, Sem.run_bind, hvc, run_sizeOf hz w, storeCells, Addr.add_zero', run_store P w _ v .plain h1, hc, hf]
theorem exw_store_row {t : TypeId} {x y : Operand} {g : Nat} {cs cs' : Array Value} {et : TypeId} (hs1 hs2 : List HB) (hh : hs = hs1 ++ ⟨some g, cs, et, (0, 0)⟩ :: hs2) (hx : ev l x = some (.pointer (some ⟨g, 0, none⟩))) (hy : ev l y = some (.agg cs'))
    (hz : (P.info? t).map (·.size) = some cs'.size) (hsz : cs.size = cs'.size) (h1 : cs'.all (·.oneCell') = true) :
    ExW P n w0 M l hs ⟨d, .store t x y, ty, pos, af, gd⟩ (fun _ : Unit => undef) (fun _ => hs1 ++ ⟨some g, cs', et, (0, 0)⟩ :: hs2) (fun _ => True) := by
  subst hh
  refine exw_skip fun a w ha hw => ⟨w.setRow g cs', hw.setRow (x := ⟨some g, cs, et, (0, 0)⟩) rfl cs', ?_⟩
  show Sem.run P (do Instr.storeAt t (a.eval x) (a.eval y); pure Next.skip) w = _
  rw [ha.ev hx, ha.ev hy]
  refine run_u ?_
  simp only [Instr.storeAt, Instr.sureAddr, Sem.run_bind, Sem.run_pure, Result.andThen_ok]
  exact run_storeVar_row w g et t cs cs' (hw.own ⟨some g, cs, et, (0, 0)⟩ (by simp) g rfl) hz hsz h1

theorem exw_box_agg {t : TypeId} {x : Operand} {cs : Array Value} (hx : ev l x = some (.agg cs)) :
    ExW P n w0 M l hs ⟨d, .box t x, ty, pos, af, gd⟩ (fun g : Nat => .pointer (some ⟨g, 0, none⟩)) (fun g => ⟨some g, cs, t, (0, 0)⟩ :: hs) (fun g => w0.heap.size ≤ g) := exw_box hx
theorem exw_box_one {t : TypeId} {x : Operand} {v : Value} (hx : ev l x = some v) (h1 : v.cells = #[v]) :
    ExW P n w0 M l hs ⟨d, .box t x, ty, pos, af, gd⟩ (fun g : Nat => .pointer (some ⟨g, 0, none⟩)) (fun g => ⟨g, #[v], t, (0, 0)⟩ :: hs) (fun g => w0.heap.size ≤ g) := by rw [← h1]; exact exw_box hx
theorem exw_alloc_cs {t : TypeId} {z : Value} (cs : Array Value) (hz : (P.info? t).map (·.zero) = some (some z)) (hc : z.cells = cs) :
    ExW P n w0 M l hs ⟨d, .alloc t, ty, pos, af, gd⟩ (fun g : Nat => .pointer (some ⟨g, 0, none⟩)) (fun g => ⟨some g, cs, t, (0, 0)⟩ :: hs) (fun g => w0.heap.size ≤ g) := by subst hc; exact exw_alloc hz
theorem exw_store0 {t : TypeId} {x y : Operand} {g j : Nat} {v u : Value} {cs cs' : Array Value} {et : TypeId} {hs2 : List HB} (hx : ev l x = some (.pointer (some ⟨g, j, none⟩))) (hy : ev l y = some v)
    (hv : cs[j]? = some u) (h1 : v.oneCell' = true) (hz : (P.info? t).map (·.size) = some 1) (hc : cs.setIfInBounds j v = cs') :
    ExW P n w0 M l (⟨some g, cs, et, (0, 0)⟩ :: hs2) ⟨d, .store t x y, ty, pos, af, gd⟩ (fun _ : Unit => undef) (fun _ => ⟨some g, cs', et, (0, 0)⟩ :: hs2) (fun _ => True) := by
  subst hc; exact exw_store [] hs2 rfl hx hy hv h1 hz
theorem exw_store_row0 {t : TypeId} {x y : Operand} {g : Nat} {cs cs' : Array Value} {et : TypeId} {hs2 : List HB} (hx : ev l x = some (.pointer (some ⟨g, 0, none⟩))) (hy : ev l y = some (.agg cs'))
    (hz : (P.info? t).map (·.size) = some cs'.size) (hsz : cs.size = cs'.size) (h1 : cs'.all (·.oneCell') = true) :
    ExW P n w0 M l (⟨some g, cs, et, (0, 0)⟩ :: hs2) ⟨d, .store t x y, ty, pos, af, gd⟩ (fun _ : Unit => undef) (fun _ => ⟨some g, cs', et, (0, 0)⟩ :: hs2) (fun _ => True) :=
  exw_store_row [] hs2 rfl hx hy hz hsz h1
theorem exw_store1 {t : TypeId} {x y : Operand} {g j : Nat} {v u : Value} {cs cs' : Array Value} {et : TypeId} {b0 : HB} {hs2 : List HB} (hx : ev l x = some (.pointer (some ⟨g, j, none⟩))) (hy : ev l y = some v)
    (hv : cs[j]? = some u) (h1 : v.oneCell' = true) (hz : (P.info? t).map (·.size) = some 1) (hc : cs.setIfInBounds j v = cs') :
    ExW P n w0 M l (b0 :: ⟨some g, cs, et, (0, 0)⟩ :: hs2) ⟨d, .store t x y, ty, pos, af, gd⟩ (fun _ : Unit => undef) (fun _ => b0 :: ⟨some g, cs', et, (0, 0)⟩ :: hs2) (fun _ => True) := by
  subst hc; exact exw_store [b0] hs2 rfl hx hy hv h1 hz
theorem exw_store_row1 {t : TypeId} {x y : Operand} {g : Nat} {cs cs' : Array Value} {et : TypeId} {b0 : HB} {hs2 : List HB} (hx : ev l x = some (.pointer (some ⟨g, 0, none⟩))) (hy : ev l y = some (.agg cs'))
    (hz : (P.info? t).map (·.size) = some cs'.size) (hsz : cs.size = cs'.size) (h1 : cs'.all (·.oneCell') = true) :
    ExW P n w0 M l (b0 :: ⟨some g, cs, et, (0, 0)⟩ :: hs2) ⟨d, .store t x y, ty, pos, af, gd⟩ (fun _ : Unit => undef) (fun _ => b0 :: ⟨some g, cs', et, (0, 0)⟩ :: hs2) (fun _ => True) :=
  exw_store_row [b0] hs2 rfl hx hy hz hsz h1
theorem exw_store2 {t : TypeId} {x y : Operand} {g j : Nat} {v u : Value} {cs cs' : Array Value} {et : TypeId} {b0 b1 : HB} {hs2 : List HB} (hx : ev l x = some (.pointer (some ⟨g, j, none⟩))) (hy : ev l y = some v)
    (hv : cs[j]? = some u) (h1 : v.oneCell' = true) (hz : (P.info? t).map (·.size) = some 1) (hc : cs.setIfInBounds j v = cs') :
    ExW P n w0 M l (b0 :: b1 :: ⟨some g, cs, et, (0, 0)⟩ :: hs2) ⟨d, .store t x y, ty, pos, af, gd⟩ (fun _ : Unit => undef) (fun _ => b0 :: b1 :: ⟨some g, cs', et, (0, 0)⟩ :: hs2) (fun _ => True) := by
  subst hc; exact exw_store [b0, b1] hs2 rfl hx hy hv h1 hz
theorem exw_store_row2 {t : TypeId} {x y : Operand} {g : Nat} {cs cs' : Array Value} {et : TypeId} {b0 b1 : HB} {hs2 : List HB} (hx : ev l x = some (.pointer (some ⟨g, 0, none⟩))) (hy : ev l y = some (.agg cs'))
    (hz : (P.info? t).map (·.size) = some cs'.size) (hsz : cs.size = cs'.size) (h1 : cs'.all (·.oneCell') = true) :
    ExW P n w0 M l (b0 :: b1 :: ⟨some g, cs, et, (0, 0)⟩ :: hs2) ⟨d, .store t x y, ty, pos, af, gd⟩ (fun _ : Unit => undef) (fun _ => b0 :: b1 :: ⟨some g, cs', et, (0, 0)⟩ :: hs2) (fun _ => True) :=
  exw_store_row [b0, b1] hs2 rfl hx hy hz hsz h1
theorem exw_store3 {t : TypeId} {x y : Operand} {g j : Nat} {v u : Value} {cs cs' : Array Value} {et : TypeId} {b0 b1 b2 : HB} {hs2 : List HB} (hx : ev l x = some (.pointer (some ⟨g, j, none⟩))) (hy : ev l y = some v)
    (hv : cs[j]? = some u) (h1 : v.oneCell' = true) (hz : (P.info? t).map (·.size) = some 1) (hc : cs.setIfInBounds j v = cs') :
    ExW P n w0 M l (b0 :: b1 :: b2 :: ⟨some g, cs, et, (0, 0)⟩ :: hs2) ⟨d, .store t x y, ty, pos, af, gd⟩ (fun _ : Unit => undef) (fun _ => b0 :: b1 :: b2 :: ⟨some g, cs', et, (0, 0)⟩ :: hs2) (fun _ => True) := by
  subst hc; exact exw_store [b0, b1, b2] hs2 rfl hx hy hv h1 hz
theorem exw_store_row3 {t : TypeId} {x y : Operand} {g : Nat} {cs cs' : Array Value} {et : TypeId} {b0 b1 b2 : HB} {hs2 : List HB} (hx : ev l x = some (.pointer (some ⟨g, 0, none⟩))) (hy : ev l y = some (.agg cs'))
    (hz : (P.info? t).map (·.size) = some cs'.size) (hsz : cs.size = cs'.size) (h1 : cs'.all (·.oneCell') = true) :
    ExW P n w0 M l (b0 :: b1 :: b2 :: ⟨some g, cs, et, (0, 0)⟩ :: hs2) ⟨d, .store t x y, ty, pos, af, gd⟩ (fun _ : Unit => undef) (fun _ => b0 :: b1 :: b2 :: ⟨some g, cs', et, (0, 0)⟩ :: hs2) (fun _ => True) :=
  exw_store_row [b0, b1, b2] hs2 rfl hx hy hz hsz h1
theorem exw_store4 {t : TypeId} {x y : Operand} {g j : Nat} {v u : Value} {cs cs' : Array Value} {et : TypeId} {b0 b1 b2 b3 : HB} {hs2 : List HB} (hx : ev l x = some (.pointer (some ⟨g, j, none⟩))) (hy : ev l y = some v)
    (hv : cs[j]? = some u) (h1 : v.oneCell' = true) (hz : (P.info? t).map (·.size) = some 1) (hc : cs.setIfInBounds j v = cs') :
    ExW P n w0 M l (b0 :: b1 :: b2 :: b3 :: ⟨some g, cs, et, (0, 0)⟩ :: hs2) ⟨d, .store t x y, ty, pos, af, gd⟩ (fun _ : Unit => undef) (fun _ => b0 :: b1 :: b2 :: b3 :: ⟨some g, cs', et, (0, 0)⟩ :: hs2) (fun _ => True) := by
  subst hc; exact exw_store [b0, b1, b2, b3] hs2 rfl hx hy hv h1 hz
theorem exw_store_row4 {t : TypeId} {x y : Operand} {g : Nat} {cs cs' : Array Value} {et : TypeId} {b0 b1 b2 b3 : HB} {hs2 : List HB} (hx : ev l x = some (.pointer (some ⟨g, 0, none⟩))) (hy : ev l y = some (.agg cs'))
    (hz : (P.info? t).map (·.size) = some cs'.size) (hsz : cs.size = cs'.size) (h1 : cs'.all (·.oneCell') = true) :
    ExW P n w0 M l (b0 :: b1 :: b2 :: b3 :: ⟨some g, cs, et, (0, 0)⟩ :: hs2) ⟨d, .store t x y, ty, pos, af, gd⟩ (fun _ : Unit => undef) (fun _ => b0 :: b1 :: b2 :: b3 :: ⟨some g, cs', et, (0, 0)⟩ :: hs2) (fun _ => True) :=
  exw_store_row [b0, b1, b2, b3] hs2 rfl hx hy hz hsz h1
theorem exw_store5 {t : TypeId} {x y : Operand} {g j : Nat} {v u : Value} {cs cs' : Array Value} {et : TypeId} {b0 b1 b2 b3 b4 : HB} {hs2 : List HB} (hx : ev l x = some (.pointer (some ⟨g, j, none⟩))) (hy : ev l y = some v)
    (hv : cs[j]? = some u) (h1 : v.oneCell' = true) (hz : (P.info? t).map (·.size) = some 1) (hc : cs.setIfInBounds j v = cs') :
    ExW P n w0 M l (b0 :: b1 :: b2 :: b3 :: b4 :: ⟨some g, cs, et, (0, 0)⟩ :: hs2) ⟨d, .store t x y, ty, pos, af, gd⟩ (fun _ : Unit => undef) (fun _ => b0 :: b1 :: b2 :: b3 :: b4 :: ⟨some g, cs', et, (0, 0)⟩ :: hs2) (fun _ => True) := by
  subst hc; exact exw_store [b0, b1, b2, b3, b4] hs2 rfl hx hy hv h1 hz
theorem exw_store_row5 {t : TypeId} {x y : Operand} {g : Nat} {cs cs' : Array Value} {et : TypeId} {b0 b1 b2 b3 b4 : HB} {hs2 : List HB} (hx : ev l x = some (.pointer (some ⟨g, 0, none⟩))) (hy : ev l y = some (.agg cs'))
    (hz : (P.info? t).map (·.size) = some cs'.size) (hsz : cs.size = cs'.size) (h1 : cs'.all (·.oneCell') = true) :
    ExW P n w0 M l (b0 :: b1 :: b2 :: b3 :: b4 :: ⟨some g, cs, et, (0, 0)⟩ :: hs2) ⟨d, .store t x y, ty, pos, af, gd⟩ (fun _ : Unit => undef) (fun _ => b0 :: b1 :: b2 :: b3 :: b4 :: ⟨some g, cs', et, (0, 0)⟩ :: hs2) (fun _ => True) :=
  exw_store_row [b0, b1, b2, b3, b4] hs2 rfl hx hy hz hsz h1
theorem exw_store6 {t : TypeId} {x y : Operand} {g j : Nat} {v u : Value} {cs cs' : Array Value} {et : TypeId} {b0 b1 b2 b3 b4 b5 : HB} {hs2 : List HB} (hx : ev l x = some (.pointer (some ⟨g, j, none⟩))) (hy : ev l y = some v)
    (hv : cs[j]? = some u) (h1 : v.oneCell' = true) (hz : (P.info? t).map (·.size) = some 1) (hc : cs.setIfInBounds j v = cs') :
    ExW P n w0 M l (b0 :: b1 :: b2 :: b3 :: b4 :: b5 :: ⟨some g, cs, et, (0, 0)⟩ :: hs2) ⟨d, .store t x y, ty, pos, af, gd⟩ (fun _ : Unit => undef) (fun _ => b0 :: b1 :: b2 :: b3 :: b4 :: b5 :: ⟨some g, cs', et, (0, 0)⟩ :: hs2) (fun _ => True) := by
  subst hc; exact exw_store [b0, b1, b2, b3, b4, b5] hs2 rfl hx hy hv h1 hz
theorem exw_store_row6 {t : TypeId} {x y : Operand} {g : Nat} {cs cs' : Array Value} {et : TypeId} {b0 b1 b2 b3 b4 b5 : HB} {hs2 : List HB} (hx : ev l x = some (.pointer (some ⟨g, 0, none⟩))) (hy : ev l y = some (.agg cs'))
    (hz : (P.info? t).map (·.size) = some cs'.size) (hsz : cs.size = cs'.size) (h1 : cs'.all (·.oneCell') = true) :
    ExW P n w0 M l (b0 :: b1 :: b2 :: b3 :: b4 :: b5 :: ⟨some g, cs, et, (0, 0)⟩ :: hs2) ⟨d, .store t x y, ty, pos, af, gd⟩ (fun _ : Unit => undef) (fun _ => b0 :: b1 :: b2 :: b3 :: b4 :: b5 :: ⟨some g, cs', et, (0, 0)⟩ :: hs2) (fun _ => True) :=
  exw_store_row [b0, b1, b2, b3, b4, b5] hs2 rfl hx hy hz hsz h1
theorem exw_store7 {t : TypeId} {x y : Operand} {g j : Nat} {v u : Value} {cs cs' : Array Value} {et : TypeId} {b0 b1 b2 b3 b4 b5 b6 : HB} {hs2 : List HB} (hx : ev l x = some (.pointer (some ⟨g, j, none⟩))) (hy : ev l y = some v)
    (hv : cs[j]? = some u) (h1 : v.oneCell' = true) (hz : (P.info? t).map (·.size) = some 1) (hc : cs.setIfInBounds j v = cs') :
    ExW P n w0 M l (b0 :: b1 :: b2 :: b3 :: b4 :: b5 :: b6 :: ⟨some g, cs, et, (0, 0)⟩ :: hs2) ⟨d, .store t x y, ty, pos, af, gd⟩ (fun _ : Unit => undef) (fun _ => b0 :: b1 :: b2 :: b3 :: b4 :: b5 :: b6 :: ⟨some g, cs', et, (0, 0)⟩ :: hs2) (fun _ => True) := by
  subst hc; exact exw_store [b0, b1, b2, b3, b4, b5, b6] hs2 rfl hx hy hv h1 hz
theorem exw_store_row7 {t : TypeId} {x y : Operand} {g : Nat} {cs cs' : Array Value} {et : TypeId} {b0 b1 b2 b3 b4 b5 b6 : HB} {hs2 : List HB} (hx : ev l x = some (.pointer (some ⟨g, 0, none⟩))) (hy : ev l y = some (.agg cs'))
    (hz : (P.info? t).map (·.size) = some cs'.size) (hsz : cs.size = cs'.size) (h1 : cs'.all (·.oneCell') = true) :
    ExW P n w0 M l (b0 :: b1 :: b2 :: b3 :: b4 :: b5 :: b6 :: ⟨some g, cs, et, (0, 0)⟩ :: hs2) ⟨d, .store t x y, ty, pos, af, gd⟩ (fun _ : Unit => undef) (fun _ => b0 :: b1 :: b2 :: b3 :: b4 :: b5 :: b6 :: ⟨some g, cs', et, (0, 0)⟩ :: hs2) (fun _ => True) :=
  exw_store_row [b0, b1, b2, b3, b4, b5, b6] hs2 rfl hx hy hz hsz h1

theorem exw_store8 {t : TypeId} {x y : Operand} {g j : Nat} {v u : Value} {cs cs' : Array Value} {et : TypeId} {b0 b1 b2 b3 b4 b5 b6 b7 : HB} {hs2 : List HB} (hx : ev l x = some (.pointer (some ⟨g, j, none⟩))) (hy : ev l y = some v)
    (hv : cs[j]? = some u) (h1 : v.oneCell' = true) (hz : (P.info? t).map (·.size) = some 1) (hc : cs.setIfInBounds j v = cs') :
    ExW P n w0 M l (b0 :: b1 :: b2 :: b3 :: b4 :: b5 :: b6 :: b7 :: ⟨some g, cs, et, (0, 0)⟩ :: hs2) ⟨d, .store t x y, ty, pos, af, gd⟩ (fun _ : Unit => undef) (fun _ => b0 :: b1 :: b2 :: b3 :: b4 :: b5 :: b6 :: b7 :: ⟨some g, cs', et, (0, 0)⟩ :: hs2) (fun _ => True) := by
  subst hc; exact exw_store [b0, b1, b2, b3, b4, b5, b6, b7] hs2 rfl hx hy hv h1 hz
theorem exw_store_row8 {t : TypeId} {x y : Operand} {g : Nat} {cs cs' : Array Value} {et : TypeId} {b0 b1 b2 b3 b4 b5 b6 b7 : HB} {hs2 : List HB} (hx : ev l x = some (.pointer (some ⟨g, 0, none⟩))) (hy : ev l y = some (.agg cs'))
    (hz : (P.info? t).map (·.size) = some cs'.size) (hsz : cs.size = cs'.size) (h1 : cs'.all (·.oneCell') = true) :
    ExW P n w0 M l (b0 :: b1 :: b2 :: b3 :: b4 :: b5 :: b6 :: b7 :: ⟨some g, cs, et, (0, 0)⟩ :: hs2) ⟨d, .store t x y, ty, pos, af, gd⟩ (fun _ : Unit => undef) (fun _ => b0 :: b1 :: b2 :: b3 :: b4 :: b5 :: b6 :: b7 :: ⟨some g, cs', et, (0, 0)⟩ :: hs2) (fun _ => True) :=
  exw_store_row [b0, b1, b2, b3, b4, b5, b6, b7] hs2 rfl hx hy hz hsz h1

theorem exw_store9 {t : TypeId} {x y : Operand} {g j : Nat} {v u : Value} {cs cs' : Array Value} {et : TypeId} {b0 b1 b2 b3 b4 b5 b6 b7 b8 : HB} {hs2 : List HB} (hx : ev l x = some (.pointer (some ⟨g, j, none⟩))) (hy : ev l y = some v)
    (hv : cs[j]? = some u) (h1 : v.oneCell' = true) (hz : (P.info? t).map (·.size) = some 1) (hc : cs.setIfInBounds j v = cs') :
    ExW P n w0 M l (b0 :: b1 :: b2 :: b3 :: b4 :: b5 :: b6 :: b7 :: b8 :: ⟨some g, cs, et, (0, 0)⟩ :: hs2) ⟨d, .store t x y, ty, pos, af, gd⟩ (fun _ : Unit => undef) (fun _ => b0 :: b1 :: b2 :: b3 :: b4 :: b5 :: b6 :: b7 :: b8 :: ⟨some g, cs', et, (0, 0)⟩ :: hs2) (fun _ => True) := by
  subst hc; exact exw_store [b0, b1, b2, b3, b4, b5, b6, b7, b8] hs2 rfl hx hy hv h1 hz
theorem exw_store_row9 {t : TypeId} {x y : Operand} {g : Nat} {cs cs' : Array Value} {et : TypeId} {b0 b1 b2 b3 b4 b5 b6 b7 b8 : HB} {hs2 : List HB} (hx : ev l x = some (.pointer (some ⟨g, 0, none⟩))) (hy : ev l y = some (.agg cs'))
    (hz : (P.info? t).map (·.size) = some cs'.size) (hsz : cs.size = cs'.size) (h1 : cs'.all (·.oneCell') = true) :
    ExW P n w0 M l (b0 :: b1 :: b2 :: b3 :: b4 :: b5 :: b6 :: b7 :: b8 :: ⟨some g, cs, et, (0, 0)⟩ :: hs2) ⟨d, .store t x y, ty, pos, af, gd⟩ (fun _ : Unit => undef) (fun _ => b0 :: b1 :: b2 :: b3 :: b4 :: b5 :: b6 :: b7 :: b8 :: ⟨some g, cs', et, (0, 0)⟩ :: hs2) (fun _ => True) :=
  exw_store_row [b0, b1, b2, b3, b4, b5, b6, b7, b8] hs2 rfl hx hy hz hsz h1

theorem exw_store10 {t : TypeId} {x y : Operand} {g j : Nat} {v u : Value} {cs cs' : Array Value} {et : TypeId} {b0 b1 b2 b3 b4 b5 b6 b7 b8 b9 : HB} {hs2 : List HB} (hx : ev l x = some (.pointer (some ⟨g, j, none⟩))) (hy : ev l y = some v)
    (hv : cs[j]? = some u) (h1 : v.oneCell' = true) (hz : (P.info? t).map (·.size) = some 1) (hc : cs.setIfInBounds j v = cs') :
    ExW P n w0 M l (b0 :: b1 :: b2 :: b3 :: b4 :: b5 :: b6 :: b7 :: b8 :: b9 :: ⟨some g, cs, et, (0, 0)⟩ :: hs2) ⟨d, .store t x y, ty, pos, af, gd⟩ (fun _ : Unit => undef) (fun _ => b0 :: b1 :: b2 :: b3 :: b4 :: b5 :: b6 :: b7 :: b8 :: b9 :: ⟨some g, cs', et, (0, 0)⟩ :: hs2) (fun _ => True) := by
  subst hc; exact exw_store [b0, b1, b2, b3, b4, b5, b6, b7, b8, b9] hs2 rfl hx hy hv h1 hz
theorem exw_store_row10 {t : TypeId} {x y : Operand} {g : Nat} {cs cs' : Array Value} {et : TypeId} {b0 b1 b2 b3 b4 b5 b6 b7 b8 b9 : HB} {hs2 : List HB} (hx : ev l x = some (.pointer (some ⟨g, 0, none⟩))) (hy : ev l y = some (.agg cs'))
    (hz : (P.info? t).map (·.size) = some cs'.size) (hsz : cs.size = cs'.size) (h1 : cs'.all (·.oneCell') = true) :
    ExW P n w0 M l (b0 :: b1 :: b2 :: b3 :: b4 :: b5 :: b6 :: b7 :: b8 :: b9 :: ⟨some g, cs, et, (0, 0)⟩ :: hs2) ⟨d, .store t x y, ty, pos, af, gd⟩ (fun _ : Unit => undef) (fun _ => b0 :: b1 :: b2 :: b3 :: b4 :: b5 :: b6 :: b7 :: b8 :: b9 :: ⟨some g, cs', et, (0, 0)⟩ :: hs2) (fun _ => True) :=
  exw_store_row [b0, b1, b2, b3, b4, b5, b6, b7, b8, b9] hs2 rfl hx hy hz hsz h1

theorem exw_store11 {t : TypeId} {x y : Operand} {g j : Nat} {v u : Value} {cs cs' : Array Value} {et : TypeId} {b0 b1 b2 b3 b4 b5 b6 b7 b8 b9 b10 : HB} {hs2 : List HB} (hx : ev l x = some (.pointer (some ⟨g, j, none⟩))) (hy : ev l y = some v)
    (hv : cs[j]? = some u) (h1 : v.oneCell' = true) (hz : (P.info? t).map (·.size) = some 1) (hc : cs.setIfInBounds j v = cs') :
    ExW P n w0 M l (b0 :: b1 :: b2 :: b3 :: b4 :: b5 :: b6 :: b7 :: b8 :: b9 :: b10 :: ⟨some g, cs, et, (0, 0)⟩ :: hs2) ⟨d, .store t x y, ty, pos, af, gd⟩ (fun _ : Unit => undef) (fun _ => b0 :: b1 :: b2 :: b3 :: b4 :: b5 :: b6 :: b7 :: b8 :: b9 :: b10 :: ⟨some g, cs', et, (0, 0)⟩ :: hs2) (fun _ => True) := by
  subst hc; exact exw_store [b0, b1, b2, b3, b4, b5, b6, b7, b8, b9, b10] hs2 rfl hx hy hv h1 hz
theorem exw_store_row11 {t : TypeId} {x y : Operand} {g : Nat} {cs cs' : Array Value} {et : TypeId} {b0 b1 b2 b3 b4 b5 b6 b7 b8 b9 b10 : HB} {hs2 : List HB} (hx : ev l x = some (.pointer (some ⟨g, 0, none⟩))) (hy : ev l y = some (.agg cs'))
    (hz : (P.info? t).map (·.size) = some cs'.size) (hsz : cs.size = cs'.size) (h1 : cs'.all (·.oneCell') = true) :
    ExW P n w0 M l (b0 :: b1 :: b2 :: b3 :: b4 :: b5 :: b6 :: b7 :: b8 :: b9 :: b10 :: ⟨some g, cs, et, (0, 0)⟩ :: hs2) ⟨d, .store t x y, ty, pos, af, gd⟩ (fun _ : Unit => undef) (fun _ => b0 :: b1 :: b2 :: b3 :: b4 :: b5 :: b6 :: b7 :: b8 :: b9 :: b10 :: ⟨some g, cs', et, (0, 0)⟩ :: hs2) (fun _ => True) :=
  exw_store_row [b0, b1, b2, b3, b4, b5, b6, b7, b8, b9, b10] hs2 rfl hx hy hz hsz h1

/-- a call of a function of the program -/
theorem run_call_func {ρ : Operand → Value} {f : FuncId} {fn : Func} {xs : Array Operand} {ts : Array TypeId} (hf : P.funcs[f]? = some fn) (hb : fn.body.isNone = false) (hn : (fn.name == "runtime.NumGoroutine") = false) (w : World) :
    (execOp ρ ⟨d, .call { callee := .value (.func f), args := xs, argTypes := ts }, ty, pos, af, gd⟩).run P w = .ok (.enter f (xs.map ρ)) w ∨ ρ (.func f) ≠ .func (.func f) #[] #[] := by
  by_cases h : ρ (.func f) = .func (.func f) #[] #[]
  · left
    have hn' : ¬ fn.name = "runtime.NumGoroutine" := by simpa using hn
    have hb' : ¬ fn.body = none := by intro e; rw [e] at hb; simp at hb
    simp [execOp, resolve, h, Deferred.ofValue, invoke, callFunc, Sem.run_bind, run_program, hf, hn', hb']
  · exact .inr h
theorem exw_call {X : Type} {val : X → Value} {hs' : X → List HB} {pre : X → Prop} {f : FuncId} {fn : Func} {xs : List Operand} {vs : List Value} {ts : Array TypeId} (hf : P.funcs[f]? = some fn) (hb : fn.body.isNone = false) (hn : (fn.name == "runtime.NumGoroutine") = false)
    (hx : evs l xs = some vs) (hc : ∀ w, Hp w0 M hs w → Calls P f vs.toArray w fun e w' => ∃ x, pre x ∧ e = .returned (val x) ∧ Hp w0 M (hs' x) w') :
    ExW P n w0 M l hs ⟨d, .call { callee := .value (.func f), args := xs.toArray, argTypes := ts }, ty, pos, af, gd⟩ val hs' pre := fun a w ha hw next Q k => by
  unfold Oper.wp
  have hr := (run_call_func (ρ := a.eval) (d := d) (ty := ty) (pos := pos) (af := af) (gd := gd) (xs := xs.toArray) (ts := ts) hf hb hn w).resolve_right (fun h => h rfl)
  have hm : xs.toArray.map a.eval = vs.toArray := by rw [← ha.evs hx]; simp
  rw [hr, hm, Oper.upon_enter]
  refine (hc w hw).mono ?_
  rintro e w' ⟨x, h1, rfl, h2⟩
  exact k x w' h1 h2
/-- a call whose contract says: this value, and nothing that was there has turned -/
theorem exw_call_pure {v : Value} {f : FuncId} {fn : Func} {xs : List Operand} {vs : List Value} {ts : Array TypeId} (hf : P.funcs[f]? = some fn) (hb : fn.body.isNone = false) (hn : (fn.name == "runtime.NumGoroutine") = false)
    (hx : evs l xs = some vs) (hc : ∀ w, Hp w0 M hs w → Calls P f vs.toArray w fun e w' => e = .returned v ∧ Below w.heap.size w w') :
    ExW P n w0 M l hs ⟨d, .call { callee := .value (.func f), args := xs.toArray, argTypes := ts }, ty, pos, af, gd⟩ (fun _ : Unit => v) (fun _ => hs) (fun _ => True) :=
  exw_call hf hb hn hx fun w hw => (hc w hw).mono fun e w' ⟨h1, h2⟩ => ⟨(), trivial, h1, hw.on h2⟩
end

/-! ### regions whose order is drawn -/
section
variable {P : Program} {n : Nat} {w0 : World} {M : List Nat} {Q : Exit → Act → World → Prop} {l : List (Nat × Value)} {hs S : List HB} {os : List Oper}

theorem wanted_none {ops : Array Oper} {o : Oper} (hg : o.guard = none) (a : Act) : Region.wanted o (yielded ops a.tmps) = true := by unfold Region.wanted; rw [hg]
theorem yielded_of {ops : Array Oper} {a : Act} {j s : Nat} {b : Bool} (ha : Agree n l a) (hd : (ops[j]?).bind (·.dst) = some s) (hs : look l s = some (.bool b)) (hn : Nat.blt s n = true) : yielded ops a.tmps j = some b := by
  have hlt : s < a.tmps.size := by rw [ha.size]; exact Nat.le_of_ble_eq_true hn
  have h := ha.vals s _ hs
  have h2 : a.tmps[s]? = some (.bool b) := by
    rw [Array.getD_eq_getD_getElem?] at h
    rw [Array.getElem?_eq_getElem hlt] at h ⊢
    simpa using h
  unfold yielded
  rw [hd, Option.bind_some, h2]

/-- only reads, then a tail in its order -/
def HS (P : Program) (n : Nat) (w0 : World) (M : List Nat) (Q : Exit → Act → World → Prop) (ops : Array Oper) (tail : List Oper) (rest : List Oper) (l : List (Nat × Value)) (hs : List HB) : Prop :=
  ∀ a w, Agree n l a → Hp w0 M hs w → wpStill P ops w (fun a' => wpList P ops Q tail a' w) rest a
theorem hl_still (k : Nat) {id : Nat} (hm : P.follows .mixedOrders = true) (hB : Region.lexTailB .any os.toArray k = true) (h : HS P n w0 M Q os.toArray (os.drop k) (os.take k) l hs) : HL P n w0 M Q (.region id os.toArray true) l hs :=
  fun a w ha hw => wp_region_still_tail k hm hB (h a w.drew ha hw.drew)
theorem hs_val {ops : Array Oper} {tail rest : List Oper} {o : Oper} {v : Value} (hg : o.guard = none) (hd : dstOk n o.dst = true) (hx : Ex P n w0 M l hs o v) (h : HS P n w0 M Q ops tail rest (putl l o.dst v) hs) : HS P n w0 M Q ops tail (o :: rest) l hs := fun a w ha hw => by
  unfold wpStill
  rw [if_pos (wanted_none hg a)]
  unfold Oper.still
  rw [hx a w ha hw, Oper.stillUpon_value]
  exact h _ _ (ha.putl hd v) hw
theorem hs_skip {ops : Array Oper} {tail rest : List Oper} {o : Oper} {j s : Nat} {b c : Bool} (hg : o.guard = some (j, c)) (hd : dstOk n o.dst = true) (hj : (ops[j]?).bind (·.dst) = some s) (hl : look l s = some (.bool b)) (hn : Nat.blt s n = true) (hbc : (b == c) = false)
    (h : HS P n w0 M Q ops tail rest (putl l o.dst undef) hs) : HS P n w0 M Q ops tail (o :: rest) l hs := fun a w ha hw => by
  unfold wpStill
  rw [if_neg (by unfold Region.wanted; rw [hg]; simp only; rw [yielded_of ha hj hl hn]; cases b <;> cases c <;> simp_all)]
  exact h _ _ (ha.putl hd undef) hw
theorem hs_want {ops : Array Oper} {tail rest : List Oper} {o : Oper} {v : Value} {j s : Nat} {b : Bool} (hg : o.guard = some (j, b)) (hd : dstOk n o.dst = true) (hj : (ops[j]?).bind (·.dst) = some s) (hl : look l s = some (.bool b)) (hn : Nat.blt s n = true) (hx : Ex P n w0 M l hs o v)
    (h : HS P n w0 M Q ops tail rest (putl l o.dst v) hs) : HS P n w0 M Q ops tail (o :: rest) l hs := fun a w ha hw => by
  unfold wpStill
  rw [if_pos (by unfold Region.wanted; rw [hg]; simp only; rw [yielded_of ha hj hl hn]; simp)]
  unfold Oper.still
  rw [hx a w ha hw, Oper.stillUpon_value]
  exact h _ _ (ha.putl hd v) hw
theorem wpList_want' {ops : Array Oper} {a : Act} {w : World} {rest : List Oper} {o : Oper} (hw : Region.wanted o (yielded ops a.tmps) = true)
    (h : ∀ K : Act → World → Prop, (∀ a w, wpList P ops Q rest a w → K a w) → o.wp P a w K Q) : wpList P ops Q (o :: rest) a w := wpList_step fun K hK => by rw [if_pos hw]; exact h K hK
theorem ho_want {ops : Array Oper} {rest : List Oper} {o : Oper} {v : Value} {j s : Nat} {b : Bool} (hg : o.guard = some (j, b)) (hd : dstOk n o.dst = true) (hj : (ops[j]?).bind (·.dst) = some s) (hl : look l s = some (.bool b)) (hn : Nat.blt s n = true) (hx : Ex P n w0 M l hs o v)
    (h : HO P n w0 M Q ops rest (putl l o.dst v) hs) : HO P n w0 M Q ops (o :: rest) l hs := fun a w ha hw => by
  refine wpList_want' (by unfold Region.wanted; rw [hg]; simp only; rw [yielded_of ha hj hl hn]; simp) fun K hK => ?_
  unfold Oper.wp
  rw [hx a w ha hw, Oper.upon_value]
  exact hK _ _ (h _ _ (ha.putl hd v) hw)
theorem ho_skip {ops : Array Oper} {rest : List Oper} {o : Oper} {j s : Nat} {b c : Bool} (hg : o.guard = some (j, c)) (hd : dstOk n o.dst = true) (hj : (ops[j]?).bind (·.dst) = some s) (hl : look l s = some (.bool b)) (hn : Nat.blt s n = true) (hbc : (b == c) = false)
    (h : HO P n w0 M Q ops rest (putl l o.dst undef) hs) : HO P n w0 M Q ops (o :: rest) l hs := fun a w ha hw => by
  refine wpList_skip (by unfold Region.wanted; rw [hg]; simp only; rw [yielded_of ha hj hl hn]; cases b <;> cases c <;> simp_all) ?_
  exact h _ _ (ha.putl hd undef) hw
theorem ho_do_want {ops : Array Oper} {rest : List Oper} {o : Oper} {X : Type} {val : X → Value} {hs' : X → List HB} {pre : X → Prop} {j s : Nat} {b : Bool} (hg : o.guard = some (j, b)) (hd : dstOk n o.dst = true) (hj : (ops[j]?).bind (·.dst) = some s) (hl : look l s = some (.bool b)) (hn : Nat.blt s n = true)
    (hx : ExW P n w0 M l hs o val hs' pre) (h : ∀ x, pre x → HO P n w0 M Q ops rest (putl l o.dst (val x)) (hs' x)) : HO P n w0 M Q ops (o :: rest) l hs := fun a w ha hw =>
  wpList_want' (by unfold Region.wanted; rw [hg]; simp only; rw [yielded_of ha hj hl hn]; simp) fun K hK => hx a w ha hw K Q fun x w' hp hw' => hK _ _ (h x hp _ _ (ha.putl hd _) hw')
theorem hs_nil {ops : Array Oper} {tail : List Oper} (h : HO P n w0 M Q ops tail l hs) : HS P n w0 M Q ops tail [] l hs := fun a w ha hw => wpStill_nil (h a w ha hw)

/-- reads beside calls: 'S' are the blocks that no operation of the region turns -/
theorem hl_held (S : List HB) {id : Nat} (hm : P.follows .mixedOrders = true) {is : List Nat} (hn : is.Nodup) (hS : At is S hs) (h : HA P n w0 M Q os.toArray S os.length (Array.replicate os.length false) l hs) : HL P n w0 M Q (.region id os.toArray true) l hs :=
  fun a w ha hw => wp_region_held hm (by simpa using h a w.drew ha hw.drew (hw.drew.pick hn hS))
theorem ha_take (i : Nat) {ops : Array Oper} {fuel : Nat} {listed : Array Bool} {o : Oper} {v : Value} (hi : ops[i]? = some o) (hs' : Region.noSelect ops = true) (hf : Region.free .any ops listed i = true) (hr : (Region.ready .any ops listed).contains i = true)
    (hQ : ∀ c a w, Q (.panic c) (a.put o.dst v) w → Q (.panic c) a w) (hg : o.guard = none) (hd : dstOk n o.dst = true) (hx : Ex P n w0 M l S o v) (h : HA P n w0 M Q ops S fuel (listed.setIfInBounds i true) (putl l o.dst v) hs) : HA P n w0 M Q ops S (fuel + 1) listed l hs :=
  fun a w ha hw hS => wpAnyH_take hi hs' hf hr hQ (.inl ⟨wanted_none hg a, fun w' hw' => hx a w' ha hw'⟩) hS (h _ _ (ha.putl hd v) hw hS)
theorem ha_skip (i : Nat) {ops : Array Oper} {fuel : Nat} {listed : Array Bool} {o : Oper} {j s : Nat} {b c : Bool} (hi : ops[i]? = some o) (hs' : Region.noSelect ops = true) (hf : Region.free .any ops listed i = true) (hr : (Region.ready .any ops listed).contains i = true)
    (hQ : ∀ c a w, Q (.panic c) (a.put o.dst undef) w → Q (.panic c) a w) (hg : o.guard = some (j, c)) (hd : dstOk n o.dst = true) (hj : (ops[j]?).bind (·.dst) = some s) (hl : look l s = some (.bool b)) (hn : Nat.blt s n = true) (hbc : (b == c) = false)
    (h : HA P n w0 M Q ops S fuel (listed.setIfInBounds i true) (putl l o.dst undef) hs) : HA P n w0 M Q ops S (fuel + 1) listed l hs :=
  fun a w ha hw hS => wpAnyH_take hi hs' hf hr hQ (.inr ⟨by unfold Region.wanted; rw [hg]; simp only; rw [yielded_of ha hj hl hn]; cases b <;> cases c <;> simp_all, rfl⟩) hS (h _ _ (ha.putl hd undef) hw hS)
theorem ha_want (i : Nat) {ops : Array Oper} {fuel : Nat} {listed : Array Bool} {o : Oper} {v : Value} {j s : Nat} {b : Bool} (hi : ops[i]? = some o) (hs' : Region.noSelect ops = true) (hf : Region.free .any ops listed i = true) (hr : (Region.ready .any ops listed).contains i = true)
    (hQ : ∀ c a w, Q (.panic c) (a.put o.dst v) w → Q (.panic c) a w) (hg : o.guard = some (j, b)) (hd : dstOk n o.dst = true) (hj : (ops[j]?).bind (·.dst) = some s) (hl : look l s = some (.bool b)) (hn : Nat.blt s n = true) (hx : Ex P n w0 M l S o v)
    (h : HA P n w0 M Q ops S fuel (listed.setIfInBounds i true) (putl l o.dst v) hs) : HA P n w0 M Q ops S (fuel + 1) listed l hs :=
  fun a w ha hw hS => wpAnyH_take hi hs' hf hr hQ (.inl ⟨by unfold Region.wanted; rw [hg]; simp only; rw [yielded_of ha hj hl hn]; simp, fun w' hw' => hx a w' ha hw'⟩) hS (h _ _ (ha.putl hd v) hw hS)
theorem ha_do (i : Nat) {ops : Array Oper} {fuel : Nat} {listed : Array Bool} {o : Oper} {X : Type} {val : X → Value} {hs' : X → List HB} {pre : X → Prop} (hi : ops[i]? = some o) (hr : Region.ready .any ops listed = [i])
    (hw : ∀ a, Agree n l a → Region.wanted o (yielded ops a.tmps) = true) (hd : dstOk n o.dst = true) (hx : ExW P n w0 M l hs o val hs' pre) {is : List Nat} (hn : is.Nodup) (hS : ∀ x, pre x → At is S (hs' x))
    (h : ∀ x, pre x → HA P n w0 M Q ops S fuel (listed.setIfInBounds i true) (putl l o.dst (val x)) (hs' x)) : HA P n w0 M Q ops S (fuel + 1) listed l hs :=
  fun a w ha hw' _ => wpAnyH_all hr (by simp) fun j hj => by
    obtain rfl : j = i := by simpa using hj
    unfold wpOp
    simp only [hi, hw a ha, if_true]
    exact .inl (hx a w ha hw' _ _ fun x w2 hp h2 => ⟨h2.pick hn (hS x hp), h x hp _ _ (ha.putl hd _) h2 (h2.pick hn (hS x hp))⟩)
theorem ha_pick {ops : Array Oper} {fuel : Nat} {listed : Array Bool} {H : List HB} (is : List Nat) (hn : is.Nodup) (h2 : At is H hs) (h : HA P n w0 M Q ops S fuel listed l H) : HA P n w0 M Q ops S fuel listed l hs := fun a w ha hw hS => h a w ha (hw.pick hn h2) hS
theorem ha_done {ops : Array Oper} {fuel : Nat} {listed : Array Bool} (hr : Region.ready .any ops listed = []) (h : HK n w0 M (fun a w => Q .normal a w) l hs) : HA P n w0 M Q ops S fuel listed l hs :=
  fun a w ha hw _ => wpAnyH_done hr (h a w ha hw) fuel
theorem want_of {ops : Array Oper} {o : Oper} {j s : Nat} {b : Bool} (hg : o.guard = some (j, b)) (hj : (ops[j]?).bind (·.dst) = some s) (hl : look l s = some (.bool b)) (hn : Nat.blt s n = true) : ∀ a, Agree n l a → Region.wanted o (yielded ops a.tmps) = true := fun a ha => by
  unfold Region.wanted; rw [hg]; simp only; rw [yielded_of ha hj hl hn]; simp
end

end Go.Proofs.Ytdmagjelmhcemaa
