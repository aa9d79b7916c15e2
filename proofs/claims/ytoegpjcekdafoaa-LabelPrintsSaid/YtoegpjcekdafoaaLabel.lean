/- Labels: 20 bytes and a name; two compared. Nothing of a program. -/
import Derived.Test.YtoegpjcekdafoaaUn
import Derived.Test.YtoegpjcekdafoaaP
import Derived.Laws.StructEq
import Derived.Lib.Bytealg
namespace Go.Proofs.Ytoegpjcekdafoaa
open Go.RowKit
set_option linter.unusedVariables false
set_option linter.unusedSimpArgs false

/-- the cells of a label -/
def lab (x nx : List UInt8) : Array Value := (x.map vb ++ [Value.string (bs nx)]).toArray
theorem lab_size (x nx : List UInt8) (h : x.length = 20) : (lab x nx).size = 21 := by simp [lab, h]
theorem lab_name {x nx : List UInt8} (h : x.length = 20) : (lab x nx)[20]? = some (.string (bs nx)) := by simp [lab, h]
theorem lab_get {x nx : List UInt8} (k : Nat) (h : k < x.length) : (lab x nx)[k]? = some (.int .u8 ((x.getD k 0).toNat : Int)) := by
  have : k < (x.map vb).length := by simpa using h
  simp [lab, List.getElem?_append_left this, h, vb]
theorem lab_hash {x nx : List UInt8} : ∀ j v, (x.map vb)[j]? = some v → (lab x nx)[0 + j]? = some v := fun j v h => pre_get j v h
theorem lab_extract {x nx : List UInt8} (h : x.length = 20) : (lab x nx).extract 0 (0 + 20) = vbs x := by
  apply Array.ext'
  simp [lab, vbs, h]
section
variable {P : Program} {n : Nat} {w0 : World} {M : List Nat} {l : List (Nat × Value)} {hs : List HB}
variable {d : Option Tmp} {ty : TypeId} {pos : String} {af : Array Edge} {gd : Option (Nat × Bool)}
theorem run_equal_lab {t th ts e : TypeId} {f0 f1 : Field} (ht : P.underlying t = some (.struct #[f0, f1])) (hp : P.stoodInHeld t = false) (n0 : (f0.name == "_") = false) (n1 : (f1.name == "_") = false) (o0 : f0.offset = 0) (o1 : f1.offset = 20) (t0 : f0.type = th) (t1 : f1.type = ts)
    (hh : P.underlying th = some (.array 20 e)) (he : P.underlying e = some (.int .u8)) (hz : (P.info? e).map (·.size) = some 1) (hzh : (P.info? th).map (·.size) = some 20) (hst : P.underlying ts = some .string) {x y nx ny : List UInt8} (hx : x.length = 20) (hy : y.length = 20) (w : World) :
    (Op.equalIn 10000 t (.agg (lab x nx)) (.agg (lab y ny))).run P w = .ok ((x == y) && (nx == ny)) w := by
  subst t0; subst t1
  have hf : P.fieldsOf t = #[f0, f1] := by simp [Program.fieldsOf, ht]
  rw [show (10000 : Nat) = 9999 + 1 from rfl, run_equalIn_struct w 9999 t _ _ (by rw [hf]; exact ht) hp, hf]
  have n0' : f0.name ≠ "_" := by simpa using n0
  have n1' : f1.name ≠ "_" := by simpa using n1
  have p0 : ∀ (z nz : List UInt8), z.length = 20 → (part f0.type (lab z nz) f0.offset).run P w = .ok (.agg (vbs z)) w := fun z nz hz' => by
    have ha : (isAgg f0.type).run P w = .ok true w := by unfold isAgg; rw [Sem.run_bind, run_underlying hh w]; rfl
    rw [o0]
    simp only [part, Sem.run_bind, ha, Result.andThen_ok, if_true, run_sizeOf hzh w, Sem.run_pure, lab_extract hz']
  have p1 : ∀ (z nz : List UInt8), z.length = 20 → (part f1.type (lab z nz) f1.offset).run P w = .ok (.string (bs nz)) w := fun z nz hz' => by
    have ha : (isAgg f1.type).run P w = .ok false w := by unfold isAgg; rw [Sem.run_bind, run_underlying hst w]; rfl
    rw [o1]
    simp only [part, Sem.run_bind, ha, Result.andThen_ok, Bool.false_eq_true, if_false, lab_name hz', Sem.run_pure]
  have e0 : (Op.equalIn 9999 f0.type (.agg (vbs x)) (.agg (vbs y))).run P w = .ok (x == y) w := by
    rw [show (9999 : Nat) = 9997 + 2 from rfl, run_equalIn_arr hh he hz 9997 w (fun i => ((x.getD i 0).toNat : Int)) (fun i => ((y.getD i 0).toNat : Int)) (vbs x) (vbs y) (fun i hi => ⟨vbs_getD x i (by omega), vbs_getD y i (by omega)⟩),
      all_range_eq x y 0 20 hx hy (fun a => (a.toNat : Int)) vb_inj]
  have e1 : (Op.equalIn 9999 f1.type (.string (bs nx)) (.string (bs ny))).run P w = .ok (nx == ny) w := by
    rw [show (9999 : Nat) = 9998 + 1 from rfl, run_equalIn_string w 9998 _ _ _ hst, bs_toList, bs_toList]
  simp only [Op.eqFields, Sem.run_bind, n0', n1', ne_eq, not_false_eq_true, if_true, p0 x nx hx, p0 y ny hy, p1 x nx hx, p1 y ny hy, Result.andThen_ok, e0, e1]
  cases hxy : (x == y) <;> cases hn : (nx == ny) <;> simp [hxy, hn, e1, p1 x nx hx, p1 y ny hy, Sem.run_bind]
theorem ex_eql_lab {t t2 th ts e : TypeId} {f0 f1 : Field} {a b : Operand} {x y nx ny : List UInt8} (ha : ev l a = some (.agg (lab x nx))) (hb : ev l b = some (.agg (lab y ny))) (ht : P.underlying t = some (.struct #[f0, f1])) (hp : P.stoodInHeld t = false) (n0 : (f0.name == "_") = false) (n1 : (f1.name == "_") = false) (o0 : f0.offset = 0) (o1 : f1.offset = 20) (t0 : f0.type = th) (t1 : f1.type = ts)
    (hh : P.underlying th = some (.array 20 e)) (he : P.underlying e = some (.int .u8)) (hz : (P.info? e).map (·.size) = some 1) (hzh : (P.info? th).map (·.size) = some 20) (hst : P.underlying ts = some .string) (hm : P.eqGuardType P.depth t = false) (hx : x.length = 20) (hy : y.length = 20) {r : Bool} (hr : ((x == y) && (nx == ny)) = r) :
    Ex P n w0 M l hs ⟨d, .binOp .eql t a b t2, ty, pos, af, gd⟩ (.bool r) :=
  ex_bin ha hb (eqGuard_agg _ _ _ _ _ _ hm) fun w => by rw [run_eql_struct, run_equal_lab ht hp n0 n1 o0 o1 t0 t1 hh he hz hzh hst hx hy w, hr]; rfl
theorem ex_lss_str {x y : Operand} {t t2 : TypeId} {L K : List UInt8} {b : Bool} (hx : ev l x = some (.string (bs L))) (hy : ev l y = some (.string (bs K))) (hb : Op.bytesLess L K = b) : Ex P n w0 M l hs ⟨d, .binOp .lss t x y t2, ty, pos, af, gd⟩ (.bool b) :=
  ex_bin hx hy (fun w => rfl) fun w => by rw [binOp_string_lss, bs_toList, bs_toList, hb]; rfl
theorem ex_gtr_str {x y : Operand} {t t2 : TypeId} {L K : List UInt8} {b : Bool} (hx : ev l x = some (.string (bs L))) (hy : ev l y = some (.string (bs K))) (hb : (!(Op.bytesLess L K || L == K)) = b) : Ex P n w0 M l hs ⟨d, .binOp .gtr t x y t2, ty, pos, af, gd⟩ (.bool b) :=
  ex_bin hx hy (fun w => rfl) fun w => by rw [binOp_string_gtr, bs_toList, bs_toList, hb]; rfl
end

/-! comparing -/
theorem cmp_less : ∀ (a b : List UInt8), Op.bytesLess a b = decide (Lib.compareBytes a b = -1)
  | [], [] => rfl
  | [], _ :: _ => rfl
  | _ :: _, [] => rfl
  | x :: a, y :: b => by
    have ih := cmp_less a b
    simp only [Op.bytesLess, Lib.compareBytes]
    by_cases h : x < y
    · simp [h]
    · by_cases h2 : y < x
      · have hne : x ≠ y := fun e => by subst e; exact h h2
        simp [h, h2, hne]
      · have he : x = y := UInt8.le_antisymm (UInt8.not_lt.1 h2) (UInt8.not_lt.1 h)
        subst he
        simp [ih]
theorem cmp_zero : ∀ (a b : List UInt8), Lib.compareBytes a b = 0 ↔ a = b
  | [], [] => by simp [Lib.compareBytes]
  | [], _ :: _ => by simp [Lib.compareBytes]
  | _ :: _, [] => by simp [Lib.compareBytes]
  | x :: a, y :: b => by
    have ih := cmp_zero a b
    simp only [Lib.compareBytes]
    by_cases h : x < y
    · have hne : x ≠ y := fun e => by subst e; exact UInt8.lt_irrefl _ h
      simp [h, hne]
    · by_cases h2 : y < x
      · have hne : x ≠ y := fun e => by subst e; exact h h2
        simp [h, h2, hne]
      · have he : x = y := UInt8.le_antisymm (UInt8.not_lt.1 h2) (UInt8.not_lt.1 h)
        subst he
        simp [ih]
theorem cmp_three : ∀ (a b : List UInt8), Lib.compareBytes a b = -1 ∨ Lib.compareBytes a b = 0 ∨ Lib.compareBytes a b = 1
  | [], [] => by simp [Lib.compareBytes]
  | [], _ :: _ => by simp [Lib.compareBytes]
  | _ :: _, [] => by simp [Lib.compareBytes]
  | x :: a, y :: b => by
    have ih := cmp_three a b
    simp only [Lib.compareBytes]
    split
    · simp
    · split
      · simp
      · exact ih
def cmpN (x y : Nat) : Int := if x < y then -1 else if y < x then 1 else 0
/-- the digits of a number, the highest first -/
def digs (x : Nat) : Nat → List UInt8
  | 0 => []
  | m + 1 => d32.getD (x / 32 ^ m % 32) 0 :: digs x m
theorem digs_length (x m : Nat) : (digs x m).length = m := by
  induction m with
  | zero => rfl
  | succ m ih => simp [digs, ih]
theorem digs_getD (x : Nat) : ∀ m j, j < m → (digs x m).getD (m - 1 - j) 0 = d32.getD (x / 32 ^ j % 32) 0
  | m + 1, j, h => by
    rw [digs]
    by_cases e : j = m
    · subst e; simp
    · have := digs_getD x m j (by omega)
      rw [show m + 1 - 1 - j = (m - 1 - j) + 1 by omega, List.getD_cons_succ]
      exact this
theorem digs_base32 (l : List UInt8) : base32Of l = digs (num l) (base32Of l).length := by
  apply List.ext_getElem
  · rw [digs_length]
  · intro i h1 h2
    have a := base32_at l ((base32Of l).length - 1 - i) (by omega)
    have b := digs_getD (num l) (base32Of l).length ((base32Of l).length - 1 - i) (by omega)
    rw [show (base32Of l).length - 1 - ((base32Of l).length - 1 - i) = i by omega] at a b
    rw [five_num] at a
    have := a.trans b.symm
    simpa [List.getD, h1, h2] using this
theorem d32_lt : ∀ u, u < 32 → ∀ v, v < 32 → (decide (d32.getD u 0 < d32.getD v 0) = decide (u < v)) := by decide +kernel
theorem digs_cmp (x y : Nat) : ∀ m, Lib.compareBytes (digs x m) (digs y m) = cmpN (x % 32 ^ m) (y % 32 ^ m)
  | 0 => by simp [digs, Lib.compareBytes, cmpN, Nat.mod_one]
  | m + 1 => by
    have ih := digs_cmp x y m
    have hu := Nat.mod_lt (x / 32 ^ m) (show 0 < 32 by decide)
    have hv := Nat.mod_lt (y / 32 ^ m) (show 0 < 32 by decide)
    have l1 := d32_lt _ hu _ hv
    have l2 := d32_lt _ hv _ hu
    have hpos : 0 < 32 ^ m := Nat.pow_pos (by decide)
    have hx := Nat.mod_lt x hpos
    have hy := Nat.mod_lt y hpos
    simp only [digs, Lib.compareBytes]
    rw [Nat.pow_succ, Nat.mod_mul, Nat.mod_mul]
    generalize x / 32 ^ m % 32 = u at *
    generalize y / 32 ^ m % 32 = v at *
    generalize x % 32 ^ m = a at *
    generalize y % 32 ^ m = b at *
    generalize 32 ^ m = p at *
    have hlt : ∀ s t, s < t → s < 32 → p * s + p ≤ p * t := fun s t h _ => by
      have := Nat.mul_le_mul_left p (show s + 1 ≤ t from h)
      rwa [Nat.mul_add, Nat.mul_one] at this
    by_cases h1 : u < v
    · have e1 : d32.getD u 0 < d32.getD v 0 := by simpa [h1] using l1
      have := hlt u v h1 hu
      rw [if_pos e1, cmpN, if_pos (by omega)]
    · have e1 : ¬ d32.getD u 0 < d32.getD v 0 := by simpa [h1] using l1
      rw [if_neg e1]
      by_cases h2 : v < u
      · have e2 : d32.getD v 0 < d32.getD u 0 := by simpa [h2] using l2
        have := hlt v u h2 hv
        rw [if_pos e2, cmpN, if_neg (by omega), if_pos (by omega)]
      · have e2 : ¬ d32.getD v 0 < d32.getD u 0 := by simpa [h2] using l2
        obtain rfl : u = v := by omega
        rw [if_neg e2, ih]
        simp only [cmpN]
        congr 1
        · simp
        · congr 1; simp
theorem cmp_hash {x y : List UInt8} (hx : x.length = 20) (hy : y.length = 20) : Lib.compareBytes (base32Of x) (base32Of y) = cmpN (num x) (num y) := by
  have e1 : (base32Of x).length = 32 := by rw [base32Of_length, hx]
  have e2 : (base32Of y).length = 32 := by rw [base32Of_length, hy]
  have hx' := num_lt x; have hy' := num_lt y
  rw [hx] at hx'; rw [hy] at hy'
  have e3 : (256 : Nat) ^ 20 = 32 ^ 32 := by decide
  rw [digs_base32 x, digs_base32 y, e1, e2, digs_cmp, Nat.mod_eq_of_lt (by omega), Nat.mod_eq_of_lt (by omega)]
/-- bytes alike from one on, and that one less -/
theorem num_drop (l : List UInt8) : ∀ k, num l / 256 ^ k = num (l.drop k) := by
  induction l with
  | nil => intro k; simp [num]
  | cons b l ih =>
    intro k
    have := b.toNat_lt
    cases k with
    | zero => simp
    | succ k => rw [List.drop_succ_cons, ← ih k, Nat.pow_succ', ← Nat.div_div_eq_div_mul, num, show (b.toNat + 256 * num l) / 256 = num l by omega]
theorem num_less {x y : List UInt8} {i : Nat} (hx : i < x.length) (hy : i < y.length) (hd : x.drop (i + 1) = y.drop (i + 1)) (h : (x.getD i 0).toNat < (y.getD i 0).toNat) : num x < num y := by
  have h1 := num_drop x i
  have h2 := num_drop y i
  rw [List.drop_eq_getElem_cons hx, num, hd] at h1
  rw [List.drop_eq_getElem_cons hy, num] at h2
  have hgx : x.getD i 0 = x[i] := by simp [List.getD, hx]
  have hgy : y.getD i 0 = y[i] := by simp [List.getD, hy]
  rw [hgx, hgy] at h
  have : num x / 256 ^ i < num y / 256 ^ i := by omega
  exact Nat.lt_of_div_lt_div this
theorem drop_more {x y : List UInt8} {i : Nat} (hx : i < x.length) (hy : i < y.length) (hd : x.drop (i + 1) = y.drop (i + 1)) (h1 : ¬ (x.getD i 0).toNat < (y.getD i 0).toNat) (h2 : ¬ (y.getD i 0).toNat < (x.getD i 0).toNat) : x.drop i = y.drop i := by
  have hgx : x.getD i 0 = x[i] := by simp [List.getD, hx]
  have hgy : y.getD i 0 = y[i] := by simp [List.getD, hy]
  rw [hgx, hgy] at h1 h2
  have : x[i] = y[i] := UInt8.toNat_inj.1 (by omega)
  rw [List.drop_eq_getElem_cons hx, List.drop_eq_getElem_cons hy, hd, this]
/-- what Compare answers -/
def cmpLab (x nx y ny : List UInt8) : Int := if cmpN (num x) (num y) ≠ 0 then cmpN (num x) (num y) else Lib.compareBytes nx ny
theorem cmpN_less {a b : Nat} (h : a < b) : cmpN a b = -1 := if_pos h
theorem cmpN_more {a b : Nat} (h : b < a) : cmpN a b = 1 := by rw [cmpN, if_neg (by omega), if_pos h]
theorem cmpN_same (a : Nat) : cmpN a a = 0 := by rw [cmpN, if_neg (Nat.lt_irrefl _), if_neg (Nat.lt_irrefl _)]
theorem cmpLab_less {x nx y ny : List UInt8} (h : num x < num y) : cmpLab x nx y ny = -1 := by rw [cmpLab, cmpN_less h, if_pos (by decide)]
theorem cmpLab_more {x nx y ny : List UInt8} (h : num y < num x) : cmpLab x nx y ny = 1 := by rw [cmpLab, cmpN_more h, if_pos (by decide)]
theorem cmpLab_same (x nx ny : List UInt8) : cmpLab x nx x ny = Lib.compareBytes nx ny := by rw [cmpLab, cmpN_same, if_neg (by decide)]
end Go.Proofs.Ytoegpjcekdafoaa
