/- The laws of whole numbers of any kind, and of words of 32 bits, for the logic of walks. Nothing of a program. -/
import Derived.Test.YtdmagjelmhcemaaS
namespace Go.Proofs.Ytdmagjelmhcemaa
open Go.RowKit
set_option linter.unusedVariables false
set_option linter.unusedSimpArgs false

/-- the natural numbers that a kind holds lie below it -/
def cap : IntKind → Nat
  | .i8 => 128 | .i16 => 32768 | .i32 => 2147483648 | .i64 => 9223372036854775808
  | .u8 => 256 | .u16 => 65536 | .u32 => 4294967296 | .u64 => 18446744073709551616
theorem wrapN (k : IntKind) (p : Nat) (h : p < cap k) : k.wrap (p : Int) = (p : Int) := by
  cases k <;> simp [IntKind.wrap, IntKind.bits, IntKind.signed, cap] at h ⊢ <;> omega
theorem cap_pow (k : IntKind) : ∃ e, cap k = 2 ^ e := by
  cases k
  · exact ⟨7, rfl⟩
  · exact ⟨15, rfl⟩
  · exact ⟨31, rfl⟩
  · exact ⟨63, rfl⟩
  · exact ⟨8, rfl⟩
  · exact ⟨16, rfl⟩
  · exact ⟨32, rfl⟩
  · exact ⟨64, rfl⟩
theorem cap_bits (k : IntKind) : cap k ≤ 2 ^ k.bits := by cases k <;> decide
theorem ofInt_nat (n p : Nat) : BitVec.ofInt n (p : Int) = BitVec.ofNat n p := by simp
theorem ofNat_small {k : IntKind} {p : Nat} (h : p < cap k) : (BitVec.ofNat k.bits p).toNat = p := by
  rw [BitVec.toNat_ofNat]; exact Nat.mod_eq_of_lt (Nat.lt_of_lt_of_le h (cap_bits k))

section
variable {P : Program} {n : Nat} {w0 : World} {M : List Nat} {l : List (Nat × Value)} {hs : List HB}
variable {d : Option Tmp} {ty : TypeId} {pos : String} {af : Array Edge} {gd : Option (Nat × Bool)}
variable {t t2 : TypeId} {x y : Operand} {k : IntKind} {p q : Nat}

theorem ex_addK (hx : ev l x = some (.int k (p : Int))) (hy : ev l y = some (.int k (q : Int))) (hb : p + q < cap k) : Ex P n w0 M l hs ⟨d, .binOp .add t x y t2, ty, pos, af, gd⟩ (.int k ((p + q : Nat) : Int)) :=
  ex_add hx hy (by rw [← Int.natCast_add]; exact wrapN k _ hb)
theorem ex_mulK (hx : ev l x = some (.int k (p : Int))) (hy : ev l y = some (.int k (q : Int))) (hb : p * q < cap k) : Ex P n w0 M l hs ⟨d, .binOp .mul t x y t2, ty, pos, af, gd⟩ (.int k ((p * q : Nat) : Int)) :=
  ex_mul hx hy (by rw [← Int.natCast_mul]; exact wrapN k _ hb)
theorem ex_remK (hx : ev l x = some (.int k (p : Int))) (hy : ev l y = some (.int k (q : Int))) (hq : 0 < q) (hp : p < cap k) : Ex P n w0 M l hs ⟨d, .binOp .rem t x y t2, ty, pos, af, gd⟩ (.int k ((p % q : Nat) : Int)) :=
  ex_int hx hy fun w => by
    have h0 : ¬ (q = 0) := by omega
    have : (p : Int).tmod (q : Int) = ((p % q : Nat) : Int) := by rw [Int.natCast_emod]; exact Int.tmod_eq_emod_of_nonneg (by omega)
    have hw := wrapN k (p % q) (Nat.lt_of_le_of_lt (Nat.mod_le p q) hp)
    simp only [binOp_rem, Op.intDiv, this]
    have h0' : ¬ ((q : Int) = 0) := by omega
    simp only [h0', if_false]
    rfl
theorem ex_quoK (hx : ev l x = some (.int k (p : Int))) (hy : ev l y = some (.int k (q : Int))) (hq : 0 < q) (hp : p < cap k) : Ex P n w0 M l hs ⟨d, .binOp .quo t x y t2, ty, pos, af, gd⟩ (.int k ((p / q : Nat) : Int)) :=
  ex_int hx hy fun w => by
    have h0 : ¬ (q = 0) := by omega
    have : (p : Int).tdiv (q : Int) = ((p / q : Nat) : Int) := by rw [Int.natCast_ediv]; exact Int.tdiv_eq_ediv_of_nonneg (by omega)
    have hw := wrapN k (p / q) (Nat.lt_of_le_of_lt (Nat.div_le_self p q) hp)
    simp only [binOp_quo, Op.intDiv, this]
    have h0' : ¬ ((q : Int) = 0) := by omega
    simp only [h0', if_false, hw]
    rfl
theorem binOp_and_any (w : World) (a b : Int) : (binOp .and t (.int k a) (.int k b)).run P w = .ok (.int k (k.wrap (BitVec.ofInt k.bits a &&& BitVec.ofInt k.bits b).toNat)) w := by simp [binOp, Op.intBits]
theorem binOp_or_any (w : World) (a b : Int) : (binOp .or t (.int k a) (.int k b)).run P w = .ok (.int k (k.wrap (BitVec.ofInt k.bits a ||| BitVec.ofInt k.bits b).toNat)) w := by simp [binOp, Op.intBits]
theorem binOp_xor_any (w : World) (a b : Int) : (binOp .xor t (.int k a) (.int k b)).run P w = .ok (.int k (k.wrap (BitVec.ofInt k.bits a ^^^ BitVec.ofInt k.bits b).toNat)) w := by simp [binOp, Op.intBits]
theorem ex_andN (hx : ev l x = some (.int k (p : Int))) (hy : ev l y = some (.int k (q : Int))) (hp : p < cap k) (hq : q < cap k) : Ex P n w0 M l hs ⟨d, .binOp .and t x y t2, ty, pos, af, gd⟩ (.int k ((p &&& q : Nat) : Int)) :=
  ex_int hx hy fun w => by
    rw [binOp_and_any, ofInt_nat, ofInt_nat, BitVec.toNat_and, ofNat_small hp, ofNat_small hq, wrapN k _ (Nat.lt_of_le_of_lt Nat.and_le_left hp)]
theorem ex_orN (hx : ev l x = some (.int k (p : Int))) (hy : ev l y = some (.int k (q : Int))) (hp : p < cap k) (hq : q < cap k) : Ex P n w0 M l hs ⟨d, .binOp .or t x y t2, ty, pos, af, gd⟩ (.int k ((p ||| q : Nat) : Int)) :=
  ex_int hx hy fun w => by
    obtain ⟨e, he⟩ := cap_pow k
    rw [binOp_or_any, ofInt_nat, ofInt_nat, BitVec.toNat_or, ofNat_small hp, ofNat_small hq, wrapN k _ (by rw [he] at hp hq ⊢; exact Nat.or_lt_two_pow hp hq)]
theorem ex_xorN (hx : ev l x = some (.int k (p : Int))) (hy : ev l y = some (.int k (q : Int))) (hp : p < cap k) (hq : q < cap k) : Ex P n w0 M l hs ⟨d, .binOp .xor t x y t2, ty, pos, af, gd⟩ (.int k ((p ^^^ q : Nat) : Int)) :=
  ex_int hx hy fun w => by
    obtain ⟨e, he⟩ := cap_pow k
    rw [binOp_xor_any, ofInt_nat, ofInt_nat, BitVec.toNat_xor, ofNat_small hp, ofNat_small hq, wrapN k _ (by rw [he] at hp hq ⊢; exact Nat.xor_lt_two_pow hp hq)]

theorem ex_shift {op : BinOp} (ho : op = .shl ∨ op = .shr) {k2 : IntKind} {a b : Int} {r : Value} (hx : ev l x = some (.int k a)) (hy : ev l y = some (.int k2 b)) (hr : ∀ w, (Op.shift op k a k2 b).run P w = .ok r w) :
    Ex P n w0 M l hs ⟨d, .binOp op t x y t2, ty, pos, af, gd⟩ r :=
  ex_bin hx hy (fun w => by rcases ho with rfl | rfl <;> rfl) fun w => by rcases ho with rfl | rfl <;> exact hr w
theorem ex_shlN {k2 : IntKind} (hx : ev l x = some (.int k (p : Int))) (hy : ev l y = some (.int k2 (q : Int))) (hq : q ≤ k.bits) (hp : p * 2 ^ q < cap k) : Ex P n w0 M l hs ⟨d, .binOp .shl t x y t2, ty, pos, af, gd⟩ (.int k ((p * 2 ^ q : Nat) : Int)) :=
  ex_shift (.inl rfl) hx hy fun w => by
    have h0 : ¬ ((q : Int) < 0) := by omega
    have hm : min q k.bits = q := Nat.min_eq_left hq
    have hw := wrapN k (p * 2 ^ q) hp
    simp only [Int.natCast_mul, Int.natCast_pow] at hw ⊢
    simp [Op.shift, h0, hm]
    exact hw
theorem ex_shrN {k2 : IntKind} (hx : ev l x = some (.int k (p : Int))) (hy : ev l y = some (.int k2 (q : Int))) (hp : p < cap k) : Ex P n w0 M l hs ⟨d, .binOp .shr t x y t2, ty, pos, af, gd⟩ (.int k ((p / 2 ^ q : Nat) : Int)) :=
  ex_shift (.inr rfl) hx hy fun w => by
    have h0 : ¬ ((q : Int) < 0) := by omega
    have hf : (p : Int).fdiv (2 ^ min q k.bits) = ((p / 2 ^ min q k.bits : Nat) : Int) := by
      have e : ((2 : Int) ^ min q k.bits) = ((2 ^ min q k.bits : Nat) : Int) := by simp
      rw [e, Int.fdiv_eq_ediv_of_nonneg _ (Int.natCast_nonneg _)]; rfl
    have hd : p / 2 ^ min q k.bits = p / 2 ^ q := by
      rcases Nat.le_total q k.bits with h | h
      · rw [Nat.min_eq_left h]
      · have hlt := Nat.lt_of_lt_of_le hp (cap_bits k)
        rw [Nat.min_eq_right h, Nat.div_eq_of_lt hlt, Nat.div_eq_of_lt (Nat.lt_of_lt_of_le hlt (Nat.pow_le_pow_right (by decide) h))]
    simp only [Op.shift, h0, if_false, Int.toNat_natCast, hf, hd]
    rfl
set_option maxRecDepth 10000 in
theorem xor255 : ∀ z : Fin 256, 255 ^^^ z.val = 255 - z.val := by decide
theorem ex_notN8 {b : UInt8} (hx : ev l x = some (.int .u8 (b.toNat : Int))) : Ex P n w0 M l hs ⟨d, .unOp .xor t x, ty, pos, af, gd⟩ (.int .u8 ((~~~b).toNat : Int)) := fun a w ha _ => by
  show Sem.run P (do pure (Next.value (← Op.unary .xor (a.eval x)))) w = _
  rw [ha.ev hx]
  refine run_v ?_
  have e : (IntKind.u8.max : Int) = ((255 : Nat) : Int) := rfl
  simp only [Op.unary, Op.intBits, IntKind.signed, Bool.false_eq_true, if_false, e, ofInt_nat]
  simp only [Sem.run_pure]
  have hb := b.toNat_lt
  have hn : (~~~b).toNat = 255 - b.toNat := by
    rw [UInt8.toNat_not]; rfl
  congr 2
  rw [BitVec.toNat_xor, ofNat_small (k := .u8) (by decide), ofNat_small (k := .u8) (by exact hb), wrapN .u8 _ (Nat.xor_lt_two_pow (n := 8) (by decide) hb), hn]
  exact congrArg Int.ofNat (xor255 ⟨b.toNat, hb⟩)
theorem eq8 (a b : UInt8) : ((a.toNat : Int) == (b.toNat : Int)) = (a == b) := by
  by_cases h : a = b
  · subst h; simp
  · have h1 : ¬ a.toNat = b.toNat := fun e => h (UInt8.toNat_inj.1 e)
    rw [beq_eq_false_iff_ne.2 h, beq_eq_false_iff_ne]
    omega
theorem ex_eql8 {a b : UInt8} {c : Bool} (hx : ev l x = some (.int .u8 (a.toNat : Int))) (hy : ev l y = some (.int .u8 (b.toNat : Int))) (hb : (a == b) = c) : Ex P n w0 M l hs ⟨d, .binOp .eql t x y t2, ty, pos, af, gd⟩ (.bool c) :=
  ex_eql hx hy ((eq8 a b).trans hb)
theorem ex_neq8 {a b : UInt8} {c : Bool} (hx : ev l x = some (.int .u8 (a.toNat : Int))) (hy : ev l y = some (.int .u8 (b.toNat : Int))) (hb : (!(a == b)) = c) : Ex P n w0 M l hs ⟨d, .binOp .neq t x y t2, ty, pos, af, gd⟩ (.bool c) :=
  ex_neq hx hy (by rw [← hb, bne, eq8])

/-! conversions -/
theorem ex_convN {k2 : IntKind} {dsc : TypeDesc} {src dst : TypeId} (hx : ev l x = some (.int k (p : Int))) (h1 : P.underlying src = some dsc) (h2 : P.underlying dst = some (.int k2)) (hp : p < cap k2) :
    Ex P n w0 M l hs ⟨d, .convert src dst x, ty, pos, af, gd⟩ (.int k2 (p : Int)) := ex_conv_int hx h1 h2 (wrapN k2 p hp)
theorem ex_conv8 {dsc : TypeDesc} {src dst : TypeId} (hx : ev l x = some (.int k (p : Int))) (h1 : P.underlying src = some dsc) (h2 : P.underlying dst = some (.int .u8)) :
    Ex P n w0 M l hs ⟨d, .convert src dst x, ty, pos, af, gd⟩ (.int .u8 ((UInt8.ofNat p).toNat : Int)) := ex_conv_int hx h1 h2 (by
  simp [IntKind.wrap, IntKind.bits, IntKind.signed])

/-! words of 32 bits -/
section
variable {u v : UInt32}
theorem wrap32 (m : Nat) : IntKind.u32.wrap (m : Int) = ((UInt32.ofNat m).toNat : Int) := by simp [IntKind.wrap, IntKind.bits, IntKind.signed]
theorem ofInt32 (u : UInt32) : BitVec.ofInt 32 (u.toNat : Int) = u.toBitVec := by
  rw [ofInt_nat]; apply BitVec.eq_of_toNat_eq; rw [BitVec.toNat_ofNat, Nat.mod_eq_of_lt u.toNat_lt]; rfl
theorem ex_add32 (hx : ev l x = some (vw u)) (hy : ev l y = some (vw v)) : Ex P n w0 M l hs ⟨d, .binOp .add t x y t2, ty, pos, af, gd⟩ (vw (u + v)) :=
  ex_add hx hy (by rw [← Int.natCast_add, wrap32]; simp)
theorem ex_and32 (hx : ev l x = some (vw u)) (hy : ev l y = some (vw v)) : Ex P n w0 M l hs ⟨d, .binOp .and t x y t2, ty, pos, af, gd⟩ (vw (u &&& v)) :=
  ex_int hx hy fun w => by
    rw [binOp_and_any]
    show Result.ok (Value.int .u32 (IntKind.u32.wrap ((BitVec.ofInt 32 (u.toNat : Int) &&& BitVec.ofInt 32 (v.toNat : Int)).toNat : Int))) w = _
    rw [ofInt32, ofInt32, wrap32]; simp [vw]
theorem ex_or32 (hx : ev l x = some (vw u)) (hy : ev l y = some (vw v)) : Ex P n w0 M l hs ⟨d, .binOp .or t x y t2, ty, pos, af, gd⟩ (vw (u ||| v)) :=
  ex_int hx hy fun w => by
    rw [binOp_or_any]
    show Result.ok (Value.int .u32 (IntKind.u32.wrap ((BitVec.ofInt 32 (u.toNat : Int) ||| BitVec.ofInt 32 (v.toNat : Int)).toNat : Int))) w = _
    rw [ofInt32, ofInt32, wrap32]; simp [vw]
theorem ex_xor32 (hx : ev l x = some (vw u)) (hy : ev l y = some (vw v)) : Ex P n w0 M l hs ⟨d, .binOp .xor t x y t2, ty, pos, af, gd⟩ (vw (u ^^^ v)) :=
  ex_int hx hy fun w => by
    rw [binOp_xor_any]
    show Result.ok (Value.int .u32 (IntKind.u32.wrap ((BitVec.ofInt 32 (u.toNat : Int) ^^^ BitVec.ofInt 32 (v.toNat : Int)).toNat : Int))) w = _
    rw [ofInt32, ofInt32, wrap32]; simp [vw]
theorem ex_not32 (hx : ev l x = some (vw u)) : Ex P n w0 M l hs ⟨d, .unOp .xor t x, ty, pos, af, gd⟩ (vw (~~~u)) := fun a w ha _ => by
  show Sem.run P (do pure (Next.value (← Op.unary .xor (a.eval x)))) w = _
  rw [ha.ev hx]
  refine run_v ?_
  have e : (IntKind.u32.max : Int) = ((4294967295 : UInt32).toNat : Int) := rfl
  show (Op.intBits .xor .u32 (if IntKind.u32.signed then -1 else IntKind.u32.max) (u.toNat : Int)).run P w = _
  simp only [IntKind.signed, Bool.false_eq_true, if_false, e]
  show Result.ok (Value.int .u32 (IntKind.u32.wrap ((BitVec.ofInt 32 ((4294967295 : UInt32).toNat : Int) ^^^ BitVec.ofInt 32 (u.toNat : Int)).toNat : Int))) w = _
  rw [ofInt32, ofInt32, wrap32]
  have h : ~~~u = 4294967295 ^^^ u := by
    apply UInt32.toBitVec_inj.1
    rw [UInt32.toBitVec_not, UInt32.toBitVec_xor]
    exact (BitVec.allOnes_xor).symm
  rw [h]; simp [vw]
theorem ex_shl32 {k2 : IntKind} (hx : ev l x = some (vw u)) (hy : ev l y = some (.int k2 (q : Int))) (hq : q < 32) : Ex P n w0 M l hs ⟨d, .binOp .shl t x y t2, ty, pos, af, gd⟩ (vw (u <<< UInt32.ofNat q)) :=
  ex_shift (.inl rfl) hx hy fun w => by
    have h0 : ¬ ((q : Int) < 0) := by omega
    have hm : min q IntKind.u32.bits = q := Nat.min_eq_left (by show q ≤ 32; omega)
    simp only [Op.shift, h0, if_false, Int.toNat_natCast, hm]
    have e : (u.toNat : Int) * 2 ^ q = ((u.toNat * 2 ^ q : Nat) : Int) := by simp
    rw [e, wrap32]
    have e2 : UInt32.ofNat (u.toNat * 2 ^ q) = u <<< UInt32.ofNat q := by
      apply UInt32.toNat_inj.1
      rw [UInt32.toNat_shiftLeft, UInt32.toNat_ofNat', UInt32.toNat_ofNat', Nat.shiftLeft_eq, Nat.mod_eq_of_lt (a := q) (by omega : q < 2 ^ 32), Nat.mod_eq_of_lt hq]
    rw [e2]; rfl
theorem ex_shr32 {k2 : IntKind} (hx : ev l x = some (vw u)) (hy : ev l y = some (.int k2 (q : Int))) (hq : q < 32) : Ex P n w0 M l hs ⟨d, .binOp .shr t x y t2, ty, pos, af, gd⟩ (vw (u >>> UInt32.ofNat q)) := by
  have h := ex_shrN (P := P) (n := n) (w0 := w0) (M := M) (hs := hs) (d := d) (ty := ty) (pos := pos) (af := af) (gd := gd) (t := t) (t2 := t2) hx hy u.toNat_lt
  have e : u.toNat / 2 ^ q = (u >>> UInt32.ofNat q).toNat := by
    rw [UInt32.toNat_shiftRight, UInt32.toNat_ofNat', Nat.shiftRight_eq_div_pow, Nat.mod_eq_of_lt (a := q) (by omega : q < 2 ^ 32), Nat.mod_eq_of_lt hq]
  rw [e] at h
  exact h
end
end
end Go.Proofs.Ytdmagjelmhcemaa
