/- What the reader of sums' texts answers; the laws of operations that it wants. Nothing of a program. -/
import Derived.Test.YtdmagjelmhcemaaCanon
import Derived.Test.YtdmagjelmhcemaaD
import Derived.Test.YtdmagjelmhcemaaP
import Derived.Lib.MinMax
namespace Go.Proofs.Ytdmagjelmhcemaa
open Go.RowKit
set_option linter.unusedVariables false
set_option linter.unusedSimpArgs false
def cmn : List UInt8 → List UInt8 → Nat
  | a :: x, b :: y => if a = b then cmn x y + 1 else 0
  | _, _ => 0
theorem cmn_done : ∀ (n : Nat) (a b : List UInt8), n ≤ a.length → n ≤ b.length → a.take n = b.take n → (a.length ≤ n ∨ b.length ≤ n ∨ ¬ a.getD n 0 = b.getD n 0) → cmn a b = n
  | 0, a, b, _, _, _, h => by
    match a, b with
    | [], _ => rfl
    | _ :: _, [] => rfl
    | x :: a, y :: b =>
      rw [cmn, if_neg]
      rcases h with h | h | h
      · simp at h
      · simp at h
      · exact h
  | n + 1, a, b, h1, h2, h3, h => by
    match a, b with
    | [], _ => simp at h1
    | _ :: _, [] => simp at h2
    | x :: a, y :: b =>
      simp only [List.take_succ_cons, List.cons.injEq] at h3
      rw [cmn, if_pos h3.1, cmn_done n a b (by simpa using h1) (by simpa using h2) h3.2 (by simpa using h)]
theorem cm_cases (a b : List UInt8) (n : Nat) : a.length ≤ n ∨ (n < a.length ∧ b.length ≤ n) ∨ (n < a.length ∧ n < b.length) := by omega
theorem take_more {a b : List UInt8} {n : Nat} (h1 : n < a.length) (h2 : n < b.length) (h3 : a.take n = b.take n) (h : a.getD n 0 = b.getD n 0) : a.take (n + 1) = b.take (n + 1) := by
  rw [take_getD a n h1, take_getD b n h2, h3, h]
/-- a sum and its form, or an error and its place -/
def rdOf (L : List UInt8) : List UInt8 × Nat ⊕ Nat × Nat :=
  if L.take 7 = sha2 then
    if (L.drop 7).length = 44 then match un64 (L.drop 7) with
      | .inl b => if b.length = 32 then .inl (b, 2) else .inr (12, 7)
      | .inr (e, p) => .inr (e, p + 7)
    else .inr (12, 7)
  else if L.take 7 = sha1 then
    if (L.drop 7).length = 64 then match un16 (L.drop 7) with
      | .inl b => .inl (b, 0)
      | .inr (e, p) => .inr (e, p + 7)
    else if (L.drop 7).length = 52 then match un32 (L.drop 7) with
      | .inl b => .inl (b, 1)
      | .inr (e, p) => .inr (e, p + 7)
    else .inr (12, 7)
  else .inr (12, max (cmn L sha1) (cmn L sha2))
def rdVal : List UInt8 × Nat ⊕ Nat × Nat → Value
  | .inl (l, f) => .tuple #[.agg (vbs l), .int .i64 (f : Int), .int .i64 0, .int .i64 0]
  | .inr (e, p) => .tuple #[.agg (vbs (List.replicate 32 0)), .int .i64 0, .int .i64 (e : Int), .int .i64 (p : Int)]
theorem un16_err {s : List UInt8} {e p : Nat} (h : un16 s = .inr (e, p)) : e ≠ 0 ∧ p ≤ s.length := by
  unfold un16 at h
  split at h
  · cases h; rename_i hw
    exact ⟨by decide, Nat.le_of_lt (List.findIdx?_eq_some_iff_getElem.1 hw).1⟩
  · split at h
    · cases h; exact ⟨by decide, Nat.le_refl _⟩
    · cases h
theorem un32_err {s : List UInt8} {e p : Nat} (h : un32 s = .inr (e, p)) : e ≠ 0 ∧ p ≤ s.length := by
  unfold un32 at h
  split at h
  · cases h; rename_i hw
    exact ⟨by decide, Nat.le_of_lt (List.findIdx?_eq_some_iff_getElem.1 hw).1⟩
  · split at h
    · cases h; exact ⟨by decide, Nat.le_refl _⟩
    · split at h
      · cases h; exact ⟨by decide, Nat.zero_le _⟩
      · cases h
theorem un64_err {s : List UInt8} {e p : Nat} (h : un64 s = .inr (e, p)) : e ≠ 0 ∧ p ≤ s.length := by
  have ht := trimK_le s 2
  unfold un64 at h
  split at h
  · cases h; exact ⟨by decide, Nat.le_refl _⟩
  · split at h
    · cases h; rename_i hw
      exact ⟨by decide, Nat.le_trans (Nat.le_of_lt (List.findIdx?_eq_some_iff_getElem.1 hw).1) ht⟩
    · split at h
      · cases h; exact ⟨by decide, by omega⟩
      · cases h
theorem un16_len {s b : List UInt8} (h : un16 s = .inl b) (h64 : s.length = 64) : b.length = 32 := by
  obtain ⟨_, _, rfl⟩ := un16_good h
  rw [unhexTo_length, h64]
theorem un32_len {s b : List UInt8} (h : un32 s = .inl b) (h52 : s.length = 52) : b.length = 32 := by
  obtain ⟨_, _, _, rfl⟩ := un32_good h
  rw [toLE_length, h52]
theorem rd_64ok {L b : List UInt8} (h1 : L.take 7 = sha2) (h2 : (L.drop 7).length = 44) (h3 : un64 (L.drop 7) = .inl b) (h4 : b.length = 32) : rdOf L = .inl (b, 2) := by rw [rdOf, if_pos h1, if_pos h2, h3]; exact if_pos h4
theorem rd_64len {L b : List UInt8} (h1 : L.take 7 = sha2) (h2 : (L.drop 7).length = 44) (h3 : un64 (L.drop 7) = .inl b) (h4 : ¬ b.length = 32) : rdOf L = .inr (12, 7) := by rw [rdOf, if_pos h1, if_pos h2, h3]; exact if_neg h4
theorem rd_64err {L : List UInt8} {e p : Nat} (h1 : L.take 7 = sha2) (h2 : (L.drop 7).length = 44) (h3 : un64 (L.drop 7) = .inr (e, p)) : rdOf L = .inr (e, p + 7) := by rw [rdOf, if_pos h1, if_pos h2, h3]
theorem rd_64not {L : List UInt8} (h1 : L.take 7 = sha2) (h2 : ¬ (L.drop 7).length = 44) : rdOf L = .inr (12, 7) := by rw [rdOf, if_pos h1, if_neg h2]
theorem rd_none {L : List UInt8} (h1 : ¬ L.take 7 = sha2) (h2 : ¬ L.take 7 = sha1) : rdOf L = .inr (12, max (cmn L sha1) (cmn L sha2)) := by rw [rdOf, if_neg h1, if_neg h2]
theorem rd_16ok {L b : List UInt8} (h1 : ¬ L.take 7 = sha2) (h2 : L.take 7 = sha1) (h3 : (L.drop 7).length = 64) (h4 : un16 (L.drop 7) = .inl b) : rdOf L = .inl (b, 0) := by rw [rdOf, if_neg h1, if_pos h2, if_pos h3, h4]
theorem rd_16err {L : List UInt8} {e p : Nat} (h1 : ¬ L.take 7 = sha2) (h2 : L.take 7 = sha1) (h3 : (L.drop 7).length = 64) (h4 : un16 (L.drop 7) = .inr (e, p)) : rdOf L = .inr (e, p + 7) := by rw [rdOf, if_neg h1, if_pos h2, if_pos h3, h4]
theorem rd_32ok {L b : List UInt8} (h1 : ¬ L.take 7 = sha2) (h2 : L.take 7 = sha1) (h3 : (L.drop 7).length = 52) (h4 : un32 (L.drop 7) = .inl b) : rdOf L = .inl (b, 1) := by rw [rdOf, if_neg h1, if_pos h2, if_neg (by omega), if_pos h3, h4]
theorem rd_32err {L : List UInt8} {e p : Nat} (h1 : ¬ L.take 7 = sha2) (h2 : L.take 7 = sha1) (h3 : (L.drop 7).length = 52) (h4 : un32 (L.drop 7) = .inr (e, p)) : rdOf L = .inr (e, p + 7) := by rw [rdOf, if_neg h1, if_pos h2, if_neg (by omega), if_pos h3, h4]
theorem rd_form {L : List UInt8} (h1 : ¬ L.take 7 = sha2) (h2 : L.take 7 = sha1) (h3 : ¬ (L.drop 7).length = 64) (h4 : ¬ (L.drop 7).length = 52) : rdOf L = .inr (12, 7) := by rw [rdOf, if_neg h1, if_pos h2, if_neg h3, if_neg h4]
/-- a text that is taken is the one text of its answer -/
theorem rd_canon {L l : List UInt8} {f : Nat} (h : rdOf L = .inl (l, f)) : l.length = 32 ∧ showOf l (f : Int) = L := by
  have hcut := List.take_append_drop 7 L
  unfold rdOf at h
  split at h
  · rename_i h1
    split at h
    · split at h
      · rename_i b hb
        split at h
        · rename_i h32
          cases h
          exact ⟨h32, by rw [showOf, if_neg (by decide), if_neg (by decide), if_pos (by decide), b64_canon hb, ← h1, hcut]⟩
        · cases h
      · cases h
    · cases h
  · split at h
    · rename_i h1
      split at h
      · rename_i h64
        split at h
        · rename_i b hb
          cases h
          exact ⟨un16_len hb h64, by rw [showOf, if_pos (by decide), hex_canon hb, ← h1, hcut]⟩
        · cases h
      · split at h
        · rename_i h52
          split at h
          · rename_i b hb
            cases h
            exact ⟨un32_len hb h52, by rw [showOf, if_neg (by decide), if_pos (by decide), b32_canon hb, ← h1, hcut]⟩
          · cases h
        · cases h
    · cases h
/-- a sum's text is read as it -/
theorem rd_show {l : List UInt8} (hl : l.length = 32) {f : Nat} (hf : f < 3) : rdOf (showOf l (f : Int)) = .inl (l, f) := by
  have ht : ∀ (p q : List UInt8), p.length = 7 → (p ++ q).take 7 = p ∧ (p ++ q).drop 7 = q := fun p q h => by rw [← h]; exact ⟨List.take_left, List.drop_left⟩
  rcases (show f = 0 ∨ f = 1 ∨ f = 2 by omega) with rfl | rfl | rfl
  · obtain ⟨h1, h2⟩ := ht sha1 (hexOf l) rfl
    refine rd_16ok ?_ ?_ ?_ ?_ <;> rw [showOf, if_pos (by decide)] <;> simp only [h1, h2]
    · decide
    · rw [hexOf_length, hl]
    · exact un16_hex l
  · obtain ⟨h1, h2⟩ := ht sha1 (base32Of l) rfl
    refine rd_32ok ?_ ?_ ?_ ?_ <;> rw [showOf, if_neg (by decide), if_pos (by decide)] <;> simp only [h1, h2]
    · decide
    · rw [base32Of_length, hl]
    · exact un32_base32 l
  · obtain ⟨h1, h2⟩ := ht sha2 (base64Of l) rfl
    refine rd_64ok ?_ ?_ ?_ hl <;> rw [showOf, if_neg (by decide), if_neg (by decide), if_pos (by decide)] <;> simp only [h1, h2]
    · rw [base64Of_length, hl]
    · exact un64_base64 l
theorem drop_min (L : List UInt8) (k : Nat) : L.drop (min L.length k) = L.drop k := by
  rcases Nat.le_total L.length k with h | h
  · rw [Nat.min_eq_left h, List.drop_length, List.drop_eq_nil_of_le h]
  · rw [Nat.min_eq_right h]
theorem show_three (l : List UInt8) : showOf l ((3 : Nat) : Int) = [] := by rw [showOf, if_neg (by decide), if_neg (by decide), if_neg (by decide)]
theorem rd_nil : rdOf [] = .inr (12, 0) := by rw [rd_none (by decide) (by decide)]; rfl
theorem rd_err {L : List UInt8} {e p : Nat} (h : rdOf L = .inr (e, p)) : e ≠ 0 := by
  unfold rdOf at h
  split at h
  · split at h
    · split at h
      · split at h
        · cases h
        · cases h; decide
      · rename_i hu; cases h; exact (un64_err hu).1
    · cases h; decide
  · split at h
    · split at h
      · split at h
        · cases h
        · rename_i hu; cases h; exact (un16_err hu).1
      · split at h
        · split at h
          · cases h
          · rename_i hu; cases h; exact (un32_err hu).1
        · cases h; decide
    · cases h; decide
theorem un16_le {s b : List UInt8} (h : un16 s = .inl b) : b.length ≤ s.length := by
  obtain ⟨_, _, rfl⟩ := un16_good h
  rw [unhexTo_length]; omega
theorem un32_le {s b : List UInt8} (h : un32 s = .inl b) : b.length ≤ s.length := by
  obtain ⟨_, _, _, rfl⟩ := un32_good h
  rw [toLE_length]; omega
theorem un64_le {s b : List UInt8} (h : un64 s = .inl b) : b.length ≤ s.length := by
  obtain ⟨_, hg, _, rfl⟩ := un64_good h
  have := (st64_fit hg _ (Nat.le_refl _)).1
  have := trimK_le s 2
  omega
theorem showOf_le {l : List UInt8} (hl : l.length = 32) (f : Int) : (showOf l f).length ≤ 4194304 := by
  unfold showOf
  split
  · simp [hexOf_length, hl]
  · split
    · simp [base32Of_length, hl]
    · split
      · simp [base64Of_length, hl]
      · simp
theorem and3 (z : Int) : ∃ f : Nat, f < 4 ∧ IntKind.i64.wrap (BitVec.ofInt IntKind.i64.bits z &&& BitVec.ofInt IntKind.i64.bits 3).toNat = (f : Int) := by
  have h3 : (BitVec.ofInt IntKind.i64.bits 3).toNat = 3 := by decide
  have h : (BitVec.ofInt IntKind.i64.bits z &&& BitVec.ofInt IntKind.i64.bits 3).toNat < 4 := by
    rw [BitVec.toNat_and, h3]
    exact Nat.lt_of_le_of_lt Nat.and_le_right (by decide)
  exact ⟨_, h, wrapN .i64 _ (by simp only [cap]; omega)⟩
theorem copy_all {b : List UInt8} (h : b.length = 32) : ((vbs (List.replicate 32 0)).toList.take 0 ++ b.map vb ++ (vbs (List.replicate 32 0)).toList.drop (0 + (b.map vb).length)).toArray = vbs b := by
  rw [List.length_map, h]
  simp [vbs]
section
variable {P : Program} {n : Nat} {w0 : World} {M : List Nat} {l : List (Nat × Value)} {hs : List HB}
variable {d : Option Tmp} {ty : TypeId} {pos : String} {af : Array Edge} {gd : Option (Nat × Bool)}
theorem ex_minN {x y : Operand} {ts : Array TypeId} {k : IntKind} {p q : Nat} (hx : ev l x = some (.int k (p : Int))) (hy : ev l y = some (.int k (q : Int))) :
    Ex P n w0 M l hs ⟨d, .call { callee := .builtin .min, args := #[x, y], argTypes := ts }, ty, pos, af, gd⟩ (.int k ((min p q : Nat) : Int)) := fun a w ha _ => by
  show Sem.run P (do pure (Next.value (← Builtin.min_ ts ty (#[x, y].map a.eval)))) w = _
  refine run_v ?_
  rw [show #[x, y].map a.eval = #[a.eval x, a.eval y] by simp, ha.ev hx, ha.ev hy, Lib.run_min_ints]
  rw [show min (p : Int) (q : Int) = ((min p q : Nat) : Int) by omega]
theorem ex_maxN {x y : Operand} {ts : Array TypeId} {k : IntKind} {p q : Nat} (hx : ev l x = some (.int k (p : Int))) (hy : ev l y = some (.int k (q : Int))) :
    Ex P n w0 M l hs ⟨d, .call { callee := .builtin .max, args := #[x, y], argTypes := ts }, ty, pos, af, gd⟩ (.int k ((max p q : Nat) : Int)) := fun a w ha _ => by
  show Sem.run P (do pure (Next.value (← Builtin.max_ ts ty (#[x, y].map a.eval)))) w = _
  refine run_v ?_
  rw [show #[x, y].map a.eval = #[a.eval x, a.eval y] by simp, ha.ev hx, ha.ev hy, Lib.run_max_ints]
  rw [show max (p : Int) (q : Int) = ((max p q : Nat) : Int) by omega]
theorem ex_and3 {t t2 : TypeId} {x y : Operand} {z : Int} {f : Nat} (h : IntKind.i64.wrap (BitVec.ofInt IntKind.i64.bits z &&& BitVec.ofInt IntKind.i64.bits 3).toNat = (f : Int)) (hx : ev l x = some (.int .i64 z)) (hy : ev l y = some (.int .i64 3)) : Ex P n w0 M l hs ⟨d, .binOp .and t x y t2, ty, pos, af, gd⟩ (.int .i64 (f : Int)) :=
  ex_int hx hy fun w => by rw [binOp_and_any, h]
theorem ex_as {o : Oper} {v v' : Value} (h : Ex P n w0 M l hs o v) (e : v = v') : Ex P n w0 M l hs o v' := e ▸ h
theorem hk_ret_row4 {fn : Func} {R : Ending → World → Prop} {p r s t : Tmp} {ty : TypeId} {g : Nat} {v u z : Value} (hr : fn.results = #[.cell p ty, .tmp r, .tmp s, .tmp t]) (hv : look l p = some (.pointer (some ⟨g, 0, none⟩))) (i : Nat) {x : HB} (hi : hs[i]? = some x) (hg : x.g = some g)
    {dd : TypeDesc} (hu : P.underlying ty = some dd) (hd : (match dd with | .struct _ | .array _ _ => true | _ => false) = true) (hz : (P.info? ty).map (·.size) = some x.cs.size) (h1 : look l r = some v) (h2 : look l s = some u) (h3 : look l t = some z)
    (hR : ∀ w, Hp w0 M hs w → R (.returned (.tuple #[.agg x.cs, v, u, z])) w) :
    HK n w0 M (fun a w => bodyPost P fn R .ret a w) l hs := fun a w ha hw => by
  refine bodyPost_ret ?_ ha.defers (hR w hw)
  have hp := ha.vals p _ hv
  have hp' : a.tmps[p]?.getD undef = .pointer (some ⟨g, 0, none⟩) := by simpa using hp
  have e1 : a.tmps[r]?.getD undef = v := by simpa using ha.vals r _ h1
  have e2 : a.tmps[s]?.getD undef = u := by simpa using ha.vals s _ h2
  have e3 : a.tmps[t]?.getD undef = z := by simpa using ha.vals t _ h3
  simp [results, hr, hp', e1, e2, e3, asAddr, run_loadVar_row w g x.t ty x.cs x.fr dd (hw.own x (List.mem_of_getElem? hi) g hg) hu hd hz]
end
end Go.Proofs.Ytdmagjelmhcemaa
