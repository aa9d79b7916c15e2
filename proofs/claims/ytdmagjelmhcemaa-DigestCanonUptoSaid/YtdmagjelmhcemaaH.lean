/- A small logic for walks: the frame is known by a list of slots, the heap by a list of blocks; each operation has one law. Nothing of a program. -/
import Derived.Test.YtdmagjelmhcemaaArr
import Derived.OrdersHeld
import Derived.StillTail
import Derived.Deep.LoopGhost
import Derived.Laws.CopyOwn
import Derived.Lib.Hide
namespace Go.Proofs.Ytdmagjelmhcemaa
open Go.RowKit
set_option linter.unusedVariables false
set_option linter.unusedSimpArgs false

/-! ### frames -/
def look : List (Nat × Value) → Nat → Option Value
  | [], _ => none
  | (s, v) :: l, k => bif Nat.beq s k then some v else look l k

structure Agree (n : Nat) (l : List (Nat × Value)) (a : Act) : Prop where
  size : a.tmps.size = n
  defers : a.defers = []
  vals : ∀ s v, look l s = some v → a.tmps.getD s undef = v

theorem look_hit (l : List (Nat × Value)) (s : Nat) (v : Value) : look ((s, v) :: l) s = some v := by
  simp [look, show Nat.beq s s = true from Nat.beq_refl s]
theorem look_miss (l : List (Nat × Value)) (s k : Nat) (v : Value) (h : s ≠ k) : look ((s, v) :: l) k = look l k := by
  have : Nat.beq s k = false := by
    cases hb : Nat.beq s k
    · rfl
    · exact absurd (Nat.eq_of_beq_eq_true hb) h
  simp [look, this]

theorem Agree.put {n : Nat} {l : List (Nat × Value)} {a : Act} (h : Agree n l a) {d : Nat} (hd : Nat.blt d n = true) (v : Value) : Agree n ((d, v) :: l) (a.put (some d) v) := by
  have hd' : d < n := Nat.le_of_ble_eq_true hd
  refine ⟨by simp [Act.put, h.size], by simp [Act.put, h.defers], fun s u hs => ?_⟩
  by_cases e : d = s
  · subst e
    rw [look_hit] at hs
    obtain rfl := Option.some.inj hs
    simp [Act.put, h.size, hd']
  · rw [look_miss _ _ _ _ e] at hs
    have := h.vals s u hs
    simpa [Act.put, e, Array.getD_eq_getD_getElem?] using this
theorem Agree.put_none {n : Nat} {l : List (Nat × Value)} {a : Act} (h : Agree n l a) (v : Value) : Agree n l (a.put none v) := h

def putl (l : List (Nat × Value)) : Option Nat → Value → List (Nat × Value)
  | some d, v => (d, v) :: l
  | none, _ => l
def dstOk (n : Nat) : Option Nat → Bool
  | some d => Nat.blt d n
  | none => true
theorem Agree.putl {n : Nat} {l : List (Nat × Value)} {a : Act} (h : Agree n l a) {d : Option Nat} (hd : dstOk n d = true) (v : Value) : Agree n (putl l d v) (a.put d v) := by
  cases d with
  | none => exact h.put_none v
  | some d => exact h.put hd v

/-- the slots of 'L' are known in 'l' -/
def Sub : List (Nat × Value) → List (Nat × Value) → Prop
  | [], _ => True
  | (s, v) :: L, l => look l s = some v ∧ Sub L l
theorem Sub.vals {L l : List (Nat × Value)} (h : Sub L l) : ∀ s v, look L s = some v → look l s = some v := by
  induction L with
  | nil => intro s v hs; simp [look] at hs
  | cons p L ih =>
    obtain ⟨t, u⟩ := p
    intro s v hs
    by_cases e : t = s
    · subst e
      rw [look_hit] at hs
      obtain rfl := Option.some.inj hs
      exact h.1
    · rw [look_miss _ _ _ _ e] at hs
      exact ih h.2 s v hs
theorem Agree.sub {n : Nat} {L l : List (Nat × Value)} {a : Act} (h : Agree n l a) (hs : Sub L l) : Agree n L a := ⟨h.size, h.defers, fun s v hv => h.vals s v (hs.vals s v hv)⟩

def ev (l : List (Nat × Value)) : Operand → Option Value
  | .tmp s => look l s
  | .const v => some v
  | .global g => some (.pointer (some ⟨g, 0, none⟩))
  | .func f => some (.func (.func f) #[] #[])
theorem Agree.ev {n : Nat} {l : List (Nat × Value)} {a : Act} (h : Agree n l a) {x : Operand} {v : Value} (hx : ev l x = some v) : a.eval x = v := by
  cases x with
  | tmp s => exact h.vals s v hx
  | const u => exact Option.some.inj hx
  | global g => exact Option.some.inj hx
  | func f => exact Option.some.inj hx
def evs (l : List (Nat × Value)) : List Operand → Option (List Value)
  | [] => some []
  | x :: xs => match ev l x, evs l xs with
    | some v, some vs => some (v :: vs)
    | _, _ => none
theorem Agree.evs {n : Nat} {l : List (Nat × Value)} {a : Act} (h : Agree n l a) : ∀ {xs : List Operand} {vs : List Value}, evs l xs = some vs → xs.map a.eval = vs
  | [], _, e => by simp only [Proofs.Ytdmagjelmhcemaa.evs, Option.some.injEq] at e; subst e; rfl
  | x :: xs, vs, e => by
    simp only [Proofs.Ytdmagjelmhcemaa.evs] at e
    split at e
    · rename_i v vs' h1 h2
      simp only [Option.some.injEq] at e
      subst e
      simp [h.ev h1, h.evs h2]
    · cases e

/-! ### heaps -/
structure HB where
  g : Option Nat
  cs : Array Value
  t : TypeId
  fr : Nat × Nat := (0, 0)

structure Hp (w0 : World) (M : List Nat) (hs : List HB) (w : World) : Prop where
  os : w.os = w0.os
  tape : w.tape = w0.tape
  output : w.output = w0.output
  size : w0.heap.size ≤ w.heap.size
  block : ∀ k, k < w0.heap.size → k ∉ M → w.heap[k]? = w0.heap[k]?
  own : ∀ h ∈ hs, ∀ g, h.g = some g → w.heap[g]? = some (.cells h.cs h.t h.fr)
  new : ∀ h ∈ hs, ∀ g, h.g = some g → w0.heap.size ≤ g ∨ g ∈ M
  dis : hs.Pairwise fun x y => ∀ g, x.g = some g → y.g ≠ some g

theorem Hp.start (w : World) : Hp w [] [] w := ⟨rfl, rfl, rfl, Nat.le_refl _, fun _ _ _ => rfl, by simp, by simp, .nil⟩
theorem Hp.below {w0 : World} {hs : List HB} {w : World} (h : Hp w0 [] hs w) : Below w0.heap.size w0 w := ⟨h.os, h.tape, h.output, h.size, fun k hk => h.block k hk (by simp)⟩
theorem Hp.lt {w0 : World} {M : List Nat} {hs : List HB} {w : World} (h : Hp w0 M hs w) {x : HB} (hx : x ∈ hs) {g : Nat} (hg : x.g = some g) : g < w.heap.size := (Array.getElem?_eq_some_iff.1 (h.own x hx g hg)).1
theorem Hp.drew {w0 : World} {M : List Nat} {hs : List HB} {w : World} (h : Hp w0 M hs w) : Hp w0 M hs w.drew := ⟨h.os, h.tape, h.output, h.size, h.block, h.own, h.new, h.dis⟩
theorem Hp.on {w0 : World} {M : List Nat} {hs : List HB} {w w' : World} (h : Hp w0 M hs w) (k : Below w.heap.size w w') : Hp w0 M hs w' :=
  ⟨k.os.trans h.os, k.tape.trans h.tape, k.output.trans h.output, Nat.le_trans h.size k.size, fun i hi hm => (k.block i (Nat.lt_of_lt_of_le hi h.size)).trans (h.block i hi hm),
    fun x hx g hg => (k.block g (h.lt hx hg)).trans (h.own x hx g hg), h.new, h.dis⟩
theorem Hp.alloc {w0 : World} {M : List Nat} {hs : List HB} {w : World} (h : Hp w0 M hs w) (cs : Array Value) (t : TypeId) (fr : Nat × Nat) : Hp w0 M (⟨some w.heap.size, cs, t, fr⟩ :: hs) (w.alloc (.cells cs t fr)) := by
  have h1 := h.on ((Below.refl w.heap.size w).alloc (Nat.le_refl _) (.cells cs t fr))
  refine ⟨h1.os, h1.tape, h1.output, h1.size, h1.block, fun x hx g hg => ?_, fun x hx g hg => ?_, .cons (fun x hx g hg hx' => ?_) h.dis⟩
  · rcases List.mem_cons.1 hx with rfl | hx
    · obtain rfl := Option.some.inj hg
      exact heap_alloc_new _ _
    · exact h1.own x hx g hg
  · rcases List.mem_cons.1 hx with rfl | hx
    · obtain rfl := Option.some.inj hg
      exact .inl h.size
    · exact h.new x hx g hg
  · obtain rfl := Option.some.inj hg
    exact Nat.lt_irrefl _ (h.lt hx hx')
theorem Hp.sub {w0 : World} {M : List Nat} {hs hs' : List HB} {w : World} (h : Hp w0 M hs w) (k : hs'.Sublist hs) : Hp w0 M hs' w :=
  ⟨h.os, h.tape, h.output, h.size, h.block, fun x hx => h.own x (k.subset hx), fun x hx => h.new x (k.subset hx), h.dis.sublist k⟩
theorem Hp.cell {w0 : World} {M : List Nat} {hs : List HB} {w : World} (h : Hp w0 M hs w) {x : HB} (hx : x ∈ hs) {g : Nat} (hg : x.g = some g) {j : Nat} {v : Value} (hv : x.cs[j]? = some v) : w.cell? ⟨g, j, none⟩ = some v := by
  rw [cell_of_row w g j x.cs x.t x.fr (h.own x hx g hg)]; exact hv
theorem Hp.old {w0 : World} {hs : List HB} {w : World} (h : Hp w0 [] hs w) {p : Addr} {v : Value} (hv : w0.cell? p = some v) : w.cell? p = some v :=
  (h.below.cell (World.block_lt_of_cell? w0 p hv)).trans hv

/-- one block is written, the others stay -/
theorem Hp.upd {w0 : World} {M : List Nat} {hs1 hs2 : List HB} {x : HB} {g : Nat} {w w' : World} (h : Hp w0 M (hs1 ++ x :: hs2) w) (hg : x.g = some g) (cs : Array Value)
    (h1 : w'.os = w.os) (h2 : w'.tape = w.tape) (h3 : w'.output = w.output) (h4 : w.heap.size ≤ w'.heap.size) (h5 : ∀ k, k < w.heap.size → k ≠ g → w'.heap[k]? = w.heap[k]?)
    (h6 : w'.heap[g]? = some (.cells cs x.t x.fr)) : Hp w0 M (hs1 ++ { x with cs := cs } :: hs2) w' := by
  have hx : x ∈ hs1 ++ x :: hs2 := by simp
  have hd := h.dis
  rw [List.pairwise_append] at hd
  obtain ⟨d1, d2, d3⟩ := hd
  rw [List.pairwise_cons] at d2
  have far : ∀ y, y ∈ hs1 ∨ y ∈ hs2 → y.g ≠ some g := fun y hy => by
    rcases hy with hy | hy
    · intro e; exact d3 y hy x (by simp) g e hg
    · exact d2.1 y hy g hg
  refine ⟨h1.trans h.os, h2.trans h.tape, h3.trans h.output, Nat.le_trans h.size h4, fun k hk hm => ?_, fun y hy q hq => ?_, fun y hy => ?_, ?_⟩
  · rw [h5 k (Nat.lt_of_lt_of_le hk h.size) (fun e => by
      rcases h.new x hx g hg with hn | hn
      · omega
      · exact hm (e ▸ hn))]
    exact h.block k hk hm
  · simp only [List.mem_append, List.mem_cons] at hy
    rcases hy with hy | rfl | hy
    · rw [h5 q (h.lt (by simp [hy]) hq) (fun e => far y (.inl hy) (e ▸ hq))]; exact h.own y (by simp [hy]) q hq
    · obtain rfl : g = q := Option.some.inj (hg.symm.trans hq)
      exact h6
    · rw [h5 q (h.lt (by simp [hy]) hq) (fun e => far y (.inr hy) (e ▸ hq))]; exact h.own y (by simp [hy]) q hq
  · simp only [List.mem_append, List.mem_cons] at hy
    rcases hy with hy | rfl | hy
    · exact h.new y (by simp [hy])
    · exact h.new x hx
    · exact h.new y (by simp [hy])
  · rw [List.pairwise_append]
    refine ⟨d1, ?_, fun y hy z hz => ?_⟩
    · rw [List.pairwise_cons]; exact ⟨fun z hz => d2.1 z hz, d2.2⟩
    · simp only [List.mem_cons] at hz
      rcases hz with rfl | hz
      · exact d3 y hy x (by simp)
      · exact d3 y hy z (by simp [hz])

theorem Hp.setCell {w0 : World} {M : List Nat} {hs1 hs2 : List HB} {g : Nat} {cs : Array Value} {t : TypeId} {w : World} (h : Hp w0 M (hs1 ++ ⟨some g, cs, t, (0, 0)⟩ :: hs2) w) (j : Nat) (v : Value) :
    Hp w0 M (hs1 ++ ⟨some g, cs.setIfInBounds j v, t, (0, 0)⟩ :: hs2) (w.setCell ⟨g, j, none⟩ v) :=
  h.upd (x := ⟨some g, cs, t, (0, 0)⟩) rfl (cs.setIfInBounds j v) rfl rfl rfl (by simp) (fun k _ hne => heap_setCell_other w _ k v hne)
    (heap_setCell_same w g j cs t v (h.own ⟨some g, cs, t, (0, 0)⟩ (by simp) g rfl))
theorem Hp.setRow {w0 : World} {M : List Nat} {hs1 hs2 : List HB} {x : HB} {g : Nat} {w : World} (h : Hp w0 M (hs1 ++ x :: hs2) w) (hg : x.g = some g) (cs : Array Value) :
    Hp w0 M (hs1 ++ { x with cs := cs } :: hs2) (w.setRow g cs) :=
  h.upd hg cs rfl rfl rfl (by simp) (fun k _ hne => setRow_other w g k cs hne) (setRow_heap w g x.cs cs x.t x.fr (h.own x (by simp) g hg))

/-! picking blocks -/
inductive At : List Nat → List HB → List HB → Prop
  | nil {hs} : At [] [] hs
  | cons {hs is H b} (i : Nat) : hs[i]? = some b → At is H hs → At (i :: is) (b :: H) hs
theorem At.mem {is : List Nat} {H hs : List HB} (h : At is H hs) : ∀ b ∈ H, ∃ i ∈ is, hs[i]? = some b := by
  induction h with
  | nil => simp
  | cons i hi _ ih =>
    intro b hb
    rcases List.mem_cons.1 hb with rfl | hb
    · exact ⟨i, by simp, hi⟩
    · obtain ⟨j, h1, h2⟩ := ih b hb
      exact ⟨j, by simp [h1], h2⟩
theorem At.dis {hs : List HB} (hd : hs.Pairwise fun x y => ∀ g, x.g = some g → y.g ≠ some g) {is : List Nat} {H : List HB} (hn : is.Nodup) (h : At is H hs) : H.Pairwise fun x y => ∀ g, x.g = some g → y.g ≠ some g := by
  induction h with
  | nil => exact .nil
  | cons i hi h2 ih =>
    rw [List.nodup_cons] at hn
    refine .cons (fun c hc g hb hc' => ?_) (ih hd hn.2)
    obtain ⟨j, hj, hjc⟩ := At.mem h2 c hc
    have hij : i ≠ j := fun e => hn.1 (e ▸ hj)
    rw [List.pairwise_iff_getElem] at hd
    obtain ⟨h1, h1'⟩ := List.getElem?_eq_some_iff.1 hi
    obtain ⟨h2, h2'⟩ := List.getElem?_eq_some_iff.1 hjc
    rcases Nat.lt_or_gt_of_ne hij with hlt | hlt
    · exact hd i j h1 h2 hlt g (by rw [h1']; exact hb) (by rw [h2']; exact hc')
    · exact hd j i h2 h1 hlt g (by rw [h2']; exact hc') (by rw [h1']; exact hb)
theorem Hp.pick {w0 : World} {M : List Nat} {H hs : List HB} {w : World} (h : Hp w0 M hs w) {is : List Nat} (hn : is.Nodup) (ha : At is H hs) : Hp w0 M H w :=
  ⟨h.os, h.tape, h.output, h.size, h.block, fun x hx => by
      obtain ⟨i, _, hi⟩ := ha.mem x hx
      exact h.own x (List.mem_of_getElem? hi), fun x hx => by
      obtain ⟨i, _, hi⟩ := ha.mem x hx
      exact h.new x (List.mem_of_getElem? hi), ha.dis h.dis hn⟩
/-- a callee ran: the blocks 'A' were its own to turn; 'C' is what it left -/
theorem Hp.comp {w0 : World} {M Mc : List Nat} {A B C : List HB} {w w' : World} (h : Hp w0 M (A ++ B) w) (hm : ∀ g ∈ Mc, ∃ x ∈ A, x.g = some g) (hc : Hp w Mc C w') : Hp w0 M (C ++ B) w' := by
  have hd := h.dis
  rw [List.pairwise_append] at hd
  have out : ∀ y ∈ B, ∀ g, y.g = some g → g ∉ Mc := fun y hy g hg hgm => by
    obtain ⟨x, hx, hxg⟩ := hm g hgm
    exact hd.2.2 x hx y hy g hxg hg
  have mnew : ∀ g ∈ Mc, w0.heap.size ≤ g ∨ g ∈ M := fun g hg => by
    obtain ⟨x, hx, hxg⟩ := hm g hg
    exact h.new x (by simp [hx]) g hxg
  refine ⟨hc.os.trans h.os, hc.tape.trans h.tape, hc.output.trans h.output, Nat.le_trans h.size hc.size, fun k hk hkm => ?_, fun x hx g hg => ?_, fun x hx g hg => ?_, ?_⟩
  · rw [hc.block k (Nat.lt_of_lt_of_le hk h.size) (fun e => by rcases mnew k e with h1 | h1; · omega
                                                               · exact hkm h1)]
    exact h.block k hk hkm
  · rcases List.mem_append.1 hx with hx | hx
    · exact hc.own x hx g hg
    · rw [hc.block g (h.lt (by simp [hx]) hg) (out x hx g hg)]
      exact h.own x (by simp [hx]) g hg
  · rcases List.mem_append.1 hx with hx | hx
    · rcases hc.new x hx g hg with h1 | h1
      · exact .inl (Nat.le_trans h.size h1)
      · exact mnew g h1
    · exact h.new x (by simp [hx]) g hg
  · rw [List.pairwise_append]
    refine ⟨hc.dis, hd.2.1, fun x hx y hy g hxg hyg => ?_⟩
    rcases hc.new x hx g hxg with h1 | h1
    · have := h.lt (x := y) (by simp [hy]) hyg
      omega
    · exact out y hy g hyg h1

/-! ### the judgements -/
section
variable (P : Program) (n : Nat) (w0 : World) (M : List Nat)

def HK (K : Act → World → Prop) (l : List (Nat × Value)) (hs : List HB) : Prop := ∀ a w, Agree n l a → Hp w0 M hs w → K a w
def HL (Q : Exit → Act → World → Prop) (c : Code) (l : List (Nat × Value)) (hs : List HB) : Prop := ∀ a w, Agree n l a → Hp w0 M hs w → c.wp P Q a w
def HO (Q : Exit → Act → World → Prop) (ops : Array Oper) (rest : List Oper) (l : List (Nat × Value)) (hs : List HB) : Prop := ∀ a w, Agree n l a → Hp w0 M hs w → wpList P ops Q rest a w
def HA (Q : Exit → Act → World → Prop) (ops : Array Oper) (S : List HB) (fuel : Nat) (listed : Array Bool) (l : List (Nat × Value)) (hs : List HB) : Prop :=
  ∀ a w, Agree n l a → Hp w0 M hs w → Hp w0 M S w → wpAnyH P .any ops Q (Hp w0 M S) fuel listed a w
/-- an operation that only reads: its value -/
def Ex (l : List (Nat × Value)) (hs : List HB) (o : Oper) (v : Value) : Prop := ∀ a w, Agree n l a → Hp w0 M hs w → (execOp a.eval o).run P w = .ok (.value v) w
/-- an operation that turns the world -/
def ExW (l : List (Nat × Value)) (hs : List HB) (o : Oper) {X : Type} (val : X → Value) (hs' : X → List HB) (pre : X → Prop) : Prop :=
  ∀ a w, Agree n l a → Hp w0 M hs w → ∀ (next : Act → World → Prop) (Q : Exit → Act → World → Prop), (∀ x w', pre x → Hp w0 M (hs' x) w' → next (a.put o.dst (val x)) w') → o.wp P a w next Q
end

section
variable {P : Program} {n : Nat} {w0 : World} {M : List Nat} {Q : Exit → Act → World → Prop} {l : List (Nat × Value)} {hs : List HB} {ops : Array Oper} {rest : List Oper} {o : Oper}

/-! ### entering and leaving -/
def argl : Nat → List Value → List (Nat × Value)
  | _, [] => []
  | k, v :: vs => (k, v) :: argl (k + 1) vs
theorem look_argl : ∀ (vs : List Value) (k s : Nat) (v : Value), look (argl k vs) s = some v → k ≤ s ∧ vs[s - k]? = some v
  | [], k, s, v, h => by simp [argl, look] at h
  | u :: vs, k, s, v, h => by
    by_cases e : k = s
    · subst e
      rw [argl, look_hit] at h
      simpa using h
    · rw [argl, look_miss _ _ _ _ e] at h
      obtain ⟨h1, h2⟩ := look_argl vs (k + 1) s v h
      refine ⟨by omega, ?_⟩
      rw [show s - k = (s - (k + 1)) + 1 from by omega]
      simpa using h2

theorem calls_enter {f : FuncId} {fn : Func} {c : Code} {vs : List Value} {w : World} {R : Ending → World → Prop} (hf : P.funcs[f]? = some fn) (hb : fn.body = some c) (hn : fn.ntmps = n) (hv : Nat.ble vs.length n = true)
    (hp : Hp w0 M hs w) (h : HL P n w0 M (bodyPost P fn R) c (argl 0 vs) hs) : Calls P f vs.toArray w R := by
  refine calls_of_wp hf hb (h _ _ ⟨?_, rfl, fun s v hl => ?_⟩ hp)
  · have : vs.length ≤ n := by simpa [Nat.ble_eq] using hv
    simp [hn]; omega
  · obtain ⟨_, h2⟩ := look_argl vs 0 s v hl
    have h2' : vs[s]? = some v := by simpa using h2
    have hs : s < vs.length := (List.getElem?_eq_some_iff.1 h2').1
    have : (vs.toArray ++ Array.replicate (fn.ntmps - vs.toArray.size) undef)[s]? = some v := by
      rw [Array.getElem?_append_left (by simpa using hs)]; simpa using h2'
    rw [Array.getD_eq_getD_getElem?, this]; rfl

theorem hk_ret {fn : Func} {R : Ending → World → Prop} {r : Tmp} {v : Value} (hr : fn.results = #[.tmp r]) (hv : look l r = some v) (hR : ∀ w, Hp w0 M hs w → R (.returned v) w) :
    HK n w0 M (fun a w => bodyPost P fn R .ret a w) l hs := fun a w ha hw =>
  bodyPost_ret (by rw [results_tmp hr, ha.vals r v hv]) ha.defers (hR w hw)
theorem hk_ret2 {fn : Func} {R : Ending → World → Prop} {r s : Tmp} {v u : Value} (hr : fn.results = #[.tmp r, .tmp s]) (hv : look l r = some v) (hu : look l s = some u) (hR : ∀ w, Hp w0 M hs w → R (.returned (.tuple #[v, u])) w) :
    HK n w0 M (fun a w => bodyPost P fn R .ret a w) l hs := fun a w ha hw =>
  bodyPost_ret (by rw [results_tmp2 hr, ha.vals r v hv, ha.vals s u hu]) ha.defers (hR w hw)
theorem hk_ret3 {fn : Func} {R : Ending → World → Prop} {r s t : Tmp} {v u x : Value} (hr : fn.results = #[.tmp r, .tmp s, .tmp t]) (hv : look l r = some v) (hu : look l s = some u) (hx : look l t = some x) (hR : ∀ w, Hp w0 M hs w → R (.returned (.tuple #[v, u, x])) w) :
    HK n w0 M (fun a w => bodyPost P fn R .ret a w) l hs := fun a w ha hw =>
  bodyPost_ret (by rw [results_tmp3 hr, ha.vals r v hv, ha.vals s u hu, ha.vals t x hx]) ha.defers (hR w hw)
theorem hk_ret0 {fn : Func} {R : Ending → World → Prop} (hr : fn.results = #[]) (hR : ∀ w, Hp w0 M hs w → R (.returned (.tuple #[])) w) :
    HK n w0 M (fun a w => bodyPost P fn R .ret a w) l hs := fun a w ha hw =>
  bodyPost_ret (results_none hr _ _ _) ha.defers (hR w hw)
theorem hk_end0 {fn : Func} {R : Ending → World → Prop} (hr : fn.results = #[]) (hR : ∀ w, Hp w0 M hs w → R (.returned (.tuple #[])) w) :
    HK n w0 M (fun a w => bodyPost P fn R .normal a w) l hs := fun a w ha hw =>
  bodyPost_end (results_none hr _ _ _) ha.defers (hR w hw)
/-- the one result lies in memory -/
theorem hk_ret_row {fn : Func} {R : Ending → World → Prop} {p : Tmp} {ty : TypeId} {g : Nat} (hr : fn.results = #[.cell p ty]) (hv : look l p = some (.pointer (some ⟨g, 0, none⟩))) (i : Nat) {x : HB} (hi : hs[i]? = some x) (hg : x.g = some g)
    {d : TypeDesc} (hu : P.underlying ty = some d) (hd : (match d with | .struct _ | .array _ _ => true | _ => false) = true) (hz : (P.info? ty).map (·.size) = some x.cs.size) (hR : ∀ w, Hp w0 M hs w → R (.returned (.agg x.cs)) w) :
    HK n w0 M (fun a w => bodyPost P fn R .ret a w) l hs := fun a w ha hw =>
  bodyPost_ret (results_cell_row hr _ _ g x.t x.cs x.fr d (by rw [ha.vals p _ hv]) (hw.own x (List.mem_of_getElem? hi) g hg) hu hd hz) ha.defers (hR w hw)

/-! ### control -/
theorem hl_seq {x y : Code} (h : HL P n w0 M (Exit.then (fun a w => y.wp P Q a w) Q) x l hs) : HL P n w0 M Q (.seq x y) l hs := fun a w ha hw => wp_seq (h a w ha hw)
theorem hl_block {id : Nat} {c : Code} (h : HL P n w0 M (Exit.inBlock id Q) c l hs) : HL P n w0 M Q (.block id c) l hs := fun a w ha hw => wp_block (h a w ha hw)
theorem hl_skip (h : HK n w0 M (fun a w => Q .normal a w) l hs) : HL P n w0 M Q .skip l hs := fun a w ha hw => wp_skip (h a w ha hw)
theorem hl_exit {id : Nat} (h : HK n w0 M (fun a w => Q (.exit id) a w) l hs) : HL P n w0 M Q (.exit id) l hs := fun a w ha hw => wp_exit (h a w ha hw)
theorem hl_ret (h : HK n w0 M (fun a w => Q .ret a w) l hs) : HL P n w0 M Q .ret l hs := fun a w ha hw => wp_ret (h a w ha hw)
theorem hl_true {c : Operand} {x y : Code} (hc : ev l c = some (.bool true)) (h : HL P n w0 M Q x l hs) : HL P n w0 M Q (.cond c x y) l hs := fun a w ha hw => wp_cond_true (ha.ev hc) (h a w ha hw)
theorem hl_false {c : Operand} {x y : Code} (hc : ev l c = some (.bool false)) (h : HL P n w0 M Q y l hs) : HL P n w0 M Q (.cond c x y) l hs := fun a w ha hw => wp_cond_false (ha.ev hc) (h a w ha hw)
theorem hl_if {c : Operand} {x y : Code} {b : Bool} (hc : ev l c = some (.bool b)) (h1 : b = true → HL P n w0 M Q x l hs) (h2 : b = false → HL P n w0 M Q y l hs) : HL P n w0 M Q (.cond c x y) l hs := fun a w ha hw =>
  wp_cond_split (ha.ev hc) (fun e => h1 e a w ha hw) (fun e => h2 e a w ha hw)
theorem hl_region {id : Nat} {os : List Oper} (h : HO P n w0 M Q os.toArray os l hs) : HL P n w0 M Q (.region id os.toArray false) l hs := fun a w ha hw => wp_region_lit (h a w ha hw)
theorem hk_code {c : Code} (h : HL P n w0 M Q c l hs) : HK n w0 M (fun a w => c.wp P Q a w) l hs := h
theorem hl_sub {c : Code} {L : List (Nat × Value)} {H : List HB} (is : List Nat) (h1 : Sub L l) (hn : is.Nodup) (h2 : At is H hs) (h : HL P n w0 M Q c L H) : HL P n w0 M Q c l hs := fun a w ha hw => h a w (ha.sub h1) (hw.pick hn h2)
theorem hk_sub {K : Act → World → Prop} {L : List (Nat × Value)} {H : List HB} (is : List Nat) (h1 : Sub L l) (hn : is.Nodup) (h2 : At is H hs) (h : HK n w0 M K L H) : HK n w0 M K l hs := fun a w ha hw => h a w (ha.sub h1) (hw.pick hn h2)
theorem ho_pick {H : List HB} (is : List Nat) (hn : is.Nodup) (h2 : At is H hs) (h : HO P n w0 M Q ops rest l H) : HO P n w0 M Q ops rest l hs := fun a w ha hw => h a w ha (hw.pick hn h2)

theorem hl_loop {G : Type} {c : Code} (m : G → Nat) (pre : G → Prop) (L : G → List (Nat × Value)) (H : G → List HB) (g0 : G) (hp : pre g0) (hl : Sub (L g0) l) (is : List Nat) (hn : is.Nodup) (hh : At is (H g0) hs)
    (round : ∀ g, pre g → HL P n w0 M (Exit.then (fun a w => ∃ g', pre g' ∧ m g' < m g ∧ Agree n (L g') a ∧ Hp w0 M (H g') w) Q) c (L g) (H g)) : HL P n w0 M Q (.loop c) l hs := by
  intro a w ha hw
  refine wp_loop_ghost (fun k a w => ∃ g, pre g ∧ m g = k ∧ Agree n (L g) a ∧ Hp w0 M (H g) w) (m g0) ⟨g0, hp, rfl, ha.sub hl, hw.pick hn hh⟩ ?_
  rintro k a w ⟨g, hg, rfl, ha, hw⟩
  refine wp_mono (round g hg a w ha hw) ?_
  intro e a' w' hq
  cases e with
  | normal =>
    obtain ⟨g', h1, h2, h3, h4⟩ := hq
    exact ⟨m g', h2, g', h1, rfl, h3, h4⟩
  | exit id => exact hq
  | goto l => exact hq
  | ret => exact hq
  | panic ch => exact hq
  | outgrown => exact hq
theorem hk_round {G : Type} {m : G → Nat} {pre : G → Prop} {L : G → List (Nat × Value)} {H : G → List HB} {g : G} (g' : G) (h1 : pre g') (h2 : m g' < m g) (h3 : Sub (L g') l) (is : List Nat) (hn : is.Nodup) (h4 : At is (H g') hs) :
    HK n w0 M (fun a w => ∃ g', pre g' ∧ m g' < m g ∧ Agree n (L g') a ∧ Hp w0 M (H g') w) l hs := fun _ _ ha hw => ⟨g', h1, h2, ha.sub h3, hw.pick hn h4⟩

/-- two codes in a row, and what is known between them -/
theorem hl_mid {G : Type} {x y : Code} (pre : G → Prop) (L : G → List (Nat × Value)) (H : G → List HB) (h1 : HL P n w0 M (Exit.then (fun a w => ∃ g, pre g ∧ Agree n (L g) a ∧ Hp w0 M (H g) w) Q) x l hs) (h2 : ∀ g, pre g → HL P n w0 M Q y (L g) (H g)) : HL P n w0 M Q (.seq x y) l hs := fun a w ha hw => by
  refine wp_seq (wp_mono (h1 a w ha hw) ?_)
  intro e a' w' hq
  cases e with
  | normal => obtain ⟨g, h3, h4, h5⟩ := hq; exact h2 g h3 a' w' h4 h5
  | exit id => exact hq
  | goto l => exact hq
  | ret => exact hq
  | panic ch => exact hq
  | outgrown => exact hq
theorem hk_mid {G : Type} {pre : G → Prop} {L : G → List (Nat × Value)} {H : G → List HB} (g : G) (h1 : pre g) (h3 : Sub (L g) l) (is : List Nat) (hn : is.Nodup) (h4 : At is (H g) hs) :
    HK n w0 M (fun a w => ∃ g, pre g ∧ Agree n (L g) a ∧ Hp w0 M (H g) w) l hs := fun _ _ ha hw => ⟨g, h1, ha.sub h3, hw.pick hn h4⟩
theorem hk_then_code {y : Code} {Q' : Exit → Act → World → Prop} (h : HL P n w0 M Q y l hs) : HK n w0 M (fun a w => Exit.then (fun a w => y.wp P Q a w) Q' .normal a w) l hs := h
theorem hk_then_normal {K : Act → World → Prop} (h : HK n w0 M (fun a w => K a w) l hs) : HK n w0 M (fun a w => Exit.then K Q .normal a w) l hs := h
theorem hk_then_exit {K : Act → World → Prop} {id : Nat} (h : HK n w0 M (fun a w => Q (.exit id) a w) l hs) : HK n w0 M (fun a w => Exit.then K Q (.exit id) a w) l hs := h
theorem hk_then_ret {K : Act → World → Prop} (h : HK n w0 M (fun a w => Q .ret a w) l hs) : HK n w0 M (fun a w => Exit.then K Q .ret a w) l hs := h
theorem hk_block_normal {id : Nat} (h : HK n w0 M (fun a w => Q .normal a w) l hs) : HK n w0 M (fun a w => Exit.inBlock id Q .normal a w) l hs := h
theorem hk_block_ret {id : Nat} (h : HK n w0 M (fun a w => Q .ret a w) l hs) : HK n w0 M (fun a w => Exit.inBlock id Q .ret a w) l hs := h
theorem hk_block_hit {id : Nat} (h : HK n w0 M (fun a w => Q .normal a w) l hs) : HK n w0 M (fun a w => Exit.inBlock id Q (.exit id) a w) l hs := fun a w ha hw => by
  show (if id = id then Q .normal a w else Q (.exit id) a w)
  rw [if_pos rfl]; exact h a w ha hw
theorem hk_block_miss {id id' : Nat} (hne : Nat.beq id' id = false) (h : HK n w0 M (fun a w => Q (.exit id') a w) l hs) : HK n w0 M (fun a w => Exit.inBlock id Q (.exit id') a w) l hs := fun a w ha hw => by
  show (if id' = id then Q .normal a w else Q (.exit id') a w)
  rw [if_neg (fun e => by subst e; simp at hne)]; exact h a w ha hw

/-! ### a list of operations -/
theorem ho_nil (h : HK n w0 M (fun a w => Q .normal a w) l hs) : HO P n w0 M Q ops [] l hs := h
theorem ho_val {v : Value} (hg : o.guard = none) (hd : dstOk n o.dst = true) (hx : Ex P n w0 M l hs o v) (h : HO P n w0 M Q ops rest (putl l o.dst v) hs) : HO P n w0 M Q ops (o :: rest) l hs := fun a w ha hw =>
  wpList_plain hg fun K hK => by
    unfold Oper.wp
    rw [hx a w ha hw, Oper.upon_value]
    exact hK _ _ (h _ _ (ha.putl hd v) hw)
theorem ho_do {X : Type} {val : X → Value} {hs' : X → List HB} {pre : X → Prop} (hg : o.guard = none) (hd : dstOk n o.dst = true) (hx : ExW P n w0 M l hs o val hs' pre)
    (h : ∀ x, pre x → HO P n w0 M Q ops rest (putl l o.dst (val x)) (hs' x)) : HO P n w0 M Q ops (o :: rest) l hs := fun a w ha hw =>
  wpList_plain hg fun K hK => hx a w ha hw K Q fun x w' hp hw' => hK _ _ (h x hp _ _ (ha.putl hd _) hw')
end

end Go.Proofs.Ytdmagjelmhcemaa
