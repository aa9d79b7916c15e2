/- From a walk to a row: the post of a law that answers true and turns nothing; arguments opened by their shape. Nothing of a program. -/
import Derived.Test.YtdmagjelmhcemaaS
import Derived.ChangeSlices
import Derived.JoinedCond
import Derived.ProofKit
import Derived.OpenShut
import Derived.SizedLaws
namespace Go.Proofs.Ytdmagjelmhcemaa
open Go.RowKit Go.ChangeShapes Go.WideShapes
set_option linter.unusedVariables false
set_option linter.unusedSimpArgs false

section
variable {H : Type} {enc : TypeId × Value → H} {P : Program}

theorem trodAll_stay (hl : laidOutB P = true) {W W' : World} (hb : Below W.heap.size W W') :
    ∀ {ts : List TypeId} {vs : List Value} {ds : List (DataW H)} {ps : List MemPlace}, (∀ t ∈ ts, P.readableRec t = true ∧ t < P.types.size) → (∀ x ∈ ps, x.block < W.heap.size) →
      DataW.TrodAll enc P W 0 (fun _ => true) true ts vs ds ps → DataW.TrodAll enc P W' 0 (fun b => decide (b < W.heap.size)) true ts vs ds ps
  | [], vs, ds, ps, _, _, h => by
    obtain ⟨rfl, rfl, rfl⟩ := trodAll_nil h
    exact rfl
  | t :: ts, vs, ds, ps, ht, hp, h => by
    obtain ⟨v, vs', d, ds', p, q, rfl, rfl, rfl, hd, hr⟩ := trodAll_cons h
    have h1 := ht t (by simp)
    exact ⟨p, q, Below.trod hl h1.1 h1.2 hd hb (fun x hx => hp x (by simp [hx])), trodAll_stay hl hb (fun t' h' => ht t' (by simp [h'])) (fun x hx => hp x (by simp [hx])) hr, rfl⟩

/-- THE POST OF A LAW: it answers true, and nothing that was there has turned. -/
theorem law_post (hl : laidOutB P = true) {fn : Func} {s : ChangeSpec} {tb : TypeId} (hv : s.vars = []) (hres : fn.resultTypes = #[tb]) (htb : P.underlying tb = some .bool)
    (hread : ∀ t ∈ fn.params.toList, P.readableRec t = true ∧ t < P.types.size) {W W' : World} {args : Array Value} {ds gs : List (DataW H)} {before : List MemPlace} {apart : Bool}
    (hspec : (s.fn H (ds ++ gs)) = { results := [.lit (.bool true)], args := ds, vars := [] })
    (hW : DataW.Whole enc P fn.params.toList s.vars apart W args.toList ds gs before) (hb : Below W.heap.size W W') :
    s.post enc P fn apart true false false W args (.bool true) W' := by
  have hlt := hW.lt
  have hW' := hW
  obtain ⟨p, q, hA, hV, rfl, hfz, hnd⟩ := hW
  rw [hv] at hV
  obtain ⟨rfl, rfl⟩ : gs = [] ∧ q = [] := by
    cases gs with
    | nil => exact ⟨rfl, hV⟩
    | cons g r => exact absurd hV (by intro h; cases h)
  refine ⟨ds, [], p ++ [], [], p, [], hW', ?_, ?_, ?_, hb.frame _, fun h => by cases h⟩
  · rw [hspec, hres]
    exact ⟨[], [], shut_bool htb true, rfl, rfl⟩
  · rw [hspec]
    exact trodAll_stay hl hb hread (fun x hx => hlt x (by simp [hx])) hA
  · rw [hspec, hv]; exact rfl

/-- a list of whole numbers of one byte, as bytes -/
theorem bytes_of_ints : ∀ (cs : List Value), (∀ i, i < cs.length → ∃ n : Int, cs[i]? = some (.int .u8 n) ∧ (Lit.int .u8 n).wf = true) → ∃ x : List UInt8, x.length = cs.length ∧ cs = x.map vb
  | [], _ => ⟨[], rfl, rfl⟩
  | c :: cs, h => by
    obtain ⟨n, hn, hw⟩ := h 0 (by simp)
    obtain ⟨x, hx, rfl⟩ := bytes_of_ints cs (fun i hi => by simpa using h (i + 1) (by simpa using hi))
    have hc : c = .int .u8 n := by simpa using hn
    have hb : 0 ≤ n ∧ n < 256 := by
      have := bounds_u8 hw
      omega
    refine ⟨UInt8.ofNat n.toNat :: x, by simp, ?_⟩
    subst hc
    simp only [List.map_cons, List.cons.injEq, and_true, vb]
    congr 1
    simp
    omega

theorem open_bytes_arr {r : Reach} {b0 base : Nat} {w : World} {spare : Nat → Bool} {held : Bool} {t e n : Nat} {v : Value} {d : DataW H} {ps : List MemPlace} (ht : P.underlying t = some (.array n e)) (he : P.underlying e = some (.int .u8)) (hce : P.cellsOf e = 1) (hct : P.cellsOf t = n)
    (hval : Value.okWide P w r b0 t v) (hd : DataW.Trod enc P w base spare held t v d ps) : ∃ x : List UInt8, x.length = n ∧ v = .agg (vbs x) := by
  simp only [Value.okWide, ht] at hval
  obtain ⟨cs, rfl, hsz, _⟩ := hval
  obtain ⟨fuel, hf⟩ := hd
  obtain ⟨xs, m, _, _, hlen, hxs, hi⟩ := DataW.trod_array ht hf
  simp only [Value.cells] at hlen hi
  rw [hct] at hlen
  obtain ⟨x, hx, hcs⟩ := bytes_of_ints cs.toList (fun i hi' => by
    have h1 := hi i (by rw [← hlen]; exact hi')
    rw [hce, Nat.mul_one] at h1
    have h2 : (cs.toList.drop i).take 1 = [cs.toList[i]] := by
      rw [List.drop_eq_getElem_cons hi']; rfl
    rw [h2] at h1
    obtain ⟨y, hy⟩ : ∃ y, xs[i]? = some y := ⟨xs[i]'(by omega), List.getElem?_eq_getElem (by omega)⟩
    rw [hy] at h1
    obtain ⟨k, hk, _, hw⟩ := DataW.trod_int he h1
    exact ⟨k, by rw [List.getElem?_eq_getElem hi']; simpa using hk, hw⟩)
  refine ⟨x, by omega, ?_⟩
  congr 1
  apply Array.ext'
  rw [hcs]; simp [vbs]

/-- a reading of a slice that is so long -/
def LenD (d : DataW H) (k : Nat) : Prop := k = 0 ∨ ∃ els sp, d = .slice els sp ∧ els.length = k
theorem open_bytes_cs {base : Nat} {w : World} {spare : Nat → Bool} {held : Bool} {t e : TypeId} {cs : List Value} {d : DataW H × List MemPlace} {fuel : Nat} (ht : P.underlying t = some (.slice e)) (he : P.underlying e = some (.int .u8)) (hc : P.cellsOf e = 1)
    (hf : DataW.trod enc P w base spare held fuel t cs = some d) : ∃ (x : List UInt8) (p : Option Addr) (c : Nat), cs = [slv p x.length c] ∧ (p = none → x.length = 0 ∧ c = 0) ∧ x.length ≤ c ∧ c ≤ maxLen ∧ Sl w p (x.map vb) ∧ LenD d.1 x.length := by
  rcases Go.ChangeShapes.open_ints ht he hc hf with ⟨h1, _⟩ | ⟨a, l0, c0, zs, h1, _, hlc, hcm, hz, hx, hcell, hwf⟩
  · exact ⟨[], none, 0, h1, fun _ => ⟨rfl, rfl⟩, Nat.le_refl _, by simp [maxLen], Sl.nil w _, .inl rfl⟩
  · have hlz : l0 ≤ zs.length := by rw [hz]; split <;> omega
    let x : List UInt8 := (zs.take l0).map fun n => UInt8.ofNat n.toNat
    have hxl : x.length = l0 := by simp [x, Nat.min_eq_left hlz]
    have hlen : (lits (H := H) IntKind.u8 (zs.take l0)).length = x.length := by simp [lits, hxl, Nat.min_eq_left hlz]
    refine ⟨x, some a, c0, by rw [hxl]; exact h1, (fun h => by cases h), by rw [hxl]; exact hlc, hcm, (fun i v hv => ⟨a, rfl, ?_⟩), Or.inr ⟨_, _, congrArg Prod.fst hx, hlen⟩⟩
    have hi : i < l0 := by
      have := (List.getElem?_eq_some_iff.1 hv).1
      simpa [hxl] using this
    have hc1 := hcell i (by omega)
    rw [hc1]
    have hg : zs.getD i 0 ∈ zs := by
      have : zs.getD i 0 = zs[i]'(by omega) := by simp [List.getD, show i < zs.length by omega]
      rw [this]; exact List.getElem_mem _
    have hb := bounds_u8 (hwf _ hg)
    have hv' : v = vb (UInt8.ofNat (zs.getD i 0).toNat) := by
      simp only [x, List.map_map, List.map_take, List.getElem?_take, hi, if_true, List.getElem?_map] at hv
      have hi2 : i < zs.length := by omega
      rw [List.getElem?_eq_getElem hi2] at hv
      simp only [Option.map_some, Option.some.injEq, Function.comp] at hv
      rw [← hv]
      simp [List.getD, hi2]
    rw [hv']
    generalize zs.getD i 0 = z at hb
    congr 1
    simp only [vb]
    congr 1
    simp
    omega
theorem open_bytes {r : Reach} {b0 base : Nat} {w : World} {spare : Nat → Bool} {held : Bool} {t e : TypeId} {v : Value} {d : DataW H} {ps : List MemPlace} (ht : P.underlying t = some (.slice e)) (he : P.underlying e = some (.int .u8)) (hc : P.cellsOf e = 1)
    (hval : Value.okWide P w r b0 t v) (hd : DataW.Trod enc P w base spare held t v d ps) : ∃ (x : List UInt8) (p : Option Addr) (c : Nat), v = slv p x.length c ∧ (p = none → x.length = 0 ∧ c = 0) ∧ x.length ≤ c ∧ c ≤ maxLen ∧ Sl w p (x.map vb) ∧ LenD d x.length := by
  obtain ⟨a0, l0, c0, rfl⟩ := okWide_slice ht hval
  obtain ⟨fuel, hf⟩ := hd
  have hcells : (Value.slice a0 l0 c0).cells.toList = [.slice a0 l0 c0] := rfl
  rw [hcells] at hf
  obtain ⟨x, p, c, h1, h2, h3, h4, h5, h6⟩ := open_bytes_cs ht he hc hf
  exact ⟨x, p, c, by simpa using h1, h2, h3, h4, h5, h6⟩
end

end Go.Proofs.Ytdmagjelmhcemaa
