/- From a walk to a row: the post of a law that answers true and turns nothing; arguments opened by their shape. Nothing of a program. -/
import Derived.Test.YtdmagjelmhcemaaArr
import Derived.ProofKit
import Derived.OpenShut
import Derived.SizedLaws
namespace Go.Proofs.Ytdmagjelmhcemaa
open Go.RowKit Go.ChangeShapes Go.WideShapes
set_option linter.unusedVariables false
set_option linter.unusedSimpArgs false

section
variable {H : Type} {enc : TypeId × Value → H} {P : Program}

theorem trodAll_stay (hl : laidOutB P = true) {W W' : World} (hb : Below W.heap.size W W') :
    ∀ {ts : List TypeId} {vs : List Value} {ds : List (DataW H)} {ps : List MemPlace}, (∀ t ∈ ts, P.readableRec t = true ∧ t < P.types.size) → (∀ x ∈ ps, x.block < W.heap.size) →
      DataW.TrodAll enc P W 0 (fun _ => true) true ts vs ds ps → DataW.TrodAll enc P W' 0 (fun b => decide (b < W.heap.size)) true ts vs ds ps
  | [], vs, ds, ps, _, _, h => by
    obtain ⟨rfl, rfl, rfl⟩ := trodAll_nil h
    exact rfl
  | t :: ts, vs, ds, ps, ht, hp, h => by
    obtain ⟨v, vs', d, ds', p, q, rfl, rfl, rfl, hd, hr⟩ := trodAll_cons h
    have h1 := ht t (by simp)
    exact ⟨p, q, Below.trod hl h1.1 h1.2 hd hb (fun x hx => hp x (by simp [hx])), trodAll_stay hl hb (fun t' h' => ht t' (by simp [h'])) (fun x hx => hp x (by simp [hx])) hr, rfl⟩

/-- THE POST OF A LAW: it answers true, and nothing that was there has turned. -/
theorem law_post (hl : laidOutB P = true) {fn : Func} {s : ChangeSpec} {tb : TypeId} (hv : s.vars = []) (hres : fn.resultTypes = #[tb]) (htb : P.underlying tb = some .bool)
    (hread : ∀ t ∈ fn.params.toList, P.readableRec t = true ∧ t < P.types.size) {W W' : World} {args : Array Value} {ds gs : List (DataW H)} {before : List MemPlace} {apart : Bool}
    (hspec : (s.fn H (ds ++ gs)) = { results := [.lit (.bool true)], args := ds, vars := [] })
    (hW : DataW.Whole enc P fn.params.toList s.vars apart W args.toList ds gs before) (hb : Below W.heap.size W W') :
    s.post enc P fn apart true false false W args (.bool true) W' := by
  have hlt := hW.lt
  have hW' := hW
  obtain ⟨p, q, hA, hV, rfl, hfz, hnd⟩ := hW
  rw [hv] at hV
  obtain ⟨rfl, rfl⟩ : gs = [] ∧ q = [] := by
    cases gs with
    | nil => exact ⟨rfl, hV⟩
    | cons g r => exact absurd hV (by intro h; cases h)
  refine ⟨ds, [], p ++ [], [], p, [], hW', ?_, ?_, ?_, hb.frame _, fun h => by cases h⟩
  · rw [hspec, hres]
    exact ⟨[], [], shut_bool htb true, rfl, rfl⟩
  · rw [hspec]
    exact trodAll_stay hl hb hread (fun x hx => hlt x (by simp [hx])) hA
  · rw [hspec, hv]; exact rfl

/-- a list of whole numbers of one byte, as bytes -/
theorem bytes_of_ints : ∀ (cs : List Value), (∀ i, i < cs.length → ∃ n : Int, cs[i]? = some (.int .u8 n) ∧ (Lit.int .u8 n).wf = true) → ∃ x : List UInt8, x.length = cs.length ∧ cs = x.map vb
  | [], _ => ⟨[], rfl, rfl⟩
  | c :: cs, h => by
    obtain ⟨n, hn, hw⟩ := h 0 (by simp)
    obtain ⟨x, hx, rfl⟩ := bytes_of_ints cs (fun i hi => by simpa using h (i + 1) (by simpa using hi))
    have hc : c = .int .u8 n := by simpa using hn
    have hb : 0 ≤ n ∧ n < 256 := by
      have := bounds_u8 hw
      omega
    refine ⟨UInt8.ofNat n.toNat :: x, by simp, ?_⟩
    subst hc
    simp only [List.map_cons, List.cons.injEq, and_true, vb]
    congr 1
    simp
    omega

theorem open_bytes_arr {r : Reach} {b0 base : Nat} {w : World} {spare : Nat → Bool} {held : Bool} {t e n : Nat} {v : Value} {d : DataW H} {ps : List MemPlace} (ht : P.underlying t = some (.array n e)) (he : P.underlying e = some (.int .u8)) (hce : P.cellsOf e = 1) (hct : P.cellsOf t = n)
    (hval : Value.okWide P w r b0 t v) (hd : DataW.Trod enc P w base spare held t v d ps) : ∃ x : List UInt8, x.length = n ∧ v = .agg (vbs x) := by
  simp only [Value.okWide, ht] at hval
  obtain ⟨cs, rfl, hsz, _⟩ := hval
  obtain ⟨fuel, hf⟩ := hd
  obtain ⟨xs, m, _, _, hlen, hxs, hi⟩ := DataW.trod_array ht hf
  simp only [Value.cells] at hlen hi
  rw [hct] at hlen
  obtain ⟨x, hx, hcs⟩ := bytes_of_ints cs.toList (fun i hi' => by
    have h1 := hi i (by rw [← hlen]; exact hi')
    rw [hce, Nat.mul_one] at h1
    have h2 : (cs.toList.drop i).take 1 = [cs.toList[i]] := by
      rw [List.drop_eq_getElem_cons hi']; rfl
    rw [h2] at h1
    obtain ⟨y, hy⟩ : ∃ y, xs[i]? = some y := ⟨xs[i]'(by omega), List.getElem?_eq_getElem (by omega)⟩
    rw [hy] at h1
    obtain ⟨k, hk, _, hw⟩ := DataW.trod_int he h1
    exact ⟨k, by rw [List.getElem?_eq_getElem hi']; simpa using hk, hw⟩)
  refine ⟨x, by omega, ?_⟩
  congr 1
  apply Array.ext'
  rw [hcs]; simp [vbs]
end

end Go.Proofs.Ytdmagjelmhcemaa
