/- append, where what was appended to may be looked at again. Nothing of a program. -/
import Derived.Test.YtdmagjelmhcemaaUn4
namespace Go.Proofs.Ytdmagjelmhcemaa
open Go.RowKit
set_option linter.unusedVariables false
set_option linter.unusedSimpArgs false
theorem at_tail_aux : ∀ (hs : List HB) (pre : List HB), At ((List.range hs.length).map (· + pre.length)) hs (pre ++ hs)
  | [], pre => .nil
  | b :: hs, pre => by
    have h := at_tail_aux hs (pre ++ [b])
    rw [List.length_cons, List.range_succ_eq_map, List.map_cons, List.map_map]
    refine .cons (0 + pre.length) (by simp) ?_
    have e : (List.range hs.length).map ((· + pre.length) ∘ Nat.succ) = (List.range hs.length).map (· + (pre ++ [b]).length) := by
      apply List.map_congr_left; intro a _; simp [Function.comp]; omega
    rw [e]
    simpa using h
theorem at_tail (hs : List HB) (a b : HB) : At ((List.range hs.length).map (· + 2)) hs (a :: b :: hs) := at_tail_aux hs [a, b]
section
variable {P : Program} {n : Nat} {w0 : World} {M : List Nat} {l : List (Nat × Value)} {hs2 : List HB}
variable {d : Option Tmp} {ty : TypeId} {pos : String} {af : Array Edge} {gd : Option (Nat × Bool)}
theorem exw_append_two {s x : Operand} {t e : TypeId} {g m c k c2 : Nat} {q : Addr} {xs rest news : List Value} {z : Value} {bytes : Nat}
    (hs1 : ev l s = some (rowv (some g) m c)) (hx : ev l x = some (slv (some q) k c2)) (hok : RowOk 1 (some g) m c xs rest) (hn : ∀ w, Hp w0 M (⟨some g, (xs ++ rest).toArray, e, (0, 0)⟩ :: hs2) w → Sl w (some q) news) (hl : news.length = k)
    (h1 : ∀ u ∈ news, u.oneCell' = true) (ht : P.underlying t = some (.slice e)) (hI : Info P e z 1 bytes) (hzs : z.cells.size = 1)
    (hb : (m + k) * bytes ≤ 140737488355328) (hmax : m + k ≤ maxLen) :
    ExW P n w0 M l (⟨some g, (xs ++ rest).toArray, e, (0, 0)⟩ :: hs2) ⟨d, .call { callee := .builtin .append, args := #[s, x], argTypes := #[t, t] }, ty, pos, af, gd⟩ (fun y : Option Nat × Nat × Nat × List Value => rowv (some y.2.1) (m + k) y.2.2.1)
      (fun y => ⟨some y.2.1, ((xs ++ news) ++ y.2.2.2).toArray, e, (0, 0)⟩ :: ⟨y.1, (xs ++ rest).toArray, e, (0, 0)⟩ :: hs2) (fun y => RowOk 1 (some y.2.1) (m + k) y.2.2.1 (xs ++ news) y.2.2.2 ∧ (y.1 = none ∧ y.2.1 = g ∨ y.1 = some g)) := fun a w ha hw next Q kk => by
  obtain ⟨i, hi, hz, hsz, hby⟩ := hI.get
  have hsl := hn w hw
  have hgw : w.heap[g]? = some (.cells (xs ++ rest).toArray e (0, 0)) := hw.own ⟨some g, (xs ++ rest).toArray, e, (0, 0)⟩ (by simp) g rfl
  have hown : w.ownsRow 0 e 1 (rowv (some g) m c) m xs := by
    refine ⟨hok.len, .inr ⟨g, c, (xs ++ rest).toArray, rfl, Nat.zero_le _, hgw, hok.le, hok.max, by simpa using hok.room, ?_⟩⟩
    simp [← hok.len]
  have hnews : ∀ j u, news[j]? = some u → w.cell? (q.add j) = some u := fun j u hu => by
    obtain ⟨q', hq, hc⟩ := hsl j u hu
    obtain rfl := Option.some.inj hq
    exact hc
  have hd := hw.dis
  rw [List.pairwise_cons] at hd
  have hnew : w0.heap.size ≤ g ∨ g ∈ M := hw.new ⟨some g, (xs ++ rest).toArray, e, (0, 0)⟩ (by simp) g rfl
  unfold Oper.wp execOp
  by_cases hroom : m + k ≤ c
  · obtain ⟨w', r1, r2, r3⟩ := run_append_fits (P := P) w 0 t ty e i 1 ht hi hsz g m c xs hown q k c2 news (by simpa using hl) hnews h1 hroom
    simp only [resolve, invoke, builtin, Sem.run_bind, Sem.run_pure, Result.andThen_ok, List.map_toArray, List.map_cons, List.map_nil, ha.ev hs1, ha.ev hx]
    rw [show (Builtin.append_ #[t, t] ty #[rowv (some g) m c, slv (some q) k c2]).run P w = _ from r1]
    simp only [Result.andThen_ok, Oper.upon_value]
    rcases r2.2 with ⟨hv, hmk⟩ | ⟨g', cap, cur, hv, _, hcell, hle, hcm, hcs, htake⟩
    · cases hv
    · obtain ⟨rfl, rfl⟩ : g = g' ∧ c = cap := by simpa using hv
      have hcur : cur = ((xs ++ news) ++ cur.toList.drop ((m + k) * 1)).toArray := by
        apply Array.ext'
        rw [← htake]; simp
      refine kk (none, g, c, cur.toList.drop ((m + k) * 1)) w' ⟨⟨r2.1, ?_, hle, hcm, fun h => nomatch h⟩, .inl ⟨rfl, rfl⟩⟩ ?_
      · have hlen := r2.1
        have : (m + k) * 1 ≤ c * 1 := Nat.mul_le_mul_right _ hle
        simp only [List.length_append, List.length_drop, Array.length_toList, hcs] at hlen ⊢
        omega
      · have base : Hp w [g] [⟨some g, ((xs ++ news) ++ cur.toList.drop ((m + k) * 1)).toArray, e, (0, 0)⟩] w' :=
          ⟨r3.os, r3.tape, r3.output, r3.size, fun k' hk hm => r3.block k' hk (fun h => hm (by simpa using h)), fun y hy g' hg' => by
            obtain rfl := List.mem_singleton.1 hy; obtain rfl := Option.some.inj hg'
            rw [← hcur]; exact hcell, fun y hy g' hg' => by
            obtain rfl := List.mem_singleton.1 hy; obtain rfl := Option.some.inj hg'; exact .inr (by simp), List.pairwise_singleton _ _⟩
        have h2 := (hw.comp (A := [_]) (fun g' hg' => ⟨_, List.mem_cons_self, by rw [List.mem_singleton.1 hg']⟩) base).noneBlock (xs ++ rest).toArray e
        exact h2.pick (is := [1, 0] ++ (List.range hs2.length).map (· + 2)) (by
          rw [List.nodup_append]
          refine ⟨by decide, ?_, fun a ha b hb => ?_⟩
          · exact List.Pairwise.map _ (fun a b h => by omega) List.nodup_range
          · simp at ha hb; omega) (.cons 1 rfl (.cons 0 rfl (at_tail hs2 _ _)))
  · have holds : ∀ j u, xs[j]? = some u → w.cell? ((⟨g, 0, none⟩ : Addr).add j) = some u := hown.cells (g := g) rfl
    obtain ⟨v', w', r1, r2, r3, r4⟩ := run_append_own (P := P) w 0 t ty e i z 1 bytes ht hi hz hsz hby hzs (by decide) (rowv (some g) m c) m xs hown q k c2 news (by simpa using hl) hnews h1 hmax hb (Nat.zero_le _)
    have hg2 := run_append_grow (P := P) w t ty e i z ht hi hz ⟨g, 0, none⟩ m c xs (by rw [hsz]; exact hown.1) holds q k c2 news (by rw [hsz]; simpa using hl) hnews (by omega) (by simp only [maxLen] at hmax; omega) (growslice_fits (by omega) (by rw [hby]; exact hb))
    have he := r1.symm.trans hg2
    injection he with he1 he2
    subst he1; subst he2
    simp only [resolve, invoke, builtin, Sem.run_bind, Sem.run_pure, Result.andThen_ok, List.map_toArray, List.map_cons, List.map_nil, ha.ev hs1, ha.ev hx]
    rw [show (Builtin.append_ #[t, t] ty #[rowv (some g) m c, slv (some q) k c2]).run P w = _ from r1]
    simp only [Result.andThen_ok, Oper.upon_value]
    rcases r2.2 with ⟨hv, hmk⟩ | ⟨g', cap, cur, hv, _, hcell, hle, hcm, hcs, htake⟩
    · cases hv
    · obtain ⟨rfl, rfl⟩ : w.heap.size = g' ∧ grownCap w (m + k) c e = cap := by simpa using hv
      have hcur : cur = ((xs ++ news) ++ cur.toList.drop ((m + k) * 1)).toArray := by
        apply Array.ext'
        rw [← htake]; simp
      refine kk (some g, w.heap.size, grownCap w (m + k) c e, cur.toList.drop ((m + k) * 1)) _ ⟨⟨r2.1, ?_, hle, hcm, fun h => nomatch h⟩, .inr rfl⟩ ?_
      · have hlen := r2.1
        have : (m + k) * 1 ≤ grownCap w (m + k) c e * 1 := Nat.mul_le_mul_right _ hle
        simp only [List.length_append, List.length_drop, Array.length_toList, hcs] at hlen ⊢
        omega
      · have hal := (hw.drew).alloc cur e (0, 0)
        have hc2 := hcell
        rw [show (w.drew.alloc _).heap[w.heap.size]? = _ from heap_alloc_new w.drew _] at hc2
        have hc3 := Option.some.inj hc2
        rw [hc3]
        show Hp w0 M (⟨some w.heap.size, ((xs ++ news) ++ cur.toList.drop ((m + k) * 1)).toArray, e, (0, 0)⟩ :: ⟨some g, (xs ++ rest).toArray, e, (0, 0)⟩ :: hs2) _
        rw [← hcur]
        exact hal
end
end Go.Proofs.Ytdmagjelmhcemaa
