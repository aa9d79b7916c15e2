/- What the bound of an '..Upto' row gives: the length of a slice, of a string. Nothing of a program. -/
import Derived.Test.YtdmagjelmhcemaaRows
import Derived.Test.YtdmagjelmhcemaaRow
namespace Go.Proofs.Ytdmagjelmhcemaa
open Go.RowKit
set_option linter.unusedVariables false

section
variable {H : Type}
theorem bulk_one (d : DataW H) : 1 ≤ Rows.uptoBulk d := by
  cases d with
  | lit l => cases l <;> simp [Rows.uptoBulk]
  | nil => simp [Rows.uptoBulk]
  | ptr d => simp [Rows.uptoBulk]
  | slice elems spare => simp [Rows.uptoBulk]
  | agg parts => simp [Rows.uptoBulk]
  | iface t d => simp [Rows.uptoBulk]
  | map entries => simp [Rows.uptoBulk]
  | held h => simp [Rows.uptoBulk]
theorem bulk_part {d : DataW H} : ∀ {l : List (DataW H)}, d ∈ l → Rows.uptoBulk d ≤ Rows.uptoBulkAll l
  | [], h => by cases h
  | x :: r, h => by
    simp only [Rows.uptoBulkAll]
    rcases List.mem_cons.1 h with e | e
    · subst e; omega
    · have := bulk_part (l := r) e; omega
theorem bulk_length : ∀ (l : List (DataW H)), l.length ≤ Rows.uptoBulkAll l
  | [] => by simp [Rows.uptoBulkAll]
  | x :: r => by have := bulk_one x; have := bulk_length r; simp only [Rows.uptoBulkAll, List.length_cons]; omega
theorem bulk_slice (els sp : List (DataW H)) : els.length ≤ Rows.uptoBulk (.slice els sp) := by
  have h1 := bulk_length els
  simp only [Rows.uptoBulk]; omega
theorem bulk_len {d : DataW H} {k : Nat} (hd : LenD d k) {l : List (DataW H)} (hk : Rows.uptoSmall H l = true) (hm : d ∈ l) : k ≤ 1048576 := by
  have h : Rows.uptoBulkAll l ≤ 1048576 := of_decide_eq_true hk
  rcases hd with rfl | ⟨els, sp, rfl, rfl⟩
  · omega
  · exact Nat.le_trans (Nat.le_trans (bulk_slice els sp) (bulk_part hm)) h
end
end Go.Proofs.Ytdmagjelmhcemaa
