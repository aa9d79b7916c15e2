/- strings.Compare: what it answers. -/
import Derived.Test.YtoegpjcekdafoaaRows
import Derived.Test.YtoegpjcekdafoaaS
import Derived.Lib.Strings
import Derived.Lib.Slices
import Derived.Lib.Walk
import Derived.Lib.Bytealg
import Derived.KernelRfl
namespace Go.Proofs.Ytoegpjcekdafoaa
open Go.RowKit
set_option linter.unusedVariables false
set_option linter.unusedSimpArgs false

set_option maxHeartbeats 1000000 in
set_option maxRecDepth 100000 in
theorem bytealg_CompareString (a b : ByteArray) (w : World) : Calls Try.prog 56 #[.string a, .string b] w fun e w' => e = .returned (.int .i64 (Lib.compareBytes a.data.toList b.data.toList)) ∧ w' = w := by
  go_enter Try.func56, Try.ntmps56
  go_wp2
  rw [run_callFunc_extern Try.func64 (by kernel_rfl) (by kernel_rfl) (by kernel_rfl) (e := Extern.BytealgCompare.compare) (by kernel_rfl), Lib.run_compareString]
  simp only [Result.andThen]
  rw [Oper.upon_value]
  go_wp2
  go_ret
  exact ⟨rfl, rfl⟩
set_option maxHeartbeats 1000000 in
theorem strings_Compare (a b : ByteArray) (w : World) : Calls Try.prog 39 #[.string a, .string b] w fun e w' => e = .returned (.int .i64 (Lib.compareBytes a.data.toList b.data.toList)) ∧ w' = w := by
  go_enter Try.func39, Try.ntmps39
  go_wp2_with (go_at_call 56; refine (bytealg_CompareString _ _ _).mono ?_; rintro e w' ⟨rfl, rfl⟩)
  go_ret
  exact ⟨rfl, rfl⟩
theorem cmpstr_any (L K : List UInt8) (w : World) : Calls Try.prog 39 #[.string (bs L), .string (bs K)] w fun e w' => e = .returned (.int .i64 (Lib.compareBytes L K)) ∧ Below w.heap.size w w' :=
  (strings_Compare (bs L) (bs K) w).mono fun e w' ⟨h1, h2⟩ => by
    subst h2
    exact ⟨h1, Below.refl _ _⟩

end Go.Proofs.Ytoegpjcekdafoaa
