/- strings.IndexByte: what it answers. -/
import Derived.Test.YtdmagjelmhcemaaRows
import Derived.Test.YtdmagjelmhcemaaS
import Derived.Lib.Strings
import Derived.Lib.Slices
import Derived.Lib.Walk
import Derived.Lib.Bytealg
import Derived.KernelRfl
namespace Go.Proofs.Ytdmagjelmhcemaa
open Go.RowKit
set_option linter.unusedVariables false
set_option linter.unusedSimpArgs false

set_option maxHeartbeats 1000000 in
set_option maxRecDepth 100000 in
theorem lite_IndexByte (s : ByteArray) (c : Int) (w : World) : Calls Try.prog 47 #[.string s, .int .u8 c] w fun e w' => e = .returned (.int .i64 (Lib.indexByte s.data.toList c.toNat.toUInt8)) ∧ w' = w := by
  go_enter Try.func47, Try.ntmps47
  go_wp2
  rw [run_callFunc_extern Try.func49 (by kernel_rfl) (by kernel_rfl) (by kernel_rfl) (e := Extern.BytealgIndexByte.indexByte) (by kernel_rfl), Lib.run_indexByteString]
  simp only [Result.andThen]
  rw [Oper.upon_value]
  go_wp2
  go_ret
  exact ⟨rfl, rfl⟩
set_option maxHeartbeats 1000000 in
theorem strings_IndexByte (s : ByteArray) (c : Int) (w : World) : Calls Try.prog 42 #[.string s, .int .u8 c] w fun e w' => e = .returned (.int .i64 (Lib.indexByte s.data.toList c.toNat.toUInt8)) ∧ w' = w := by
  go_enter Try.func42, Try.ntmps42
  go_wp2_with (go_at_call 47; refine (lite_IndexByte _ _ _).mono ?_; rintro e w' ⟨rfl, rfl⟩)
  go_ret
  exact ⟨rfl, rfl⟩
theorem idx_any (D : List UInt8) (c : UInt8) (w : World) : Calls Try.prog 42 #[.string (bs D), .int .u8 (c.toNat : Int)] w fun e w' => e = .returned (.int .i64 (Lib.indexByte D c)) ∧ Below w.heap.size w w' :=
  (strings_IndexByte (bs D) (c.toNat : Int) w).mono fun e w' ⟨h1, h2⟩ => by
    subst h2
    refine ⟨?_, Below.refl _ _⟩
    rw [h1, Int.toNat_natCast, show c.toNat.toUInt8 = c from UInt8.ofNat_toNat]; rfl

end Go.Proofs.Ytdmagjelmhcemaa
