/- The sum of no bytes begins so; a list of no more than 64 bytes and its sum as keys. Nothing of a program. -/
import Derived.Test.YtdmagjelmhcemaaDoorMac
import Derived.Test.YtdmagjelmhcemaaDoorTextLaw
namespace Go.Proofs.YtdmagjelmhcemaaDoor
open Go.RowKit
set_option linter.unusedVariables false
set_option linter.unusedSimpArgs false
theorem sha_nil4 : ((hexOf (sha tK tH [])).take 4 == [101, 51, 98, 48]) = true := by decide +kernel
theorem kpad_sum {k : List UInt8} (h : 64 < k.length) : kpad (sha tK tH k) = kpad k := by
  rw [kpad, kpad, if_neg (by rw [sha_length]; decide), if_pos h, sha_length]
theorem kpad_zero {k : List UInt8} (h : k.length < 64) : kpad (k ++ [0]) = kpad k := by
  rw [kpad, kpad, if_neg (by simp; omega), if_neg (by omega), List.length_append, show 64 - k.length = (64 - (k.length + 1)) + 1 by omega, List.replicate_succ, List.append_assoc]
  rfl
theorem hmac_sum {k : List UInt8} (d : List UInt8) (h : 64 < k.length) : hmac (sha tK tH k) d = hmac k d := by simp only [hmac, keyed, kpad_sum h]
theorem hmac_zero {k : List UInt8} (d : List UInt8) (h : k.length < 64) : hmac (k ++ [0]) d = hmac k d := by simp only [hmac, keyed, kpad_zero h]
theorem keyed_all (k : List UInt8) (x : UInt8) {i : Nat} (h : i = 64) : (keyed k x).take i = keyed k x := by subst h; exact List.take_of_length_le (by rw [keyed_length]; exact Nat.le_refl _)
theorem keyed_done (k d : List UInt8) {i : Nat} (h : i = 64) : sha tK tH ((keyed k 92).take i ++ sha tK tH ((keyed k 54).take i ++ d)) = hmac k d := by rw [keyed_all k 92 h, keyed_all k 54 h]; rfl
end Go.Proofs.YtdmagjelmhcemaaDoor
