/- SHA-256 as plain functions of lists. Nothing of a program. -/
import Derived.Test.YtdmagjelmhcemaaDoorZ
namespace Go.Proofs.YtdmagjelmhcemaaDoor
open Go.RowKit
set_option linter.unusedVariables false
set_option linter.unusedSimpArgs false

def rotr (x : UInt32) (n : Nat) : UInt32 := (x >>> UInt32.ofNat n) ||| (x <<< UInt32.ofNat (32 - n))
abbrev b32 (b : List UInt8) (k : Nat) : UInt32 := UInt32.ofNat (b.getD k 0).toNat
def wFirst (b : List UInt8) (t : Nat) : UInt32 := ((b32 b (4 * t) <<< UInt32.ofNat 24 ||| b32 b (4 * t + 1) <<< UInt32.ofNat 16) ||| b32 b (4 * t + 2) <<< UInt32.ofNat 8) ||| b32 b (4 * t + 3)
def w0To (b : List UInt8) : Nat → List UInt32
  | 0 => List.replicate 64 0
  | t + 1 => (w0To b t).set t (wFirst b t)
def wNext (w : List UInt32) (t : Nat) : UInt32 :=
  ((w.getD (t - 16) 0 + ((rotr (w.getD (t - 15) 0) 7 ^^^ rotr (w.getD (t - 15) 0) 18) ^^^ (w.getD (t - 15) 0 >>> UInt32.ofNat 3))) + w.getD (t - 7) 0) +
    ((rotr (w.getD (t - 2) 0) 17 ^^^ rotr (w.getD (t - 2) 0) 19) ^^^ (w.getD (t - 2) 0 >>> UInt32.ofNat 10))
def wTo (b : List UInt8) : Nat → List UInt32
  | 0 => w0To b 16
  | k + 1 => (wTo b k).set (16 + k) (wNext (wTo b k) (16 + k))
def rX (K W s : List UInt32) (t : Nat) : UInt32 :=
  (((s.getD 7 0 + ((rotr (s.getD 4 0) 6 ^^^ rotr (s.getD 4 0) 11) ^^^ rotr (s.getD 4 0) 25)) + ((s.getD 4 0 &&& s.getD 5 0) ^^^ (~~~(s.getD 4 0) &&& s.getD 6 0))) + K.getD t 0) + W.getD t 0
def rY (s : List UInt32) : UInt32 :=
  ((rotr (s.getD 0 0) 2 ^^^ rotr (s.getD 0 0) 13) ^^^ rotr (s.getD 0 0) 22) + (((s.getD 0 0 &&& s.getD 1 0) ^^^ (s.getD 0 0 &&& s.getD 2 0)) ^^^ (s.getD 1 0 &&& s.getD 2 0))
def rnd (K W s : List UInt32) (t : Nat) : List UInt32 :=
  [rX K W s t + rY s, s.getD 0 0, s.getD 1 0, s.getD 2 0, s.getD 3 0 + rX K W s t, s.getD 4 0, s.getD 5 0, s.getD 6 0]
def sTo (K W s : List UInt32) : Nat → List UInt32
  | 0 => s
  | k + 1 => rnd K W (sTo K W s k) k
def addTo (S s : List UInt32) : Nat → List UInt32
  | 0 => S
  | k + 1 => (addTo S s k).set k ((addTo S s k).getD k 0 + s.getD k 0)
def compress (K S : List UInt32) (b : List UInt8) : List UInt32 := addTo S (sTo K (wTo b 48) S 64) 8
theorem w0To_length (b : List UInt8) (t : Nat) : (w0To b t).length = 64 := by
  induction t with
  | zero => rfl
  | succ t ih => simp [w0To, ih]
theorem wTo_length (b : List UInt8) (t : Nat) : (wTo b t).length = 64 := by
  induction t with
  | zero => exact w0To_length b 16
  | succ t ih => simp [wTo, ih]
theorem sTo_length (K W s : List UInt32) (h : s.length = 8) (t : Nat) : (sTo K W s t).length = 8 := by
  cases t with
  | zero => exact h
  | succ t => rfl
theorem addTo_length (S s : List UInt32) (t : Nat) : (addTo S s t).length = S.length := by
  induction t with
  | zero => rfl
  | succ t ih => simp [addTo, ih]
theorem compress_length (K S : List UInt32) (b : List UInt8) (h : S.length = 8) : (compress K S b).length = 8 := by rw [compress, addTo_length, h]
theorem eight (S : List UInt32) (h : S.length = 8) : ∃ a b c d e f g i, S = [a, b, c, d, e, f, g, i] := by
  match S, h with
  | [a, b, c, d, e, f, g, i], _ => exact ⟨a, b, c, d, e, f, g, i, rfl⟩
/-- the other order of adding -/
theorem addTo_comm (S s : List UInt32) (h1 : S.length = 8) (h2 : s.length = 8) : addTo S s 8 = addTo s S 8 := by
  obtain ⟨a, b, c, d, e, f, g, i, rfl⟩ := eight S h1
  obtain ⟨a', b', c', d', e', f', g', i', rfl⟩ := eight s h2
  simp only [addTo, List.set_cons_zero, List.set_cons_succ, List.getD_cons_zero, List.getD_cons_succ]
  simp only [UInt32.add_comm a, UInt32.add_comm b, UInt32.add_comm c, UInt32.add_comm d, UInt32.add_comm e, UInt32.add_comm f, UInt32.add_comm g, UInt32.add_comm i]

theorem vws_all (l : List UInt32) : ∀ j v, (l.map vw)[j]? = some v → (vws l)[0 + j]? = some v := fun j v h => by simpa [vws] using h
theorem Sl.cell0 {w : World} {g : Nat} {xs : List Value} (h : Sl w (some ⟨g, 0, none⟩) xs) {k : Nat} {v : Value} (hk : xs[k]? = some v) : w.cell? ⟨g, k, none⟩ = some v := by
  obtain ⟨q, hq, hc⟩ := h k v hk
  obtain rfl := Option.some.inj hq
  simpa [add_plain'] using hc
theorem map_vw_get (l : List UInt32) (k : Nat) (h : k < l.length) : (l.map vw)[k]? = some (vw (l.getD k 0)) := by simp [h]
def shift (s : List UInt32) : List UInt32 := [s.getD 0 0, s.getD 0 0, s.getD 1 0, s.getD 2 0, s.getD 3 0, s.getD 4 0, s.getD 5 0, s.getD 6 0]
theorem copy7 (s : List UInt32) (h : s.length = 8) : ((vws s).toList.take 1 ++ (s.map vw).take 7 ++ (vws s).toList.drop (1 + ((s.map vw).take 7).length)).toArray = vws (shift s) := by
  obtain ⟨a, b, c, d, e, f, g, i, rfl⟩ := eight s h
  rfl

theorem one8 (a b c d e f g h : UInt32) : [vw a, vw b, vw c, vw d, vw e, vw f, vw g, vw h].all (·.oneCell') = true := rfl
theorem one8' (a b c d e f g h : UInt32) : [vw a, vw b, vw c, vw d, vw e, vw f, vw g, vw h].toArray.all (·.oneCell') = true := vws_one [a, b, c, d, e, f, g, h]
theorem eightCells (a b c d e f g h : UInt32) : (some 8 : Option Nat) = some [vw a, vw b, vw c, vw d, vw e, vw f, vw g, vw h].toArray.size := rfl

/-! messages -/
def blocksTo (K S : List UInt32) (m : List UInt8) : Nat → List UInt32
  | 0 => S
  | i + 1 => compress K (blocksTo K S m i) ((m.drop (64 * i)).take 64)
theorem blocksTo_length (K S : List UInt32) (m : List UInt8) (h : S.length = 8) (i : Nat) : (blocksTo K S m i).length = 8 := by
  induction i with
  | zero => exact h
  | succ i ih => exact compress_length _ _ _ ih
theorem blocksTo_app (K S : List UInt32) (m l : List UInt8) (i : Nat) (h : 64 * i ≤ m.length) : blocksTo K S (m ++ l) i = blocksTo K S m i := by
  induction i with
  | zero => rfl
  | succ i ih =>
    rw [blocksTo, blocksTo, ih (by omega)]
    congr 1
    rw [List.drop_append_of_le_length (by omega), List.take_append_of_le_length (by simp; omega)]
/-- the eight bytes of a number, the highest first -/
def be64 (n : Nat) : List UInt8 := (List.range 8).map fun i => UInt8.ofNat (n / 2 ^ (8 * (7 - i)))
def padm (m : List UInt8) : List UInt8 := m ++ [0x80] ++ List.replicate ((119 - m.length % 64) % 64) 0 ++ be64 (m.length * 8)
theorem padm_length (m : List UInt8) : (padm m).length = 64 * (m.length / 64 + if m.length % 64 < 56 then 1 else 2) := by
  simp only [padm, be64, List.length_append, List.length_cons, List.length_nil, List.length_replicate, List.length_map, List.length_range]
  split <;> omega
def outTo (S : List UInt32) : Nat → List UInt8
  | 0 => List.replicate 32 0
  | i + 1 => (outTo S i).set i (UInt8.ofNat (S.getD (i / 4) 0 >>> UInt32.ofNat (24 - 8 * (i % 4))).toNat)
theorem outTo_length (S : List UInt32) (i : Nat) : (outTo S i).length = 32 := by
  induction i with
  | zero => simp [outTo]
  | succ i ih => simp [outTo, ih]
def sha (K S : List UInt32) (m : List UInt8) : List UInt8 := outTo (blocksTo K S (padm m) ((padm m).length / 64)) 32
theorem sha_length (K S : List UInt32) (m : List UInt8) : (sha K S m).length = 32 := outTo_length _ _

/-- the tables -/
def tK : List UInt32 := [1116352408, 1899447441, 3049323471, 3921009573, 961987163, 1508970993, 2453635748, 2870763221, 3624381080, 310598401, 607225278, 1426881987, 1925078388, 2162078206, 2614888103, 3248222580,
  3835390401, 4022224774, 264347078, 604807628, 770255983, 1249150122, 1555081692, 1996064986, 2554220882, 2821834349, 2952996808, 3210313671, 3336571891, 3584528711, 113926993, 338241895,
  666307205, 773529912, 1294757372, 1396182291, 1695183700, 1986661051, 2177026350, 2456956037, 2730485921, 2820302411, 3259730800, 3345764771, 3516065817, 3600352804, 4094571909, 275423344,
  430227734, 506948616, 659060556, 883997877, 958139571, 1322822218, 1537002063, 1747873779, 1955562222, 2024104815, 2227730452, 2361852424, 2428436474, 2756734187, 3204031479, 3329325298]
def tH : List UInt32 := [1779033703, 3144134277, 1013904242, 2773480762, 1359893119, 2600822924, 528734635, 1541459225]
theorem tK_get (k : Nat) (h : k < 64) : (tK.map vw)[k]? = some (vw (tK.getD k 0)) := map_vw_get tK k h
theorem tK_length : tK.length = 64 := rfl
theorem tH_length : tH.length = 8 := rfl
end Go.Proofs.YtdmagjelmhcemaaDoor
