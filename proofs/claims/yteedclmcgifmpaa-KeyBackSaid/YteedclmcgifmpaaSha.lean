/- SHA-256 in plain Lean: numbers as Go's unsigned kinds have them. -/
import Derived.Test.YteedclmcgifmpaaFw8
namespace Go.Proofs.Yteedclmcgifmpaa.Sha
open Go Fw

def turn (x n : Int) : Int := ior .u32 (ishr .u32 x n) (ishl .u32 x (32 - n))
def s0 (x : Int) : Int := ixor .u32 (ixor .u32 (turn x 7) (turn x 18)) (ishr .u32 x 3)
def s1 (x : Int) : Int := ixor .u32 (ixor .u32 (turn x 17) (turn x 19)) (ishr .u32 x 10)
def b0 (x : Int) : Int := ixor .u32 (ixor .u32 (turn x 2) (turn x 13)) (turn x 22)
def b1 (x : Int) : Int := ixor .u32 (ixor .u32 (turn x 6) (turn x 11)) (turn x 25)
def ch (x y z : Int) : Int := ixor .u32 (iand .u32 x y) (iand .u32 (inot .u32 x) z)
def mj (x y z : Int) : Int := ixor .u32 (ixor .u32 (iand .u32 x y) (iand .u32 x z)) (iand .u32 y z)
def add (x y : Int) : Int := IntKind.u32.wrap (x + y)
def conv (x : Int) : Int := IntKind.u32.wrap x

/-- the word at i -/
def word (b : List Int) (i : Nat) : Int :=
  ior .u32 (ior .u32 (ior .u32 (ishl .u32 (conv (b.getD (4 * i) 0)) 24) (ishl .u32 (conv (b.getD (4 * i + 1) 0)) 16)) (ishl .u32 (conv (b.getD (4 * i + 2) 0)) 8)) (conv (b.getD (4 * i + 3) 0))

def zero64 : List Int := List.replicate 64 0
/-- the first sixteen words, i of them -/
def w1 (b : List Int) : Nat → List Int
  | 0 => zero64
  | i + 1 => (w1 b i).set i (word b i)
def nxt (l : List Int) (i : Nat) : Int := add (add (add (l.getD (i - 16) 0) (s0 (l.getD (i - 15) 0))) (l.getD (i - 7) 0)) (s1 (l.getD (i - 2) 0))
/-- the others, up to 16 + i -/
def w2 (l : List Int) : Nat → List Int
  | 0 => l
  | i + 1 => (w2 l i).set (16 + i) (nxt (w2 l i) (16 + i))
def sched (b : List Int) : List Int := w2 (w1 b 16) 48

def tt (v : List Int) (k w : Int) : Int :=
  add (add (add (add (v.getD 7 0) (b1 (v.getD 4 0))) (ch (v.getD 4 0) (v.getD 5 0) (v.getD 6 0))) k) w
def uu (v : List Int) : Int := add (b0 (v.getD 0 0)) (mj (v.getD 0 0) (v.getD 1 0) (v.getD 2 0))
def rnd (v : List Int) (k w : Int) : List Int :=
  [add (tt v k w) (uu v), v.getD 0 0, v.getD 1 0, v.getD 2 0, add (v.getD 3 0) (tt v k w), v.getD 4 0, v.getD 5 0, v.getD 6 0]
def rnds (K W v : List Int) : Nat → List Int
  | 0 => v
  | i + 1 => rnd (rnds K W v i) (K.getD i 0) (W.getD i 0)
/-- i words added -/
def adds (s v : List Int) : Nat → List Int
  | 0 => s
  | i + 1 => (adds s v i).set i (add ((adds s v i).getD i 0) (v.getD i 0))
def comp (K s b : List Int) : List Int := adds s (rnds K (sched b) s 64) 8

theorem w1_len (b : List Int) (i : Nat) : (w1 b i).length = 64 := by
  induction i with
  | zero => simp [w1, zero64]
  | succ i ih => simp [w1, ih]
theorem w2_len (l : List Int) (i : Nat) : (w2 l i).length = l.length := by
  induction i with
  | zero => simp [w2]
  | succ i ih => simp [w2, ih]
theorem sched_len (b : List Int) : (sched b).length = 64 := by simp [sched, w2_len, w1_len]
theorem rnds_len (K W v : List Int) (h : v.length = 8) (i : Nat) : (rnds K W v i).length = 8 := by
  cases i with
  | zero => simpa [rnds] using h
  | succ i => simp [rnds, rnd]
theorem adds_len (s v : List Int) (i : Nat) : (adds s v i).length = s.length := by
  induction i with
  | zero => simp [adds]
  | succ i ih => simp [adds, ih]
theorem comp_len (K s b : List Int) : (comp K s b).length = s.length := adds_len _ _ _

def K : List Int := [
  0x428a2f98, 0x71374491, 0xb5c0fbcf, 0xe9b5dba5, 0x3956c25b, 0x59f111f1, 0x923f82a4, 0xab1c5ed5,
  0xd807aa98, 0x12835b01, 0x243185be, 0x550c7dc3, 0x72be5d74, 0x80deb1fe, 0x9bdc06a7, 0xc19bf174,
  0xe49b69c1, 0xefbe4786, 0x0fc19dc6, 0x240ca1cc, 0x2de92c6f, 0x4a7484aa, 0x5cb0a9dc, 0x76f988da,
  0x983e5152, 0xa831c66d, 0xb00327c8, 0xbf597fc7, 0xc6e00bf3, 0xd5a79147, 0x06ca6351, 0x14292967,
  0x27b70a85, 0x2e1b2138, 0x4d2c6dfc, 0x53380d13, 0x650a7354, 0x766a0abb, 0x81c2c92e, 0x92722c85,
  0xa2bfe8a1, 0xa81a664b, 0xc24b8b70, 0xc76c51a3, 0xd192e819, 0xd6990624, 0xf40e3585, 0x106aa070,
  0x19a4c116, 0x1e376c08, 0x2748774c, 0x34b0bcb5, 0x391c0cb3, 0x4ed8aa4a, 0x5b9cca4f, 0x682e6ff3,
  0x748f82ee, 0x78a5636f, 0x84c87814, 0x8cc70208, 0x90befffa, 0xa4506ceb, 0xbef9a3f7, 0xc67178f2]
def S0 : List Int := [0x6a09e667, 0xbb67ae85, 0x3c6ef372, 0xa54ff53a, 0x510e527f, 0x9b05688c, 0x1f83d9ab, 0x5be0cd19]

end Go.Proofs.Yteedclmcgifmpaa.Sha
