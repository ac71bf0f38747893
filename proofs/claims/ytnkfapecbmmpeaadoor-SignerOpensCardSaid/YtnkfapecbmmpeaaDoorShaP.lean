/- A part of the proof: contracts of functions of the program, each for every state of the heaps that it names. -/
import Derived.KernelRfl
set_option linter.unusedSimpArgs false
set_option linter.unusedVariables false
namespace Go.Proofs.YtnkfapecbmmpeaaDoor
set_option maxRecDepth 100000
set_option maxHeartbeats 1000000

namespace Sha
def K : List UInt32 := [1116352408, 1899447441, 3049323471, 3921009573, 961987163, 1508970993, 2453635748, 2870763221, 3624381080, 310598401, 607225278, 1426881987, 1925078388, 2162078206, 2614888103, 3248222580, 3835390401, 4022224774, 264347078, 604807628, 770255983, 1249150122, 1555081692, 1996064986, 2554220882, 2821834349, 2952996808, 3210313671, 3336571891, 3584528711, 113926993, 338241895, 666307205, 773529912, 1294757372, 1396182291, 1695183700, 1986661051, 2177026350, 2456956037, 2730485921, 2820302411, 3259730800, 3345764771, 3516065817, 3600352804, 4094571909, 275423344, 430227734, 506948616, 659060556, 883997877, 958139571, 1322822218, 1537002063, 1747873779, 1955562222, 2024104815, 2227730452, 2361852424, 2428436474, 2756734187, 3204031479, 3329325298]
def rotr (x : UInt32) (r : Nat) : UInt32 := UInt32.ofNat (x.toNat * 2 ^ min (32 - r) 32) ||| UInt32.ofNat (x.toNat / 2 ^ min r 32)
def shr (x : UInt32) (r : Nat) : UInt32 := UInt32.ofNat (x.toNat / 2 ^ min r 32)
/-- a word of four bytes -/
def be32 (a b c d : UInt8) : UInt32 := UInt32.ofNat (a.toUInt32.toNat * 2 ^ min 24 32) ||| UInt32.ofNat (b.toUInt32.toNat * 2 ^ min 16 32) ||| UInt32.ofNat (c.toUInt32.toNat * 2 ^ min 8 32) ||| d.toUInt32
def word (b : List UInt8) (i : Nat) : UInt32 := be32 (b.getD (4 * i) 0) (b.getD (4 * i + 1) 0) (b.getD (4 * i + 2) 0) (b.getD (4 * i + 3) 0)
def sg0 (x : UInt32) : UInt32 := rotr x 7 ^^^ rotr x 18 ^^^ shr x 3
def sg1 (x : UInt32) : UInt32 := rotr x 17 ^^^ rotr x 19 ^^^ shr x 10
/-- one word more -/
def ext (l : List UInt32) : List UInt32 := l ++ [l.getD (l.length - 16) 0 + sg0 (l.getD (l.length - 15) 0) + l.getD (l.length - 7) 0 + sg1 (l.getD (l.length - 2) 0)]
def exts : Nat → List UInt32 → List UInt32
  | 0, l => l
  | n + 1, l => ext (exts n l)
def firsts (b : List UInt8) (k : Nat) : List UInt32 := (List.range k).map (word b)
def sched (b : List UInt8) : List UInt32 := exts 48 (firsts b 16)
structure St8 where
  a : UInt32
  b : UInt32
  c : UInt32
  d : UInt32
  e : UInt32
  f : UInt32
  g : UInt32
  h : UInt32
def rnd (w k : UInt32) (s : St8) : St8 :=
  let s1 := rotr s.e 6 ^^^ rotr s.e 11 ^^^ rotr s.e 25
  let t1 := s.h + s1 + (s.e &&& s.f ^^^ ~~~ s.e &&& s.g) + k + w
  let s0 := rotr s.a 2 ^^^ rotr s.a 13 ^^^ rotr s.a 22
  let t2 := s0 + (s.a &&& s.b ^^^ s.a &&& s.c ^^^ s.b &&& s.c)
  { a := t1 + t2, b := s.a, c := s.b, d := s.c, e := s.d + t1, f := s.e, g := s.f, h := s.g }
def rnds (ws : List UInt32) (s : St8) : Nat → St8
  | 0 => s
  | i + 1 => rnd (ws.getD i 0) (K.getD i 0) (rnds ws s i)
def St8.list (s : St8) : List UInt32 := [s.a, s.b, s.c, s.d, s.e, s.f, s.g, s.h]
def St8.add (s t : St8) : St8 := ⟨s.a + t.a, s.b + t.b, s.c + t.c, s.d + t.d, s.e + t.e, s.f + t.f, s.g + t.g, s.h + t.h⟩
def mix (s : St8) (b : List UInt8) : St8 := s.add (rnds (sched b) s 64)
def init : St8 := ⟨0x6a09e667, 0xbb67ae85, 0x3c6ef372, 0xa54ff53a, 0x510e527f, 0x9b05688c, 0x1f83d9ab, 0x5be0cd19⟩
/-- a number's bytes -/
def numB (n : UInt64) (size : Nat) : List UInt8 := (List.range size).map fun i => (UInt64.ofNat (n.toNat / 2 ^ min (8 * (size - 1 - i)) 64)).toUInt8
def pad (l : List UInt8) : List UInt8 := l ++ [0x80] ++ List.replicate ((119 - l.length % 64) % 64) 0 ++ numB (8 * UInt64.ofNat l.length) 8
def mixes (s : St8) (p : List UInt8) : Nat → St8
  | 0 => s
  | k + 1 => mix (mixes s p k) (p.drop (64 * k))
def out (s : St8) : List UInt8 := s.list.flatMap fun x => numB x.toUInt64 4
def sum (l : List UInt8) : List UInt8 := out (mixes init (pad l) ((pad l).length / 64))
theorem ext_length (l : List UInt32) : (ext l).length = l.length + 1 := by simp [ext]
theorem exts_length (l : List UInt32) : ∀ n, (exts n l).length = l.length + n
  | 0 => rfl
  | n + 1 => by simp only [exts, ext_length, exts_length l n]; omega
theorem firsts_length (b : List UInt8) (k : Nat) : (firsts b k).length = k := by simp [firsts]
theorem sched_length (b : List UInt8) : (sched b).length = 64 := by simp [sched, exts_length, firsts_length]
theorem numB_length (n : UInt64) (k : Nat) : (numB n k).length = k := by simp [numB]
theorem pad_length (l : List UInt8) : (pad l).length = l.length + 1 + (119 - l.length % 64) % 64 + 8 := by simp [pad, numB_length]; omega
theorem pad_mod (l : List UInt8) : (pad l).length % 64 = 0 := by rw [pad_length]; omega
theorem out_length (s : St8) : (out s).length = 32 := by simp [out, St8.list, numB_length]
theorem sum_length (l : List UInt8) : (sum l).length = 32 := out_length _
end Sha

end Go.Proofs.YtnkfapecbmmpeaaDoor
