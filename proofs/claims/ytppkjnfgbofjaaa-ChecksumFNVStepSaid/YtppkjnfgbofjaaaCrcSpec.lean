/- The plain functions of chapter 7: the checksum register and the hash, on lists of bytes. -/
import Derived.Lib.Hide
namespace Crc
def one (s : UInt32) : UInt32 := if s &&& 1 = 1 then (s >>> 1) ^^^ 0xedb88320 else s >>> 1
def many : Nat → UInt32 → UInt32
  | 0, s => s
  | n + 1, s => one (many n s)
def byte (s : UInt32) (c : UInt8) : UInt32 := many 8 (s ^^^ c.toUInt32)
def reg (s : UInt32) (l : List UInt8) : UInt32 := l.foldl byte s
def update (s : UInt32) (l : List UInt8) : UInt32 := (reg (s ^^^ 0xffffffff) l) ^^^ 0xffffffff
def crc (ls : List (List UInt8)) : UInt32 := ls.foldl update 0
def fnv1 (n : UInt64) (c : UInt8) : UInt64 := (n ^^^ c.toUInt64) * 1099511628211
def fnv (l : List UInt8) : UInt64 := l.foldl fnv1 14695981039346656037
def le4 (s : UInt32) : List UInt8 := [s.toUInt8, (s >>> 8).toUInt8, (s >>> 16).toUInt8, (s >>> 24).toUInt8]
/-- What is found at the end of c: the bytes ahead of the checksum, and the error's number. -/
def verify (c : List UInt8) : List UInt8 × Int :=
  if c.length < 4 then ([], 4) else if c.drop (c.length - 4) = le4 (update 0 (c.take (c.length - 4))) then (c.take (c.length - 4), 0) else ([], 19)
def app (b : List UInt8) : List UInt8 := b ++ le4 (update 0 b)
end Crc
