/- A part of the proof: 5 texts joined. -/
import Derived.Test.YthnihifblmnkdaaGreatPaA6
set_option linter.all false
namespace Go.Proofs.YthnihifblmnkdaaGreat
open Go.RowKit
end Go.Proofs.YthnihifblmnkdaaGreat

namespace Go.Proofs.YthnihifblmnkdaaGreat
open Go.RowKit
end Go.Proofs.YthnihifblmnkdaaGreat

namespace Go.Proofs.YthnihifblmnkdaaGreat
open Go.RowKit
structure StzD where
 kind:UInt8
 user:ByteArray
 res:ByteArray
 name:ByteArray
 show_:Int
 prio:Int
 code:Int
 n:Int
def StzD.arr (s:StzD):Array Value:=#[.int .u8 s.kind.toNat,.string s.user,.string s.res,.string s.name,.int .i64 s.show_,.int .i64 s.prio,.int .i64 s.code,.int .i64 s.n]
end Go.Proofs.YthnihifblmnkdaaGreat

namespace Go.Proofs.YthnihifblmnkdaaGreat
open Go.RowKit
end Go.Proofs.YthnihifblmnkdaaGreat

namespace Go.Proofs.YthnihifblmnkdaaGreat
open Go.RowKit
end Go.Proofs.YthnihifblmnkdaaGreat

