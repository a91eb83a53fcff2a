import Derived.Test.YtppbcopnfankcaaGreatQMkE
set_option linter.unusedVariables false
set_option linter.unusedSimpArgs false
namespace Go.Proofs.YtppbcopnfankcaaGreat
open Go.RowKit Go.Lib
structure HdV where
 n:Int
 r:ByteArray
 a:ByteArray
 b:ByteArray
def HdV.val(h:HdV):Value:=.agg #[.int .i64 h.n,.string h.r,.string h.a,.string h.b]
def HdV.few(h:HdV):Prop:=h.r.size≤100∧h.a.size≤1000∧h.b.size≤1000
end Go.Proofs.YtppbcopnfankcaaGreat
