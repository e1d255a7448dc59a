/- Eight slots of a frame that nobody reads any more. -/
import Derived.Test.YtenlkobjldhfgaaZRootRunsWk
namespace Go.Proofs.Ytenlkobjldhfgaa
structure V8 where
 a : Value
 b : Value
 c : Value
 d : Value
 e : Value
 f : Value
 g : Value
 h : Value
abbrev V8.l (q : V8) (t : List Value) : List Value := q.a :: q.b :: q.c :: q.d :: q.e :: q.f :: q.g :: q.h :: t
end Go.Proofs.Ytenlkobjldhfgaa
