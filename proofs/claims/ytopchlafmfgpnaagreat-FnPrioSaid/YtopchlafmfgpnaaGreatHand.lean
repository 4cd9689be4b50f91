/- Small words for the functions whose contracts are proved by hand: the first place at which a predicate holds; how a function value is entered. -/
import Derived.Test.YtopchlafmfgpnaaGreatWMore
import Derived.Test.YtopchlafmfgpnaaGreatWNEv
import Derived.Lib.LazyBuf
namespace Go.Proofs.YtopchlafmfgpnaaGreat.Hnd
open Go.RowKit Go.Proofs.YtopchlafmfgpnaaGreatW.PrintWords
def fidx{α:Type}(p:α→Bool):List α→Nat→Int
  |[],_=> -1
  |x::xs,n=>if p x=true then(n:Int)else fidx p xs (n+1)
theorem enters_fn{P:Program}{f:FuncId}{fn:Func}{c:Code}(hf:P.funcs[f]?=some fn)(hn:(fn.name== "runtime.NumGoroutine")=false)(hb:fn.body=some c): ∀args w,(callFunc f args).run P w= .ok (.enter f args) w:=by
  intro args w
  have h1:fn.name≠ "runtime.NumGoroutine" :=by simpa using hn
  simp[callFunc,hf,h1,hb,mark]
theorem nil_of{α:Type}{d:Kd α}{w:World}{l:List α}(h:Kd.C d w none l.length l):l=[]:=by
  cases l with
  |nil=>rfl
  |cons x xs=>obtain⟨ad,e,_⟩:=h.2.2 (by simp);cases e
end Go.Proofs.YtopchlafmfgpnaaGreat.Hnd

