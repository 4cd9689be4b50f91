/- Plain laws on whole numbers, lists and 'from some number of rounds on' that the pure statements of this seat lean on. No program in sight. -/
import Derived.Test.YtopchlafmfgpnaaGreatWMore
import Derived.Test.YtopchlafmfgpnaaGreatWNEv
import Derived.Test.YtopchlafmfgpnaaGreatHand
import Derived.Laws.BitsLemmas
namespace Go.Proofs.YtopchlafmfgpnaaGreat.Bas
open Go.RowKit Go.Proofs.YtopchlafmfgpnaaGreatW.PrintWords Go.Proofs.YtopchlafmfgpnaaGreat.Hnd
set_option linter.unusedVariables false
set_option linter.unusedSimpArgs false
theorem and255(n:Int):0≤Go.bits .and .i64 n 255∧Go.bits .and .i64 n 255<256:=by
  have h255:(BitVec.ofInt 64 255).toNat=2^8-1:=by decide
  have key:(BitVec.ofInt 64 n&&&BitVec.ofInt 64 255).toNat=(n%((2^64:Nat):Int)).toNat%2^8:=by
    rw[BitVec.toNat_and,BitVec.toNat_ofInt,h255,Nat.and_two_pow_sub_one_eq_mod]
  have e:Go.bits .and .i64 n 255=IntKind.i64.wrap ((BitVec.ofInt 64 n&&&BitVec.ofInt 64 255).toNat:Nat):=rfl
  rw[e,key,IntKind.wrap_i64]
  omega
def I64(n:Int):Prop:= -9223372036854775808≤n∧n≤9223372036854775807
theorem wrap_id{n:Int}(h1: -9223372036854775808≤n)(h2:n≤9223372036854775807):wrap64 n=n:=by unfold wrap64;omega
theorem tmod_nn{p q:Int}(h:0≤p):Int.tmod p q=p%q:=Int.tmod_eq_emod_of_nonneg h
def gmod(p q:Int):Int:=if 1≤q∧q≤1000000000000 then p%q else 0
section
variable {α β γ:Type}
theorem Ev.succ{g:Nat→Option α}{r:α}(h:Ev (fun k=>g (k+1)) r):Ev g r:=Ev.step (fun _=>rfl) h
theorem evq{g:Nat→Option α}{r r':α}(h:Ev g r')(e:r'=r):Ev g r:=e▸h
theorem Ev.pure{o:Option α}{r:α}(h:o=some r):Ev (fun _=>o) r:=⟨0,fun _ _=>h⟩
theorem Ev.ifp{c:Prop} [Decidable c]{A B:Nat→Option α}{r:α}(h:c)(k:Ev A r):Ev (fun n=>if c then A n else B n) r:=by
  simp only[if_pos h];exact k
theorem Ev.ifn{c:Prop} [Decidable c]{A B:Nat→Option α}{r:α}(h: ¬c)(k:Ev B r):Ev (fun n=>if c then A n else B n) r:=by
  simp only[if_neg h];exact k
theorem Ev.ifd{c:Prop} [Decidable c]{A B:Nat→Option α}{r:α}(h1:c→Ev A r)(h2: ¬c→Ev B r):Ev (fun n=>if c then A n else B n) r:=by
  by_cases h:c
  · exact Ev.ifp h (h1 h)
  · exact Ev.ifn h (h2 h)
theorem Ev.all {g:Nat→Int→Option Bool} (n:Nat) (P:Nat→Bool)
    (h1: ∀(i:Nat) (r:Bool),i<n→P i=true→Ev (fun k=>g k ((i:Int)+1)) r→Ev (fun k=>g k (i:Int)) r)
    (h2: ∀(i:Nat),i<n→P i=false→Ev (fun k=>g k (i:Int)) false)
    (h3:Ev (fun k=>g k (n:Int)) true):Ev (fun k=>g k 0) ((List.range n).all P):=by
  have key: ∀(d i:Nat),i+d=n→Ev (fun k=>g k (i:Int)) ((List.range' i d).all P):=by
    intro d
    induction d with
    | zero => intro i hi;obtain rfl:i=n:=by omega
              simpa using h3
    | succ d ih=>
      intro i hi
      rw[List.range'_succ,List.all_cons]
      cases hP:P i with
      | true=>
        have:=ih (i+1) (by omega)
        rw[Bool.true_and]
        exact h1 i _ (by omega) hP (by simpa using this)
      |false=>exact h2 i (by omega) hP
  have:=key n 0 (by omega)
  rwa [←List.range_eq_range']at this
theorem evAnd {g:Nat→Int→Option Bool} {n:Nat} {P:Nat→Bool} {b:Bool}
    (h1: ∀(i:Nat) (r:Bool),i<n→P i=true→Ev (fun k=>g k ((i:Int)+1)) r→Ev (fun k=>g k (i:Int)) r)
    (h2: ∀(i:Nat),i<n→P i=false→Ev (fun k=>g k (i:Int)) false)
    (h3:Ev (fun k=>g k (n:Int)) b):Ev (fun k=>g k 0) ((List.range n).all P&&b):=by
  have key: ∀(d i:Nat),i+d=n→Ev (fun k=>g k (i:Int)) ((List.range' i d).all P&&b):=by
    intro d
    induction d with
    | zero => intro i hi;obtain rfl:i=n:=by omega
              simpa using h3
    | succ d ih=>
      intro i hi
      rw[List.range'_succ,List.all_cons]
      cases hP:P i with
      | true=>
        have:=ih (i+1) (by omega)
        rw[Bool.true_and]
        exact h1 i _ (by omega) hP (by simpa using this)
      |false=>rw[Bool.false_and,Bool.false_and];exact h2 i (by omega) hP
  have:=key n 0 (by omega)
  rwa [←List.range_eq_range']at this
end
section
variable {α β:Type}
def DrP(o:Option α)(P:α→Prop):Prop:= ∃v,o=some v∧P v
def EvP(g:Nat→Option α)(P:α→Prop):Prop:= ∃v,Ev g v∧P v
theorem DrP.now{v:α}{P:α→Prop}(h:P v):DrP (some v) P:=⟨v,rfl,h⟩
theorem DrP.bind{o:Option α}{f:α→Option β}{P:α→Prop}{Q:β→Prop}(h:DrP o P)(k: ∀v,P v→DrP (f v) Q):DrP (o.bind f) Q:=by
  obtain⟨v,rfl,hv⟩:=h
  exact k v hv
theorem EvP.now{v:α}{P:α→Prop}(h:P v):EvP (fun _=>some v) P:=⟨v,Ev.now v,h⟩
theorem EvP.of{g:Nat→Option α}{v:α}{P:α→Prop}(e:Ev g v)(h:P v):EvP g P:=⟨v,e,h⟩
theorem EvP.bind{g:Nat→Option α}{f:Nat→α→Option β}{P:α→Prop}{Q:β→Prop}(h:EvP g P)(k: ∀v,P v→EvP (fun n=>f n v) Q):EvP (fun n=>(g n).bind (f n)) Q:=by
  obtain⟨v,e,hv⟩:=h
  obtain⟨u,e2,hu⟩:=k v hv
  exact⟨u,Ev.bind e e2,hu⟩
theorem EvP.bindD{o:Option α}{f:Nat→α→Option β}{P:α→Prop}{Q:β→Prop}(h:DrP o P)(k: ∀v,P v→EvP (fun n=>f n v) Q):EvP (fun n=>o.bind (f n)) Q:=by
  obtain⟨v,rfl,hv⟩:=h
  exact k v hv
theorem EvP.succ{g:Nat→Option α}{P:α→Prop}(h:EvP (fun k=>g (k+1)) P):EvP g P:=by
  obtain⟨v,e,hv⟩:=h
  exact⟨v,Ev.succ e,hv⟩
theorem EvP.ifd{c:Prop} [Decidable c]{A B:Nat→Option α}{P:α→Prop}(h1:c→EvP A P)(h2: ¬c→EvP B P):EvP (fun n=>if c then A n else B n) P:=by
  by_cases h:c
  · simp only[if_pos h];exact h1 h
  · simp only[if_neg h];exact h2 h
theorem Ev.bindP{g:Nat→Option α}{f:Nat→α→Option β}{P:α→Prop}{r:β}(h:EvP g P)(k: ∀v,P v→Ev (fun n=>f n v) r):Ev (fun n=>(g n).bind (f n)) r:=by
  obtain⟨v,e,hv⟩:=h
  exact Ev.bind e (k v hv)
end
def Cur(b:List Int)(i:Int):Prop:=0≤i∧i≤b.length∧b.length≤1048576
def markInts(n:Nat)(c:Int):List Int:=(List.range n).map fun(i:Nat)=>c+1*(i:Int)
theorem rd_nat(xs:List Int)(i:Nat)(h:i<xs.length):rd xs (i:Int)=xs[i]:=by simp[rd,h]
theorem mem_drop(l:List Int)(i:Nat)(h:i<l.length)(x:Int):decide (x∈l.drop i)=(decide (x=l[i])||decide (x∈l.drop (i+1))):=by
  rw[List.drop_eq_getElem_cons h]
  by_cases h1:x=l[i]
  · rw[decide_eq_true h1,decide_eq_true (by rw[h1];exact List.mem_cons_self),Bool.true_or]
  · rw[decide_eq_false h1,Bool.false_or,Bool.eq_iff_iff,decide_eq_true_eq,decide_eq_true_eq,List.mem_cons]
    exact⟨fun h=>h.resolve_left h1,.inr⟩
theorem fidx_cases {α:Type} (p:α→Bool): ∀(l:List α) (n:Nat),(fidx p l n= -1∧ ∀x∈l,p x=false)∨ ∃i:Nat,fidx p l n=((n+i:Nat):Int)∧ ∃h:i<l.length,p l[i]=true∧ ∀j (hj:j<i),p (l[j]'(by omega))=false
  |[],_=> .inl ⟨rfl,by simp⟩
  | x ::xs,n=>by
    unfold fidx
    cases hx:p x with
    |true=>exact .inr ⟨0,by simp,by simp,by simpa using hx,fun j hj=>absurd hj (by omega)⟩
    | false=>
      rcases fidx_cases p xs (n+1)with⟨h1,h2⟩|⟨i,h1,h2,h3,h4⟩
      · exact .inl ⟨by simpa using h1,by intro y hy;rcases List.mem_cons.1 hy with rfl|hy;exact hx;exact h2 y hy⟩
      · refine .inr ⟨i+1,by simp only[Bool.false_eq_true,if_false];rw[h1];omega,by simpa using h2,by simpa using h3,fun j hj=>?_⟩
        cases j with
        |zero=>simpa using hx
        |succ j=>simpa using h4 j (by omega)
theorem fidx_hi{α:Type}(p:α→Bool)(l:List α):fidx p l 0<l.length:=by
  rcases fidx_cases p l 0 with⟨h,_⟩|⟨i,h,h2,_⟩<;>rw[h]<;>omega
theorem fidx_drop{α:Type}(p:α→Bool)(l:List α)(n:Nat)(i:Nat)(h:i<l.length):fidx p (l.drop i) (n+i)=if p l[i]=true then((n+i:Nat):Int)else fidx p (l.drop (i+1)) (n+i+1):=by
  rw[List.drop_eq_getElem_cons h];rfl
def isPath(a b c d:Int):Bool:=decide (1≤a∧a≤20)&&decide (1≤b∧b≤3)&&decide (0≤c∧c≤3)&&decide (0≤d∧d≤3)&&((c==d)==(b==2))
theorem isPath_bd{a b c d:Int}(h:isPath a b c d=true):1≤a∧a≤20∧1≤b∧b≤3∧0≤c∧c≤3∧0≤d∧d≤3:=by
  simp[isPath]at h;omega
def isWindow(f l c:Int):Bool:=decide (1≤c∧c≤200∧0≤f∧f≤c-1∧0≤l∧l≤c)
def inWindow(f l c o s:Int):Bool:=isWindow f l c&&decide (-1000000≤o∧o≤1000000)&&decide (-1000000≤s∧s≤1000000)&&decide ((s-o-f)%c<l)
def cnt(p:Int→Bool):Nat→Int→Int
  |0,_=>0
  |d+1,s=>(if p s then 1 else 0)+cnt p d (s+1)
def bandP(af al bf bl c t o:Int)(s:Int):Bool:=inWindow af al c 0 s&&inWindow bf bl c o (s+t)
def band(af al bf bl c t o:Int):Int:=if isWindow af al c&&isWindow bf bl c&&decide (0≤t∧t≤100000)&&decide (0≤o∧o≤100000)then cnt (bandP af al bf bl c t o) c.toNat 0 else 0
def argBest(f:Int→Int)(n:Nat):Int:=(List.range n).foldl (fun b (o:Nat)=>if f o>f b then(o:Int)else b) 0
def bestOffset(af al bf bl c t:Int):Int:=if isWindow af al c&&isWindow bf bl c&&decide (0≤t∧t≤100000)then argBest (band af al bf bl c t) c.toNat else-1
def isLink(p s h o:Int):Bool:=decide (1≤p∧p≤8∧0≤s∧s≤1000000∧0≤h∧h≤1000000∧0≤o∧o≤200)
def linkState(p s h o now:Int):Int:=if isLink p s h o=true∧h≤now∧now≤1000000∧now-h≤300 then(if now-h≤30 then 0 else 1)else 2
def hears(p s h o q n f:Int):Bool:=isLink p s h o&&isLink p q n f&&decide (s<q)&&decide (h≤n)
def hearStep(q:Int)(n f:Int)(x:Int×Int×Int×Int):Int×Int×Int×Int:=if hears x.1 x.2.1 x.2.2.1 x.2.2.2 q n f then(x.1,q,n,f)else x
end Go.Proofs.YtopchlafmfgpnaaGreat.Bas

