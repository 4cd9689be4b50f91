/- Open regions whose events may come up in several orders: every order is walked by one script; and the rows of a law's own function, each kept at an interval of blocks. -/
import Derived.Test.YtopchlafmfgpnaaGreatShort
import Derived.Test.YtopchlafmfgpnaaGreatWTab
import Derived.Test.YtopchlafmfgpnaaGreatWKept
namespace Go.Proofs.YtopchlafmfgpnaaGreat.S
open Go.RowKit Go.Proofs.YtopchlafmfgpnaaGreatW.PrintWords Go.Proofs.YtopchlafmfgpnaaGreatW.PrintLast Go.Proofs.YtopchlafmfgpnaaGreatW.PrintMore
section
variable {P:Program} {ops:Array Oper} {Q:Exit→Act→World→Prop} {md:Region.Mode} {S:World→Prop} {ds:List Nat} {oi:Oper} {v:Value} {fuel:Nat} {l:Array Bool} {a a':Act} {w:World} {E:List Nat} {i:Nat} {T:Bool×List (List Nat×List Nat)}
def AE(P:Program)(ops:Array Oper)(Q:Exit→Act→World→Prop)(md:Region.Mode)(S:World→Prop)(ds:List Nat)(fuel:Nat)(l:Array Bool)(a:Act)(w:World)(E:List Nat):Prop:=
  ∀i∈E,i∈Region.ready md ops l→wpOp P ops Q i (fun a' w'=>(i∉ds→S w→S w')∧wpAnyLast P md ops Q S ds fuel (l.setIfInBounds i true) a' w') a w
theorem ev(E:List Nat)(h:AE P ops Q md S ds fuel l a w E)(hT:rtab md ops=T:=by exact HT_.out)(hs:(!(readyT T.2 l.toList).isEmpty&&(readyT T.2 l.toList).all (fun i=>E.contains i))=true:=by kernel_rfl):wpAnyLast P md ops Q S ds (fuel+1) l a w:=by
  subst hT
  rw[←ready_eq,Bool.and_eq_true]at hs
  refine wpAnyLast_all rfl (fun h0=>by rw[h0]at hs;simp at hs) (fun i hi=>h i ?_ hi)
  simpa using List.all_eq_true.1 hs.2 i hi
theorem en(h:AE P ops Q md S ds fuel l a w E)(hT:rtab md ops=T:=by exact HT_.out)(hn:readyAt T.2 l.toList i=false:=by decide+kernel):AE P ops Q md S ds fuel l a w (i::E):=fun j hj hr=>by
  rcases List.mem_cons.1 hj with rfl|hj
  · subst hT
    rw[ready_eq]at hr
    rw[(List.mem_filter.1 hr).2]at hn
    cases hn
  · exact h j hj hr
theorem ey(N:Nat)(h: ∀K:Act→World→Prop,Shut (∀a' w',S w'→(S w'→wpAnyLast P md ops Q S ds fuel (l.setIfInBounds i true) a' w')→K a' w')→if Region.wanted oi (yielded ops a.tmps)=true then Oper.wp P oi a w K Q else K (a.put (some N) undef) w)(hs:AE P ops Q md S ds fuel l a w E)
    (hi:ops[i]?=some oi:=by exact rfl) (hN:oi.dst=some N:=by exact rfl) (hd:i∉ds:=by decide):AE P ops Q md S ds fuel l a w (i::E):=fun j hj hr=>by
  rcases List.mem_cons.1 hj with rfl|hj
  · rw[←hN]at h
    exact wpOp_step hi (fun K' hK=>h K' (fun a w hS hW=>hK a w ⟨fun _ _=>hS,hW hS⟩))
  · exact hs j hj hr
theorem fin{l':Array Bool}(h:wpAnyLast P md ops Q S ds fuel l' a' w)(hl:(l==l')=true:=by decide+kernel)(ha:a=a':=by first|(simp only[putAll,Act.put,List.setIfInBounds_toArray,List.set_cons_zero,List.set_cons_succ];done)|(simp only[putAll,Act.put,List.setIfInBounds_toArray,List.set_cons_zero,List.set_cons_succ];rfl)):wpAnyLast P md ops Q S ds fuel l a w:=by
  rw[beq_iff_eq]at hl
  subst hl
  subst ha
  exact h
end
theorem oo{f:Func}{k:Nat}{c:Code}{x:Array Oper}(h1:f.body=some c)(h2:opsIn c k=some x):opsOf f k=x:=by simp[opsOf,h1,h2]
class Lf (w w1:World) (A:Prop) (B:outParam Prop):Prop where
  out:Below w.heap.size w w1→A→B
class Ab (w:World) (A:Prop) (p:outParam (World→Prop)):Prop where
  out:p w=A
section
variable {α β:Type} {d:Kd α} {d':Kd β} {e e' base g n c:Nat} {ok S:Nat→Prop} {v:Value} {xs:List α} {ys:List β} {w0 w w1 w2 W:World} {o:Obj} {p p':World→Prop} {a b q r:Nat}
instance:Lf w w1 (d.R e w base ok v xs) (d.R e w1 base ok v xs):=⟨fun hb h=>Kd.R_below h hb⟩
instance:Lf w w1 (w.heap[g]?=some o) (w1.heap[g]?=some o):=⟨fun hb h=>blk_below h hb⟩
instance {A A' B B':Prop} [h1:Lf w w1 A A'] [h2:Lf w w1 B B']:Lf w w1 (A∧B) (A'∧B'):=⟨fun hb h=>⟨h1.out hb h.1,h2.out hb h.2⟩⟩
instance:Lf w w1 (q≤w.heap.size) (q≤w1.heap.size):=⟨fun hb h=>Nat.le_trans h hb.size⟩
instance (priority:=low) {A:Prop}:Lf w w1 A A:=⟨fun _ h=>h⟩
theorem lf{A B:Prop} [h:Lf w w1 A B](hb:Below w.heap.size w w1)(H:Aside0 A):Aside0 B:=⟨h.out hb H.out⟩
instance:Ab w (d.R e w base ok v xs) (fun w=>d.R e w base ok v xs):=⟨rfl⟩
instance:Ab w (w.heap[g]?=some o) (fun w=>w.heap[g]?=some o):=⟨rfl⟩
instance {A B:Prop} {a b:World→Prop} [h1:Ab w A a] [h2:Ab w B b]:Ab w (A∧B) (fun w=>a w∧b w):=⟨by rw[h1.out,h2.out]⟩
instance:Ab w (q≤w.heap.size) (fun w=>q≤w.heap.size):=⟨rfl⟩
instance (priority:=low) {A:Prop}:Ab w A (fun _=>A):=⟨rfl⟩
def Bp{A:Prop}(w:World){p:World→Prop} [Ab w A p](_:Aside0 A):World→Prop:=p
theorem pk{A:Prop}(w:World){p:World→Prop} [Ab w A p](H:Aside0 A)(hl: ∀w1 w2,Below w1.heap.size w1 w2→p w1→p w2:=by(intro w1 w2 hb_ h_;exact(Go.Proofs.YtopchlafmfgpnaaGreat.S.lf hb_ (Aside0.mk h_)).out)):
    ∃F:World→Prop,Aside0 (F w)∧(∀w1 w2,Below w1.heap.size w1 w2→F w1→F w2)∧ ∀w',F w'→Bp w H w':=
  ⟨p,⟨(Ab.out:p w=A)▸H.out⟩,hl,fun _ h=>h⟩
theorem lF{F:World→Prop}{w w1:World}(hl: ∀w1 w2,Below w1.heap.size w1 w2→F w1→F w2)(hb:Below w.heap.size w w1)(H:Aside0 (F w)):Aside0 (F w1):=⟨hl _ _ hb H.out⟩
def TY(d:Kd α)(e:Nat)(w:World)(k:Nat):Prop:= ∃t,t∈e::d.E∧ ∃cells,w.heap[k]?=some (.cells cells t (0,0))
theorem dj{X:Nat→Prop}{u:Value}: ∀k,X k∧u.ownBlock=some k→ ¬(X k∧some k≠u.ownBlock):=fun _ h h2=>h2.2 h.2.symm
theorem dk{X:Nat→Prop}{u:Value}: ∀k,X k∧some k≠u.ownBlock→ ¬(X k∧u.ownBlock=some k):=fun _ h h2=>h.2 h2.2.symm
theorem o2{g2:Nat}{v0 v1:Value}(q:(w.setCell ⟨g,0,none⟩ v0).setCell ⟨g,1,none⟩ v1=w1)(hn:g2≠g)(h:w.heap[g2]?=some o):w1.heap[g2]?=some o:=by
  subst q
  simp only[World.setCell,Array.getElem?_modify,if_neg (Ne.symm hn)]
  exact h
theorem s4{v0 v1 v2 v3:Value}(h:(((w.setCell ⟨g,0,none⟩ v0).setCell ⟨g,1,none⟩ v1).setCell ⟨g,2,none⟩ v2).setCell ⟨g,3,none⟩ v3=w1)(hq:q≤w.heap.size):q≤w1.heap.size:=by
  subst h
  simpa [World.setCell]using hq
theorem s2{v0 v1:Value}(h:(w.setCell ⟨g,0,none⟩ v0).setCell ⟨g,1,none⟩ v1=w1)(hq:q≤w.heap.size):q≤w1.heap.size:=by
  subst h
  simpa [World.setCell]using hq
end
end Go.Proofs.YtopchlafmfgpnaaGreat.S

