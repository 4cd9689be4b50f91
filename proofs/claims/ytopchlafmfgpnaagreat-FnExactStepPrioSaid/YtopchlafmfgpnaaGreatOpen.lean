/- What a row hands over (a value that reads as data) is what the printed contracts ask for: kinds of whole numbers, bools, structs of one-cell fields, and slices of all these, to any depth. -/
import Derived.Test.YtopchlafmfgpnaaGreatWWords
import Derived.Deep.Slices
import Derived.Deep.Fields
import Derived.ChangeSame
import Derived.WideShapes
import Derived.ShutString
namespace Go.Proofs.YtopchlafmfgpnaaGreat.Opn
open Go.RowKit Go.Proofs.YtopchlafmfgpnaaGreatW.PrintWords Go.ChangeShapes Go.WideShapes Go.Deep
set_option linter.unusedVariables false
structure Opens {α:Type} (P:Program) (t:TypeId) (d:Kd α) (wf:α→Prop):Prop where
  out: ∀{H:Type} {enc:TypeId×Value→H} {w:World} {base:Nat} {spare:Nat→Bool} {held:Bool} {fuel:Nat} {cs:List Value} {x:DataW H×List MemPlace},DataW.trod enc P w base spare held fuel t cs=some x→ ∃a:α,d.K w a cs∧wf a
theorem Opens.int{P:Program}{t:TypeId}{k:IntKind}(hu:P.underlying t=some (.int k)):Opens P t (Kd.int k) (fun n=>(Lit.int k n).wf=true):=by
  refine⟨fun{H enc w base spare held fuel cs x} h=>?_⟩
  cases fuel with
  |zero=>simp[DataW.trod]at h
  | succ n=>
    unfold DataW.trod at h
    rw[hu]at h
    split at h<;>simp_all
    exact⟨_,rfl,h.1.2⟩
theorem Opens.iso{α β:Type}{P:Program}{t:TypeId}{d:Kd α}{wf:α→Prop}{f:β→α}(h:Opens P t d wf)(g:α→β)(hg: ∀a,f (g a)=a):Opens P t (Kd.iso d f) (fun b=>wf (f b)):=by
  refine⟨fun hh=>?_⟩
  obtain⟨a,hk,hw⟩:=h.out hh
  refine⟨g a,?_,?_⟩
  · show d.K _ (f (g a)) _
    rw[hg];exact hk
  · show wf (f (g a))
    rw[hg];exact hw
theorem Opens.imp{α:Type}{P:Program}{t:TypeId}{d:Kd α}{wf wf':α→Prop}(h:Opens P t d wf)(hi: ∀a,wf a→wf' a):Opens P t d wf':=by
  refine⟨fun hh=>?_⟩
  obtain⟨a,hk,hw⟩:=h.out hh
  exact⟨a,hk,hi a hw⟩
theorem Opens.slice {α:Type} {P:Program} {t e:TypeId} {d:Kd α} {wf:α→Prop} (hu:P.underlying t=some (.slice e)) (hc:P.cellsOf e=d.sz) (h:Opens P e d wf):Opens P t (Kd.slice e d) (fun l=>l.length≤maxLen∧ ∀x∈l,wf x):=by
  refine⟨fun{H enc w base spare held fuel cs x} hh=>?_⟩
  rcases open_slice hu hh with⟨rfl,rfl⟩|⟨a,len,cap,m,n,D,Pl,rfl,_,hl,hm,hmm,_,hi⟩
  · exact⟨[],⟨none,0,rfl,Nat.le_refl _,rfl,by simp,fun h0=>absurd h0 (by simp)⟩,Nat.zero_le _,by simp⟩
  · have hlm:len≤m:=by rw[hmm];split<;>omega
    have hex: ∀i,i<len→ ∃y:α×List Value,w.cells? base (a.add (i*P.cellsOf e)) (P.cellsOf e)=some y.2∧d.K w y.1 y.2∧wf y.1:=by
      intro i hil
      obtain⟨cs',h1,h2⟩:=hi i (by omega)
      obtain⟨y,h3,h4⟩:=h.out h2
      exact⟨(y,cs'),h1,h3,h4⟩
    by_cases hl0:len=0
    · subst hl0
      exact⟨[],⟨some a,cap,rfl,Nat.zero_le _,rfl,by simp,fun h0=>absurd h0 (by simp)⟩,Nat.zero_le _,by simp⟩
    · have:Inhabited (α×List Value):=⟨Classical.choose (hex 0 (by omega))⟩
      obtain⟨f,hf⟩:=choose_lt hex
      refine⟨(List.range len).map (fun i=>(f i).1),⟨some a,cap,by simp,by simpa using hl,by simp,by simp;unfold maxLen at hm;omega,fun _=>⟨a,rfl,fun j p hj=>?_⟩⟩,by simp;omega,?_⟩
      · simp only[List.getElem?_map]at hj
        by_cases hjl:j<len
        · rw[List.getElem?_range hjl]at hj
          simp only[Option.map_some,Option.some.injEq]at hj
          obtain⟨h1,h2,h3⟩:=hf j hjl
          refine⟨(f j).2,d.K_len h2,by rw[←hj];exact h2,fun i u hu'=>?_⟩
          obtain⟨_,hcl,hat⟩:=World.cells?_some h1
          have hil:i<P.cellsOf e:=by
            have:=(List.getElem?_eq_some_iff.1 hu').1
            omega
          have h5:=hat i hil
          rw[hu']at h5
          rw[←hc,←Go.Deep.add_add]
          exact h5
        · rw[List.getElem?_eq_none (by simpa using hjl)]at hj
          simp at hj
      · intro x hx
        obtain⟨i,hi',rfl⟩:=List.mem_map.1 hx
        exact(hf i (List.mem_range.1 hi')).2.2
section
variable {P:Program} {t:TypeId} {α β γ δ:Type} {d0:Kd α} {d1:Kd β} {d2:Kd γ} {d3:Kd δ} {w0:α→Prop} {w1:β→Prop} {w2:γ→Prop} {w3:δ→Prop} {f0 f1 f2 f3:Field}
theorem Opens.struct2(hu:P.underlying t=some (.struct #[f0,f1]))(hone:oneCellFields P #[f0,f1]=true)(hC:P.cellsOf t=2)(h0:Opens P f0.type d0 w0)(h1:Opens P f1.type d1 w1):
    Opens P t (Kd.pair d0 d1) (fun x=>w0 x.1∧w1 x.2):=by
  refine⟨fun{H enc w base spare held fuel cs x} hh=>?_⟩
  obtain⟨xs,n,_,_,hlen,hxl,hg⟩:=DataW.trod_struct hu hh
  obtain⟨o0,k0⟩:=hone_of hone 0 f0 rfl
  obtain⟨o1,k1⟩:=hone_of hone 1 f1 rfl
  rw[hC]at hlen
  match cs,hlen,xs,hxl with
  | [c0,c1],_,[y0,y1],_=>
    have g0:=hg 0 f0 rfl
    have g1:=hg 1 f1 rfl
    simp only[o0,k0,o1,k1,List.drop,List.take]at g0 g1
    obtain⟨a0,e0,q0⟩:=h0.out g0
    obtain⟨a1,e1,q1⟩:=h1.out g1
    exact⟨(a0,a1),⟨[c0],[c1],rfl,e0,e1⟩,q0,q1⟩
theorem Opens.struct4(hu:P.underlying t=some (.struct #[f0,f1,f2,f3]))(hone:oneCellFields P #[f0,f1,f2,f3]=true)(hC:P.cellsOf t=4)(h0:Opens P f0.type d0 w0)(h1:Opens P f1.type d1 w1)(h2:Opens P f2.type d2 w2)(h3:Opens P f3.type d3 w3):
    Opens P t (Kd.pair d0 (Kd.pair d1 (Kd.pair d2 d3))) (fun x=>w0 x.1∧w1 x.2.1∧w2 x.2.2.1∧w3 x.2.2.2):=by
  refine⟨fun{H enc w base spare held fuel cs x} hh=>?_⟩
  obtain⟨xs,n,_,_,hlen,hxl,hg⟩:=DataW.trod_struct hu hh
  obtain⟨o0,k0⟩:=hone_of hone 0 f0 rfl
  obtain⟨o1,k1⟩:=hone_of hone 1 f1 rfl
  obtain⟨o2,k2⟩:=hone_of hone 2 f2 rfl
  obtain⟨o3,k3⟩:=hone_of hone 3 f3 rfl
  rw[hC]at hlen
  match cs,hlen,xs,hxl with
  | [c0,c1,c2,c3],_,[y0,y1,y2,y3],_=>
    have g0:=hg 0 f0 rfl
    have g1:=hg 1 f1 rfl
    have g2:=hg 2 f2 rfl
    have g3:=hg 3 f3 rfl
    simp only[o0,k0,o1,k1,o2,k2,o3,k3,List.drop,List.take]at g0 g1 g2 g3
    obtain⟨a0,e0,q0⟩:=h0.out g0
    obtain⟨a1,e1,q1⟩:=h1.out g1
    obtain⟨a2,e2,q2⟩:=h2.out g2
    obtain⟨a3,e3,q3⟩:=h3.out g3
    exact⟨(a0,a1,a2,a3),⟨[c0],[c1,c2,c3],rfl,e0,⟨[c1],[c2,c3],rfl,e1,⟨[c2],[c3],rfl,e2,e3⟩⟩⟩,q0,q1,q2,q3⟩
end
theorem Opens.arg{α:Type}{P:Program}{t:TypeId}{d:Kd α}{wf:α→Prop}(h:Opens P t d wf){H:Type}{enc:TypeId×Value→H}{w:World}{base:Nat}{spare:Nat→Bool}{held:Bool}{v:Value}{x:DataW H}{p:List MemPlace}(hh:DataW.Trod enc P w base spare held t v x p):
    ∃a:α,d.K w a v.cells.toList∧wf a:=by
  obtain⟨fuel,hf⟩:=hh
  exact h.out hf
end Go.Proofs.YtopchlafmfgpnaaGreat.Opn

