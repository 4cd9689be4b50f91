/- What a row hands over (a value that reads as data) is what the printed contracts ask for: kinds of whole numbers, bools, structs of one-cell fields, and slices of all these, to any depth. -/
import Derived.Test.YtopchlafmfgpnaaGreatWWords
import Derived.Deep.Slices
import Derived.Deep.Fields
import Derived.ChangeSame
import Derived.WideShapes
import Derived.ShutString
namespace Go.Proofs.YtopchlafmfgpnaaGreat.Opn
open Go.RowKit Go.Proofs.YtopchlafmfgpnaaGreatW.PrintWords Go.ChangeShapes Go.WideShapes Go.Deep
set_option linter.unusedVariables false
structure Opens {α:Type} (P:Program) (t:TypeId) (d:Kd α) (wf:α→Prop):Prop where
  out: ∀{H:Type} {enc:TypeId×Value→H} {w:World} {base:Nat} {spare:Nat→Bool} {held:Bool} {fuel:Nat} {cs:List Value} {x:DataW H×List MemPlace},DataW.trod enc P w base spare held fuel t cs=some x→ ∃a:α,d.K w a cs∧wf a
theorem Opens.int{P:Program}{t:TypeId}{k:IntKind}(hu:P.underlying t=some (.int k)):Opens P t (Kd.int k) (fun n=>(Lit.int k n).wf=true):=by
  refine⟨fun{H enc w base spare held fuel cs x} h=>?_⟩
  cases fuel with
  |zero=>simp[DataW.trod]at h
  | succ n=>
    unfold DataW.trod at h
    rw[hu]at h
    split at h<;>simp_all
    exact⟨_,rfl,h.1.2⟩
theorem Opens.slice {α:Type} {P:Program} {t e:TypeId} {d:Kd α} {wf:α→Prop} (hu:P.underlying t=some (.slice e)) (hc:P.cellsOf e=d.sz) (h:Opens P e d wf):Opens P t (Kd.slice e d) (fun l=>l.length≤maxLen∧ ∀x∈l,wf x):=by
  refine⟨fun{H enc w base spare held fuel cs x} hh=>?_⟩
  rcases open_slice hu hh with⟨rfl,rfl⟩|⟨a,len,cap,m,n,D,Pl,rfl,_,hl,hm,hmm,_,hi⟩
  · exact⟨[],⟨none,0,rfl,Nat.le_refl _,rfl,by simp,fun h0=>absurd h0 (by simp)⟩,Nat.zero_le _,by simp⟩
  · have hlm:len≤m:=by rw[hmm];split<;>omega
    have hex: ∀i,i<len→ ∃y:α×List Value,w.cells? base (a.add (i*P.cellsOf e)) (P.cellsOf e)=some y.2∧d.K w y.1 y.2∧wf y.1:=by
      intro i hil
      obtain⟨cs',h1,h2⟩:=hi i (by omega)
      obtain⟨y,h3,h4⟩:=h.out h2
      exact⟨(y,cs'),h1,h3,h4⟩
    by_cases hl0:len=0
    · subst hl0
      exact⟨[],⟨some a,cap,rfl,Nat.zero_le _,rfl,by simp,fun h0=>absurd h0 (by simp)⟩,Nat.zero_le _,by simp⟩
    · have:Inhabited (α×List Value):=⟨Classical.choose (hex 0 (by omega))⟩
      obtain⟨f,hf⟩:=choose_lt hex
      refine⟨(List.range len).map (fun i=>(f i).1),⟨some a,cap,by simp,by simpa using hl,by simp,by simp;unfold maxLen at hm;omega,fun _=>⟨a,rfl,fun j p hj=>?_⟩⟩,by simp;omega,?_⟩
      · simp only[List.getElem?_map]at hj
        by_cases hjl:j<len
        · rw[List.getElem?_range hjl]at hj
          simp only[Option.map_some,Option.some.injEq]at hj
          obtain⟨h1,h2,h3⟩:=hf j hjl
          refine⟨(f j).2,d.K_len h2,by rw[←hj];exact h2,fun i u hu'=>?_⟩
          obtain⟨_,hcl,hat⟩:=World.cells?_some h1
          have hil:i<P.cellsOf e:=by
            have:=(List.getElem?_eq_some_iff.1 hu').1
            omega
          have h5:=hat i hil
          rw[hu']at h5
          rw[←hc,←Go.Deep.add_add]
          exact h5
        · rw[List.getElem?_eq_none (by simpa using hjl)]at hj
          simp at hj
      · intro x hx
        obtain⟨i,hi',rfl⟩:=List.mem_map.1 hx
        exact(hf i (List.mem_range.1 hi')).2.2
section
variable {P:Program} {t:TypeId} {α β γ δ:Type} {d0:Kd α} {d1:Kd β} {d2:Kd γ} {d3:Kd δ} {w0:α→Prop} {w1:β→Prop} {w2:γ→Prop} {w3:δ→Prop} {f0 f1 f2 f3:Field}
end
theorem Opens.arg{α:Type}{P:Program}{t:TypeId}{d:Kd α}{wf:α→Prop}(h:Opens P t d wf){H:Type}{enc:TypeId×Value→H}{w:World}{base:Nat}{spare:Nat→Bool}{held:Bool}{v:Value}{x:DataW H}{p:List MemPlace}(hh:DataW.Trod enc P w base spare held t v x p):
    ∃a:α,d.K w a v.cells.toList∧wf a:=by
  obtain⟨fuel,hf⟩:=hh
  exact h.out hf
end Go.Proofs.YtopchlafmfgpnaaGreat.Opn

