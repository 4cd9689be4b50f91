/- Lemmas that find a chain of steps by themselves: used by the squeezed proofs. -/
import Derived.Test.YtopchlafmfgpnaaGreatShort
namespace Go.Proofs.YtopchlafmfgpnaaGreat.S
open Go.RowKit Go.Proofs.YtopchlafmfgpnaaGreatW.PrintWords Go.Proofs.YtopchlafmfgpnaaGreatW.PrintLast Go.Proofs.YtopchlafmfgpnaaGreatW.PrintMore
theorem a{p:Prop}(h:p):Aside0 p:=⟨h⟩
def bs(n:Nat):Array Bool:=((List.range n.log2).map n.testBit).toArray
theorem uCa{w:World}{g g2 i:Nat}{t:TypeId}{cs:Array Value}{u:Value}(h:w.heap[g]?=some (.cells cs t (0,0)))(hn:Aside0 (g≠g2)):(w.setCell ⟨g2,i,none⟩ u).heap[g]?=some (.cells cs t (0,0)):=blk_far h hn.out u
theorem uCb{w:World}{g g2 i j:Nat}{u:Value}(hn:Aside0 (g≠g2)):(w.setCell ⟨g2,j,none⟩ u).cell? ⟨g,i,none⟩=w.cell? ⟨g,i,none⟩:=cell_far hn.out u
theorem uCc{α:Type}{d:Kd α}{e base g i:Nat}{ok:Nat→Prop}{v u:Value}{xs:List α}{w:World}(h:d.R e w base ok v xs)(hk: ∀k,ok k→k≠g):d.R e (w.setCell ⟨g,i,none⟩ u) base ok v xs:=Kd.R_far h hk u
theorem uC{p q:Prop}(a:p)(h:p→q:=by(intro hZ_;repeat(first|(with_reducible exact hZ_)|(with_reducible first|apply blk_drewN|apply blk_drew|apply blk_alloc|apply blk_put|apply Go.Proofs.YtopchlafmfgpnaaGreat.S.uCa)|(with_reducible assumption)|rfl|exact hZ_))):q:=h a
theorem cf{p q:Prop}(a:p)(h:p→q:=by(intro hZ_;have hs_:=hZ_;(repeat(obtain⟨_,hs_⟩:=(hs_:_∧_)));(repeat' refine And.intro ?_ ?_)<;>(repeat(first|(with_reducible assumption)|refine(Go.Proofs.YtopchlafmfgpnaaGreat.S.uCb (by assumption)).trans ?_|assumption)))):q:=h a
section
variable {α:Type} {d:Kd α} {e base g g1 g2 t t1 t2:Nat} {ok ok2:Nat→Prop} {v:Value} {xs:List α} {cs cs1 cs2:Array Value} {w w1 w2 W:World}
theorem m1(h:Aside0 (d.R e w base ok v xs))(hb:Aside0 (w.heap[g]?=some (.cells cs t (0,0))))(f: ∀k,ok k∧k≠g→ok2 k)(ht: ∀q,q∈e::d.E→q≠t:=by decide)
    (k:d.R e w base (fun k=>ok k∧k≠g) v xs→d.R e W base (fun k=>ok k∧k≠g) v xs:=by(intro hZ_;repeat(first|(with_reducible exact hZ_)|(with_reducible first|apply Kd.R_alloc|apply Kd.R_drewN|apply Kd.R_drew|refine Go.Proofs.YtopchlafmfgpnaaGreat.S.uCc ?_ (fun _ hk=>hk.2))|exact hZ_))):d.R e W base ok2 v xs:=Kd.R_mono (k (Kd.R_types h.out hb.out ht)) f
theorem m2(h:Aside0 (d.R e w base ok v xs))(hb1:Aside0 (w.heap[g1]?=some (.cells cs1 t1 (0,0))))(hb2:Aside0 (w.heap[g2]?=some (.cells cs2 t2 (0,0))))(f: ∀k,(ok k∧k≠g1)∧k≠g2→ok2 k)(ht1: ∀q,q∈e::d.E→q≠t1:=by decide)(ht2: ∀q,q∈e::d.E→q≠t2:=by decide)
    (k:d.R e w base (fun k=>(ok k∧k≠g1)∧k≠g2) v xs→d.R e W base (fun k=>(ok k∧k≠g1)∧k≠g2) v xs:=by(intro hZ_;repeat(first|(with_reducible exact hZ_)|(with_reducible first|apply Kd.R_alloc|apply Kd.R_drewN|apply Kd.R_drew|refine Go.Proofs.YtopchlafmfgpnaaGreat.S.uCc ?_ (fun _ hk=>hk.2)|refine Go.Proofs.YtopchlafmfgpnaaGreat.S.uCc ?_ (fun _ hk=>hk.1.2))|exact hZ_))):d.R e W base ok2 v xs:=Kd.R_mono (k (Kd.R_types (Kd.R_types h.out hb1.out ht1) hb2.out ht2)) f
theorem gr(h:Aside0 (w.heap[g]?=some (.cells cs t (0,0))))(ho:Aside0 (d.R e w base ok v xs))(hg:w1.grownBy w2 v.ownBlock)(ht:e≠t:=by decide)
    (k:w.heap[g]?=some (.cells cs t (0,0))→w1.heap[g]?=some (.cells cs t (0,0)):=by(intro hZ_;(with_reducible repeat(first|refine blk_drewN ?_ _|refine blk_drew ?_|refine blk_alloc ?_ _));exact hZ_)):Aside0 (w2.heap[g]?=some (.cells cs t (0,0))):=⟨blk_grown (k h.out) hg (Kd.R_ne ho.out h.out ht)⟩
end
end Go.Proofs.YtopchlafmfgpnaaGreat.S

