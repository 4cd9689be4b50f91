/- slices.Insert at whole numbers with one number, called with a row of the call's own: the library's own contract, told in the printed proofs' words. -/
import Derived.Test.YtopchlafmfgpnaaGreatInsLay
import Derived.Test.YtopchlafmfgpnaaGreatWMore
import Derived.Test.YtopchlafmfgpnaaGreatWLast
namespace Go.Proofs.YtopchlafmfgpnaaGreat.Ins
open Go.RowKit Go.Proofs.YtopchlafmfgpnaaGreatW.PrintWords Go.Proofs.YtopchlafmfgpnaaGreatW.PrintLast
theorem fin{w0 w1:World}{g cap n:Nat}{cur:Array Value}{ys:List Int}(hy:ys.length=n)(hg:w0.heap.size≤g)(hb:w1.heap[g]?=some (.cells cur 3 (0,0)))(hn:n≤cap)(hc:cap≤maxLen)(hs:cur.size=cap)(ht:cur.toList.take n=ys.map (Value.int .i64)):
    Kd.R (Kd.int .i64) 3 w1 w0.heap.size (fun _=>True) (.slice (some ⟨g,0,none⟩) n cap) ys:=by
  subst hy
  exact Kd.R_of_own (enc:=Value.int .i64) ⟨by simp[encs],.inr ⟨g,cap,cur,rfl,hg,hb,hn,hc,by omega,by rw[Nat.mul_one];exact ht⟩⟩ (fun _ _=>trivial)
theorem cell_at{w:World}{g:Nat}{cur:Array Value}(hb:w.heap[g]?=some (.cells cur 3 (0,0))){ys:List Value}{n:Nat}(ht:cur.toList.take n=ys)(j:Nat)(v:Value)(hj:ys[j]?=some v):w.cell? ⟨g,0+j,none⟩=some v:=by
  rw[Nat.zero_add,cell_of_row w g j cur 3 (0,0) hb,←Array.getElem?_toList]
  rw[←ht,List.getElem?_take]at hj
  split at hj
  · exact hj
  · cases hj
theorem one_int(xs:List Int): ∀v∈xs.map (Value.int .i64),v.oneCell'=true:=by
  intro v hv
  obtain⟨x,_,rfl⟩:=List.mem_map.1 hv
  rfl
set_option maxHeartbeats 2000000 in
theorem insert_row {w0 w:World} {v u:Value} {xs:List Int} {a:Int} {ok ok':Nat→Prop} (i:Nat) (hi:i≤xs.length) (hl:xs.length<17592186044416) (hB:Below w0.heap.size w0 w) (h:Kd.R (Kd.int .i64) 3 w w0.heap.size ok v xs) (hu:Kd.R (Kd.int .i64) 3 w w0.heap.size ok' u [a]) (hne: ∀k,u.ownBlock=some k→some k≠v.ownBlock):
    Calls Tryz.prog 117 #[v,.int .i64 i,u] w fun E w'=> ∃v',E= .returned v'∧Kd.R (Kd.int .i64) 3 w' w0.heap.size (fun _=>True) v' (xs.take i++a::xs.drop i)∧Below w0.heap.size w0 w':=by
  have hml:(17592186044416:Nat)≤maxLen:=by unfold maxLen;omega
  have hB0:=hB.size
  obtain⟨_,h1⟩:=Kd.own_of_R (enc:=Value.int .i64) h
  obtain⟨_,h2⟩:=Kd.own_of_R (enc:=Value.int .i64) hu
  rcases h2 with⟨_,hn⟩|⟨vb,vc,vcur,rfl,hvg,hvb,hvn,hvc,hvs,hvt⟩
  · simp at hn
  have hcv: ∀j x,([a].map (Value.int .i64))[j]?=some x→w.cell? ⟨vb,0+j,none⟩=some x:=cell_at hvb (n:=1) (by simpa [encs]using hvt)
  have hyl:(xs.take i++a::xs.drop i).length=xs.length+1:=by simp;omega
  have hym:(xs.take i++a::xs.drop i).map (Value.int .i64)=(xs.map (Value.int .i64)).take i++([a].map (Value.int .i64))++(xs.map (Value.int .i64)).drop i:=by simp
  rcases h1 with⟨rfl,hn⟩|⟨g,cap,cur,rfl,hg,hb,hn,hc,hs,ht⟩
  · have hx:xs=[]:=List.eq_nil_of_length_eq_zero hn
    subst hx
    obtain rfl:i=0:=by simpa using hi
    have hq:Calls Tryz.prog 117 #[.slice none 0 0,.int .i64 (0:Nat),.slice (some ⟨vb,0,none⟩) 1 vc] w _:=Any2.slices_Insert_int_end_grow Tryz.laysNm221 none 0 0 vb 0 1 vc [] ([a].map (Value.int .i64)) w (by omega) (by omega) (by omega) (by omega) rfl rfl (fun _=>rfl) (fun _ h=>nomatch h) hcv (one_int [a])
    refine hq.mono ?_
    rintro E w' ⟨rfl,rfl⟩
    refine⟨_,rfl,fin (g:=w.heap.size) (ys:=[a]) rfl hB0 (heap_alloc_new w.drew _) (grownCap_ge w (0+1) 0 3) (grownCap_le_maxLen w (0+1) 0 3 (by omega)) ?_ ?_,hB.drew.alloc hB0 _⟩
    · have:=grownCap_ge w (0+1) 0 3
      simp[Builtin.zeroCells]
      show 1+(grownCap w (0+1) 0 3-1)*1=grownCap w (0+1) 0 3
      omega
    · simp
  · have hgl:g<w.heap.size:=(Array.getElem?_eq_some_iff.1 hb).1
    have ht2:cur.toList.take xs.length=xs.map (Value.int .i64):=by simpa [encs]using ht
    have hsz:cur.size=cap:=by omega
    have hcs: ∀j x,(xs.map (Value.int .i64))[j]?=some x→w.cell? ⟨g,0+j,none⟩=some x:=cell_at hb ht2
    have hvg2:vb≠g:=fun e=>hne vb rfl (by rw[e];rfl)
    have hsp: ∀j,j<cap→(w.cell? ⟨g,j,none⟩).isSome=true:=fun j hj=>by
      rw[cell_of_row w g j cur 3 (0,0) hb]
      simp;omega
    have hc63:cap≤9223372036854775807:=by unfold maxLen at hc;omega
    have htl: ∀k,k≤xs.length→cur.toList.take k=(xs.map (Value.int .i64)).take k:=fun k hk=>by rw[←ht2,List.take_take,Nat.min_eq_left hk]
    by_cases hroom:xs.length+1≤cap
    · by_cases hend:i=xs.length
      · subst hend
        have hq:Calls Tryz.prog 117 #[.slice (some ⟨g,0,none⟩) xs.length cap,.int .i64 xs.length,.slice (some ⟨vb,0,none⟩) 1 vc] w _:=Any2.slices_Insert_int_end_room Tryz.laysNm221 g 0 xs.length cap vb 0 1 vc ([a].map (Value.int .i64)) w (by omega) hroom hc63 rfl (fun j hj=>hsp _ (by omega)) (fun j hj=>blk_frozen hb _) hcv (one_int [a])
        refine hq.mono ?_
        rintro E w' ⟨rfl,rfl⟩
        obtain⟨cur',h3,h4,h5⟩:=setCells_row ([a].map (Value.int .i64)) (0+xs.length) w cur hb (by simp;omega)
        refine⟨_,rfl,?_,below_setCells hg _ _ w hB⟩
        refine fin hyl hg h3 (by omega) hc (by omega) ?_
        rw[h5,hym,Nat.zero_add,htl _ (Nat.le_refl _),List.take_append_of_le_length (by simp),List.take_of_length_le (by simp),List.drop_eq_nil_of_le (show (xs.map (Value.int .i64)).length≤xs.length by simp),List.append_nil]
      · have hq:Calls Tryz.prog 117 #[.slice (some ⟨g,0,none⟩) xs.length cap,.int .i64 i,.slice (some ⟨vb,0,none⟩) 1 vc] w _:=Any2.slices_Insert_int_shift Tryz.laysNm221 g 0 xs.length cap i vb 0 1 vc (xs.map (Value.int .i64)) ([a].map (Value.int .i64)) w (by omega) (by omega) hroom hc63 hvg2 (by simp) rfl hcs (fun j hj=>by rw[Nat.zero_add];exact hsp _ (by omega)) (fun j hj=>blk_frozen hb _) hcv (one_int xs) (one_int [a]) 3 3 vcur.size cur.size (by simp[World.shape?,hvb]) (by simp[World.shape?,hb]) (by omega) (blk_frozen hvb _) (blk_frozen hvb _)
        refine hq.mono ?_
        rintro E w' ⟨rfl,rfl⟩
        obtain⟨cur1,h3,h4,h5⟩:=setCells_row ((xs.map (Value.int .i64)).drop i) (0+(i+1)) w.drew cur hb (by simp;omega)
        obtain⟨cur2,h6,h7,h8⟩:=setCells_row ([a].map (Value.int .i64)) (0+i) _ cur1 h3 (by simp;omega)
        refine⟨_,rfl,?_,below_setCells hg _ _ _ (below_setCells hg _ _ _ hB.drew)⟩
        refine fin hyl hg h6 (by omega) hc (by omega) ?_
        have hdl:((xs.map (Value.int .i64)).drop i).length=xs.length-i:=by simp
        have hlc:cur.toList.length=cap:=by rw[Array.length_toList,hsz]
        rw[h8,h5,hym]
        simp only[Nat.zero_add,List.length_map,List.length_singleton]
        have e1:(cur.toList.take (i+1)++(xs.map (Value.int .i64)).drop i++cur.toList.drop (i+1+((xs.map (Value.int .i64)).drop i).length)).take i=(xs.map (Value.int .i64)).take i:=by
          rw[List.append_assoc,List.take_append_of_le_length (by rw[List.length_take];omega),List.take_take,Nat.min_eq_left (by omega),htl _ hi]
        have e2:(cur.toList.take (i+1)++(xs.map (Value.int .i64)).drop i++cur.toList.drop (i+1+((xs.map (Value.int .i64)).drop i).length)).drop (i+1)=(xs.map (Value.int .i64)).drop i++cur.toList.drop (i+1+((xs.map (Value.int .i64)).drop i).length):=by
          rw[List.append_assoc,List.drop_append_of_le_length (by rw[List.length_take];omega),List.drop_eq_nil_of_le (by rw[List.length_take];omega),List.nil_append]
        rw[e1,e2,←List.append_assoc,List.take_append_of_le_length (by simp;omega),List.take_of_length_le (by simp;omega)]
    · by_cases hend:i=xs.length
      · subst hend
        have hq:Calls Tryz.prog 117 #[.slice (some ⟨g,0,none⟩) xs.length cap,.int .i64 xs.length,.slice (some ⟨vb,0,none⟩) 1 vc] w _:=Any2.slices_Insert_int_end_grow Tryz.laysNm221 (some ⟨g,0,none⟩) xs.length cap vb 0 1 vc (xs.map (Value.int .i64)) ([a].map (Value.int .i64)) w (by omega) hn (by omega) (by omega) (by simp) rfl (fun h=>nomatch h) (fun b hb2 j x hx=>by injection hb2 with hb2;subst hb2;rw[Addr.add_lit];exact hcs j x hx) hcv (one_int [a])
        refine hq.mono ?_
        rintro E w' ⟨rfl,rfl⟩
        refine⟨_,rfl,?_,hB.drew.alloc hB0 _⟩
        have hG:=grownCap_ge w (xs.length+1) cap 3
        refine fin hyl hB0 (heap_alloc_new w.drew _) hG (grownCap_le_maxLen w _ cap 3 (by omega)) ?_ ?_
        · simp[Builtin.zeroCells,Value.cells]
          show xs.length+1+(grownCap w (xs.length+1) cap 3-(xs.length+1))=grownCap w (xs.length+1) cap 3
          omega
        · rw[hym]
          simp only[Array.toList_append]
          rw[List.take_append_of_le_length (by simp),List.take_of_length_le (by simp)]
          rw[List.take_of_length_le (by simp),List.drop_eq_nil_of_le (by simp),List.append_nil]
      · have hq:Calls Tryz.prog 117 #[.slice (some ⟨g,0,none⟩) xs.length cap,.int .i64 i,.slice (some ⟨vb,0,none⟩) 1 vc] w _:=Any2.slices_Insert_int_grow Tryz.laysNm221 g 0 xs.length cap i vb 0 1 vc (xs.map (Value.int .i64)) ([a].map (Value.int .i64)) w (by omega) (by omega) hn (by omega) (by omega) (by simp) rfl hcs hcv (one_int xs) (one_int [a])
        refine hq.mono ?_
        rintro E w' ⟨rfl,rfl⟩
        have hG:=grownCap_ge w (xs.length+1) cap 3
        obtain⟨C0,hC0⟩: ∃C0,C0=(((xs.map (Value.int .i64)).take i).toArray++Builtin.zeroCells (Value.int .i64 0).cells (xs.length+1-i)++Builtin.zeroCells (Value.int .i64 0).cells (grownCap w (xs.length+1) cap 3-(xs.length+1))):=⟨_,rfl⟩
        have hz:C0.size=grownCap w (xs.length+1) cap 3:=by
          subst hC0
          simp[Builtin.zeroCells,Value.cells]
          omega
        obtain⟨cur1,h3,h4,h5⟩:=setCells_row ([a].map (Value.int .i64)) i (w.alloc (.cells C0 3)).drew C0 (heap_alloc_new w _) (by simp;omega)
        obtain⟨cur2,h6,h7,h8⟩:=setCells_row ((xs.map (Value.int .i64)).drop i) (i+1) (((w.alloc (.cells C0 3)).drew.setCells w.heap.size i ([a].map (Value.int .i64))).drew) cur1 h3 (by rw[h4];simp;omega)
        have hti:C0.toList.take i=(xs.map (Value.int .i64)).take i:=by
          subst hC0
          simp only[Array.toList_append]
          rw[List.append_assoc,List.take_append_of_le_length (by simp;omega),List.take_take,Nat.min_self]
        have hc1:cur1.toList.take (i+1)=(xs.map (Value.int .i64)).take i++ [a].map (Value.int .i64):=by
          rw[h5,hti,List.take_append_of_le_length (by simp;omega),List.take_of_length_le (by simp;omega)]
        subst hC0
        refine⟨_,rfl,?_,below_setCells hB0 _ _ _ (Below.drew (below_setCells hB0 _ _ _ (Below.drew (hB.alloc hB0 _))))⟩
        refine fin hyl hB0 h6 hG (grownCap_le_maxLen w _ cap 3 (by omega)) ?_ ?_
        · rw[h7,h4,hz];rfl
        · rw[h8,hc1,hym,List.take_append_of_le_length (by simp;omega),List.take_of_length_le (by simp;omega)]
end Go.Proofs.YtopchlafmfgpnaaGreat.Ins

