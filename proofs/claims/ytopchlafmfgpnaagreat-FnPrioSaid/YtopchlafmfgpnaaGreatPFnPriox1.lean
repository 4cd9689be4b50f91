/- Printed by a program: what the Go functions compute (.f), and that the calls come to just that (.calls). -/
import Derived.Test.YtopchlafmfgpnaaGreatPFnPriox0
import Derived.Test.YtopchlafmfgpnaaGreatSq
namespace Go.Proofs.YtopchlafmfgpnaaGreat.PFnPrio
open Go.RowKit Go.Proofs.YtopchlafmfgpnaaGreatW.PrintWords Go.Proofs.YtopchlafmfgpnaaGreatW.PrintLast Go.Proofs.YtopchlafmfgpnaaGreatW.PrintMore
attribute [local go_sem] max2_int min2_int max_two min_two max_three min_three max_four min_four
set_option linter.unusedVariables false
set_option linter.unusedSimpArgs false
set_option maxHeartbeats 8000000
set_option maxRecDepth 100000
def impl_sieve.l0:Nat→List Int→Bool→List Int→List Int→Int→Int→Option (List Int)
 |0,_,_,_,_,_,_=>none
 |k+1,g,h,e,b,c,a=>if a<c then(if 0≤a then(if a<(b.length:Int)then((slices_Contains_int_int.f k g (rd b a)).bind fun d=>(if(d==h)=true then(if e.length<17592186044416 then(impl_sieve.l0 k g h (e++ [rd b a]) b c (wrap64 (a+1)))else(none))else(impl_sieve.l0 k g h e b c (wrap64 (a+1)))))else(none))else(none))else(some e)
def impl_sieve.f(k:Nat)(a:List Int)(b:List Int)(c:Bool):Option (List Int):=impl_sieve.l0 k b c (([]:List Int)) a (a.length:Int) 0
theorem impl_sieve.calls(k:Nat)(A0:Option Addr)(c0:Nat)(i:List Int)(A1:Option Addr)(O:Nat)(t:List Int)(q:Bool)(r:List Int)(w:World)(T:Kd.C (Kd.int .i64) w A0 i.length i)(U:i.length≤c0)(V:Kd.C (Kd.int .i64) w A1 t.length t)(W:t.length≤O)(h:impl_sieve.f k i t q=some r):
  Calls Tryz.prog 123 #[.slice A0 i.length c0,.slice A1 t.length O,.bool q] w fun e w'=> ∃X:Value,e= .returned (X)∧Kd.R (Kd.int .i64) 3 w' w.heap.size (fun _=>True) X r∧Below w.heap.size w w':=by
 have Y:=S.a T;have:=S.a U;clear T U;have Z:=S.a V;have aa:=S.a W;clear V W;have HB:=S.a (Below.refl w.heap.size w);have H:(impl_sieve.l0 k t q (([]:List Int)) i (i.length:Int) 0)=some r:=h;clear h;obtain⟨A,o⟩: ∃y_:List Int,y_=(([]:List Int)):=⟨_,rfl⟩;have hY_:=o;replace H:(impl_sieve.l0 k t q A i (i.length:Int) 0)=some r:=S.rh;clear hY_;have u:=S.a o;clear o;have H':=S.a H;clear H;go_enter Tryz.func123,Tryz.ntmps123;go_wp2_with (first|((with_reducible refine S.gN 10 ?_);refine Kd.R_lit (Kd.int .i64) _ 3 ?hg (N:=10) ?hd (xs:=([]:List Int)) (inner:=[]) (ok:=fun _=>True) (okp:=fun _=>True) ?hr ?hp (fun _ hk=>hk) trivial (Below.refl _ _) (Nat.le_refl _) (by simp) ?_;(case hd=>rfl);(case hg=>rfl);(case hr=>first|(go_simp;done)|(go_simp;rfl));(case hp=>exact(Reps.none _ _));intro ag w4 v hb hg_ hnew_;clear hg_ hnew_;(first|rw[←u.1]at v|(simp only[Int.reduceToNat]at v;rw[←u.1]at v));have D:=S.lwA v;replace HB:=S.sA hb;clear hb v));go_loopg [7,13] k (fun kq v7 ae w'=> ∃(j:List Int) (c:Int),ae= .int .i64 c∧Aside0 (impl_sieve.l0 kq t q j i (i.length:Int) c=some r)∧Aside0 (kq≤k)∧Aside0 (Kd.R (Kd.int .i64) 3 w' w.heap.size (fun _=>True) v7 j)∧Aside0 (Below w.heap.size w w'))
 case atStart=>exact⟨(A),(0),S.eA,H',⟨Nat.le_refl _⟩,⟨S.uR D.1⟩,⟨S.bA⟩⟩
 case round=>
  clear H';try clear O
  obtain⟨j,c,rfl,HA,y,s,HB⟩:=hrel
  cases gk with
  |zero=>exact absurd HA.1 (by simp[impl_sieve.l0])
  |succ k1=>
   have H:=HA.1;clear HA;simp only[impl_sieve.l0]at H;replace H:=S.dc H;rcases H with⟨H,ab⟩|⟨H,ab⟩
   ·by_cases c7:0≤c
    ·rw[if_pos c7]at H;have ah:decide (0≤c)=true:=decide_eq_true c7;clear c7
     by_cases c8:c<(i.length:Int)
     ·rw[if_pos c8]at H;have ai:decide (c<(i.length:Int))=true:=decide_eq_true c8;clear c8;replace H:=S.bd H;obtain⟨g,A9,H⟩:=H;(try dsimp only at H)
      by_cases l:(g==q)=true
      ·rw[if_pos l]at H;have E:(g==q)=true:=l;(try(have F:decide (g=q)=true:=by simpa using l));(try(have G:(g==q)=true:=by simpa using l));clear l
       by_cases z:j.length<17592186044416
       ·rw[if_pos z]at H;have I:=S.a z;clear z;obtain⟨B,p⟩: ∃y_:List Int,y_=(j++ [rd i c]):=⟨_,rfl⟩;have hY_:=p;replace H:(impl_sieve.l0 k1 t q B i (i.length:Int) (wrap64 (c+1)))=some r:=S.rh;clear hY_;have J:=S.a p;clear p;have H':=S.a H;clear H;have m:0≤(c:Int):=S.oD;have n:c<(i.length:Int):=S.oD;obtain⟨L,x,d⟩:=Kd.at_int Y.1 c m n;cases x;replace d:=S.hb HB d;replace m:=eq_true m;replace n:=eq_true n;go_wp2_with (first|((with_reducible refine S.gF 72 ?_);refine S.gQ 19 Tryz.func72 #[.slice A1 t.length O,.int .i64 (rd i c)] (slices_Contains_int_int.calls k1 _ _ t (rd i c) g _ ?s1 aa.1 A9.1) ?_;(case s1=>exact S.cA Z.1);rintro e w' ⟨rfl,⟨nd,rfl⟩⟩;refine⟨_,rfl,?_⟩)|((with_reducible refine gate_builtin (b:= .append) (xs:=#[.tmp 22,.tmp 24]) rfl ?_);at_builtin;refine Kd.R_append (Kd.int .i64) (w0:=w) w.heap.size rfl (.tmp 22) (.tmp 24) 23 3 (.int .i64 0) 8 rfl Tryz.underlying23 info3 rfl (by decide) (by omega) u7 j (rd i c) [.int .i64 (rd i c)] (fun _=>True) (fun _=>False) rfl rfl ?aP (fun _ hk=>hk.elim) ?aF ?aO ?aB ?aS ?aL ?_;(case aP=>exact rfl);(case aB=>exact S.bA);(case aF=>exact(fun _ _=>trivial));(case aO=>exact(S.uR s.1));(case aS=>exact(below_size S.bA));(case aL=>have:=I.1;omega);intro aj ak ho hb hg hat;rw[←J.1]at ho;have ac:=S.a (hb);have ad:=S.a (ho);clear HB;clear s;have HB:=ac;have M:=ad;clear ac ad;clear ho hb hg hat));go_roundg k1
        case measure=>have:=y.1;omega
        case rel=>exact⟨(B),(wrap64 (c+1)),S.eA,H',⟨by have:=y.1;omega⟩,⟨S.uR M.1⟩,⟨S.bA⟩⟩
       ·rw[if_neg z]at H;exact absurd H (by simp)
      ·rw[if_neg l]at H;have E:(g==q)=false:=by simpa using l
       (try(have F:decide (g=q)=false:=by simpa using l));(try(have G:(g==q)=false:=by simpa using l));(try(have af: ¬(g=q):=by simpa using l));clear l;have H':=S.a H;clear H;have m:0≤(c:Int):=S.oD;have n:c<(i.length:Int):=S.oD;obtain⟨L,x,d⟩:=Kd.at_int Y.1 c m n;cases x;replace d:=S.hb HB d;replace m:=eq_true m;replace n:=eq_true n;go_wp2_with (first|((with_reducible refine S.gF 72 ?_);refine S.gQ 19 Tryz.func72 #[.slice A1 t.length O,.int .i64 (rd i c)] (slices_Contains_int_int.calls k1 _ _ t (rd i c) g _ ?s1 aa.1 A9.1) ?_;(case s1=>exact S.cA Z.1);rintro e w' ⟨rfl,⟨nd,rfl⟩⟩;refine⟨_,rfl,?_⟩));go_roundg k1
       case measure=>have:=y.1;omega
       case rel=>exact⟨(j),(wrap64 (c+1)),S.eA,H',⟨by have:=y.1;omega⟩,⟨S.uR s.1⟩,⟨S.bA⟩⟩
     ·rw[if_neg c8]at H;exact absurd H (by simp)
    ·rw[if_neg c7]at H;exact absurd H (by simp)
   ·obtain rfl:=Option.some.inj H;go_wp2;go_ret;exact⟨_,S.eW,S.uR s.1,S.bA⟩
def impl_Closes.f(k:Nat)(b:List Int)(c:List Int):Option (List Int):=(impl_sieve.f k b c false).bind fun a=>(some a)
theorem impl_Closes.calls(k:Nat)(p:Option Addr)(q:Nat)(c:List Int)(s:Option Addr)(t:Nat)(d:List Int)(r:List Int)(w:World)(i:Kd.C (Kd.int .i64) w p c.length c)(j:c.length≤q)(l:Kd.C (Kd.int .i64) w s d.length d)(m:d.length≤t)(h:impl_Closes.f k c d=some r):
  Calls Tryz.prog 98 #[.slice p c.length q,.slice s d.length t] w fun e w'=> ∃n:Value,e= .returned (n)∧Kd.R (Kd.int .i64) 3 w' w.heap.size (fun _=>True) n r∧Below w.heap.size w w':=by
 have u:=S.a i;have v:=S.a j;clear i j;have x:=S.a l;have y:=S.a m;clear l m;have HB:=S.a (Below.refl w.heap.size w);have H:((impl_sieve.f k c d false).bind fun b=>(some b))=some r:=h;clear h;replace H:=S.bd H;obtain⟨b,A,H⟩:=H;(try dsimp only at H);obtain rfl:=Option.some.inj H;go_enter Tryz.func98,Tryz.ntmps98;go_wp2_with (first|((with_reducible refine S.gF 123 ?_);refine S.gQ 7 Tryz.func123 #[.slice p c.length q,.slice s d.length t,.bool false] (impl_sieve.calls k _ _ c _ _ d false b _ ?s1 v.1 ?s3 y.1 A.1) ?_;(case s1=>exact S.cD u.1);(case s3=>exact S.cD x.1);rintro e B ⟨z,rfl,o,hb⟩;refine⟨_,rfl,?_⟩;have g:=S.lwA o;replace HB:=S.sA hb;(try clear hb);(try clear o)));go_ret;exact⟨_,S.eW,S.uR g.1,S.bA⟩
def impl_ClearOf.j0:Nat→Int→Int→Int→Int→Option (Int)
 |0,_,_,_,_=>none
 |k+1,b,a,c,d=>if a=1 then(some 2)else(if a=3 then(some 3)else(some 5))
def impl_ClearOf.f(k:Nat)(a:Int)(b:Int)(c:Int)(d:Int):Option (Int):=(impl_IsPath.f a b c d).bind fun e=>(if e=true then(impl_ClearOf.j0 k a b c d)else(some 0))
theorem impl_ClearOf.calls(k:Nat)(d:Int)(b:Int)(g:Int)(i:Int)(r:Int)(w:World)(h:impl_ClearOf.f k d b g i=some r):
  Calls Tryz.prog 99 #[.agg #[.int .i64 d,.int .i64 b,.int .i64 g,.int .i64 i]] w fun e w'=>e= .returned (.int .i64 r)∧Below w.heap.size w w':=by
 have:=Tryz.underlying76;have HB:=S.a (Below.refl w.heap.size w);have H:((impl_IsPath.f d b g i).bind fun l=>(if l=true then(impl_ClearOf.j0 k d b g i)else(some 0)))=some r:=h;clear h;replace H:=S.bd H;obtain⟨l,E,H⟩:=H;(try dsimp only at H);have m:=S.a H;clear H;go_enter Tryz.func99,Tryz.ntmps99;go_upto_if 5 with(first|((with_reducible refine S.gN 1 ?_);refine S.bx 1 (cs:=#[.int .i64 d,.int .i64 b,.int .i64 g,.int .i64 i]) (t:=76) ?_;intro n hg G hbox hb;have c:=S.a hbox;have:=S.geA hg;have:=S.geA hg;replace HB:=S.sA hb;clear hb hbox hg;obtain⟨v,x,y,z,A,B,C,D⟩:=S.c4 c.1)|((with_reducible refine S.gF 100 ?_);refine S.gQ 4 Tryz.func100 #[.agg #[.int .i64 d,.int .i64 b,.int .i64 g,.int .i64 i]] (impl_IsPath.calls d b g i l _ E.1) ?_;rintro e I ⟨rfl,hb⟩;refine⟨_,rfl,?_⟩;replace c:=S.kb c hb;replace HB:=S.sG hb;(try clear hb)));(try simp only[Act.put,List.setIfInBounds_toArray,List.set_cons_zero,List.set_cons_succ]);go_cut [] (fun wc=> ∃(kq:Nat),Aside0 (impl_ClearOf.j0 kq d b g i=some r)∧Aside0 (kq≤k)∧Aside0 (wc.heap[n]?=some (.cells #[.int .i64 d,.int .i64 b,.int .i64 g,.int .i64 i] 76 (0,0)))∧Aside0 (Below w.heap.size w wc))
 case first=>
  have H:=m.1;clear m;replace H:=S.db H;rcases H with⟨rfl,H⟩|⟨rfl,H⟩
  ·have H':=S.a H;clear H;go_wp2;go_meet
   case rel=>exact⟨_,H',S.le,⟨S.uB c.1⟩,⟨S.bG⟩⟩
  ·obtain rfl:=Option.some.inj H;go_wp2;go_ret;exact⟨S.eW,S.bG⟩
 case rest=>
  clear m;try clear v
  try clear x
  try clear y
  try clear z
  try clear A
  try clear B
  try clear C
  try clear D
  obtain⟨kq,HA,_,c,HB⟩:=hcut
  cases kq with
  |zero=>exact absurd HA.1 (by simp[impl_ClearOf.j0])
  |succ F=>
   have H:=HA.1;clear HA;simp only[impl_ClearOf.j0]at H
   by_cases o:b=1
   ·rw[if_pos o]at H;have s:(b==1)=true:=beq_iff_eq.mpr o;have u:(b !=1)=false:=bne_eq_false_iff_eq.mpr o;clear o;obtain rfl:=Option.some.inj H;obtain⟨_,_,_,_,_,_,_,_⟩:=S.c4 c.1;go_wp2;go_ret;exact⟨S.eW,S.bG⟩
   ·rw[if_neg o]at H;have s:(b==1)=false:=beq_eq_false_iff_ne.mpr o;have u:(b !=1)=true:=bne_iff_ne.mpr o
    by_cases j:b=3
    ·rw[if_pos j]at H;have p:(b==3)=true:=beq_iff_eq.mpr j;have q:(b !=3)=false:=bne_eq_false_iff_eq.mpr j;clear j;obtain rfl:=Option.some.inj H;obtain⟨_,_,_,_,_,_,_,_⟩:=S.c4 c.1;go_wp2;go_ret;exact⟨S.eW,S.bG⟩
    ·rw[if_neg j]at H;have p:(b==3)=false:=beq_eq_false_iff_ne.mpr j;have q:(b !=3)=true:=bne_iff_ne.mpr j;obtain rfl:=Option.some.inj H;obtain⟨_,_,_,_,_,_,_,_⟩:=S.c4 c.1;go_wp2;go_ret;exact⟨S.eW,S.bG⟩
mutual
def impl_ClearBetween.j0:Nat→List (S76)→List Int→List Int→Int→Bool→Option (Int)
 |0,_,_,_,_,_=>none
 |k+1,g,c,d,e,b=>if b=true then(some e)else((impl_Closes.f k c d).bind fun a=>(impl_ClearBetween.l0 k g c d e a (a.length:Int) 0))
def impl_ClearBetween.l0:Nat→List (S76)→List Int→List Int→Int→List Int→Int→Int→Option (Int)
 |0,_,_,_,_,_,_,_=>none
 |k+1,i,e,g,h,c,d,a=>if a<d then(if 0≤a then(if a<(c.length:Int)then((impl_Closes.f k g e).bind fun b=>(impl_ClearBetween.l1 k i e g h (rd c a) c d a b (b.length:Int) 0))else(none))else(none))else(some h)
def impl_ClearBetween.l1:Nat→List (S76)→List Int→List Int→Int→Int→List Int→Int→Int→List Int→Int→Int→Option (Int)
 |0,_,_,_,_,_,_,_,_,_,_,_=>none
 |k+1,c,n,o,p,q,g,h,i,e,j,d=>if d<j then(if 0≤d then(if d<(e.length:Int)then((impl_FindPath.f c q).bind fun a=>(if 0≤a then(if a<(c.length:Int)then((impl_FindPath.f c (rd e d)).bind fun b=>(if 0≤b then(if b<(c.length:Int)then((impl_Conflict.f k ((rd_T76 c a).f0) ((rd_T76 c a).f1) ((rd_T76 c a).f2) ((rd_T76 c a).f3) ((rd_T76 c b).f0) ((rd_T76 c b).f1) ((rd_T76 c b).f2) ((rd_T76 c b).f3)).bind fun l=>(if l=true then((impl_ClearOf.f k ((rd_T76 c a).f0) ((rd_T76 c a).f1) ((rd_T76 c a).f2) ((rd_T76 c a).f3)).bind fun m=>(impl_ClearBetween.l1 k c n o (mx p m) q g h i e j (wrap64 (d+1))))else(impl_ClearBetween.l1 k c n o p q g h i e j (wrap64 (d+1)))))else(none))else(none)))else(none))else(none)))else(none))else(none))else(impl_ClearBetween.l0 k c n o p g h (wrap64 (i+1)))
end
def impl_ClearBetween.f(k:Nat)(c:List (S76))(d:List Int)(e:List Int):Option (Int):=(impl_IsTogether.f k c d).bind fun a=>(if a=true then((impl_IsTogether.f k c e).bind fun b=>(impl_ClearBetween.j0 k c d e 0 (!b)))else(impl_ClearBetween.j0 k c d e 0 true))
def impl_ClearBetween.T11:Bool×List (List Nat×List Nat):=(true,[([],[]),([],[]),([],[]),([],[]),([2,3],[2,3]),([1,4],[1,4]),([5],[5]),([0,6,4],[0,6])])
def impl_ClearBetween.B11:List Nat:=[0,0,0,0,12,30,62,127]
theorem impl_ClearBetween.tab11:rtab .any (opsOf Tryz.f67 11)=impl_ClearBetween.T11:=by kernel_rfl
theorem impl_ClearBetween.bits11:waitsOk impl_ClearBetween.T11.2 impl_ClearBetween.B11=true:=by kernel_rfl
theorem impl_ClearBetween.calls(k:Nat)(A0:Option Addr)(c0:Nat)(l:List (S76))(A1:Option Addr)(c1:Nat)(Z:List Int)(A2:Option Addr)(c2:Nat)(l2:List Int)(r:Int)(w:World)(aQ:Kd.C k76 w A0 l.length l)(aR:l.length≤c0)(aS:Kd.C (Kd.int .i64) w A1 Z.length Z)(aT:Z.length≤c1)(aU:Kd.C (Kd.int .i64) w A2 l2.length l2)(aV:l2.length≤c2)(h:impl_ClearBetween.f k l Z l2=some r):
  Calls Tryz.prog 67 #[.slice A0 l.length c0,.slice A1 Z.length c1,.slice A2 l2.length c2] w fun e w'=>e= .returned (.int .i64 r)∧Below w.heap.size w w':=by
 have:=Tryz.underlying76;have M:=S.a aQ;have aa:=S.a aR;clear aQ aR;have a1:=S.a aS;have a2:=S.a aT;clear aS aT;have aC:=S.a aU;have aD:=S.a aV;clear aU aV;have HB:=S.a (Below.refl w.heap.size w);have H:((impl_IsTogether.f k l Z).bind fun a9=>(if a9=true then((impl_IsTogether.f k l l2).bind fun ad=>(impl_ClearBetween.j0 k l Z l2 0 (!ad)))else(impl_ClearBetween.j0 k l Z l2 0 true)))=some r:=h;clear h;have aE:=S.a H;clear H;go_enter Tryz.func67,Tryz.ntmps67;go_upto_region 2 with(fail);go_cut [22] (fun bc wc=> ∃(kq:Nat) (ab:Bool),bc= .bool ab∧Aside0 (impl_ClearBetween.j0 kq l Z l2 0 ab=some r)∧Aside0 (kq≤k)∧Aside0 (Below w.heap.size w wc))
 case first=>
  have H:=aE.1;clear aE;replace H:=S.bd H;obtain⟨a9,A5,H⟩:=H;(try dsimp only at H);replace H:=S.db H;rcases H with⟨rfl,H⟩|⟨rfl,H⟩
  ·replace H:=S.bd H;obtain⟨ad,A7,H⟩:=H;(try dsimp only at H);have H':=S.a H;clear H;go_wp2_with (first|((with_reducible refine S.gF 65 ?_);refine S.gQ 15 Tryz.func65 #[.slice A0 l.length c0,.slice A1 Z.length c1] (impl_IsTogether.calls k _ _ l _ _ Z true _ ?s1 aa.1 ?s3 a2.1 A5.1) ?_;(case s1=>exact S.cA M.1);(case s3=>exact S.cA a1.1);rintro e w8 ⟨rfl,hb⟩;refine⟨_,rfl,?_⟩;replace HB:=S.sA hb;(try clear hb))|(go_at_call 65;(with_reducible refine(impl_IsTogether.calls k _ _ l _ _ l2 ad _ ?s1 aa.1 ?s3 aD.1 A7.1).mono ?_);(case s1=>exact S.cA M.1);(case s3=>exact S.cA aC.1);rintro e w9 ⟨rfl,hb⟩;replace HB:=S.sA hb;(try clear hb)));go_meet
   case rel=>exact⟨_,(!ad),S.eA,H',S.le,⟨S.bA⟩⟩
  ·have H':=S.a H;clear H;go_wp2_with (first|((with_reducible refine S.gF 65 ?_);refine S.gQ 15 Tryz.func65 #[.slice A0 l.length c0,.slice A1 Z.length c1] (impl_IsTogether.calls k _ _ l _ _ Z false _ ?s1 aa.1 ?s3 a2.1 A5.1) ?_;(case s1=>exact S.cA M.1);(case s3=>exact S.cA a1.1);rintro e bw ⟨rfl,hb⟩;refine⟨_,rfl,?_⟩;replace HB:=S.sA hb;(try clear hb)));go_meet
   case rel=>exact⟨_,(true),S.eA,H',S.le,⟨S.bA⟩⟩
 case rest=>
  clear aE;try clear c1
  try clear c2
  obtain⟨kq,ab,rfl,HA,ai,HB⟩:=hcut
  cases kq with
  |zero=>exact absurd HA.1 (by simp[impl_ClearBetween.j0])
  |succ aF=>
   have H:=HA.1;clear HA;simp only[impl_ClearBetween.j0]at H;replace H:=S.db H;rcases H with⟨rfl,H⟩|⟨rfl,H⟩
   ·obtain rfl:=Option.some.inj H;go_wp2;go_ret;exact⟨S.eW,S.bA⟩
   ·replace H:=S.bd H;obtain⟨o,be,H⟩:=H;(try dsimp only at H);have H':=S.a H;clear H;go_wp2_with (first|((with_reducible refine S.gF 98 ?_);refine S.gQ 26 Tryz.func98 #[.slice A1 Z.length c1,.slice A2 l2.length c2] (impl_Closes.calls aF _ _ Z _ _ l2 o _ ?s1 a2.1 ?s3 aD.1 be.1) ?_;(case s1=>exact S.cA a1.1);(case s3=>exact S.cA aC.1);rintro e bz ⟨bu,rfl,aj,hb⟩;refine⟨_,rfl,?_⟩;have am:=S.lwA aj;replace HB:=S.sA hb;(try clear hb);(try clear aj);obtain⟨aW,an,aX⟩:=Kd.R_slice am.1;subst aX));go_loopg [7,28] aF (fun kq v7 bf w'=> ∃(ae:Int) (m:Int),v7= .int .i64 ae∧bf= .int .i64 m∧Aside0 (impl_ClearBetween.l0 kq l Z l2 ae o (o.length:Int) m=some r)∧Aside0 (kq≤aF)∧Aside0 (Kd.R (Kd.int .i64) 3 w' w.heap.size (fun _=>True) (.slice aW o.length an) o)∧Aside0 (Below w.heap.size w w'))
    case atStart=>exact⟨(0),(0),S.eA,S.eA,H',⟨Nat.le_refl _⟩,⟨S.uR am.1⟩,⟨S.bA⟩⟩
    case round=>
     clear H';try clear c1
     try clear c2
     try clear bg
     obtain⟨ae,m,rfl,rfl,HA,ak,b,HB⟩:=hrel
     cases gk with
     |zero=>exact absurd HA.1 (by simp[impl_ClearBetween.l0])
     |succ k2=>
      have H:=HA.1;clear HA;simp only[impl_ClearBetween.l0]at H;replace H:=S.dc H;rcases H with⟨H,ao⟩|⟨H,ao⟩
      ·by_cases ap:0≤m
       ·rw[if_pos ap]at H;have aG:decide (0≤m)=true:=decide_eq_true ap;clear ap
        by_cases aq:m<(o.length:Int)
        ·rw[if_pos aq]at H;have aH:decide (m<(o.length:Int))=true:=decide_eq_true aq;clear aq;replace H:=S.bd H;obtain⟨x,bh,H⟩:=H;(try dsimp only at H);have H':=S.a H;clear H;have af:0≤(m:Int):=S.oD;have ag:m<(o.length:Int):=S.oD;obtain⟨ar,aY,au⟩:=Kd.at_int (Kd.R_reads' b.1).2.2 m af ag;cases aY;replace af:=eq_true af;replace ag:=eq_true ag;go_wp2_with (first|((with_reducible refine S.gF 98 ?_);refine S.gQ 34 Tryz.func98 #[.slice A2 l2.length c2,.slice A1 Z.length c1] (impl_Closes.calls k2 _ _ l2 _ _ Z x _ ?s1 aD.1 ?s3 a2.1 bh.1) ?_;(case s1=>exact S.cA aC.1);(case s3=>exact S.cA a1.1);rintro e b0 ⟨bv,rfl,aj,hb⟩;refine⟨_,rfl,?_⟩;have av:=S.rnA aj b;replace b:=S.re b aj hb;replace HB:=S.sA hb;(try clear hb);(try clear aj);obtain⟨aA,aB,aZ⟩:=Kd.R_slice av.1;subst aZ));go_loopg [7,36] k2 (fun kq v7 bi w'=> ∃(L:Int) (j:Int),v7= .int .i64 L∧bi= .int .i64 j∧Aside0 (impl_ClearBetween.l1 kq l Z l2 L (rd o m) o (o.length:Int) m x (x.length:Int) j=some r)∧Aside0 (kq≤k2)∧Aside0 (Kd.R (Kd.int .i64) 3 w' w.heap.size (fun k_=>some k_≠((.slice aA x.length aB):Value).ownBlock) (.slice (some ar) o.length an) o)∧Aside0 (Kd.R (Kd.int .i64) 3 w' w.heap.size (fun k_=>some k_≠((.slice (some ar) o.length an):Value).ownBlock) (.slice aA x.length aB) x)∧Aside0 (Below w.heap.size w w'))
         case atStart=>exact⟨(ae),(0),S.eA,S.eA,H',⟨Nat.le_refl _⟩,⟨by(with_reducible repeat(first|apply Kd.R_alloc|apply Kd.R_drewN|apply Kd.R_drew));exact Kd.R_mono b.1 (fun _ hk=>hk.2)⟩,⟨by(with_reducible repeat(first|apply Kd.R_alloc|apply Kd.R_drewN|apply Kd.R_drew));exact Kd.R_mono av.1 (fun _ hk=>hk.2)⟩,⟨S.bA⟩⟩
         case round=>
          clear H';try clear c1
          try clear c2
          try clear bg
          try clear b1
          try clear ao
          try clear ap
          try clear aG
          try clear aq
          try clear aH
          try clear au
          try clear af
          try clear ag
          obtain⟨L,j,rfl,rfl,HA,al,b,g,HB⟩:=hrel
          cases gk with
          |zero=>exact absurd HA.1 (by simp[impl_ClearBetween.l1])
          |succ k3=>
           have H:=HA.1;clear HA;simp only[impl_ClearBetween.l1]at H;replace H:=S.dc H;rcases H with⟨H,aI⟩|⟨H,aI⟩
           ·by_cases a3:0≤j
            ·rw[if_pos a3]at H;have bj:decide (0≤j)=true:=decide_eq_true a3;clear a3
             by_cases a4:j<(x.length:Int)
             ·rw[if_pos a4]at H;have bk:decide (j<(x.length:Int))=true:=decide_eq_true a4;clear a4;replace H:=S.bd H;obtain⟨d,aJ,H⟩:=H;(try dsimp only at H)
              by_cases a5:0≤d
              ·rw[if_pos a5]at H;have bl:decide (0≤d)=true:=decide_eq_true a5;clear a5
               by_cases a6:d<(l.length:Int)
               ·rw[if_pos a6]at H;have bm:decide (d<(l.length:Int))=true:=decide_eq_true a6;clear a6;replace H:=S.bd H;obtain⟨i,aK,H⟩:=H;(try dsimp only at H)
                by_cases a7:0≤i
                ·rw[if_pos a7]at H;have bn:decide (0≤i)=true:=decide_eq_true a7;clear a7
                 by_cases a8:i<(l.length:Int)
                 ·rw[if_pos a8]at H;have bo:decide (i<(l.length:Int))=true:=decide_eq_true a8;clear a8;replace H:=S.bd H;obtain⟨_,aL,H⟩:=H;(try dsimp only at H);replace H:=S.db H;rcases H with⟨rfl,H⟩|⟨rfl,H⟩
                  ·replace H:=S.bd H;obtain⟨ah,ba,H⟩:=H;(try dsimp only at H);obtain⟨aw,E⟩: ∃j_:Int,(mx L ah)=j_:=⟨_,rfl⟩;replace H:(impl_ClearBetween.l1 k3 l Z l2 aw (rd o m) o (o.length:Int) m x (x.length:Int) (wrap64 (j+1)))=some r:=by first|(rw[E]at H;exact H)|(simp only[E]at H⊢;exact H)
                   (try rw[E]at aJ);(try rw[E]at aK);(try rw[E]at aL);(try rw[E]at ba);have bb:(if L<ah then ah else L)=aw:=E;have H':=S.a H;clear H;have O:0≤(j:Int):=S.oD;have T:j<(x.length:Int):=S.oD;obtain⟨aM,ax,ay⟩:=Kd.at_int (Kd.R_reads' g.1).2.2 j O T;cases ax;replace O:=eq_true O;replace T:=eq_true T
                   try go_wp2_with (first|((with_reducible refine S.gF 69 ?_);refine S.gQ 43 Tryz.func69 #[.slice A0 l.length c0,.int .i64 (rd o m)] (impl_FindPath.calls _ _ l (rd o m) d _ ?s1 aa.1 aJ.1) ?_;(case s1=>exact S.cA M.1);rintro e b2 ⟨rfl,hb⟩;refine⟨_,rfl,?_⟩;replace b:=S.rb b hb;replace g:=S.rb g hb;replace HB:=S.sA hb;(try clear hb);have U:0≤(d:Int):=S.oD;have V:d<(l.length:Int):=S.oD;obtain⟨W,az,F,G,I,J⟩:=at_T76 M.1 d U V;cases az;replace F:=S.hb HB F;replace G:=S.hb HB G;replace I:=S.hb HB I;replace J:=S.hb HB J;replace U:=eq_true U;replace V:=eq_true V)|((with_reducible refine S.gN 12 ?_);refine S.bx 12 (cs:=#[.int .i64 0,.int .i64 0,.int .i64 0,.int .i64 0]) (t:=76) ?_;intro D hg bp hbox hb;replace b:=S.rb b hb;replace g:=S.rb g hb;have c:=S.a hbox;have aN:=S.geA hg;have aO:=S.geA hg;replace HB:=S.sA hb;clear hb hbox hg;obtain⟨_,_,_,_,_,_,_,_⟩:=S.c4 c.1))
                   generalize hq_:((((bp.setCell ⟨D,0,none⟩ (.int .i64 ((rd_T76 l d).f0))).setCell ⟨D,1,none⟩ (.int .i64 ((rd_T76 l d).f1))).setCell ⟨D,2,none⟩ (.int .i64 ((rd_T76 l d).f2))).setCell ⟨D,3,none⟩ (.int .i64 ((rd_T76 l d).f3)))=bq;replace b:=S.f4 hq_ b c;replace g:=S.f4 hq_ g c;replace c:=S.p4 hq_ c;replace HB:=S.bQ hq_;clear hq_;replace b:=S.dr b;replace g:=S.dr g;replace c:=S.a (blk_drew c.1);replace HB:=S.a (below_drew1 HB.1);have X:0≤(i:Int):=S.oD;have Y:i<(l.length:Int):=S.oD;obtain⟨ac,a0,p,s,u,v⟩:=at_T76 M.1 i X Y;have y:=v;have z:=u;have A:=s;have B:=p;obtain rfl:W=ac:=(by injection a0);replace p:=S.hb HB p;replace s:=S.hb HB s;replace u:=S.hb HB u;replace v:=S.hb HB v;replace X:=eq_true X;replace Y:=eq_true Y;refine S.st (n:=8) (ds:=[]) (S.bs 256) (fun w_ h_=>have x_:=S.d4 (S.Q h_ c.1) (And.intro (S.q h_ (S.hb HB B)) (And.intro (S.q h_ (S.hb HB A)) (And.intro (S.q h_ (S.hb HB z)) (S.q h_ (S.hb HB y)))));x_) (fun hHeld=>?_);refine with_tabW impl_ClearBetween.tab11 impl_ClearBetween.bits11 (fun HT_ HW_=>?_);generalize bq.drew=b3 at b g c HB p s u v hHeld⊢;refine S.pS 1 47 ?_;refine S.pS 2 48 ?_;refine S.pS 3 49 ?_;refine S.tK 0 46 (S.bs 271) ?_;refine S.oN 4 50 (S.bs 287) (fun K hK=>?_);refine S.go Tryz.func69 #[.slice (some W) l.length c0,.int .i64 (rd x j)] ?_
                   with_reducible refine(impl_FindPath.calls _ _ l (rd x j) i _ ?s1 ?s2 aK.1).mono ?_
                   (case s1=>exact S.cA M.1);(case s2=>exact aa.1);rintro e b4 ⟨rfl,hb⟩;refine⟨_,rfl,?_⟩;replace b:=S.rb b hb;replace g:=S.rb g hb;replace c:=S.kb c hb;replace HB:=S.sG hb;(try clear hb);(try clear aP);(try clear hk);(try clear hi);refine hK.out _ _ (S.d4 c.1 (And.intro ((S.hb HB B:)) (And.intro ((S.hb HB A:)) (And.intro ((S.hb HB z:)) ((S.hb HB y:)))))) (fun hHeld=>?_);clear hK K;refine S.nm 50 ?_;refine S.pS 5 51 ?_;refine S.tK 6 52 (S.bs 383) ?_;refine S.oN 7 53 (S.bs 511) (fun K hK=>?_);refine S.go Tryz.func71 #[.agg #[.int .i64 ((rd_T76 l d).f0),.int .i64 ((rd_T76 l d).f1),.int .i64 ((rd_T76 l d).f2),.int .i64 ((rd_T76 l d).f3)],.agg #[.int .i64 ((rd_T76 l i).f0),.int .i64 ((rd_T76 l i).f1),.int .i64 ((rd_T76 l i).f2),.int .i64 ((rd_T76 l i).f3)]] ?_
                   with_reducible refine(impl_Conflict.calls k3 ((rd_T76 l d).f0) ((rd_T76 l d).f1) ((rd_T76 l d).f2) ((rd_T76 l d).f3) ((rd_T76 l i).f0) ((rd_T76 l i).f1) ((rd_T76 l i).f2) ((rd_T76 l i).f3) true _ aL.1).mono ?_
                   rintro e b5 ⟨rfl,hb⟩;refine⟨_,rfl,?_⟩;replace b:=S.rb b hb;replace g:=S.rb g hb;replace c:=S.kb c hb;replace HB:=S.sG hb;(try clear hb);(try clear aP);(try clear hk);(try clear hi);refine hK.out _ _ (S.d4 c.1 (And.intro ((S.hb HB B:)) (And.intro ((S.hb HB A:)) (And.intro ((S.hb HB z:)) ((S.hb HB y:)))))) (fun hHeld=>?_);clear hK K;refine S.nm 53 ?_;refine done_ (done_of HT_.1 (by kernel_rfl)) ?_;obtain⟨_,_,_,_,_,_,_,_⟩:=S.c4 c.1
                   try go_wp2_with (first|((with_reducible refine S.gF 99 ?_);refine S.gQ 56 Tryz.func99 #[.agg #[.int .i64 ((rd_T76 l d).f0),.int .i64 ((rd_T76 l d).f1),.int .i64 ((rd_T76 l d).f2),.int .i64 ((rd_T76 l d).f3)]] (impl_ClearOf.calls k3 ((rd_T76 l d).f0) ((rd_T76 l d).f1) ((rd_T76 l d).f2) ((rd_T76 l d).f3) ah _ ba.1) ?_;rintro e b6 ⟨rfl,hb⟩;refine⟨_,rfl,?_⟩;replace b:=S.rb b hb;replace g:=S.rb g hb;replace c:=S.kb c hb;replace HB:=S.sG hb;(try clear hb)))
                   go_roundg k3
                   case measure=>have:=ai.1;have:=ak.1;have:=al.1;omega
                   case rel=>exact⟨(aw),(wrap64 (j+1)),(by first|rfl|(simp;done)|(simp only[←E]<;>(first|rfl|simp))|(simp[*];done)),S.eA,H',⟨by have:=ai.1;have:=ak.1;have:=al.1;omega⟩,⟨S.uR b.1⟩,⟨S.uR g.1⟩,⟨S.bG⟩⟩
                  ·have H':=S.a H;clear H;have O:0≤(j:Int):=S.oD;have T:j<(x.length:Int):=S.oD;obtain⟨aM,ax,ay⟩:=Kd.at_int (Kd.R_reads' g.1).2.2 j O T;cases ax;replace O:=eq_true O;replace T:=eq_true T
                   try go_wp2_with (first|((with_reducible refine S.gF 69 ?_);refine S.gQ 43 Tryz.func69 #[.slice A0 l.length c0,.int .i64 (rd o m)] (impl_FindPath.calls _ _ l (rd o m) d _ ?s1 aa.1 aJ.1) ?_;(case s1=>exact S.cA M.1);rintro e b7 ⟨rfl,hb⟩;refine⟨_,rfl,?_⟩;replace b:=S.rb b hb;replace g:=S.rb g hb;replace HB:=S.sA hb;(try clear hb);have U:0≤(d:Int):=S.oD;have V:d<(l.length:Int):=S.oD;obtain⟨W,az,F,G,I,J⟩:=at_T76 M.1 d U V;cases az;replace F:=S.hb HB F;replace G:=S.hb HB G;replace I:=S.hb HB I;replace J:=S.hb HB J;replace U:=eq_true U;replace V:=eq_true V)|((with_reducible refine S.gN 12 ?_);refine S.bx 12 (cs:=#[.int .i64 0,.int .i64 0,.int .i64 0,.int .i64 0]) (t:=76) ?_;intro D hg br hbox hb;replace b:=S.rb b hb;replace g:=S.rb g hb;have c:=S.a hbox;have aN:=S.geA hg;have aO:=S.geA hg;replace HB:=S.sA hb;clear hb hbox hg;obtain⟨_,_,_,_,_,_,_,_⟩:=S.c4 c.1))
                   generalize hq_:((((br.setCell ⟨D,0,none⟩ (.int .i64 ((rd_T76 l d).f0))).setCell ⟨D,1,none⟩ (.int .i64 ((rd_T76 l d).f1))).setCell ⟨D,2,none⟩ (.int .i64 ((rd_T76 l d).f2))).setCell ⟨D,3,none⟩ (.int .i64 ((rd_T76 l d).f3)))=bt;replace b:=S.f4 hq_ b c;replace g:=S.f4 hq_ g c;replace c:=S.p4 hq_ c;replace HB:=S.bQ hq_;clear hq_;replace b:=S.dr b;replace g:=S.dr g;replace c:=S.a (blk_drew c.1);replace HB:=S.a (below_drew1 HB.1);have X:0≤(i:Int):=S.oD;have Y:i<(l.length:Int):=S.oD;obtain⟨ac,a0,p,s,u,v⟩:=at_T76 M.1 i X Y;have y:=v;have z:=u;have A:=s;have B:=p;obtain rfl:W=ac:=(by injection a0);replace p:=S.hb HB p;replace s:=S.hb HB s;replace u:=S.hb HB u;replace v:=S.hb HB v;replace X:=eq_true X;replace Y:=eq_true Y;refine S.st (n:=8) (ds:=[]) (S.bs 256) (fun w_ h_=>have x_:=S.d4 (S.Q h_ c.1) (And.intro (S.q h_ (S.hb HB B)) (And.intro (S.q h_ (S.hb HB A)) (And.intro (S.q h_ (S.hb HB z)) (S.q h_ (S.hb HB y)))));x_) (fun hHeld=>?_);refine with_tabW impl_ClearBetween.tab11 impl_ClearBetween.bits11 (fun HT_ HW_=>?_);generalize bt.drew=b8 at b g c HB p s u v hHeld⊢;refine S.pS 1 47 ?_;refine S.pS 2 48 ?_;refine S.pS 3 49 ?_;refine S.tK 0 46 (S.bs 271) ?_;refine S.oN 4 50 (S.bs 287) (fun K hK=>?_);refine S.go Tryz.func69 #[.slice (some W) l.length c0,.int .i64 (rd x j)] ?_
                   with_reducible refine(impl_FindPath.calls _ _ l (rd x j) i _ ?s1 ?s2 aK.1).mono ?_
                   (case s1=>exact S.cA M.1);(case s2=>exact aa.1);rintro e b9 ⟨rfl,hb⟩;refine⟨_,rfl,?_⟩;replace b:=S.rb b hb;replace g:=S.rb g hb;replace c:=S.kb c hb;replace HB:=S.sG hb;(try clear hb);(try clear aP);(try clear hk);(try clear hi);refine hK.out _ _ (S.d4 c.1 (And.intro ((S.hb HB B:)) (And.intro ((S.hb HB A:)) (And.intro ((S.hb HB z:)) ((S.hb HB y:)))))) (fun hHeld=>?_);clear hK K;refine S.nm 50 ?_;refine S.pS 5 51 ?_;refine S.tK 6 52 (S.bs 383) ?_;refine S.oN 7 53 (S.bs 511) (fun K hK=>?_);refine S.go Tryz.func71 #[.agg #[.int .i64 ((rd_T76 l d).f0),.int .i64 ((rd_T76 l d).f1),.int .i64 ((rd_T76 l d).f2),.int .i64 ((rd_T76 l d).f3)],.agg #[.int .i64 ((rd_T76 l i).f0),.int .i64 ((rd_T76 l i).f1),.int .i64 ((rd_T76 l i).f2),.int .i64 ((rd_T76 l i).f3)]] ?_
                   with_reducible refine(impl_Conflict.calls k3 ((rd_T76 l d).f0) ((rd_T76 l d).f1) ((rd_T76 l d).f2) ((rd_T76 l d).f3) ((rd_T76 l i).f0) ((rd_T76 l i).f1) ((rd_T76 l i).f2) ((rd_T76 l i).f3) false _ aL.1).mono ?_
                   rintro e bB ⟨rfl,hb⟩;refine⟨_,rfl,?_⟩;replace b:=S.rb b hb;replace g:=S.rb g hb;replace c:=S.kb c hb;replace HB:=S.sG hb;(try clear hb);(try clear aP);(try clear hk);(try clear hi);refine hK.out _ _ (S.d4 c.1 (And.intro ((S.hb HB B:)) (And.intro ((S.hb HB A:)) (And.intro ((S.hb HB z:)) ((S.hb HB y:)))))) (fun hHeld=>?_);clear hK K;refine S.nm 53 ?_;refine done_ (done_of HT_.1 (by kernel_rfl)) ?_;try go_wp2
                   go_roundg k3
                   case measure=>have:=ai.1;have:=ak.1;have:=al.1;omega
                   case rel=>exact⟨(L),(wrap64 (j+1)),S.eA,S.eA,H',⟨by have:=ai.1;have:=ak.1;have:=al.1;omega⟩,⟨S.uR b.1⟩,⟨S.uR g.1⟩,⟨S.bG⟩⟩
                 ·rw[if_neg a8]at H;exact absurd H (by simp)
                ·rw[if_neg a7]at H;exact absurd H (by simp)
               ·rw[if_neg a6]at H;exact absurd H (by simp)
              ·rw[if_neg a5]at H;exact absurd H (by simp)
             ·rw[if_neg a4]at H;exact absurd H (by simp)
            ·rw[if_neg a3]at H;exact absurd H (by simp)
           ·have H':=S.a H;clear H;go_wp2;go_roundg k3
            case measure=>have:=ai.1;have:=ak.1;have:=al.1;omega
            case rel=>exact⟨(L),(wrap64 (m+1)),S.eA,S.eA,H',⟨by have:=ai.1;have:=ak.1;have:=al.1;omega⟩,⟨by(with_reducible repeat(first|apply Kd.R_alloc|apply Kd.R_drewN|apply Kd.R_drew));exact Kd.R_mono b.1 (fun _ hk=>trivial)⟩,⟨S.bA⟩⟩
        ·rw[if_neg aq]at H;exact absurd H (by simp)
       ·rw[if_neg ap]at H;exact absurd H (by simp)
      ·obtain rfl:=Option.some.inj H;go_wp2;go_ret;exact⟨S.eW,S.bA⟩
def impl_IsControl.j0:Nat→List (S76)→Bool→List Int→Int→List Int→Int→Option (Bool)
 |0,_,_,_,_,_,_=>none
 |k+1,i,h,c,d,a,b=>if h=true then(some false)else(if(a.length:Int)=0 then(some (b==0))else((impl_ClearBetween.f k i c a).bind fun e=>((impl_InRange.f b 1 e).bind fun g=>(some g))))
def impl_IsControl.f(k:Nat)(e:List (S76))(a:List Int)(b:Int)(c:List Int)(d:Int):Option (Bool):=(impl_IsTogether.f k e a).bind fun g=>(if g=true then((impl_IsTogether.f k e c).bind fun h=>(if h=true then(if(a.length:Int)=0 then(impl_IsControl.j0 k e true a b c d)else((impl_InRange.f b 0 1000000).bind fun i=>(impl_IsControl.j0 k e (!i) a b c d)))else(impl_IsControl.j0 k e true a b c d)))else(impl_IsControl.j0 k e true a b c d))
def impl_IsControl.T5:Bool×List (List Nat×List Nat):=(true,[([],[]),([0],[0]),([],[]),([],[]),([3],[3]),([],[]),([5],[5]),([2,4,6],[2,4,6]),([1,7,7],[1,7]),([8,8,0,1,2,3,4,5,6,7,8],[8])])
def impl_IsControl.B5:List Nat:=[0,1,0,0,8,0,32,124,255,511]
theorem impl_IsControl.tab5:rtab .any (opsOf Tryz.f25 5)=impl_IsControl.T5:=by kernel_rfl
theorem impl_IsControl.bits5:waitsOk impl_IsControl.T5.2 impl_IsControl.B5=true:=by kernel_rfl
theorem impl_IsControl.calls(k:Nat)(R:Option Addr)(T:Nat)(m:List (S76))(j:Option Addr)(l:Nat)(c:List Int)(g:Int)(u:Option Addr)(v:Nat)(d:List Int)(i:Int)(r:Bool)(w:World)(Y:Kd.C k76 w R m.length m)(Z:m.length≤T)(E:Kd.C (Kd.int .i64) w j c.length c)(F:c.length≤l)(G:Kd.C (Kd.int .i64) w u d.length d)(I:d.length≤v)(h:impl_IsControl.f k m c g d i=some r):
  Calls Tryz.prog 25 #[.slice R m.length T,.agg #[.slice j c.length l,.int .i64 g,.slice u d.length v,.int .i64 i]] w fun e w'=>e= .returned (.bool r)∧Below w.heap.size w w':=by
 have:=Tryz.underlying32;have x:=S.a Y;have y:=S.a Z;clear Y Z;have o:=S.a E;have p:=S.a F;clear E F;have q:=S.a G;have s:=S.a I;clear G I;have HB:=S.a (Below.refl w.heap.size w);have H:((impl_IsTogether.f k m c).bind fun L=>(if L=true then((impl_IsTogether.f k m d).bind fun M=>(if M=true then(if(c.length:Int)=0 then(impl_IsControl.j0 k m true c g d i)else((impl_InRange.f g 0 1000000).bind fun D=>(impl_IsControl.j0 k m (!D) c g d i)))else(impl_IsControl.j0 k m true c g d i)))else(impl_IsControl.j0 k m true c g d i)))=some r:=h;clear h;have U:=S.a H;clear H;go_enter Tryz.func25,Tryz.ntmps25;go_upto_region 1 with(first|((with_reducible refine S.gN 3 ?_);(try(refine gate_guard (by rfl) ?_;dsimp only));refine S.bx 3 (cs:=#[.slice j c.length l,.int .i64 g,.slice u d.length v,.int .i64 i]) (t:=32) ?_;intro V hg w4 hbox hb;have b:=S.a hbox;have:=S.geA hg;have:=S.geA hg;replace HB:=S.sA hb;clear hb hbox hg));(try simp only[Act.put,List.setIfInBounds_toArray,List.set_cons_zero,List.set_cons_succ]);go_cut [28] (fun ac wc=> ∃(kq:Nat) (B:Bool),ac= .bool B∧Aside0 (impl_IsControl.j0 kq m B c g d i=some r)∧Aside0 (kq≤k)∧Aside0 (wc.heap[V]?=some (.cells #[(.slice j c.length l),.int .i64 g,(.slice u d.length v),.int .i64 i] 32 (0,0)))∧Aside0 (Below w.heap.size w wc))
 case first=>
  have H:=U.1;clear U;replace H:=S.bd H;obtain⟨L,A5,H⟩:=H;(try dsimp only at H);replace H:=S.db H;rcases H with⟨rfl,H⟩|⟨rfl,H⟩
  ·replace H:=S.bd H;obtain⟨M,A7,H⟩:=H;(try dsimp only at H);replace H:=S.db H;rcases H with⟨rfl,H⟩|⟨rfl,H⟩
   ·by_cases O:(c.length:Int)=0
    ·rw[if_pos O]at H;have z:((c.length:Int)==0)=true:=beq_iff_eq.mpr O;have aa:((c.length:Int) !=0)=false:=bne_eq_false_iff_eq.mpr O;clear O;(first|rw[z]|(simp only[i64_w,i32_w];rw[z])|skip);have H':=S.a H;clear H;obtain⟨_,_,_,_,_,_,_,_⟩:=S.c4 b.1;go_wp2_with (first|((with_reducible refine S.gF 65 ?_);refine S.gQ 8 Tryz.func65 #[.slice R m.length T,.slice j c.length l] (impl_IsTogether.calls k _ _ m _ _ c true _ ?s1 y.1 ?s3 p.1 A5.1) ?_;(case s1=>exact S.cA x.1);(case s3=>exact S.cA o.1);rintro e aj ⟨rfl,hb⟩;refine⟨_,rfl,?_⟩;replace b:=S.kb b hb;replace HB:=S.sG hb;(try clear hb);obtain⟨_,_,_,_,_,_,_,_⟩:=S.c4 b.1)|(go_at_call 65;(with_reducible refine(impl_IsTogether.calls k _ _ m _ _ d true _ ?s1 y.1 ?s3 s.1 A7.1).mono ?_);(case s1=>exact S.cA x.1);(case s3=>exact S.cA q.1);rintro e ak ⟨rfl,hb⟩;replace b:=S.kb b hb;replace HB:=S.sG hb;(try clear hb);obtain⟨_,_,_,_,_,_,_,_⟩:=S.c4 b.1));go_meet
     case rel=>exact⟨_,(true),S.eA,H',S.le,⟨S.uB b.1⟩,⟨S.bG⟩⟩
    ·rw[if_neg O]at H;have z:((c.length:Int)==0)=false:=beq_eq_false_iff_ne.mpr O;have aa:((c.length:Int) !=0)=true:=bne_iff_ne.mpr O;have ai: ¬(c=[]):=fun h_=>O (by rw[h_];rfl)
     (first|rw[z]|(simp only[i64_w,i32_w];rw[z])|skip);replace H:=S.bd H;obtain⟨D,ad,H⟩:=H;(try dsimp only at H);have H':=S.a H;clear H;obtain⟨_,_,_,_,_,_,_,_⟩:=S.c4 b.1;go_wp2_with (first|((with_reducible refine S.gF 65 ?_);refine S.gQ 8 Tryz.func65 #[.slice R m.length T,.slice j c.length l] (impl_IsTogether.calls k _ _ m _ _ c true _ ?s1 y.1 ?s3 p.1 A5.1) ?_;(case s1=>exact S.cA x.1);(case s3=>exact S.cA o.1);rintro e al ⟨rfl,hb⟩;refine⟨_,rfl,?_⟩;replace b:=S.kb b hb;replace HB:=S.sG hb;(try clear hb);obtain⟨_,_,_,_,_,_,_,_⟩:=S.c4 b.1)|(go_at_call 65;(with_reducible refine(impl_IsTogether.calls k _ _ m _ _ d true _ ?s1 y.1 ?s3 s.1 A7.1).mono ?_);(case s1=>exact S.cA x.1);(case s3=>exact S.cA q.1);rintro e am ⟨rfl,hb⟩;replace b:=S.kb b hb;replace HB:=S.sG hb;(try clear hb);obtain⟨_,_,_,_,_,_,_,_⟩:=S.c4 b.1)|(go_at_call 66;(with_reducible refine(impl_InRange.calls g 0 1000000 D _ ad.1).mono ?_);rintro e w' ⟨rfl,⟨nd,rfl⟩⟩));go_meet
     case rel=>exact⟨_,(!D),S.eA,H',S.le,⟨S.uB b.1⟩,⟨S.bG⟩⟩
   ·have H':=S.a H;clear H;obtain⟨_,_,_,_,_,_,_,_⟩:=S.c4 b.1;go_wp2_with (first|((with_reducible refine S.gF 65 ?_);refine S.gQ 8 Tryz.func65 #[.slice R m.length T,.slice j c.length l] (impl_IsTogether.calls k _ _ m _ _ c true _ ?s1 y.1 ?s3 p.1 A5.1) ?_;(case s1=>exact S.cA x.1);(case s3=>exact S.cA o.1);rintro e an ⟨rfl,hb⟩;refine⟨_,rfl,?_⟩;replace b:=S.kb b hb;replace HB:=S.sG hb;(try clear hb);obtain⟨_,_,_,_,_,_,_,_⟩:=S.c4 b.1)|(go_at_call 65;(with_reducible refine(impl_IsTogether.calls k _ _ m _ _ d false _ ?s1 y.1 ?s3 s.1 A7.1).mono ?_);(case s1=>exact S.cA x.1);(case s3=>exact S.cA q.1);rintro e ao ⟨rfl,hb⟩;replace b:=S.kb b hb;replace HB:=S.sG hb;(try clear hb)));go_meet
    case rel=>exact⟨_,(true),S.eA,H',S.le,⟨S.uB b.1⟩,⟨S.bG⟩⟩
  ·have H':=S.a H;clear H;obtain⟨_,_,_,_,_,_,_,_⟩:=S.c4 b.1;go_wp2_with (first|((with_reducible refine S.gF 65 ?_);refine S.gQ 8 Tryz.func65 #[.slice R m.length T,.slice j c.length l] (impl_IsTogether.calls k _ _ m _ _ c false _ ?s1 y.1 ?s3 p.1 A5.1) ?_;(case s1=>exact S.cA x.1);(case s3=>exact S.cA o.1);rintro e ap ⟨rfl,hb⟩;refine⟨_,rfl,?_⟩;replace b:=S.kb b hb;replace HB:=S.sG hb;(try clear hb)));go_meet
   case rel=>exact⟨_,(true),S.eA,H',S.le,⟨S.uB b.1⟩,⟨S.bG⟩⟩
 case rest=>
  clear U;obtain⟨kq,B,rfl,HA,_,b,HB⟩:=hcut
  cases kq with
  |zero=>exact absurd HA.1 (by simp[impl_IsControl.j0])
  |succ ae=>
   have H:=HA.1;clear HA;simp only[impl_IsControl.j0]at H;replace H:=S.db H;rcases H with⟨rfl,H⟩|⟨rfl,H⟩
   ·obtain rfl:=Option.some.inj H;go_wp2;go_ret;exact⟨S.eW,S.bG⟩
   ·by_cases A:(d.length:Int)=0
    ·rw[if_pos A]at H;have W:((d.length:Int)==0)=true:=beq_iff_eq.mpr A;have X:((d.length:Int) !=0)=false:=bne_eq_false_iff_eq.mpr A;clear A;obtain rfl:=Option.some.inj H;obtain⟨_,_,_,_,_,_,_,_⟩:=S.c4 b.1;go_wp2;go_ret;exact⟨S.eW,S.bG⟩
    ·rw[if_neg A]at H;have W:((d.length:Int)==0)=false:=beq_eq_false_iff_ne.mpr A;have X:((d.length:Int) !=0)=true:=bne_iff_ne.mpr A;have af: ¬(d=[]):=fun h_=>A (by rw[h_];rfl)
     replace H:=S.bd H;obtain⟨J,ag,H⟩:=H;(try dsimp only at H);replace H:=S.bd H;obtain⟨ab,ah,H⟩:=H;(try dsimp only at H);obtain rfl:=Option.some.inj H;obtain⟨_,_,_,_,_,_,_,_⟩:=S.c4 b.1;try go_wp2
     replace b:=S.a (blk_drew b.1);replace HB:=S.a (below_drew1 HB.1);refine S.st (n:=10) (ds:=[]) (S.bs 1024) (fun w_ h_=>have x_:=S.e4 (S.Q h_ b.1);x_) (fun hHeld=>?_);refine with_tabW impl_IsControl.tab5 impl_IsControl.bits5 (fun HT_ HW_=>?_);generalize wc.drew=aq at b HB hHeld⊢;refine S.pS 0 36 ?_;refine S.pS 2 38 ?_;refine S.pS 3 39 ?_;refine S.pS 5 41 ?_;refine S.tK 1 37 (S.bs 1071) ?_;refine S.tK 4 40 (S.bs 1087) ?_;refine S.tK 6 42 (S.bs 1151) ?_;refine S.oN 7 43 (S.bs 1279) (fun K hK=>?_);refine S.go Tryz.func67 #[.slice R m.length T,.slice j c.length l,.slice u d.length v] ?_
     with_reducible refine(impl_ClearBetween.calls ae _ _ m _ _ c _ _ d J _ ?s1 ?s2 ?s3 ?s4 ?s5 ?s6 ag.1).mono ?_
     (case s1=>exact S.cA x.1);(case s2=>exact y.1);(case s3=>exact S.cA o.1);(case s4=>exact p.1);(case s5=>exact S.cA q.1);(case s6=>exact s.1);rintro e ar ⟨rfl,hb⟩;refine⟨_,rfl,?_⟩;replace b:=S.kb b hb;replace HB:=S.sG hb;(try clear hb);(try clear au);(try clear hk);(try clear hi);refine hK.out _ _ (S.e4 b.1) (fun hHeld=>?_);clear hK K;refine S.nm 43 ?_;refine S.oN 8 44 (S.bs 1535) (fun K hK=>?_);refine S.go Tryz.func66 #[.int .i64 i,.int .i64 1,.int .i64 J] ?_
     with_reducible refine(impl_InRange.calls i 1 J ab _ ah.1).mono ?_
     rintro e w' ⟨rfl,⟨nd,rfl⟩⟩;refine⟨_,rfl,?_⟩;refine hK.out _ _ (S.e4 b.1) (fun hHeld=>?_);clear hK K;refine S.nm 44 ?_;refine S.pS 9 4 ?_;refine done_ (done_of HT_.1 (by kernel_rfl)) ?_;try go_wp2
     go_ret;exact⟨S.eW,S.bG⟩
def impl_AreWants.l0:Nat→List (S76)→List (S81)→List (S81)→Int→Int→Option (Bool)
 |0,_,_,_,_,_=>none
 |k+1,h,g,b,c,a=>if a<c then(if 0≤a then(if a<(b.length:Int)then((impl_FindPath.f h ((rd_T81 b a).f0)).bind fun d=>(if d<0 then(some false)else((impl_InRange.f ((rd_T81 b a).f1) 0 100000).bind fun e=>(if e=true then(if a>0 then(if 0≤(wrap64 (a-1))then(if(wrap64 (a-1))<(g.length:Int)then(if((rd_T81 b a).f0)≤((rd_T81 g (wrap64 (a-1))).f0)then(some false)else(impl_AreWants.l0 k h g b c (wrap64 (a+1))))else(none))else(none))else(impl_AreWants.l0 k h g b c (wrap64 (a+1))))else(some false)))))else(none))else(none))else(some true)
def impl_AreWants.f(k:Nat)(c:List (S76))(b:List (S81)):Option (Bool):=(impl_ArePaths.f k c).bind fun a=>(if a=true then(impl_AreWants.l0 k c b b (b.length:Int) 0)else(some false))
def impl_AreWants.T6:Bool×List (List Nat×List Nat):=(true,[([],[]),([],[]),([1],[1]),([0,2],[0,2]),([3],[3]),([4,3],[4]),([5],[5]),([6,5],[5,6]),([7,5,5],[5,7]),([8,5],[5,8]),([5,9],[5,9]),([10,8],[10]),([11],[11]),([12,11],[11,12]),([13,11,11],[11,13]),([14],[14]),([15,14],[14,15]),([14],[14]),([14],[14]),([18,14],[14,18]),([17,19,14],[14,17,19]),([20,14],[14,20]),([21,14],[14,21]),([16,22,14],[14,16,22]),([14,23,11],[11,14,23]),([11,24],[11,24])])
def impl_AreWants.B6:List Nat:=[0,0,2,7,15,31,63,127,255,511,1023,2047,4095,8191,16383,32767,65535,32767,32767,294911,950271,1998847,4095999,8388607,16777215,33554431]
theorem impl_AreWants.tab6:rtab .any (opsOf Tryz.f26 6)=impl_AreWants.T6:=by kernel_rfl
theorem impl_AreWants.bits6:waitsOk impl_AreWants.T6.2 impl_AreWants.B6=true:=by kernel_rfl
theorem impl_AreWants.calls(k:Nat)(U:Option Addr)(V:Nat)(A:List (S76))(A1:Option Addr)(c1:Nat)(i:List (S81))(r:Bool)(w:World)(af:Kd.C k76 w U A.length A)(ag:A.length≤V)(ah:Kd.C k81 w A1 i.length i)(ai:i.length≤c1)(h:impl_AreWants.f k A i=some r):
  Calls Tryz.prog 26 #[.slice U A.length V,.slice A1 i.length c1] w fun e w'=>e= .returned (.bool r)∧Below w.heap.size w w':=by
 have:=Tryz.underlying81;have I:=S.a af;have J:=S.a ag;clear af ag;have L:=S.a ah;have:=S.a ai;clear ah ai;have HB:=S.a (Below.refl w.heap.size w);have H:((impl_ArePaths.f k A).bind fun aa=>(if aa=true then(impl_AreWants.l0 k A i i (i.length:Int) 0)else(some false)))=some r:=h;clear h;replace H:=S.bd H;obtain⟨aa,A3,H⟩:=H;(try dsimp only at H);replace H:=S.db H;rcases H with⟨rfl,H⟩|⟨rfl,H⟩
 ·have H':=S.a H;clear H;go_enter Tryz.func26,Tryz.ntmps26;go_wp2_with (first|((with_reducible refine S.gF 68 ?_);refine S.gQ 8 Tryz.func68 #[.slice U A.length V] (impl_ArePaths.calls k _ _ A true _ ?s1 J.1 A3.1) ?_;(case s1=>exact S.cD I.1);rintro e w5 ⟨rfl,hb⟩;refine⟨_,rfl,?_⟩;replace HB:=S.sA hb;(try clear hb)));go_loopg [12] k (fun kq al w'=> ∃(b:Int),al= .int .i64 b∧Aside0 (impl_AreWants.l0 kq A i i (i.length:Int) b=some r)∧Aside0 (kq≤k)∧Aside0 (Below w.heap.size w w'))
  case atStart=>exact⟨(0),S.eA,H',⟨Nat.le_refl _⟩,⟨S.bA⟩⟩
  case round=>
   clear H';try clear c1
   try clear c4
   obtain⟨b,rfl,HA,W,HB⟩:=hrel
   cases gk with
   |zero=>exact absurd HA.1 (by simp[impl_AreWants.l0])
   |succ k1=>
    have H:=HA.1;clear HA;simp only[impl_AreWants.l0]at H;replace H:=S.dc H;rcases H with⟨H,aj⟩|⟨H,aj⟩
    ·by_cases c7:0≤b
     ·rw[if_pos c7]at H;have a0:decide (0≤b)=true:=decide_eq_true c7;clear c7
      by_cases c8:b<(i.length:Int)
      ·rw[if_pos c8]at H;have a1:decide (b<(i.length:Int))=true:=decide_eq_true c8;clear c8;replace H:=S.bd H;obtain⟨G,A9,H⟩:=H;(try dsimp only at H);replace H:=S.dc H;rcases H with⟨H,ac⟩|⟨H,ac⟩
       ·obtain rfl:=Option.some.inj H;have j:0≤(b:Int):=S.oD;have l:b<(i.length:Int):=S.oD;obtain⟨y,x,d,g⟩:=at_T81 L.1 b j l;cases x;replace d:=S.hb HB d;replace g:=S.hb HB g;replace j:=eq_true j;replace l:=eq_true l
        try go_wp2_with (first|((with_reducible refine S.gN 6 ?_);refine S.bx 6 (cs:=#[.int .i64 0,.int .i64 0]) (t:=81) ?_;intro m hg am hbox hb;have c:=S.a hbox;have E:=S.geA hg;have F:=S.geA hg;replace HB:=S.sA hb;clear hb hbox hg;obtain⟨_,_,_,_⟩:=S.c2 c.1))
        generalize hq_:((am.setCell ⟨m,0,none⟩ (.int .i64 ((rd_T81 i b).f0))).setCell ⟨m,1,none⟩ (.int .i64 ((rd_T81 i b).f1)))=an;replace c:=S.p2 hq_ c;replace HB:=S.bQ hq_;clear hq_;replace c:=S.a (blk_drew c.1);replace HB:=S.a (below_drew1 HB.1);refine S.st (n:=26) (ds:=[]) (S.bs 67108864) (fun w_ h_=>have x_:=S.e2 (S.Q h_ c.1);x_) (fun hHeld=>?_);refine with_tabW impl_AreWants.tab6 impl_AreWants.bits6 (fun HT_ HW_=>?_);generalize an.drew=a2 at c HB hHeld⊢;refine S.pS 0 17 ?_;refine S.pS 1 18 ?_;refine S.tK 2 19 (S.bs 67108871) ?_;refine S.oN 3 20 (S.bs 67108879) (fun K hK=>?_);refine S.go Tryz.func69 #[.slice U A.length V,.int .i64 ((rd_T81 i b).f0)] ?_
        with_reducible refine(impl_FindPath.calls _ _ A ((rd_T81 i b).f0) G _ ?s1 ?s2 A9.1).mono ?_
        (case s1=>exact S.cA I.1);(case s2=>exact J.1);rintro e a3 ⟨rfl,hb⟩;refine⟨_,rfl,?_⟩;replace c:=S.kb c hb;replace HB:=S.sG hb;(try clear hb);(try clear X);(try clear hk);(try clear hi);refine hK.out _ _ (S.e2 c.1) (fun hHeld=>?_);clear hK K;refine S.nm 20 ?_;refine S.pS 4 21 ?_;refine S.pS 5 22 ?_;refine S.pU 6 23 ?_;refine S.pU 7 24 ?_;refine S.pU 8 25 ?_;refine S.pU 9 26 ?_;refine S.pS 10 27 ?_;refine S.pS 11 28 ?_;refine S.pU 12 29 ?_;refine S.pU 13 30 ?_;refine S.pU 14 31 ?_;refine S.pU 15 32 ?_;refine S.pU 16 33 ?_;refine S.pU 17 34 ?_;refine S.pU 18 35 ?_;refine S.pU 19 36 ?_;refine S.pU 20 37 ?_;refine S.pU 21 38 ?_;refine S.pU 22 39 ?_;refine S.pU 23 40 ?_;refine S.pU 24 41 ?_;refine S.pS 25 42 ?_;refine done_ (done_of HT_.1 (by kernel_rfl)) ?_;try go_wp2
        go_ret;exact⟨S.eW,S.bG⟩
       ·replace H:=Option.bind_eq_some_iff.mp H;obtain⟨ak,ab,H⟩:=H;replace H:(if ak=true then(if b>0 then(if 0≤(wrap64 (b-1))then(if(wrap64 (b-1))<(i.length:Int)then(if((rd_T81 i b).f0)≤((rd_T81 i (wrap64 (b-1))).f0)then(some false)else(impl_AreWants.l0 k1 A i i (i.length:Int) (wrap64 (b+1))))else(none))else(none))else(impl_AreWants.l0 k1 A i i (i.length:Int) (wrap64 (b+1))))else(some false))=some r:=H;have R:=S.a ab;clear ab;replace H:=S.db H;rcases H with⟨rfl,H⟩|⟨rfl,H⟩
        ·by_cases O:b>0
         ·rw[if_pos O]at H;have ad:decide (0<b)=true:=decide_eq_true O;clear O;obtain⟨v,z⟩: ∃j_:Int,(wrap64 (b-1))=j_:=⟨_,rfl⟩;replace H:(if 0≤(v)then(if(v)<(i.length:Int)then(if((rd_T81 i b).f0)≤((rd_T81 i (v)).f0)then(some false)else(impl_AreWants.l0 k1 A i i (i.length:Int) (wrap64 (b+1))))else(none))else(none))=some r:=by first|(rw[z]at H;exact H)|(simp only[z]at H⊢;exact H)
          (try rw[z]at A9);(try rw[z]at R);have hji19w:(IntKind.i64.wrap (b-1))=v:=(i64_w _).trans z
          by_cases Y:0≤(v)
          ·rw[if_pos Y]at H;have ao:decide (0≤(v))=true:=decide_eq_true Y;clear Y
           by_cases Z:(v)<(i.length:Int)
           ·rw[if_pos Z]at H;have ap:decide ((v)<(i.length:Int))=true:=decide_eq_true Z;clear Z;replace H:=S.dc H;rcases H with⟨H,ae⟩|⟨H,ae⟩
            ·obtain rfl:=Option.some.inj H;have j:0≤(b:Int):=S.oD;have l:b<(i.length:Int):=S.oD;obtain⟨y,x,d,g⟩:=at_T81 L.1 b j l;cases x;replace d:=S.hb HB d;replace g:=S.hb HB g;replace j:=eq_true j;replace l:=eq_true l
             try go_wp2_with (first|((with_reducible refine S.gN 6 ?_);refine S.bx 6 (cs:=#[.int .i64 0,.int .i64 0]) (t:=81) ?_;intro m hg aq hbox hb;have c:=S.a hbox;have E:=S.geA hg;have F:=S.geA hg;replace HB:=S.sA hb;clear hb hbox hg;obtain⟨_,_,_,_⟩:=S.c2 c.1))
             generalize hq_:((aq.setCell ⟨m,0,none⟩ (.int .i64 ((rd_T81 i b).f0))).setCell ⟨m,1,none⟩ (.int .i64 ((rd_T81 i b).f1)))=ar;replace c:=S.p2 hq_ c;replace HB:=S.bQ hq_;clear hq_;replace c:=S.a (blk_drew c.1);replace HB:=S.a (below_drew1 HB.1);have B:0≤((v):Int):=S.oD;have D:(v)<(i.length:Int):=S.oD;obtain⟨M,T,o,p⟩:=at_T81 L.1 (v) B D;have s:=p;have u:=o;obtain rfl:y=M:=(by injection T);replace o:=S.hb HB o;replace p:=S.hb HB p;replace B:=eq_true B;replace D:=eq_true D;refine S.st (n:=26) (ds:=[]) (S.bs 67108864) (fun w_ h_=>have x_:=S.d2 (S.Q h_ c.1) (And.intro (S.q h_ (S.hb HB u)) (S.q h_ (S.hb HB s)));x_) (fun hHeld=>?_);refine with_tabW impl_AreWants.tab6 impl_AreWants.bits6 (fun HT_ HW_=>?_);generalize ar.drew=a4 at c HB o p hHeld⊢;refine S.pS 0 17 ?_;refine S.pS 1 18 ?_;refine S.tK 2 19 (S.bs 67108871) ?_;refine S.oN 3 20 (S.bs 67108879) (fun K hK=>?_);refine S.go Tryz.func69 #[.slice U A.length V,.int .i64 ((rd_T81 i b).f0)] ?_
             with_reducible refine(impl_FindPath.calls _ _ A ((rd_T81 i b).f0) G _ ?s1 ?s2 A9.1).mono ?_
             (case s1=>exact S.cA I.1);(case s2=>exact J.1);rintro e a5 ⟨rfl,hb⟩;refine⟨_,rfl,?_⟩;replace c:=S.kb c hb;replace HB:=S.sG hb;(try clear hb);(try clear X);(try clear hk);(try clear hi);refine hK.out _ _ (S.d2 c.1 (And.intro ((S.hb HB u:)) ((S.hb HB s:)))) (fun hHeld=>?_);clear hK K;refine S.nm 20 ?_;refine S.pS 4 21 ?_;refine S.pS 5 22 ?_;refine S.pS 6 23 ?_;refine S.tK 7 24 (S.bs 67109119) ?_;refine S.oN 8 25 (S.bs 67109375) (fun K hK=>?_);refine S.go Tryz.func66 #[.int .i64 ((rd_T81 i b).f1),.int .i64 0,.int .i64 100000] ?_
             with_reducible refine(impl_InRange.calls ((rd_T81 i b).f1) 0 100000 true _ R.1).mono ?_
             rintro e w' ⟨rfl,⟨nd,rfl⟩⟩;refine⟨_,rfl,?_⟩;refine hK.out _ _ (S.d2 c.1 (And.intro ((S.hb HB u:)) ((S.hb HB s:)))) (fun hHeld=>?_);clear hK K;refine S.nm 25 ?_;refine S.pS 9 26 ?_;refine S.pS 10 27 ?_;refine S.pS 11 28 ?_;refine S.pS 12 29 ?_;refine S.pS 13 30 ?_;refine S.pS 14 31 ?_;refine S.pS 15 32 ?_;refine S.pS 17 34 ?_;refine S.pS 18 35 ?_;refine S.pS 19 36 ?_;refine S.pS 20 37 ?_;refine S.pS 21 38 ?_;refine S.tK 16 33 (S.bs 71303167) ?_;refine S.tK 22 39 (S.bs 75497471) ?_;refine S.pS 23 40 ?_;refine S.pS 24 41 ?_;refine S.pS 25 42 ?_;refine done_ (done_of HT_.1 (by kernel_rfl)) ?_;try go_wp2
             go_ret;exact⟨by first|rfl|(simp[errW_none,errW_some]<;>rfl)|(simp only[←z];first|rfl|(simp[errW_none,errW_some]<;>rfl))|(simp[*,errW_none,errW_some]<;>rfl),S.bG⟩
            ·have H':=S.a H;clear H;have j:0≤(b:Int):=S.oD;have l:b<(i.length:Int):=S.oD;obtain⟨y,x,d,g⟩:=at_T81 L.1 b j l;cases x;replace d:=S.hb HB d;replace g:=S.hb HB g;replace j:=eq_true j;replace l:=eq_true l
             try go_wp2_with (first|((with_reducible refine S.gN 6 ?_);refine S.bx 6 (cs:=#[.int .i64 0,.int .i64 0]) (t:=81) ?_;intro m hg au hbox hb;have c:=S.a hbox;have E:=S.geA hg;have F:=S.geA hg;replace HB:=S.sA hb;clear hb hbox hg;obtain⟨_,_,_,_⟩:=S.c2 c.1))
             generalize hq_:((au.setCell ⟨m,0,none⟩ (.int .i64 ((rd_T81 i b).f0))).setCell ⟨m,1,none⟩ (.int .i64 ((rd_T81 i b).f1)))=av;replace c:=S.p2 hq_ c;replace HB:=S.bQ hq_;clear hq_;replace c:=S.a (blk_drew c.1);replace HB:=S.a (below_drew1 HB.1);have B:0≤((v):Int):=S.oD;have D:(v)<(i.length:Int):=S.oD;obtain⟨M,T,o,p⟩:=at_T81 L.1 (v) B D;have s:=p;have u:=o;obtain rfl:y=M:=(by injection T);replace o:=S.hb HB o;replace p:=S.hb HB p;replace B:=eq_true B;replace D:=eq_true D;refine S.st (n:=26) (ds:=[]) (S.bs 67108864) (fun w_ h_=>have x_:=S.d2 (S.Q h_ c.1) (And.intro (S.q h_ (S.hb HB u)) (S.q h_ (S.hb HB s)));x_) (fun hHeld=>?_);refine with_tabW impl_AreWants.tab6 impl_AreWants.bits6 (fun HT_ HW_=>?_);generalize av.drew=a6 at c HB o p hHeld⊢;refine S.pS 0 17 ?_;refine S.pS 1 18 ?_;refine S.tK 2 19 (S.bs 67108871) ?_;refine S.oN 3 20 (S.bs 67108879) (fun K hK=>?_);refine S.go Tryz.func69 #[.slice U A.length V,.int .i64 ((rd_T81 i b).f0)] ?_
             with_reducible refine(impl_FindPath.calls _ _ A ((rd_T81 i b).f0) G _ ?s1 ?s2 A9.1).mono ?_
             (case s1=>exact S.cA I.1);(case s2=>exact J.1);rintro e a7 ⟨rfl,hb⟩;refine⟨_,rfl,?_⟩;replace c:=S.kb c hb;replace HB:=S.sG hb;(try clear hb);(try clear X);(try clear hk);(try clear hi);refine hK.out _ _ (S.d2 c.1 (And.intro ((S.hb HB u:)) ((S.hb HB s:)))) (fun hHeld=>?_);clear hK K;refine S.nm 20 ?_;refine S.pS 4 21 ?_;refine S.pS 5 22 ?_;refine S.pS 6 23 ?_;refine S.tK 7 24 (S.bs 67109119) ?_;refine S.oN 8 25 (S.bs 67109375) (fun K hK=>?_);refine S.go Tryz.func66 #[.int .i64 ((rd_T81 i b).f1),.int .i64 0,.int .i64 100000] ?_
             with_reducible refine(impl_InRange.calls ((rd_T81 i b).f1) 0 100000 true _ R.1).mono ?_
             rintro e w' ⟨rfl,⟨nd,rfl⟩⟩;refine⟨_,rfl,?_⟩;refine hK.out _ _ (S.d2 c.1 (And.intro ((S.hb HB u:)) ((S.hb HB s:)))) (fun hHeld=>?_);clear hK K;refine S.nm 25 ?_;refine S.pS 9 26 ?_;refine S.pS 10 27 ?_;refine S.pS 11 28 ?_;refine S.pS 12 29 ?_;refine S.pS 13 30 ?_;refine S.pS 14 31 ?_;refine S.pS 15 32 ?_;refine S.pS 17 34 ?_;refine S.pS 18 35 ?_;refine S.pS 19 36 ?_;refine S.pS 20 37 ?_;refine S.pS 21 38 ?_;refine S.tK 16 33 (S.bs 71303167) ?_;refine S.tK 22 39 (S.bs 75497471) ?_;refine S.pS 23 40 ?_;refine S.pS 24 41 ?_;refine S.pS 25 42 ?_;refine done_ (done_of HT_.1 (by kernel_rfl)) ?_;try go_wp2
             go_roundg k1
             case measure=>have:=W.1;omega
             case rel=>exact⟨(wrap64 (b+1)),S.eA,H',⟨by have:=W.1;omega⟩,⟨S.bG⟩⟩
           ·rw[if_neg Z]at H;exact absurd H (by simp)
          ·rw[if_neg Y]at H;exact absurd H (by simp)
         ·rw[if_neg O]at H;have ad:decide (0<b)=false:=decide_eq_false O;clear O;have H':=S.a H;clear H;have j:0≤(b:Int):=S.oD;have l:b<(i.length:Int):=S.oD;obtain⟨y,x,d,g⟩:=at_T81 L.1 b j l;cases x;replace d:=S.hb HB d;replace g:=S.hb HB g;replace j:=eq_true j;replace l:=eq_true l
          try go_wp2_with (first|((with_reducible refine S.gN 6 ?_);refine S.bx 6 (cs:=#[.int .i64 0,.int .i64 0]) (t:=81) ?_;intro m hg aw hbox hb;have c:=S.a hbox;have E:=S.geA hg;have F:=S.geA hg;replace HB:=S.sA hb;clear hb hbox hg;obtain⟨_,_,_,_⟩:=S.c2 c.1))
          generalize hq_:((aw.setCell ⟨m,0,none⟩ (.int .i64 ((rd_T81 i b).f0))).setCell ⟨m,1,none⟩ (.int .i64 ((rd_T81 i b).f1)))=ax;replace c:=S.p2 hq_ c;replace HB:=S.bQ hq_;clear hq_;replace c:=S.a (blk_drew c.1);replace HB:=S.a (below_drew1 HB.1);refine S.st (n:=26) (ds:=[]) (S.bs 67108864) (fun w_ h_=>have x_:=S.e2 (S.Q h_ c.1);x_) (fun hHeld=>?_);refine with_tabW impl_AreWants.tab6 impl_AreWants.bits6 (fun HT_ HW_=>?_);generalize ax.drew=a8 at c HB hHeld⊢;refine S.pS 0 17 ?_;refine S.pS 1 18 ?_;refine S.tK 2 19 (S.bs 67108871) ?_;refine S.oN 3 20 (S.bs 67108879) (fun K hK=>?_);refine S.go Tryz.func69 #[.slice U A.length V,.int .i64 ((rd_T81 i b).f0)] ?_
          with_reducible refine(impl_FindPath.calls _ _ A ((rd_T81 i b).f0) G _ ?s1 ?s2 A9.1).mono ?_
          (case s1=>exact S.cA I.1);(case s2=>exact J.1);rintro e a9 ⟨rfl,hb⟩;refine⟨_,rfl,?_⟩;replace c:=S.kb c hb;replace HB:=S.sG hb;(try clear hb);(try clear X);(try clear hk);(try clear hi);refine hK.out _ _ (S.e2 c.1) (fun hHeld=>?_);clear hK K;refine S.nm 20 ?_;refine S.pS 4 21 ?_;refine S.pS 5 22 ?_;refine S.pS 6 23 ?_;refine S.tK 7 24 (S.bs 67109119) ?_;refine S.oN 8 25 (S.bs 67109375) (fun K hK=>?_);refine S.go Tryz.func66 #[.int .i64 ((rd_T81 i b).f1),.int .i64 0,.int .i64 100000] ?_
          with_reducible refine(impl_InRange.calls ((rd_T81 i b).f1) 0 100000 true _ R.1).mono ?_
          rintro e w' ⟨rfl,⟨nd,rfl⟩⟩;refine⟨_,rfl,?_⟩;refine hK.out _ _ (S.e2 c.1) (fun hHeld=>?_);clear hK K;refine S.nm 25 ?_;refine S.pS 9 26 ?_;refine S.pS 10 27 ?_;refine S.pS 11 28 ?_;refine S.pS 12 29 ?_;refine S.pS 13 30 ?_;refine S.pS 14 31 ?_;refine S.pU 15 32 ?_;refine S.pU 16 33 ?_;refine S.pU 17 34 ?_;refine S.pU 18 35 ?_;refine S.pU 19 36 ?_;refine S.pU 20 37 ?_;refine S.pU 21 38 ?_;refine S.pU 22 39 ?_;refine S.pU 23 40 ?_;refine S.pS 24 41 ?_;refine S.pS 25 42 ?_;refine done_ (done_of HT_.1 (by kernel_rfl)) ?_;try go_wp2
          go_roundg k1
          case measure=>have:=W.1;omega
          case rel=>exact⟨(wrap64 (b+1)),S.eA,H',⟨by have:=W.1;omega⟩,⟨S.bG⟩⟩
        ·obtain rfl:=Option.some.inj H;have j:0≤(b:Int):=S.oD;have l:b<(i.length:Int):=S.oD;obtain⟨y,x,d,g⟩:=at_T81 L.1 b j l;cases x;replace d:=S.hb HB d;replace g:=S.hb HB g;replace j:=eq_true j;replace l:=eq_true l
         try go_wp2_with (first|((with_reducible refine S.gN 6 ?_);refine S.bx 6 (cs:=#[.int .i64 0,.int .i64 0]) (t:=81) ?_;intro m hg ay hbox hb;have c:=S.a hbox;have E:=S.geA hg;have F:=S.geA hg;replace HB:=S.sA hb;clear hb hbox hg;obtain⟨_,_,_,_⟩:=S.c2 c.1))
         generalize hq_:((ay.setCell ⟨m,0,none⟩ (.int .i64 ((rd_T81 i b).f0))).setCell ⟨m,1,none⟩ (.int .i64 ((rd_T81 i b).f1)))=az;replace c:=S.p2 hq_ c;replace HB:=S.bQ hq_;clear hq_;replace c:=S.a (blk_drew c.1);replace HB:=S.a (below_drew1 HB.1);refine S.st (n:=26) (ds:=[]) (S.bs 67108864) (fun w_ h_=>have x_:=S.e2 (S.Q h_ c.1);x_) (fun hHeld=>?_);refine with_tabW impl_AreWants.tab6 impl_AreWants.bits6 (fun HT_ HW_=>?_);generalize az.drew=aA at c HB hHeld⊢;refine S.pS 0 17 ?_;refine S.pS 1 18 ?_;refine S.tK 2 19 (S.bs 67108871) ?_;refine S.oN 3 20 (S.bs 67108879) (fun K hK=>?_);refine S.go Tryz.func69 #[.slice U A.length V,.int .i64 ((rd_T81 i b).f0)] ?_
         with_reducible refine(impl_FindPath.calls _ _ A ((rd_T81 i b).f0) G _ ?s1 ?s2 A9.1).mono ?_
         (case s1=>exact S.cA I.1);(case s2=>exact J.1);rintro e aB ⟨rfl,hb⟩;refine⟨_,rfl,?_⟩;replace c:=S.kb c hb;replace HB:=S.sG hb;(try clear hb);(try clear X);(try clear hk);(try clear hi);refine hK.out _ _ (S.e2 c.1) (fun hHeld=>?_);clear hK K;refine S.nm 20 ?_;refine S.pS 4 21 ?_;refine S.pS 5 22 ?_;refine S.pS 6 23 ?_;refine S.tK 7 24 (S.bs 67109119) ?_;refine S.oN 8 25 (S.bs 67109375) (fun K hK=>?_);refine S.go Tryz.func66 #[.int .i64 ((rd_T81 i b).f1),.int .i64 0,.int .i64 100000] ?_
         with_reducible refine(impl_InRange.calls ((rd_T81 i b).f1) 0 100000 false _ R.1).mono ?_
         rintro e w' ⟨rfl,⟨nd,rfl⟩⟩;refine⟨_,rfl,?_⟩;refine hK.out _ _ (S.e2 c.1) (fun hHeld=>?_);clear hK K;refine S.nm 25 ?_;refine S.pS 9 26 ?_;refine S.pS 10 27 ?_;refine S.pS 11 28 ?_;refine S.pU 12 29 ?_;refine S.pU 13 30 ?_;refine S.pU 14 31 ?_;refine S.pU 15 32 ?_;refine S.pU 16 33 ?_;refine S.pU 17 34 ?_;refine S.pU 18 35 ?_;refine S.pU 19 36 ?_;refine S.pU 20 37 ?_;refine S.pU 21 38 ?_;refine S.pU 22 39 ?_;refine S.pU 23 40 ?_;refine S.pU 24 41 ?_;refine S.pS 25 42 ?_;refine done_ (done_of HT_.1 (by kernel_rfl)) ?_;try go_wp2
         go_ret;exact⟨S.eW,S.bG⟩
      ·rw[if_neg c8]at H;exact absurd H (by simp)
     ·rw[if_neg c7]at H;exact absurd H (by simp)
    ·obtain rfl:=Option.some.inj H;go_wp2;go_ret;exact⟨S.eW,S.bA⟩
 ·obtain rfl:=Option.some.inj H;go_enter Tryz.func26,Tryz.ntmps26;go_wp2_with (first|((with_reducible refine S.gF 68 ?_);refine S.gQ 8 Tryz.func68 #[.slice U A.length V] (impl_ArePaths.calls k _ _ A false _ ?s1 J.1 A3.1) ?_;(case s1=>exact S.cD I.1);rintro e aC ⟨rfl,hb⟩;refine⟨_,rfl,?_⟩;replace HB:=S.sA hb;(try clear hb)));go_ret;exact⟨S.eW,S.bA⟩
attribute [local go_sem high] eqA34
def impl_isBus.f(b:List (S76))(c:Int):Option (Bool):=(impl_FindPath.f b c).bind fun a=>(if a≥0 then(if 0≤a then(if a<(b.length:Int)then(some (((rd_T76 b a).f1)==3))else(none))else(none))else(some false))
theorem impl_isBus.calls(v:Option Addr)(x:Nat)(j:List (S76))(m:Int)(r:Bool)(w:World)(p:Kd.C k76 w v j.length j)(q:j.length≤x)(h:impl_isBus.f j m=some r):
  Calls Tryz.prog 70 #[.slice v j.length x,.int .i64 m] w fun e w'=>e= .returned (.bool r)∧Below w.heap.size w w':=by
 have n:=S.a p;have s:=S.a q;clear p q;have HB:=S.a (Below.refl w.heap.size w);have H:((impl_FindPath.f j m).bind fun b=>(if b≥0 then(if 0≤b then(if b<(j.length:Int)then(some (((rd_T76 j b).f1)==3))else(none))else(none))else(some false)))=some r:=h;clear h;replace H:=S.bd H;obtain⟨b,A,H⟩:=H;(try dsimp only at H)
 by_cases o:b≥0
 ·rw[if_pos o]at H;have t:decide (0≤b)=true:=decide_eq_true o;clear o
  by_cases y:0≤b
  ·rw[if_pos y]at H;have B:decide (0≤b)=true:=decide_eq_true y;clear y
   by_cases z:b<(j.length:Int)
   ·rw[if_pos z]at H;have D:decide (b<(j.length:Int))=true:=decide_eq_true z;clear z;obtain rfl:=Option.some.inj H;go_enter Tryz.func70,Tryz.ntmps70;go_wp2_with (first|((with_reducible refine S.gF 69 ?_);refine S.gQ 8 Tryz.func69 #[.slice v j.length x,.int .i64 m] (impl_FindPath.calls _ _ j m b _ ?s1 s.1 A.1) ?_;(case s1=>exact S.cD n.1);rintro e E ⟨rfl,hb⟩;refine⟨_,rfl,?_⟩;replace HB:=S.sA hb;(try clear hb);have k:0≤(b:Int):=S.oD;have l:b<(j.length:Int):=S.oD;obtain⟨_,u,c,d,g,i⟩:=at_T76 n.1 b k l;cases u;replace c:=S.hb HB c;replace d:=S.hb HB d;replace g:=S.hb HB g;replace i:=S.hb HB i;replace k:=eq_true k;replace l:=eq_true l));go_ret;exact⟨S.eW,S.bA⟩
   ·rw[if_neg z]at H;exact absurd H (by simp)
  ·rw[if_neg y]at H;exact absurd H (by simp)
 ·rw[if_neg o]at H;have t:decide (0≤b)=false:=decide_eq_false o;clear o;obtain rfl:=Option.some.inj H;go_enter Tryz.func70,Tryz.ntmps70;go_wp2_with (first|((with_reducible refine S.gF 69 ?_);refine S.gQ 8 Tryz.func69 #[.slice v j.length x,.int .i64 m] (impl_FindPath.calls _ _ j m b _ ?s1 s.1 A.1) ?_;(case s1=>exact S.cD n.1);rintro e F ⟨rfl,hb⟩;refine⟨_,rfl,?_⟩;replace HB:=S.sA hb;(try clear hb)));go_ret;exact⟨S.eW,S.bA⟩
def impl_IsPrio.f(k:Nat)(g:List (S76))(a:Int)(b:Int):Option (Bool):=(impl_ArePaths.f k g).bind fun c=>(if c=true then(if(a==0&&(b==0))=true then(some true)else((impl_isBus.f g a).bind fun d=>(if d=true then((impl_InRange.f b 1 20).bind fun e=>(some e))else(some false))))else(some false))
theorem impl_IsPrio.calls(k:Nat)(u:Option Addr)(v:Nat)(g:List (S76))(c:Int)(d:Int)(r:Bool)(w:World)(x:Kd.C k76 w u g.length g)(y:g.length≤v)(h:impl_IsPrio.f k g c d=some r):
  Calls Tryz.prog 27 #[.slice u g.length v,.agg #[.int .i64 c,.int .i64 d]] w fun e w'=>e= .returned (.bool r)∧Below w.heap.size w w':=by
 have:=Tryz.underlying34;have m:=S.a x;have n:=S.a y;clear x y;have HB:=S.a (Below.refl w.heap.size w);have H:((impl_ArePaths.f k g).bind fun q=>(if q=true then(if(c==0&&(d==0))=true then(some true)else((impl_isBus.f g c).bind fun s=>(if s=true then((impl_InRange.f d 1 20).bind fun o=>(some o))else(some false))))else(some false)))=some r:=h;clear h;replace H:=S.bd H;obtain⟨q,D,H⟩:=H;(try dsimp only at H);replace H:=S.db H;rcases H with⟨rfl,H⟩|⟨rfl,H⟩
 ·by_cases p:(c==0&&(d==0))=true
  ·rw[if_pos p]at H;have z:(c==0&&(d==0))=true:=p;(try(have A:decide (c=0&&(d==0))=true:=by simpa using p));(try(have B:(c==0&&(d==0))=true:=by simpa using p));clear p;obtain rfl:=Option.some.inj H;go_enter Tryz.func27,Tryz.ntmps27;go_wp2_with (first|((with_reducible refine S.gN 3 ?_);refine S.bx 3 (cs:=#[.int .i64 c,.int .i64 d]) (t:=34) ?_;intro i hg V hbox hb;have b:=S.a hbox;have j:=S.geA hg;have l:=S.geA hg;replace HB:=S.sA hb;clear hb hbox hg)|((with_reducible refine S.gF 68 ?_);refine S.gQ 6 Tryz.func68 #[.slice u g.length v] (impl_ArePaths.calls k _ _ g true _ ?s1 n.1 D.1) ?_;(case s1=>exact S.cA m.1);rintro e W ⟨rfl,hb⟩;refine⟨_,rfl,?_⟩;replace b:=S.kb b hb;replace HB:=S.sG hb;(try clear hb);obtain⟨_,_,_,_⟩:=S.c2 b.1));go_ret;exact⟨S.eW,S.bG⟩
  ·rw[if_neg p]at H;have z:(c==0&&(d==0))=false:=by simpa using p
   (try(have A:decide (c=0&&(d==0))=false:=by simpa using p));(try(have B:(c==0&&(d==0))=false:=by simpa using p));(try(have F: ¬(c=0&&(d==0)):=by simpa using p));clear p;replace H:=S.bd H;obtain⟨s,G,H⟩:=H;(try dsimp only at H);replace H:=S.db H;rcases H with⟨rfl,H⟩|⟨rfl,H⟩
   ·replace H:=S.bd H;obtain⟨o,E,H⟩:=H;(try dsimp only at H);obtain rfl:=Option.some.inj H;go_enter Tryz.func27,Tryz.ntmps27;go_wp2_with (first|((with_reducible refine S.gN 3 ?_);refine S.bx 3 (cs:=#[.int .i64 c,.int .i64 d]) (t:=34) ?_;intro i hg I hbox hb;have b:=S.a hbox;have j:=S.geA hg;have l:=S.geA hg;replace HB:=S.sA hb;clear hb hbox hg)|((with_reducible refine S.gF 68 ?_);refine S.gQ 6 Tryz.func68 #[.slice u g.length v] (impl_ArePaths.calls k _ _ g true _ ?s1 n.1 D.1) ?_;(case s1=>exact S.cA m.1);rintro e J ⟨rfl,hb⟩;refine⟨_,rfl,?_⟩;replace b:=S.kb b hb;replace HB:=S.sG hb;(try clear hb);obtain⟨_,_,_,_⟩:=S.c2 b.1)|(go_at_call 70;(with_reducible refine(impl_isBus.calls _ _ g c true _ ?s1 n.1 G.1).mono ?_);(case s1=>exact S.cA m.1);rintro e L ⟨rfl,hb⟩;replace b:=S.kb b hb;replace HB:=S.sG hb;(try clear hb);obtain⟨_,_,_,_⟩:=S.c2 b.1)|(go_at_call 66;(with_reducible refine(impl_InRange.calls d 1 20 o _ E.1).mono ?_);rintro e w' ⟨rfl,⟨nd,rfl⟩⟩));go_ret;exact⟨S.eW,S.bG⟩
   ·obtain rfl:=Option.some.inj H;go_enter Tryz.func27,Tryz.ntmps27;go_wp2_with (first|((with_reducible refine S.gN 3 ?_);refine S.bx 3 (cs:=#[.int .i64 c,.int .i64 d]) (t:=34) ?_;intro i hg M hbox hb;have b:=S.a hbox;have j:=S.geA hg;have l:=S.geA hg;replace HB:=S.sA hb;clear hb hbox hg)|((with_reducible refine S.gF 68 ?_);refine S.gQ 6 Tryz.func68 #[.slice u g.length v] (impl_ArePaths.calls k _ _ g true _ ?s1 n.1 D.1) ?_;(case s1=>exact S.cA m.1);rintro e O ⟨rfl,hb⟩;refine⟨_,rfl,?_⟩;replace b:=S.kb b hb;replace HB:=S.sG hb;(try clear hb);obtain⟨_,_,_,_⟩:=S.c2 b.1)|(go_at_call 70;(with_reducible refine(impl_isBus.calls _ _ g c false _ ?s1 n.1 G.1).mono ?_);(case s1=>exact S.cA m.1);rintro e R ⟨rfl,hb⟩;replace b:=S.kb b hb;replace HB:=S.sG hb;(try clear hb)));go_ret;exact⟨S.eW,S.bG⟩
 ·obtain rfl:=Option.some.inj H;go_enter Tryz.func27,Tryz.ntmps27;go_wp2_with (first|((with_reducible refine S.gN 3 ?_);refine S.bx 3 (cs:=#[.int .i64 c,.int .i64 d]) (t:=34) ?_;intro i hg T hbox hb;have b:=S.a hbox;have j:=S.geA hg;have l:=S.geA hg;replace HB:=S.sA hb;clear hb hbox hg)|((with_reducible refine S.gF 68 ?_);refine S.gQ 6 Tryz.func68 #[.slice u g.length v] (impl_ArePaths.calls k _ _ g false _ ?s1 n.1 D.1) ?_;(case s1=>exact S.cA m.1);rintro e U ⟨rfl,hb⟩;refine⟨_,rfl,?_⟩;replace b:=S.kb b hb;replace HB:=S.sG hb;(try clear hb)));go_ret;exact⟨S.eW,S.bG⟩
def impl_LeastGreen.l0:Nat→List (S76)→List Int→Int→Int→Option (Int)
 |0,_,_,_,_=>none
 |k+1,c,d,e,b=>if b<e then(if 0≤b then(if b<(d.length:Int)then((impl_FindPath.f c (rd d b)).bind fun a=>(if a≥0 then(if 0≤a then(if a<(c.length:Int)then(if((rd_T76 c a).f1)=2 then(some 7)else(impl_LeastGreen.l0 k c d e (wrap64 (b+1))))else(none))else(none))else(impl_LeastGreen.l0 k c d e (wrap64 (b+1)))))else(none))else(none))else(some 5)
def impl_LeastGreen.f(k:Nat)(b:List (S76))(a:List Int):Option (Int):=impl_LeastGreen.l0 k b a (a.length:Int) 0
theorem impl_LeastGreen.calls(k:Nat)(I:Option Addr)(J:Nat)(q:List (S76))(A1:Option Addr)(Y:Nat)(s:List Int)(r:Int)(w:World)(L:Kd.C k76 w I q.length q)(M:q.length≤J)(N:Kd.C (Kd.int .i64) w A1 s.length s)(O:s.length≤Y)(h:impl_LeastGreen.f k q s=some r):
  Calls Tryz.prog 107 #[.slice I q.length J,.slice A1 s.length Y] w fun e w'=>e= .returned (.int .i64 r)∧Below w.heap.size w w':=by
 have v:=S.a L;have A:=S.a M;clear L M;have B:=S.a N;have:=S.a O;clear N O;have HB:=S.a (Below.refl w.heap.size w);have H:(impl_LeastGreen.l0 k q s (s.length:Int) 0)=some r:=h;clear h;have H':=S.a H;clear H;go_enter Tryz.func107,Tryz.ntmps107;go_wp2;go_loopg [10] k (fun kq Z w'=> ∃(b:Int),Z= .int .i64 b∧Aside0 (impl_LeastGreen.l0 kq q s (s.length:Int) b=some r)∧Aside0 (kq≤k)∧Aside0 (Below w.heap.size w w'))
 case atStart=>exact⟨(0),S.eA,H',⟨Nat.le_refl _⟩,⟨S.bA⟩⟩
 case round=>
  clear H';try clear Y
  obtain⟨b,rfl,HA,z,HB⟩:=hrel
  cases gk with
  |zero=>exact absurd HA.1 (by simp[impl_LeastGreen.l0])
  |succ k1=>
   have H:=HA.1;clear HA;simp only[impl_LeastGreen.l0]at H;replace H:=S.dc H;rcases H with⟨H,R⟩|⟨H,R⟩
   ·by_cases U:0≤b
    ·rw[if_pos U]at H;have aa:decide (0≤b)=true:=decide_eq_true U;clear U
     by_cases V:b<(s.length:Int)
     ·rw[if_pos V]at H;have ab:decide (b<(s.length:Int))=true:=decide_eq_true V;clear V;replace H:=S.bd H;obtain⟨c,A6,H⟩:=H;(try dsimp only at H)
      by_cases G:c≥0
      ·rw[if_pos G]at H;have T:decide (0≤c)=true:=decide_eq_true G;clear G
       by_cases W:0≤c
       ·rw[if_pos W]at H;have ac:decide (0≤c)=true:=decide_eq_true W;clear W
        by_cases X:c<(q.length:Int)
        ·rw[if_pos X]at H;have ad:decide (c<(q.length:Int))=true:=decide_eq_true X;clear X
         by_cases u:((rd_T76 q c).f1)=2
         ·rw[if_pos u]at H;have D:(((rd_T76 q c).f1)==2)=true:=beq_iff_eq.mpr u;have E:(((rd_T76 q c).f1) !=2)=false:=bne_eq_false_iff_eq.mpr u;clear u;obtain rfl:=Option.some.inj H;have g:0≤(b:Int):=S.oD;have i:b<(s.length:Int):=S.oD;obtain⟨x,t,d⟩:=Kd.at_int B.1 b g i;cases t;replace d:=S.hb HB d;replace g:=eq_true g;replace i:=eq_true i;go_wp2_with (first|((with_reducible refine S.gF 69 ?_);refine S.gQ 16 Tryz.func69 #[.slice I q.length J,.int .i64 (rd s b)] (impl_FindPath.calls _ _ q (rd s b) c _ ?s1 A.1 A6.1) ?_;(case s1=>exact S.cA v.1);rintro e ae ⟨rfl,hb⟩;refine⟨_,rfl,?_⟩;replace HB:=S.sA hb;(try clear hb);have o:0≤(c:Int):=S.oD;have p:c<(q.length:Int):=S.oD;obtain⟨F,y,j,l,m,n⟩:=at_T76 v.1 c o p;cases y;replace j:=S.hb HB j;replace l:=S.hb HB l;replace m:=S.hb HB m;replace n:=S.hb HB n;replace o:=eq_true o;replace p:=eq_true p));go_ret;exact⟨S.eW,S.bA⟩
         ·rw[if_neg u]at H;have D:(((rd_T76 q c).f1)==2)=false:=beq_eq_false_iff_ne.mpr u;have E:(((rd_T76 q c).f1) !=2)=true:=bne_iff_ne.mpr u;have H':=S.a H;clear H;have g:0≤(b:Int):=S.oD;have i:b<(s.length:Int):=S.oD;obtain⟨x,t,d⟩:=Kd.at_int B.1 b g i;cases t;replace d:=S.hb HB d;replace g:=eq_true g;replace i:=eq_true i;go_wp2_with (first|((with_reducible refine S.gF 69 ?_);refine S.gQ 16 Tryz.func69 #[.slice I q.length J,.int .i64 (rd s b)] (impl_FindPath.calls _ _ q (rd s b) c _ ?s1 A.1 A6.1) ?_;(case s1=>exact S.cA v.1);rintro e af ⟨rfl,hb⟩;refine⟨_,rfl,?_⟩;replace HB:=S.sA hb;(try clear hb);have o:0≤(c:Int):=S.oD;have p:c<(q.length:Int):=S.oD;obtain⟨F,y,j,l,m,n⟩:=at_T76 v.1 c o p;cases y;replace j:=S.hb HB j;replace l:=S.hb HB l;replace m:=S.hb HB m;replace n:=S.hb HB n;replace o:=eq_true o;replace p:=eq_true p));go_roundg k1
          case measure=>have:=z.1;omega
          case rel=>exact⟨(wrap64 (b+1)),S.eA,H',⟨by have:=z.1;omega⟩,⟨S.bA⟩⟩
        ·rw[if_neg X]at H;exact absurd H (by simp)
       ·rw[if_neg W]at H;exact absurd H (by simp)
      ·rw[if_neg G]at H;have T:decide (0≤c)=false:=decide_eq_false G;clear G;have H':=S.a H;clear H;have g:0≤(b:Int):=S.oD;have i:b<(s.length:Int):=S.oD;obtain⟨x,t,d⟩:=Kd.at_int B.1 b g i;cases t;replace d:=S.hb HB d;replace g:=eq_true g;replace i:=eq_true i;go_wp2_with (first|((with_reducible refine S.gF 69 ?_);refine S.gQ 16 Tryz.func69 #[.slice I q.length J,.int .i64 (rd s b)] (impl_FindPath.calls _ _ q (rd s b) c _ ?s1 A.1 A6.1) ?_;(case s1=>exact S.cA v.1);rintro e ag ⟨rfl,hb⟩;refine⟨_,rfl,?_⟩;replace HB:=S.sA hb;(try clear hb)));go_roundg k1
       case measure=>have:=z.1;omega
       case rel=>exact⟨(wrap64 (b+1)),S.eA,H',⟨by have:=z.1;omega⟩,⟨S.bA⟩⟩
     ·rw[if_neg V]at H;exact absurd H (by simp)
    ·rw[if_neg U]at H;exact absurd H (by simp)
   ·obtain rfl:=Option.some.inj H;go_wp2;go_ret;exact⟨S.eW,S.bA⟩
def impl_CanEnd.f(k:Nat)(h:List (S76))(a:List Int)(b:Int)(c:List Int)(d:Int):Option (Bool):=(impl_IsControl.f k h a b c d).bind fun e=>(if e=true then(if(c.length:Int)=0 then((impl_LeastGreen.f k h a).bind fun g=>(some (decide (b≥g))))else(some false))else(some false))
def impl_CanEnd.T1:Bool×List (List Nat×List Nat):=(true,[([],[]),([],[]),([0,1],[0,1]),([2,2],[2]),([3],[3]),([4,3],[3,4]),([5,3],[3,5]),([6,3],[3,6]),([3,7],[3,7]),([8,3],[8]),([9],[9]),([10,9],[9,10]),([9],[9]),([9],[9]),([13,9],[9,13]),([12,14,9,9],[9,12,14]),([11,15,9],[9,11,15]),([9,16],[9,16]),([17,15,0,1,2,3,4,5,6,7,8,9,10,11,12,13,14,15,16,17],[17])])
def impl_CanEnd.B1:List Nat:=[0,0,3,7,15,31,63,127,255,511,1023,2047,1023,1023,9215,29695,65535,131071,262143]
theorem impl_CanEnd.tab1:rtab .any (opsOf Tryz.f73 1)=impl_CanEnd.T1:=by kernel_rfl
theorem impl_CanEnd.bits1:waitsOk impl_CanEnd.T1.2 impl_CanEnd.B1=true:=by kernel_rfl
theorem impl_CanEnd.calls(k:Nat)(O:Option Addr)(R:Nat)(s:List (S76))(j:Option Addr)(l:Nat)(d:List Int)(g:Int)(m:Option Addr)(o:Nat)(c:List Int)(i:Int)(r:Bool)(w:World)(T:Kd.C k76 w O s.length s)(U:s.length≤R)(x:Kd.C (Kd.int .i64) w j d.length d)(y:d.length≤l)(z:Kd.C (Kd.int .i64) w m c.length c)(A:c.length≤o)(h:impl_CanEnd.f k s d g c i=some r):
  Calls Tryz.prog 73 #[.slice O s.length R,.agg #[.slice j d.length l,.int .i64 g,.slice m c.length o,.int .i64 i]] w fun e w'=>e= .returned (.bool r)∧Below w.heap.size w w':=by
 have:=Tryz.underlying32;have G:=S.a T;have I:=S.a U;clear T U;have p:=S.a x;have q:=S.a y;clear x y;have u:=S.a z;have v:=S.a A;clear z A;have HB:=S.a (Below.refl w.heap.size w);have H:((impl_IsControl.f k s d g c i).bind fun J=>(if J=true then(if(c.length:Int)=0 then((impl_LeastGreen.f k s d).bind fun B=>(some (decide (g≥B))))else(some false))else(some false)))=some r:=h;clear h;replace H:=S.bd H;obtain⟨J,X,H⟩:=H;(try dsimp only at H);replace H:=S.db H;rcases H with⟨rfl,H⟩|⟨rfl,H⟩
 ·by_cases L:(c.length:Int)=0
  ·rw[if_pos L]at H;have V:((c.length:Int)==0)=true:=beq_iff_eq.mpr L;have W:((c.length:Int) !=0)=false:=bne_eq_false_iff_eq.mpr L;clear L;replace H:=S.bd H;obtain⟨B,A6,H⟩:=H;(try dsimp only at H);obtain rfl:=Option.some.inj H;go_enter Tryz.func73,Tryz.ntmps73
   try go_wp2_with (first|((with_reducible refine S.gN 3 ?_);(try(refine gate_guard (by rfl) ?_;dsimp only));refine S.bx 3 (cs:=#[.slice j d.length l,.int .i64 g,.slice m c.length o,.int .i64 i]) (t:=32) ?_;intro D hg w7 hbox hb;have b:=S.a hbox;have E:=S.geA hg;have F:=S.geA hg;replace HB:=S.sA hb;clear hb hbox hg))
   replace b:=S.a (blk_drew b.1);replace HB:=S.a (below_drew1 HB.1);refine S.st (n:=19) (ds:=[]) (S.bs 524288) (fun w_ h_=>have x_:=S.e4 (S.Q h_ b.1);x_) (fun hHeld=>?_);refine with_tabW impl_CanEnd.tab1 impl_CanEnd.bits1 (fun HT_ HW_=>?_);generalize w7.drew=w8 at b HB hHeld⊢;refine S.pS 0 5 ?_;refine S.tK 1 6 (S.bs 524291) ?_;refine S.oN 2 7 (S.bs 524295) (fun K hK=>?_);refine S.go Tryz.func25 #[.slice O s.length R,.agg #[.slice j d.length l,.int .i64 g,.slice m c.length o,.int .i64 i]] ?_
   with_reducible refine(impl_IsControl.calls k _ _ s _ _ d g _ _ c i true _ ?s1 ?s2 ?s3 ?s4 ?s5 ?s6 X.1).mono ?_
   (case s1=>exact S.cA G.1);(case s2=>exact I.1);(case s3=>exact S.cA p.1);(case s4=>exact q.1);(case s5=>exact S.cA u.1);(case s6=>exact v.1);rintro e w9 ⟨rfl,hb⟩;refine⟨_,rfl,?_⟩;replace b:=S.kb b hb;replace HB:=S.sG hb;(try clear hb);(try clear M);(try clear hk);(try clear hi);refine hK.out _ _ (S.e4 b.1) (fun hHeld=>?_);clear hK K;refine S.nm 7 ?_;refine S.pS 3 8 ?_;refine S.pS 4 9 ?_;refine S.tK 5 10 (S.bs 524351) ?_;refine S.pS 6 11 ?_;refine S.pS 7 12 ?_;refine S.pS 8 13 ?_;refine S.pS 9 14 ?_;refine S.pS 10 15 ?_;refine S.pS 12 17 ?_;refine S.pS 13 18 ?_;refine S.tK 11 16 (S.bs 540671) ?_;refine S.tK 14 19 (S.bs 557055) ?_;refine S.oN 15 20 (S.bs 589823) (fun K hK=>?_);refine S.go Tryz.func107 #[.slice O s.length R,.slice j d.length l] ?_
   with_reducible refine(impl_LeastGreen.calls k _ _ s _ _ d B _ ?s1 ?s2 ?s3 ?s4 A6.1).mono ?_
   (case s1=>exact S.cA G.1);(case s2=>exact I.1);(case s3=>exact S.cA p.1);(case s4=>exact q.1);rintro e ab ⟨rfl,hb⟩;refine⟨_,rfl,?_⟩;replace b:=S.kb b hb;replace HB:=S.sG hb;(try clear hb);(try clear M);(try clear hk);(try clear hi);refine hK.out _ _ (S.e4 b.1) (fun hHeld=>?_);clear hK K;refine S.nm 20 ?_;refine S.pS 16 21 ?_;refine S.pS 17 22 ?_;refine S.pS 18 4 ?_;refine done_ (done_of HT_.1 (by kernel_rfl)) ?_;try go_wp2
   go_ret;exact⟨S.eW,S.bG⟩
  ·rw[if_neg L]at H;have V:((c.length:Int)==0)=false:=beq_eq_false_iff_ne.mpr L;have W:((c.length:Int) !=0)=true:=bne_iff_ne.mpr L;have aa: ¬(c=[]):=fun h_=>L (by rw[h_];rfl)
   obtain rfl:=Option.some.inj H;go_enter Tryz.func73,Tryz.ntmps73
   try go_wp2_with (first|((with_reducible refine S.gN 3 ?_);(try(refine gate_guard (by rfl) ?_;dsimp only));refine S.bx 3 (cs:=#[.slice j d.length l,.int .i64 g,.slice m c.length o,.int .i64 i]) (t:=32) ?_;intro D hg Y hbox hb;have b:=S.a hbox;have E:=S.geA hg;have F:=S.geA hg;replace HB:=S.sA hb;clear hb hbox hg))
   replace b:=S.a (blk_drew b.1);replace HB:=S.a (below_drew1 HB.1);refine S.st (n:=19) (ds:=[]) (S.bs 524288) (fun w_ h_=>have x_:=S.e4 (S.Q h_ b.1);x_) (fun hHeld=>?_);refine with_tabW impl_CanEnd.tab1 impl_CanEnd.bits1 (fun HT_ HW_=>?_);generalize Y.drew=ac at b HB hHeld⊢;refine S.pS 0 5 ?_;refine S.tK 1 6 (S.bs 524291) ?_;refine S.oN 2 7 (S.bs 524295) (fun K hK=>?_);refine S.go Tryz.func25 #[.slice O s.length R,.agg #[.slice j d.length l,.int .i64 g,.slice m c.length o,.int .i64 i]] ?_
   with_reducible refine(impl_IsControl.calls k _ _ s _ _ d g _ _ c i true _ ?s1 ?s2 ?s3 ?s4 ?s5 ?s6 X.1).mono ?_
   (case s1=>exact S.cA G.1);(case s2=>exact I.1);(case s3=>exact S.cA p.1);(case s4=>exact q.1);(case s5=>exact S.cA u.1);(case s6=>exact v.1);rintro e ad ⟨rfl,hb⟩;refine⟨_,rfl,?_⟩;replace b:=S.kb b hb;replace HB:=S.sG hb;(try clear hb);(try clear M);(try clear hk);(try clear hi);refine hK.out _ _ (S.e4 b.1) (fun hHeld=>?_);clear hK K;refine S.nm 7 ?_;refine S.pS 3 8 ?_;refine S.pS 4 9 ?_;refine S.tK 5 10 (S.bs 524351) ?_;refine S.pS 6 11 ?_;refine S.pS 7 12 ?_;refine S.pS 8 13 ?_;refine S.pS 9 14 ?_;refine S.pU 10 15 ?_;refine S.pU 11 16 ?_;refine S.pU 12 17 ?_;refine S.pU 13 18 ?_;refine S.pU 14 19 ?_;refine S.pU 15 20 ?_;refine S.pU 16 21 ?_;refine S.pS 17 22 ?_;refine S.pS 18 4 ?_;refine done_ (done_of HT_.1 (by kernel_rfl)) ?_;try go_wp2
   go_ret;exact⟨S.eW,S.bG⟩
 ·obtain rfl:=Option.some.inj H;go_enter Tryz.func73,Tryz.ntmps73
  try go_wp2_with (first|((with_reducible refine S.gN 3 ?_);(try(refine gate_guard (by rfl) ?_;dsimp only));refine S.bx 3 (cs:=#[.slice j d.length l,.int .i64 g,.slice m c.length o,.int .i64 i]) (t:=32) ?_;intro D hg Z hbox hb;have b:=S.a hbox;have E:=S.geA hg;have F:=S.geA hg;replace HB:=S.sA hb;clear hb hbox hg))
  replace b:=S.a (blk_drew b.1);replace HB:=S.a (below_drew1 HB.1);refine S.st (n:=19) (ds:=[]) (S.bs 524288) (fun w_ h_=>have x_:=S.e4 (S.Q h_ b.1);x_) (fun hHeld=>?_);refine with_tabW impl_CanEnd.tab1 impl_CanEnd.bits1 (fun HT_ HW_=>?_);generalize Z.drew=ae at b HB hHeld⊢;refine S.pS 0 5 ?_;refine S.tK 1 6 (S.bs 524291) ?_;refine S.oN 2 7 (S.bs 524295) (fun K hK=>?_);refine S.go Tryz.func25 #[.slice O s.length R,.agg #[.slice j d.length l,.int .i64 g,.slice m c.length o,.int .i64 i]] ?_
  with_reducible refine(impl_IsControl.calls k _ _ s _ _ d g _ _ c i false _ ?s1 ?s2 ?s3 ?s4 ?s5 ?s6 X.1).mono ?_
  (case s1=>exact S.cA G.1);(case s2=>exact I.1);(case s3=>exact S.cA p.1);(case s4=>exact q.1);(case s5=>exact S.cA u.1);(case s6=>exact v.1);rintro e af ⟨rfl,hb⟩;refine⟨_,rfl,?_⟩;replace b:=S.kb b hb;replace HB:=S.sG hb;(try clear hb);(try clear M);(try clear hk);(try clear hi);refine hK.out _ _ (S.e4 b.1) (fun hHeld=>?_);clear hK K;refine S.nm 7 ?_;refine S.pS 3 8 ?_;refine S.pU 4 9 ?_;refine S.pU 5 10 ?_;refine S.pU 6 11 ?_;refine S.pU 7 12 ?_;refine S.pS 8 13 ?_;refine S.pS 9 14 ?_;refine S.pU 10 15 ?_;refine S.pU 11 16 ?_;refine S.pU 12 17 ?_;refine S.pU 13 18 ?_;refine S.pU 14 19 ?_;refine S.pU 15 20 ?_;refine S.pU 16 21 ?_;refine S.pS 17 22 ?_;refine S.pS 18 4 ?_;refine done_ (done_of HT_.1 (by kernel_rfl)) ?_;try go_wp2
  go_ret;exact⟨S.eW,S.bG⟩
end Go.Proofs.YtopchlafmfgpnaaGreat.PFnPrio

