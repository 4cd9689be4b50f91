/- Printed by a program: what the Go functions compute (.f), and that the calls come to just that (.calls). -/
import Derived.Test.YtopchlafmfgpnaaGreatPFnExactStepPriox0
import Derived.Test.YtopchlafmfgpnaaGreatSq
namespace Go.Proofs.YtopchlafmfgpnaaGreat.PFnExactStepPrio
open Go.RowKit Go.Proofs.YtopchlafmfgpnaaGreatW.PrintWords Go.Proofs.YtopchlafmfgpnaaGreatW.PrintLast Go.Proofs.YtopchlafmfgpnaaGreatW.PrintMore
attribute [local go_sem] max2_int min2_int max_two min_two max_three min_three max_four min_four
set_option linter.unusedVariables false
set_option linter.unusedSimpArgs false
set_option maxHeartbeats 8000000
set_option maxRecDepth 100000
mutual
def spec_IsTogether.l0:Nat→List (S76)→List Int→Int→Option (Bool)
 |0,_,_,_=>none
 |k+1,d,c,b=>if b<(c.length:Int)then(if 0≤b then((spec_FindPath.f k d (rd c b)).bind fun a=>(if a<0 then(spec_IsTogether.j1 k d c b a true)else(if b>0 then(if 0≤(wrap64 (b-1))then(if(wrap64 (b-1))<(c.length:Int)then(spec_IsTogether.j1 k d c b a (decide ((rd c (wrap64 (b-1)))≥(rd c b))))else(none))else(none))else(spec_IsTogether.j1 k d c b a false))))else(none))else((spec_ArePaths.f k d).bind fun e=>(some e))
def spec_IsTogether.j1:Nat→List (S76)→List Int→Int→Int→Bool→Option (Bool)
 |0,_,_,_,_,_=>none
 |k+1,b,c,d,e,a=>if a=true then(some false)else(spec_IsTogether.l1 k b c d e 0)
def spec_IsTogether.l1:Nat→List (S76)→List Int→Int→Int→Int→Option (Bool)
 |0,_,_,_,_,_=>none
 |k+1,b,g,h,c,d=>if d<h then(if 0≤c then(if c<(b.length:Int)then(if 0≤d then(if d<(g.length:Int)then((spec_FindPath.f k b (rd g d)).bind fun a=>(if 0≤a then(if a<(b.length:Int)then((spec_Conflict.f k ((rd_T76 b c).f0) ((rd_T76 b c).f1) ((rd_T76 b c).f2) ((rd_T76 b c).f3) ((rd_T76 b a).f0) ((rd_T76 b a).f1) ((rd_T76 b a).f2) ((rd_T76 b a).f3)).bind fun e=>(if e=true then(some false)else(spec_IsTogether.l1 k b g h c (wrap64 (d+1)))))else(none))else(none)))else(none))else(none))else(none))else(none))else(spec_IsTogether.l0 k b g (wrap64 (h+1)))
end
def spec_IsTogether.f(k:Nat)(a:List (S76))(b:List Int):Option (Bool):=spec_IsTogether.l0 k a b 0
def spec_IsTogether.T5:Bool×List (List Nat×List Nat):=(true,[([],[]),([0],[0]),([1],[1]),([2],[2]),([3,2],[2,3]),([4,2,2],[2,4]),([5],[5]),([5],[5]),([7,5],[5,7]),([6,8,5],[5,6,8]),([9,5],[5,9]),([5],[5]),([5],[5]),([11,12,5],[5,11,12]),([13,5],[5,13]),([10,14,5],[5,10,14]),([5,15,2],[2,5,15]),([2,16],[2,16])])
def spec_IsTogether.B5:List Nat:=[0,1,3,7,15,31,63,63,191,511,1023,63,63,6207,14399,32767,65535,131071]
theorem spec_IsTogether.tab5:rtab .any (opsOf Tryz.f78 5)=spec_IsTogether.T5:=by kernel_rfl
theorem spec_IsTogether.bits5:waitsOk spec_IsTogether.T5.2 spec_IsTogether.B5=true:=by kernel_rfl
def spec_IsTogether.T10:Bool×List (List Nat×List Nat):=(true,[([],[]),([],[]),([0,1],[0,1]),([2],[2]),([],[]),([],[]),([],[]),([],[]),([6,7],[6,7]),([8],[8]),([5,9],[5,9]),([4,10],[4,10]),([11],[11]),([3,12,10],[3,12])])
def spec_IsTogether.B10:List Nat:=[0,0,3,7,0,0,0,0,192,448,992,2032,4080,8191]
theorem spec_IsTogether.tab10:rtab .any (opsOf Tryz.f78 10)=spec_IsTogether.T10:=by kernel_rfl
theorem spec_IsTogether.bits10:waitsOk spec_IsTogether.T10.2 spec_IsTogether.B10=true:=by kernel_rfl
theorem spec_IsTogether.calls(k:Nat)(A0:Option Addr)(c0:Nat)(u:List (S76))(A1:Option Addr)(c1:Nat)(J:List Int)(r:Bool)(w:World)(aD:Kd.C k76 w A0 u.length u)(aE:u.length≤c0)(aF:Kd.C (Kd.int .i64) w A1 J.length J)(aG:J.length≤c1)(h:spec_IsTogether.f k u J=some r):
  Calls Tryz.prog 78 #[.slice A0 u.length c0,.slice A1 J.length c1] w fun e w'=>e= .returned (.bool r)∧Below w.heap.size w w':=by
 have:=Tryz.underlying76;have aa:=S.a aD;have av:=S.a aE;clear aD aE;have ai:=S.a aF;have:=S.a aG;clear aF aG;have HB:=S.a (Below.refl w.heap.size w);have H:(spec_IsTogether.l0 k u J 0)=some r:=h;clear h;have H':=S.a H;clear H;go_enter Tryz.func78,Tryz.ntmps78;go_wp2;go_loopg [5] k (fun kq v5 w'=> ∃(d:Int),v5= .int .i64 d∧Aside0 (spec_IsTogether.l0 kq u J d=some r)∧Aside0 (kq≤k)∧Aside0 (Below w.heap.size w w'))
 case atStart=>exact⟨(0),S.eA,H',⟨Nat.le_refl _⟩,⟨S.bA⟩⟩
 case round=>
  clear H';try clear c1
  obtain⟨d,rfl,HA,ae,HB⟩:=hrel
  cases gk with
  |zero=>exact absurd HA.1 (by simp[spec_IsTogether.l0])
  |succ k1=>
   have H:=HA.1;clear HA;simp only[spec_IsTogether.l0]at H;replace H:=S.dc H;rcases H with⟨H,aj⟩|⟨H,aj⟩
   ·by_cases c4:0≤d
    ·rw[if_pos c4]at H;have a6:decide (0≤d)=true:=decide_eq_true c4;clear c4;replace H:=S.bd H;obtain⟨b,A5,H⟩:=H;(try dsimp only at H);have a9:=S.a H;clear H;have ab:0≤(d:Int):=S.oD;have ac:d<(J.length:Int):=S.oD;obtain⟨Y,aH,L⟩:=Kd.at_int ai.1 d ab ac;cases aH;replace L:=S.hb HB L;replace ab:=eq_true ab;replace ac:=eq_true ac;go_upto_region 5 with(first|((with_reducible refine gate_callee (f:=81) rfl ?_);refine S.gL (some 19) Tryz.func81 #[.slice A0 u.length c0,.int .i64 (rd J d)] ?_;(with_reducible refine(spec_FindPath.calls k1 _ _ u (rd J d) b _ ?s1 av.1 A5.1).mono ?_);(case s1=>exact S.cA aa.1);rintro e w' ⟨rfl,⟨nd,rfl⟩⟩;refine⟨_,rfl,?_⟩));have nB_:=S.a (pw_below_drewN HB.1 nd);clear HB;have HB:=nB_;clear nB_;generalize wr.drewN nd=wq at HB⊢;(try simp only[Act.put,List.setIfInBounds_toArray,List.set_cons_zero,List.set_cons_succ]);go_cut [37] (fun aO wc=> ∃(kq:Nat) (af:Bool),aO= .bool af∧Aside0 (spec_IsTogether.j1 kq u J d b af=some r)∧Aside0 (kq≤k1)∧Aside0 (Below w.heap.size w wc))
     case first=>
      have H:=a9.1;clear a9;replace H:=S.dc H;rcases H with⟨H,ad⟩|⟨H,ad⟩
      ·(first|rw[ad]|(simp only[i64_w,i32_w];rw[ad])|skip);have H':=S.a H;clear H;try go_wp2
       replace HB:=S.a (below_drew1 HB.1);refine start_ (n:=18) (S:=fun w'=>True) (ds:=[]) (S.bs 262144) (by kernel_rfl) rfl rfl trivial (fun hHeld=>?_);refine with_tabW spec_IsTogether.tab5 spec_IsTogether.bits5 (fun HT_ HW_=>?_);generalize wq.drew=w8 at HB hHeld⊢;refine S.pS 0 20 ?_;refine S.pS 1 21 ?_;refine S.pS 2 22 ?_;refine S.pU 3 23 ?_;refine S.pU 4 24 ?_;refine S.pU 5 25 ?_;refine S.pU 6 26 ?_;refine S.pU 7 27 ?_;refine S.pU 8 28 ?_;refine S.pU 9 29 ?_;refine S.pU 10 30 ?_;refine S.pU 11 31 ?_;refine S.pU 12 32 ?_;refine S.pU 13 33 ?_;refine S.pU 14 34 ?_;refine S.pU 15 35 ?_;refine S.pU 16 36 ?_;refine S.pS 17 37 ?_;refine done_ (done_of HT_.1 (by kernel_rfl)) ?_;try go_wp2
       go_meet
       case rel=>exact⟨_,(true),S.eA,H',⟨by have:=ae.1;first|omega|exact Nat.le_refl _⟩,⟨S.bA⟩⟩
      ·(first|rw[ad]|(simp only[i64_w,i32_w];rw[ad])|skip)
       by_cases c9:d>0
       ·rw[if_pos c9]at H;have aI:decide (0<d)=true:=decide_eq_true c9;clear c9;obtain⟨I,Z⟩: ∃j_:Int,(wrap64 (d-1))=j_:=⟨_,rfl⟩;replace H:(if 0≤(I)then(if(I)<(J.length:Int)then(spec_IsTogether.j1 k1 u J d b (decide ((rd J (I))≥(rd J d))))else(none))else(none))=some r:=by first|(rw[Z]at H;exact H)|(simp only[Z]at H⊢;exact H)
        have hji10w:(IntKind.i64.wrap (d-1))=I:=(i64_w _).trans Z
        by_cases aw:0≤(I)
        ·rw[if_pos aw]at H;have aP:decide (0≤(I))=true:=decide_eq_true aw;clear aw
         by_cases ax:(I)<(J.length:Int)
         ·rw[if_pos ax]at H;have aQ:decide ((I)<(J.length:Int))=true:=decide_eq_true ax;clear ax;have H':=S.a H;clear H;try go_wp2
          replace HB:=S.a (below_drew1 HB.1);have ak:0≤((I):Int):=S.oD;have al:(I)<(J.length:Int):=S.oD;obtain⟨aA,aJ,M⟩:=Kd.at_int ai.1 (I) ak al;have am:=M;obtain rfl:Y=aA:=(by injection aJ);replace M:=S.hb HB M;replace ak:=eq_true ak;replace al:=eq_true al;have an:0≤(d:Int):=S.oD;have ao:d<(J.length:Int):=S.oD;obtain⟨aB,aK,N⟩:=Kd.at_int ai.1 d an ao;have ap:=N;obtain rfl:Y=aB:=(by injection aK);replace N:=S.hb HB N;replace an:=eq_true an;replace ao:=eq_true ao;refine S.st (n:=18) (ds:=[]) (S.bs 262144) (fun w_ h_=>have x_:=And.intro (S.q h_ (S.hb HB am)) (S.q h_ (S.hb HB ap));x_) (fun hHeld=>?_);refine with_tabW spec_IsTogether.tab5 spec_IsTogether.bits5 (fun HT_ HW_=>?_);generalize wr.drew=aZ at HB M N hHeld⊢;refine S.pS 0 20 ?_;refine S.pS 1 21 ?_;refine S.pS 2 22 ?_;refine S.pS 3 23 ?_;refine S.pS 4 24 ?_;refine S.pS 5 25 ?_;refine S.pS 6 26 ?_;refine S.pS 7 27 ?_;refine S.pS 8 28 ?_;refine S.pS 9 29 ?_;refine S.pS 11 31 ?_;refine S.pS 12 32 ?_;refine S.pS 13 33 ?_;refine S.tK 10 30 (S.bs 278527) ?_;refine S.tK 14 34 (S.bs 294911) ?_;refine S.pS 15 35 ?_;refine S.pS 16 36 ?_;refine S.pS 17 37 ?_;refine done_ (done_of HT_.1 (by kernel_rfl)) ?_;try go_wp2
          go_meet
          case rel=>exact⟨_,(decide ((rd J (I))≥(rd J d))),(by first|rfl|(simp;done)|(simp only[←Z]<;>(first|rfl|simp))|(simp[*];done)),H',⟨by have:=ae.1;first|omega|exact Nat.le_refl _⟩,⟨S.bA⟩⟩
         ·rw[if_neg ax]at H;exact absurd H (by simp)
        ·rw[if_neg aw]at H;exact absurd H (by simp)
       ·rw[if_neg c9]at H;have aI:decide (0<d)=false:=decide_eq_false c9;clear c9;have H':=S.a H;clear H;try go_wp2
        replace HB:=S.a (below_drew1 HB.1);refine start_ (n:=18) (S:=fun w'=>True) (ds:=[]) (S.bs 262144) (by kernel_rfl) rfl rfl trivial (fun hHeld=>?_);refine with_tabW spec_IsTogether.tab5 spec_IsTogether.bits5 (fun HT_ HW_=>?_);generalize wq.drew=ba at HB hHeld⊢;refine S.pS 0 20 ?_;refine S.pS 1 21 ?_;refine S.pS 2 22 ?_;refine S.pS 3 23 ?_;refine S.pS 4 24 ?_;refine S.pS 5 25 ?_;refine S.pU 6 26 ?_;refine S.pU 7 27 ?_;refine S.pU 8 28 ?_;refine S.pU 9 29 ?_;refine S.pU 10 30 ?_;refine S.pU 11 31 ?_;refine S.pU 12 32 ?_;refine S.pU 13 33 ?_;refine S.pU 14 34 ?_;refine S.pU 15 35 ?_;refine S.pS 16 36 ?_;refine S.pS 17 37 ?_;refine done_ (done_of HT_.1 (by kernel_rfl)) ?_;try go_wp2
        go_meet
        case rel=>exact⟨_,(false),S.eA,H',⟨by have:=ae.1;first|omega|exact Nat.le_refl _⟩,⟨S.bA⟩⟩
     case rest=>
      clear a9;try clear c1
      try clear c3
      try clear aj
      try clear c4
      try clear a6
      try clear L
      try clear ab
      try clear ac
      obtain⟨kq,af,rfl,HA,ay,HB⟩:=hcut
      cases kq with
      |zero=>exact absurd HA.1 (by simp[spec_IsTogether.j1])
      |succ aL=>
       have H:=HA.1;clear HA;simp only[spec_IsTogether.j1]at H;replace H:=S.db H;rcases H with⟨rfl,H⟩|⟨rfl,H⟩
       ·obtain rfl:=Option.some.inj H;go_wp2;go_ret;exact⟨S.eW,S.bA⟩
       ·have H':=S.a H;clear H;go_wp2;go_loopg [7] aL (fun kq v7 w'=> ∃(v:Int),v7= .int .i64 v∧Aside0 (spec_IsTogether.l1 kq u J d b v=some r)∧Aside0 (kq≤aL)∧Aside0 (Below w.heap.size w w'))
        case atStart=>exact⟨(0),S.eA,H',⟨Nat.le_refl _⟩,⟨S.bA⟩⟩
        case round=>
         clear H';try clear c1
         try clear c3
         try clear aj
         try clear c4
         try clear a6
         try clear bb
         try clear L
         try clear ab
         try clear ac
         obtain⟨v,rfl,HA,az,HB⟩:=hrel
         cases gk with
         |zero=>exact absurd HA.1 (by simp[spec_IsTogether.l1])
         |succ k3=>
          have H:=HA.1;clear HA;simp only[spec_IsTogether.l1]at H;replace H:=S.dc H;rcases H with⟨H,aC⟩|⟨H,aC⟩
          ·by_cases a0:0≤b
           ·rw[if_pos a0]at H;have aR:decide (0≤b)=true:=decide_eq_true a0;clear a0
            by_cases a1:b<(u.length:Int)
            ·rw[if_pos a1]at H;have aS:decide (b<(u.length:Int))=true:=decide_eq_true a1;clear a1
             by_cases a2:0≤v
             ·rw[if_pos a2]at H;have aT:decide (0≤v)=true:=decide_eq_true a2;clear a2
              by_cases a3:v<(J.length:Int)
              ·rw[if_pos a3]at H;have aU:decide (v<(J.length:Int))=true:=decide_eq_true a3;clear a3;replace H:=S.bd H;obtain⟨c,aM,H⟩:=H;(try dsimp only at H)
               by_cases a4:0≤c
               ·rw[if_pos a4]at H;have aV:decide (0≤c)=true:=decide_eq_true a4;clear a4
                by_cases a5:c<(u.length:Int)
                ·rw[if_pos a5]at H;have aW:decide (c<(u.length:Int))=true:=decide_eq_true a5;clear a5;replace H:=S.bd H;obtain⟨_,aN,H⟩:=H;(try dsimp only at H);replace H:=S.db H;rcases H with⟨rfl,H⟩|⟨rfl,H⟩
                 ·obtain rfl:=Option.some.inj H;try go_wp2
                  replace HB:=S.a (below_drew1 HB.1);have O:0≤(b:Int):=S.oD;have R:b<(u.length:Int):=S.oD;obtain⟨T,aq,g,i,j,l⟩:=at_T76 aa.1 b O R;have x:=l;have y:=j;have z:=i;have A:=g;cases aq;replace g:=S.hb HB g;replace i:=S.hb HB i;replace j:=S.hb HB j;replace l:=S.hb HB l;replace O:=eq_true O;replace R:=eq_true R;have U:0≤(v:Int):=S.oD;have V:v<(J.length:Int):=S.oD;obtain⟨ag,ar,m⟩:=Kd.at_int ai.1 v U V;have B:=m;obtain rfl:Y=ag:=(by injection ar);replace m:=S.hb HB m;replace U:=eq_true U;replace V:=eq_true V;have W:0≤(c:Int):=S.oD;have X:c<(u.length:Int):=S.oD;obtain⟨ah,au,o,p,s,t⟩:=at_T76 aa.1 c W X;have D:=t;have E:=s;have F:=p;have G:=o;obtain rfl:T=ah:=(by injection au);replace o:=S.hb HB o;replace p:=S.hb HB p;replace s:=S.hb HB s;replace t:=S.hb HB t;replace W:=eq_true W;replace X:=eq_true X;refine S.st (n:=14) (ds:=[]) (S.bs 16384) (fun w_ h_=>have x_:=And.intro (S.q h_ (S.hb HB A)) (And.intro (S.q h_ (S.hb HB z)) (And.intro (S.q h_ (S.hb HB y)) (And.intro (S.q h_ (S.hb HB x)) (And.intro (S.q h_ (S.hb HB B)) (And.intro (S.q h_ (S.hb HB G)) (And.intro (S.q h_ (S.hb HB F)) (And.intro (S.q h_ (S.hb HB E)) (S.q h_ (S.hb HB D)))))))));x_) (fun hHeld=>?_);refine with_tabW spec_IsTogether.tab10 spec_IsTogether.bits10 (fun HT_ HW_=>?_);generalize wr.drew=bc at HB g i j l m o p s t hHeld⊢;refine S.pS 0 43 ?_;refine S.pS 1 44 ?_;refine S.pS 2 45 ?_;refine S.pS 4 47 ?_;refine S.pS 5 48 ?_;refine S.pS 6 49 ?_;refine S.pS 7 50 ?_;refine S.pS 8 51 ?_;refine S.tK 3 46 (S.bs 16895) ?_;refine S.tK 9 52 (S.bs 17407) ?_;refine S.oN 10 53 (S.bs 18431) (fun K hK=>?_);refine S.go Tryz.func81 #[.slice (some T) u.length c0,.int .i64 (rd J v)] ?_
                  with_reducible refine(spec_FindPath.calls k3 _ _ u (rd J v) c _ ?s1 ?s2 aM.1).mono ?_
                  (case s1=>exact S.cA aa.1);(case s2=>exact av.1);rintro e w' ⟨rfl,⟨nd,rfl⟩⟩;refine⟨_,rfl,?_⟩;refine hK.out _ _ ⟨(S.hb HB A:),(S.hb HB z:),(S.hb HB y:),(S.hb HB x:),(S.hb HB B:),(S.hb HB G:),(S.hb HB F:),(S.hb HB E:),(S.hb HB D:)⟩ (fun hHeld=>?_);clear hK K;refine S.nm 53 ?_;refine S.pS 11 54 ?_;refine S.tK 12 55 (S.bs 24575) ?_;refine S.oN 13 56 (S.bs 32767) (fun K hK=>?_);refine S.go Tryz.func109 #[.agg #[.int .i64 ((rd_T76 u b).f0),.int .i64 ((rd_T76 u b).f1),.int .i64 ((rd_T76 u b).f2),.int .i64 ((rd_T76 u b).f3)],.agg #[.int .i64 ((rd_T76 u c).f0),.int .i64 ((rd_T76 u c).f1),.int .i64 ((rd_T76 u c).f2),.int .i64 ((rd_T76 u c).f3)]] ?_
                  with_reducible refine(spec_Conflict.calls k3 ((rd_T76 u b).f0) ((rd_T76 u b).f1) ((rd_T76 u b).f2) ((rd_T76 u b).f3) ((rd_T76 u c).f0) ((rd_T76 u c).f1) ((rd_T76 u c).f2) ((rd_T76 u c).f3) true _ aN.1).mono ?_
                  rintro e be ⟨rfl,hb⟩;refine⟨_,rfl,?_⟩;replace HB:=S.sA hb;(try clear hb);(try clear aX);(try clear hk);(try clear hi);refine hK.out _ _ ⟨(S.hb HB A:),(S.hb HB z:),(S.hb HB y:),(S.hb HB x:),(S.hb HB B:),(S.hb HB G:),(S.hb HB F:),(S.hb HB E:),(S.hb HB D:)⟩ (fun hHeld=>?_);clear hK K;refine S.nm 56 ?_;refine done_ (done_of HT_.1 (by kernel_rfl)) ?_;try go_wp2
                  go_ret;exact⟨S.eW,S.bA⟩
                 ·have H':=S.a H;clear H;try go_wp2
                  replace HB:=S.a (below_drew1 HB.1);have O:0≤(b:Int):=S.oD;have R:b<(u.length:Int):=S.oD;obtain⟨T,aq,g,i,j,l⟩:=at_T76 aa.1 b O R;have x:=l;have y:=j;have z:=i;have A:=g;cases aq;replace g:=S.hb HB g;replace i:=S.hb HB i;replace j:=S.hb HB j;replace l:=S.hb HB l;replace O:=eq_true O;replace R:=eq_true R;have U:0≤(v:Int):=S.oD;have V:v<(J.length:Int):=S.oD;obtain⟨ag,ar,m⟩:=Kd.at_int ai.1 v U V;have B:=m;obtain rfl:Y=ag:=(by injection ar);replace m:=S.hb HB m;replace U:=eq_true U;replace V:=eq_true V;have W:0≤(c:Int):=S.oD;have X:c<(u.length:Int):=S.oD;obtain⟨ah,au,o,p,s,t⟩:=at_T76 aa.1 c W X;have D:=t;have E:=s;have F:=p;have G:=o;obtain rfl:T=ah:=(by injection au);replace o:=S.hb HB o;replace p:=S.hb HB p;replace s:=S.hb HB s;replace t:=S.hb HB t;replace W:=eq_true W;replace X:=eq_true X;refine S.st (n:=14) (ds:=[]) (S.bs 16384) (fun w_ h_=>have x_:=And.intro (S.q h_ (S.hb HB A)) (And.intro (S.q h_ (S.hb HB z)) (And.intro (S.q h_ (S.hb HB y)) (And.intro (S.q h_ (S.hb HB x)) (And.intro (S.q h_ (S.hb HB B)) (And.intro (S.q h_ (S.hb HB G)) (And.intro (S.q h_ (S.hb HB F)) (And.intro (S.q h_ (S.hb HB E)) (S.q h_ (S.hb HB D)))))))));x_) (fun hHeld=>?_);refine with_tabW spec_IsTogether.tab10 spec_IsTogether.bits10 (fun HT_ HW_=>?_);generalize wr.drew=bf at HB g i j l m o p s t hHeld⊢;refine S.pS 0 43 ?_;refine S.pS 1 44 ?_;refine S.pS 2 45 ?_;refine S.pS 4 47 ?_;refine S.pS 5 48 ?_;refine S.pS 6 49 ?_;refine S.pS 7 50 ?_;refine S.pS 8 51 ?_;refine S.tK 3 46 (S.bs 16895) ?_;refine S.tK 9 52 (S.bs 17407) ?_;refine S.oN 10 53 (S.bs 18431) (fun K hK=>?_);refine S.go Tryz.func81 #[.slice (some T) u.length c0,.int .i64 (rd J v)] ?_
                  with_reducible refine(spec_FindPath.calls k3 _ _ u (rd J v) c _ ?s1 ?s2 aM.1).mono ?_
                  (case s1=>exact S.cA aa.1);(case s2=>exact av.1);rintro e w' ⟨rfl,⟨nd,rfl⟩⟩;refine⟨_,rfl,?_⟩;refine hK.out _ _ ⟨(S.hb HB A:),(S.hb HB z:),(S.hb HB y:),(S.hb HB x:),(S.hb HB B:),(S.hb HB G:),(S.hb HB F:),(S.hb HB E:),(S.hb HB D:)⟩ (fun hHeld=>?_);clear hK K;refine S.nm 53 ?_;refine S.pS 11 54 ?_;refine S.tK 12 55 (S.bs 24575) ?_;refine S.oN 13 56 (S.bs 32767) (fun K hK=>?_);refine S.go Tryz.func109 #[.agg #[.int .i64 ((rd_T76 u b).f0),.int .i64 ((rd_T76 u b).f1),.int .i64 ((rd_T76 u b).f2),.int .i64 ((rd_T76 u b).f3)],.agg #[.int .i64 ((rd_T76 u c).f0),.int .i64 ((rd_T76 u c).f1),.int .i64 ((rd_T76 u c).f2),.int .i64 ((rd_T76 u c).f3)]] ?_
                  with_reducible refine(spec_Conflict.calls k3 ((rd_T76 u b).f0) ((rd_T76 u b).f1) ((rd_T76 u b).f2) ((rd_T76 u b).f3) ((rd_T76 u c).f0) ((rd_T76 u c).f1) ((rd_T76 u c).f2) ((rd_T76 u c).f3) false _ aN.1).mono ?_
                  rintro e bg ⟨rfl,hb⟩;refine⟨_,rfl,?_⟩;replace HB:=S.sA hb;(try clear hb);(try clear aX);(try clear hk);(try clear hi);refine hK.out _ _ ⟨(S.hb HB A:),(S.hb HB z:),(S.hb HB y:),(S.hb HB x:),(S.hb HB B:),(S.hb HB G:),(S.hb HB F:),(S.hb HB E:),(S.hb HB D:)⟩ (fun hHeld=>?_);clear hK K;refine S.nm 56 ?_;refine done_ (done_of HT_.1 (by kernel_rfl)) ?_;try go_wp2
                  go_roundg k3
                  case measure=>have:=ae.1;have:=ay.1;have:=az.1;omega
                  case rel=>exact⟨(wrap64 (v+1)),S.eA,H',⟨by have:=ae.1;have:=ay.1;have:=az.1;omega⟩,⟨S.bA⟩⟩
                ·rw[if_neg a5]at H;exact absurd H (by simp)
               ·rw[if_neg a4]at H;exact absurd H (by simp)
              ·rw[if_neg a3]at H;exact absurd H (by simp)
             ·rw[if_neg a2]at H;exact absurd H (by simp)
            ·rw[if_neg a1]at H;exact absurd H (by simp)
           ·rw[if_neg a0]at H;exact absurd H (by simp)
          ·have H':=S.a H;clear H;go_wp2;go_roundg k3
           case measure=>have:=ae.1;have:=ay.1;have:=az.1;omega
           case rel=>exact⟨(wrap64 (d+1)),S.eA,H',⟨by have:=ae.1;have:=ay.1;have:=az.1;omega⟩,⟨S.bA⟩⟩
    ·rw[if_neg c4]at H;exact absurd H (by simp)
   ·replace H:=Option.bind_eq_some_iff.mp H;obtain⟨a7,a8,H⟩:=H;replace H:(some a7)=some r:=H;have aY:=S.a a8;clear a8;obtain rfl:=Option.some.inj H;go_wp2_with (first|((with_reducible refine gate_callee (f:=82) rfl ?_);refine S.gL (some 58) Tryz.func82 #[.slice A0 u.length c0] ?_;(with_reducible refine(spec_ArePaths.calls k1 _ _ u a7 _ ?s1 av.1 aY.1).mono ?_);(case s1=>exact S.cA aa.1);rintro e bh ⟨rfl,hb⟩;refine⟨_,rfl,?_⟩;replace HB:=S.sA hb;(try clear hb)));go_ret;exact⟨S.eW,S.bA⟩
def spec_l6Has.l0:Nat→List Int→Int→Int→Option (Bool)
 |0,_,_,_=>none
 |k+1,b,c,a=>if a<(b.length:Int)then(if 0≤a then(if(rd b a)=c then(some true)else(spec_l6Has.l0 k b c (wrap64 (a+1))))else(none))else(some false)
def spec_l6Has.f(k:Nat)(a:List Int)(b:Int):Option (Bool):=spec_l6Has.l0 k a b 0
theorem spec_l6Has.calls(k:Nat)(y:Option Addr)(z:Nat)(g:List Int)(l:Int)(r:Bool)(w:World)(o:Kd.C (Kd.int .i64) w y g.length g)(p:g.length≤z)(h:spec_l6Has.f k g l=some r):
  Calls Tryz.prog 87 #[.slice y g.length z,.int .i64 l] w fun e w'=>e= .returned (.bool r)∧Drawn0 w w':=by
 have q:=S.a o;have:=S.a p;clear o p;have H:(spec_l6Has.l0 k g l 0)=some r:=h;clear h;have H':=S.a H;clear H;go_enter Tryz.func87,Tryz.ntmps87;go_wp2;go_loopg [5] k (fun kq B w'=> ∃(b:Int),B= .int .i64 b∧Aside0 (spec_l6Has.l0 kq g l b=some r)∧Aside0 (kq≤k)∧Drawn0 w w')
 case atStart=>exact⟨(0),S.eA,H',⟨Nat.le_refl _⟩,by repeat(first|exact Drawn0.refl _|apply Drawn0.step)⟩
 case round=>
  clear H';obtain⟨b,rfl,HA,s,⟨_,rfl⟩⟩:=hrel
  cases gk with
  |zero=>exact absurd HA.1 (by simp[spec_l6Has.l0])
  |succ k1=>
   have H:=HA.1;clear HA;simp only[spec_l6Has.l0]at H;replace H:=S.dc H;rcases H with⟨H,t⟩|⟨H,t⟩
   ·by_cases x:0≤b
    ·rw[if_pos x]at H;have A:decide (0≤b)=true:=decide_eq_true x;clear x
     by_cases m:(rd g b)=l
     ·rw[if_pos m]at H;have u:((rd g b)==l)=true:=beq_iff_eq.mpr m;have v:((rd g b) !=l)=false:=bne_eq_false_iff_eq.mpr m;clear m;obtain rfl:=Option.some.inj H;have c:0≤(b:Int):=S.oD;have d:b<(g.length:Int):=S.oD;obtain⟨n,i,j⟩:=Kd.at_int q.1 b c d;cases i;replace c:=eq_true c;replace d:=eq_true d;go_wp2;go_ret;exact⟨S.eA,by repeat(first|exact Drawn0.refl _|apply Drawn0.step)⟩
     ·rw[if_neg m]at H;have u:((rd g b)==l)=false:=beq_eq_false_iff_ne.mpr m;have v:((rd g b) !=l)=true:=bne_iff_ne.mpr m;have H':=S.a H;clear H;have c:0≤(b:Int):=S.oD;have d:b<(g.length:Int):=S.oD;obtain⟨n,i,j⟩:=Kd.at_int q.1 b c d;cases i;replace c:=eq_true c;replace d:=eq_true d;go_wp2;go_roundg k1
      case measure=>have:=s.1;omega
      case rel=>exact⟨(wrap64 (b+1)),S.eA,H',⟨by have:=s.1;omega⟩,by repeat(first|exact Drawn0.refl _|apply Drawn0.step)⟩
    ·rw[if_neg x]at H;exact absurd H (by simp)
   ·obtain rfl:=Option.some.inj H;go_wp2;go_ret;exact⟨S.eA,by repeat(first|exact Drawn0.refl _|apply Drawn0.step)⟩
def spec_Closes.l0:Nat→List Int→List Int→List Int→Int→Option (List Int)
 |0,_,_,_,_=>none
 |k+1,b,e,d,a=>if a<(b.length:Int)then(if 0≤a then((spec_l6Has.f k e (rd b a)).bind fun c=>(if c=true then(spec_Closes.l0 k b e d (wrap64 (a+1)))else(if d.length<17592186044416 then(spec_Closes.l0 k b e (d++ [rd b a]) (wrap64 (a+1)))else(none))))else(none))else(some d)
def spec_Closes.f(k:Nat)(a:List Int)(b:List Int):Option (List Int):=spec_Closes.l0 k a b (([]:List Int)) 0
theorem spec_Closes.calls(k:Nat)(A0:Option Addr)(c0:Nat)(l:List Int)(A1:Option Addr)(J:Nat)(q:List Int)(r:List Int)(w:World)(L:Kd.C (Kd.int .i64) w A0 l.length l)(M:l.length≤c0)(O:Kd.C (Kd.int .i64) w A1 q.length q)(T:q.length≤J)(h:spec_Closes.f k l q=some r):
  Calls Tryz.prog 110 #[.slice A0 l.length c0,.slice A1 q.length J] w fun e w'=> ∃U:Value,e= .returned (U)∧Kd.R (Kd.int .i64) 3 w' w.heap.size (fun _=>True) U r∧Below w.heap.size w w':=by
 have D:=S.a L;have:=S.a M;clear L M;have V:=S.a O;have W:=S.a T;clear O T;have HB:=S.a (Below.refl w.heap.size w);have H:(spec_Closes.l0 k l q (([]:List Int)) 0)=some r:=h;clear h;obtain⟨A,n⟩: ∃y_:List Int,y_=(([]:List Int)):=⟨_,rfl⟩;have hY_:=n;replace H:(spec_Closes.l0 k l q A 0)=some r:=S.rh;clear hY_;have s:=S.a n;clear n;have H':=S.a H;clear H;go_enter Tryz.func110,Tryz.ntmps110;go_wp2_with (first|((with_reducible refine gate_dst (N:=7) rfl ?_);refine Kd.R_lit (Kd.int .i64) _ 3 ?hg (N:=7) ?hd (xs:=([]:List Int)) (inner:=[]) (ok:=fun _=>True) (okp:=fun _=>True) ?hr ?hp (fun _ hk=>hk) trivial (Below.refl _ _) (Nat.le_refl _) (by simp) ?_;(case hd=>rfl);(case hg=>rfl);(case hr=>first|(go_simp;done)|(go_simp;rfl));(case hp=>exact(Reps.none _ _));intro ac w3 t hb hg_ hnew_;clear hg_ hnew_;(first|rw[←s.1]at t|(simp only[Int.reduceToNat]at t;rw[←s.1]at t));have E:=S.lwA t;replace HB:=S.sA hb;clear hb t));go_loopg [5,6] k (fun kq v5 v6 w'=> ∃(g:List Int) (c:Int),v6= .int .i64 c∧Aside0 (spec_Closes.l0 kq l q g c=some r)∧Aside0 (kq≤k)∧Aside0 (Kd.R (Kd.int .i64) 3 w' w.heap.size (fun _=>True) v5 g)∧Aside0 (Below w.heap.size w w'))
 case atStart=>exact⟨(A),(0),S.eA,H',⟨Nat.le_refl _⟩,⟨S.uR E.1⟩,⟨S.bA⟩⟩
 case round=>
  clear H';try clear J
  obtain⟨g,c,rfl,HA,z,p,HB⟩:=hrel
  cases gk with
  |zero=>exact absurd HA.1 (by simp[spec_Closes.l0])
  |succ k1=>
   have H:=HA.1;clear HA;simp only[spec_Closes.l0]at H;replace H:=S.dc H;rcases H with⟨H,X⟩|⟨H,X⟩
   ·by_cases c6:0≤c
    ·rw[if_pos c6]at H;have ad:decide (0≤c)=true:=decide_eq_true c6;clear c6;replace H:=S.bd H;obtain⟨_,A7,H⟩:=H;(try dsimp only at H);replace H:=S.db H;rcases H with⟨rfl,H⟩|⟨rfl,H⟩
     ·have H':=S.a H;clear H;have i:0≤(c:Int):=S.oD;have j:c<(l.length:Int):=S.oD;obtain⟨u,v,d⟩:=Kd.at_int D.1 c i j;cases v;replace d:=S.hb HB d;replace i:=eq_true i;replace j:=eq_true j;go_wp2_with (first|((with_reducible refine gate_callee (f:=87) rfl ?_);refine S.gL (some 19) Tryz.func87 #[.slice A1 q.length J,.int .i64 (rd l c)] ?_;(with_reducible refine(spec_l6Has.calls k1 _ _ q (rd l c) true _ ?s1 W.1 A7.1).mono ?_);(case s1=>exact S.cA V.1);rintro e w' ⟨rfl,⟨nd,rfl⟩⟩;refine⟨_,rfl,?_⟩));go_roundg k1
      case measure=>have:=z.1;omega
      case rel=>exact⟨(g),(wrap64 (c+1)),S.eA,H',⟨by have:=z.1;omega⟩,⟨S.uR p.1⟩,⟨S.bA⟩⟩
     ·by_cases c9:g.length<17592186044416
      ·rw[if_pos c9]at H;have Y:=S.a c9;clear c9;obtain⟨B,o⟩: ∃y_:List Int,y_=(g++ [rd l c]):=⟨_,rfl⟩;have hY_:=o;replace H:(spec_Closes.l0 k1 l q B (wrap64 (c+1)))=some r:=S.rh;clear hY_;have F:=S.a o;clear o;have H':=S.a H;clear H;have i:0≤(c:Int):=S.oD;have j:c<(l.length:Int):=S.oD;obtain⟨u,v,d⟩:=Kd.at_int D.1 c i j;cases v;replace d:=S.hb HB d;replace i:=eq_true i;replace j:=eq_true j;go_wp2_with (first|((with_reducible refine gate_callee (f:=87) rfl ?_);refine S.gL (some 19) Tryz.func87 #[.slice A1 q.length J,.int .i64 (rd l c)] ?_;(with_reducible refine(spec_l6Has.calls k1 _ _ q (rd l c) false _ ?s1 W.1 A7.1).mono ?_);(case s1=>exact S.cA V.1);rintro e w' ⟨rfl,⟨nd,rfl⟩⟩;refine⟨_,rfl,?_⟩;have x:0≤(c:Int):=S.oD;have y:c<(l.length:Int):=S.oD;obtain⟨G,Z,m⟩:=Kd.at_int D.1 c x y;obtain rfl:u=G:=(by injection Z);replace m:=S.hb HB m;replace x:=eq_true x;replace y:=eq_true y)|((with_reducible refine gate_builtin (b:= .append) (xs:=#[.tmp 21,.tmp 26]) rfl ?_);at_builtin;refine Kd.R_append (Kd.int .i64) (w0:=w) w.heap.size rfl (.tmp 21) (.tmp 26) 23 3 (.int .i64 0) 8 rfl Tryz.underlying23 info3 rfl (by decide) (by omega) u5 g (rd l c) [.int .i64 (rd l c)] (fun _=>True) (fun _=>False) rfl rfl ?aP (fun _ hk=>hk.elim) ?aF ?aO ?aB ?aS ?aL ?_;(case aP=>exact rfl);(case aB=>exact S.bA);(case aF=>exact(fun _ _=>trivial));(case aO=>exact(S.uR p.1));(case aS=>exact(below_size S.bA));(case aL=>have:=Y.1;omega);intro ae af ho hb hg hat;rw[←F.1]at ho;have aa:=S.a (hb);have ab:=S.a (ho);clear HB;clear p;have HB:=aa;have I:=ab;clear aa ab;clear ho hb hg hat));go_roundg k1
       case measure=>have:=z.1;omega
       case rel=>exact⟨(B),(wrap64 (c+1)),S.eA,H',⟨by have:=z.1;omega⟩,⟨S.uR I.1⟩,⟨S.bA⟩⟩
      ·rw[if_neg c9]at H;exact absurd H (by simp)
    ·rw[if_neg c6]at H;exact absurd H (by simp)
   ·obtain rfl:=Option.some.inj H;go_wp2;go_ret;exact⟨_,S.eW,S.uR p.1,S.bA⟩
def spec_Max.f(a:Int)(b:Int):Option (Int):=if b>a then(some b)else(some a)
theorem spec_Max.calls(a:Int)(b:Int)(r:Int)(w:World)(h:spec_Max.f a b=some r):
  Calls Tryz.prog 111 #[.int .i64 a,.int .i64 b] w fun e w'=>e= .returned (.int .i64 r)∧Drawn0 w w':=by
 have H:(if b>a then(some b)else(some a))=some r:=h;clear h
 by_cases c:b>a
 ·rw[if_pos c]at H;have d:decide (a<b)=true:=decide_eq_true c;clear c;obtain rfl:=Option.some.inj H;go_enter Tryz.func111,Tryz.ntmps111;go_wp2;go_ret;exact⟨S.eA,by repeat(first|exact Drawn0.refl _|apply Drawn0.step)⟩
 ·rw[if_neg c]at H;have d:decide (a<b)=false:=decide_eq_false c;clear c;obtain rfl:=Option.some.inj H;go_enter Tryz.func111,Tryz.ntmps111;go_wp2;go_ret;exact⟨S.eA,by repeat(first|exact Drawn0.refl _|apply Drawn0.step)⟩
def spec_ClearOf.f(c:Int)(a:Int)(d:Int)(e:Int):Option (Int):=(spec_IsPath.f c a d e).bind fun g=>(if g=true then((some (([0,2,5,3]:List Int):List Int)).bind fun b=>(if 0≤a then(if a<(b.length:Int)then(some (rd b a))else(none))else(none)))else(some 0))
theorem spec_ClearOf.calls(d:Int)(b:Int)(g:Int)(i:Int)(r:Int)(w:World)(h:spec_ClearOf.f d b g i=some r):
  Calls Tryz.prog 112 #[.agg #[.int .i64 d,.int .i64 b,.int .i64 g,.int .i64 i]] w fun e w'=>e= .returned (.int .i64 r)∧Below w.heap.size w w':=by
 have:=Tryz.underlying76;have HB:=S.a (Below.refl w.heap.size w);have H:((spec_IsPath.f d b g i).bind fun q=>(if q=true then((some (([0,2,5,3]:List Int):List Int)).bind fun j=>(if 0≤b then(if b<(j.length:Int)then(some (rd j b))else(none))else(none)))else(some 0)))=some r:=h;clear h;replace H:=S.bd H;obtain⟨q,B,H⟩:=H;(try dsimp only at H);replace H:=S.db H;rcases H with⟨rfl,H⟩|⟨rfl,H⟩
 ·obtain⟨j,l⟩: ∃y_:List Int,y_=(([0,2,5,3]:List Int)):=⟨_,rfl⟩;have hY_:=l;replace H:(if 0≤b then(if b<(j.length:Int)then(some (rd j b))else(none))else(none))=some r:=S.rh;clear hY_;have m:=S.a l;clear l
  by_cases z:0≤b
  ·rw[if_pos z]at H;have C:decide (0≤b)=true:=decide_eq_true z;clear z
   by_cases A:b<(j.length:Int)
   ·rw[if_pos A]at H;have D:decide (b<(j.length:Int))=true:=decide_eq_true A;clear A;obtain rfl:=Option.some.inj H;go_enter Tryz.func112,Tryz.ntmps112;go_wp2_with (first|((with_reducible refine gate_dst (N:=1) rfl ?_);refine S.bx 1 (cs:=#[.int .i64 d,.int .i64 b,.int .i64 g,.int .i64 i]) (t:=76) ?_;intro s hg I hbox hb;have c:=S.a hbox;have u:=S.geA hg;have v:=S.geA hg;replace HB:=S.sA hb;clear hb hbox hg;obtain⟨_,_,_,_,_,_,_,_⟩:=S.c4 c.1)|((with_reducible refine gate_callee (f:=113) rfl ?_);refine S.gL (some 4) Tryz.func113 #[.agg #[.int .i64 d,.int .i64 b,.int .i64 g,.int .i64 i]] ?_;(with_reducible refine(spec_IsPath.calls d b g i true _ B.1).mono ?_);rintro e J ⟨rfl,hb⟩;refine⟨_,rfl,?_⟩;replace c:=S.kb c hb;replace HB:=S.sG hb;(try clear hb))|((with_reducible refine gate_dst (N:=6) rfl ?_);refine Kd.R_lit (Kd.int .i64) _ 3 ?hg (N:=6) ?hd (xs:=([0,2,5,3]:List Int)) (inner:=[.int .i64 0,.int .i64 2,.int .i64 5,.int .i64 3]) (ok:=fun _=>True) (okp:=fun _=>True) ?hr ?hp (fun _ hk=>hk) trivial (Below.refl _ _) (Nat.le_refl _) (by simp) ?_;(case hd=>rfl);(case hg=>rfl);(case hr=>first|(go_simp;done)|(go_simp;rfl));(case hp=>exact(Reps.one (show Kd.M (Kd.int .i64) _ _ _ 0 [.int .i64 0]from rfl) (Reps.one (show Kd.M (Kd.int .i64) _ _ _ 2 [.int .i64 2]from rfl) (Reps.one (show Kd.M (Kd.int .i64) _ _ _ 5 [.int .i64 5]from rfl) (Reps.one (show Kd.M (Kd.int .i64) _ _ _ 3 [.int .i64 3]from rfl) (Reps.none _ _))))));intro E L k hb hg_ hnew_;clear hg_ hnew_;(first|rw[←m.1]at k|(simp only[Int.reduceToNat]at k;rw[←m.1]at k));have n:=S.lwG k;replace c:=S.kb c hb;replace HB:=S.sG hb;clear hb k;obtain⟨_,_,_,_,_,_,_,_⟩:=S.c4 c.1;obtain⟨_,_,x⟩:=Kd.R_slice n.1;subst x;have o:0≤(b:Int):=S.oD;have p:b<(j.length:Int):=S.oD;obtain⟨_,y,_⟩:=Kd.at_int (Kd.R_reads' n.1).2.2 b o p;cases y;replace o:=eq_true o;replace p:=eq_true p));go_ret;exact⟨S.eW,S.bG⟩
   ·rw[if_neg A]at H;exact absurd H (by simp)
  ·rw[if_neg z]at H;exact absurd H (by simp)
 ·obtain rfl:=Option.some.inj H;go_enter Tryz.func112,Tryz.ntmps112;go_wp2_with (first|((with_reducible refine gate_dst (N:=1) rfl ?_);refine S.bx 1 (cs:=#[.int .i64 d,.int .i64 b,.int .i64 g,.int .i64 i]) (t:=76) ?_;intro s hg F hbox hb;have c:=S.a hbox;have u:=S.geA hg;have v:=S.geA hg;replace HB:=S.sA hb;clear hb hbox hg;obtain⟨_,_,_,_,_,_,_,_⟩:=S.c4 c.1)|((with_reducible refine gate_callee (f:=113) rfl ?_);refine S.gL (some 4) Tryz.func113 #[.agg #[.int .i64 d,.int .i64 b,.int .i64 g,.int .i64 i]] ?_;(with_reducible refine(spec_IsPath.calls d b g i false _ B.1).mono ?_);rintro e G ⟨rfl,hb⟩;refine⟨_,rfl,?_⟩;replace c:=S.kb c hb;replace HB:=S.sG hb;(try clear hb)));go_ret;exact⟨S.eW,S.bG⟩
mutual
def spec_ClearBetween.l0:Nat→List (S76)→List Int→List Int→Int→List Int→List Int→Int→Option (Int)
 |0,_,_,_,_,_,_,_=>none
 |k+1,b,e,g,i,h,j,a=>if a<(h.length:Int)then((spec_IsTogether.f k b e).bind fun c=>(if c=true then((spec_IsTogether.f k b g).bind fun d=>(spec_ClearBetween.j1 k b e g i h j a d))else(spec_ClearBetween.j1 k b e g i h j a false)))else(spec_ClearBetween.j1 k b e g i h j a false)
def spec_ClearBetween.j1:Nat→List (S76)→List Int→List Int→Int→List Int→List Int→Int→Bool→Option (Int)
 |0,_,_,_,_,_,_,_,_=>none
 |k+1,d,e,f,c,g,h,a,b=>if b=true then(spec_ClearBetween.l1 k d e f c g h a 0)else(some c)
def spec_ClearBetween.l1:Nat→List (S76)→List Int→List Int→Int→List Int→List Int→Int→Int→Option (Int)
 |0,_,_,_,_,_,_,_,_=>none
 |k+1,c,m,n,o,g,h,d,e=>if e<(h.length:Int)then(if 0≤d then(if d<(g.length:Int)then((spec_FindPath.f k c (rd g d)).bind fun a=>(if 0≤a then(if a<(c.length:Int)then(if 0≤e then((spec_FindPath.f k c (rd h e)).bind fun b=>(if 0≤b then(if b<(c.length:Int)then((spec_Conflict.f k ((rd_T76 c a).f0) ((rd_T76 c a).f1) ((rd_T76 c a).f2) ((rd_T76 c a).f3) ((rd_T76 c b).f0) ((rd_T76 c b).f1) ((rd_T76 c b).f2) ((rd_T76 c b).f3)).bind fun i=>(if i=true then((spec_ClearOf.f ((rd_T76 c a).f0) ((rd_T76 c a).f1) ((rd_T76 c a).f2) ((rd_T76 c a).f3)).bind fun j=>((spec_Max.f o j).bind fun l=>(spec_ClearBetween.l1 k c m n l g h d (wrap64 (e+1)))))else(spec_ClearBetween.l1 k c m n o g h d (wrap64 (e+1)))))else(none))else(none)))else(none))else(none))else(none)))else(none))else(none))else(spec_ClearBetween.l0 k c m n o g h (wrap64 (d+1)))
end
def spec_ClearBetween.f(k:Nat)(e:List (S76))(c:List Int)(d:List Int):Option (Int):=(spec_Closes.f k c d).bind fun a=>((spec_Closes.f k d c).bind fun b=>(spec_ClearBetween.l0 k e c d 0 a b 0))
def spec_ClearBetween.T11:Bool×List (List Nat×List Nat):=(true,[([],[]),([],[]),([],[]),([],[]),([],[]),([3,4],[3,4]),([5],[5]),([2,6],[2,6]),([1,7],[1,7]),([8],[8]),([0,9,7],[0,9])])
def spec_ClearBetween.B11:List Nat:=[0,0,0,0,0,24,56,124,254,510,1023]
theorem spec_ClearBetween.tab11:rtab .any (opsOf Tryz.f80 11)=spec_ClearBetween.T11:=by kernel_rfl
theorem spec_ClearBetween.bits11:waitsOk spec_ClearBetween.T11.2 spec_ClearBetween.B11=true:=by kernel_rfl
theorem spec_ClearBetween.calls(k:Nat)(A0:Option Addr)(c0:Nat)(l:List (S76))(A1:Option Addr)(c1:Nat)(l1:List Int)(A2:Option Addr)(c2:Nat)(l2:List Int)(r:Int)(w:World)(aO:Kd.C k76 w A0 l.length l)(aP:l.length≤c0)(aQ:Kd.C (Kd.int .i64) w A1 l1.length l1)(aR:l1.length≤c1)(aS:Kd.C (Kd.int .i64) w A2 l2.length l2)(aT:l2.length≤c2)(h:spec_ClearBetween.f k l l1 l2=some r):
  Calls Tryz.prog 80 #[.slice A0 l.length c0,.slice A1 l1.length c1,.slice A2 l2.length c2] w fun e w'=>e= .returned (.int .i64 r)∧Below w.heap.size w w':=by
 have:=Tryz.underlying76;have L:=S.a aO;have ai:=S.a aP;clear aO aP;have az:=S.a aQ;have a0:=S.a aR;clear aQ aR;have aG:=S.a aS;have aH:=S.a aT;clear aS aT;have HB:=S.a (Below.refl w.heap.size w);have H:((spec_Closes.f k l1 l2).bind fun m=>((spec_Closes.f k l2 l1).bind fun p=>(spec_ClearBetween.l0 k l l1 l2 0 m p 0)))=some r:=h;clear h;replace H:=S.bd H;obtain⟨m,A4,H⟩:=H;(try dsimp only at H);replace H:=S.bd H;obtain⟨p,A5,H⟩:=H;(try dsimp only at H);have H':=S.a H;clear H;go_enter Tryz.func80,Tryz.ntmps80;go_wp2_with (first|((with_reducible refine gate_callee (f:=110) rfl ?_);refine S.gL (some 15) Tryz.func110 #[.slice A1 l1.length c1,.slice A2 l2.length c2] ?_;(with_reducible refine(spec_Closes.calls k _ _ l1 _ _ l2 m _ ?s1 a0.1 ?s3 aH.1 A4.1).mono ?_);(case s1=>exact S.cD az.1);(case s3=>exact S.cD aG.1);rintro e w6 ⟨ac,rfl,al,hb⟩;refine⟨_,rfl,?_⟩;have ae:=S.lwA al;replace HB:=S.sA hb;(try clear hb);(try clear al))|((with_reducible refine gate_callee (f:=110) rfl ?_);refine S.gL (some 18) Tryz.func110 #[.slice A2 l2.length c2,.slice A1 l1.length c1] ?_;(with_reducible refine(spec_Closes.calls k _ _ l2 _ _ l1 p _ ?s1 aH.1 ?s3 a0.1 A5.1).mono ?_);(case s1=>exact S.cA aG.1);(case s3=>exact S.cA az.1);rintro e w7 ⟨ad,rfl,al,hb⟩;refine⟨_,rfl,?_⟩;have aI:=S.rnA al ae;replace ae:=S.re ae al hb;replace HB:=S.sA hb;(try clear hb);(try clear al)));go_loopg [7,10] k (fun kq v7 bi w'=> ∃(ag:Int) (j:Int),v7= .int .i64 ag∧bi= .int .i64 j∧Aside0 (spec_ClearBetween.l0 kq l l1 l2 ag m p j=some r)∧Aside0 (kq≤k)∧Aside0 (Kd.R (Kd.int .i64) 3 w' w.heap.size (fun k_=>S.N k_ ad) ac m)∧Aside0 (Kd.R (Kd.int .i64) 3 w' w.heap.size (fun k_=>S.N k_ ac) ad p)∧Aside0 (Below w.heap.size w w'))
 case atStart=>exact⟨(0),(0),S.eA,S.eA,H',⟨Nat.le_refl _⟩,⟨by(with_reducible repeat(first|apply Kd.R_alloc|apply Kd.R_drewN|apply Kd.R_drew));exact Kd.R_mono ae.1 (fun _ hk=>hk.2)⟩,⟨by(with_reducible repeat(first|apply Kd.R_alloc|apply Kd.R_drewN|apply Kd.R_drew));exact Kd.R_mono aI.1 (fun _ hk=>hk.2)⟩,⟨S.bA⟩⟩
 case round=>
  clear H';try clear c1
  try clear c2
  obtain⟨ag,j,rfl,rfl,HA,af,b,c,HB⟩:=hrel
  cases gk with
  |zero=>exact absurd HA.1 (by simp[spec_ClearBetween.l0])
  |succ k1=>
   have H:=HA.1;clear HA;simp only[spec_ClearBetween.l0]at H;have aJ:=S.a H;clear H;go_upto_region 5 with(fail);go_cut [32] (fun bj wc=> ∃(kq:Nat) (aj:Bool),bj= .bool aj∧Aside0 (spec_ClearBetween.j1 kq l l1 l2 ag m p j aj=some r)∧Aside0 (kq≤k1)∧Aside0 (Kd.R (Kd.int .i64) 3 wc w.heap.size (fun k_=>S.N k_ ad) ac m)∧Aside0 (Kd.R (Kd.int .i64) 3 wc w.heap.size (fun k_=>S.N k_ ac) ad p)∧Aside0 (Below w.heap.size w wc))
   case first=>
    have H:=aJ.1;clear aJ;replace H:=S.dc H;rcases H with⟨H,ah⟩|⟨H,ah⟩
    ·(first|rw[ah]|(simp only[i64_w,i32_w];rw[ah])|skip);replace H:=S.bd H;obtain⟨_,aU,H⟩:=H;(try dsimp only at H);replace H:=S.db H;rcases H with⟨rfl,H⟩|⟨rfl,H⟩
     ·replace H:=S.bd H;obtain⟨a8,bk,H⟩:=H;(try dsimp only at H);have H':=S.a H;clear H;obtain⟨_,_,aV⟩:=Kd.R_slice b.1;subst aV;go_wp2_with (first|(go_at_call 78;(with_reducible refine(spec_IsTogether.calls k1 _ _ l _ _ l1 true _ ?s1 ai.1 ?s3 a0.1 aU.1).mono ?_);(case s1=>exact S.cA L.1);(case s3=>exact S.cA az.1);rintro e b3 ⟨rfl,hb⟩;replace b:=S.rb b hb;replace c:=S.rb c hb;replace HB:=S.sA hb;(try clear hb))|(go_at_call 78;(with_reducible refine(spec_IsTogether.calls k1 _ _ l _ _ l2 a8 _ ?s1 ai.1 ?s3 aH.1 bk.1).mono ?_);(case s1=>exact S.cA L.1);(case s3=>exact S.cA aG.1);rintro e b4 ⟨rfl,hb⟩;replace b:=S.rb b hb;replace c:=S.rb c hb;replace HB:=S.sA hb;(try clear hb)));go_meet
      case rel=>exact⟨_,(a8),S.eA,H',⟨by have:=af.1;first|omega|exact Nat.le_refl _⟩,⟨S.uR b.1⟩,⟨S.uR c.1⟩,⟨S.bA⟩⟩
     ·have H':=S.a H;clear H;obtain⟨_,_,aW⟩:=Kd.R_slice b.1;subst aW;go_wp2_with (first|(go_at_call 78;(with_reducible refine(spec_IsTogether.calls k1 _ _ l _ _ l1 false _ ?s1 ai.1 ?s3 a0.1 aU.1).mono ?_);(case s1=>exact S.cA L.1);(case s3=>exact S.cA az.1);rintro e b5 ⟨rfl,hb⟩;replace b:=S.rb b hb;replace c:=S.rb c hb;replace HB:=S.sA hb;(try clear hb)));go_meet
      case rel=>exact⟨_,(false),S.eA,H',⟨by have:=af.1;first|omega|exact Nat.le_refl _⟩,⟨S.uR b.1⟩,⟨S.uR c.1⟩,⟨S.bA⟩⟩
    ·(first|rw[ah]|(simp only[i64_w,i32_w];rw[ah])|skip);have H':=S.a H;clear H;obtain⟨_,_,aX⟩:=Kd.R_slice b.1;subst aX;go_wp2;go_meet
     case rel=>exact⟨_,(false),S.eA,H',⟨by have:=af.1;first|omega|exact Nat.le_refl _⟩,⟨S.uR b.1⟩,⟨S.uR c.1⟩,⟨S.bA⟩⟩
   case rest=>
    clear aJ;try clear c1
    try clear c2
    obtain⟨kq,aj,rfl,HA,am,b,c,HB⟩:=hcut
    cases kq with
    |zero=>exact absurd HA.1 (by simp[spec_ClearBetween.j1])
    |succ aY=>
     have H:=HA.1;clear HA;simp only[spec_ClearBetween.j1]at H;replace H:=S.db H;rcases H with⟨rfl,H⟩|⟨rfl,H⟩
     ·have H':=S.a H;clear H;go_wp2;go_loopg [7,11] aY (fun kq v7 bl w'=> ∃(M:Int) (o:Int),v7= .int .i64 M∧bl= .int .i64 o∧Aside0 (spec_ClearBetween.l1 kq l l1 l2 M m p j o=some r)∧Aside0 (kq≤aY)∧Aside0 (Kd.R (Kd.int .i64) 3 w' w.heap.size (fun k_=>S.N k_ ad) ac m)∧Aside0 (Kd.R (Kd.int .i64) 3 w' w.heap.size (fun k_=>S.N k_ ac) ad p)∧Aside0 (Below w.heap.size w w'))
      case atStart=>exact⟨(ag),(0),S.eA,S.eA,H',⟨Nat.le_refl _⟩,⟨S.uR b.1⟩,⟨S.uR c.1⟩,⟨S.bA⟩⟩
      case round=>
       clear H';try clear c1
       try clear c2
       try clear b6
       obtain⟨M,o,rfl,rfl,HA,an,b,c,HB⟩:=hrel
       cases gk with
       |zero=>exact absurd HA.1 (by simp[spec_ClearBetween.l1])
       |succ k3=>
        have H:=HA.1;clear HA;simp only[spec_ClearBetween.l1]at H;replace H:=S.dc H;rcases H with⟨H,aK⟩|⟨H,aK⟩
        ·by_cases a1:0≤j
         ·rw[if_pos a1]at H;have bm:decide (0≤j)=true:=decide_eq_true a1;clear a1
          by_cases a2:j<(m.length:Int)
          ·rw[if_pos a2]at H;have bn:decide (j<(m.length:Int))=true:=decide_eq_true a2;clear a2;replace H:=S.bd H;obtain⟨d,aZ,H⟩:=H;(try dsimp only at H)
           by_cases a3:0≤d
           ·rw[if_pos a3]at H;have bo:decide (0≤d)=true:=decide_eq_true a3;clear a3
            by_cases a4:d<(l.length:Int)
            ·rw[if_pos a4]at H;have bp:decide (d<(l.length:Int))=true:=decide_eq_true a4;clear a4
             by_cases a5:0≤o
             ·rw[if_pos a5]at H;have bq:decide (0≤o)=true:=decide_eq_true a5;clear a5;replace H:=S.bd H;obtain⟨i,ba,H⟩:=H;(try dsimp only at H)
              by_cases a6:0≤i
              ·rw[if_pos a6]at H;have br:decide (0≤i)=true:=decide_eq_true a6;clear a6
               by_cases a7:i<(l.length:Int)
               ·rw[if_pos a7]at H;have bt:decide (i<(l.length:Int))=true:=decide_eq_true a7;clear a7;replace H:=S.bd H;obtain⟨_,bb,H⟩:=H;(try dsimp only at H);replace H:=S.db H;rcases H with⟨rfl,H⟩|⟨rfl,H⟩
                ·replace H:=S.bd H;obtain⟨ao,bu,H⟩:=H;(try dsimp only at H);replace H:=S.bd H;obtain⟨a9,bv,H⟩:=H;(try dsimp only at H);have H':=S.a H;clear H;obtain⟨aA,aB,bc⟩:=Kd.R_slice c.1;subst bc;obtain⟨_,aC,be⟩:=Kd.R_slice b.1;subst be;have O:0≤(j:Int):=S.oD;have T:j<(m.length:Int):=S.oD;obtain⟨U,ap,aq⟩:=Kd.at_int (Kd.R_reads' b.1).2.2 j O T;cases ap;replace O:=eq_true O;replace T:=eq_true T
                 try go_wp2_with (first|((with_reducible refine gate_callee (f:=81) rfl ?_);refine S.gL (some 47) Tryz.func81 #[.slice A0 l.length c0,.int .i64 (rd m j)] ?_;(with_reducible refine(spec_FindPath.calls k3 _ _ l (rd m j) d _ ?s1 ai.1 aZ.1).mono ?_);(case s1=>exact S.cA L.1);rintro e w' ⟨rfl,⟨nd,rfl⟩⟩;refine⟨_,rfl,?_⟩;(try(rw[drewN_self wr];generalize hq_:World.drewN wr _=wr;have ar:Aside0 (Kd.R (Kd.int .i64) 3 wr w.heap.size (fun k_=>S.N k_ (.slice aA p.length aB)) (.slice (some U) m.length aC) m):=⟨by rw[←hq_];exact(S.uR b.1)⟩;have au:Aside0 (Kd.R (Kd.int .i64) 3 wr w.heap.size (fun k_=>some k_≠(.slice (some U) m.length aC:Value).ownBlock) (.slice aA p.length aB) p):=⟨by rw[←hq_];exact(S.uR c.1)⟩;have av:Aside0 (Below w.heap.size w wr):=⟨by rw[←hq_];exact S.bA⟩;clear b c HB hq_;have b:=ar;have c:=au;have HB:=av;clear ar au av));have V:0≤(d:Int):=S.oD;have W:d<(l.length:Int):=S.oD;obtain⟨X,aw,E,F,G,I⟩:=at_T76 L.1 d V W;cases aw;replace E:=S.hb HB E;replace F:=S.hb HB F;replace G:=S.hb HB G;replace I:=S.hb HB I;replace V:=eq_true V;replace W:=eq_true W)|((with_reducible refine gate_dst (N:=12) rfl ?_);refine S.bx 12 (cs:=#[.int .i64 0,.int .i64 0,.int .i64 0,.int .i64 0]) (t:=76) ?_;intro D hg bw hbox hb;replace b:=S.rb b hb;replace c:=S.rb c hb;have g:=S.a hbox;have aL:=S.geA hg;have aM:=S.geA hg;replace HB:=S.sA hb;clear hb hbox hg;obtain⟨_,_,_,_,_,_,_,_⟩:=S.c4 g.1))
                 generalize hq_:((((bw.setCell ⟨D,0,none⟩ (.int .i64 ((rd_T76 l d).f0))).setCell ⟨D,1,none⟩ (.int .i64 ((rd_T76 l d).f1))).setCell ⟨D,2,none⟩ (.int .i64 ((rd_T76 l d).f2))).setCell ⟨D,3,none⟩ (.int .i64 ((rd_T76 l d).f3)))=bz;replace b:=S.f4 hq_ b g;replace c:=S.f4 hq_ c g;replace g:=S.p4 hq_ g;replace HB:=S.bQ hq_;clear hq_;replace b:=S.dr b;replace c:=S.dr c;replace g:=S.a (blk_drew g.1);replace HB:=S.a (below_drew1 HB.1);have Y:0≤(o:Int):=S.oD;have Z:o<(p.length:Int):=S.oD;obtain⟨aN,ax,J⟩:=Kd.at_int (Kd.R_reads' c.1).2.2 o Y Z;cases ax;replace Y:=eq_true Y;replace Z:=eq_true Z;have aa:0≤(i:Int):=S.oD;have ab:i<(l.length:Int):=S.oD;obtain⟨ak,ay,s,u,v,x⟩:=at_T76 L.1 i aa ab;have y:=x;have z:=v;have A:=u;have B:=s;obtain rfl:X=ak:=(by injection ay);replace s:=S.hb HB s;replace u:=S.hb HB u;replace v:=S.hb HB v;replace x:=S.hb HB x;replace aa:=eq_true aa;replace ab:=eq_true ab;refine S.st (n:=11) (ds:=[]) (S.bs 2048) (fun w_ h_=>have x_:=S.d4 (S.Q h_ g.1) (And.intro (S.q h_ J) (And.intro (S.q h_ (S.hb HB B)) (And.intro (S.q h_ (S.hb HB A)) (And.intro (S.q h_ (S.hb HB z)) (S.q h_ (S.hb HB y))))));x_) (fun hHeld=>?_);refine with_tabW spec_ClearBetween.tab11 spec_ClearBetween.bits11 (fun HT_ HW_=>?_);generalize bz.drew=b7 at b c g HB J s u v x hHeld⊢;refine S.pS 1 51 ?_;refine S.pS 2 52 ?_;refine S.pS 3 53 ?_;refine S.pS 4 54 ?_;refine S.pS 5 55 ?_;refine S.tK 0 50 (S.bs 2111) ?_;refine S.tK 6 56 (S.bs 2175) ?_;refine S.oN 7 57 (S.bs 2303) (fun K hK=>?_);refine S.go Tryz.func81 #[.slice (some X) l.length c0,.int .i64 (rd p o)] ?_
                 with_reducible refine(spec_FindPath.calls k3 _ _ l (rd p o) i _ ?s1 ?s2 ba.1).mono ?_
                 (case s1=>exact S.cA L.1);(case s2=>exact ai.1);rintro e w' ⟨rfl,⟨nd,rfl⟩⟩;refine⟨_,rfl,?_⟩;refine hK.out _ _ (S.d4 g.1 (And.intro (hHeld.2.2.2.2.1) (And.intro ((S.hb HB B:)) (And.intro ((S.hb HB A:)) (And.intro ((S.hb HB z:)) ((S.hb HB y:))))))) (fun hHeld=>?_);clear hK K;refine S.nm 57 ?_;refine S.pS 8 58 ?_;refine S.tK 9 59 (S.bs 3071) ?_;refine S.oN 10 60 (S.bs 4095) (fun K hK=>?_);refine S.go Tryz.func109 #[.agg #[.int .i64 ((rd_T76 l d).f0),.int .i64 ((rd_T76 l d).f1),.int .i64 ((rd_T76 l d).f2),.int .i64 ((rd_T76 l d).f3)],.agg #[.int .i64 ((rd_T76 l i).f0),.int .i64 ((rd_T76 l i).f1),.int .i64 ((rd_T76 l i).f2),.int .i64 ((rd_T76 l i).f3)]] ?_
                 with_reducible refine(spec_Conflict.calls k3 ((rd_T76 l d).f0) ((rd_T76 l d).f1) ((rd_T76 l d).f2) ((rd_T76 l d).f3) ((rd_T76 l i).f0) ((rd_T76 l i).f1) ((rd_T76 l i).f2) ((rd_T76 l i).f3) true _ bb.1).mono ?_
                 rintro e b8 ⟨rfl,hb⟩;have HS4_:=(hb.cell (World.block_lt_of_cell? _ _ (hHeld.2.2.2.2.1))).trans (hHeld.2.2.2.2.1);refine⟨_,rfl,?_⟩;replace b:=S.rb b hb;replace c:=S.rb c hb;replace g:=S.kb g hb;replace HB:=S.sG hb;(try clear hb);(try clear b0);(try clear hk);(try clear hi);refine hK.out _ _ (S.d4 g.1 (And.intro (HS4_) (And.intro ((S.hb HB B:)) (And.intro ((S.hb HB A:)) (And.intro ((S.hb HB z:)) ((S.hb HB y:))))))) (fun hHeld=>?_);clear hK K;refine S.nm 60 ?_;refine done_ (done_of HT_.1 (by kernel_rfl)) ?_;obtain⟨_,_,_,_,_,_,_,_⟩:=S.c4 g.1
                 try go_wp2_with (first|((with_reducible refine gate_callee (f:=112) rfl ?_);refine S.gL (some 63) Tryz.func112 #[.agg #[.int .i64 ((rd_T76 l d).f0),.int .i64 ((rd_T76 l d).f1),.int .i64 ((rd_T76 l d).f2),.int .i64 ((rd_T76 l d).f3)]] ?_;(with_reducible refine(spec_ClearOf.calls ((rd_T76 l d).f0) ((rd_T76 l d).f1) ((rd_T76 l d).f2) ((rd_T76 l d).f3) ao _ bu.1).mono ?_);rintro e b9 ⟨rfl,hb⟩;refine⟨_,rfl,?_⟩;replace b:=S.rb b hb;replace c:=S.rb c hb;replace g:=S.kb g hb;replace HB:=S.sG hb;(try clear hb))|((with_reducible refine gate_callee (f:=111) rfl ?_);refine S.gL (some 64) Tryz.func111 #[.int .i64 M,.int .i64 ao] ?_;(with_reducible refine(spec_Max.calls M ao a9 _ bv.1).mono ?_);rintro e w' ⟨rfl,⟨nd,rfl⟩⟩;refine⟨_,rfl,?_⟩))
                 go_roundg k3
                 case measure=>have:=af.1;have:=am.1;have:=an.1;omega
                 case rel=>exact⟨(a9),(wrap64 (o+1)),S.eA,S.eA,H',⟨by have:=af.1;have:=am.1;have:=an.1;omega⟩,⟨S.uR b.1⟩,⟨S.uR c.1⟩,⟨S.bG⟩⟩
                ·have H':=S.a H;clear H;obtain⟨aD,aE,bf⟩:=Kd.R_slice c.1;subst bf;obtain⟨_,aF,bg⟩:=Kd.R_slice b.1;subst bg;have O:0≤(j:Int):=S.oD;have T:j<(m.length:Int):=S.oD;obtain⟨U,ap,aq⟩:=Kd.at_int (Kd.R_reads' b.1).2.2 j O T;cases ap;replace O:=eq_true O;replace T:=eq_true T
                 try go_wp2_with (first|((with_reducible refine gate_callee (f:=81) rfl ?_);refine S.gL (some 47) Tryz.func81 #[.slice A0 l.length c0,.int .i64 (rd m j)] ?_;(with_reducible refine(spec_FindPath.calls k3 _ _ l (rd m j) d _ ?s1 ai.1 aZ.1).mono ?_);(case s1=>exact S.cA L.1);rintro e w' ⟨rfl,⟨nd,rfl⟩⟩;refine⟨_,rfl,?_⟩;(try(rw[drewN_self wr];generalize hq_:World.drewN wr _=wr;have ar:Aside0 (Kd.R (Kd.int .i64) 3 wr w.heap.size (fun k_=>S.N k_ (.slice aD p.length aE)) (.slice (some U) m.length aF) m):=⟨by rw[←hq_];exact(S.uR b.1)⟩;have au:Aside0 (Kd.R (Kd.int .i64) 3 wr w.heap.size (fun k_=>some k_≠(.slice (some U) m.length aF:Value).ownBlock) (.slice aD p.length aE) p):=⟨by rw[←hq_];exact(S.uR c.1)⟩;have av:Aside0 (Below w.heap.size w wr):=⟨by rw[←hq_];exact S.bA⟩;clear b c HB hq_;have b:=ar;have c:=au;have HB:=av;clear ar au av));have V:0≤(d:Int):=S.oD;have W:d<(l.length:Int):=S.oD;obtain⟨X,aw,E,F,G,I⟩:=at_T76 L.1 d V W;cases aw;replace E:=S.hb HB E;replace F:=S.hb HB F;replace G:=S.hb HB G;replace I:=S.hb HB I;replace V:=eq_true V;replace W:=eq_true W)|((with_reducible refine gate_dst (N:=12) rfl ?_);refine S.bx 12 (cs:=#[.int .i64 0,.int .i64 0,.int .i64 0,.int .i64 0]) (t:=76) ?_;intro D hg b1 hbox hb;replace b:=S.rb b hb;replace c:=S.rb c hb;have g:=S.a hbox;have aL:=S.geA hg;have aM:=S.geA hg;replace HB:=S.sA hb;clear hb hbox hg;obtain⟨_,_,_,_,_,_,_,_⟩:=S.c4 g.1))
                 generalize hq_:((((b1.setCell ⟨D,0,none⟩ (.int .i64 ((rd_T76 l d).f0))).setCell ⟨D,1,none⟩ (.int .i64 ((rd_T76 l d).f1))).setCell ⟨D,2,none⟩ (.int .i64 ((rd_T76 l d).f2))).setCell ⟨D,3,none⟩ (.int .i64 ((rd_T76 l d).f3)))=b2;replace b:=S.f4 hq_ b g;replace c:=S.f4 hq_ c g;replace g:=S.p4 hq_ g;replace HB:=S.bQ hq_;clear hq_;replace b:=S.dr b;replace c:=S.dr c;replace g:=S.a (blk_drew g.1);replace HB:=S.a (below_drew1 HB.1);have Y:0≤(o:Int):=S.oD;have Z:o<(p.length:Int):=S.oD;obtain⟨aN,ax,J⟩:=Kd.at_int (Kd.R_reads' c.1).2.2 o Y Z;cases ax;replace Y:=eq_true Y;replace Z:=eq_true Z;have aa:0≤(i:Int):=S.oD;have ab:i<(l.length:Int):=S.oD;obtain⟨ak,ay,s,u,v,x⟩:=at_T76 L.1 i aa ab;have y:=x;have z:=v;have A:=u;have B:=s;obtain rfl:X=ak:=(by injection ay);replace s:=S.hb HB s;replace u:=S.hb HB u;replace v:=S.hb HB v;replace x:=S.hb HB x;replace aa:=eq_true aa;replace ab:=eq_true ab;refine S.st (n:=11) (ds:=[]) (S.bs 2048) (fun w_ h_=>have x_:=S.d4 (S.Q h_ g.1) (And.intro (S.q h_ J) (And.intro (S.q h_ (S.hb HB B)) (And.intro (S.q h_ (S.hb HB A)) (And.intro (S.q h_ (S.hb HB z)) (S.q h_ (S.hb HB y))))));x_) (fun hHeld=>?_);refine with_tabW spec_ClearBetween.tab11 spec_ClearBetween.bits11 (fun HT_ HW_=>?_);generalize b2.drew=bB at b c g HB J s u v x hHeld⊢;refine S.pS 1 51 ?_;refine S.pS 2 52 ?_;refine S.pS 3 53 ?_;refine S.pS 4 54 ?_;refine S.pS 5 55 ?_;refine S.tK 0 50 (S.bs 2111) ?_;refine S.tK 6 56 (S.bs 2175) ?_;refine S.oN 7 57 (S.bs 2303) (fun K hK=>?_);refine S.go Tryz.func81 #[.slice (some X) l.length c0,.int .i64 (rd p o)] ?_
                 with_reducible refine(spec_FindPath.calls k3 _ _ l (rd p o) i _ ?s1 ?s2 ba.1).mono ?_
                 (case s1=>exact S.cA L.1);(case s2=>exact ai.1);rintro e w' ⟨rfl,⟨nd,rfl⟩⟩;refine⟨_,rfl,?_⟩;refine hK.out _ _ (S.d4 g.1 (And.intro (hHeld.2.2.2.2.1) (And.intro ((S.hb HB B:)) (And.intro ((S.hb HB A:)) (And.intro ((S.hb HB z:)) ((S.hb HB y:))))))) (fun hHeld=>?_);clear hK K;refine S.nm 57 ?_;refine S.pS 8 58 ?_;refine S.tK 9 59 (S.bs 3071) ?_;refine S.oN 10 60 (S.bs 4095) (fun K hK=>?_);refine S.go Tryz.func109 #[.agg #[.int .i64 ((rd_T76 l d).f0),.int .i64 ((rd_T76 l d).f1),.int .i64 ((rd_T76 l d).f2),.int .i64 ((rd_T76 l d).f3)],.agg #[.int .i64 ((rd_T76 l i).f0),.int .i64 ((rd_T76 l i).f1),.int .i64 ((rd_T76 l i).f2),.int .i64 ((rd_T76 l i).f3)]] ?_
                 with_reducible refine(spec_Conflict.calls k3 ((rd_T76 l d).f0) ((rd_T76 l d).f1) ((rd_T76 l d).f2) ((rd_T76 l d).f3) ((rd_T76 l i).f0) ((rd_T76 l i).f1) ((rd_T76 l i).f2) ((rd_T76 l i).f3) false _ bb.1).mono ?_
                 rintro e bC ⟨rfl,hb⟩;have HS4_:=(hb.cell (World.block_lt_of_cell? _ _ (hHeld.2.2.2.2.1))).trans (hHeld.2.2.2.2.1);refine⟨_,rfl,?_⟩;replace b:=S.rb b hb;replace c:=S.rb c hb;replace g:=S.kb g hb;replace HB:=S.sG hb;(try clear hb);(try clear b0);(try clear hk);(try clear hi);refine hK.out _ _ (S.d4 g.1 (And.intro (HS4_) (And.intro ((S.hb HB B:)) (And.intro ((S.hb HB A:)) (And.intro ((S.hb HB z:)) ((S.hb HB y:))))))) (fun hHeld=>?_);clear hK K;refine S.nm 60 ?_;refine done_ (done_of HT_.1 (by kernel_rfl)) ?_;try go_wp2
                 go_roundg k3
                 case measure=>have:=af.1;have:=am.1;have:=an.1;omega
                 case rel=>exact⟨(M),(wrap64 (o+1)),S.eA,S.eA,H',⟨by have:=af.1;have:=am.1;have:=an.1;omega⟩,⟨S.uR b.1⟩,⟨S.uR c.1⟩,⟨S.bG⟩⟩
               ·rw[if_neg a7]at H;exact absurd H (by simp)
              ·rw[if_neg a6]at H;exact absurd H (by simp)
             ·rw[if_neg a5]at H;exact absurd H (by simp)
            ·rw[if_neg a4]at H;exact absurd H (by simp)
           ·rw[if_neg a3]at H;exact absurd H (by simp)
          ·rw[if_neg a2]at H;exact absurd H (by simp)
         ·rw[if_neg a1]at H;exact absurd H (by simp)
        ·have H':=S.a H;clear H;obtain⟨_,_,bh⟩:=Kd.R_slice c.1;subst bh;go_wp2;go_roundg k3
         case measure=>have:=af.1;have:=am.1;have:=an.1;omega
         case rel=>exact⟨(M),(wrap64 (j+1)),S.eA,S.eA,H',⟨by have:=af.1;have:=am.1;have:=an.1;omega⟩,⟨S.uR b.1⟩,⟨S.uR c.1⟩,⟨S.bA⟩⟩
     ·obtain rfl:=Option.some.inj H;go_wp2;go_ret;exact⟨S.eW,S.bA⟩
def spec_IsControl.j0:Nat→List (S76)→Bool→List Int→Int→List Int→Int→Option (Bool)
 |0,_,_,_,_,_,_=>none
 |k+1,i,h,c,d,a,b=>if h=true then(some false)else(if(a.length:Int)=0 then(some (b==0))else((spec_ClearBetween.f k i c a).bind fun e=>((spec_l1In.f b 1 e).bind fun g=>(some g))))
def spec_IsControl.f(k:Nat)(e:List (S76))(a:List Int)(b:Int)(c:List Int)(d:Int):Option (Bool):=if(a.length:Int)=0 then(spec_IsControl.j0 k e true a b c d)else((spec_IsTogether.f k e a).bind fun g=>(if g=true then((spec_IsTogether.f k e c).bind fun h=>(if h=true then((spec_l1In.f b 0 1000000).bind fun i=>(spec_IsControl.j0 k e (!i) a b c d))else(spec_IsControl.j0 k e true a b c d)))else(spec_IsControl.j0 k e true a b c d)))
def spec_IsControl.T5:Bool×List (List Nat×List Nat):=(true,[([],[]),([0],[0]),([],[]),([],[]),([3],[3]),([],[]),([5],[5]),([2,4,6],[2,4,6]),([1,7,7],[1,7]),([8,8,0,1,2,3,4,5,6,7,8],[8])])
def spec_IsControl.B5:List Nat:=[0,1,0,0,8,0,32,124,255,511]
theorem spec_IsControl.tab5:rtab .any (opsOf Tryz.f37 5)=spec_IsControl.T5:=by kernel_rfl
theorem spec_IsControl.bits5:waitsOk spec_IsControl.T5.2 spec_IsControl.B5=true:=by kernel_rfl
theorem spec_IsControl.calls(k:Nat)(A0:Option Addr)(c0:Nat)(j:List (S76))(o:Option Addr)(p:Nat)(c:List Int)(g:Int)(q:Option Addr)(s:Nat)(d:List Int)(i:Int)(r:Bool)(w:World)(W:Kd.C k76 w A0 j.length j)(X:j.length≤c0)(E:Kd.C (Kd.int .i64) w o c.length c)(F:c.length≤p)(G:Kd.C (Kd.int .i64) w q d.length d)(I:d.length≤s)(h:spec_IsControl.f k j c g d i=some r):
  Calls Tryz.prog 37 #[.slice A0 j.length c0,.agg #[.slice o c.length p,.int .i64 g,.slice q d.length s,.int .i64 i]] w fun e w'=>e= .returned (.bool r)∧Below w.heap.size w w':=by
 have:=Tryz.underlying32;have B:=S.a W;have D:=S.a X;clear W X;have l:=S.a E;have m:=S.a F;clear E F;have x:=S.a G;have y:=S.a I;clear G I;have HB:=S.a (Below.refl w.heap.size w);have H:(if(c.length:Int)=0 then(spec_IsControl.j0 k j true c g d i)else((spec_IsTogether.f k j c).bind fun L=>(if L=true then((spec_IsTogether.f k j d).bind fun M=>(if M=true then((spec_l1In.f g 0 1000000).bind fun A=>(spec_IsControl.j0 k j (!A) c g d i))else(spec_IsControl.j0 k j true c g d i)))else(spec_IsControl.j0 k j true c g d i))))=some r:=h;clear h;have R:=S.a H;clear H;go_enter Tryz.func37,Tryz.ntmps37;go_upto_region 1 with(first|((with_reducible refine gate_dst (N:=3) rfl ?_);refine S.bx 3 (cs:=#[.slice o c.length p,.int .i64 g,.slice q d.length s,.int .i64 i]) (t:=32) ?_;intro T hg w4 hbox hb;have b:=S.a hbox;have:=S.geA hg;have:=S.geA hg;replace HB:=S.sA hb;clear hb hbox hg));(try simp only[Act.put,List.setIfInBounds_toArray,List.set_cons_zero,List.set_cons_succ]);go_cut [28] (fun aa wc=> ∃(kq:Nat) (z:Bool),aa= .bool z∧Aside0 (spec_IsControl.j0 kq j z c g d i=some r)∧Aside0 (kq≤k)∧Aside0 (wc.heap[T]?=some (.cells #[(.slice o c.length p),.int .i64 g,(.slice q d.length s),.int .i64 i] 32 (0,0)))∧Aside0 (Below w.heap.size w wc))
 case first=>
  have H:=R.1;clear R
  by_cases O:(c.length:Int)=0
  ·rw[if_pos O]at H;have u:((c.length:Int)==0)=true:=beq_iff_eq.mpr O;have Y:((c.length:Int) !=0)=false:=bne_eq_false_iff_eq.mpr O;clear O;(first|rw[u]|(simp only[i64_w,i32_w];rw[u])|skip);have H':=S.a H;clear H;obtain⟨_,_,_,_,_,_,_,_⟩:=S.c4 b.1;go_wp2;go_meet
   case rel=>exact⟨_,(true),S.eA,H',S.le,⟨S.uB b.1⟩,⟨S.bG⟩⟩
  ·rw[if_neg O]at H;have u:((c.length:Int)==0)=false:=beq_eq_false_iff_ne.mpr O;have Y:((c.length:Int) !=0)=true:=bne_iff_ne.mpr O;have ag: ¬(c=[]):=fun h_=>O (by rw[h_];rfl)
   (first|rw[u]|(simp only[i64_w,i32_w];rw[u])|skip);replace H:=S.bd H;obtain⟨L,A7,H⟩:=H;(try dsimp only at H);replace H:=S.db H;rcases H with⟨rfl,H⟩|⟨rfl,H⟩
   ·replace H:=S.bd H;obtain⟨M,A9,H⟩:=H;(try dsimp only at H);replace H:=S.db H;rcases H with⟨rfl,H⟩|⟨rfl,H⟩
    ·replace H:=S.bd H;obtain⟨A,ab,H⟩:=H;(try dsimp only at H);have H':=S.a H;clear H;obtain⟨_,_,_,_,_,_,_,_⟩:=S.c4 b.1;go_wp2_with (first|(go_at_call 78;(with_reducible refine(spec_IsTogether.calls k _ _ j _ _ c true _ ?s1 D.1 ?s3 m.1 A7.1).mono ?_);(case s1=>exact S.cA B.1);(case s3=>exact S.cA l.1);rintro e ah ⟨rfl,hb⟩;replace b:=S.kb b hb;replace HB:=S.sG hb;(try clear hb);obtain⟨_,_,_,_,_,_,_,_⟩:=S.c4 b.1)|(go_at_call 78;(with_reducible refine(spec_IsTogether.calls k _ _ j _ _ d true _ ?s1 D.1 ?s3 y.1 A9.1).mono ?_);(case s1=>exact S.cA B.1);(case s3=>exact S.cA x.1);rintro e ai ⟨rfl,hb⟩;replace b:=S.kb b hb;replace HB:=S.sG hb;(try clear hb);obtain⟨_,_,_,_,_,_,_,_⟩:=S.c4 b.1)|(go_at_call 79;(with_reducible refine(spec_l1In.calls g 0 1000000 A _ ab.1).mono ?_);rintro e w' ⟨rfl,⟨nd,rfl⟩⟩));go_meet
     case rel=>exact⟨_,(!A),S.eA,H',S.le,⟨S.uB b.1⟩,⟨S.bG⟩⟩
    ·have H':=S.a H;clear H;obtain⟨_,_,_,_,_,_,_,_⟩:=S.c4 b.1;go_wp2_with (first|(go_at_call 78;(with_reducible refine(spec_IsTogether.calls k _ _ j _ _ c true _ ?s1 D.1 ?s3 m.1 A7.1).mono ?_);(case s1=>exact S.cA B.1);(case s3=>exact S.cA l.1);rintro e aj ⟨rfl,hb⟩;replace b:=S.kb b hb;replace HB:=S.sG hb;(try clear hb);obtain⟨_,_,_,_,_,_,_,_⟩:=S.c4 b.1)|(go_at_call 78;(with_reducible refine(spec_IsTogether.calls k _ _ j _ _ d false _ ?s1 D.1 ?s3 y.1 A9.1).mono ?_);(case s1=>exact S.cA B.1);(case s3=>exact S.cA x.1);rintro e ak ⟨rfl,hb⟩;replace b:=S.kb b hb;replace HB:=S.sG hb;(try clear hb)));go_meet
     case rel=>exact⟨_,(true),S.eA,H',S.le,⟨S.uB b.1⟩,⟨S.bG⟩⟩
   ·have H':=S.a H;clear H;obtain⟨_,_,_,_,_,_,_,_⟩:=S.c4 b.1;go_wp2_with (first|(go_at_call 78;(with_reducible refine(spec_IsTogether.calls k _ _ j _ _ c false _ ?s1 D.1 ?s3 m.1 A7.1).mono ?_);(case s1=>exact S.cA B.1);(case s3=>exact S.cA l.1);rintro e al ⟨rfl,hb⟩;replace b:=S.kb b hb;replace HB:=S.sG hb;(try clear hb)));go_meet
    case rel=>exact⟨_,(true),S.eA,H',S.le,⟨S.uB b.1⟩,⟨S.bG⟩⟩
 case rest=>
  clear R;obtain⟨kq,z,rfl,HA,_,b,HB⟩:=hcut
  cases kq with
  |zero=>exact absurd HA.1 (by simp[spec_IsControl.j0])
  |succ ac=>
   have H:=HA.1;clear HA;simp only[spec_IsControl.j0]at H;replace H:=S.db H;rcases H with⟨rfl,H⟩|⟨rfl,H⟩
   ·obtain rfl:=Option.some.inj H;go_wp2;go_ret;exact⟨S.eW,S.bG⟩
   ·by_cases v:(d.length:Int)=0
    ·rw[if_pos v]at H;have U:((d.length:Int)==0)=true:=beq_iff_eq.mpr v;have V:((d.length:Int) !=0)=false:=bne_eq_false_iff_eq.mpr v;clear v;obtain rfl:=Option.some.inj H;obtain⟨_,_,_,_,_,_,_,_⟩:=S.c4 b.1;go_wp2;go_ret;exact⟨S.eW,S.bG⟩
    ·rw[if_neg v]at H;have U:((d.length:Int)==0)=false:=beq_eq_false_iff_ne.mpr v;have V:((d.length:Int) !=0)=true:=bne_iff_ne.mpr v;have ad: ¬(d=[]):=fun h_=>v (by rw[h_];rfl)
     replace H:=S.bd H;obtain⟨J,ae,H⟩:=H;(try dsimp only at H);replace H:=S.bd H;obtain⟨Z,af,H⟩:=H;(try dsimp only at H);obtain rfl:=Option.some.inj H;obtain⟨_,_,_,_,_,_,_,_⟩:=S.c4 b.1;try go_wp2
     replace b:=S.a (blk_drew b.1);replace HB:=S.a (below_drew1 HB.1);refine S.st (n:=10) (ds:=[]) (S.bs 1024) (fun w_ h_=>have x_:=S.e4 (S.Q h_ b.1);x_) (fun hHeld=>?_);refine with_tabW spec_IsControl.tab5 spec_IsControl.bits5 (fun HT_ HW_=>?_);generalize wc.drew=am at b HB hHeld⊢;refine S.pS 0 36 ?_;refine S.pS 2 38 ?_;refine S.pS 3 39 ?_;refine S.pS 5 41 ?_;refine S.tK 1 37 (S.bs 1071) ?_;refine S.tK 4 40 (S.bs 1087) ?_;refine S.tK 6 42 (S.bs 1151) ?_;refine S.oN 7 43 (S.bs 1279) (fun K hK=>?_);refine S.go Tryz.func80 #[.slice A0 j.length c0,.slice o c.length p,.slice q d.length s] ?_
     with_reducible refine(spec_ClearBetween.calls ac _ _ j _ _ c _ _ d J _ ?s1 ?s2 ?s3 ?s4 ?s5 ?s6 ae.1).mono ?_
     (case s1=>exact S.cA B.1);(case s2=>exact D.1);(case s3=>exact S.cA l.1);(case s4=>exact m.1);(case s5=>exact S.cA x.1);(case s6=>exact y.1);rintro e an ⟨rfl,hb⟩;refine⟨_,rfl,?_⟩;replace b:=S.kb b hb;replace HB:=S.sG hb;(try clear hb);(try clear ao);(try clear hk);(try clear hi);refine hK.out _ _ (S.e4 b.1) (fun hHeld=>?_);clear hK K;refine S.nm 43 ?_;refine S.oN 8 44 (S.bs 1535) (fun K hK=>?_);refine S.go Tryz.func79 #[.int .i64 i,.int .i64 1,.int .i64 J] ?_
     with_reducible refine(spec_l1In.calls i 1 J Z _ af.1).mono ?_
     rintro e w' ⟨rfl,⟨nd,rfl⟩⟩;refine⟨_,rfl,?_⟩;refine hK.out _ _ (S.e4 b.1) (fun hHeld=>?_);clear hK K;refine S.nm 44 ?_;refine S.pS 9 4 ?_;refine done_ (done_of HT_.1 (by kernel_rfl)) ?_;try go_wp2
     go_ret;exact⟨S.eW,S.bG⟩
def spec_AreWants.l0:Nat→List (S76)→List (S81)→Int→Option (Bool)
 |0,_,_,_=>none
 |k+1,g,b,a=>if a<(b.length:Int)then(if 0≤a then((spec_FindPath.f k g ((rd_T81 b a).f0)).bind fun c=>(if c<0 then(some false)else((spec_l1In.f ((rd_T81 b a).f1) 0 100000).bind fun d=>(if d=true then(if a>0 then(if 0≤(wrap64 (a-1))then(if(wrap64 (a-1))<(b.length:Int)then(if((rd_T81 b (wrap64 (a-1))).f0)≥((rd_T81 b a).f0)then(some false)else(spec_AreWants.l0 k g b (wrap64 (a+1))))else(none))else(none))else(spec_AreWants.l0 k g b (wrap64 (a+1))))else(some false)))))else(none))else((spec_ArePaths.f k g).bind fun e=>(some e))
def spec_AreWants.f(k:Nat)(a:List (S76))(b:List (S81)):Option (Bool):=spec_AreWants.l0 k a b 0
def spec_AreWants.T4:Bool×List (List Nat×List Nat):=(true,[([],[]),([],[]),([],[]),([1,2],[1,2]),([3],[3]),([4],[4]),([0,5],[0,5]),([6],[6]),([7,6],[7]),([8],[8]),([8],[8]),([9,10,8],[8,9,10]),([11,8],[8,11]),([12,8],[8,12]),([13,8,8],[8,13]),([14,8],[8,14]),([8,15],[8,15]),([16,14],[16]),([17],[17]),([18,17],[17,18]),([19,17,17],[17,19]),([20],[20]),([20],[20]),([22,20],[20,22]),([21,23,20],[20,21,23]),([24,20],[20,24]),([25,20],[20,25]),([20],[20]),([20],[20]),([27,28,20],[20,27,28]),([29,20],[20,29]),([30,20],[20,30]),([26,31,20],[20,26,31]),([20,32,17],[17,20,32]),([17,33],[17,33])])
def spec_AreWants.B4:List Nat:=[0,0,0,6,14,30,63,127,255,511,511,2047,4095,8191,16383,32767,65535,131071,262143,524287,1048575,2097151,2097151,6291455,16777215,33554431,67108863,2097151,2097151,404750335,941621247,2015363071,4294967295,8589934591,17179869183]
theorem spec_AreWants.tab4:rtab .any (opsOf Tryz.f38 4)=spec_AreWants.T4:=by kernel_rfl
theorem spec_AreWants.bits4:waitsOk spec_AreWants.T4.2 spec_AreWants.B4=true:=by kernel_rfl
theorem spec_AreWants.calls(k:Nat)(A0:Option Addr)(c0:Nat)(W:List (S76))(A1:Option Addr)(c1:Nat)(y:List (S81))(r:Bool)(w:World)(an:Kd.C k76 w A0 W.length W)(ao:W.length≤c0)(ap:Kd.C k81 w A1 y.length y)(aq:y.length≤c1)(h:spec_AreWants.f k W y=some r):
  Calls Tryz.prog 38 #[.slice A0 W.length c0,.slice A1 y.length c1] w fun e w'=>e= .returned (.bool r)∧Below w.heap.size w w':=by
 have aa:=S.a an;have ab:=S.a ao;clear an ao;have M:=S.a ap;have:=S.a aq;clear ap aq;have HB:=S.a (Below.refl w.heap.size w);have H:(spec_AreWants.l0 k W y 0)=some r:=h;clear h;have H':=S.a H;clear H;go_enter Tryz.func38,Tryz.ntmps38;go_wp2;go_loopg [5] k (fun kq v5 w'=> ∃(b:Int),v5= .int .i64 b∧Aside0 (spec_AreWants.l0 kq W y b=some r)∧Aside0 (kq≤k)∧Aside0 (Below w.heap.size w w'))
 case atStart=>exact⟨(0),S.eA,H',⟨Nat.le_refl _⟩,⟨S.bA⟩⟩
 case round=>
  clear H';try clear c1
  obtain⟨b,rfl,HA,ag,HB⟩:=hrel
  cases gk with
  |zero=>exact absurd HA.1 (by simp[spec_AreWants.l0])
  |succ k1=>
   have H:=HA.1;clear HA;simp only[spec_AreWants.l0]at H;replace H:=S.dc H;rcases H with⟨H,ar⟩|⟨H,ar⟩
   ·by_cases c4:0≤b
    ·rw[if_pos c4]at H;have a0:decide (0≤b)=true:=decide_eq_true c4;clear c4;replace H:=S.bd H;obtain⟨X,A5,H⟩:=H;(try dsimp only at H);replace H:=S.dc H;rcases H with⟨H,au⟩|⟨H,au⟩
     ·obtain rfl:=Option.some.inj H;try go_wp2
      replace HB:=S.a (below_drew1 HB.1);have p:0≤(b:Int):=S.oD;have s:b<(y.length:Int):=S.oD;obtain⟨A,L,c,d⟩:=at_T81 M.1 b p s;have j:=d;have l:=c;cases L;replace c:=S.hb HB c;replace d:=S.hb HB d;replace p:=eq_true p;replace s:=eq_true s;refine S.st (n:=35) (ds:=[]) (S.bs 34359738368) (fun w_ h_=>have x_:=And.intro (S.q h_ (S.hb HB l)) (S.q h_ (S.hb HB j));x_) (fun hHeld=>?_);refine with_tabW spec_AreWants.tab4 spec_AreWants.bits4 (fun HT_ HW_=>?_);generalize wr.drew=w7 at HB c d hHeld⊢;refine S.pS 0 12 ?_;refine S.pS 1 13 ?_;refine S.pS 2 14 ?_;refine S.pS 3 15 ?_;refine S.pS 4 16 ?_;refine S.tK 5 17 (S.bs 34359738431) ?_;refine S.oN 6 18 (S.bs 34359738495) (fun K hK=>?_);refine S.go Tryz.func81 #[.slice A0 W.length c0,.int .i64 ((rd_T81 y b).f0)] ?_
      with_reducible refine(spec_FindPath.calls k1 _ _ W ((rd_T81 y b).f0) X _ ?s1 ?s2 A5.1).mono ?_
      (case s1=>exact S.cA aa.1);(case s2=>exact ab.1);rintro e w' ⟨rfl,⟨nd,rfl⟩⟩;refine⟨_,rfl,?_⟩;refine hK.out _ _ ⟨(S.hb HB l:),(S.hb HB j:)⟩ (fun hHeld=>?_);clear hK K;refine S.nm 18 ?_;refine S.pS 7 19 ?_;refine S.pS 8 20 ?_;refine S.pU 9 21 ?_;refine S.pU 10 22 ?_;refine S.pU 11 23 ?_;refine S.pU 12 24 ?_;refine S.pU 13 25 ?_;refine S.pU 14 26 ?_;refine S.pU 15 27 ?_;refine S.pS 16 28 ?_;refine S.pS 17 29 ?_;refine S.pU 18 30 ?_;refine S.pU 19 31 ?_;refine S.pU 20 32 ?_;refine S.pU 21 33 ?_;refine S.pU 22 34 ?_;refine S.pU 23 35 ?_;refine S.pU 24 36 ?_;refine S.pU 25 37 ?_;refine S.pU 26 38 ?_;refine S.pU 27 39 ?_;refine S.pU 28 40 ?_;refine S.pU 29 41 ?_;refine S.pU 30 42 ?_;refine S.pU 31 43 ?_;refine S.pU 32 44 ?_;refine S.pU 33 45 ?_;refine S.pS 34 46 ?_;refine done_ (done_of HT_.1 (by kernel_rfl)) ?_;try go_wp2
      go_ret;exact⟨S.eW,S.bA⟩
     ·replace H:=Option.bind_eq_some_iff.mp H;obtain⟨av,aw,H⟩:=H;replace H:(if av=true then(if b>0 then(if 0≤(wrap64 (b-1))then(if(wrap64 (b-1))<(y.length:Int)then(if((rd_T81 y (wrap64 (b-1))).f0)≥((rd_T81 y b).f0)then(some false)else(spec_AreWants.l0 k1 W y (wrap64 (b+1))))else(none))else(none))else(spec_AreWants.l0 k1 W y (wrap64 (b+1))))else(some false))=some r:=H;have A8:=S.a aw;clear aw;replace H:=S.db H;rcases H with⟨rfl,H⟩|⟨rfl,H⟩
      ·by_cases ac:b>0
       ·rw[if_pos ac]at H;have al:decide (0<b)=true:=decide_eq_true ac;clear ac;obtain⟨z,N⟩: ∃j_:Int,(wrap64 (b-1))=j_:=⟨_,rfl⟩;replace H:(if 0≤(z)then(if(z)<(y.length:Int)then(if((rd_T81 y (z)).f0)≥((rd_T81 y b).f0)then(some false)else(spec_AreWants.l0 k1 W y (wrap64 (b+1))))else(none))else(none))=some r:=by first|(rw[N]at H;exact H)|(simp only[N]at H⊢;exact H)
        (try rw[N]at A5);(try rw[N]at A8);have hji11w:(IntKind.i64.wrap (b-1))=z:=(i64_w _).trans N
        by_cases ah:0≤(z)
        ·rw[if_pos ah]at H;have ax:decide (0≤(z))=true:=decide_eq_true ah;clear ah
         by_cases ai:(z)<(y.length:Int)
         ·rw[if_pos ai]at H;have ay:decide ((z)<(y.length:Int))=true:=decide_eq_true ai;clear ai
          by_cases ad:((rd_T81 y (z)).f0)≥((rd_T81 y b).f0)
          ·rw[if_pos ad]at H;have am:decide (((rd_T81 y b).f0)≤((rd_T81 y (z)).f0))=true:=decide_eq_true ad;clear ad;obtain rfl:=Option.some.inj H;try go_wp2
           replace HB:=S.a (below_drew1 HB.1);have p:0≤(b:Int):=S.oD;have s:b<(y.length:Int):=S.oD;obtain⟨A,L,c,d⟩:=at_T81 M.1 b p s;have j:=d;have l:=c;cases L;replace c:=S.hb HB c;replace d:=S.hb HB d;replace p:=eq_true p;replace s:=eq_true s;have B:0≤(b:Int):=S.oD;have D:b<(y.length:Int):=S.oD;obtain⟨J,O,g,i⟩:=at_T81 M.1 b B D;have m:=i;have o:=g;obtain rfl:A=J:=(by injection O);replace g:=S.hb HB g;replace i:=S.hb HB i;replace B:=eq_true B;replace D:=eq_true D;have R:0≤((z):Int):=S.oD;have T:(z)<(y.length:Int):=S.oD;obtain⟨Y,ae,t,u⟩:=at_T81 M.1 (z) R T;have E:=u;have F:=t;obtain rfl:A=Y:=(by injection ae);replace t:=S.hb HB t;replace u:=S.hb HB u;replace R:=eq_true R;replace T:=eq_true T;have U:0≤(b:Int):=S.oD;have V:b<(y.length:Int):=S.oD;obtain⟨Z,af,v,x⟩:=at_T81 M.1 b U V;have G:=x;have I:=v;obtain rfl:A=Z:=(by injection af);replace v:=S.hb HB v;replace x:=S.hb HB x;replace U:=eq_true U;replace V:=eq_true V;refine S.st (n:=35) (ds:=[]) (S.bs 34359738368) (fun w_ h_=>have x_:=And.intro (S.q h_ (S.hb HB l)) (And.intro (S.q h_ (S.hb HB j)) (And.intro (S.q h_ (S.hb HB o)) (And.intro (S.q h_ (S.hb HB m)) (And.intro (S.q h_ (S.hb HB F)) (And.intro (S.q h_ (S.hb HB E)) (And.intro (S.q h_ (S.hb HB I)) (S.q h_ (S.hb HB G))))))));x_) (fun hHeld=>?_);refine with_tabW spec_AreWants.tab4 spec_AreWants.bits4 (fun HT_ HW_=>?_);generalize wr.drew=a1 at HB c d g i t u v x hHeld⊢;refine S.pS 0 12 ?_;refine S.pS 1 13 ?_;refine S.pS 2 14 ?_;refine S.pS 3 15 ?_;refine S.pS 4 16 ?_;refine S.tK 5 17 (S.bs 34359738431) ?_;refine S.oN 6 18 (S.bs 34359738495) (fun K hK=>?_);refine S.go Tryz.func81 #[.slice A0 W.length c0,.int .i64 ((rd_T81 y b).f0)] ?_
           with_reducible refine(spec_FindPath.calls k1 _ _ W ((rd_T81 y b).f0) X _ ?s1 ?s2 A5.1).mono ?_
           (case s1=>exact S.cA aa.1);(case s2=>exact ab.1);rintro e w' ⟨rfl,⟨nd,rfl⟩⟩;refine⟨_,rfl,?_⟩;refine hK.out _ _ ⟨(S.hb HB l:),(S.hb HB j:),(S.hb HB o:),(S.hb HB m:),(S.hb HB F:),(S.hb HB E:),(S.hb HB I:),(S.hb HB G:)⟩ (fun hHeld=>?_);clear hK K;refine S.nm 18 ?_;refine S.pS 7 19 ?_;refine S.pS 8 20 ?_;refine S.pS 9 21 ?_;refine S.pS 10 22 ?_;refine S.pS 11 23 ?_;refine S.pS 12 24 ?_;refine S.tK 13 25 (S.bs 34359754751) ?_;refine S.oN 14 26 (S.bs 34359771135) (fun K hK=>?_);refine S.go Tryz.func79 #[.int .i64 ((rd_T81 y b).f1),.int .i64 0,.int .i64 100000] ?_
           with_reducible refine(spec_l1In.calls ((rd_T81 y b).f1) 0 100000 true _ A8.1).mono ?_
           rintro e w' ⟨rfl,⟨nd,rfl⟩⟩;refine⟨_,rfl,?_⟩;refine hK.out _ _ ⟨(S.hb HB l:),(S.hb HB j:),(S.hb HB o:),(S.hb HB m:),(S.hb HB F:),(S.hb HB E:),(S.hb HB I:),(S.hb HB G:)⟩ (fun hHeld=>?_);clear hK K;refine S.nm 26 ?_;refine S.pS 15 27 ?_;refine S.pS 16 28 ?_;refine S.pS 17 29 ?_;refine S.pS 18 30 ?_;refine S.pS 19 31 ?_;refine S.pS 20 32 ?_;refine S.pS 21 33 ?_;refine S.pS 22 34 ?_;refine S.pS 23 35 ?_;refine S.pS 24 36 ?_;refine S.pS 25 37 ?_;refine S.pS 27 39 ?_;refine S.pS 28 40 ?_;refine S.pS 29 41 ?_;refine S.pS 30 42 ?_;refine S.tK 26 38 (S.bs 36507222015) ?_;refine S.tK 31 43 (S.bs 38654705663) ?_;refine S.pS 32 44 ?_;refine S.pS 33 45 ?_;refine S.pS 34 46 ?_;refine done_ (done_of HT_.1 (by kernel_rfl)) ?_;try go_wp2
           go_ret;exact⟨by first|rfl|(simp[errW_none,errW_some]<;>rfl)|(simp only[←N];first|rfl|(simp[errW_none,errW_some]<;>rfl))|(simp[*,errW_none,errW_some]<;>rfl),S.bA⟩
          ·rw[if_neg ad]at H;have am:decide (((rd_T81 y b).f0)≤((rd_T81 y (z)).f0))=false:=decide_eq_false ad;clear ad;have H':=S.a H;clear H;try go_wp2
           replace HB:=S.a (below_drew1 HB.1);have p:0≤(b:Int):=S.oD;have s:b<(y.length:Int):=S.oD;obtain⟨A,L,c,d⟩:=at_T81 M.1 b p s;have j:=d;have l:=c;cases L;replace c:=S.hb HB c;replace d:=S.hb HB d;replace p:=eq_true p;replace s:=eq_true s;have B:0≤(b:Int):=S.oD;have D:b<(y.length:Int):=S.oD;obtain⟨J,O,g,i⟩:=at_T81 M.1 b B D;have m:=i;have o:=g;obtain rfl:A=J:=(by injection O);replace g:=S.hb HB g;replace i:=S.hb HB i;replace B:=eq_true B;replace D:=eq_true D;have R:0≤((z):Int):=S.oD;have T:(z)<(y.length:Int):=S.oD;obtain⟨Y,ae,t,u⟩:=at_T81 M.1 (z) R T;have E:=u;have F:=t;obtain rfl:A=Y:=(by injection ae);replace t:=S.hb HB t;replace u:=S.hb HB u;replace R:=eq_true R;replace T:=eq_true T;have U:0≤(b:Int):=S.oD;have V:b<(y.length:Int):=S.oD;obtain⟨Z,af,v,x⟩:=at_T81 M.1 b U V;have G:=x;have I:=v;obtain rfl:A=Z:=(by injection af);replace v:=S.hb HB v;replace x:=S.hb HB x;replace U:=eq_true U;replace V:=eq_true V;refine S.st (n:=35) (ds:=[]) (S.bs 34359738368) (fun w_ h_=>have x_:=And.intro (S.q h_ (S.hb HB l)) (And.intro (S.q h_ (S.hb HB j)) (And.intro (S.q h_ (S.hb HB o)) (And.intro (S.q h_ (S.hb HB m)) (And.intro (S.q h_ (S.hb HB F)) (And.intro (S.q h_ (S.hb HB E)) (And.intro (S.q h_ (S.hb HB I)) (S.q h_ (S.hb HB G))))))));x_) (fun hHeld=>?_);refine with_tabW spec_AreWants.tab4 spec_AreWants.bits4 (fun HT_ HW_=>?_);generalize wr.drew=a2 at HB c d g i t u v x hHeld⊢;refine S.pS 0 12 ?_;refine S.pS 1 13 ?_;refine S.pS 2 14 ?_;refine S.pS 3 15 ?_;refine S.pS 4 16 ?_;refine S.tK 5 17 (S.bs 34359738431) ?_;refine S.oN 6 18 (S.bs 34359738495) (fun K hK=>?_);refine S.go Tryz.func81 #[.slice A0 W.length c0,.int .i64 ((rd_T81 y b).f0)] ?_
           with_reducible refine(spec_FindPath.calls k1 _ _ W ((rd_T81 y b).f0) X _ ?s1 ?s2 A5.1).mono ?_
           (case s1=>exact S.cA aa.1);(case s2=>exact ab.1);rintro e w' ⟨rfl,⟨nd,rfl⟩⟩;refine⟨_,rfl,?_⟩;refine hK.out _ _ ⟨(S.hb HB l:),(S.hb HB j:),(S.hb HB o:),(S.hb HB m:),(S.hb HB F:),(S.hb HB E:),(S.hb HB I:),(S.hb HB G:)⟩ (fun hHeld=>?_);clear hK K;refine S.nm 18 ?_;refine S.pS 7 19 ?_;refine S.pS 8 20 ?_;refine S.pS 9 21 ?_;refine S.pS 10 22 ?_;refine S.pS 11 23 ?_;refine S.pS 12 24 ?_;refine S.tK 13 25 (S.bs 34359754751) ?_;refine S.oN 14 26 (S.bs 34359771135) (fun K hK=>?_);refine S.go Tryz.func79 #[.int .i64 ((rd_T81 y b).f1),.int .i64 0,.int .i64 100000] ?_
           with_reducible refine(spec_l1In.calls ((rd_T81 y b).f1) 0 100000 true _ A8.1).mono ?_
           rintro e w' ⟨rfl,⟨nd,rfl⟩⟩;refine⟨_,rfl,?_⟩;refine hK.out _ _ ⟨(S.hb HB l:),(S.hb HB j:),(S.hb HB o:),(S.hb HB m:),(S.hb HB F:),(S.hb HB E:),(S.hb HB I:),(S.hb HB G:)⟩ (fun hHeld=>?_);clear hK K;refine S.nm 26 ?_;refine S.pS 15 27 ?_;refine S.pS 16 28 ?_;refine S.pS 17 29 ?_;refine S.pS 18 30 ?_;refine S.pS 19 31 ?_;refine S.pS 20 32 ?_;refine S.pS 21 33 ?_;refine S.pS 22 34 ?_;refine S.pS 23 35 ?_;refine S.pS 24 36 ?_;refine S.pS 25 37 ?_;refine S.pS 27 39 ?_;refine S.pS 28 40 ?_;refine S.pS 29 41 ?_;refine S.pS 30 42 ?_;refine S.tK 26 38 (S.bs 36507222015) ?_;refine S.tK 31 43 (S.bs 38654705663) ?_;refine S.pS 32 44 ?_;refine S.pS 33 45 ?_;refine S.pS 34 46 ?_;refine done_ (done_of HT_.1 (by kernel_rfl)) ?_;try go_wp2
           go_roundg k1
           case measure=>have:=ag.1;omega
           case rel=>exact⟨(wrap64 (b+1)),S.eA,H',⟨by have:=ag.1;omega⟩,⟨S.bA⟩⟩
         ·rw[if_neg ai]at H;exact absurd H (by simp)
        ·rw[if_neg ah]at H;exact absurd H (by simp)
       ·rw[if_neg ac]at H;have al:decide (0<b)=false:=decide_eq_false ac;clear ac;have H':=S.a H;clear H;try go_wp2
        replace HB:=S.a (below_drew1 HB.1);have p:0≤(b:Int):=S.oD;have s:b<(y.length:Int):=S.oD;obtain⟨A,L,c,d⟩:=at_T81 M.1 b p s;have j:=d;have l:=c;cases L;replace c:=S.hb HB c;replace d:=S.hb HB d;replace p:=eq_true p;replace s:=eq_true s;have B:0≤(b:Int):=S.oD;have D:b<(y.length:Int):=S.oD;obtain⟨J,O,g,i⟩:=at_T81 M.1 b B D;have m:=i;have o:=g;obtain rfl:A=J:=(by injection O);replace g:=S.hb HB g;replace i:=S.hb HB i;replace B:=eq_true B;replace D:=eq_true D;refine S.st (n:=35) (ds:=[]) (S.bs 34359738368) (fun w_ h_=>have x_:=And.intro (S.q h_ (S.hb HB l)) (And.intro (S.q h_ (S.hb HB j)) (And.intro (S.q h_ (S.hb HB o)) (S.q h_ (S.hb HB m))));x_) (fun hHeld=>?_);refine with_tabW spec_AreWants.tab4 spec_AreWants.bits4 (fun HT_ HW_=>?_);generalize wr.drew=a3 at HB c d g i hHeld⊢;refine S.pS 0 12 ?_;refine S.pS 1 13 ?_;refine S.pS 2 14 ?_;refine S.pS 3 15 ?_;refine S.pS 4 16 ?_;refine S.tK 5 17 (S.bs 34359738431) ?_;refine S.oN 6 18 (S.bs 34359738495) (fun K hK=>?_);refine S.go Tryz.func81 #[.slice A0 W.length c0,.int .i64 ((rd_T81 y b).f0)] ?_
        with_reducible refine(spec_FindPath.calls k1 _ _ W ((rd_T81 y b).f0) X _ ?s1 ?s2 A5.1).mono ?_
        (case s1=>exact S.cA aa.1);(case s2=>exact ab.1);rintro e w' ⟨rfl,⟨nd,rfl⟩⟩;refine⟨_,rfl,?_⟩;refine hK.out _ _ ⟨(S.hb HB l:),(S.hb HB j:),(S.hb HB o:),(S.hb HB m:)⟩ (fun hHeld=>?_);clear hK K;refine S.nm 18 ?_;refine S.pS 7 19 ?_;refine S.pS 8 20 ?_;refine S.pS 9 21 ?_;refine S.pS 10 22 ?_;refine S.pS 11 23 ?_;refine S.pS 12 24 ?_;refine S.tK 13 25 (S.bs 34359754751) ?_;refine S.oN 14 26 (S.bs 34359771135) (fun K hK=>?_);refine S.go Tryz.func79 #[.int .i64 ((rd_T81 y b).f1),.int .i64 0,.int .i64 100000] ?_
        with_reducible refine(spec_l1In.calls ((rd_T81 y b).f1) 0 100000 true _ A8.1).mono ?_
        rintro e w' ⟨rfl,⟨nd,rfl⟩⟩;refine⟨_,rfl,?_⟩;refine hK.out _ _ ⟨(S.hb HB l:),(S.hb HB j:),(S.hb HB o:),(S.hb HB m:)⟩ (fun hHeld=>?_);clear hK K;refine S.nm 26 ?_;refine S.pS 15 27 ?_;refine S.pS 16 28 ?_;refine S.pS 17 29 ?_;refine S.pS 18 30 ?_;refine S.pS 19 31 ?_;refine S.pS 20 32 ?_;refine S.pU 21 33 ?_;refine S.pU 22 34 ?_;refine S.pU 23 35 ?_;refine S.pU 24 36 ?_;refine S.pU 25 37 ?_;refine S.pU 26 38 ?_;refine S.pU 27 39 ?_;refine S.pU 28 40 ?_;refine S.pU 29 41 ?_;refine S.pU 30 42 ?_;refine S.pU 31 43 ?_;refine S.pU 32 44 ?_;refine S.pS 33 45 ?_;refine S.pS 34 46 ?_;refine done_ (done_of HT_.1 (by kernel_rfl)) ?_;try go_wp2
        go_roundg k1
        case measure=>have:=ag.1;omega
        case rel=>exact⟨(wrap64 (b+1)),S.eA,H',⟨by have:=ag.1;omega⟩,⟨S.bA⟩⟩
      ·obtain rfl:=Option.some.inj H;try go_wp2
       replace HB:=S.a (below_drew1 HB.1);have p:0≤(b:Int):=S.oD;have s:b<(y.length:Int):=S.oD;obtain⟨A,L,c,d⟩:=at_T81 M.1 b p s;have j:=d;have l:=c;cases L;replace c:=S.hb HB c;replace d:=S.hb HB d;replace p:=eq_true p;replace s:=eq_true s;have B:0≤(b:Int):=S.oD;have D:b<(y.length:Int):=S.oD;obtain⟨J,O,g,i⟩:=at_T81 M.1 b B D;have m:=i;have o:=g;obtain rfl:A=J:=(by injection O);replace g:=S.hb HB g;replace i:=S.hb HB i;replace B:=eq_true B;replace D:=eq_true D;refine S.st (n:=35) (ds:=[]) (S.bs 34359738368) (fun w_ h_=>have x_:=And.intro (S.q h_ (S.hb HB l)) (And.intro (S.q h_ (S.hb HB j)) (And.intro (S.q h_ (S.hb HB o)) (S.q h_ (S.hb HB m))));x_) (fun hHeld=>?_);refine with_tabW spec_AreWants.tab4 spec_AreWants.bits4 (fun HT_ HW_=>?_);generalize wr.drew=a4 at HB c d g i hHeld⊢;refine S.pS 0 12 ?_;refine S.pS 1 13 ?_;refine S.pS 2 14 ?_;refine S.pS 3 15 ?_;refine S.pS 4 16 ?_;refine S.tK 5 17 (S.bs 34359738431) ?_;refine S.oN 6 18 (S.bs 34359738495) (fun K hK=>?_);refine S.go Tryz.func81 #[.slice A0 W.length c0,.int .i64 ((rd_T81 y b).f0)] ?_
       with_reducible refine(spec_FindPath.calls k1 _ _ W ((rd_T81 y b).f0) X _ ?s1 ?s2 A5.1).mono ?_
       (case s1=>exact S.cA aa.1);(case s2=>exact ab.1);rintro e w' ⟨rfl,⟨nd,rfl⟩⟩;refine⟨_,rfl,?_⟩;refine hK.out _ _ ⟨(S.hb HB l:),(S.hb HB j:),(S.hb HB o:),(S.hb HB m:)⟩ (fun hHeld=>?_);clear hK K;refine S.nm 18 ?_;refine S.pS 7 19 ?_;refine S.pS 8 20 ?_;refine S.pS 9 21 ?_;refine S.pS 10 22 ?_;refine S.pS 11 23 ?_;refine S.pS 12 24 ?_;refine S.tK 13 25 (S.bs 34359754751) ?_;refine S.oN 14 26 (S.bs 34359771135) (fun K hK=>?_);refine S.go Tryz.func79 #[.int .i64 ((rd_T81 y b).f1),.int .i64 0,.int .i64 100000] ?_
       with_reducible refine(spec_l1In.calls ((rd_T81 y b).f1) 0 100000 false _ A8.1).mono ?_
       rintro e w' ⟨rfl,⟨nd,rfl⟩⟩;refine⟨_,rfl,?_⟩;refine hK.out _ _ ⟨(S.hb HB l:),(S.hb HB j:),(S.hb HB o:),(S.hb HB m:)⟩ (fun hHeld=>?_);clear hK K;refine S.nm 26 ?_;refine S.pS 15 27 ?_;refine S.pS 16 28 ?_;refine S.pS 17 29 ?_;refine S.pU 18 30 ?_;refine S.pU 19 31 ?_;refine S.pU 20 32 ?_;refine S.pU 21 33 ?_;refine S.pU 22 34 ?_;refine S.pU 23 35 ?_;refine S.pU 24 36 ?_;refine S.pU 25 37 ?_;refine S.pU 26 38 ?_;refine S.pU 27 39 ?_;refine S.pU 28 40 ?_;refine S.pU 29 41 ?_;refine S.pU 30 42 ?_;refine S.pU 31 43 ?_;refine S.pU 32 44 ?_;refine S.pU 33 45 ?_;refine S.pS 34 46 ?_;refine done_ (done_of HT_.1 (by kernel_rfl)) ?_;try go_wp2
       go_ret;exact⟨S.eW,S.bA⟩
    ·rw[if_neg c4]at H;exact absurd H (by simp)
   ·replace H:=Option.bind_eq_some_iff.mp H;obtain⟨aj,ak,H⟩:=H;replace H:(some aj)=some r:=H;have az:=S.a ak;clear ak;obtain rfl:=Option.some.inj H;go_wp2_with (first|((with_reducible refine gate_callee (f:=82) rfl ?_);refine S.gL (some 48) Tryz.func82 #[.slice A0 W.length c0] ?_;(with_reducible refine(spec_ArePaths.calls k1 _ _ W aj _ ?s1 ab.1 az.1).mono ?_);(case s1=>exact S.cA aa.1);rintro e a5 ⟨rfl,hb⟩;refine⟨_,rfl,?_⟩;replace HB:=S.sA hb;(try clear hb)));go_ret;exact⟨S.eW,S.bA⟩
end Go.Proofs.YtopchlafmfgpnaaGreat.PFnExactStepPrio

