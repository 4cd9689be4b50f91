/- Printed by a program: what the Go functions compute (.f), and that the calls come to just that (.calls). -/
import Derived.Test.YtopchlafmfgpnaaGreatPFnPriox0
import Derived.Test.YtopchlafmfgpnaaGreatPFnPriox6
import Derived.Test.YtopchlafmfgpnaaGreatSq
namespace Go.Proofs.YtopchlafmfgpnaaGreat.PFnPrio
open Go.RowKit Go.Proofs.YtopchlafmfgpnaaGreatW.PrintWords Go.Proofs.YtopchlafmfgpnaaGreatW.PrintLast Go.Proofs.YtopchlafmfgpnaaGreatW.PrintMore
attribute [local go_sem] max2_int min2_int max_two min_two max_three min_three max_four min_four
set_option linter.unusedVariables false
set_option linter.unusedSimpArgs false
set_option maxHeartbeats 8000000
set_option maxRecDepth 100000
def spec_ArePaths.l0:Nat→List (S76)→Int→Option (Bool)
 |0,_,_=>none
 |k+1,b,a=>if a<(b.length:Int)then(if 0≤a then((spec_IsPath.f ((rd_T76 b a).f0) ((rd_T76 b a).f1) ((rd_T76 b a).f2) ((rd_T76 b a).f3)).bind fun c=>(if c=true then(if a>0 then(if 0≤(wrap64 (a-1))then(if(wrap64 (a-1))<(b.length:Int)then(if((rd_T76 b (wrap64 (a-1))).f0)≥((rd_T76 b a).f0)then(some false)else(spec_ArePaths.l0 k b (wrap64 (a+1))))else(none))else(none))else(spec_ArePaths.l0 k b (wrap64 (a+1))))else(some false)))else(none))else(some (decide ((b.length:Int)≤12)))
def spec_ArePaths.f(k:Nat)(a:List (S76)):Option (Bool):=spec_ArePaths.l0 k a 0
def spec_ArePaths.T4:Bool×List (List Nat×List Nat):=(true,[([],[]),([],[]),([0,1],[0,1]),([2],[2]),([3],[3]),([4],[4]),([5,4],[5]),([6],[6]),([7,6],[6,7]),([8,6,6],[6,8]),([9],[9]),([9],[9]),([11,9],[9,11]),([10,12,9],[9,10,12]),([13,9],[9,13]),([14,9],[9,14]),([9],[9]),([9],[9]),([16,17,9],[9,16,17]),([18,9],[9,18]),([19,9],[9,19]),([15,20,9],[9,15,20]),([9,21,6],[6,9,21]),([6,22],[6,22])])
def spec_ArePaths.B4:List Nat:=[0,0,3,7,15,31,63,127,255,511,1023,1023,3071,8191,16383,32767,1023,1023,197631,459775,984063,2097151,4194303,8388607]
theorem spec_ArePaths.tab4:rtab .any (opsOf Tryz.f82 4)=spec_ArePaths.T4:=by kernel_rfl
theorem spec_ArePaths.bits4:waitsOk spec_ArePaths.T4.2 spec_ArePaths.B4=true:=by kernel_rfl
theorem spec_ArePaths.calls(k:Nat)(A0:Option Addr)(c0:Nat)(p:List (S76))(r:Bool)(w:World)(ai:Kd.C k76 w A0 p.length p)(aj:p.length≤c0)(h:spec_ArePaths.f k p=some r):
  Calls Tryz.prog 82 #[.slice A0 p.length c0] w fun e w'=>e= .returned (.bool r)∧Below w.heap.size w w':=by
 have:=Tryz.underlying76;have Y:=S.a ai;have:=S.a aj;clear ai aj;have HB:=S.a (Below.refl w.heap.size w);have H:(spec_ArePaths.l0 k p 0)=some r:=h;clear h;have H':=S.a H;clear H;go_enter Tryz.func82,Tryz.ntmps82;go_wp2;go_loopg [3] k (fun kq v3 w'=> ∃(b:Int),v3= .int .i64 b∧Aside0 (spec_ArePaths.l0 kq p b=some r)∧Aside0 (kq≤k)∧Aside0 (Below w.heap.size w w'))
 case atStart=>exact⟨(0),S.eA,H',⟨Nat.le_refl _⟩,⟨S.bA⟩⟩
 case round=>
  clear H';obtain⟨b,rfl,HA,af,HB⟩:=hrel
  cases gk with
  |zero=>exact absurd HA.1 (by simp[spec_ArePaths.l0])
  |succ k1=>
   have H:=HA.1;clear HA;simp only[spec_ArePaths.l0]at H;replace H:=S.dc H;rcases H with⟨H,ak⟩|⟨H,ak⟩
   ·by_cases c3:0≤b
    ·rw[if_pos c3]at H;have am:decide (0≤b)=true:=decide_eq_true c3;clear c3;replace H:=S.bd H;obtain⟨_,A4,H⟩:=H;(try dsimp only at H);replace H:=S.db H;rcases H with⟨rfl,H⟩|⟨rfl,H⟩
     ·by_cases c6:b>0
      ·rw[if_pos c6]at H;have al:decide (0<b)=true:=decide_eq_true c6;clear c6;obtain⟨E,Z⟩: ∃j_:Int,(wrap64 (b-1))=j_:=⟨_,rfl⟩;replace H:(if 0≤(E)then(if(E)<(p.length:Int)then(if((rd_T76 p (E)).f0)≥((rd_T76 p b).f0)then(some false)else(spec_ArePaths.l0 k1 p (wrap64 (b+1))))else(none))else(none))=some r:=by first|(rw[Z]at H;exact H)|(simp only[Z]at H⊢;exact H)
       (try rw[Z]at A4);have hji7w:(IntKind.i64.wrap (b-1))=E:=(i64_w _).trans Z
       by_cases c8:0≤(E)
       ·rw[if_pos c8]at H;have an:decide (0≤(E))=true:=decide_eq_true c8;clear c8
        by_cases c9:(E)<(p.length:Int)
        ·rw[if_pos c9]at H;have ao:decide ((E)<(p.length:Int))=true:=decide_eq_true c9;clear c9
         by_cases ac:((rd_T76 p (E)).f0)≥((rd_T76 p b).f0)
         ·rw[if_pos ac]at H;have ag:decide (((rd_T76 p b).f0)≤((rd_T76 p (E)).f0))=true:=decide_eq_true ac;clear ac;obtain rfl:=Option.some.inj H;try go_wp2
          replace HB:=S.a (below_drew1 HB.1);have B:0≤(b:Int):=S.oD;have D:b<(p.length:Int):=S.oD;obtain⟨R,T,c,d,g,i⟩:=at_T76 Y.1 b B D;have j:=i;have l:=g;have m:=d;have o:=c;cases T;replace c:=S.hb HB c;replace d:=S.hb HB d;replace g:=S.hb HB g;replace i:=S.hb HB i;replace B:=eq_true B;replace D:=eq_true D;have U:0≤((E):Int):=S.oD;have V:(E)<(p.length:Int):=S.oD;obtain⟨aa,ad,s,t,u,v⟩:=at_T76 Y.1 (E) U V;have F:=v;have G:=u;have I:=t;have J:=s;obtain rfl:R=aa:=(by injection ad);replace s:=S.hb HB s;replace t:=S.hb HB t;replace u:=S.hb HB u;replace v:=S.hb HB v;replace U:=eq_true U;replace V:=eq_true V;have W:0≤(b:Int):=S.oD;have X:b<(p.length:Int):=S.oD;obtain⟨ab,ae,x,y,z,A⟩:=at_T76 Y.1 b W X;have L:=A;have M:=z;have N:=y;have O:=x;obtain rfl:R=ab:=(by injection ae);replace x:=S.hb HB x;replace y:=S.hb HB y;replace z:=S.hb HB z;replace A:=S.hb HB A;replace W:=eq_true W;replace X:=eq_true X;refine S.st (n:=24) (ds:=[]) (S.bs 16777216) (fun w_ h_=>have x_:=And.intro (S.q h_ (S.hb HB o)) (And.intro (S.q h_ (S.hb HB m)) (And.intro (S.q h_ (S.hb HB l)) (And.intro (S.q h_ (S.hb HB j)) (And.intro (S.q h_ (S.hb HB J)) (And.intro (S.q h_ (S.hb HB I)) (And.intro (S.q h_ (S.hb HB G)) (And.intro (S.q h_ (S.hb HB F)) (And.intro (S.q h_ (S.hb HB O)) (And.intro (S.q h_ (S.hb HB N)) (And.intro (S.q h_ (S.hb HB M)) (S.q h_ (S.hb HB L))))))))))));x_) (fun hHeld=>?_);refine with_tabW spec_ArePaths.tab4 spec_ArePaths.bits4 (fun HT_ HW_=>?_);generalize wr.drew=ap at HB c d g i s t u v x y z A hHeld⊢;refine S.pS 0 10 ?_;refine S.pS 1 11 ?_;refine S.pS 2 12 ?_;refine S.tK 3 13 (S.bs 16777231) ?_;refine S.oN 4 14 (S.bs 16777247) (fun K hK=>?_);refine S.go Tryz.func113 #[.agg #[.int .i64 ((rd_T76 p b).f0),.int .i64 ((rd_T76 p b).f1),.int .i64 ((rd_T76 p b).f2),.int .i64 ((rd_T76 p b).f3)]] ?_
          with_reducible refine(spec_IsPath.calls ((rd_T76 p b).f0) ((rd_T76 p b).f1) ((rd_T76 p b).f2) ((rd_T76 p b).f3) true _ A4.1).mono ?_
          rintro e aq ⟨rfl,hb⟩;refine⟨_,rfl,?_⟩;replace HB:=S.sA hb;(try clear hb);(try clear ah);(try clear hk);(try clear hi);refine hK.out _ _ ⟨(S.hb HB o:),(S.hb HB m:),(S.hb HB l:),(S.hb HB j:),(S.hb HB J:),(S.hb HB I:),(S.hb HB G:),(S.hb HB F:),(S.hb HB O:),(S.hb HB N:),(S.hb HB M:),(S.hb HB L:)⟩ (fun hHeld=>?_);clear hK K;refine S.nm 14 ?_;refine S.pS 5 15 ?_;refine S.pS 6 16 ?_;refine S.pS 7 17 ?_;refine S.pS 8 18 ?_;refine S.pS 9 19 ?_;refine S.pS 10 20 ?_;refine S.pS 11 21 ?_;refine S.pS 12 22 ?_;refine S.pS 13 23 ?_;refine S.pS 14 24 ?_;refine S.pS 16 26 ?_;refine S.pS 17 27 ?_;refine S.pS 18 28 ?_;refine S.pS 19 29 ?_;refine S.tK 15 25 (S.bs 17825791) ?_;refine S.tK 20 30 (S.bs 18874367) ?_;refine S.pS 21 31 ?_;refine S.pS 22 32 ?_;refine S.pS 23 33 ?_;refine done_ (done_of HT_.1 (by kernel_rfl)) ?_;try go_wp2
          go_ret;exact⟨by first|rfl|(simp[errW_none,errW_some]<;>rfl)|(simp only[←Z];first|rfl|(simp[errW_none,errW_some]<;>rfl))|(simp[*,errW_none,errW_some]<;>rfl),S.bA⟩
         ·rw[if_neg ac]at H;have ag:decide (((rd_T76 p b).f0)≤((rd_T76 p (E)).f0))=false:=decide_eq_false ac;clear ac;have H':=S.a H;clear H;try go_wp2
          replace HB:=S.a (below_drew1 HB.1);have B:0≤(b:Int):=S.oD;have D:b<(p.length:Int):=S.oD;obtain⟨R,T,c,d,g,i⟩:=at_T76 Y.1 b B D;have j:=i;have l:=g;have m:=d;have o:=c;cases T;replace c:=S.hb HB c;replace d:=S.hb HB d;replace g:=S.hb HB g;replace i:=S.hb HB i;replace B:=eq_true B;replace D:=eq_true D;have U:0≤((E):Int):=S.oD;have V:(E)<(p.length:Int):=S.oD;obtain⟨aa,ad,s,t,u,v⟩:=at_T76 Y.1 (E) U V;have F:=v;have G:=u;have I:=t;have J:=s;obtain rfl:R=aa:=(by injection ad);replace s:=S.hb HB s;replace t:=S.hb HB t;replace u:=S.hb HB u;replace v:=S.hb HB v;replace U:=eq_true U;replace V:=eq_true V;have W:0≤(b:Int):=S.oD;have X:b<(p.length:Int):=S.oD;obtain⟨ab,ae,x,y,z,A⟩:=at_T76 Y.1 b W X;have L:=A;have M:=z;have N:=y;have O:=x;obtain rfl:R=ab:=(by injection ae);replace x:=S.hb HB x;replace y:=S.hb HB y;replace z:=S.hb HB z;replace A:=S.hb HB A;replace W:=eq_true W;replace X:=eq_true X;refine S.st (n:=24) (ds:=[]) (S.bs 16777216) (fun w_ h_=>have x_:=And.intro (S.q h_ (S.hb HB o)) (And.intro (S.q h_ (S.hb HB m)) (And.intro (S.q h_ (S.hb HB l)) (And.intro (S.q h_ (S.hb HB j)) (And.intro (S.q h_ (S.hb HB J)) (And.intro (S.q h_ (S.hb HB I)) (And.intro (S.q h_ (S.hb HB G)) (And.intro (S.q h_ (S.hb HB F)) (And.intro (S.q h_ (S.hb HB O)) (And.intro (S.q h_ (S.hb HB N)) (And.intro (S.q h_ (S.hb HB M)) (S.q h_ (S.hb HB L))))))))))));x_) (fun hHeld=>?_);refine with_tabW spec_ArePaths.tab4 spec_ArePaths.bits4 (fun HT_ HW_=>?_);generalize wr.drew=ar at HB c d g i s t u v x y z A hHeld⊢;refine S.pS 0 10 ?_;refine S.pS 1 11 ?_;refine S.pS 2 12 ?_;refine S.tK 3 13 (S.bs 16777231) ?_;refine S.oN 4 14 (S.bs 16777247) (fun K hK=>?_);refine S.go Tryz.func113 #[.agg #[.int .i64 ((rd_T76 p b).f0),.int .i64 ((rd_T76 p b).f1),.int .i64 ((rd_T76 p b).f2),.int .i64 ((rd_T76 p b).f3)]] ?_
          with_reducible refine(spec_IsPath.calls ((rd_T76 p b).f0) ((rd_T76 p b).f1) ((rd_T76 p b).f2) ((rd_T76 p b).f3) true _ A4.1).mono ?_
          rintro e au ⟨rfl,hb⟩;refine⟨_,rfl,?_⟩;replace HB:=S.sA hb;(try clear hb);(try clear ah);(try clear hk);(try clear hi);refine hK.out _ _ ⟨(S.hb HB o:),(S.hb HB m:),(S.hb HB l:),(S.hb HB j:),(S.hb HB J:),(S.hb HB I:),(S.hb HB G:),(S.hb HB F:),(S.hb HB O:),(S.hb HB N:),(S.hb HB M:),(S.hb HB L:)⟩ (fun hHeld=>?_);clear hK K;refine S.nm 14 ?_;refine S.pS 5 15 ?_;refine S.pS 6 16 ?_;refine S.pS 7 17 ?_;refine S.pS 8 18 ?_;refine S.pS 9 19 ?_;refine S.pS 10 20 ?_;refine S.pS 11 21 ?_;refine S.pS 12 22 ?_;refine S.pS 13 23 ?_;refine S.pS 14 24 ?_;refine S.pS 16 26 ?_;refine S.pS 17 27 ?_;refine S.pS 18 28 ?_;refine S.pS 19 29 ?_;refine S.tK 15 25 (S.bs 17825791) ?_;refine S.tK 20 30 (S.bs 18874367) ?_;refine S.pS 21 31 ?_;refine S.pS 22 32 ?_;refine S.pS 23 33 ?_;refine done_ (done_of HT_.1 (by kernel_rfl)) ?_;try go_wp2
          go_roundg k1
          case measure=>have:=af.1;omega
          case rel=>exact⟨(wrap64 (b+1)),S.eA,H',⟨by have:=af.1;omega⟩,⟨S.bA⟩⟩
        ·rw[if_neg c9]at H;exact absurd H (by simp)
       ·rw[if_neg c8]at H;exact absurd H (by simp)
      ·rw[if_neg c6]at H;have al:decide (0<b)=false:=decide_eq_false c6;clear c6;have H':=S.a H;clear H;try go_wp2
       replace HB:=S.a (below_drew1 HB.1);have B:0≤(b:Int):=S.oD;have D:b<(p.length:Int):=S.oD;obtain⟨R,T,c,d,g,i⟩:=at_T76 Y.1 b B D;have j:=i;have l:=g;have m:=d;have o:=c;cases T;replace c:=S.hb HB c;replace d:=S.hb HB d;replace g:=S.hb HB g;replace i:=S.hb HB i;replace B:=eq_true B;replace D:=eq_true D;refine S.st (n:=24) (ds:=[]) (S.bs 16777216) (fun w_ h_=>have x_:=And.intro (S.q h_ (S.hb HB o)) (And.intro (S.q h_ (S.hb HB m)) (And.intro (S.q h_ (S.hb HB l)) (S.q h_ (S.hb HB j))));x_) (fun hHeld=>?_);refine with_tabW spec_ArePaths.tab4 spec_ArePaths.bits4 (fun HT_ HW_=>?_);generalize wr.drew=av at HB c d g i hHeld⊢;refine S.pS 0 10 ?_;refine S.pS 1 11 ?_;refine S.pS 2 12 ?_;refine S.tK 3 13 (S.bs 16777231) ?_;refine S.oN 4 14 (S.bs 16777247) (fun K hK=>?_);refine S.go Tryz.func113 #[.agg #[.int .i64 ((rd_T76 p b).f0),.int .i64 ((rd_T76 p b).f1),.int .i64 ((rd_T76 p b).f2),.int .i64 ((rd_T76 p b).f3)]] ?_
       with_reducible refine(spec_IsPath.calls ((rd_T76 p b).f0) ((rd_T76 p b).f1) ((rd_T76 p b).f2) ((rd_T76 p b).f3) true _ A4.1).mono ?_
       rintro e aw ⟨rfl,hb⟩;refine⟨_,rfl,?_⟩;replace HB:=S.sA hb;(try clear hb);(try clear ah);(try clear hk);(try clear hi);refine hK.out _ _ ⟨(S.hb HB o:),(S.hb HB m:),(S.hb HB l:),(S.hb HB j:)⟩ (fun hHeld=>?_);clear hK K;refine S.nm 14 ?_;refine S.pS 5 15 ?_;refine S.pS 6 16 ?_;refine S.pS 7 17 ?_;refine S.pS 8 18 ?_;refine S.pS 9 19 ?_;refine S.pU 10 20 ?_;refine S.pU 11 21 ?_;refine S.pU 12 22 ?_;refine S.pU 13 23 ?_;refine S.pU 14 24 ?_;refine S.pU 15 25 ?_;refine S.pU 16 26 ?_;refine S.pU 17 27 ?_;refine S.pU 18 28 ?_;refine S.pU 19 29 ?_;refine S.pU 20 30 ?_;refine S.pU 21 31 ?_;refine S.pS 22 32 ?_;refine S.pS 23 33 ?_;refine done_ (done_of HT_.1 (by kernel_rfl)) ?_;try go_wp2
       go_roundg k1
       case measure=>have:=af.1;omega
       case rel=>exact⟨(wrap64 (b+1)),S.eA,H',⟨by have:=af.1;omega⟩,⟨S.bA⟩⟩
     ·obtain rfl:=Option.some.inj H;try go_wp2
      replace HB:=S.a (below_drew1 HB.1);have B:0≤(b:Int):=S.oD;have D:b<(p.length:Int):=S.oD;obtain⟨R,T,c,d,g,i⟩:=at_T76 Y.1 b B D;have j:=i;have l:=g;have m:=d;have o:=c;cases T;replace c:=S.hb HB c;replace d:=S.hb HB d;replace g:=S.hb HB g;replace i:=S.hb HB i;replace B:=eq_true B;replace D:=eq_true D;refine S.st (n:=24) (ds:=[]) (S.bs 16777216) (fun w_ h_=>have x_:=And.intro (S.q h_ (S.hb HB o)) (And.intro (S.q h_ (S.hb HB m)) (And.intro (S.q h_ (S.hb HB l)) (S.q h_ (S.hb HB j))));x_) (fun hHeld=>?_);refine with_tabW spec_ArePaths.tab4 spec_ArePaths.bits4 (fun HT_ HW_=>?_);generalize wr.drew=ax at HB c d g i hHeld⊢;refine S.pS 0 10 ?_;refine S.pS 1 11 ?_;refine S.pS 2 12 ?_;refine S.tK 3 13 (S.bs 16777231) ?_;refine S.oN 4 14 (S.bs 16777247) (fun K hK=>?_);refine S.go Tryz.func113 #[.agg #[.int .i64 ((rd_T76 p b).f0),.int .i64 ((rd_T76 p b).f1),.int .i64 ((rd_T76 p b).f2),.int .i64 ((rd_T76 p b).f3)]] ?_
      with_reducible refine(spec_IsPath.calls ((rd_T76 p b).f0) ((rd_T76 p b).f1) ((rd_T76 p b).f2) ((rd_T76 p b).f3) false _ A4.1).mono ?_
      rintro e ay ⟨rfl,hb⟩;refine⟨_,rfl,?_⟩;replace HB:=S.sA hb;(try clear hb);(try clear ah);(try clear hk);(try clear hi);refine hK.out _ _ ⟨(S.hb HB o:),(S.hb HB m:),(S.hb HB l:),(S.hb HB j:)⟩ (fun hHeld=>?_);clear hK K;refine S.nm 14 ?_;refine S.pS 5 15 ?_;refine S.pS 6 16 ?_;refine S.pU 7 17 ?_;refine S.pU 8 18 ?_;refine S.pU 9 19 ?_;refine S.pU 10 20 ?_;refine S.pU 11 21 ?_;refine S.pU 12 22 ?_;refine S.pU 13 23 ?_;refine S.pU 14 24 ?_;refine S.pU 15 25 ?_;refine S.pU 16 26 ?_;refine S.pU 17 27 ?_;refine S.pU 18 28 ?_;refine S.pU 19 29 ?_;refine S.pU 20 30 ?_;refine S.pU 21 31 ?_;refine S.pU 22 32 ?_;refine S.pS 23 33 ?_;refine done_ (done_of HT_.1 (by kernel_rfl)) ?_;try go_wp2
      go_ret;exact⟨S.eW,S.bA⟩
    ·rw[if_neg c3]at H;exact absurd H (by simp)
   ·obtain rfl:=Option.some.inj H;go_wp2;go_ret;exact⟨S.eW,S.bA⟩
mutual
def spec_Interleave.l0:Nat→Int→Int→Int→Int→List Int→Int→Option (Bool)
 |0,_,_,_,_,_,_=>none
 |k+1,b,c,d,e,f,a=>if a<4 then(spec_Interleave.l1 k b c d e f a 0)else(spec_Interleave.l2 k c d e 0 (Int.tmod (wrap64 (b+1)) 8))
def spec_Interleave.l1:Nat→Int→Int→Int→Int→List Int→Int→Int→Option (Bool)
 |0,_,_,_,_,_,_,_=>none
 |k+1,e,g,h,i,c,a,b=>if b<a then(if 0≤a then(if a<(c.length:Int)then(if 0≤b then(if b<(c.length:Int)then(if(rd c a)=(rd c b)then(some false)else(spec_Interleave.l1 k e g h i c a (wrap64 (b+1))))else(none))else(none))else(none))else(none))else(if 0≤a then(if a<(c.length:Int)then((spec_l1In.f (rd c a) 0 7).bind fun d=>(if d=true then(spec_Interleave.l0 k e g h i c (wrap64 (a+1)))else(some false)))else(none))else(none))
def spec_Interleave.l2:Nat→Int→Int→Int→Int→Int→Option (Bool)
 |0,_,_,_,_,_=>none
 |k+1,c,d,e,b,a=>if a=c then(some (b==1))else(if a=d then(spec_Interleave.l2 k c d e (wrap64 (b+1)) (Int.tmod (wrap64 (a+1)) 8))else(if a=e then(spec_Interleave.l2 k c d e (wrap64 (b+1)) (Int.tmod (wrap64 (a+1)) 8))else(spec_Interleave.l2 k c d e b (Int.tmod (wrap64 (a+1)) 8))))
end
def spec_Interleave.f(k:Nat)(a:Int)(b:Int)(c:Int)(d:Int):Option (Bool):=spec_Interleave.l0 k a b c d (([a,b,c,d]:List Int)) 0
theorem spec_Interleave.mono_l: ∀k,(∀d e f g i j,LeO (spec_Interleave.l0 k d e f g i j) (spec_Interleave.l0 (k+1) d e f g i j))∧(∀d e f g i j l,LeO (spec_Interleave.l1 k d e f g i j l) (spec_Interleave.l1 (k+1) d e f g i j l))∧(∀d e f g i,LeO (spec_Interleave.l2 k d e f g i) (spec_Interleave.l2 (k+1) d e f g i))
 |0=>⟨fun _ _ _ _ _ _ r h=>by simp[spec_Interleave.l0]at h,fun _ _ _ _ _ _ _ r h=>by simp[spec_Interleave.l1]at h,fun _ _ _ _ _ r h=>by simp[spec_Interleave.l2]at h⟩
 |k+1=>by
  obtain⟨a,b,c⟩:=spec_Interleave.mono_l k;refine⟨?_,?_,?_⟩
  ·intro d e f g i j
   unfold spec_Interleave.l0
   repeat' first
   |(with_reducible exact a _ _ _ _ _ _)
   |(with_reducible exact b _ _ _ _ _ _ _)
   |(with_reducible exact c _ _ _ _ _)
   |(with_reducible exact LeO.refl _)
   |(with_reducible exact LeO.none _)
   |(with_reducible refine LeO.ite ?_ ?_)
   |(with_reducible refine LeO.bind ?_ (fun _=>?_))
   |exact a _ _ _ _ _ _
   |exact b _ _ _ _ _ _ _
   |exact c _ _ _ _ _
   |exact LeO.none _
   |refine LeO.ite ?_ ?_
   |refine LeO.bind ?_ (fun _=>?_)
  ·intro d e f g i j l
   unfold spec_Interleave.l1
   repeat' first
   |(with_reducible exact a _ _ _ _ _ _)
   |(with_reducible exact b _ _ _ _ _ _ _)
   |(with_reducible exact c _ _ _ _ _)
   |(with_reducible exact LeO.refl _)
   |(with_reducible exact LeO.none _)
   |(with_reducible refine LeO.ite ?_ ?_)
   |(with_reducible refine LeO.bind ?_ (fun _=>?_))
   |exact a _ _ _ _ _ _
   |exact b _ _ _ _ _ _ _
   |exact c _ _ _ _ _
   |exact LeO.none _
   |refine LeO.ite ?_ ?_
   |refine LeO.bind ?_ (fun _=>?_)
  ·intro d e f g i
   unfold spec_Interleave.l2
   repeat' first
   |(with_reducible exact a _ _ _ _ _ _)
   |(with_reducible exact b _ _ _ _ _ _ _)
   |(with_reducible exact c _ _ _ _ _)
   |(with_reducible exact LeO.refl _)
   |(with_reducible exact LeO.none _)
   |(with_reducible refine LeO.ite ?_ ?_)
   |(with_reducible refine LeO.bind ?_ (fun _=>?_))
   |exact a _ _ _ _ _ _
   |exact b _ _ _ _ _ _ _
   |exact c _ _ _ _ _
   |exact LeO.none _
   |refine LeO.ite ?_ ?_
   |refine LeO.bind ?_ (fun _=>?_)
theorem spec_Interleave.mono: ∀d e g h k,LeO (spec_Interleave.f k d e g h) (spec_Interleave.f (k+1) d e g h):=by
 intro d e g h k;obtain⟨a,b,c⟩:=spec_Interleave.mono_l k
 unfold spec_Interleave.f
 repeat' first
   |(with_reducible exact a _ _ _ _ _ _)
   |(with_reducible exact b _ _ _ _ _ _ _)
   |(with_reducible exact c _ _ _ _ _)
   |(with_reducible exact LeO.refl _)
   |(with_reducible exact LeO.none _)
   |(with_reducible refine LeO.ite ?_ ?_)
   |(with_reducible refine LeO.bind ?_ (fun _=>?_))
   |exact a _ _ _ _ _ _
   |exact b _ _ _ _ _ _ _
   |exact c _ _ _ _ _
   |exact LeO.none _
   |refine LeO.ite ?_ ?_
   |refine LeO.bind ?_ (fun _=>?_)
theorem spec_Interleave.calls(k:Nat)(z:Int)(n:Int)(o:Int)(p:Int)(r:Bool)(w:World)(h:spec_Interleave.f k z n o p=some r):
  Calls Tryz.prog 124 #[.int .i64 z,.int .i64 n,.int .i64 o,.int .i64 p] w fun e w'=>e= .returned (.bool r)∧Below w.heap.size w w':=by
 have HB:=S.a (Below.refl w.heap.size w);have H:(spec_Interleave.l0 k z n o p (([z,n,o,p]:List Int)) 0)=some r:=h;clear h;obtain⟨c,B⟩: ∃y_:List Int,y_=(([z,n,o,p]:List Int)):=⟨_,rfl⟩;have hY_:=B;replace H:(spec_Interleave.l0 k z n o p c 0)=some r:=S.rh;clear hY_;have l:=S.a B;clear B;have H':=S.a H;clear H;go_enter Tryz.func124,Tryz.ntmps124;go_wp2_with (first|((with_reducible refine S.gN 18 ?_);refine Kd.R_lit (Kd.int .i64) _ 3 ?hg (N:=18) ?hd (xs:=([z,n,o,p]:List Int)) (inner:=[.int .i64 z,.int .i64 n,.int .i64 o,.int .i64 p]) (ok:=fun _=>True) (okp:=fun _=>True) ?hr ?hp (fun _ hk=>hk) trivial (Below.refl _ _) (Nat.le_refl _) (by simp) ?_;(case hd=>rfl);(case hg=>rfl);(case hr=>first|(go_simp;done)|(go_simp;rfl));(case hp=>exact(Reps.one (show Kd.M (Kd.int .i64) _ _ _ z [.int .i64 z]from rfl) (Reps.one (show Kd.M (Kd.int .i64) _ _ _ n [.int .i64 n]from rfl) (Reps.one (show Kd.M (Kd.int .i64) _ _ _ o [.int .i64 o]from rfl) (Reps.one (show Kd.M (Kd.int .i64) _ _ _ p [.int .i64 p]from rfl) (Reps.none _ _))))));intro L w5 j hb hg_ hnew_;clear hg_ hnew_;(first|rw[←l.1]at j|(simp only[Int.reduceToNat]at j;rw[←l.1]at j));have C:=S.lwA j;replace HB:=S.sA hb;clear hb j))
 repeat(go_quiet (first|((with_reducible refine S.gN 18 ?_);refine Kd.R_lit (Kd.int .i64) _ 3 ?hg (N:=18) ?hd (xs:=([z,n,o,p]:List Int)) (inner:=[.int .i64 z,.int .i64 n,.int .i64 o,.int .i64 p]) (ok:=fun _=>True) (okp:=fun _=>True) ?hr ?hp (fun _ hk=>hk) trivial (Below.refl _ _) (Nat.le_refl _) (by simp) ?_;(case hd=>rfl);(case hg=>rfl);(case hr=>first|(go_simp;done)|(go_simp;rfl));(case hp=>exact(Reps.one (show Kd.M (Kd.int .i64) _ _ _ z [.int .i64 z]from rfl) (Reps.one (show Kd.M (Kd.int .i64) _ _ _ n [.int .i64 n]from rfl) (Reps.one (show Kd.M (Kd.int .i64) _ _ _ o [.int .i64 o]from rfl) (Reps.one (show Kd.M (Kd.int .i64) _ _ _ p [.int .i64 p]from rfl) (Reps.none _ _))))));intro L w5 j hb hg_ hnew_;clear hg_ hnew_;(first|rw[←l.1]at j|(simp only[Int.reduceToNat]at j;rw[←l.1]at j));have C:=S.lwA j;replace HB:=S.sA hb;clear hb j));try go_wp2_with (first|((with_reducible refine S.gN 18 ?_);refine Kd.R_lit (Kd.int .i64) _ 3 ?hg (N:=18) ?hd (xs:=([z,n,o,p]:List Int)) (inner:=[.int .i64 z,.int .i64 n,.int .i64 o,.int .i64 p]) (ok:=fun _=>True) (okp:=fun _=>True) ?hr ?hp (fun _ hk=>hk) trivial (Below.refl _ _) (Nat.le_refl _) (by simp) ?_;(case hd=>rfl);(case hg=>rfl);(case hr=>first|(go_simp;done)|(go_simp;rfl));(case hp=>exact(Reps.one (show Kd.M (Kd.int .i64) _ _ _ z [.int .i64 z]from rfl) (Reps.one (show Kd.M (Kd.int .i64) _ _ _ n [.int .i64 n]from rfl) (Reps.one (show Kd.M (Kd.int .i64) _ _ _ o [.int .i64 o]from rfl) (Reps.one (show Kd.M (Kd.int .i64) _ _ _ p [.int .i64 p]from rfl) (Reps.none _ _))))));intro L w5 j hb hg_ hnew_;clear hg_ hnew_;(first|rw[←l.1]at j|(simp only[Int.reduceToNat]at j;rw[←l.1]at j));have ao:=S.lwA j;have ap:=S.sA hb;clear HB;have C:=ao;have HB:=ap;clear ao ap;clear hb j)))
 go_loopg [10] k (fun kq ax w'=> ∃(b:Int),ax= .int .i64 b∧Aside0 (spec_Interleave.l0 kq z n o p c b=some r)∧Aside0 (kq≤k)∧Aside0 (Kd.R (Kd.int .i64) 3 w' w.heap.size (fun _=>True) L c)∧Aside0 (Below w.heap.size w w'))
 case atStart=>exact⟨(0),S.eA,H',⟨Nat.le_refl _⟩,⟨S.uR C.1⟩,⟨S.bA⟩⟩
 case round=>
  clear H';obtain⟨b,rfl,HA,A,i,HB⟩:=hrel
  cases gk with
  |zero=>exact absurd HA.1 (by simp[spec_Interleave.l0])
  |succ k1=>
   have H:=HA.1;clear HA;simp only[spec_Interleave.l0]at H;replace H:=S.dc H;rcases H with⟨H,T⟩|⟨H,T⟩
   ·have H':=S.a H;clear H;go_wp2
    repeat(go_quiet (fail);try go_wp2)
    go_loopg [11] k1 (fun kq ay w'=> ∃(g:Int),ay= .int .i64 g∧Aside0 (spec_Interleave.l1 kq z n o p c b g=some r)∧Aside0 (kq≤k1)∧Aside0 (Kd.R (Kd.int .i64) 3 w' w.heap.size (fun _=>True) L c)∧Aside0 (Below w.heap.size w w'))
    case atStart=>exact⟨(0),S.eA,H',⟨Nat.le_refl _⟩,⟨S.uR i.1⟩,⟨S.bA⟩⟩
    case round=>
     clear H';try clear c7
     try clear T
     obtain⟨g,rfl,HA,q,i,HB⟩:=hrel
     cases gk with
     |zero=>exact absurd HA.1 (by simp[spec_Interleave.l1])
     |succ k2=>
      have H:=HA.1;clear HA;simp only[spec_Interleave.l1]at H;replace H:=S.dc H;rcases H with⟨H,aq⟩|⟨H,aq⟩
      ·by_cases c9:0≤b
       ·rw[if_pos c9]at H;have aA:decide (0≤b)=true:=decide_eq_true c9;clear c9
        by_cases aa:b<(c.length:Int)
        ·rw[if_pos aa]at H;have az:decide (b<(c.length:Int))=true:=decide_eq_true aa;clear aa
         by_cases ab:0≤g
         ·rw[if_pos ab]at H;have a4:decide (0≤g)=true:=decide_eq_true ab;clear ab
          by_cases ac:g<(c.length:Int)
          ·rw[if_pos ac]at H;have a5:decide (g<(c.length:Int))=true:=decide_eq_true ac;clear ac
           by_cases D:(rd c b)=(rd c g)
           ·rw[if_pos D]at H;have af:((rd c b)==(rd c g))=true:=beq_iff_eq.mpr D;have ag:((rd c b) !=(rd c g))=false:=bne_eq_false_iff_eq.mpr D;clear D;obtain rfl:=Option.some.inj H;obtain⟨_,_,ar⟩:=Kd.R_slice i.1;subst ar;have s:0≤(b:Int):=S.oD;have t:b<(c.length:Int):=S.oD;obtain⟨E,U,V⟩:=Kd.at_int (Kd.R_reads' i.1).2.2 b s t;cases U;replace s:=eq_true s;replace t:=eq_true t;have u:0≤(g:Int):=S.oD;have v:g<(c.length:Int):=S.oD;obtain⟨F,W,X⟩:=Kd.at_int (Kd.R_reads' i.1).2.2 g u v;obtain rfl:E=F:=(by injection W);replace u:=eq_true u;replace v:=eq_true v;go_wp2
            repeat(go_quiet (fail);try go_wp2)
            go_ret;exact⟨S.eW,S.bA⟩
           ·rw[if_neg D]at H;have af:((rd c b)==(rd c g))=false:=beq_eq_false_iff_ne.mpr D;have ag:((rd c b) !=(rd c g))=true:=bne_iff_ne.mpr D;have H':=S.a H;clear H;obtain⟨_,_,au⟩:=Kd.R_slice i.1;subst au;have s:0≤(b:Int):=S.oD;have t:b<(c.length:Int):=S.oD;obtain⟨E,U,V⟩:=Kd.at_int (Kd.R_reads' i.1).2.2 b s t;cases U;replace s:=eq_true s;replace t:=eq_true t;have u:0≤(g:Int):=S.oD;have v:g<(c.length:Int):=S.oD;obtain⟨F,W,X⟩:=Kd.at_int (Kd.R_reads' i.1).2.2 g u v;obtain rfl:E=F:=(by injection W);replace u:=eq_true u;replace v:=eq_true v;go_wp2
            repeat(go_quiet (fail);try go_wp2)
            go_roundg k2
            case measure=>have:=A.1;have:=q.1;omega
            case rel=>exact⟨(wrap64 (g+1)),S.eA,H',⟨by have:=A.1;have:=q.1;omega⟩,⟨S.uR i.1⟩,⟨S.bA⟩⟩
          ·rw[if_neg ac]at H;exact absurd H (by simp)
         ·rw[if_neg ab]at H;exact absurd H (by simp)
        ·rw[if_neg aa]at H;exact absurd H (by simp)
       ·rw[if_neg c9]at H;exact absurd H (by simp)
      ·by_cases ad:0≤b
       ·rw[if_pos ad]at H;have a6:decide (0≤b)=true:=decide_eq_true ad;clear ad
        by_cases ae:b<(c.length:Int)
        ·rw[if_pos ae]at H;have a7:decide (b<(c.length:Int))=true:=decide_eq_true ae;clear ae;replace H:=S.bd H;obtain⟨_,O,H⟩:=H;(try dsimp only at H);replace H:=S.db H;rcases H with⟨rfl,H⟩|⟨rfl,H⟩
         ·have H':=S.a H;clear H;obtain⟨_,_,av⟩:=Kd.R_slice i.1;subst av;have x:0≤(b:Int):=S.oD;have y:b<(c.length:Int):=S.oD;obtain⟨ah,Y,Z⟩:=Kd.at_int (Kd.R_reads' i.1).2.2 b x y;cases Y;replace x:=eq_true x;replace y:=eq_true y;go_wp2_with (first|(go_at_call 79;(with_reducible refine(spec_l1In.calls (rd c b) 0 7 true _ O.1).mono ?_);rintro e w' ⟨rfl,⟨nd,rfl⟩⟩;(try first|exact⟨rfl,_,World.drewN_drewN _ _ _⟩|exact⟨rfl,_,Eq.trans (World.drewN_drewN _ _ _) (congrArg (World.drewN _) (Nat.add_assoc _ _ _))⟩)))
          repeat(go_quiet (first|(go_at_call 79;(with_reducible refine(spec_l1In.calls (rd c b) 0 7 true _ O.1).mono ?_);rintro e w' ⟨rfl,⟨nd,rfl⟩⟩;(try first|exact⟨rfl,_,World.drewN_drewN _ _ _⟩|exact⟨rfl,_,Eq.trans (World.drewN_drewN _ _ _) (congrArg (World.drewN _) (Nat.add_assoc _ _ _))⟩)));try go_wp2_with (first|(go_at_call 79;(with_reducible refine(spec_l1In.calls (rd c b) 0 7 true _ O.1).mono ?_);rintro e w' ⟨rfl,⟨nd,rfl⟩⟩;(try first|exact⟨rfl,_,World.drewN_drewN _ _ _⟩|exact⟨rfl,_,Eq.trans (World.drewN_drewN _ _ _) (congrArg (World.drewN _) (Nat.add_assoc _ _ _))⟩))))
          go_roundg k2
          case measure=>have:=A.1;have:=q.1;omega
          case rel=>exact⟨(wrap64 (b+1)),S.eA,H',⟨by have:=A.1;have:=q.1;omega⟩,⟨S.uR i.1⟩,⟨S.bA⟩⟩
         ·obtain rfl:=Option.some.inj H;obtain⟨_,_,aw⟩:=Kd.R_slice i.1;subst aw;have x:0≤(b:Int):=S.oD;have y:b<(c.length:Int):=S.oD;obtain⟨ah,Y,Z⟩:=Kd.at_int (Kd.R_reads' i.1).2.2 b x y;cases Y;replace x:=eq_true x;replace y:=eq_true y;go_wp2_with (first|(go_at_call 79;(with_reducible refine(spec_l1In.calls (rd c b) 0 7 false _ O.1).mono ?_);rintro e w' ⟨rfl,⟨nd,rfl⟩⟩;(try first|exact⟨rfl,_,World.drewN_drewN _ _ _⟩|exact⟨rfl,_,Eq.trans (World.drewN_drewN _ _ _) (congrArg (World.drewN _) (Nat.add_assoc _ _ _))⟩)))
          repeat(go_quiet (first|(go_at_call 79;(with_reducible refine(spec_l1In.calls (rd c b) 0 7 false _ O.1).mono ?_);rintro e w' ⟨rfl,⟨nd,rfl⟩⟩;(try first|exact⟨rfl,_,World.drewN_drewN _ _ _⟩|exact⟨rfl,_,Eq.trans (World.drewN_drewN _ _ _) (congrArg (World.drewN _) (Nat.add_assoc _ _ _))⟩)));try go_wp2_with (first|(go_at_call 79;(with_reducible refine(spec_l1In.calls (rd c b) 0 7 false _ O.1).mono ?_);rintro e w' ⟨rfl,⟨nd,rfl⟩⟩;(try first|exact⟨rfl,_,World.drewN_drewN _ _ _⟩|exact⟨rfl,_,Eq.trans (World.drewN_drewN _ _ _) (congrArg (World.drewN _) (Nat.add_assoc _ _ _))⟩))))
          go_ret;exact⟨S.eW,S.bA⟩
        ·rw[if_neg ae]at H;exact absurd H (by simp)
       ·rw[if_neg ad]at H;exact absurd H (by simp)
   ·have H':=S.a H;clear H;go_wp2
    repeat(go_quiet (fail);try go_wp2)
    go_loopg [12,13] k1 (fun kq a8 a9 w'=> ∃(m:Int) (d:Int),a8= .int .i64 m∧a9= .int .i64 d∧Aside0 (spec_Interleave.l2 kq n o p m d=some r)∧Aside0 (kq≤k1)∧Aside0 (Below w.heap.size w w'))
    case atStart=>exact⟨(0),(Int.tmod (wrap64 (z+1)) 8),S.eA,S.eA,H',⟨Nat.le_refl _⟩,⟨S.bA⟩⟩
    case round=>
     clear H';try clear c7
     try clear T
     obtain⟨m,d,rfl,rfl,HA,q,HB⟩:=hrel
     cases gk with
     |zero=>exact absurd HA.1 (by simp[spec_Interleave.l2])
     |succ k2=>
      have H:=HA.1;clear HA;simp only[spec_Interleave.l2]at H
      by_cases G:d=n
      ·rw[if_pos G]at H;have ai:(d==n)=true:=beq_iff_eq.mpr G;have aj:(d !=n)=false:=bne_eq_false_iff_eq.mpr G;clear G;obtain rfl:=Option.some.inj H;go_wp2
       repeat(go_quiet (fail);try go_wp2)
       go_ret;exact⟨S.eW,S.bA⟩
      ·rw[if_neg G]at H;have ai:(d==n)=false:=beq_eq_false_iff_ne.mpr G;have aj:(d !=n)=true:=bne_iff_ne.mpr G
       by_cases I:d=o
       ·rw[if_pos I]at H;have ak:(d==o)=true:=beq_iff_eq.mpr I;have al:(d !=o)=false:=bne_eq_false_iff_eq.mpr I;clear I;have H':=S.a H;clear H;go_wp2
        repeat(go_quiet (fail);try go_wp2)
        go_roundg k2
        case measure=>have:=A.1;have:=q.1;omega
        case rel=>exact⟨(wrap64 (m+1)),(Int.tmod (wrap64 (d+1)) 8),S.eA,S.eA,H',⟨by have:=A.1;have:=q.1;omega⟩,⟨S.bA⟩⟩
       ·rw[if_neg I]at H;have ak:(d==o)=false:=beq_eq_false_iff_ne.mpr I;have al:(d !=o)=true:=bne_iff_ne.mpr I
        by_cases J:d=p
        ·rw[if_pos J]at H;have am:(d==p)=true:=beq_iff_eq.mpr J;have an:(d !=p)=false:=bne_eq_false_iff_eq.mpr J;clear J;have H':=S.a H;clear H;go_wp2
         repeat(go_quiet (fail);try go_wp2)
         go_roundg k2
         case measure=>have:=A.1;have:=q.1;omega
         case rel=>exact⟨(wrap64 (m+1)),(Int.tmod (wrap64 (d+1)) 8),S.eA,S.eA,H',⟨by have:=A.1;have:=q.1;omega⟩,⟨S.bA⟩⟩
        ·rw[if_neg J]at H;have am:(d==p)=false:=beq_eq_false_iff_ne.mpr J;have an:(d !=p)=true:=bne_iff_ne.mpr J;have H':=S.a H;clear H;go_wp2
         repeat(go_quiet (fail);try go_wp2)
         go_roundg k2
         case measure=>have:=A.1;have:=q.1;omega
         case rel=>exact⟨(m),(Int.tmod (wrap64 (d+1)) 8),S.eA,S.eA,H',⟨by have:=A.1;have:=q.1;omega⟩,⟨S.bA⟩⟩
def spec_InPlace.f(b:Int):Option (Int):=(spec_l1In.f b 0 3).bind fun a=>(if a=true then(some (wrap64 (2*b)))else(some (-1)))
theorem spec_InPlace.calls(a:Int)(r:Int)(w:World)(h:spec_InPlace.f a=some r):
  Calls Tryz.prog 125 #[.int .i64 a] w fun e w'=>e= .returned (.int .i64 r)∧Drawn0 w w':=by
 have H:((spec_l1In.f a 0 3).bind fun b=>(if b=true then(some (wrap64 (2*a)))else(some (-1))))=some r:=h;clear h;replace H:=S.bd H;obtain⟨b,c,H⟩:=H;(try dsimp only at H);replace H:=S.db H;rcases H with⟨rfl,H⟩|⟨rfl,H⟩
 ·obtain rfl:=Option.some.inj H;go_enter Tryz.func125,Tryz.ntmps125;go_wp2_with (first|((with_reducible refine S.gF 79 ?_);refine S.gQ 4 Tryz.func79 #[.int .i64 a,.int .i64 0,.int .i64 3] (spec_l1In.calls a 0 3 true _ c.1) ?_;rintro e w' ⟨rfl,⟨nd,rfl⟩⟩;refine⟨_,rfl,?_⟩));go_ret;exact⟨S.eA,by repeat(first|exact Drawn0.refl _|apply Drawn0.step)⟩
 ·obtain rfl:=Option.some.inj H;go_enter Tryz.func125,Tryz.ntmps125;go_wp2_with (first|((with_reducible refine S.gF 79 ?_);refine S.gQ 4 Tryz.func79 #[.int .i64 a,.int .i64 0,.int .i64 3] (spec_l1In.calls a 0 3 false _ c.1) ?_;rintro e w' ⟨rfl,⟨nd,rfl⟩⟩;refine⟨_,rfl,?_⟩));go_ret;exact⟨S.eA,by repeat(first|exact Drawn0.refl _|apply Drawn0.step)⟩
def spec_OutPlace.f(b:Int):Option (Int):=(spec_l1In.f b 0 3).bind fun a=>(if a=true then(some (wrap64 ((wrap64 (2*b))+1)))else(some (-1)))
theorem spec_OutPlace.calls(a:Int)(r:Int)(w:World)(h:spec_OutPlace.f a=some r):
  Calls Tryz.prog 126 #[.int .i64 a] w fun e w'=>e= .returned (.int .i64 r)∧Drawn0 w w':=by
 have H:((spec_l1In.f a 0 3).bind fun b=>(if b=true then(some (wrap64 ((wrap64 (2*a))+1)))else(some (-1))))=some r:=h;clear h;replace H:=S.bd H;obtain⟨b,c,H⟩:=H;(try dsimp only at H);replace H:=S.db H;rcases H with⟨rfl,H⟩|⟨rfl,H⟩
 ·obtain rfl:=Option.some.inj H;go_enter Tryz.func126,Tryz.ntmps126;go_wp2_with (first|((with_reducible refine S.gF 79 ?_);refine S.gQ 4 Tryz.func79 #[.int .i64 a,.int .i64 0,.int .i64 3] (spec_l1In.calls a 0 3 true _ c.1) ?_;rintro e w' ⟨rfl,⟨nd,rfl⟩⟩;refine⟨_,rfl,?_⟩));go_ret;exact⟨S.eA,by repeat(first|exact Drawn0.refl _|apply Drawn0.step)⟩
 ·obtain rfl:=Option.some.inj H;go_enter Tryz.func126,Tryz.ntmps126;go_wp2_with (first|((with_reducible refine S.gF 79 ?_);refine S.gQ 4 Tryz.func79 #[.int .i64 a,.int .i64 0,.int .i64 3] (spec_l1In.calls a 0 3 false _ c.1) ?_;rintro e w' ⟨rfl,⟨nd,rfl⟩⟩;refine⟨_,rfl,?_⟩));go_ret;exact⟨S.eA,by repeat(first|exact Drawn0.refl _|apply Drawn0.step)⟩
def spec_Conflict.j0:Nat→Bool→Int→Int→Int→Int→Int→Int→Int→Int→Option (Bool)
 |0,_,_,_,_,_,_,_,_,_=>none
 |k+1,p,h,e,a,c,i,g,b,d=>if p=true then(some false)else(if e=2 then(if b=a then(some true)else(some (d==a)))else(if g=2 then(if a=b then(some true)else(some (c==b)))else(if a=b then(some false)else(if c=d then(some true)else((spec_InPlace.f a).bind fun j=>((spec_OutPlace.f c).bind fun l=>((spec_InPlace.f b).bind fun m=>((spec_OutPlace.f d).bind fun n=>((spec_Interleave.f k j l m n).bind fun o=>(some o))))))))))
def spec_Conflict.f(k:Nat)(c:Int)(a:Int)(d:Int)(e:Int)(g:Int)(b:Int)(h:Int)(i:Int):Option (Bool):=(spec_IsPath.f c a d e).bind fun j=>(if j=true then((spec_IsPath.f g b h i).bind fun l=>(if l=true then(if a=2 then(spec_Conflict.j0 k (b==2) c a d e g b h i)else(spec_Conflict.j0 k false c a d e g b h i))else(spec_Conflict.j0 k true c a d e g b h i)))else(spec_Conflict.j0 k true c a d e g b h i))
def spec_Conflict.T11:Bool×List (List Nat×List Nat):=(true,[([],[]),([0],[0]),([1],[1]),([],[]),([3],[3]),([4,2],[4]),([],[]),([6],[6]),([7,5],[7]),([],[]),([9],[9]),([10,8],[10]),([2,5,8,11,11],[2,5,8,11]),([12,12,0,1,2,3,4,5,6,7,8,9,10,11,12],[12])])
def spec_Conflict.B11:List Nat:=[0,1,3,0,8,31,0,64,255,0,512,2047,4095,8191]
theorem spec_Conflict.tab11:rtab .any (opsOf Tryz.f109 11)=spec_Conflict.T11:=by kernel_rfl
theorem spec_Conflict.bits11:waitsOk spec_Conflict.T11.2 spec_Conflict.B11=true:=by kernel_rfl
theorem spec_Conflict.calls(k:Nat)(q:Int)(l:Int)(d:Int)(m:Int)(s:Int)(o:Int)(j:Int)(p:Int)(r:Bool)(w:World)(h:spec_Conflict.f k q l d m s o j p=some r):
  Calls Tryz.prog 109 #[.agg #[.int .i64 q,.int .i64 l,.int .i64 d,.int .i64 m],.agg #[.int .i64 s,.int .i64 o,.int .i64 j,.int .i64 p]] w fun e w'=>e= .returned (.bool r)∧Below w.heap.size w w':=by
 have:=Tryz.underlying76;have HB:=S.a (Below.refl w.heap.size w);have H:((spec_IsPath.f q l d m).bind fun J=>(if J=true then((spec_IsPath.f s o j p).bind fun L=>(if L=true then(if l=2 then(spec_Conflict.j0 k (o==2) q l d m s o j p)else(spec_Conflict.j0 k false q l d m s o j p))else(spec_Conflict.j0 k true q l d m s o j p)))else(spec_Conflict.j0 k true q l d m s o j p)))=some r:=h;clear h;have M:=S.a H;clear H;go_enter Tryz.func109,Tryz.ntmps109;go_upto_region 1 with(first|((with_reducible refine S.gN 2 ?_);refine S.bx 2 (cs:=#[.int .i64 q,.int .i64 l,.int .i64 d,.int .i64 m]) (t:=76) ?_;intro O hg w4 hbox hb;have b:=S.a hbox;have:=S.geA hg;have:=S.geA hg;replace HB:=S.sA hb;clear hb hbox hg)|((with_reducible refine S.gN 3 ?_);refine S.bx 3 (cs:=#[.int .i64 s,.int .i64 o,.int .i64 j,.int .i64 p]) (t:=76) ?_;intro R hg w5 hbox hb;have c:=S.a hbox;have:=S.geG hg;have:=S.geG hg;replace HB:=S.sG hb;have g:=S.nl hg b;have i:=S.ng hg b;replace b:=S.kb b hb;clear hb hbox hg));(try simp only[Act.put,List.setIfInBounds_toArray,List.set_cons_zero,List.set_cons_succ]);go_cut [5] (fun v5 wc=> ∃(kq:Nat) (D:Bool),v5= .bool D∧Aside0 (spec_Conflict.j0 kq D q l d m s o j p=some r)∧Aside0 (kq≤k)∧Aside0 (wc.heap[O]?=some (.cells #[.int .i64 q,.int .i64 l,.int .i64 d,.int .i64 m] 76 (0,0)))∧Aside0 (wc.heap[R]?=some (.cells #[.int .i64 s,.int .i64 o,.int .i64 j,.int .i64 p] 76 (0,0)))∧Aside0 (Below w.heap.size w wc))
 case first=>
  have H:=M.1;clear M;replace H:=S.bd H;obtain⟨J,A6,H⟩:=H;(try dsimp only at H);replace H:=S.db H;rcases H with⟨rfl,H⟩|⟨rfl,H⟩
  ·replace H:=S.bd H;obtain⟨L,A8,H⟩:=H;(try dsimp only at H);replace H:=S.db H;rcases H with⟨rfl,H⟩|⟨rfl,H⟩
   ·by_cases v:l=2
    ·rw[if_pos v]at H;have u:(l==2)=true:=beq_iff_eq.mpr v;have T:(l !=2)=false:=bne_eq_false_iff_eq.mpr v;clear v;(first|rw[u]|(simp only[i64_w,i32_w];rw[u])|skip);have H':=S.a H;clear H;have:=g.1;have:=i.1;obtain⟨_,_,_,_,_,_,_,_⟩:=S.c4 b.1;go_wp2_with (first|((with_reducible refine S.gF 113 ?_);refine S.gQ 7 Tryz.func113 #[.agg #[.int .i64 q,.int .i64 l,.int .i64 d,.int .i64 m]] (spec_IsPath.calls q l d m true _ A6.1) ?_;rintro e an ⟨rfl,hb⟩;refine⟨_,rfl,?_⟩;replace b:=S.kb b hb;replace c:=S.kb c hb;replace HB:=S.sG hb;(try clear hb);obtain⟨_,_,_,_,_,_,_,_⟩:=S.c4 c.1)|(go_at_call 113;(with_reducible refine(spec_IsPath.calls s o j p true _ A8.1).mono ?_);rintro e ao ⟨rfl,hb⟩;replace b:=S.kb b hb;replace c:=S.kb c hb;replace HB:=S.sG hb;(try clear hb);obtain⟨_,_,_,_,_,_,_,_⟩:=S.c4 b.1;obtain⟨_,_,_,_,_,_,_,_⟩:=S.c4 c.1));go_meet
     case rel=>exact⟨_,((o==2)),S.eA,H',S.le,⟨S.uB b.1⟩,⟨S.uB c.1⟩,⟨S.bG⟩⟩
    ·rw[if_neg v]at H;have u:(l==2)=false:=beq_eq_false_iff_ne.mpr v;have T:(l !=2)=true:=bne_iff_ne.mpr v;(first|rw[u]|(simp only[i64_w,i32_w];rw[u])|skip);have H':=S.a H;clear H;have:=g.1;have:=i.1;obtain⟨_,_,_,_,_,_,_,_⟩:=S.c4 b.1;go_wp2_with (first|((with_reducible refine S.gF 113 ?_);refine S.gQ 7 Tryz.func113 #[.agg #[.int .i64 q,.int .i64 l,.int .i64 d,.int .i64 m]] (spec_IsPath.calls q l d m true _ A6.1) ?_;rintro e ap ⟨rfl,hb⟩;refine⟨_,rfl,?_⟩;replace b:=S.kb b hb;replace c:=S.kb c hb;replace HB:=S.sG hb;(try clear hb);obtain⟨_,_,_,_,_,_,_,_⟩:=S.c4 c.1)|(go_at_call 113;(with_reducible refine(spec_IsPath.calls s o j p true _ A8.1).mono ?_);rintro e aq ⟨rfl,hb⟩;replace b:=S.kb b hb;replace c:=S.kb c hb;replace HB:=S.sG hb;(try clear hb);obtain⟨_,_,_,_,_,_,_,_⟩:=S.c4 b.1));go_meet
     case rel=>exact⟨_,(false),S.eA,H',S.le,⟨S.uB b.1⟩,⟨S.uB c.1⟩,⟨S.bG⟩⟩
   ·have H':=S.a H;clear H;have:=g.1;have:=i.1;obtain⟨_,_,_,_,_,_,_,_⟩:=S.c4 b.1;go_wp2_with (first|((with_reducible refine S.gF 113 ?_);refine S.gQ 7 Tryz.func113 #[.agg #[.int .i64 q,.int .i64 l,.int .i64 d,.int .i64 m]] (spec_IsPath.calls q l d m true _ A6.1) ?_;rintro e ar ⟨rfl,hb⟩;refine⟨_,rfl,?_⟩;replace b:=S.kb b hb;replace c:=S.kb c hb;replace HB:=S.sG hb;(try clear hb);obtain⟨_,_,_,_,_,_,_,_⟩:=S.c4 c.1)|(go_at_call 113;(with_reducible refine(spec_IsPath.calls s o j p false _ A8.1).mono ?_);rintro e au ⟨rfl,hb⟩;replace b:=S.kb b hb;replace c:=S.kb c hb;replace HB:=S.sG hb;(try clear hb)));go_meet
    case rel=>exact⟨_,(true),S.eA,H',S.le,⟨S.uB b.1⟩,⟨S.uB c.1⟩,⟨S.bG⟩⟩
  ·have H':=S.a H;clear H;have:=g.1;have:=i.1;obtain⟨_,_,_,_,_,_,_,_⟩:=S.c4 b.1;go_wp2_with (first|((with_reducible refine S.gF 113 ?_);refine S.gQ 7 Tryz.func113 #[.agg #[.int .i64 q,.int .i64 l,.int .i64 d,.int .i64 m]] (spec_IsPath.calls q l d m false _ A6.1) ?_;rintro e av ⟨rfl,hb⟩;refine⟨_,rfl,?_⟩;replace b:=S.kb b hb;replace c:=S.kb c hb;replace HB:=S.sG hb;(try clear hb)));go_meet
   case rel=>exact⟨_,(true),S.eA,H',S.le,⟨S.uB b.1⟩,⟨S.uB c.1⟩,⟨S.bG⟩⟩
 case rest=>
  clear M;obtain⟨kq,D,rfl,HA,_,b,c,HB⟩:=hcut
  cases kq with
  |zero=>exact absurd HA.1 (by simp[spec_Conflict.j0])
  |succ ah=>
   have H:=HA.1;clear HA;simp only[spec_Conflict.j0]at H;replace H:=S.db H;rcases H with⟨rfl,H⟩|⟨rfl,H⟩
   ·obtain rfl:=Option.some.inj H;go_wp2;go_ret;exact⟨S.eW,S.bG⟩
   ·by_cases x:l=2
    ·rw[if_pos x]at H;have U:(l==2)=true:=beq_iff_eq.mpr x;have V:(l !=2)=false:=bne_eq_false_iff_eq.mpr x;clear x
     by_cases y:j=d
     ·rw[if_pos y]at H;have W:(j==d)=true:=beq_iff_eq.mpr y;have X:(j !=d)=false:=bne_eq_false_iff_eq.mpr y;clear y;obtain rfl:=Option.some.inj H;have:=g.1;have:=i.1;obtain⟨_,_,_,_,_,_,_,_⟩:=S.c4 b.1;obtain⟨_,_,_,_,_,_,_,_⟩:=S.c4 c.1;go_wp2;go_ret;exact⟨S.eW,S.bG⟩
     ·rw[if_neg y]at H;have W:(j==d)=false:=beq_eq_false_iff_ne.mpr y;have X:(j !=d)=true:=bne_iff_ne.mpr y;obtain rfl:=Option.some.inj H;have:=g.1;have:=i.1;obtain⟨_,_,_,_,_,_,_,_⟩:=S.c4 b.1;obtain⟨_,_,_,_,_,_,_,_⟩:=S.c4 c.1;go_wp2;go_ret;exact⟨S.eW,S.bG⟩
    ·rw[if_neg x]at H;have U:(l==2)=false:=beq_eq_false_iff_ne.mpr x;have V:(l !=2)=true:=bne_iff_ne.mpr x
     by_cases z:o=2
     ·rw[if_pos z]at H;have Y:(o==2)=true:=beq_iff_eq.mpr z;have Z:(o !=2)=false:=bne_eq_false_iff_eq.mpr z;clear z
      by_cases A:d=j
      ·rw[if_pos A]at H;have aa:(d==j)=true:=beq_iff_eq.mpr A;have ab:(d !=j)=false:=bne_eq_false_iff_eq.mpr A;clear A;obtain rfl:=Option.some.inj H;have:=g.1;have:=i.1;obtain⟨_,_,_,_,_,_,_,_⟩:=S.c4 b.1;obtain⟨_,_,_,_,_,_,_,_⟩:=S.c4 c.1;go_wp2;go_ret;exact⟨S.eW,S.bG⟩
      ·rw[if_neg A]at H;have aa:(d==j)=false:=beq_eq_false_iff_ne.mpr A;have ab:(d !=j)=true:=bne_iff_ne.mpr A;obtain rfl:=Option.some.inj H;have:=g.1;have:=i.1;obtain⟨_,_,_,_,_,_,_,_⟩:=S.c4 b.1;obtain⟨_,_,_,_,_,_,_,_⟩:=S.c4 c.1;go_wp2;go_ret;exact⟨S.eW,S.bG⟩
     ·rw[if_neg z]at H;have Y:(o==2)=false:=beq_eq_false_iff_ne.mpr z;have Z:(o !=2)=true:=bne_iff_ne.mpr z
      by_cases B:d=j
      ·rw[if_pos B]at H;have ac:(d==j)=true:=beq_iff_eq.mpr B;have ad:(d !=j)=false:=bne_eq_false_iff_eq.mpr B;clear B;obtain rfl:=Option.some.inj H;have:=g.1;have:=i.1;obtain⟨_,_,_,_,_,_,_,_⟩:=S.c4 b.1;obtain⟨_,_,_,_,_,_,_,_⟩:=S.c4 c.1;go_wp2;go_ret;exact⟨S.eW,S.bG⟩
      ·rw[if_neg B]at H;have ac:(d==j)=false:=beq_eq_false_iff_ne.mpr B;have ad:(d !=j)=true:=bne_iff_ne.mpr B
       by_cases C:m=p
       ·rw[if_pos C]at H;have ae:(m==p)=true:=beq_iff_eq.mpr C;have af:(m !=p)=false:=bne_eq_false_iff_eq.mpr C;clear C;obtain rfl:=Option.some.inj H;have:=g.1;have:=i.1;obtain⟨_,_,_,_,_,_,_,_⟩:=S.c4 b.1;obtain⟨_,_,_,_,_,_,_,_⟩:=S.c4 c.1;go_wp2;go_ret;exact⟨S.eW,S.bG⟩
       ·rw[if_neg C]at H;have ae:(m==p)=false:=beq_eq_false_iff_ne.mpr C;have af:(m !=p)=true:=bne_iff_ne.mpr C;replace H:=S.bd H;obtain⟨E,ai,H⟩:=H;(try dsimp only at H);replace H:=S.bd H;obtain⟨F,aj,H⟩:=H;(try dsimp only at H);replace H:=S.bd H;obtain⟨G,ak,H⟩:=H;(try dsimp only at H);replace H:=S.bd H;obtain⟨I,al,H⟩:=H;(try dsimp only at H);replace H:=S.bd H;obtain⟨ag,am,H⟩:=H;(try dsimp only at H);obtain rfl:=Option.some.inj H;have:=g.1;have:=i.1;obtain⟨_,_,_,_,_,_,_,_⟩:=S.c4 b.1;obtain⟨_,_,_,_,_,_,_,_⟩:=S.c4 c.1;try go_wp2
        replace b:=S.a (blk_drew b.1);replace c:=S.a (blk_drew c.1);replace HB:=S.a (below_drew1 HB.1);refine S.st (n:=14) (ds:=[]) (S.bs 16384) (fun w_ h_=>have x_:=S.d4 (S.Q h_ b.1) (S.e4 (S.Q h_ c.1));x_) (fun hHeld=>?_);refine with_tabW spec_Conflict.tab11 spec_Conflict.bits11 (fun HT_ HW_=>?_);generalize wc.drew=aw at b c HB hHeld⊢;refine S.pS 0 68 ?_;refine S.pS 3 71 ?_;refine S.pS 6 74 ?_;refine S.pS 9 77 ?_;refine S.tK 1 69 (S.bs 16971) ?_;refine S.tK 4 72 (S.bs 16987) ?_;refine S.tK 7 75 (S.bs 17115) ?_;refine S.tK 10 78 (S.bs 18139) ?_;refine S.oN 2 70 (S.bs 18143) (fun K hK=>?_);refine S.go Tryz.func125 #[.int .i64 d] ?_
        with_reducible refine(spec_InPlace.calls d E _ ai.1).mono ?_
        rintro e w' ⟨rfl,⟨nd,rfl⟩⟩;refine⟨_,rfl,?_⟩;refine hK.out _ _ (S.d4 b.1 (S.e4 c.1)) (fun hHeld=>?_);clear hK K;refine S.nm 70 ?_;refine S.oN 5 73 (S.bs 18175) (fun K hK=>?_);refine S.go Tryz.func126 #[.int .i64 m] ?_
        with_reducible refine(spec_OutPlace.calls m F _ aj.1).mono ?_
        rintro e w' ⟨rfl,⟨nd,rfl⟩⟩;refine⟨_,rfl,?_⟩;refine hK.out _ _ (S.d4 b.1 (S.e4 c.1)) (fun hHeld=>?_);clear hK K;refine S.nm 73 ?_;refine S.oN 8 76 (S.bs 18431) (fun K hK=>?_);refine S.go Tryz.func125 #[.int .i64 j] ?_
        with_reducible refine(spec_InPlace.calls j G _ ak.1).mono ?_
        rintro e w' ⟨rfl,⟨nd,rfl⟩⟩;refine⟨_,rfl,?_⟩;refine hK.out _ _ (S.d4 b.1 (S.e4 c.1)) (fun hHeld=>?_);clear hK K;refine S.nm 76 ?_;refine S.oN 11 79 (S.bs 20479) (fun K hK=>?_);refine S.go Tryz.func126 #[.int .i64 p] ?_
        with_reducible refine(spec_OutPlace.calls p I _ al.1).mono ?_
        rintro e w' ⟨rfl,⟨nd,rfl⟩⟩;refine⟨_,rfl,?_⟩;refine hK.out _ _ (S.d4 b.1 (S.e4 c.1)) (fun hHeld=>?_);clear hK K;refine S.nm 79 ?_;refine S.oN 12 80 (S.bs 24575) (fun K hK=>?_);refine S.go Tryz.func124 #[.int .i64 E,.int .i64 F,.int .i64 G,.int .i64 I] ?_
        with_reducible refine(spec_Interleave.calls ah E F G I ag _ am.1).mono ?_
        rintro e ax ⟨rfl,hb⟩;refine⟨_,rfl,?_⟩;replace b:=S.kb b hb;replace c:=S.kb c hb;replace HB:=S.sG hb;(try clear hb);(try clear ay);(try clear hk);(try clear hi);refine hK.out _ _ (S.d4 b.1 (S.e4 c.1)) (fun hHeld=>?_);clear hK K;refine S.nm 80 ?_;refine S.pS 13 4 ?_;refine done_ (done_of HT_.1 (by kernel_rfl)) ?_;try go_wp2
        go_ret;exact⟨S.eW,S.bG⟩
mutual
def spec_IsTogether.l0:Nat→List (S76)→List Int→Int→Option (Bool)
 |0,_,_,_=>none
 |k+1,d,c,b=>if b<(c.length:Int)then(if 0≤b then((spec_FindPath.f k d (rd c b)).bind fun a=>(if a<0 then(spec_IsTogether.j1 k d c b a true)else(if b>0 then(if 0≤(wrap64 (b-1))then(if(wrap64 (b-1))<(c.length:Int)then(spec_IsTogether.j1 k d c b a (decide ((rd c (wrap64 (b-1)))≥(rd c b))))else(none))else(none))else(spec_IsTogether.j1 k d c b a false))))else(none))else((spec_ArePaths.f k d).bind fun e=>(some e))
def spec_IsTogether.j1:Nat→List (S76)→List Int→Int→Int→Bool→Option (Bool)
 |0,_,_,_,_,_=>none
 |k+1,b,c,d,e,a=>if a=true then(some false)else(spec_IsTogether.l1 k b c d e 0)
def spec_IsTogether.l1:Nat→List (S76)→List Int→Int→Int→Int→Option (Bool)
 |0,_,_,_,_,_=>none
 |k+1,b,g,h,c,d=>if d<h then(if 0≤c then(if c<(b.length:Int)then(if 0≤d then(if d<(g.length:Int)then((spec_FindPath.f k b (rd g d)).bind fun a=>(if 0≤a then(if a<(b.length:Int)then((spec_Conflict.f k ((rd_T76 b c).f0) ((rd_T76 b c).f1) ((rd_T76 b c).f2) ((rd_T76 b c).f3) ((rd_T76 b a).f0) ((rd_T76 b a).f1) ((rd_T76 b a).f2) ((rd_T76 b a).f3)).bind fun e=>(if e=true then(some false)else(spec_IsTogether.l1 k b g h c (wrap64 (d+1)))))else(none))else(none)))else(none))else(none))else(none))else(none))else(spec_IsTogether.l0 k b g (wrap64 (h+1)))
end
def spec_IsTogether.f(k:Nat)(a:List (S76))(b:List Int):Option (Bool):=spec_IsTogether.l0 k a b 0
def spec_IsTogether.T5:Bool×List (List Nat×List Nat):=(true,[([],[]),([0],[0]),([1],[1]),([2],[2]),([3,2],[2,3]),([4,2,2],[2,4]),([5],[5]),([5],[5]),([7,5],[5,7]),([6,8,5],[5,6,8]),([9,5],[5,9]),([5],[5]),([5],[5]),([11,12,5],[5,11,12]),([13,5],[5,13]),([10,14,5],[5,10,14]),([5,15,2],[2,5,15]),([2,16],[2,16])])
def spec_IsTogether.B5:List Nat:=[0,1,3,7,15,31,63,63,191,511,1023,63,63,6207,14399,32767,65535,131071]
theorem spec_IsTogether.tab5:rtab .any (opsOf Tryz.f78 5)=spec_IsTogether.T5:=by kernel_rfl
theorem spec_IsTogether.bits5:waitsOk spec_IsTogether.T5.2 spec_IsTogether.B5=true:=by kernel_rfl
def spec_IsTogether.T10:Bool×List (List Nat×List Nat):=(true,[([],[]),([],[]),([0,1],[0,1]),([2],[2]),([],[]),([],[]),([],[]),([],[]),([6,7],[6,7]),([8],[8]),([5,9],[5,9]),([4,10],[4,10]),([11],[11]),([3,12,10],[3,12])])
def spec_IsTogether.B10:List Nat:=[0,0,3,7,0,0,0,0,192,448,992,2032,4080,8191]
theorem spec_IsTogether.tab10:rtab .any (opsOf Tryz.f78 10)=spec_IsTogether.T10:=by kernel_rfl
theorem spec_IsTogether.bits10:waitsOk spec_IsTogether.T10.2 spec_IsTogether.B10=true:=by kernel_rfl
theorem spec_IsTogether.calls(k:Nat)(A0:Option Addr)(c0:Nat)(u:List (S76))(A1:Option Addr)(c1:Nat)(J:List Int)(r:Bool)(w:World)(aD:Kd.C k76 w A0 u.length u)(aE:u.length≤c0)(aF:Kd.C (Kd.int .i64) w A1 J.length J)(aG:J.length≤c1)(h:spec_IsTogether.f k u J=some r):
  Calls Tryz.prog 78 #[.slice A0 u.length c0,.slice A1 J.length c1] w fun e w'=>e= .returned (.bool r)∧Below w.heap.size w w':=by
 have:=Tryz.underlying76;have aa:=S.a aD;have av:=S.a aE;clear aD aE;have ai:=S.a aF;have:=S.a aG;clear aF aG;have HB:=S.a (Below.refl w.heap.size w);have H:(spec_IsTogether.l0 k u J 0)=some r:=h;clear h;have H':=S.a H;clear H;go_enter Tryz.func78,Tryz.ntmps78;go_wp2;go_loopg [5] k (fun kq v5 w'=> ∃(d:Int),v5= .int .i64 d∧Aside0 (spec_IsTogether.l0 kq u J d=some r)∧Aside0 (kq≤k)∧Aside0 (Below w.heap.size w w'))
 case atStart=>exact⟨(0),S.eA,H',⟨Nat.le_refl _⟩,⟨S.bA⟩⟩
 case round=>
  clear H';try clear c1
  obtain⟨d,rfl,HA,ae,HB⟩:=hrel
  cases gk with
  |zero=>exact absurd HA.1 (by simp[spec_IsTogether.l0])
  |succ k1=>
   have H:=HA.1;clear HA;simp only[spec_IsTogether.l0]at H;replace H:=S.dc H;rcases H with⟨H,aj⟩|⟨H,aj⟩
   ·by_cases c4:0≤d
    ·rw[if_pos c4]at H;have a6:decide (0≤d)=true:=decide_eq_true c4;clear c4;replace H:=S.bd H;obtain⟨b,A5,H⟩:=H;(try dsimp only at H);have a9:=S.a H;clear H;have ab:0≤(d:Int):=S.oD;have ac:d<(J.length:Int):=S.oD;obtain⟨Y,aH,L⟩:=Kd.at_int ai.1 d ab ac;cases aH;replace L:=S.hb HB L;replace ab:=eq_true ab;replace ac:=eq_true ac;go_upto_region 5 with(first|((with_reducible refine S.gF 81 ?_);refine S.gQ 19 Tryz.func81 #[.slice A0 u.length c0,.int .i64 (rd J d)] (spec_FindPath.calls k1 _ _ u (rd J d) b _ ?s1 av.1 A5.1) ?_;(case s1=>exact S.cA aa.1);rintro e w' ⟨rfl,⟨nd,rfl⟩⟩;refine⟨_,rfl,?_⟩));have nB_:=S.a (pw_below_drewN HB.1 nd);clear HB;have HB:=nB_;clear nB_;generalize wr.drewN nd=wq at HB⊢;(try simp only[Act.put,List.setIfInBounds_toArray,List.set_cons_zero,List.set_cons_succ]);go_cut [37] (fun aO wc=> ∃(kq:Nat) (af:Bool),aO= .bool af∧Aside0 (spec_IsTogether.j1 kq u J d b af=some r)∧Aside0 (kq≤k1)∧Aside0 (Below w.heap.size w wc))
     case first=>
      have H:=a9.1;clear a9;replace H:=S.dc H;rcases H with⟨H,ad⟩|⟨H,ad⟩
      ·(first|rw[ad]|(simp only[i64_w,i32_w];rw[ad])|skip);have H':=S.a H;clear H;try go_wp2
       replace HB:=S.a (below_drew1 HB.1);refine start_ (n:=18) (S:=fun w'=>True) (ds:=[]) (S.bs 262144) (by kernel_rfl) rfl rfl trivial (fun hHeld=>?_);refine with_tabW spec_IsTogether.tab5 spec_IsTogether.bits5 (fun HT_ HW_=>?_);generalize wq.drew=w8 at HB hHeld⊢;refine S.pS 0 20 ?_;refine S.pS 1 21 ?_;refine S.pS 2 22 ?_;refine S.pU 3 23 ?_;refine S.pU 4 24 ?_;refine S.pU 5 25 ?_;refine S.pU 6 26 ?_;refine S.pU 7 27 ?_;refine S.pU 8 28 ?_;refine S.pU 9 29 ?_;refine S.pU 10 30 ?_;refine S.pU 11 31 ?_;refine S.pU 12 32 ?_;refine S.pU 13 33 ?_;refine S.pU 14 34 ?_;refine S.pU 15 35 ?_;refine S.pU 16 36 ?_;refine S.pS 17 37 ?_;refine done_ (done_of HT_.1 (by kernel_rfl)) ?_;try go_wp2
       go_meet
       case rel=>exact⟨_,(true),S.eA,H',⟨by have:=ae.1;first|omega|exact Nat.le_refl _⟩,⟨S.bA⟩⟩
      ·(first|rw[ad]|(simp only[i64_w,i32_w];rw[ad])|skip)
       by_cases c9:d>0
       ·rw[if_pos c9]at H;have aI:decide (0<d)=true:=decide_eq_true c9;clear c9;obtain⟨I,Z⟩: ∃j_:Int,(wrap64 (d-1))=j_:=⟨_,rfl⟩;replace H:(if 0≤(I)then(if(I)<(J.length:Int)then(spec_IsTogether.j1 k1 u J d b (decide ((rd J (I))≥(rd J d))))else(none))else(none))=some r:=by first|(rw[Z]at H;exact H)|(simp only[Z]at H⊢;exact H)
        have hji10w:(IntKind.i64.wrap (d-1))=I:=(i64_w _).trans Z
        by_cases aw:0≤(I)
        ·rw[if_pos aw]at H;have aP:decide (0≤(I))=true:=decide_eq_true aw;clear aw
         by_cases ax:(I)<(J.length:Int)
         ·rw[if_pos ax]at H;have aQ:decide ((I)<(J.length:Int))=true:=decide_eq_true ax;clear ax;have H':=S.a H;clear H;try go_wp2
          replace HB:=S.a (below_drew1 HB.1);have ak:0≤((I):Int):=S.oD;have al:(I)<(J.length:Int):=S.oD;obtain⟨aA,aJ,M⟩:=Kd.at_int ai.1 (I) ak al;have am:=M;obtain rfl:Y=aA:=(by injection aJ);replace M:=S.hb HB M;replace ak:=eq_true ak;replace al:=eq_true al;have an:0≤(d:Int):=S.oD;have ao:d<(J.length:Int):=S.oD;obtain⟨aB,aK,N⟩:=Kd.at_int ai.1 d an ao;have ap:=N;obtain rfl:Y=aB:=(by injection aK);replace N:=S.hb HB N;replace an:=eq_true an;replace ao:=eq_true ao;refine S.st (n:=18) (ds:=[]) (S.bs 262144) (fun w_ h_=>have x_:=And.intro (S.q h_ (S.hb HB am)) (S.q h_ (S.hb HB ap));x_) (fun hHeld=>?_);refine with_tabW spec_IsTogether.tab5 spec_IsTogether.bits5 (fun HT_ HW_=>?_);generalize wr.drew=aZ at HB M N hHeld⊢;refine S.pS 0 20 ?_;refine S.pS 1 21 ?_;refine S.pS 2 22 ?_;refine S.pS 3 23 ?_;refine S.pS 4 24 ?_;refine S.pS 5 25 ?_;refine S.pS 6 26 ?_;refine S.pS 7 27 ?_;refine S.pS 8 28 ?_;refine S.pS 9 29 ?_;refine S.pS 11 31 ?_;refine S.pS 12 32 ?_;refine S.pS 13 33 ?_;refine S.tK 10 30 (S.bs 278527) ?_;refine S.tK 14 34 (S.bs 294911) ?_;refine S.pS 15 35 ?_;refine S.pS 16 36 ?_;refine S.pS 17 37 ?_;refine done_ (done_of HT_.1 (by kernel_rfl)) ?_;try go_wp2
          go_meet
          case rel=>exact⟨_,(decide ((rd J (I))≥(rd J d))),(by first|rfl|(simp;done)|(simp only[←Z]<;>(first|rfl|simp))|(simp[*];done)),H',⟨by have:=ae.1;first|omega|exact Nat.le_refl _⟩,⟨S.bA⟩⟩
         ·rw[if_neg ax]at H;exact absurd H (by simp)
        ·rw[if_neg aw]at H;exact absurd H (by simp)
       ·rw[if_neg c9]at H;have aI:decide (0<d)=false:=decide_eq_false c9;clear c9;have H':=S.a H;clear H;try go_wp2
        replace HB:=S.a (below_drew1 HB.1);refine start_ (n:=18) (S:=fun w'=>True) (ds:=[]) (S.bs 262144) (by kernel_rfl) rfl rfl trivial (fun hHeld=>?_);refine with_tabW spec_IsTogether.tab5 spec_IsTogether.bits5 (fun HT_ HW_=>?_);generalize wq.drew=ba at HB hHeld⊢;refine S.pS 0 20 ?_;refine S.pS 1 21 ?_;refine S.pS 2 22 ?_;refine S.pS 3 23 ?_;refine S.pS 4 24 ?_;refine S.pS 5 25 ?_;refine S.pU 6 26 ?_;refine S.pU 7 27 ?_;refine S.pU 8 28 ?_;refine S.pU 9 29 ?_;refine S.pU 10 30 ?_;refine S.pU 11 31 ?_;refine S.pU 12 32 ?_;refine S.pU 13 33 ?_;refine S.pU 14 34 ?_;refine S.pU 15 35 ?_;refine S.pS 16 36 ?_;refine S.pS 17 37 ?_;refine done_ (done_of HT_.1 (by kernel_rfl)) ?_;try go_wp2
        go_meet
        case rel=>exact⟨_,(false),S.eA,H',⟨by have:=ae.1;first|omega|exact Nat.le_refl _⟩,⟨S.bA⟩⟩
     case rest=>
      clear a9;try clear c1
      try clear c3
      try clear aj
      try clear c4
      try clear a6
      try clear L
      try clear ab
      try clear ac
      obtain⟨kq,af,rfl,HA,ay,HB⟩:=hcut
      cases kq with
      |zero=>exact absurd HA.1 (by simp[spec_IsTogether.j1])
      |succ aL=>
       have H:=HA.1;clear HA;simp only[spec_IsTogether.j1]at H;replace H:=S.db H;rcases H with⟨rfl,H⟩|⟨rfl,H⟩
       ·obtain rfl:=Option.some.inj H;go_wp2;go_ret;exact⟨S.eW,S.bA⟩
       ·have H':=S.a H;clear H;go_wp2;go_loopg [7] aL (fun kq v7 w'=> ∃(v:Int),v7= .int .i64 v∧Aside0 (spec_IsTogether.l1 kq u J d b v=some r)∧Aside0 (kq≤aL)∧Aside0 (Below w.heap.size w w'))
        case atStart=>exact⟨(0),S.eA,H',⟨Nat.le_refl _⟩,⟨S.bA⟩⟩
        case round=>
         clear H';try clear c1
         try clear c3
         try clear aj
         try clear c4
         try clear a6
         try clear bb
         try clear L
         try clear ab
         try clear ac
         obtain⟨v,rfl,HA,az,HB⟩:=hrel
         cases gk with
         |zero=>exact absurd HA.1 (by simp[spec_IsTogether.l1])
         |succ k3=>
          have H:=HA.1;clear HA;simp only[spec_IsTogether.l1]at H;replace H:=S.dc H;rcases H with⟨H,aC⟩|⟨H,aC⟩
          ·by_cases a0:0≤b
           ·rw[if_pos a0]at H;have aR:decide (0≤b)=true:=decide_eq_true a0;clear a0
            by_cases a1:b<(u.length:Int)
            ·rw[if_pos a1]at H;have aS:decide (b<(u.length:Int))=true:=decide_eq_true a1;clear a1
             by_cases a2:0≤v
             ·rw[if_pos a2]at H;have aT:decide (0≤v)=true:=decide_eq_true a2;clear a2
              by_cases a3:v<(J.length:Int)
              ·rw[if_pos a3]at H;have aU:decide (v<(J.length:Int))=true:=decide_eq_true a3;clear a3;replace H:=S.bd H;obtain⟨c,aM,H⟩:=H;(try dsimp only at H)
               by_cases a4:0≤c
               ·rw[if_pos a4]at H;have aV:decide (0≤c)=true:=decide_eq_true a4;clear a4
                by_cases a5:c<(u.length:Int)
                ·rw[if_pos a5]at H;have aW:decide (c<(u.length:Int))=true:=decide_eq_true a5;clear a5;replace H:=S.bd H;obtain⟨_,aN,H⟩:=H;(try dsimp only at H);replace H:=S.db H;rcases H with⟨rfl,H⟩|⟨rfl,H⟩
                 ·obtain rfl:=Option.some.inj H;try go_wp2
                  replace HB:=S.a (below_drew1 HB.1);have O:0≤(b:Int):=S.oD;have R:b<(u.length:Int):=S.oD;obtain⟨T,aq,g,i,j,l⟩:=at_T76 aa.1 b O R;have x:=l;have y:=j;have z:=i;have A:=g;cases aq;replace g:=S.hb HB g;replace i:=S.hb HB i;replace j:=S.hb HB j;replace l:=S.hb HB l;replace O:=eq_true O;replace R:=eq_true R;have U:0≤(v:Int):=S.oD;have V:v<(J.length:Int):=S.oD;obtain⟨ag,ar,m⟩:=Kd.at_int ai.1 v U V;have B:=m;obtain rfl:Y=ag:=(by injection ar);replace m:=S.hb HB m;replace U:=eq_true U;replace V:=eq_true V;have W:0≤(c:Int):=S.oD;have X:c<(u.length:Int):=S.oD;obtain⟨ah,au,o,p,s,t⟩:=at_T76 aa.1 c W X;have D:=t;have E:=s;have F:=p;have G:=o;obtain rfl:T=ah:=(by injection au);replace o:=S.hb HB o;replace p:=S.hb HB p;replace s:=S.hb HB s;replace t:=S.hb HB t;replace W:=eq_true W;replace X:=eq_true X;refine S.st (n:=14) (ds:=[]) (S.bs 16384) (fun w_ h_=>have x_:=And.intro (S.q h_ (S.hb HB A)) (And.intro (S.q h_ (S.hb HB z)) (And.intro (S.q h_ (S.hb HB y)) (And.intro (S.q h_ (S.hb HB x)) (And.intro (S.q h_ (S.hb HB B)) (And.intro (S.q h_ (S.hb HB G)) (And.intro (S.q h_ (S.hb HB F)) (And.intro (S.q h_ (S.hb HB E)) (S.q h_ (S.hb HB D)))))))));x_) (fun hHeld=>?_);refine with_tabW spec_IsTogether.tab10 spec_IsTogether.bits10 (fun HT_ HW_=>?_);generalize wr.drew=bc at HB g i j l m o p s t hHeld⊢;refine S.pS 0 43 ?_;refine S.pS 1 44 ?_;refine S.pS 2 45 ?_;refine S.pS 4 47 ?_;refine S.pS 5 48 ?_;refine S.pS 6 49 ?_;refine S.pS 7 50 ?_;refine S.pS 8 51 ?_;refine S.tK 3 46 (S.bs 16895) ?_;refine S.tK 9 52 (S.bs 17407) ?_;refine S.oN 10 53 (S.bs 18431) (fun K hK=>?_);refine S.go Tryz.func81 #[.slice (some T) u.length c0,.int .i64 (rd J v)] ?_
                  with_reducible refine(spec_FindPath.calls k3 _ _ u (rd J v) c _ ?s1 ?s2 aM.1).mono ?_
                  (case s1=>exact S.cA aa.1);(case s2=>exact av.1);rintro e w' ⟨rfl,⟨nd,rfl⟩⟩;refine⟨_,rfl,?_⟩;refine hK.out _ _ ⟨(S.hb HB A:),(S.hb HB z:),(S.hb HB y:),(S.hb HB x:),(S.hb HB B:),(S.hb HB G:),(S.hb HB F:),(S.hb HB E:),(S.hb HB D:)⟩ (fun hHeld=>?_);clear hK K;refine S.nm 53 ?_;refine S.pS 11 54 ?_;refine S.tK 12 55 (S.bs 24575) ?_;refine S.oN 13 56 (S.bs 32767) (fun K hK=>?_);refine S.go Tryz.func109 #[.agg #[.int .i64 ((rd_T76 u b).f0),.int .i64 ((rd_T76 u b).f1),.int .i64 ((rd_T76 u b).f2),.int .i64 ((rd_T76 u b).f3)],.agg #[.int .i64 ((rd_T76 u c).f0),.int .i64 ((rd_T76 u c).f1),.int .i64 ((rd_T76 u c).f2),.int .i64 ((rd_T76 u c).f3)]] ?_
                  with_reducible refine(spec_Conflict.calls k3 ((rd_T76 u b).f0) ((rd_T76 u b).f1) ((rd_T76 u b).f2) ((rd_T76 u b).f3) ((rd_T76 u c).f0) ((rd_T76 u c).f1) ((rd_T76 u c).f2) ((rd_T76 u c).f3) true _ aN.1).mono ?_
                  rintro e be ⟨rfl,hb⟩;refine⟨_,rfl,?_⟩;replace HB:=S.sA hb;(try clear hb);(try clear aX);(try clear hk);(try clear hi);refine hK.out _ _ ⟨(S.hb HB A:),(S.hb HB z:),(S.hb HB y:),(S.hb HB x:),(S.hb HB B:),(S.hb HB G:),(S.hb HB F:),(S.hb HB E:),(S.hb HB D:)⟩ (fun hHeld=>?_);clear hK K;refine S.nm 56 ?_;refine done_ (done_of HT_.1 (by kernel_rfl)) ?_;try go_wp2
                  go_ret;exact⟨S.eW,S.bA⟩
                 ·have H':=S.a H;clear H;try go_wp2
                  replace HB:=S.a (below_drew1 HB.1);have O:0≤(b:Int):=S.oD;have R:b<(u.length:Int):=S.oD;obtain⟨T,aq,g,i,j,l⟩:=at_T76 aa.1 b O R;have x:=l;have y:=j;have z:=i;have A:=g;cases aq;replace g:=S.hb HB g;replace i:=S.hb HB i;replace j:=S.hb HB j;replace l:=S.hb HB l;replace O:=eq_true O;replace R:=eq_true R;have U:0≤(v:Int):=S.oD;have V:v<(J.length:Int):=S.oD;obtain⟨ag,ar,m⟩:=Kd.at_int ai.1 v U V;have B:=m;obtain rfl:Y=ag:=(by injection ar);replace m:=S.hb HB m;replace U:=eq_true U;replace V:=eq_true V;have W:0≤(c:Int):=S.oD;have X:c<(u.length:Int):=S.oD;obtain⟨ah,au,o,p,s,t⟩:=at_T76 aa.1 c W X;have D:=t;have E:=s;have F:=p;have G:=o;obtain rfl:T=ah:=(by injection au);replace o:=S.hb HB o;replace p:=S.hb HB p;replace s:=S.hb HB s;replace t:=S.hb HB t;replace W:=eq_true W;replace X:=eq_true X;refine S.st (n:=14) (ds:=[]) (S.bs 16384) (fun w_ h_=>have x_:=And.intro (S.q h_ (S.hb HB A)) (And.intro (S.q h_ (S.hb HB z)) (And.intro (S.q h_ (S.hb HB y)) (And.intro (S.q h_ (S.hb HB x)) (And.intro (S.q h_ (S.hb HB B)) (And.intro (S.q h_ (S.hb HB G)) (And.intro (S.q h_ (S.hb HB F)) (And.intro (S.q h_ (S.hb HB E)) (S.q h_ (S.hb HB D)))))))));x_) (fun hHeld=>?_);refine with_tabW spec_IsTogether.tab10 spec_IsTogether.bits10 (fun HT_ HW_=>?_);generalize wr.drew=bf at HB g i j l m o p s t hHeld⊢;refine S.pS 0 43 ?_;refine S.pS 1 44 ?_;refine S.pS 2 45 ?_;refine S.pS 4 47 ?_;refine S.pS 5 48 ?_;refine S.pS 6 49 ?_;refine S.pS 7 50 ?_;refine S.pS 8 51 ?_;refine S.tK 3 46 (S.bs 16895) ?_;refine S.tK 9 52 (S.bs 17407) ?_;refine S.oN 10 53 (S.bs 18431) (fun K hK=>?_);refine S.go Tryz.func81 #[.slice (some T) u.length c0,.int .i64 (rd J v)] ?_
                  with_reducible refine(spec_FindPath.calls k3 _ _ u (rd J v) c _ ?s1 ?s2 aM.1).mono ?_
                  (case s1=>exact S.cA aa.1);(case s2=>exact av.1);rintro e w' ⟨rfl,⟨nd,rfl⟩⟩;refine⟨_,rfl,?_⟩;refine hK.out _ _ ⟨(S.hb HB A:),(S.hb HB z:),(S.hb HB y:),(S.hb HB x:),(S.hb HB B:),(S.hb HB G:),(S.hb HB F:),(S.hb HB E:),(S.hb HB D:)⟩ (fun hHeld=>?_);clear hK K;refine S.nm 53 ?_;refine S.pS 11 54 ?_;refine S.tK 12 55 (S.bs 24575) ?_;refine S.oN 13 56 (S.bs 32767) (fun K hK=>?_);refine S.go Tryz.func109 #[.agg #[.int .i64 ((rd_T76 u b).f0),.int .i64 ((rd_T76 u b).f1),.int .i64 ((rd_T76 u b).f2),.int .i64 ((rd_T76 u b).f3)],.agg #[.int .i64 ((rd_T76 u c).f0),.int .i64 ((rd_T76 u c).f1),.int .i64 ((rd_T76 u c).f2),.int .i64 ((rd_T76 u c).f3)]] ?_
                  with_reducible refine(spec_Conflict.calls k3 ((rd_T76 u b).f0) ((rd_T76 u b).f1) ((rd_T76 u b).f2) ((rd_T76 u b).f3) ((rd_T76 u c).f0) ((rd_T76 u c).f1) ((rd_T76 u c).f2) ((rd_T76 u c).f3) false _ aN.1).mono ?_
                  rintro e bg ⟨rfl,hb⟩;refine⟨_,rfl,?_⟩;replace HB:=S.sA hb;(try clear hb);(try clear aX);(try clear hk);(try clear hi);refine hK.out _ _ ⟨(S.hb HB A:),(S.hb HB z:),(S.hb HB y:),(S.hb HB x:),(S.hb HB B:),(S.hb HB G:),(S.hb HB F:),(S.hb HB E:),(S.hb HB D:)⟩ (fun hHeld=>?_);clear hK K;refine S.nm 56 ?_;refine done_ (done_of HT_.1 (by kernel_rfl)) ?_;try go_wp2
                  go_roundg k3
                  case measure=>have:=ae.1;have:=ay.1;have:=az.1;omega
                  case rel=>exact⟨(wrap64 (v+1)),S.eA,H',⟨by have:=ae.1;have:=ay.1;have:=az.1;omega⟩,⟨S.bA⟩⟩
                ·rw[if_neg a5]at H;exact absurd H (by simp)
               ·rw[if_neg a4]at H;exact absurd H (by simp)
              ·rw[if_neg a3]at H;exact absurd H (by simp)
             ·rw[if_neg a2]at H;exact absurd H (by simp)
            ·rw[if_neg a1]at H;exact absurd H (by simp)
           ·rw[if_neg a0]at H;exact absurd H (by simp)
          ·have H':=S.a H;clear H;go_wp2;go_roundg k3
           case measure=>have:=ae.1;have:=ay.1;have:=az.1;omega
           case rel=>exact⟨(wrap64 (d+1)),S.eA,H',⟨by have:=ae.1;have:=ay.1;have:=az.1;omega⟩,⟨S.bA⟩⟩
    ·rw[if_neg c4]at H;exact absurd H (by simp)
   ·replace H:=Option.bind_eq_some_iff.mp H;obtain⟨a7,a8,H⟩:=H;replace H:(some a7)=some r:=H;have aY:=S.a a8;clear a8;obtain rfl:=Option.some.inj H;go_wp2_with (first|((with_reducible refine S.gF 82 ?_);refine S.gQ 58 Tryz.func82 #[.slice A0 u.length c0] (spec_ArePaths.calls k1 _ _ u a7 _ ?s1 av.1 aY.1) ?_;(case s1=>exact S.cA aa.1);rintro e bh ⟨rfl,hb⟩;refine⟨_,rfl,?_⟩;replace HB:=S.sA hb;(try clear hb)));go_ret;exact⟨S.eW,S.bA⟩
def spec_l6Has.l0:Nat→List Int→Int→Int→Option (Bool)
 |0,_,_,_=>none
 |k+1,b,c,a=>if a<(b.length:Int)then(if 0≤a then(if(rd b a)=c then(some true)else(spec_l6Has.l0 k b c (wrap64 (a+1))))else(none))else(some false)
def spec_l6Has.f(k:Nat)(a:List Int)(b:Int):Option (Bool):=spec_l6Has.l0 k a b 0
theorem spec_l6Has.calls(k:Nat)(y:Option Addr)(z:Nat)(g:List Int)(l:Int)(r:Bool)(w:World)(o:Kd.C (Kd.int .i64) w y g.length g)(p:g.length≤z)(h:spec_l6Has.f k g l=some r):
  Calls Tryz.prog 87 #[.slice y g.length z,.int .i64 l] w fun e w'=>e= .returned (.bool r)∧Drawn0 w w':=by
 have q:=S.a o;have:=S.a p;clear o p;have H:(spec_l6Has.l0 k g l 0)=some r:=h;clear h;have H':=S.a H;clear H;go_enter Tryz.func87,Tryz.ntmps87;go_wp2;go_loopg [5] k (fun kq B w'=> ∃(b:Int),B= .int .i64 b∧Aside0 (spec_l6Has.l0 kq g l b=some r)∧Aside0 (kq≤k)∧Drawn0 w w')
 case atStart=>exact⟨(0),S.eA,H',⟨Nat.le_refl _⟩,by repeat(first|exact Drawn0.refl _|apply Drawn0.step)⟩
 case round=>
  clear H';obtain⟨b,rfl,HA,s,⟨_,rfl⟩⟩:=hrel
  cases gk with
  |zero=>exact absurd HA.1 (by simp[spec_l6Has.l0])
  |succ k1=>
   have H:=HA.1;clear HA;simp only[spec_l6Has.l0]at H;replace H:=S.dc H;rcases H with⟨H,t⟩|⟨H,t⟩
   ·by_cases x:0≤b
    ·rw[if_pos x]at H;have A:decide (0≤b)=true:=decide_eq_true x;clear x
     by_cases m:(rd g b)=l
     ·rw[if_pos m]at H;have u:((rd g b)==l)=true:=beq_iff_eq.mpr m;have v:((rd g b) !=l)=false:=bne_eq_false_iff_eq.mpr m;clear m;obtain rfl:=Option.some.inj H;have c:0≤(b:Int):=S.oD;have d:b<(g.length:Int):=S.oD;obtain⟨n,i,j⟩:=Kd.at_int q.1 b c d;cases i;replace c:=eq_true c;replace d:=eq_true d;go_wp2;go_ret;exact⟨S.eA,by repeat(first|exact Drawn0.refl _|apply Drawn0.step)⟩
     ·rw[if_neg m]at H;have u:((rd g b)==l)=false:=beq_eq_false_iff_ne.mpr m;have v:((rd g b) !=l)=true:=bne_iff_ne.mpr m;have H':=S.a H;clear H;have c:0≤(b:Int):=S.oD;have d:b<(g.length:Int):=S.oD;obtain⟨n,i,j⟩:=Kd.at_int q.1 b c d;cases i;replace c:=eq_true c;replace d:=eq_true d;go_wp2;go_roundg k1
      case measure=>have:=s.1;omega
      case rel=>exact⟨(wrap64 (b+1)),S.eA,H',⟨by have:=s.1;omega⟩,by repeat(first|exact Drawn0.refl _|apply Drawn0.step)⟩
    ·rw[if_neg x]at H;exact absurd H (by simp)
   ·obtain rfl:=Option.some.inj H;go_wp2;go_ret;exact⟨S.eA,by repeat(first|exact Drawn0.refl _|apply Drawn0.step)⟩
def spec_Closes.l0:Nat→List Int→List Int→List Int→Int→Option (List Int)
 |0,_,_,_,_=>none
 |k+1,b,e,d,a=>if a<(b.length:Int)then(if 0≤a then((spec_l6Has.f k e (rd b a)).bind fun c=>(if c=true then(spec_Closes.l0 k b e d (wrap64 (a+1)))else(if d.length<17592186044416 then(spec_Closes.l0 k b e (d++ [rd b a]) (wrap64 (a+1)))else(none))))else(none))else(some d)
def spec_Closes.f(k:Nat)(a:List Int)(b:List Int):Option (List Int):=spec_Closes.l0 k a b (([]:List Int)) 0
theorem spec_Closes.calls(k:Nat)(A0:Option Addr)(c0:Nat)(l:List Int)(A1:Option Addr)(J:Nat)(q:List Int)(r:List Int)(w:World)(L:Kd.C (Kd.int .i64) w A0 l.length l)(M:l.length≤c0)(O:Kd.C (Kd.int .i64) w A1 q.length q)(T:q.length≤J)(h:spec_Closes.f k l q=some r):
  Calls Tryz.prog 110 #[.slice A0 l.length c0,.slice A1 q.length J] w fun e w'=> ∃U:Value,e= .returned (U)∧Kd.R (Kd.int .i64) 3 w' w.heap.size (fun _=>True) U r∧Below w.heap.size w w':=by
 have D:=S.a L;have:=S.a M;clear L M;have V:=S.a O;have W:=S.a T;clear O T;have HB:=S.a (Below.refl w.heap.size w);have H:(spec_Closes.l0 k l q (([]:List Int)) 0)=some r:=h;clear h;obtain⟨A,n⟩: ∃y_:List Int,y_=(([]:List Int)):=⟨_,rfl⟩;have hY_:=n;replace H:(spec_Closes.l0 k l q A 0)=some r:=S.rh;clear hY_;have s:=S.a n;clear n;have H':=S.a H;clear H;go_enter Tryz.func110,Tryz.ntmps110;go_wp2_with (first|((with_reducible refine S.gN 7 ?_);refine Kd.R_lit (Kd.int .i64) _ 3 ?hg (N:=7) ?hd (xs:=([]:List Int)) (inner:=[]) (ok:=fun _=>True) (okp:=fun _=>True) ?hr ?hp (fun _ hk=>hk) trivial (Below.refl _ _) (Nat.le_refl _) (by simp) ?_;(case hd=>rfl);(case hg=>rfl);(case hr=>first|(go_simp;done)|(go_simp;rfl));(case hp=>exact(Reps.none _ _));intro ac w3 t hb hg_ hnew_;clear hg_ hnew_;(first|rw[←s.1]at t|(simp only[Int.reduceToNat]at t;rw[←s.1]at t));have E:=S.lwA t;replace HB:=S.sA hb;clear hb t));go_loopg [5,6] k (fun kq v5 v6 w'=> ∃(g:List Int) (c:Int),v6= .int .i64 c∧Aside0 (spec_Closes.l0 kq l q g c=some r)∧Aside0 (kq≤k)∧Aside0 (Kd.R (Kd.int .i64) 3 w' w.heap.size (fun _=>True) v5 g)∧Aside0 (Below w.heap.size w w'))
 case atStart=>exact⟨(A),(0),S.eA,H',⟨Nat.le_refl _⟩,⟨S.uR E.1⟩,⟨S.bA⟩⟩
 case round=>
  clear H';try clear J
  obtain⟨g,c,rfl,HA,z,p,HB⟩:=hrel
  cases gk with
  |zero=>exact absurd HA.1 (by simp[spec_Closes.l0])
  |succ k1=>
   have H:=HA.1;clear HA;simp only[spec_Closes.l0]at H;replace H:=S.dc H;rcases H with⟨H,X⟩|⟨H,X⟩
   ·by_cases c6:0≤c
    ·rw[if_pos c6]at H;have ad:decide (0≤c)=true:=decide_eq_true c6;clear c6;replace H:=S.bd H;obtain⟨_,A7,H⟩:=H;(try dsimp only at H);replace H:=S.db H;rcases H with⟨rfl,H⟩|⟨rfl,H⟩
     ·have H':=S.a H;clear H;have i:0≤(c:Int):=S.oD;have j:c<(l.length:Int):=S.oD;obtain⟨u,v,d⟩:=Kd.at_int D.1 c i j;cases v;replace d:=S.hb HB d;replace i:=eq_true i;replace j:=eq_true j;go_wp2_with (first|((with_reducible refine S.gF 87 ?_);refine S.gQ 19 Tryz.func87 #[.slice A1 q.length J,.int .i64 (rd l c)] (spec_l6Has.calls k1 _ _ q (rd l c) true _ ?s1 W.1 A7.1) ?_;(case s1=>exact S.cA V.1);rintro e w' ⟨rfl,⟨nd,rfl⟩⟩;refine⟨_,rfl,?_⟩));go_roundg k1
      case measure=>have:=z.1;omega
      case rel=>exact⟨(g),(wrap64 (c+1)),S.eA,H',⟨by have:=z.1;omega⟩,⟨S.uR p.1⟩,⟨S.bA⟩⟩
     ·by_cases c9:g.length<17592186044416
      ·rw[if_pos c9]at H;have Y:=S.a c9;clear c9;obtain⟨B,o⟩: ∃y_:List Int,y_=(g++ [rd l c]):=⟨_,rfl⟩;have hY_:=o;replace H:(spec_Closes.l0 k1 l q B (wrap64 (c+1)))=some r:=S.rh;clear hY_;have F:=S.a o;clear o;have H':=S.a H;clear H;have i:0≤(c:Int):=S.oD;have j:c<(l.length:Int):=S.oD;obtain⟨u,v,d⟩:=Kd.at_int D.1 c i j;cases v;replace d:=S.hb HB d;replace i:=eq_true i;replace j:=eq_true j;go_wp2_with (first|((with_reducible refine S.gF 87 ?_);refine S.gQ 19 Tryz.func87 #[.slice A1 q.length J,.int .i64 (rd l c)] (spec_l6Has.calls k1 _ _ q (rd l c) false _ ?s1 W.1 A7.1) ?_;(case s1=>exact S.cA V.1);rintro e w' ⟨rfl,⟨nd,rfl⟩⟩;refine⟨_,rfl,?_⟩;have x:0≤(c:Int):=S.oD;have y:c<(l.length:Int):=S.oD;obtain⟨G,Z,m⟩:=Kd.at_int D.1 c x y;obtain rfl:u=G:=(by injection Z);replace m:=S.hb HB m;replace x:=eq_true x;replace y:=eq_true y)|((with_reducible refine gate_builtin (b:= .append) (xs:=#[.tmp 21,.tmp 26]) rfl ?_);at_builtin;refine Kd.R_append (Kd.int .i64) (w0:=w) w.heap.size rfl (.tmp 21) (.tmp 26) 23 3 (.int .i64 0) 8 rfl Tryz.underlying23 info3 rfl (by decide) (by omega) u5 g (rd l c) [.int .i64 (rd l c)] (fun _=>True) (fun _=>False) rfl rfl ?aP (fun _ hk=>hk.elim) ?aF ?aO ?aB ?aS ?aL ?_;(case aP=>exact rfl);(case aB=>exact S.bA);(case aF=>exact(fun _ _=>trivial));(case aO=>exact(S.uR p.1));(case aS=>exact(below_size S.bA));(case aL=>have:=Y.1;omega);intro ae af ho hb hg hat;rw[←F.1]at ho;have aa:=S.a (hb);have ab:=S.a (ho);clear HB;clear p;have HB:=aa;have I:=ab;clear aa ab;clear ho hb hg hat));go_roundg k1
       case measure=>have:=z.1;omega
       case rel=>exact⟨(B),(wrap64 (c+1)),S.eA,H',⟨by have:=z.1;omega⟩,⟨S.uR I.1⟩,⟨S.bA⟩⟩
      ·rw[if_neg c9]at H;exact absurd H (by simp)
    ·rw[if_neg c6]at H;exact absurd H (by simp)
   ·obtain rfl:=Option.some.inj H;go_wp2;go_ret;exact⟨_,S.eW,S.uR p.1,S.bA⟩
def spec_Max.f(a:Int)(b:Int):Option (Int):=if b>a then(some b)else(some a)
theorem spec_Max.calls(a:Int)(b:Int)(r:Int)(w:World)(h:spec_Max.f a b=some r):
  Calls Tryz.prog 111 #[.int .i64 a,.int .i64 b] w fun e w'=>e= .returned (.int .i64 r)∧Drawn0 w w':=by
 have H:(if b>a then(some b)else(some a))=some r:=h;clear h
 by_cases c:b>a
 ·rw[if_pos c]at H;have d:decide (a<b)=true:=decide_eq_true c;clear c;obtain rfl:=Option.some.inj H;go_enter Tryz.func111,Tryz.ntmps111;go_wp2;go_ret;exact⟨S.eA,by repeat(first|exact Drawn0.refl _|apply Drawn0.step)⟩
 ·rw[if_neg c]at H;have d:decide (a<b)=false:=decide_eq_false c;clear c;obtain rfl:=Option.some.inj H;go_enter Tryz.func111,Tryz.ntmps111;go_wp2;go_ret;exact⟨S.eA,by repeat(first|exact Drawn0.refl _|apply Drawn0.step)⟩
def spec_ClearOf.f(c:Int)(a:Int)(d:Int)(e:Int):Option (Int):=(spec_IsPath.f c a d e).bind fun g=>(if g=true then((some (([0,2,5,3]:List Int):List Int)).bind fun b=>(if 0≤a then(if a<(b.length:Int)then(some (rd b a))else(none))else(none)))else(some 0))
theorem spec_ClearOf.calls(d:Int)(b:Int)(g:Int)(i:Int)(r:Int)(w:World)(h:spec_ClearOf.f d b g i=some r):
  Calls Tryz.prog 112 #[.agg #[.int .i64 d,.int .i64 b,.int .i64 g,.int .i64 i]] w fun e w'=>e= .returned (.int .i64 r)∧Below w.heap.size w w':=by
 have:=Tryz.underlying76;have HB:=S.a (Below.refl w.heap.size w);have H:((spec_IsPath.f d b g i).bind fun q=>(if q=true then((some (([0,2,5,3]:List Int):List Int)).bind fun j=>(if 0≤b then(if b<(j.length:Int)then(some (rd j b))else(none))else(none)))else(some 0)))=some r:=h;clear h;replace H:=S.bd H;obtain⟨q,B,H⟩:=H;(try dsimp only at H);replace H:=S.db H;rcases H with⟨rfl,H⟩|⟨rfl,H⟩
 ·obtain⟨j,l⟩: ∃y_:List Int,y_=(([0,2,5,3]:List Int)):=⟨_,rfl⟩;have hY_:=l;replace H:(if 0≤b then(if b<(j.length:Int)then(some (rd j b))else(none))else(none))=some r:=S.rh;clear hY_;have m:=S.a l;clear l
  by_cases z:0≤b
  ·rw[if_pos z]at H;have C:decide (0≤b)=true:=decide_eq_true z;clear z
   by_cases A:b<(j.length:Int)
   ·rw[if_pos A]at H;have D:decide (b<(j.length:Int))=true:=decide_eq_true A;clear A;obtain rfl:=Option.some.inj H;go_enter Tryz.func112,Tryz.ntmps112;go_wp2_with (first|((with_reducible refine S.gN 1 ?_);refine S.bx 1 (cs:=#[.int .i64 d,.int .i64 b,.int .i64 g,.int .i64 i]) (t:=76) ?_;intro s hg I hbox hb;have c:=S.a hbox;have u:=S.geA hg;have v:=S.geA hg;replace HB:=S.sA hb;clear hb hbox hg;obtain⟨_,_,_,_,_,_,_,_⟩:=S.c4 c.1)|((with_reducible refine S.gF 113 ?_);refine S.gQ 4 Tryz.func113 #[.agg #[.int .i64 d,.int .i64 b,.int .i64 g,.int .i64 i]] (spec_IsPath.calls d b g i true _ B.1) ?_;rintro e J ⟨rfl,hb⟩;refine⟨_,rfl,?_⟩;replace c:=S.kb c hb;replace HB:=S.sG hb;(try clear hb))|((with_reducible refine S.gN 6 ?_);refine Kd.R_lit (Kd.int .i64) _ 3 ?hg (N:=6) ?hd (xs:=([0,2,5,3]:List Int)) (inner:=[.int .i64 0,.int .i64 2,.int .i64 5,.int .i64 3]) (ok:=fun _=>True) (okp:=fun _=>True) ?hr ?hp (fun _ hk=>hk) trivial (Below.refl _ _) (Nat.le_refl _) (by simp) ?_;(case hd=>rfl);(case hg=>rfl);(case hr=>first|(go_simp;done)|(go_simp;rfl));(case hp=>exact(Reps.one (show Kd.M (Kd.int .i64) _ _ _ 0 [.int .i64 0]from rfl) (Reps.one (show Kd.M (Kd.int .i64) _ _ _ 2 [.int .i64 2]from rfl) (Reps.one (show Kd.M (Kd.int .i64) _ _ _ 5 [.int .i64 5]from rfl) (Reps.one (show Kd.M (Kd.int .i64) _ _ _ 3 [.int .i64 3]from rfl) (Reps.none _ _))))));intro E L k hb hg_ hnew_;clear hg_ hnew_;(first|rw[←m.1]at k|(simp only[Int.reduceToNat]at k;rw[←m.1]at k));have n:=S.lwG k;replace c:=S.kb c hb;replace HB:=S.sG hb;clear hb k;obtain⟨_,_,_,_,_,_,_,_⟩:=S.c4 c.1;obtain⟨_,_,x⟩:=Kd.R_slice n.1;subst x;have o:0≤(b:Int):=S.oD;have p:b<(j.length:Int):=S.oD;obtain⟨_,y,_⟩:=Kd.at_int (Kd.R_reads' n.1).2.2 b o p;cases y;replace o:=eq_true o;replace p:=eq_true p));go_ret;exact⟨S.eW,S.bG⟩
   ·rw[if_neg A]at H;exact absurd H (by simp)
  ·rw[if_neg z]at H;exact absurd H (by simp)
 ·obtain rfl:=Option.some.inj H;go_enter Tryz.func112,Tryz.ntmps112;go_wp2_with (first|((with_reducible refine S.gN 1 ?_);refine S.bx 1 (cs:=#[.int .i64 d,.int .i64 b,.int .i64 g,.int .i64 i]) (t:=76) ?_;intro s hg F hbox hb;have c:=S.a hbox;have u:=S.geA hg;have v:=S.geA hg;replace HB:=S.sA hb;clear hb hbox hg;obtain⟨_,_,_,_,_,_,_,_⟩:=S.c4 c.1)|((with_reducible refine S.gF 113 ?_);refine S.gQ 4 Tryz.func113 #[.agg #[.int .i64 d,.int .i64 b,.int .i64 g,.int .i64 i]] (spec_IsPath.calls d b g i false _ B.1) ?_;rintro e G ⟨rfl,hb⟩;refine⟨_,rfl,?_⟩;replace c:=S.kb c hb;replace HB:=S.sG hb;(try clear hb)));go_ret;exact⟨S.eW,S.bG⟩
end Go.Proofs.YtopchlafmfgpnaaGreat.PFnPrio

