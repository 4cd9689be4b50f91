/- Printed by a program: what the Go functions compute (.f), and that the calls come to just that (.calls). -/
import Derived.Test.YtopchlafmfgpnaaGreatPFnExactStepPriox0
import Derived.Test.YtopchlafmfgpnaaGreatSq
namespace Go.Proofs.YtopchlafmfgpnaaGreat.PFnExactStepPrio
open Go.RowKit Go.Proofs.YtopchlafmfgpnaaGreatW.PrintWords Go.Proofs.YtopchlafmfgpnaaGreatW.PrintLast Go.Proofs.YtopchlafmfgpnaaGreatW.PrintMore
attribute [local go_sem] max2_int min2_int max_two min_two max_three min_three max_four min_four
set_option linter.unusedVariables false
set_option linter.unusedSimpArgs false
set_option maxHeartbeats 8000000
set_option maxRecDepth 100000
def laws_toPath.f(a:Int)(b:Int)(c:Int)(d:Int):Option (Int×Int×Int×Int):=some (a,b,c,d)
theorem laws_toPath.calls(d:Int)(g:Int)(i:Int)(j:Int)(s:Int)(u:Int)(v:Int)(x:Int)(w:World)(h:laws_toPath.f d g i j=some (s,u,v,x)):
  Calls Tryz.prog 47 #[.agg #[.int .i64 d,.int .i64 g,.int .i64 i,.int .i64 j]] w fun e w'=>e= .returned (.agg #[.int .i64 s,.int .i64 u,.int .i64 v,.int .i64 x])∧Below w.heap.size w w':=by
 have:=Tryz.underlying78;have:=Tryz.underlying76;have HB:=S.a (Below.refl w.heap.size w);have H:(some (d,g,i,j))=some (s,u,v,x):=h;clear h;simp only[Option.some.injEq,Prod.mk.injEq]at H;obtain⟨rfl,rfl,rfl,rfl⟩:=H;go_enter Tryz.func47,Tryz.ntmps47;go_wp2_with (first|((with_reducible refine gate_dst (N:=1) rfl ?_);refine S.bx 1 (cs:=#[.int .i64 d,.int .i64 g,.int .i64 i,.int .i64 j]) (t:=78) ?_;intro y hg A hbox hb;have b:=S.a hbox;have:=S.geA hg;have:=S.geA hg;replace HB:=S.sA hb;clear hb hbox hg)|((with_reducible refine gate_dst (N:=2) rfl ?_);refine S.bx 2 (cs:=#[.int .i64 0,.int .i64 0,.int .i64 0,.int .i64 0]) (t:=76) ?_;intro q hg B hbox hb;have c:=S.a hbox;have:=S.geG hg;have:=S.geG hg;replace HB:=S.sG hb;have k:=S.nl hg b;have l:=S.ng hg b;replace b:=S.kb b hb;clear hb hbox hg)|((with_reducible refine gate_dst (N:=3) rfl ?_);refine S.bx 3 (cs:=#[.int .i64 0,.int .i64 0,.int .i64 0,.int .i64 0]) (t:=76) ?_;intro z hg C hbox hb;have r:=S.a hbox;have:=S.geG hg;have:=S.geG hg;replace HB:=S.sG hb;have m:=S.nl hg b;have n:=S.ng hg b;replace b:=S.kb b hb;have o:=S.nl hg c;have p:=S.ng hg c;replace c:=S.kb c hb;clear hb hbox hg;have:=k.1;have:=l.1;have:=m.1;have:=n.1;obtain⟨_,_,_,_,_,_,_,_⟩:=S.c4 b.1;have:=p.1;have:=o.1;obtain⟨_,_,_,_,_,_,_,_⟩:=S.c4 r.1;obtain⟨_,_,_,_,_,_,_,_⟩:=S.c4 c.1));refine bodyPost_ret (results_cell_row rfl _ _ q 76 #[.int .i64 d,.int .i64 g,.int .i64 i,.int .i64 j] (0,0) _ rfl (S.uC c.1) Tryz.underlying76 rfl (by kernel_rfl)) rfl ?_;exact⟨S.eW,S.bG⟩
def laws_toPathS.l0:Nat→List (S78)→List (S76)→Int→Option ((List (S76)))
 |0,_,_,_=>none
 |k+1,c,d,b=>if b<(c.length:Int)then(if 0≤b then((laws_toPath.f ((rd_T78 c b).f0) ((rd_T78 c b).f1) ((rd_T78 c b).f2) ((rd_T78 c b).f3)).bind fun a=>(if b<(d.length:Int)then(laws_toPathS.l0 k c (d.set (b:Int).toNat (⟨a.1,a.2.1,a.2.2.1,a.2.2.2⟩:S76)) (wrap64 (b+1)))else(none)))else(none))else(some d)
def laws_toPathS.f(k:Nat)(a:List (S78)):Option ((List (S76))):=if 0≤(a.length:Int)then(if((a.length:Int):Int).toNat≤8796093022208 then(laws_toPathS.l0 k a (List.replicate ((a.length:Int):Int).toNat z76) 0)else(none))else(none)
theorem laws_toPathS.calls(k:Nat)(A0:Option Addr)(c0:Nat)(i:List (S78))(r:List (S76))(w:World)(ap:Kd.C k78 w A0 i.length i)(aq:i.length≤c0)(h:laws_toPathS.f k i=some r):
  Calls Tryz.prog 9 #[.slice A0 i.length c0] w fun e w'=> ∃ar:Value,e= .returned (ar)∧Kd.R k76 76 w' w.heap.size (fun _=>True) ar r∧Below w.heap.size w w':=by
 have:=Tryz.underlying78;have:=Tryz.underlying76;have aB:=S.a ap;have:=S.a aq;clear ap aq;have HB:=S.a (Below.refl w.heap.size w);have H:(if 0≤(i.length:Int)then(if((i.length:Int):Int).toNat≤8796093022208 then(laws_toPathS.l0 k i (List.replicate ((i.length:Int):Int).toNat z76) 0)else(none))else(none))=some r:=h;clear h
 by_cases c2:0≤(i.length:Int)
 ·rw[if_pos c2]at H;have au:=eq_true c2;have av:decide (0≤(i.length:Int))=true:=decide_eq_true c2;clear c2
  by_cases c3:((i.length:Int):Int).toNat≤8796093022208
  ·rw[if_pos c3]at H;have aw:=eq_true c3;have ax:decide (((i.length:Int):Int).toNat≤8796093022208)=true:=decide_eq_true c3;clear c3;obtain⟨ad,E⟩: ∃y_:List (S76),y_=(List.replicate ((i.length:Int):Int).toNat z76):=⟨_,rfl⟩;have hY_:=E;replace H:(laws_toPathS.l0 k i ad 0)=some r:=S.rh;clear hY_;have I:=S.a E;clear E;have H':=S.a H;clear H;go_enter Tryz.func9,Tryz.ntmps9;go_wp2_with (first|((with_reducible refine gate_dst (N:=7) rfl ?_);refine Kd.R_make k76 _ 76 rfl (N:=7) rfl 37 _ _ rfl (i.length:Int) rfl rfl Tryz.underlying37 (.agg #[(.int .i64 0),(.int .i64 0),(.int .i64 0),(.int .i64 0)]) 32 info76 rfl (by decide) (by omega) z76 (ok:=fun _=>True) (okp:=fun _=>True) (k76_mkM _ _ _ z76) (fun _ hk=>hk) trivial (S.oD) (Nat.le_trans (Nat.mul_le_mul_right _ (S.oD:(i.length:Int).toNat≤8796093022208)) (by omega)) (Below.refl _ _) (Nat.le_refl _) ?_;intro ay w4 J hb hg_ hnew_;clear hg_ hnew_;(first|rw[←I.1]at J|(simp only[Int.reduceToNat]at J;rw[←I.1]at J));have aj:=S.lwA J;replace HB:=S.sA hb;clear hb J));go_loopg [4] k (fun kq v4 w'=> ∃(c:List (S76)) (b:Int),v4= .int .i64 b∧Aside0 (laws_toPathS.l0 kq i c b=some r)∧Aside0 (kq≤k)∧Aside0 (Kd.R k76 76 w' w.heap.size (fun _=>True) ay c)∧Aside0 (Below w.heap.size w w'))
   case atStart=>exact⟨(ad),(0),S.eA,H',⟨Nat.le_refl _⟩,⟨S.uR aj.1⟩,⟨S.bA⟩⟩
   case round=>
    clear H';try clear c2
    try clear au
    try clear av
    try clear c3
    try clear aw
    try clear ax
    obtain⟨c,b,rfl,HA,az,g,HB⟩:=hrel
    cases gk with
    |zero=>exact absurd HA.1 (by simp[laws_toPathS.l0])
    |succ k1=>
     have H:=HA.1;clear HA;simp only[laws_toPathS.l0]at H;replace H:=S.dc H;rcases H with⟨H,a0⟩|⟨H,a0⟩
     ·by_cases c7:0≤b
      ·rw[if_pos c7]at H;have aC:decide (0≤b)=true:=decide_eq_true c7;clear c7;replace H:=S.bd H;obtain⟨⟨s,u,x,y⟩,A8,H⟩:=H;(try dsimp only at H)
       by_cases c9:b<(c.length:Int)
       ·rw[if_pos c9]at H;have aD:decide (b<(c.length:Int))=true:=decide_eq_true c9;clear c9;obtain⟨L,F⟩: ∃y_:List (S76),y_=(c.set (b:Int).toNat (⟨s,u,x,y⟩:S76)):=⟨_,rfl⟩;have hY_:=F;replace H:(laws_toPathS.l0 k1 i L (wrap64 (b+1)))=some r:=S.rh;clear hY_;have ak:=S.a F;clear F;have H':=S.a H;clear H;have M:0≤(b:Int):=S.oD;have O:b<(i.length:Int):=S.oD;obtain⟨_,a1,z,A,B,D⟩:=at_T78 aB.1 b M O;cases a1;replace z:=S.hb HB z;replace A:=S.hb HB A;replace B:=S.hb HB B;replace D:=S.hb HB D;replace M:=eq_true M;replace O:=eq_true O;go_wp2_with (first|((with_reducible refine gate_callee (f:=47) rfl ?_);refine S.gL (some 20) Tryz.func47 #[.agg #[.int .i64 ((rd_T78 i b).f0),.int .i64 ((rd_T78 i b).f1),.int .i64 ((rd_T78 i b).f2),.int .i64 ((rd_T78 i b).f3)]] ?_;(with_reducible refine(laws_toPath.calls ((rd_T78 i b).f0) ((rd_T78 i b).f1) ((rd_T78 i b).f2) ((rd_T78 i b).f3) s u x y _ A8.1).mono ?_);rintro e m ⟨rfl,hb⟩;refine⟨_,rfl,?_⟩;replace g:=S.rb g hb;replace HB:=S.sA hb;(try clear hb);have al:0≤(b:Int):=S.oD;have am:(b:Int)<((c.length:Int):Int):=S.oD;obtain⟨d,ae,af,ag,a2,_,ah⟩:=Kd.R_form g.1 (by omega);(first|cases af|(injection af with ea_ en_ ec_;(first|subst ea_|(injection ea_ with ea_;subst ea_));subst ec_;clear en_));have G:=S.a ag;have:=S.a ah;clear ag a2 ah;obtain⟨_,an,hM10,n,o⟩:=Kd.R_elem g.1 z76 (b:Int) al am;obtain rfl:=k76_openM hM10;have a3:m.cell? ⟨d,(b:Int).toNat*4,none⟩=some (.int .i64 ((rd_T76 c b).f0)):=n 0 _ rfl;have a4:m.cell? ⟨d,(b:Int).toNat*4+1,none⟩=some (.int .i64 ((rd_T76 c b).f1)):=n 1 _ rfl;have a5:m.cell? ⟨d,(b:Int).toNat*4+2,none⟩=some (.int .i64 ((rd_T76 c b).f2)):=n 2 _ rfl;have a6:m.cell? ⟨d,(b:Int).toNat*4+3,none⟩=some (.int .i64 ((rd_T76 c b).f3)):=n 3 _ rfl;have a7:m.frozen? ⟨d,(b:Int).toNat*4,none⟩=false:=o 0;have a8:m.frozen? ⟨d,(b:Int).toNat*4+1,none⟩=false:=o 1;have a9:m.frozen? ⟨d,(b:Int).toNat*4+2,none⟩=false:=o 2;have aA:m.frozen? ⟨d,(b:Int).toNat*4+3,none⟩=false:=o 3;clear an n o hM10;replace al:=eq_true al;replace am:=eq_true am;have ai:=S.a (show Kd.R k76 76 m w.heap.size (fun _=>True) (.slice (some ⟨d,0,none⟩) c.length ae) c from (S.uR g.1));obtain⟨_,T,hM12,l,q⟩:=Kd.R_elem ai.1 z76 (b:Int) (S.oD) (by have h_:(b:Int)<((c.length:Int):Int):=S.oD;first|exact h_|(have e_:=(Kd.R_reads' g.1).1;omega)|simpa using h_);obtain rfl:=k76_openM hM12;have U:=Kd.R_seg ai.1 (b:Int) (S.oD) (by have h_:(b:Int)<((c.length:Int):Int):=S.oD;first|exact h_|(have e_:=(Kd.R_reads' g.1).1;omega)|simpa using h_) (seg:=[.int .i64 s,.int .i64 u,.int .i64 x,.int .i64 y]) (j:=0) T l (show 4≤4 from by decide) (x':=(⟨s,u,x,y⟩:S76)) (k76_mkM _ _ _ (⟨s,u,x,y⟩:S76)) (fun _ hk=>hk);have V:=l 0 _ rfl;(try simp only[show (k76).sz=4 from rfl,Nat.mul_one,Nat.add_zero]at V);have W:=q 0;(try simp only[show (k76).sz=4 from rfl,Nat.mul_one,Nat.add_zero]at W);have X:=l 1 _ rfl;(try simp only[show (k76).sz=4 from rfl,Nat.mul_one,Nat.add_zero]at X);have Y:=q 1;(try simp only[show (k76).sz=4 from rfl,Nat.mul_one,Nat.add_zero]at Y);have Z:=l 2 _ rfl;(try simp only[show (k76).sz=4 from rfl,Nat.mul_one,Nat.add_zero]at Z);have aa:=q 2;(try simp only[show (k76).sz=4 from rfl,Nat.mul_one,Nat.add_zero]at aa);have ab:=l 3 _ rfl;(try simp only[show (k76).sz=4 from rfl,Nat.mul_one,Nat.add_zero]at ab);have ac:=q 3;(try simp only[show (k76).sz=4 from rfl,Nat.mul_one,Nat.add_zero]at ac);clear T l q hM12)|((with_reducible refine gate_store (t:=76) (p:=21) rfl ?_);refine store_event (t:=76) (p:=21) (v:=?vo_w13) (w1:=((((m.setCell ⟨d,(b:Int).toNat*4,none⟩ (.int .i64 s)).setCell ⟨d,(b:Int).toNat*4+1,none⟩ (.int .i64 u)).setCell ⟨d,(b:Int).toNat*4+2,none⟩ (.int .i64 x)).setCell ⟨d,(b:Int).toNat*4+3,none⟩ (.int .i64 y))) ?hg ?ho ?hn ?hr ?_;(case ho=>rfl);(case hg=>rfl);(case hn=>rfl);(case hr=>first|(go_simp;done)|(go_simp;rfl));intro ao hw;have hg:m.grownBy ao (some d):=(by rw[hw];exact U.2);have hp_:Kd.R k76 76 ao w.heap.size (fun _=>True) (.slice (some ⟨d,0,none⟩) c.length ae) L:=(by rw[hw,ak.1];exact U.1);clear U;replace g:=S.a (hp_);replace HB:=S.a ((by rw[hw];exact below_set (below_set (below_set (below_set (HB.1) G.1) G.1) G.1) G.1:Below w.heap.size w ao));clear hg hw hp_))
        go_roundg k1
        case measure=>have:=az.1;omega
        case rel=>exact⟨(L),(wrap64 (b+1)),S.eA,H',⟨by have:=az.1;omega⟩,⟨S.uR g.1⟩,⟨S.bA⟩⟩
       ·rw[if_neg c9]at H;exact absurd H (by simp)
      ·rw[if_neg c7]at H;exact absurd H (by simp)
     ·obtain rfl:=Option.some.inj H;go_wp2;go_ret;exact⟨_,S.eW,S.uR g.1,S.bA⟩
  ·rw[if_neg c3]at H;exact absurd H (by simp)
 ·rw[if_neg c2]at H;exact absurd H (by simp)
def laws_toIntS.l0:Nat→List Int→List Int→Int→Option (List Int)
 |0,_,_,_=>none
 |k+1,b,c,a=>if a<(b.length:Int)then(if 0≤a then(if a<(c.length:Int)then(laws_toIntS.l0 k b (c.set (a:Int).toNat (rd b a)) (wrap64 (a+1)))else(none))else(none))else(some c)
def laws_toIntS.f(k:Nat)(a:List Int):Option (List Int):=if 0≤(a.length:Int)then(if((a.length:Int):Int).toNat≤35184372088832 then(laws_toIntS.l0 k a (List.replicate ((a.length:Int):Int).toNat 0) 0)else(none))else(none)
theorem laws_toIntS.calls(k:Nat)(A0:Option Addr)(c0:Nat)(d:List Int)(r:List Int)(w:World)(F:Kd.C (Kd.int .i64) w A0 d.length d)(G:d.length≤c0)(h:laws_toIntS.f k d=some r):
  Calls Tryz.prog 48 #[.slice A0 d.length c0] w fun e w'=> ∃I:Value,e= .returned (I)∧Kd.R (Kd.int .i64) 3 w' w.heap.size (fun _=>True) I r∧Below w.heap.size w w':=by
 have aa:=S.a F;have:=S.a G;clear F G;have HB:=S.a (Below.refl w.heap.size w);have H:(if 0≤(d.length:Int)then(if((d.length:Int):Int).toNat≤35184372088832 then(laws_toIntS.l0 k d (List.replicate ((d.length:Int):Int).toNat 0) 0)else(none))else(none))=some r:=h;clear h
 by_cases D:0≤(d.length:Int)
 ·rw[if_pos D]at H;have J:=eq_true D;have L:decide (0≤(d.length:Int))=true:=decide_eq_true D;clear D
  by_cases E:((d.length:Int):Int).toNat≤35184372088832
  ·rw[if_pos E]at H;have M:=eq_true E;have O:decide (((d.length:Int):Int).toNat≤35184372088832)=true:=decide_eq_true E;clear E;obtain⟨x,j⟩: ∃y_:List Int,y_=(List.replicate ((d.length:Int):Int).toNat 0):=⟨_,rfl⟩;have hY_:=j;replace H:(laws_toIntS.l0 k d x 0)=some r:=S.rh;clear hY_;have m:=S.a j;clear j;have H':=S.a H;clear H;go_enter Tryz.func48,Tryz.ntmps48;go_wp2_with (first|((with_reducible refine gate_dst (N:=7) rfl ?_);refine Kd.R_make (Kd.int .i64) _ 3 rfl (N:=7) rfl 23 _ _ rfl (d.length:Int) rfl rfl Tryz.underlying23 (.int .i64 0) 8 info3 rfl (by decide) (by omega) 0 (ok:=fun _=>True) (okp:=fun _=>True) rfl (fun _ hk=>hk) trivial (S.oD) (Nat.le_trans (Nat.mul_le_mul_right _ (S.oD:(d.length:Int).toNat≤35184372088832)) (by omega)) (Below.refl _ _) (Nat.le_refl _) ?_;intro T w4 n hb hg_ hnew_;clear hg_ hnew_;(first|rw[←m.1]at n|(simp only[Int.reduceToNat]at n;rw[←m.1]at n));have y:=S.lwA n;replace HB:=S.sA hb;clear hb n));go_loopg [4] k (fun kq v4 w'=> ∃(c:List Int) (b:Int),v4= .int .i64 b∧Aside0 (laws_toIntS.l0 kq d c b=some r)∧Aside0 (kq≤k)∧Aside0 (Kd.R (Kd.int .i64) 3 w' w.heap.size (fun _=>True) T c)∧Aside0 (Below w.heap.size w w'))
   case atStart=>exact⟨(x),(0),S.eA,H',⟨Nat.le_refl _⟩,⟨S.uR y.1⟩,⟨S.bA⟩⟩
   case round=>
    clear H';try clear D
    try clear J
    try clear L
    try clear E
    try clear M
    try clear O
    obtain⟨c,b,rfl,HA,U,g,HB⟩:=hrel
    cases gk with
    |zero=>exact absurd HA.1 (by simp[laws_toIntS.l0])
    |succ k1=>
     have H:=HA.1;clear HA;simp only[laws_toIntS.l0]at H;replace H:=S.dc H;rcases H with⟨H,V⟩|⟨H,V⟩
     ·by_cases c7:0≤b
      ·rw[if_pos c7]at H;have ae:decide (0≤b)=true:=decide_eq_true c7;clear c7
       by_cases c8:b<(c.length:Int)
       ·rw[if_pos c8]at H;have af:decide (b<(c.length:Int))=true:=decide_eq_true c8;clear c8;obtain⟨o,l⟩: ∃y_:List Int,y_=(c.set (b:Int).toNat (rd d b)):=⟨_,rfl⟩;have hY_:=l;replace H:(laws_toIntS.l0 k1 d o (wrap64 (b+1)))=some r:=S.rh;clear hY_;have z:=S.a l;clear l;have H':=S.a H;clear H;have q:0≤(b:Int):=S.oD;have s:b<(d.length:Int):=S.oD;obtain⟨_,W,i⟩:=Kd.at_int aa.1 b q s;cases W;replace i:=S.hb HB i;replace q:=eq_true q;replace s:=eq_true s;have p9:0≤(b:Int):=S.oD;have q9:(b:Int)<((c.length:Int):Int):=S.oD;obtain⟨A,ab,X,Y,ac,_,Z⟩:=Kd.R_form g.1 (by omega);(first|cases X|(injection X with ea_ en_ ec_;(first|subst ea_|(injection ea_ with ea_;subst ea_));subst ec_;clear en_));have ad:=S.a Y;have:=S.a Z;clear Y ac Z;obtain⟨_,_⟩:=Kd.R_celln 0 g.1 (b:Int) p9 q9;replace p9:=eq_true p9;replace q9:=eq_true q9;have u:=Kd.R_putg g.1 (b:Int) (rd d b);go_wp2_with (first|((with_reducible refine gate_store (t:=3) (p:=20) rfl ?_);refine store_event (t:=3) (p:=20) (v:=?vo_w11) (w1:=(wr.setCell ⟨A,(b:Int).toNat,none⟩ (.int .i64 (rd d b)))) ?hg ?ho ?hn ?hr ?_;(case ho=>rfl);(case hg=>rfl);(case hn=>rfl);(case hr=>first|(go_simp;done)|(go_simp;rfl));intro B hw;have hg:wr.grownBy B (some A):=(by rw[hw];exact u.2);have hp_:Kd.R (Kd.int .i64) 3 B w.heap.size (fun _=>True) (.slice (some ⟨A,0,none⟩) c.length ab) o:=(by rw[hw,z.1];exact u.1);clear u;replace g:=S.a (hp_);replace HB:=S.a ((by rw[hw];exact below_set (HB.1) ad.1:Below w.heap.size w B));clear hg hw hp_));go_roundg k1
        case measure=>have:=U.1;omega
        case rel=>exact⟨(o),(wrap64 (b+1)),S.eA,H',⟨by have:=U.1;omega⟩,⟨S.uR g.1⟩,⟨S.bA⟩⟩
       ·rw[if_neg c8]at H;exact absurd H (by simp)
      ·rw[if_neg c7]at H;exact absurd H (by simp)
     ·obtain rfl:=Option.some.inj H;go_wp2;go_ret;exact⟨_,S.eW,S.uR g.1,S.bA⟩
  ·rw[if_neg E]at H;exact absurd H (by simp)
 ·rw[if_neg D]at H;exact absurd H (by simp)
def laws_toControl.f(k:Nat)(a:List Int)(b:Int)(c:List Int)(d:Int):Option (List Int×Int×List Int×Int):=(laws_toIntS.f k a).bind fun e=>((laws_toIntS.f k c).bind fun g=>(some (e,b,g,d)))
theorem laws_toControl.calls(k:Nat)(y:Option Addr)(z:Nat)(i:List Int)(p:Int)(A:Option Addr)(B:Nat)(j:List Int)(q:Int)(r1:List Int)(r2:Int)(r3:List Int)(r4:Int)(w:World)(F:Kd.C (Kd.int .i64) w y i.length i)(G:i.length≤z)(I:Kd.C (Kd.int .i64) w A j.length j)(J:j.length≤B)(h:laws_toControl.f k i p j q=some (r1,r2,r3,r4)):
  Calls Tryz.prog 10 #[.agg #[.slice y i.length z,.int .i64 p,.slice A j.length B,.int .i64 q]] w fun e w'=> ∃T U:Value,e= .returned (.agg #[T,.int .i64 r2,U,.int .i64 r4])∧Kd.R (Kd.int .i64) 3 w' w.heap.size (fun k_=>some k_≠(U:Value).ownBlock) T r1∧Kd.R (Kd.int .i64) 3 w' w.heap.size (fun k_=>some k_≠(T:Value).ownBlock) U r3∧Below w.heap.size w w':=by
 have:=Tryz.underlying25;have:=Tryz.underlying32;have V:=S.a F;have W:=S.a G;clear F G;have X:=S.a I;have Y:=S.a J;clear I J;have HB:=S.a (Below.refl w.heap.size w);have H:((laws_toIntS.f k i).bind fun r=>((laws_toIntS.f k j).bind fun D=>(some (r,p,D,q))))=some (r1,r2,r3,r4):=h;clear h;replace H:=S.bd H;obtain⟨r,A2,H⟩:=H;(try dsimp only at H);replace H:=S.bd H;obtain⟨D,A3,H⟩:=H;(try dsimp only at H);simp only[Option.some.injEq,Prod.mk.injEq]at H;obtain⟨rfl,rfl,rfl,rfl⟩:=H;go_enter Tryz.func10,Tryz.ntmps10;go_wp2_with (first|((with_reducible refine gate_dst (N:=1) rfl ?_);refine S.bx 1 (cs:=#[.slice y i.length z,.int .i64 p,.slice A j.length B,.int .i64 q]) (t:=25) ?_;intro af hg w4 hbox hb;have b:=S.a hbox;have:=S.geA hg;have:=S.geA hg;replace HB:=S.sA hb;clear hb hbox hg)|((with_reducible refine gate_dst (N:=2) rfl ?_);refine S.bx 2 (cs:=#[.slice none 0 0,.int .i64 0,.slice none 0 0,.int .i64 0]) (t:=32) ?_;intro Z hg w5 hbox hb;have c:=S.a hbox;have:=S.geG hg;have:=S.geG hg;replace HB:=S.sG hb;have s:=S.nl hg b;have u:=S.ng hg b;replace b:=S.kb b hb;clear hb hbox hg)|((with_reducible refine gate_dst (N:=3) rfl ?_);refine S.bx 3 (cs:=#[.slice none 0 0,.int .i64 0,.slice none 0 0,.int .i64 0]) (t:=32) ?_;intro aa hg w6 hbox hb;have d:=S.a hbox;have:=S.geG hg;have:=S.geG hg;replace HB:=S.sG hb;have l:=S.nl hg b;have v:=S.ng hg b;replace b:=S.kb b hb;have m:=S.nl hg c;have x:=S.ng hg c;replace c:=S.kb c hb;clear hb hbox hg;have:=s.1;have:=u.1;have:=l.1;have:=v.1;obtain⟨_,_,_,_,_,_,_,_⟩:=S.c4 b.1)|((with_reducible refine gate_callee (f:=48) rfl ?_);refine S.gL (some 6) Tryz.func48 #[.slice y i.length z] ?_;(with_reducible refine(laws_toIntS.calls k _ _ i r _ ?s1 W.1 A2.1).mono ?_);(case s1=>exact S.cA V.1);rintro e ai ⟨ag,rfl,E,hb⟩;refine⟨_,rfl,?_⟩;have n:=S.lwG E;replace b:=S.kb b hb;replace c:=S.kb c hb;replace d:=S.kb d hb;replace HB:=S.sG hb;(try clear hb);(try clear E);obtain⟨M,O,ab⟩:=Kd.R_slice n.1;subst ab;have:=x.1;have:=m.1;obtain⟨_,_,_,_,_,_,_,_⟩:=S.c4 d.1;obtain⟨_,_,_,_,_,_,_,_⟩:=S.c4 b.1)|((with_reducible refine gate_callee (f:=48) rfl ?_);refine S.gL (some 13) Tryz.func48 #[.slice A j.length B] ?_;(with_reducible refine(laws_toIntS.calls k _ _ j D _ ?s1 Y.1 A3.1).mono ?_);(case s1=>exact Kd.C_below X.1 S.bG);rintro e aj ⟨ah,rfl,E,hb⟩;refine⟨_,rfl,?_⟩;have L:=S.a (Kd.R_lower (Kd.R_new' E (Kd.R_lt (S.G2 n d))) (below_size S.bG));replace n:=S.a (Kd.R_elder' (S.G2 n d) (Kd.R_base E) hb);replace b:=S.kf b l hb;replace c:=S.kf c m hb;replace d:=S.a (blk_below (g:=aa) (o:= .cells #[.slice M r.length O,.int .i64 p,.slice none 0 0,.int .i64 0] 32 (0,0)) (S.uC d.1) hb);replace HB:=S.sG hb;(try clear hb);(try clear E);obtain⟨ac,ad,ae⟩:=Kd.R_slice L.1;subst ae;obtain⟨_,_,_,_,_,_,_,_⟩:=S.c4 d.1;obtain⟨_,_,_,_,_,_,_,_⟩:=S.c4 b.1;obtain⟨_,_,_,_,_,_,_,_⟩:=S.c4 c.1))
 refine bodyPost_ret (results_cell_row rfl _ _ Z 32 #[.slice M r.length O,.int .i64 p,.slice ac D.length ad,.int .i64 q] (0,0) _ rfl (S.uC c.1) Tryz.underlying32 rfl (by kernel_rfl)) rfl ?_;exact⟨_,_,S.eW,S.m2 n d c (fun _ hk=>hk.1.1.2),S.m2 L d c (fun _ hk=>hk.1.1.2),S.bG⟩
def laws_toWant.f(a:Int)(b:Int):Option (Int×Int):=some (a,b)
theorem laws_toWant.calls(d:Int)(g:Int)(q:Int)(r:Int)(w:World)(h:laws_toWant.f d g=some (q,r)):
  Calls Tryz.prog 49 #[.agg #[.int .i64 d,.int .i64 g]] w fun e w'=>e= .returned (.agg #[.int .i64 q,.int .i64 r])∧Below w.heap.size w w':=by
 have:=Tryz.underlying83;have:=Tryz.underlying81;have HB:=S.a (Below.refl w.heap.size w);have H:(some (d,g))=some (q,r):=h;clear h;simp only[Option.some.injEq,Prod.mk.injEq]at H;obtain⟨rfl,rfl⟩:=H;go_enter Tryz.func49,Tryz.ntmps49;go_wp2_with (first|((with_reducible refine gate_dst (N:=1) rfl ?_);refine S.bx 1 (cs:=#[.int .i64 d,.int .i64 g]) (t:=83) ?_;intro s hg v hbox hb;have b:=S.a hbox;have:=S.geA hg;have:=S.geA hg;replace HB:=S.sA hb;clear hb hbox hg)|((with_reducible refine gate_dst (N:=2) rfl ?_);refine S.bx 2 (cs:=#[.int .i64 0,.int .i64 0]) (t:=81) ?_;intro o hg x hbox hb;have c:=S.a hbox;have:=S.geG hg;have:=S.geG hg;replace HB:=S.sG hb;have i:=S.nl hg b;have j:=S.ng hg b;replace b:=S.kb b hb;clear hb hbox hg)|((with_reducible refine gate_dst (N:=3) rfl ?_);refine S.bx 3 (cs:=#[.int .i64 0,.int .i64 0]) (t:=81) ?_;intro u hg y hbox hb;have p:=S.a hbox;have:=S.geG hg;have:=S.geG hg;replace HB:=S.sG hb;have k:=S.nl hg b;have l:=S.ng hg b;replace b:=S.kb b hb;have m:=S.nl hg c;have n:=S.ng hg c;replace c:=S.kb c hb;clear hb hbox hg;have:=i.1;have:=j.1;have:=k.1;have:=l.1;obtain⟨_,_,_,_⟩:=S.c2 b.1;have:=n.1;have:=m.1;obtain⟨_,_,_,_⟩:=S.c2 p.1;obtain⟨_,_,_,_⟩:=S.c2 c.1));refine bodyPost_ret (results_cell_row rfl _ _ o 81 #[.int .i64 d,.int .i64 g] (0,0) _ rfl (S.uC c.1) Tryz.underlying81 rfl (by kernel_rfl)) rfl ?_;exact⟨S.eW,S.bG⟩
def laws_toWantS.l0:Nat→List (S83)→List (S81)→Int→Option ((List (S81)))
 |0,_,_,_=>none
 |k+1,c,d,b=>if b<(c.length:Int)then(if 0≤b then((laws_toWant.f ((rd_T83 c b).f0) ((rd_T83 c b).f1)).bind fun a=>(if b<(d.length:Int)then(laws_toWantS.l0 k c (d.set (b:Int).toNat (⟨a.1,a.2⟩:S81)) (wrap64 (b+1)))else(none)))else(none))else(some d)
def laws_toWantS.f(k:Nat)(a:List (S83)):Option ((List (S81))):=if 0≤(a.length:Int)then(if((a.length:Int):Int).toNat≤17592186044416 then(laws_toWantS.l0 k a (List.replicate ((a.length:Int):Int).toNat z81) 0)else(none))else(none)
theorem laws_toWantS.calls(k:Nat)(A0:Option Addr)(c0:Nat)(i:List (S83))(r:List (S81))(w:World)(ah:Kd.C k83 w A0 i.length i)(ai:i.length≤c0)(h:laws_toWantS.f k i=some r):
  Calls Tryz.prog 11 #[.slice A0 i.length c0] w fun e w'=> ∃aj:Value,e= .returned (aj)∧Kd.R k81 81 w' w.heap.size (fun _=>True) aj r∧Below w.heap.size w w':=by
 have:=Tryz.underlying83;have:=Tryz.underlying81;have az:=S.a ah;have:=S.a ai;clear ah ai;have HB:=S.a (Below.refl w.heap.size w);have H:(if 0≤(i.length:Int)then(if((i.length:Int):Int).toNat≤17592186044416 then(laws_toWantS.l0 k i (List.replicate ((i.length:Int):Int).toNat z81) 0)else(none))else(none))=some r:=h;clear h
 by_cases c2:0≤(i.length:Int)
 ·rw[if_pos c2]at H;have ak:=eq_true c2;have al:decide (0≤(i.length:Int))=true:=decide_eq_true c2;clear c2
  by_cases c3:((i.length:Int):Int).toNat≤17592186044416
  ·rw[if_pos c3]at H;have am:=eq_true c3;have an:decide (((i.length:Int):Int).toNat≤17592186044416)=true:=decide_eq_true c3;clear c3;obtain⟨U,s⟩: ∃y_:List (S81),y_=(List.replicate ((i.length:Int):Int).toNat z81):=⟨_,rfl⟩;have hY_:=s;replace H:(laws_toWantS.l0 k i U 0)=some r:=S.rh;clear hY_;have B:=S.a s;clear s;have H':=S.a H;clear H;go_enter Tryz.func11,Tryz.ntmps11;go_wp2_with (first|((with_reducible refine gate_dst (N:=7) rfl ?_);refine Kd.R_make k81 _ 81 rfl (N:=7) rfl 33 _ _ rfl (i.length:Int) rfl rfl Tryz.underlying33 (.agg #[(.int .i64 0),(.int .i64 0)]) 16 info81 rfl (by decide) (by omega) z81 (ok:=fun _=>True) (okp:=fun _=>True) (k81_mkM _ _ _ z81) (fun _ hk=>hk) trivial (S.oD) (Nat.le_trans (Nat.mul_le_mul_right _ (S.oD:(i.length:Int).toNat≤17592186044416)) (by omega)) (Below.refl _ _) (Nat.le_refl _) ?_;intro ao w4 D hb hg_ hnew_;clear hg_ hnew_;(first|rw[←B.1]at D|(simp only[Int.reduceToNat]at D;rw[←B.1]at D));have ab:=S.lwA D;replace HB:=S.sA hb;clear hb D));go_loopg [4] k (fun kq v4 w'=> ∃(c:List (S81)) (b:Int),v4= .int .i64 b∧Aside0 (laws_toWantS.l0 kq i c b=some r)∧Aside0 (kq≤k)∧Aside0 (Kd.R k81 81 w' w.heap.size (fun _=>True) ao c)∧Aside0 (Below w.heap.size w w'))
   case atStart=>exact⟨(U),(0),S.eA,H',⟨Nat.le_refl _⟩,⟨S.uR ab.1⟩,⟨S.bA⟩⟩
   case round=>
    clear H';try clear c2
    try clear ak
    try clear al
    try clear c3
    try clear am
    try clear an
    obtain⟨c,b,rfl,HA,ap,d,HB⟩:=hrel
    cases gk with
    |zero=>exact absurd HA.1 (by simp[laws_toWantS.l0])
    |succ k1=>
     have H:=HA.1;clear HA;simp only[laws_toWantS.l0]at H;replace H:=S.dc H;rcases H with⟨H,aq⟩|⟨H,aq⟩
     ·by_cases c7:0≤b
      ·rw[if_pos c7]at H;have a0:decide (0≤b)=true:=decide_eq_true c7;clear c7;replace H:=S.bd H;obtain⟨⟨l,m⟩,A8,H⟩:=H;(try dsimp only at H)
       by_cases c9:b<(c.length:Int)
       ·rw[if_pos c9]at H;have a1:decide (b<(c.length:Int))=true:=decide_eq_true c9;clear c9;obtain⟨E,u⟩: ∃y_:List (S81),y_=(c.set (b:Int).toNat (⟨l,m⟩:S81)):=⟨_,rfl⟩;have hY_:=u;replace H:(laws_toWantS.l0 k1 i E (wrap64 (b+1)))=some r:=S.rh;clear hY_;have ac:=S.a u;clear u;have H':=S.a H;clear H;have F:0≤(b:Int):=S.oD;have G:b<(i.length:Int):=S.oD;obtain⟨_,ar,o,q⟩:=at_T83 az.1 b F G;cases ar;replace o:=S.hb HB o;replace q:=S.hb HB q;replace F:=eq_true F;replace G:=eq_true G;go_wp2_with (first|((with_reducible refine gate_callee (f:=49) rfl ?_);refine S.gL (some 20) Tryz.func49 #[.agg #[.int .i64 ((rd_T83 i b).f0),.int .i64 ((rd_T83 i b).f1)]] ?_;(with_reducible refine(laws_toWant.calls ((rd_T83 i b).f0) ((rd_T83 i b).f1) l m _ A8.1).mono ?_);rintro e x ⟨rfl,hb⟩;refine⟨_,rfl,?_⟩;replace d:=S.rb d hb;replace HB:=S.sA hb;(try clear hb);have ad:0≤(b:Int):=S.oD;have ae:(b:Int)<((c.length:Int):Int):=S.oD;obtain⟨g,V,W,X,au,_,Y⟩:=Kd.R_form d.1 (by omega);(first|cases W|(injection W with ea_ en_ ec_;(first|subst ea_|(injection ea_ with ea_;subst ea_));subst ec_;clear en_));have Z:=S.a X;have:=S.a Y;clear X au Y;obtain⟨_,af,hM10,y,z⟩:=Kd.R_elem d.1 z81 (b:Int) ad ae;obtain rfl:=k81_openM hM10;have av:x.cell? ⟨g,(b:Int).toNat*2,none⟩=some (.int .i64 ((rd_T81 c b).f0)):=y 0 _ rfl;have aw:x.cell? ⟨g,(b:Int).toNat*2+1,none⟩=some (.int .i64 ((rd_T81 c b).f1)):=y 1 _ rfl;have ax:x.frozen? ⟨g,(b:Int).toNat*2,none⟩=false:=z 0;have ay:x.frozen? ⟨g,(b:Int).toNat*2+1,none⟩=false:=z 1;clear af y z hM10;replace ad:=eq_true ad;replace ae:=eq_true ae;have aa:=S.a (show Kd.R k81 81 x w.heap.size (fun _=>True) (.slice (some ⟨g,0,none⟩) c.length V) c from (S.uR d.1));obtain⟨_,I,hM12,n,A⟩:=Kd.R_elem aa.1 z81 (b:Int) (S.oD) (by have h_:(b:Int)<((c.length:Int):Int):=S.oD;first|exact h_|(have e_:=(Kd.R_reads' d.1).1;omega)|simpa using h_);obtain rfl:=k81_openM hM12;have J:=Kd.R_seg aa.1 (b:Int) (S.oD) (by have h_:(b:Int)<((c.length:Int):Int):=S.oD;first|exact h_|(have e_:=(Kd.R_reads' d.1).1;omega)|simpa using h_) (seg:=[.int .i64 l,.int .i64 m]) (j:=0) I n (show 2≤2 from by decide) (x':=(⟨l,m⟩:S81)) (k81_mkM _ _ _ (⟨l,m⟩:S81)) (fun _ hk=>hk);have L:=n 0 _ rfl;(try simp only[show (k81).sz=2 from rfl,Nat.mul_one,Nat.add_zero]at L);have M:=A 0;(try simp only[show (k81).sz=2 from rfl,Nat.mul_one,Nat.add_zero]at M);have O:=n 1 _ rfl;(try simp only[show (k81).sz=2 from rfl,Nat.mul_one,Nat.add_zero]at O);have T:=A 1;(try simp only[show (k81).sz=2 from rfl,Nat.mul_one,Nat.add_zero]at T);clear I n A hM12)|((with_reducible refine gate_store (t:=81) (p:=21) rfl ?_);refine store_event (t:=81) (p:=21) (v:=?vo_w13) (w1:=((x.setCell ⟨g,(b:Int).toNat*2,none⟩ (.int .i64 l)).setCell ⟨g,(b:Int).toNat*2+1,none⟩ (.int .i64 m))) ?hg ?ho ?hn ?hr ?_;(case ho=>rfl);(case hg=>rfl);(case hn=>rfl);(case hr=>first|(go_simp;done)|(go_simp;rfl));intro ag hw;have hg:x.grownBy ag (some g):=(by rw[hw];exact J.2);have hp_:Kd.R k81 81 ag w.heap.size (fun _=>True) (.slice (some ⟨g,0,none⟩) c.length V) E:=(by rw[hw,ac.1];exact J.1);clear J;replace d:=S.a (hp_);replace HB:=S.a ((by rw[hw];exact below_set (below_set (HB.1) Z.1) Z.1:Below w.heap.size w ag));clear hg hw hp_))
        go_roundg k1
        case measure=>have:=ap.1;omega
        case rel=>exact⟨(E),(wrap64 (b+1)),S.eA,H',⟨by have:=ap.1;omega⟩,⟨S.uR d.1⟩,⟨S.bA⟩⟩
       ·rw[if_neg c9]at H;exact absurd H (by simp)
      ·rw[if_neg c7]at H;exact absurd H (by simp)
     ·obtain rfl:=Option.some.inj H;go_wp2;go_ret;exact⟨_,S.eW,S.uR d.1,S.bA⟩
  ·rw[if_neg c3]at H;exact absurd H (by simp)
 ·rw[if_neg c2]at H;exact absurd H (by simp)
def laws_toPrio.f(a:Int)(b:Int):Option (Int×Int):=some (a,b)
theorem laws_toPrio.calls(d:Int)(g:Int)(q:Int)(r:Int)(w:World)(h:laws_toPrio.f d g=some (q,r)):
  Calls Tryz.prog 12 #[.agg #[.int .i64 d,.int .i64 g]] w fun e w'=>e= .returned (.agg #[.int .i64 q,.int .i64 r])∧Below w.heap.size w w':=by
 have:=Tryz.underlying28;have:=Tryz.underlying34;have HB:=S.a (Below.refl w.heap.size w);have H:(some (d,g))=some (q,r):=h;clear h;simp only[Option.some.injEq,Prod.mk.injEq]at H;obtain⟨rfl,rfl⟩:=H;go_enter Tryz.func12,Tryz.ntmps12;go_wp2_with (first|((with_reducible refine gate_dst (N:=1) rfl ?_);refine S.bx 1 (cs:=#[.int .i64 d,.int .i64 g]) (t:=28) ?_;intro s hg v hbox hb;have b:=S.a hbox;have:=S.geA hg;have:=S.geA hg;replace HB:=S.sA hb;clear hb hbox hg)|((with_reducible refine gate_dst (N:=2) rfl ?_);refine S.bx 2 (cs:=#[.int .i64 0,.int .i64 0]) (t:=34) ?_;intro o hg x hbox hb;have c:=S.a hbox;have:=S.geG hg;have:=S.geG hg;replace HB:=S.sG hb;have i:=S.nl hg b;have j:=S.ng hg b;replace b:=S.kb b hb;clear hb hbox hg)|((with_reducible refine gate_dst (N:=3) rfl ?_);refine S.bx 3 (cs:=#[.int .i64 0,.int .i64 0]) (t:=34) ?_;intro u hg y hbox hb;have p:=S.a hbox;have:=S.geG hg;have:=S.geG hg;replace HB:=S.sG hb;have k:=S.nl hg b;have l:=S.ng hg b;replace b:=S.kb b hb;have m:=S.nl hg c;have n:=S.ng hg c;replace c:=S.kb c hb;clear hb hbox hg;have:=i.1;have:=j.1;have:=k.1;have:=l.1;obtain⟨_,_,_,_⟩:=S.c2 b.1;have:=n.1;have:=m.1;obtain⟨_,_,_,_⟩:=S.c2 p.1;obtain⟨_,_,_,_⟩:=S.c2 c.1));refine bodyPost_ret (results_cell_row rfl _ _ o 34 #[.int .i64 d,.int .i64 g] (0,0) _ rfl (S.uC c.1) Tryz.underlying34 rfl (by kernel_rfl)) rfl ?_;exact⟨S.eW,S.bG⟩
def impl_InRange.f(a:Int)(b:Int)(c:Int):Option (Bool):=if b≤a then(some (decide (a≤c)))else(some false)
theorem impl_InRange.calls(b:Int)(c:Int)(d:Int)(r:Bool)(w:World)(h:impl_InRange.f b c d=some r):
  Calls Tryz.prog 66 #[.int .i64 b,.int .i64 c,.int .i64 d] w fun e w'=>e= .returned (.bool r)∧Drawn0 w w':=by
 have H:(if c≤b then(some (decide (b≤d)))else(some false))=some r:=h;clear h;replace H:=S.dc H;rcases H with⟨H,a⟩|⟨H,a⟩
 ·obtain rfl:=Option.some.inj H;go_enter Tryz.func66,Tryz.ntmps66;go_wp2;go_ret;exact⟨S.eA,by repeat(first|exact Drawn0.refl _|apply Drawn0.step)⟩
 ·obtain rfl:=Option.some.inj H;go_enter Tryz.func66,Tryz.ntmps66;go_wp2;go_ret;exact⟨S.eA,by repeat(first|exact Drawn0.refl _|apply Drawn0.step)⟩
def impl_IsPath.f(d:Int)(a:Int)(b:Int)(c:Int):Option (Bool):=(impl_InRange.f d 1 20).bind fun e=>(if e=true then((impl_InRange.f a 1 3).bind fun g=>(if g=true then((impl_InRange.f b 0 3).bind fun h=>(if h=true then((impl_InRange.f c 0 3).bind fun i=>(if i=true then(some ((b==c)==(a==2)))else(some false)))else(some false)))else(some false)))else(some false))
theorem impl_IsPath.calls(b:Int)(c:Int)(g:Int)(i:Int)(r:Bool)(w:World)(h:impl_IsPath.f b c g i=some r):
  Calls Tryz.prog 100 #[.agg #[.int .i64 b,.int .i64 c,.int .i64 g,.int .i64 i]] w fun e w'=>e= .returned (.bool r)∧Below w.heap.size w w':=by
 have:=Tryz.underlying76;have HB:=S.a (Below.refl w.heap.size w);have H:((impl_InRange.f b 1 20).bind fun m=>(if m=true then((impl_InRange.f c 1 3).bind fun n=>(if n=true then((impl_InRange.f g 0 3).bind fun o=>(if o=true then((impl_InRange.f i 0 3).bind fun p=>(if p=true then(some ((g==i)==(c==2)))else(some false)))else(some false)))else(some false)))else(some false)))=some r:=h;clear h;replace H:=S.bd H;obtain⟨m,q,H⟩:=H;(try dsimp only at H);replace H:=S.db H;rcases H with⟨rfl,H⟩|⟨rfl,H⟩
 ·replace H:=S.bd H;obtain⟨n,s,H⟩:=H;(try dsimp only at H);replace H:=S.db H;rcases H with⟨rfl,H⟩|⟨rfl,H⟩
  ·replace H:=S.bd H;obtain⟨o,u,H⟩:=H;(try dsimp only at H);replace H:=S.db H;rcases H with⟨rfl,H⟩|⟨rfl,H⟩
   ·replace H:=S.bd H;obtain⟨p,v,H⟩:=H;(try dsimp only at H);replace H:=S.db H;rcases H with⟨rfl,H⟩|⟨rfl,H⟩
    ·obtain rfl:=Option.some.inj H;go_enter Tryz.func100,Tryz.ntmps100;go_wp2_with (first|((with_reducible refine gate_dst (N:=1) rfl ?_);refine S.bx 1 (cs:=#[.int .i64 b,.int .i64 c,.int .i64 g,.int .i64 i]) (t:=76) ?_;intro j hg x hbox hb;have d:=S.a hbox;have k:=S.geA hg;have l:=S.geA hg;replace HB:=S.sA hb;clear hb hbox hg;obtain⟨_,_,_,_,_,_,_,_⟩:=S.c4 d.1)|((with_reducible refine gate_callee (f:=66) rfl ?_);refine S.gL (some 5) Tryz.func66 #[.int .i64 b,.int .i64 1,.int .i64 20] ?_;(with_reducible refine(impl_InRange.calls b 1 20 true _ q.1).mono ?_);rintro e w' ⟨rfl,⟨nd,rfl⟩⟩;refine⟨_,rfl,?_⟩)|(go_at_call 66;(with_reducible refine(impl_InRange.calls c 1 3 true _ s.1).mono ?_);rintro e w' ⟨rfl,⟨nd,rfl⟩⟩)|(go_at_call 66;(with_reducible refine(impl_InRange.calls g 0 3 true _ u.1).mono ?_);rintro e w' ⟨rfl,⟨nd,rfl⟩⟩)|(go_at_call 66;(with_reducible refine(impl_InRange.calls i 0 3 true _ v.1).mono ?_);rintro e w' ⟨rfl,⟨nd,rfl⟩⟩));go_ret;exact⟨S.eW,S.bG⟩
    ·obtain rfl:=Option.some.inj H;go_enter Tryz.func100,Tryz.ntmps100;go_wp2_with (first|((with_reducible refine gate_dst (N:=1) rfl ?_);refine S.bx 1 (cs:=#[.int .i64 b,.int .i64 c,.int .i64 g,.int .i64 i]) (t:=76) ?_;intro j hg y hbox hb;have d:=S.a hbox;have k:=S.geA hg;have l:=S.geA hg;replace HB:=S.sA hb;clear hb hbox hg;obtain⟨_,_,_,_,_,_,_,_⟩:=S.c4 d.1)|((with_reducible refine gate_callee (f:=66) rfl ?_);refine S.gL (some 5) Tryz.func66 #[.int .i64 b,.int .i64 1,.int .i64 20] ?_;(with_reducible refine(impl_InRange.calls b 1 20 true _ q.1).mono ?_);rintro e w' ⟨rfl,⟨nd,rfl⟩⟩;refine⟨_,rfl,?_⟩)|(go_at_call 66;(with_reducible refine(impl_InRange.calls c 1 3 true _ s.1).mono ?_);rintro e w' ⟨rfl,⟨nd,rfl⟩⟩)|(go_at_call 66;(with_reducible refine(impl_InRange.calls g 0 3 true _ u.1).mono ?_);rintro e w' ⟨rfl,⟨nd,rfl⟩⟩)|(go_at_call 66;(with_reducible refine(impl_InRange.calls i 0 3 false _ v.1).mono ?_);rintro e w' ⟨rfl,⟨nd,rfl⟩⟩));go_ret;exact⟨S.eW,S.bG⟩
   ·obtain rfl:=Option.some.inj H;go_enter Tryz.func100,Tryz.ntmps100;go_wp2_with (first|((with_reducible refine gate_dst (N:=1) rfl ?_);refine S.bx 1 (cs:=#[.int .i64 b,.int .i64 c,.int .i64 g,.int .i64 i]) (t:=76) ?_;intro j hg z hbox hb;have d:=S.a hbox;have k:=S.geA hg;have l:=S.geA hg;replace HB:=S.sA hb;clear hb hbox hg;obtain⟨_,_,_,_,_,_,_,_⟩:=S.c4 d.1)|((with_reducible refine gate_callee (f:=66) rfl ?_);refine S.gL (some 5) Tryz.func66 #[.int .i64 b,.int .i64 1,.int .i64 20] ?_;(with_reducible refine(impl_InRange.calls b 1 20 true _ q.1).mono ?_);rintro e w' ⟨rfl,⟨nd,rfl⟩⟩;refine⟨_,rfl,?_⟩)|(go_at_call 66;(with_reducible refine(impl_InRange.calls c 1 3 true _ s.1).mono ?_);rintro e w' ⟨rfl,⟨nd,rfl⟩⟩)|(go_at_call 66;(with_reducible refine(impl_InRange.calls g 0 3 false _ u.1).mono ?_);rintro e w' ⟨rfl,⟨nd,rfl⟩⟩));go_ret;exact⟨S.eW,S.bG⟩
  ·obtain rfl:=Option.some.inj H;go_enter Tryz.func100,Tryz.ntmps100;go_wp2_with (first|((with_reducible refine gate_dst (N:=1) rfl ?_);refine S.bx 1 (cs:=#[.int .i64 b,.int .i64 c,.int .i64 g,.int .i64 i]) (t:=76) ?_;intro j hg A hbox hb;have d:=S.a hbox;have k:=S.geA hg;have l:=S.geA hg;replace HB:=S.sA hb;clear hb hbox hg;obtain⟨_,_,_,_,_,_,_,_⟩:=S.c4 d.1)|((with_reducible refine gate_callee (f:=66) rfl ?_);refine S.gL (some 5) Tryz.func66 #[.int .i64 b,.int .i64 1,.int .i64 20] ?_;(with_reducible refine(impl_InRange.calls b 1 20 true _ q.1).mono ?_);rintro e w' ⟨rfl,⟨nd,rfl⟩⟩;refine⟨_,rfl,?_⟩)|(go_at_call 66;(with_reducible refine(impl_InRange.calls c 1 3 false _ s.1).mono ?_);rintro e w' ⟨rfl,⟨nd,rfl⟩⟩));go_ret;exact⟨S.eW,S.bG⟩
 ·obtain rfl:=Option.some.inj H;go_enter Tryz.func100,Tryz.ntmps100;go_wp2_with (first|((with_reducible refine gate_dst (N:=1) rfl ?_);refine S.bx 1 (cs:=#[.int .i64 b,.int .i64 c,.int .i64 g,.int .i64 i]) (t:=76) ?_;intro j hg B hbox hb;have d:=S.a hbox;have k:=S.geA hg;have l:=S.geA hg;replace HB:=S.sA hb;clear hb hbox hg;obtain⟨_,_,_,_,_,_,_,_⟩:=S.c4 d.1)|((with_reducible refine gate_callee (f:=66) rfl ?_);refine S.gL (some 5) Tryz.func66 #[.int .i64 b,.int .i64 1,.int .i64 20] ?_;(with_reducible refine(impl_InRange.calls b 1 20 false _ q.1).mono ?_);rintro e w' ⟨rfl,⟨nd,rfl⟩⟩;refine⟨_,rfl,?_⟩));go_ret;exact⟨S.eW,S.bG⟩
def impl_ArePaths.l0:Nat→List (S76)→List (S76)→Int→Int→Option (Bool)
 |0,_,_,_,_=>none
 |k+1,d,b,e,a=>if a<e then(if 0≤a then(if a<(b.length:Int)then((impl_IsPath.f ((rd_T76 b a).f0) ((rd_T76 b a).f1) ((rd_T76 b a).f2) ((rd_T76 b a).f3)).bind fun c=>(if c=true then(if a>0 then(if 0≤(wrap64 (a-1))then(if(wrap64 (a-1))<(d.length:Int)then(if((rd_T76 b a).f0)≤((rd_T76 d (wrap64 (a-1))).f0)then(some false)else(impl_ArePaths.l0 k d b e (wrap64 (a+1))))else(none))else(none))else(impl_ArePaths.l0 k d b e (wrap64 (a+1))))else(some false)))else(none))else(none))else(some true)
def impl_ArePaths.f(k:Nat)(a:List (S76)):Option (Bool):=if(a.length:Int)>12 then(some false)else(impl_ArePaths.l0 k a a (a.length:Int) 0)
def impl_ArePaths.T6:Bool×List (List Nat×List Nat):=(true,[([],[]),([0],[0]),([1],[1]),([2,1],[2]),([3],[3]),([4,3],[3,4]),([5,3,3],[3,5]),([6],[6]),([7,6],[6,7]),([6],[6]),([6],[6]),([10,6],[6,10]),([9,11,6],[6,9,11]),([12,6],[6,12]),([13,6],[6,13]),([8,14,6],[6,8,14]),([6,15,3],[3,6,15]),([3,16],[3,16])])
def impl_ArePaths.B6:List Nat:=[0,1,3,7,15,31,63,127,255,127,127,1151,3711,7807,15999,32767,65535,131071]
theorem impl_ArePaths.tab6:rtab .any (opsOf Tryz.f68 6)=impl_ArePaths.T6:=by kernel_rfl
theorem impl_ArePaths.bits6:waitsOk impl_ArePaths.T6.2 impl_ArePaths.B6=true:=by kernel_rfl
theorem impl_ArePaths.calls(k:Nat)(A0:Option Addr)(c0:Nat)(d:List (S76))(r:Bool)(w:World)(ac:Kd.C k76 w A0 d.length d)(ad:d.length≤c0)(h:impl_ArePaths.f k d=some r):
  Calls Tryz.prog 68 #[.slice A0 d.length c0] w fun e w'=>e= .returned (.bool r)∧Below w.heap.size w w':=by
 have:=Tryz.underlying76;have R:=S.a ac;have:=S.a ad;clear ac ad;have HB:=S.a (Below.refl w.heap.size w);have H:(if(d.length:Int)>12 then(some false)else(impl_ArePaths.l0 k d d (d.length:Int) 0))=some r:=h;clear h
 by_cases Z:(d.length:Int)>12
 ·rw[if_pos Z]at H;have X:decide (12<(d.length:Int))=true:=decide_eq_true Z;have Y:decide (12<d.length)=true:=decide_eq_true (by omega);clear Z;obtain rfl:=Option.some.inj H;go_enter Tryz.func68,Tryz.ntmps68;go_wp2;go_ret;exact⟨S.eW,S.bA⟩
 ·rw[if_neg Z]at H;have X:decide (12<(d.length:Int))=false:=decide_eq_false Z;have Y:decide (12<d.length)=false:=decide_eq_false (by omega);clear Z;have H':=S.a H;clear H;go_enter Tryz.func68,Tryz.ntmps68;go_wp2;go_loopg [10] k (fun kq ag w'=> ∃(b:Int),ag= .int .i64 b∧Aside0 (impl_ArePaths.l0 kq d d (d.length:Int) b=some r)∧Aside0 (kq≤k)∧Aside0 (Below w.heap.size w w'))
  case atStart=>exact⟨(0),S.eA,H',⟨Nat.le_refl _⟩,⟨S.bA⟩⟩
  case round=>
   clear H';try clear Z
   try clear X
   try clear Y
   obtain⟨b,rfl,HA,U,HB⟩:=hrel
   cases gk with
   |zero=>exact absurd HA.1 (by simp[impl_ArePaths.l0])
   |succ k1=>
    have H:=HA.1;clear HA;simp only[impl_ArePaths.l0]at H;replace H:=S.dc H;rcases H with⟨H,ae⟩|⟨H,ae⟩
    ·by_cases c4:0≤b
     ·rw[if_pos c4]at H;have ar:decide (0≤b)=true:=decide_eq_true c4;clear c4
      by_cases c5:b<(d.length:Int)
      ·rw[if_pos c5]at H;have au:decide (b<(d.length:Int))=true:=decide_eq_true c5;clear c5;replace H:=S.bd H;obtain⟨_,A6,H⟩:=H;(try dsimp only at H);replace H:=S.db H;rcases H with⟨rfl,H⟩|⟨rfl,H⟩
       ·by_cases c8:b>0
        ·rw[if_pos c8]at H;have af:decide (0<b)=true:=decide_eq_true c8;clear c8;obtain⟨D,J⟩: ∃j_:Int,(wrap64 (b-1))=j_:=⟨_,rfl⟩;replace H:(if 0≤(D)then(if(D)<(d.length:Int)then(if((rd_T76 d b).f0)≤((rd_T76 d (D)).f0)then(some false)else(impl_ArePaths.l0 k1 d d (d.length:Int) (wrap64 (b+1))))else(none))else(none))=some r:=by first|(rw[J]at H;exact H)|(simp only[J]at H⊢;exact H)
         (try rw[J]at A6);have hji9w:(IntKind.i64.wrap (b-1))=D:=(i64_w _).trans J
         by_cases V:0≤(D)
         ·rw[if_pos V]at H;have ah:decide (0≤(D))=true:=decide_eq_true V;clear V
          by_cases W:(D)<(d.length:Int)
          ·rw[if_pos W]at H;have ai:decide ((D)<(d.length:Int))=true:=decide_eq_true W;clear W;replace H:=S.dc H;rcases H with⟨H,aa⟩|⟨H,aa⟩
           ·obtain rfl:=Option.some.inj H;have v:0≤(b:Int):=S.oD;have x:b<(d.length:Int):=S.oD;obtain⟨E,F,i,j,l,m⟩:=at_T76 R.1 b v x;cases F;replace i:=S.hb HB i;replace j:=S.hb HB j;replace l:=S.hb HB l;replace m:=S.hb HB m;replace v:=eq_true v;replace x:=eq_true x
            try go_wp2_with (first|((with_reducible refine gate_dst (N:=4) rfl ?_);refine S.bx 4 (cs:=#[.int .i64 0,.int .i64 0,.int .i64 0,.int .i64 0]) (t:=76) ?_;intro g hg aj hbox hb;have c:=S.a hbox;have L:=S.geA hg;have M:=S.geA hg;replace HB:=S.sA hb;clear hb hbox hg;obtain⟨_,_,_,_,_,_,_,_⟩:=S.c4 c.1))
            generalize hq_:((((aj.setCell ⟨g,0,none⟩ (.int .i64 ((rd_T76 d b).f0))).setCell ⟨g,1,none⟩ (.int .i64 ((rd_T76 d b).f1))).setCell ⟨g,2,none⟩ (.int .i64 ((rd_T76 d b).f2))).setCell ⟨g,3,none⟩ (.int .i64 ((rd_T76 d b).f3)))=ak;replace c:=S.p4 hq_ c;replace HB:=S.bQ hq_;clear hq_;replace c:=S.a (blk_drew c.1);replace HB:=S.a (below_drew1 HB.1);have G:0≤((D):Int):=S.oD;have I:(D)<(d.length:Int):=S.oD;obtain⟨O,T,o,p,s,u⟩:=at_T76 R.1 (D) G I;have y:=u;have z:=s;have A:=p;have B:=o;obtain rfl:E=O:=(by injection T);replace o:=S.hb HB o;replace p:=S.hb HB p;replace s:=S.hb HB s;replace u:=S.hb HB u;replace G:=eq_true G;replace I:=eq_true I;refine S.st (n:=18) (ds:=[]) (S.bs 262144) (fun w_ h_=>have x_:=S.d4 (S.Q h_ c.1) (And.intro (S.q h_ (S.hb HB B)) (And.intro (S.q h_ (S.hb HB A)) (And.intro (S.q h_ (S.hb HB z)) (S.q h_ (S.hb HB y)))));x_) (fun hHeld=>?_);refine with_tabW impl_ArePaths.tab6 impl_ArePaths.bits6 (fun HT_ HW_=>?_);generalize ak.drew=av at c HB o p s u hHeld⊢;refine S.tK 0 15 (S.bs 262145) ?_;refine S.oN 1 16 (S.bs 262147) (fun K hK=>?_);refine S.go Tryz.func100 #[.agg #[.int .i64 ((rd_T76 d b).f0),.int .i64 ((rd_T76 d b).f1),.int .i64 ((rd_T76 d b).f2),.int .i64 ((rd_T76 d b).f3)]] ?_
            with_reducible refine(impl_IsPath.calls ((rd_T76 d b).f0) ((rd_T76 d b).f1) ((rd_T76 d b).f2) ((rd_T76 d b).f3) true _ A6.1).mono ?_
            rintro e aw ⟨rfl,hb⟩;refine⟨_,rfl,?_⟩;replace c:=S.kb c hb;replace HB:=S.sG hb;(try clear hb);(try clear ab);(try clear hk);(try clear hi);refine hK.out _ _ (S.d4 c.1 (And.intro ((S.hb HB B:)) (And.intro ((S.hb HB A:)) (And.intro ((S.hb HB z:)) ((S.hb HB y:)))))) (fun hHeld=>?_);clear hK K;refine S.nm 16 ?_;refine S.pS 2 17 ?_;refine S.pS 3 18 ?_;refine S.pS 4 19 ?_;refine S.pS 5 20 ?_;refine S.pS 6 21 ?_;refine S.pS 7 22 ?_;refine S.pS 9 24 ?_;refine S.pS 10 25 ?_;refine S.pS 11 26 ?_;refine S.pS 12 27 ?_;refine S.pS 13 28 ?_;refine S.tK 8 23 (S.bs 278527) ?_;refine S.tK 14 29 (S.bs 294911) ?_;refine S.pS 15 30 ?_;refine S.pS 16 31 ?_;refine S.pS 17 32 ?_;refine done_ (done_of HT_.1 (by kernel_rfl)) ?_;try go_wp2
            go_ret;exact⟨by first|rfl|(simp[errW_none,errW_some]<;>rfl)|(simp only[←J];first|rfl|(simp[errW_none,errW_some]<;>rfl))|(simp[*,errW_none,errW_some]<;>rfl),S.bG⟩
           ·have H':=S.a H;clear H;have v:0≤(b:Int):=S.oD;have x:b<(d.length:Int):=S.oD;obtain⟨E,F,i,j,l,m⟩:=at_T76 R.1 b v x;cases F;replace i:=S.hb HB i;replace j:=S.hb HB j;replace l:=S.hb HB l;replace m:=S.hb HB m;replace v:=eq_true v;replace x:=eq_true x
            try go_wp2_with (first|((with_reducible refine gate_dst (N:=4) rfl ?_);refine S.bx 4 (cs:=#[.int .i64 0,.int .i64 0,.int .i64 0,.int .i64 0]) (t:=76) ?_;intro g hg al hbox hb;have c:=S.a hbox;have L:=S.geA hg;have M:=S.geA hg;replace HB:=S.sA hb;clear hb hbox hg;obtain⟨_,_,_,_,_,_,_,_⟩:=S.c4 c.1))
            generalize hq_:((((al.setCell ⟨g,0,none⟩ (.int .i64 ((rd_T76 d b).f0))).setCell ⟨g,1,none⟩ (.int .i64 ((rd_T76 d b).f1))).setCell ⟨g,2,none⟩ (.int .i64 ((rd_T76 d b).f2))).setCell ⟨g,3,none⟩ (.int .i64 ((rd_T76 d b).f3)))=am;replace c:=S.p4 hq_ c;replace HB:=S.bQ hq_;clear hq_;replace c:=S.a (blk_drew c.1);replace HB:=S.a (below_drew1 HB.1);have G:0≤((D):Int):=S.oD;have I:(D)<(d.length:Int):=S.oD;obtain⟨O,T,o,p,s,u⟩:=at_T76 R.1 (D) G I;have y:=u;have z:=s;have A:=p;have B:=o;obtain rfl:E=O:=(by injection T);replace o:=S.hb HB o;replace p:=S.hb HB p;replace s:=S.hb HB s;replace u:=S.hb HB u;replace G:=eq_true G;replace I:=eq_true I;refine S.st (n:=18) (ds:=[]) (S.bs 262144) (fun w_ h_=>have x_:=S.d4 (S.Q h_ c.1) (And.intro (S.q h_ (S.hb HB B)) (And.intro (S.q h_ (S.hb HB A)) (And.intro (S.q h_ (S.hb HB z)) (S.q h_ (S.hb HB y)))));x_) (fun hHeld=>?_);refine with_tabW impl_ArePaths.tab6 impl_ArePaths.bits6 (fun HT_ HW_=>?_);generalize am.drew=ax at c HB o p s u hHeld⊢;refine S.tK 0 15 (S.bs 262145) ?_;refine S.oN 1 16 (S.bs 262147) (fun K hK=>?_);refine S.go Tryz.func100 #[.agg #[.int .i64 ((rd_T76 d b).f0),.int .i64 ((rd_T76 d b).f1),.int .i64 ((rd_T76 d b).f2),.int .i64 ((rd_T76 d b).f3)]] ?_
            with_reducible refine(impl_IsPath.calls ((rd_T76 d b).f0) ((rd_T76 d b).f1) ((rd_T76 d b).f2) ((rd_T76 d b).f3) true _ A6.1).mono ?_
            rintro e ay ⟨rfl,hb⟩;refine⟨_,rfl,?_⟩;replace c:=S.kb c hb;replace HB:=S.sG hb;(try clear hb);(try clear ab);(try clear hk);(try clear hi);refine hK.out _ _ (S.d4 c.1 (And.intro ((S.hb HB B:)) (And.intro ((S.hb HB A:)) (And.intro ((S.hb HB z:)) ((S.hb HB y:)))))) (fun hHeld=>?_);clear hK K;refine S.nm 16 ?_;refine S.pS 2 17 ?_;refine S.pS 3 18 ?_;refine S.pS 4 19 ?_;refine S.pS 5 20 ?_;refine S.pS 6 21 ?_;refine S.pS 7 22 ?_;refine S.pS 9 24 ?_;refine S.pS 10 25 ?_;refine S.pS 11 26 ?_;refine S.pS 12 27 ?_;refine S.pS 13 28 ?_;refine S.tK 8 23 (S.bs 278527) ?_;refine S.tK 14 29 (S.bs 294911) ?_;refine S.pS 15 30 ?_;refine S.pS 16 31 ?_;refine S.pS 17 32 ?_;refine done_ (done_of HT_.1 (by kernel_rfl)) ?_;try go_wp2
            go_roundg k1
            case measure=>have:=U.1;omega
            case rel=>exact⟨(wrap64 (b+1)),S.eA,H',⟨by have:=U.1;omega⟩,⟨S.bG⟩⟩
          ·rw[if_neg W]at H;exact absurd H (by simp)
         ·rw[if_neg V]at H;exact absurd H (by simp)
        ·rw[if_neg c8]at H;have af:decide (0<b)=false:=decide_eq_false c8;clear c8;have H':=S.a H;clear H;have v:0≤(b:Int):=S.oD;have x:b<(d.length:Int):=S.oD;obtain⟨E,F,i,j,l,m⟩:=at_T76 R.1 b v x;cases F;replace i:=S.hb HB i;replace j:=S.hb HB j;replace l:=S.hb HB l;replace m:=S.hb HB m;replace v:=eq_true v;replace x:=eq_true x
         try go_wp2_with (first|((with_reducible refine gate_dst (N:=4) rfl ?_);refine S.bx 4 (cs:=#[.int .i64 0,.int .i64 0,.int .i64 0,.int .i64 0]) (t:=76) ?_;intro g hg an hbox hb;have c:=S.a hbox;have L:=S.geA hg;have M:=S.geA hg;replace HB:=S.sA hb;clear hb hbox hg;obtain⟨_,_,_,_,_,_,_,_⟩:=S.c4 c.1))
         generalize hq_:((((an.setCell ⟨g,0,none⟩ (.int .i64 ((rd_T76 d b).f0))).setCell ⟨g,1,none⟩ (.int .i64 ((rd_T76 d b).f1))).setCell ⟨g,2,none⟩ (.int .i64 ((rd_T76 d b).f2))).setCell ⟨g,3,none⟩ (.int .i64 ((rd_T76 d b).f3)))=ao;replace c:=S.p4 hq_ c;replace HB:=S.bQ hq_;clear hq_;replace c:=S.a (blk_drew c.1);replace HB:=S.a (below_drew1 HB.1);refine S.st (n:=18) (ds:=[]) (S.bs 262144) (fun w_ h_=>have x_:=S.e4 (S.Q h_ c.1);x_) (fun hHeld=>?_);refine with_tabW impl_ArePaths.tab6 impl_ArePaths.bits6 (fun HT_ HW_=>?_);generalize ao.drew=az at c HB hHeld⊢;refine S.tK 0 15 (S.bs 262145) ?_;refine S.oN 1 16 (S.bs 262147) (fun K hK=>?_);refine S.go Tryz.func100 #[.agg #[.int .i64 ((rd_T76 d b).f0),.int .i64 ((rd_T76 d b).f1),.int .i64 ((rd_T76 d b).f2),.int .i64 ((rd_T76 d b).f3)]] ?_
         with_reducible refine(impl_IsPath.calls ((rd_T76 d b).f0) ((rd_T76 d b).f1) ((rd_T76 d b).f2) ((rd_T76 d b).f3) true _ A6.1).mono ?_
         rintro e a0 ⟨rfl,hb⟩;refine⟨_,rfl,?_⟩;replace c:=S.kb c hb;replace HB:=S.sG hb;(try clear hb);(try clear ab);(try clear hk);(try clear hi);refine hK.out _ _ (S.e4 c.1) (fun hHeld=>?_);clear hK K;refine S.nm 16 ?_;refine S.pS 2 17 ?_;refine S.pS 3 18 ?_;refine S.pS 4 19 ?_;refine S.pS 5 20 ?_;refine S.pS 6 21 ?_;refine S.pU 7 22 ?_;refine S.pU 8 23 ?_;refine S.pU 9 24 ?_;refine S.pU 10 25 ?_;refine S.pU 11 26 ?_;refine S.pU 12 27 ?_;refine S.pU 13 28 ?_;refine S.pU 14 29 ?_;refine S.pU 15 30 ?_;refine S.pS 16 31 ?_;refine S.pS 17 32 ?_;refine done_ (done_of HT_.1 (by kernel_rfl)) ?_;try go_wp2
         go_roundg k1
         case measure=>have:=U.1;omega
         case rel=>exact⟨(wrap64 (b+1)),S.eA,H',⟨by have:=U.1;omega⟩,⟨S.bG⟩⟩
       ·obtain rfl:=Option.some.inj H;have v:0≤(b:Int):=S.oD;have x:b<(d.length:Int):=S.oD;obtain⟨E,F,i,j,l,m⟩:=at_T76 R.1 b v x;cases F;replace i:=S.hb HB i;replace j:=S.hb HB j;replace l:=S.hb HB l;replace m:=S.hb HB m;replace v:=eq_true v;replace x:=eq_true x
        try go_wp2_with (first|((with_reducible refine gate_dst (N:=4) rfl ?_);refine S.bx 4 (cs:=#[.int .i64 0,.int .i64 0,.int .i64 0,.int .i64 0]) (t:=76) ?_;intro g hg ap hbox hb;have c:=S.a hbox;have L:=S.geA hg;have M:=S.geA hg;replace HB:=S.sA hb;clear hb hbox hg;obtain⟨_,_,_,_,_,_,_,_⟩:=S.c4 c.1))
        generalize hq_:((((ap.setCell ⟨g,0,none⟩ (.int .i64 ((rd_T76 d b).f0))).setCell ⟨g,1,none⟩ (.int .i64 ((rd_T76 d b).f1))).setCell ⟨g,2,none⟩ (.int .i64 ((rd_T76 d b).f2))).setCell ⟨g,3,none⟩ (.int .i64 ((rd_T76 d b).f3)))=aq;replace c:=S.p4 hq_ c;replace HB:=S.bQ hq_;clear hq_;replace c:=S.a (blk_drew c.1);replace HB:=S.a (below_drew1 HB.1);refine S.st (n:=18) (ds:=[]) (S.bs 262144) (fun w_ h_=>have x_:=S.e4 (S.Q h_ c.1);x_) (fun hHeld=>?_);refine with_tabW impl_ArePaths.tab6 impl_ArePaths.bits6 (fun HT_ HW_=>?_);generalize aq.drew=a1 at c HB hHeld⊢;refine S.tK 0 15 (S.bs 262145) ?_;refine S.oN 1 16 (S.bs 262147) (fun K hK=>?_);refine S.go Tryz.func100 #[.agg #[.int .i64 ((rd_T76 d b).f0),.int .i64 ((rd_T76 d b).f1),.int .i64 ((rd_T76 d b).f2),.int .i64 ((rd_T76 d b).f3)]] ?_
        with_reducible refine(impl_IsPath.calls ((rd_T76 d b).f0) ((rd_T76 d b).f1) ((rd_T76 d b).f2) ((rd_T76 d b).f3) false _ A6.1).mono ?_
        rintro e a2 ⟨rfl,hb⟩;refine⟨_,rfl,?_⟩;replace c:=S.kb c hb;replace HB:=S.sG hb;(try clear hb);(try clear ab);(try clear hk);(try clear hi);refine hK.out _ _ (S.e4 c.1) (fun hHeld=>?_);clear hK K;refine S.nm 16 ?_;refine S.pS 2 17 ?_;refine S.pS 3 18 ?_;refine S.pU 4 19 ?_;refine S.pU 5 20 ?_;refine S.pU 6 21 ?_;refine S.pU 7 22 ?_;refine S.pU 8 23 ?_;refine S.pU 9 24 ?_;refine S.pU 10 25 ?_;refine S.pU 11 26 ?_;refine S.pU 12 27 ?_;refine S.pU 13 28 ?_;refine S.pU 14 29 ?_;refine S.pU 15 30 ?_;refine S.pU 16 31 ?_;refine S.pS 17 32 ?_;refine done_ (done_of HT_.1 (by kernel_rfl)) ?_;try go_wp2
        go_ret;exact⟨S.eW,S.bG⟩
      ·rw[if_neg c5]at H;exact absurd H (by simp)
     ·rw[if_neg c4]at H;exact absurd H (by simp)
    ·obtain rfl:=Option.some.inj H;go_wp2;go_ret;exact⟨S.eW,S.bA⟩
theorem impl_FindPath.idx(p:S76→Bool)(g:Nat)(lb:Array Value)(eg: ∀args w,(callFunc g args).run Tryz.prog w= .ok (.enter g args) w)(m:Option Addr)(n:Nat)(b:List S76)(w:World)
  (hp: ∀(W:World) (x:S76),Below w.heap.size w W→Calls Tryz.prog g (#[.agg #[.int .i64 x.f0,.int .i64 x.f1,.int .i64 x.f2,.int .i64 x.f3]]++lb) W fun e w'=>e= .returned (.bool (p x))∧Below w.heap.size w w')
  (i:Kd.C k76 w m b.length b)(o:b.length≤n):
  Calls Tryz.prog 101 #[.slice m b.length n,.func (.func g) #[] lb] w fun e w'=>e= .returned (.int .i64 (Go.Proofs.YtopchlafmfgpnaaGreat.Hnd.fidx p b 0))∧Below w.heap.size w w':=by
 have hbig:b.length≤9223372036854775807:=i.2.1;have l:=S.a i;have HP:=S.a hp;clear i hp;go_enter Tryz.func101,Tryz.ntmps101;go_wp2;go_loopg [5,8] b.length (fun gg _ s8 wr=> ∃kk:Nat,kk≤b.length∧b.length-kk≤gg∧s8= .int .i64 kk∧Aside0 (Below w.heap.size w wr)∧Aside0 (Go.Proofs.YtopchlafmfgpnaaGreat.Hnd.fidx p b 0=Go.Proofs.YtopchlafmfgpnaaGreat.Hnd.fidx p (b.drop kk) kk))
 case atStart=>exact⟨0,Nat.zero_le _,by omega,rfl,⟨Below.refl _ w⟩,⟨by simp⟩⟩
 case round=>
  obtain⟨kk,_,_,rfl,BW,A⟩:=hrel
  by_cases hlt:kk<b.length
  ·have hltz:(kk:Int)<(b.length:Int):=by omega
   obtain⟨_,j,c,d,f,h⟩:=at_T76 l.1 (kk:Int) (by omega) hltz;cases j;simp only[Int.toNat_natCast]at c d f h;replace c:=(BW.1.cell (World.block_lt_of_cell? w _ c)).trans c;replace d:=(BW.1.cell (World.block_lt_of_cell? w _ d)).trans d;replace f:=(BW.1.cell (World.block_lt_of_cell? w _ f)).trans f;replace h:=(BW.1.cell (World.block_lt_of_cell? w _ h)).trans h;have hcall:=HP.1 wr (rd_T76 b (kk:Int)) BW.1;have k:rd_T76 b (kk:Int)=b[kk]:=by simp[rd_T76,hlt]
   have E:Aside0 (Go.Proofs.YtopchlafmfgpnaaGreat.Hnd.fidx p b 0=if p (rd_T76 b (kk:Int))=true then(kk:Int)else Go.Proofs.YtopchlafmfgpnaaGreat.Hnd.fidx p (b.drop (kk+1)) (kk+1)):=⟨by rw[A.1,List.drop_eq_getElem_cons hlt,k];rfl⟩;clear A k;generalize rd_T76 b (kk:Int)=y at c d f h hcall E
   cases hq:p y with
   |true=>
    rw[hq]at hcall;go_wp2_with (fail);refine hcall.mono ?_;rintro e w' ⟨rfl,hb'⟩;clear hcall
    dsimp only
    go_wp2_with (fail);go_ret;exact⟨by rw[E.1,if_pos hq];rfl,hb'⟩
   |false=>
    rw[hq]at hcall;go_wp2_with (fail);refine hcall.mono ?_;rintro e w' ⟨rfl,hb'⟩;clear hcall
    dsimp only
    go_wp2_with (fail);go_roundg (b.length-(kk+1))
    case measure=>omega
    case rel=>exact⟨kk+1,by omega,by omega,by go_num,⟨hb'⟩,⟨by rw[E.1,hq];rfl⟩⟩
  ·have hltz: ¬(kk:Int)<(b.length:Int):=by omega
   have hkn:kk=b.length:=by omega
   have E:Aside0 (Go.Proofs.YtopchlafmfgpnaaGreat.Hnd.fidx p b 0= -1):=⟨by rw[A.1,hkn,List.drop_length];rfl⟩;clear A;subst hkn;go_wp2;go_ret;exact⟨by rw[E.1];rfl,BW.1⟩
theorem impl_FindPath.pred(b:Int)(B0:Nat)(w:World)(hB0:B0<w.heap.size)(hcB0:w.cell? ⟨B0,0,none⟩=some (.int .i64 b)):
  ∀(W:World) (x:S76),Below w.heap.size w W→Calls Tryz.prog 102 (#[.agg #[.int .i64 x.f0,.int .i64 x.f1,.int .i64 x.f2,.int .i64 x.f3]]++#[.pointer (some ⟨B0,0,none⟩)]) W fun e w'=>e= .returned (.bool (x.f0==b))∧Below w.heap.size w w':=fun W x hb=>by
 have cB0:W.cell? ⟨B0,0,none⟩=some (.int .i64 b):=(hb.cell (p:=⟨B0,0,none⟩) hB0).trans hcB0;have lB0:B0<W.heap.size:=Nat.lt_of_lt_of_le hB0 hb.size;have nB0:B0≠W.heap.size:=by omega
 have hB2:=S.a hb;clear hb hcB0
 show Calls Tryz.prog 102 #[.agg #[.int .i64 x.f0,.int .i64 x.f1,.int .i64 x.f2,.int .i64 x.f3],.pointer (some ⟨B0,0,none⟩)] W _
 go_enter Tryz.func102,Tryz.ntmps102;go_wp2;go_ret;exact⟨by first|rfl|simp,hB2.1.alloc hB2.1.size _⟩
def impl_FindPath.f(a:List (S76))(b:Int):Option (Int):=some (Go.Proofs.YtopchlafmfgpnaaGreat.Hnd.fidx (fun x:S76=>x.f0==b) a 0)
set_option maxHeartbeats 8000000 in
theorem impl_FindPath.calls(g:Option Addr)(i:Nat)(b:List (S76))(c:Int)(r:Int)(w:World)(d:Kd.C k76 w g b.length b)(j:b.length≤i)(h:impl_FindPath.f b c=some r):
  Calls Tryz.prog 69 #[.slice g b.length i,.int .i64 c] w fun e w'=>e= .returned (.int .i64 r)∧Below w.heap.size w w':=by
 obtain rfl:=Option.some.inj h;clear h;have eg: ∀args w,(callFunc 102 args).run Tryz.prog w= .ok (.enter 102 args) w:=Go.Proofs.YtopchlafmfgpnaaGreat.Hnd.enters_fn Tryz.func102 (by kernel_rfl) rfl;have hB1:Below w.heap.size w (w.alloc (.cells #[.int .i64 c] 3)):=((Below.refl _ w).alloc (Nat.le_refl _) _);have hcon:=impl_FindPath.idx (fun x:S76=>x.f0==c) 102 #[.pointer (some ⟨w.heap.size,0,none⟩)] eg g i b (w.alloc (.cells #[.int .i64 c] 3)) (impl_FindPath.pred c w.heap.size _ (by simp) (by simp)) (Kd.C_below d hB1) j;generalize Go.Proofs.YtopchlafmfgpnaaGreat.Hnd.fidx (fun x:S76=>x.f0==c) b 0=r at hcon⊢;clear d eg;have k:=S.a hB1;clear hB1;go_enter Tryz.func69,Tryz.ntmps69;go_wp2_with (fail);refine hcon.mono ?_;rintro e w' ⟨rfl,hb'⟩;clear hcon
 dsimp only
 go_wp2_with (fail);go_ret;exact⟨rfl,k.1.trans (hb'.mono (by simp))⟩
def impl_Interleave.l0:Nat→Int→Int→Int→Int→List Int→Int→Int→Option (Bool)
 |0,_,_,_,_,_,_,_=>none
 |k+1,b,d,e,g,c,h,a=>if a<h then(if 0≤a then(if a<(c.length:Int)then((impl_InRange.f (rd c a) 0 7).bind fun i=>(if i=true then(impl_Interleave.l0 k b d e g c h (wrap64 (a+1)))else(some false)))else(none))else(none))else(if b=d then(some false)else(if b=e then(some false)else(if b=g then(some false)else(if d=e then(some false)else(if d=g then(some false)else(if e=g then(some false)else(some ((decide ((Int.tmod (wrap64 ((wrap64 (e-b))+8)) 8)<(Int.tmod (wrap64 ((wrap64 (d-b))+8)) 8))) !=(decide ((Int.tmod (wrap64 ((wrap64 (g-b))+8)) 8)<(Int.tmod (wrap64 ((wrap64 (d-b))+8)) 8)))))))))))
def impl_Interleave.f(k:Nat)(b:Int)(c:Int)(d:Int)(e:Int):Option (Bool):=(some (([b,c,d,e]:List Int):List Int)).bind fun a=>(impl_Interleave.l0 k b c d e a (a.length:Int) 0)
theorem impl_Interleave.mono_l: ∀k,(∀b c d e f g i,LeO (impl_Interleave.l0 k b c d e f g i) (impl_Interleave.l0 (k+1) b c d e f g i))
 |0=>fun _ _ _ _ _ _ _ r h=>by simp[impl_Interleave.l0]at h
 |k+1=>by
  have a:=impl_Interleave.mono_l k
  ·intro b c d e f g i
   unfold impl_Interleave.l0
   repeat' first
   |(with_reducible exact a _ _ _ _ _ _ _)
   |(with_reducible exact LeO.refl _)
   |(with_reducible exact LeO.none _)
   |(with_reducible refine LeO.ite ?_ ?_)
   |(with_reducible refine LeO.bind ?_ (fun _=>?_))
   |exact a _ _ _ _ _ _ _
   |exact LeO.none _
   |refine LeO.ite ?_ ?_
   |refine LeO.bind ?_ (fun _=>?_)
theorem impl_Interleave.mono: ∀b c d e k,LeO (impl_Interleave.f k b c d e) (impl_Interleave.f (k+1) b c d e):=by
 intro b c d e k;have a:=impl_Interleave.mono_l k
 unfold impl_Interleave.f
 repeat' first
   |(with_reducible exact a _ _ _ _ _ _ _)
   |(with_reducible exact LeO.refl _)
   |(with_reducible exact LeO.none _)
   |(with_reducible refine LeO.ite ?_ ?_)
   |(with_reducible refine LeO.bind ?_ (fun _=>?_))
   |exact a _ _ _ _ _ _ _
   |exact LeO.none _
   |refine LeO.ite ?_ ?_
   |refine LeO.bind ?_ (fun _=>?_)
theorem impl_Interleave.calls(k:Nat)(d:Int)(g:Int)(i:Int)(j:Int)(r:Bool)(w:World)(h:impl_Interleave.f k d g i j=some r):
  Calls Tryz.prog 103 #[.int .i64 d,.int .i64 g,.int .i64 i,.int .i64 j] w fun e w'=>e= .returned (.bool r)∧Below w.heap.size w w':=by
 have HB:=S.a (Below.refl w.heap.size w);have H:((some (([d,g,i,j]:List Int):List Int)).bind fun c=>(impl_Interleave.l0 k d g i j c (c.length:Int) 0))=some r:=h;clear h;obtain⟨c,n⟩: ∃y_:List Int,y_=(([d,g,i,j]:List Int)):=⟨_,rfl⟩;have hY_:=n;replace H:(impl_Interleave.l0 k d g i j c (c.length:Int) 0)=some r:=S.rh;clear hY_;have x:=S.a n;clear n;have H':=S.a H;clear H;go_enter Tryz.func103,Tryz.ntmps103;go_wp2_with (first|((with_reducible refine gate_dst (N:=16) rfl ?_);refine Kd.R_lit (Kd.int .i64) _ 3 ?hg (N:=16) ?hd (xs:=([d,g,i,j]:List Int)) (inner:=[.int .i64 d,.int .i64 g,.int .i64 i,.int .i64 j]) (ok:=fun _=>True) (okp:=fun _=>True) ?hr ?hp (fun _ hk=>hk) trivial (Below.refl _ _) (Nat.le_refl _) (by simp) ?_;(case hd=>rfl);(case hg=>rfl);(case hr=>first|(go_simp;done)|(go_simp;rfl));(case hp=>exact(Reps.one (show Kd.M (Kd.int .i64) _ _ _ d [.int .i64 d]from rfl) (Reps.one (show Kd.M (Kd.int .i64) _ _ _ g [.int .i64 g]from rfl) (Reps.one (show Kd.M (Kd.int .i64) _ _ _ i [.int .i64 i]from rfl) (Reps.one (show Kd.M (Kd.int .i64) _ _ _ j [.int .i64 j]from rfl) (Reps.none _ _))))));intro ag w5 y hb hg_ hnew_;clear hg_ hnew_;(first|rw[←x.1]at y|(simp only[Int.reduceToNat]at y;rw[←x.1]at y));have z:=S.lwA y;replace HB:=S.sA hb;clear hb y;obtain⟨ab,ac,ad⟩:=Kd.R_slice z.1;subst ad));go_loopg [18] k (fun kq ae w'=> ∃(b:Int),ae= .int .i64 b∧Aside0 (impl_Interleave.l0 kq d g i j c (c.length:Int) b=some r)∧Aside0 (kq≤k)∧Aside0 (Kd.R (Kd.int .i64) 3 w' w.heap.size (fun _=>True) (.slice ab c.length ac) c)∧Aside0 (Below w.heap.size w w'))
 case atStart=>exact⟨(0),S.eA,H',⟨Nat.le_refl _⟩,⟨S.uR z.1⟩,⟨S.bA⟩⟩
 case round=>
  clear H';obtain⟨b,rfl,HA,Y,o,HB⟩:=hrel
  cases gk with
  |zero=>exact absurd HA.1 (by simp[impl_Interleave.l0])
  |succ k1=>
   have H:=HA.1;clear HA;simp only[impl_Interleave.l0]at H;replace H:=S.dc H;rcases H with⟨H,Z⟩|⟨H,Z⟩
   ·by_cases c9:0≤b
    ·rw[if_pos c9]at H;have ah:decide (0≤b)=true:=decide_eq_true c9;clear c9
     by_cases C:b<(c.length:Int)
     ·rw[if_pos C]at H;have af:decide (b<(c.length:Int))=true:=decide_eq_true C;clear C;replace H:=S.bd H;obtain⟨_,aa,H⟩:=H;(try dsimp only at H);replace H:=S.db H;rcases H with⟨rfl,H⟩|⟨rfl,H⟩
      ·have H':=S.a H;clear H;have l:0≤(b:Int):=S.oD;have m:b<(c.length:Int):=S.oD;obtain⟨D,A,B⟩:=Kd.at_int (Kd.R_reads' o.1).2.2 b l m;cases A;replace l:=eq_true l;replace m:=eq_true m;go_wp2_with (first|((with_reducible refine gate_callee (f:=66) rfl ?_);refine S.gL (some 23) Tryz.func66 #[.int .i64 (rd c b),.int .i64 0,.int .i64 7] ?_;(with_reducible refine(impl_InRange.calls (rd c b) 0 7 true _ aa.1).mono ?_);rintro e w' ⟨rfl,⟨nd,rfl⟩⟩;refine⟨_,rfl,?_⟩));go_roundg k1
       case measure=>have:=Y.1;omega
       case rel=>exact⟨(wrap64 (b+1)),S.eA,H',⟨by have:=Y.1;omega⟩,⟨S.uR o.1⟩,⟨S.bA⟩⟩
      ·obtain rfl:=Option.some.inj H;have l:0≤(b:Int):=S.oD;have m:b<(c.length:Int):=S.oD;obtain⟨D,A,B⟩:=Kd.at_int (Kd.R_reads' o.1).2.2 b l m;cases A;replace l:=eq_true l;replace m:=eq_true m;go_wp2_with (first|((with_reducible refine gate_callee (f:=66) rfl ?_);refine S.gL (some 23) Tryz.func66 #[.int .i64 (rd c b),.int .i64 0,.int .i64 7] ?_;(with_reducible refine(impl_InRange.calls (rd c b) 0 7 false _ aa.1).mono ?_);rintro e w' ⟨rfl,⟨nd,rfl⟩⟩;refine⟨_,rfl,?_⟩));go_ret;exact⟨S.eW,S.bA⟩
     ·rw[if_neg C]at H;exact absurd H (by simp)
    ·rw[if_neg c9]at H;exact absurd H (by simp)
   ·by_cases p:d=g
    ·rw[if_pos p]at H;have E:(d==g)=true:=beq_iff_eq.mpr p;have F:(d !=g)=false:=bne_eq_false_iff_eq.mpr p;clear p;obtain rfl:=Option.some.inj H;go_wp2;go_ret;exact⟨S.eW,S.bA⟩
    ·rw[if_neg p]at H;have E:(d==g)=false:=beq_eq_false_iff_ne.mpr p;have F:(d !=g)=true:=bne_iff_ne.mpr p
     by_cases q:d=i
     ·rw[if_pos q]at H;have G:(d==i)=true:=beq_iff_eq.mpr q;have I:(d !=i)=false:=bne_eq_false_iff_eq.mpr q;clear q;obtain rfl:=Option.some.inj H;go_wp2;go_ret;exact⟨S.eW,S.bA⟩
     ·rw[if_neg q]at H;have G:(d==i)=false:=beq_eq_false_iff_ne.mpr q;have I:(d !=i)=true:=bne_iff_ne.mpr q
      by_cases s:d=j
      ·rw[if_pos s]at H;have J:(d==j)=true:=beq_iff_eq.mpr s;have L:(d !=j)=false:=bne_eq_false_iff_eq.mpr s;clear s;obtain rfl:=Option.some.inj H;go_wp2;go_ret;exact⟨S.eW,S.bA⟩
      ·rw[if_neg s]at H;have J:(d==j)=false:=beq_eq_false_iff_ne.mpr s;have L:(d !=j)=true:=bne_iff_ne.mpr s
       by_cases t:g=i
       ·rw[if_pos t]at H;have O:(g==i)=true:=beq_iff_eq.mpr t;have T:(g !=i)=false:=bne_eq_false_iff_eq.mpr t;clear t;obtain rfl:=Option.some.inj H;go_wp2;go_ret;exact⟨S.eW,S.bA⟩
       ·rw[if_neg t]at H;have O:(g==i)=false:=beq_eq_false_iff_ne.mpr t;have T:(g !=i)=true:=bne_iff_ne.mpr t
        by_cases u:g=j
        ·rw[if_pos u]at H;have U:(g==j)=true:=beq_iff_eq.mpr u;have V:(g !=j)=false:=bne_eq_false_iff_eq.mpr u;clear u;obtain rfl:=Option.some.inj H;go_wp2;go_ret;exact⟨S.eW,S.bA⟩
        ·rw[if_neg u]at H;have U:(g==j)=false:=beq_eq_false_iff_ne.mpr u;have V:(g !=j)=true:=bne_iff_ne.mpr u
         by_cases v:i=j
         ·rw[if_pos v]at H;have W:(i==j)=true:=beq_iff_eq.mpr v;have X:(i !=j)=false:=bne_eq_false_iff_eq.mpr v;clear v;obtain rfl:=Option.some.inj H;go_wp2;go_ret;exact⟨S.eW,S.bA⟩
         ·rw[if_neg v]at H;have W:(i==j)=false:=beq_eq_false_iff_ne.mpr v;have X:(i !=j)=true:=bne_iff_ne.mpr v;obtain rfl:=Option.some.inj H;go_wp2;go_ret;exact⟨S.eW,S.bA⟩
def impl_InPlace.f(b:Int):Option (Int):=(impl_InRange.f b 0 3).bind fun a=>(if a=true then(some (wrap64 (2*b)))else(some (-1)))
theorem impl_InPlace.calls(a:Int)(r:Int)(w:World)(h:impl_InPlace.f a=some r):
  Calls Tryz.prog 104 #[.int .i64 a] w fun e w'=>e= .returned (.int .i64 r)∧Drawn0 w w':=by
 have H:((impl_InRange.f a 0 3).bind fun b=>(if b=true then(some (wrap64 (2*a)))else(some (-1))))=some r:=h;clear h;replace H:=S.bd H;obtain⟨b,c,H⟩:=H;(try dsimp only at H);replace H:=S.db H;rcases H with⟨rfl,H⟩|⟨rfl,H⟩
 ·obtain rfl:=Option.some.inj H;go_enter Tryz.func104,Tryz.ntmps104;go_wp2_with (first|((with_reducible refine gate_callee (f:=66) rfl ?_);refine S.gL (some 4) Tryz.func66 #[.int .i64 a,.int .i64 0,.int .i64 3] ?_;(with_reducible refine(impl_InRange.calls a 0 3 true _ c.1).mono ?_);rintro e w' ⟨rfl,⟨nd,rfl⟩⟩;refine⟨_,rfl,?_⟩));go_ret;exact⟨S.eA,by repeat(first|exact Drawn0.refl _|apply Drawn0.step)⟩
 ·obtain rfl:=Option.some.inj H;go_enter Tryz.func104,Tryz.ntmps104;go_wp2_with (first|((with_reducible refine gate_callee (f:=66) rfl ?_);refine S.gL (some 4) Tryz.func66 #[.int .i64 a,.int .i64 0,.int .i64 3] ?_;(with_reducible refine(impl_InRange.calls a 0 3 false _ c.1).mono ?_);rintro e w' ⟨rfl,⟨nd,rfl⟩⟩;refine⟨_,rfl,?_⟩));go_ret;exact⟨S.eA,by repeat(first|exact Drawn0.refl _|apply Drawn0.step)⟩
def impl_OutPlace.f(b:Int):Option (Int):=(impl_InRange.f b 0 3).bind fun a=>(if a=true then(some (wrap64 ((wrap64 (2*b))+1)))else(some (-1)))
theorem impl_OutPlace.calls(a:Int)(r:Int)(w:World)(h:impl_OutPlace.f a=some r):
  Calls Tryz.prog 105 #[.int .i64 a] w fun e w'=>e= .returned (.int .i64 r)∧Drawn0 w w':=by
 have H:((impl_InRange.f a 0 3).bind fun b=>(if b=true then(some (wrap64 ((wrap64 (2*a))+1)))else(some (-1))))=some r:=h;clear h;replace H:=S.bd H;obtain⟨b,c,H⟩:=H;(try dsimp only at H);replace H:=S.db H;rcases H with⟨rfl,H⟩|⟨rfl,H⟩
 ·obtain rfl:=Option.some.inj H;go_enter Tryz.func105,Tryz.ntmps105;go_wp2_with (first|((with_reducible refine gate_callee (f:=66) rfl ?_);refine S.gL (some 4) Tryz.func66 #[.int .i64 a,.int .i64 0,.int .i64 3] ?_;(with_reducible refine(impl_InRange.calls a 0 3 true _ c.1).mono ?_);rintro e w' ⟨rfl,⟨nd,rfl⟩⟩;refine⟨_,rfl,?_⟩));go_ret;exact⟨S.eA,by repeat(first|exact Drawn0.refl _|apply Drawn0.step)⟩
 ·obtain rfl:=Option.some.inj H;go_enter Tryz.func105,Tryz.ntmps105;go_wp2_with (first|((with_reducible refine gate_callee (f:=66) rfl ?_);refine S.gL (some 4) Tryz.func66 #[.int .i64 a,.int .i64 0,.int .i64 3] ?_;(with_reducible refine(impl_InRange.calls a 0 3 false _ c.1).mono ?_);rintro e w' ⟨rfl,⟨nd,rfl⟩⟩;refine⟨_,rfl,?_⟩));go_ret;exact⟨S.eA,by repeat(first|exact Drawn0.refl _|apply Drawn0.step)⟩
def impl_Conflict.j0:Nat→Bool→Int→Int→Int→Int→Int→Int→Int→Int→Option (Bool)
 |0,_,_,_,_,_,_,_,_,_=>none
 |k+1,u,h,e,a,c,i,g,b,d=>if u=true then(some false)else(if e=2 then(if b=a then(some true)else(some (d==a)))else(if g=2 then(if a=b then(some true)else(some (c==b)))else(if a=b then((impl_InPlace.f a).bind fun j=>((impl_OutPlace.f c).bind fun l=>((impl_InPlace.f b).bind fun m=>((impl_OutPlace.f d).bind fun n=>((impl_Interleave.f k j l m n).bind fun o=>(some o))))))else(if c=d then(some true)else((impl_InPlace.f a).bind fun p=>((impl_OutPlace.f c).bind fun q=>((impl_InPlace.f b).bind fun r=>((impl_OutPlace.f d).bind fun s=>((impl_Interleave.f k p q r s).bind fun t=>(some t))))))))))
def impl_Conflict.f(k:Nat)(c:Int)(a:Int)(d:Int)(e:Int)(g:Int)(b:Int)(h:Int)(i:Int):Option (Bool):=(impl_IsPath.f c a d e).bind fun j=>(if j=true then((impl_IsPath.f g b h i).bind fun l=>(if l=true then(if a=2 then(impl_Conflict.j0 k (b==2) c a d e g b h i)else(impl_Conflict.j0 k false c a d e g b h i))else(impl_Conflict.j0 k true c a d e g b h i)))else(impl_Conflict.j0 k true c a d e g b h i))
def impl_Conflict.T7:Bool×List (List Nat×List Nat):=(true,[([],[]),([0],[0]),([],[]),([2],[2]),([1,3],[1,3]),([4],[4]),([5],[5]),([6,5],[5,6]),([5],[5]),([8,5],[5,8]),([7,9,5],[5,7,9]),([5,10],[5,10]),([11,5],[11]),([12],[12]),([13,12],[12,13]),([14,12,12],[12,14]),([12],[12]),([16,12],[12,16]),([17,15,12],[12,17]),([12],[12]),([19,12],[12,19]),([20,18,12],[12,20]),([12],[12]),([22,12],[12,22]),([23,21,12],[12,23]),([15,18,21,24,24,12],[12,15,18,21,24]),([12,25],[12,25]),([26,25,0,1,2,3,4,5,6,7,8,9,10,11,12,13,14,15,16,17,18,19,20,21,22,23,24,25,26],[26])])
def impl_Conflict.B7:List Nat:=[0,1,0,4,15,31,63,127,63,319,1023,2047,4095,8191,16383,32767,8191,73727,262143,8191,532479,2097151,8191,4202495,16777215,33554431,67108863,134217727]
theorem impl_Conflict.tab7:rtab .any (opsOf Tryz.f71 7)=impl_Conflict.T7:=by kernel_rfl
theorem impl_Conflict.bits7:waitsOk impl_Conflict.T7.2 impl_Conflict.B7=true:=by kernel_rfl
theorem impl_Conflict.calls(k:Nat)(q:Int)(l:Int)(d:Int)(m:Int)(s:Int)(p:Int)(g:Int)(o:Int)(r:Bool)(w:World)(h:impl_Conflict.f k q l d m s p g o=some r):
  Calls Tryz.prog 71 #[.agg #[.int .i64 q,.int .i64 l,.int .i64 d,.int .i64 m],.agg #[.int .i64 s,.int .i64 p,.int .i64 g,.int .i64 o]] w fun e w'=>e= .returned (.bool r)∧Below w.heap.size w w':=by
 have:=Tryz.underlying76;have HB:=S.a (Below.refl w.heap.size w);have H:((impl_IsPath.f q l d m).bind fun R=>(if R=true then((impl_IsPath.f s p g o).bind fun T=>(if T=true then(if l=2 then(impl_Conflict.j0 k (p==2) q l d m s p g o)else(impl_Conflict.j0 k false q l d m s p g o))else(impl_Conflict.j0 k true q l d m s p g o)))else(impl_Conflict.j0 k true q l d m s p g o)))=some r:=h;clear h;have U:=S.a H;clear H;go_enter Tryz.func71,Tryz.ntmps71;go_upto_region 1 with(first|((with_reducible refine gate_dst (N:=2) rfl ?_);refine S.bx 2 (cs:=#[.int .i64 q,.int .i64 l,.int .i64 d,.int .i64 m]) (t:=76) ?_;intro V hg w4 hbox hb;have b:=S.a hbox;have:=S.geA hg;have:=S.geA hg;replace HB:=S.sA hb;clear hb hbox hg)|((with_reducible refine gate_dst (N:=3) rfl ?_);refine S.bx 3 (cs:=#[.int .i64 s,.int .i64 p,.int .i64 g,.int .i64 o]) (t:=76) ?_;intro W hg w5 hbox hb;have c:=S.a hbox;have:=S.geG hg;have:=S.geG hg;replace HB:=S.sG hb;have i:=S.nl hg b;have j:=S.ng hg b;replace b:=S.kb b hb;clear hb hbox hg));(try simp only[Act.put,List.setIfInBounds_toArray,List.set_cons_zero,List.set_cons_succ]);go_cut [22] (fun an wc=> ∃(kq:Nat) (v:Bool),an= .bool v∧Aside0 (impl_Conflict.j0 kq v q l d m s p g o=some r)∧Aside0 (kq≤k)∧Aside0 (wc.heap[V]?=some (.cells #[.int .i64 q,.int .i64 l,.int .i64 d,.int .i64 m] 76 (0,0)))∧Aside0 (wc.heap[W]?=some (.cells #[.int .i64 s,.int .i64 p,.int .i64 g,.int .i64 o] 76 (0,0)))∧Aside0 (Below w.heap.size w wc))
 case first=>
  have H:=U.1;clear U;replace H:=S.bd H;obtain⟨R,A6,H⟩:=H;(try dsimp only at H);replace H:=S.db H;rcases H with⟨rfl,H⟩|⟨rfl,H⟩
  ·replace H:=S.bd H;obtain⟨T,A8,H⟩:=H;(try dsimp only at H);replace H:=S.db H;rcases H with⟨rfl,H⟩|⟨rfl,H⟩
   ·by_cases x:l=2
    ·rw[if_pos x]at H;have u:(l==2)=true:=beq_iff_eq.mpr x;have X:(l !=2)=false:=bne_eq_false_iff_eq.mpr x;clear x;(first|rw[u]|(simp only[i64_w,i32_w];rw[u])|skip);have H':=S.a H;clear H;have:=i.1;have:=j.1;obtain⟨_,_,_,_,_,_,_,_⟩:=S.c4 b.1;go_wp2_with (first|((with_reducible refine gate_callee (f:=100) rfl ?_);refine S.gL (some 6) Tryz.func100 #[.agg #[.int .i64 q,.int .i64 l,.int .i64 d,.int .i64 m]] ?_;(with_reducible refine(impl_IsPath.calls q l d m true _ A6.1).mono ?_);rintro e a1 ⟨rfl,hb⟩;refine⟨_,rfl,?_⟩;replace b:=S.kb b hb;replace c:=S.kb c hb;replace HB:=S.sG hb;(try clear hb);obtain⟨_,_,_,_,_,_,_,_⟩:=S.c4 c.1)|(go_at_call 100;(with_reducible refine(impl_IsPath.calls s p g o true _ A8.1).mono ?_);rintro e a2 ⟨rfl,hb⟩;replace b:=S.kb b hb;replace c:=S.kb c hb;replace HB:=S.sG hb;(try clear hb);obtain⟨_,_,_,_,_,_,_,_⟩:=S.c4 b.1;obtain⟨_,_,_,_,_,_,_,_⟩:=S.c4 c.1));go_meet
     case rel=>exact⟨_,((p==2)),S.eA,H',S.le,⟨S.uB b.1⟩,⟨S.uB c.1⟩,⟨S.bG⟩⟩
    ·rw[if_neg x]at H;have u:(l==2)=false:=beq_eq_false_iff_ne.mpr x;have X:(l !=2)=true:=bne_iff_ne.mpr x;(first|rw[u]|(simp only[i64_w,i32_w];rw[u])|skip);have H':=S.a H;clear H;have:=i.1;have:=j.1;obtain⟨_,_,_,_,_,_,_,_⟩:=S.c4 b.1;go_wp2_with (first|((with_reducible refine gate_callee (f:=100) rfl ?_);refine S.gL (some 6) Tryz.func100 #[.agg #[.int .i64 q,.int .i64 l,.int .i64 d,.int .i64 m]] ?_;(with_reducible refine(impl_IsPath.calls q l d m true _ A6.1).mono ?_);rintro e a3 ⟨rfl,hb⟩;refine⟨_,rfl,?_⟩;replace b:=S.kb b hb;replace c:=S.kb c hb;replace HB:=S.sG hb;(try clear hb);obtain⟨_,_,_,_,_,_,_,_⟩:=S.c4 c.1)|(go_at_call 100;(with_reducible refine(impl_IsPath.calls s p g o true _ A8.1).mono ?_);rintro e a4 ⟨rfl,hb⟩;replace b:=S.kb b hb;replace c:=S.kb c hb;replace HB:=S.sG hb;(try clear hb);obtain⟨_,_,_,_,_,_,_,_⟩:=S.c4 b.1));go_meet
     case rel=>exact⟨_,(false),S.eA,H',S.le,⟨S.uB b.1⟩,⟨S.uB c.1⟩,⟨S.bG⟩⟩
   ·have H':=S.a H;clear H;have:=i.1;have:=j.1;obtain⟨_,_,_,_,_,_,_,_⟩:=S.c4 b.1;go_wp2_with (first|((with_reducible refine gate_callee (f:=100) rfl ?_);refine S.gL (some 6) Tryz.func100 #[.agg #[.int .i64 q,.int .i64 l,.int .i64 d,.int .i64 m]] ?_;(with_reducible refine(impl_IsPath.calls q l d m true _ A6.1).mono ?_);rintro e a5 ⟨rfl,hb⟩;refine⟨_,rfl,?_⟩;replace b:=S.kb b hb;replace c:=S.kb c hb;replace HB:=S.sG hb;(try clear hb);obtain⟨_,_,_,_,_,_,_,_⟩:=S.c4 c.1)|(go_at_call 100;(with_reducible refine(impl_IsPath.calls s p g o false _ A8.1).mono ?_);rintro e a6 ⟨rfl,hb⟩;replace b:=S.kb b hb;replace c:=S.kb c hb;replace HB:=S.sG hb;(try clear hb)));go_meet
    case rel=>exact⟨_,(true),S.eA,H',S.le,⟨S.uB b.1⟩,⟨S.uB c.1⟩,⟨S.bG⟩⟩
  ·have H':=S.a H;clear H;have:=i.1;have:=j.1;obtain⟨_,_,_,_,_,_,_,_⟩:=S.c4 b.1;go_wp2_with (first|((with_reducible refine gate_callee (f:=100) rfl ?_);refine S.gL (some 6) Tryz.func100 #[.agg #[.int .i64 q,.int .i64 l,.int .i64 d,.int .i64 m]] ?_;(with_reducible refine(impl_IsPath.calls q l d m false _ A6.1).mono ?_);rintro e a7 ⟨rfl,hb⟩;refine⟨_,rfl,?_⟩;replace b:=S.kb b hb;replace c:=S.kb c hb;replace HB:=S.sG hb;(try clear hb)));go_meet
   case rel=>exact⟨_,(true),S.eA,H',S.le,⟨S.uB b.1⟩,⟨S.uB c.1⟩,⟨S.bG⟩⟩
 case rest=>
  clear U;obtain⟨kq,v,rfl,HA,_,b,c,HB⟩:=hcut
  cases kq with
  |zero=>exact absurd HA.1 (by simp[impl_Conflict.j0])
  |succ ak=>
   have H:=HA.1;clear HA;simp only[impl_Conflict.j0]at H;replace H:=S.db H;rcases H with⟨rfl,H⟩|⟨rfl,H⟩
   ·obtain rfl:=Option.some.inj H;go_wp2;go_ret;exact⟨S.eW,S.bG⟩
   ·by_cases y:l=2
    ·rw[if_pos y]at H;have Y:(l==2)=true:=beq_iff_eq.mpr y;have Z:(l !=2)=false:=bne_eq_false_iff_eq.mpr y;clear y
     by_cases z:g=d
     ·rw[if_pos z]at H;have aa:(g==d)=true:=beq_iff_eq.mpr z;have ab:(g !=d)=false:=bne_eq_false_iff_eq.mpr z;clear z;obtain rfl:=Option.some.inj H;have:=i.1;have:=j.1;obtain⟨_,_,_,_,_,_,_,_⟩:=S.c4 b.1;obtain⟨_,_,_,_,_,_,_,_⟩:=S.c4 c.1;go_wp2;go_ret;exact⟨S.eW,S.bG⟩
     ·rw[if_neg z]at H;have aa:(g==d)=false:=beq_eq_false_iff_ne.mpr z;have ab:(g !=d)=true:=bne_iff_ne.mpr z;obtain rfl:=Option.some.inj H;have:=i.1;have:=j.1;obtain⟨_,_,_,_,_,_,_,_⟩:=S.c4 b.1;obtain⟨_,_,_,_,_,_,_,_⟩:=S.c4 c.1;go_wp2;go_ret;exact⟨S.eW,S.bG⟩
    ·rw[if_neg y]at H;have Y:(l==2)=false:=beq_eq_false_iff_ne.mpr y;have Z:(l !=2)=true:=bne_iff_ne.mpr y
     by_cases A:p=2
     ·rw[if_pos A]at H;have ac:(p==2)=true:=beq_iff_eq.mpr A;have ad:(p !=2)=false:=bne_eq_false_iff_eq.mpr A;clear A
      by_cases B:d=g
      ·rw[if_pos B]at H;have ae:(d==g)=true:=beq_iff_eq.mpr B;have af:(d !=g)=false:=bne_eq_false_iff_eq.mpr B;clear B;obtain rfl:=Option.some.inj H;have:=i.1;have:=j.1;obtain⟨_,_,_,_,_,_,_,_⟩:=S.c4 b.1;obtain⟨_,_,_,_,_,_,_,_⟩:=S.c4 c.1;go_wp2;go_ret;exact⟨S.eW,S.bG⟩
      ·rw[if_neg B]at H;have ae:(d==g)=false:=beq_eq_false_iff_ne.mpr B;have af:(d !=g)=true:=bne_iff_ne.mpr B;obtain rfl:=Option.some.inj H;have:=i.1;have:=j.1;obtain⟨_,_,_,_,_,_,_,_⟩:=S.c4 b.1;obtain⟨_,_,_,_,_,_,_,_⟩:=S.c4 c.1;go_wp2;go_ret;exact⟨S.eW,S.bG⟩
     ·rw[if_neg A]at H;have ac:(p==2)=false:=beq_eq_false_iff_ne.mpr A;have ad:(p !=2)=true:=bne_iff_ne.mpr A
      by_cases C:d=g
      ·rw[if_pos C]at H;have ag:(d==g)=true:=beq_iff_eq.mpr C;have ah:(d !=g)=false:=bne_eq_false_iff_eq.mpr C;clear C;replace H:=S.bd H;obtain⟨E,ao,H⟩:=H;(try dsimp only at H);replace H:=S.bd H;obtain⟨F,ap,H⟩:=H;(try dsimp only at H);replace H:=S.bd H;obtain⟨G,aq,H⟩:=H;(try dsimp only at H);replace H:=S.bd H;obtain⟨I,ar,H⟩:=H;(try dsimp only at H);replace H:=S.bd H;obtain⟨al,au,H⟩:=H;(try dsimp only at H);obtain rfl:=Option.some.inj H;have:=i.1;have:=j.1;obtain⟨_,_,_,_,_,_,_,_⟩:=S.c4 b.1;obtain⟨_,_,_,_,_,_,_,_⟩:=S.c4 c.1;try go_wp2
       replace b:=S.a (blk_drew b.1);replace c:=S.a (blk_drew c.1);replace HB:=S.a (below_drew1 HB.1);refine S.st (n:=28) (ds:=[]) (S.bs 268435456) (fun w_ h_=>have x_:=S.d4 (S.Q h_ b.1) (S.e4 (S.Q h_ c.1));x_) (fun hHeld=>?_);refine with_tabW impl_Conflict.tab7 impl_Conflict.bits7 (fun HT_ HW_=>?_);generalize wc.drew=a8 at b c HB hHeld⊢;refine S.pS 0 53 ?_;refine S.pS 2 55 ?_;refine S.tK 1 54 (S.bs 268435463) ?_;refine S.tK 3 56 (S.bs 268435471) ?_;refine S.pS 4 57 ?_;refine S.pS 5 58 ?_;refine S.pU 6 59 ?_;refine S.pU 7 60 ?_;refine S.pU 8 61 ?_;refine S.pU 9 62 ?_;refine S.pU 10 63 ?_;refine S.pS 11 64 ?_;refine S.pS 12 65 ?_;refine S.pS 13 66 ?_;refine S.pS 16 69 ?_;refine S.pS 19 72 ?_;refine S.pS 22 75 ?_;refine S.tK 14 67 (S.bs 273252351) ?_;refine S.tK 17 70 (S.bs 273383423) ?_;refine S.tK 20 73 (S.bs 274431999) ?_;refine S.tK 23 76 (S.bs 282820607) ?_;refine S.oN 15 68 (S.bs 282853375) (fun K hK=>?_);refine S.go Tryz.func104 #[.int .i64 d] ?_
       with_reducible refine(impl_InPlace.calls d E _ ao.1).mono ?_
       rintro e w' ⟨rfl,⟨nd,rfl⟩⟩;refine⟨_,rfl,?_⟩;refine hK.out _ _ (S.d4 b.1 (S.e4 c.1)) (fun hHeld=>?_);clear hK K;refine S.nm 68 ?_;refine S.oN 18 71 (S.bs 283115519) (fun K hK=>?_);refine S.go Tryz.func105 #[.int .i64 m] ?_
       with_reducible refine(impl_OutPlace.calls m F _ ap.1).mono ?_
       rintro e w' ⟨rfl,⟨nd,rfl⟩⟩;refine⟨_,rfl,?_⟩;refine hK.out _ _ (S.d4 b.1 (S.e4 c.1)) (fun hHeld=>?_);clear hK K;refine S.nm 71 ?_;refine S.oN 21 74 (S.bs 285212671) (fun K hK=>?_);refine S.go Tryz.func104 #[.int .i64 g] ?_
       with_reducible refine(impl_InPlace.calls g G _ aq.1).mono ?_
       rintro e w' ⟨rfl,⟨nd,rfl⟩⟩;refine⟨_,rfl,?_⟩;refine hK.out _ _ (S.d4 b.1 (S.e4 c.1)) (fun hHeld=>?_);clear hK K;refine S.nm 74 ?_;refine S.oN 24 77 (S.bs 301989887) (fun K hK=>?_);refine S.go Tryz.func105 #[.int .i64 o] ?_
       with_reducible refine(impl_OutPlace.calls o I _ ar.1).mono ?_
       rintro e w' ⟨rfl,⟨nd,rfl⟩⟩;refine⟨_,rfl,?_⟩;refine hK.out _ _ (S.d4 b.1 (S.e4 c.1)) (fun hHeld=>?_);clear hK K;refine S.nm 77 ?_;refine S.oN 25 78 (S.bs 335544319) (fun K hK=>?_);refine S.go Tryz.func103 #[.int .i64 E,.int .i64 F,.int .i64 G,.int .i64 I] ?_
       with_reducible refine(impl_Interleave.calls ak E F G I al _ au.1).mono ?_
       rintro e a9 ⟨rfl,hb⟩;refine⟨_,rfl,?_⟩;replace b:=S.kb b hb;replace c:=S.kb c hb;replace HB:=S.sG hb;(try clear hb);(try clear av);(try clear hk);(try clear hi);refine hK.out _ _ (S.d4 b.1 (S.e4 c.1)) (fun hHeld=>?_);clear hK K;refine S.nm 78 ?_;refine S.pS 26 79 ?_;refine S.pS 27 4 ?_;refine done_ (done_of HT_.1 (by kernel_rfl)) ?_;try go_wp2
       go_ret;exact⟨S.eW,S.bG⟩
      ·rw[if_neg C]at H;have ag:(d==g)=false:=beq_eq_false_iff_ne.mpr C;have ah:(d !=g)=true:=bne_iff_ne.mpr C
       by_cases D:m=o
       ·rw[if_pos D]at H;have ai:(m==o)=true:=beq_iff_eq.mpr D;have aj:(m !=o)=false:=bne_eq_false_iff_eq.mpr D;clear D;obtain rfl:=Option.some.inj H;have:=i.1;have:=j.1;obtain⟨_,_,_,_,_,_,_,_⟩:=S.c4 b.1;obtain⟨_,_,_,_,_,_,_,_⟩:=S.c4 c.1;try go_wp2
        replace b:=S.a (blk_drew b.1);replace c:=S.a (blk_drew c.1);replace HB:=S.a (below_drew1 HB.1);refine S.st (n:=28) (ds:=[]) (S.bs 268435456) (fun w_ h_=>have x_:=S.d4 (S.Q h_ b.1) (S.e4 (S.Q h_ c.1));x_) (fun hHeld=>?_);refine with_tabW impl_Conflict.tab7 impl_Conflict.bits7 (fun HT_ HW_=>?_);generalize wc.drew=aA at b c HB hHeld⊢;refine S.pS 0 53 ?_;refine S.pS 2 55 ?_;refine S.tK 1 54 (S.bs 268435463) ?_;refine S.tK 3 56 (S.bs 268435471) ?_;refine S.pS 4 57 ?_;refine S.pS 5 58 ?_;refine S.pS 6 59 ?_;refine S.pS 8 61 ?_;refine S.tK 7 60 (S.bs 268435967) ?_;refine S.tK 9 62 (S.bs 268436479) ?_;refine S.pS 10 63 ?_;refine S.pS 11 64 ?_;refine S.pS 12 65 ?_;refine S.pU 13 66 ?_;refine S.pU 14 67 ?_;refine S.pU 15 68 ?_;refine S.pU 16 69 ?_;refine S.pU 17 70 ?_;refine S.pU 18 71 ?_;refine S.pU 19 72 ?_;refine S.pU 20 73 ?_;refine S.pU 21 74 ?_;refine S.pU 22 75 ?_;refine S.pU 23 76 ?_;refine S.pU 24 77 ?_;refine S.pU 25 78 ?_;refine S.pS 26 79 ?_;refine S.pS 27 4 ?_;refine done_ (done_of HT_.1 (by kernel_rfl)) ?_;try go_wp2
        go_ret;exact⟨S.eW,S.bG⟩
       ·rw[if_neg D]at H;have ai:(m==o)=false:=beq_eq_false_iff_ne.mpr D;have aj:(m !=o)=true:=bne_iff_ne.mpr D;replace H:=S.bd H;obtain⟨J,aw,H⟩:=H;(try dsimp only at H);replace H:=S.bd H;obtain⟨L,ax,H⟩:=H;(try dsimp only at H);replace H:=S.bd H;obtain⟨M,ay,H⟩:=H;(try dsimp only at H);replace H:=S.bd H;obtain⟨O,az,H⟩:=H;(try dsimp only at H);replace H:=S.bd H;obtain⟨am,a0,H⟩:=H;(try dsimp only at H);obtain rfl:=Option.some.inj H;have:=i.1;have:=j.1;obtain⟨_,_,_,_,_,_,_,_⟩:=S.c4 b.1;obtain⟨_,_,_,_,_,_,_,_⟩:=S.c4 c.1;try go_wp2
        replace b:=S.a (blk_drew b.1);replace c:=S.a (blk_drew c.1);replace HB:=S.a (below_drew1 HB.1);refine S.st (n:=28) (ds:=[]) (S.bs 268435456) (fun w_ h_=>have x_:=S.d4 (S.Q h_ b.1) (S.e4 (S.Q h_ c.1));x_) (fun hHeld=>?_);refine with_tabW impl_Conflict.tab7 impl_Conflict.bits7 (fun HT_ HW_=>?_);generalize wc.drew=aB at b c HB hHeld⊢;refine S.pS 0 53 ?_;refine S.pS 2 55 ?_;refine S.tK 1 54 (S.bs 268435463) ?_;refine S.tK 3 56 (S.bs 268435471) ?_;refine S.pS 4 57 ?_;refine S.pS 5 58 ?_;refine S.pS 6 59 ?_;refine S.pS 8 61 ?_;refine S.tK 7 60 (S.bs 268435967) ?_;refine S.tK 9 62 (S.bs 268436479) ?_;refine S.pS 10 63 ?_;refine S.pS 11 64 ?_;refine S.pS 12 65 ?_;refine S.pS 13 66 ?_;refine S.pS 16 69 ?_;refine S.pS 19 72 ?_;refine S.pS 22 75 ?_;refine S.tK 14 67 (S.bs 273252351) ?_;refine S.tK 17 70 (S.bs 273383423) ?_;refine S.tK 20 73 (S.bs 274431999) ?_;refine S.tK 23 76 (S.bs 282820607) ?_;refine S.oN 15 68 (S.bs 282853375) (fun K hK=>?_);refine S.go Tryz.func104 #[.int .i64 d] ?_
        with_reducible refine(impl_InPlace.calls d J _ aw.1).mono ?_
        rintro e w' ⟨rfl,⟨nd,rfl⟩⟩;refine⟨_,rfl,?_⟩;refine hK.out _ _ (S.d4 b.1 (S.e4 c.1)) (fun hHeld=>?_);clear hK K;refine S.nm 68 ?_;refine S.oN 18 71 (S.bs 283115519) (fun K hK=>?_);refine S.go Tryz.func105 #[.int .i64 m] ?_
        with_reducible refine(impl_OutPlace.calls m L _ ax.1).mono ?_
        rintro e w' ⟨rfl,⟨nd,rfl⟩⟩;refine⟨_,rfl,?_⟩;refine hK.out _ _ (S.d4 b.1 (S.e4 c.1)) (fun hHeld=>?_);clear hK K;refine S.nm 71 ?_;refine S.oN 21 74 (S.bs 285212671) (fun K hK=>?_);refine S.go Tryz.func104 #[.int .i64 g] ?_
        with_reducible refine(impl_InPlace.calls g M _ ay.1).mono ?_
        rintro e w' ⟨rfl,⟨nd,rfl⟩⟩;refine⟨_,rfl,?_⟩;refine hK.out _ _ (S.d4 b.1 (S.e4 c.1)) (fun hHeld=>?_);clear hK K;refine S.nm 74 ?_;refine S.oN 24 77 (S.bs 301989887) (fun K hK=>?_);refine S.go Tryz.func105 #[.int .i64 o] ?_
        with_reducible refine(impl_OutPlace.calls o O _ az.1).mono ?_
        rintro e w' ⟨rfl,⟨nd,rfl⟩⟩;refine⟨_,rfl,?_⟩;refine hK.out _ _ (S.d4 b.1 (S.e4 c.1)) (fun hHeld=>?_);clear hK K;refine S.nm 77 ?_;refine S.oN 25 78 (S.bs 335544319) (fun K hK=>?_);refine S.go Tryz.func103 #[.int .i64 J,.int .i64 L,.int .i64 M,.int .i64 O] ?_
        with_reducible refine(impl_Interleave.calls ak J L M O am _ a0.1).mono ?_
        rintro e aC ⟨rfl,hb⟩;refine⟨_,rfl,?_⟩;replace b:=S.kb b hb;replace c:=S.kb c hb;replace HB:=S.sG hb;(try clear hb);(try clear av);(try clear hk);(try clear hi);refine hK.out _ _ (S.d4 b.1 (S.e4 c.1)) (fun hHeld=>?_);clear hK K;refine S.nm 78 ?_;refine S.pS 26 79 ?_;refine S.pS 27 4 ?_;refine done_ (done_of HT_.1 (by kernel_rfl)) ?_;try go_wp2
        go_ret;exact⟨S.eW,S.bG⟩
end Go.Proofs.YtopchlafmfgpnaaGreat.PFnExactStepPrio

