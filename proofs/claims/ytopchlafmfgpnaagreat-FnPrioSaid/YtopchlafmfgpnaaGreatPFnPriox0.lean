/- Printed by a program: what the Go functions compute (.f), and that the calls come to just that (.calls). -/
import Derived.Test.YtopchlafmfgpnaaGreatProg
import Derived.Below
import Derived.Deep.Draws
import Derived.Deep.AppendLies
import Derived.Maps.AppendAt
import Derived.OwnWalk
import Derived.Laws.BytesArg
import Derived.Laws.MakeOwn
import Derived.Laws.OwnMore
import Derived.Deep.OwnRows
import Derived.Tactics
import Derived.Lib.ConvBytes
import Derived.Laws.Slices
import Derived.WalkKit
import Derived.KernelRfl
import Derived.RowKit3
import Derived.Deep.LoopGhost
import Derived.Deep.QuietTactic
import Derived.BigQuiet
import Derived.WideLaws
import Derived.Deep.DeepCutAuto
import Derived.Deep.CutBlock
import Derived.Deep.RegionHeld3
import Derived.Laws.Rows
import Derived.Lib.AppendStr
import Derived.ArgAppend
import Derived.Laws.IdiomCopy
import Derived.OrdersHeld
import Derived.Laws.BitsLemmas
import Derived.RowKit
import Derived.Lib.LazyBuf
import Derived.Test.YtopchlafmfgpnaaGreatHand
import Derived.Test.YtopchlafmfgpnaaGreatIns
import Derived.Test.YtopchlafmfgpnaaGreatShort
import Derived.Test.YtopchlafmfgpnaaGreatWWords
import Derived.Test.YtopchlafmfgpnaaGreatWLast
import Derived.Test.YtopchlafmfgpnaaGreatWTab
import Derived.Test.YtopchlafmfgpnaaGreatWFour
import Derived.Test.YtopchlafmfgpnaaGreatWQPut
import Derived.Test.YtopchlafmfgpnaaGreatWApart
import Derived.Test.YtopchlafmfgpnaaGreatWArr
import Derived.Test.YtopchlafmfgpnaaGreatWZeros
import Derived.Test.YtopchlafmfgpnaaGreatWFoot
import Derived.Test.YtopchlafmfgpnaaGreatWKept
import Derived.Test.YtopchlafmfgpnaaGreatWShare
import Derived.Test.YtopchlafmfgpnaaGreatWN
import Derived.Test.YtopchlafmfgpnaaGreatWFootNe
import Derived.Test.YtopchlafmfgpnaaGreatWAt
import Derived.Test.YtopchlafmfgpnaaGreatWEqStruct
import Derived.Test.YtopchlafmfgpnaaGreatWRepsOne
import Derived.Test.YtopchlafmfgpnaaGreatWInv
import Derived.Test.YtopchlafmfgpnaaGreatWInvWords
import Derived.Test.YtopchlafmfgpnaaGreatWGuard
import Derived.Test.YtopchlafmfgpnaaGreatWNEv
import Derived.Test.YtopchlafmfgpnaaGreatWMore
import Derived.Test.YtopchlafmfgpnaaGreatSq
namespace Go.Proofs.YtopchlafmfgpnaaGreat.PFnPrio
open Go.RowKit Go.Proofs.YtopchlafmfgpnaaGreatW.PrintWords Go.Proofs.YtopchlafmfgpnaaGreatW.PrintLast Go.Proofs.YtopchlafmfgpnaaGreatW.PrintMore
attribute [local go_sem] max2_int min2_int max_two min_two max_three min_three max_four min_four
set_option linter.unusedVariables false
set_option linter.unusedSimpArgs false
set_option maxHeartbeats 8000000
set_option maxRecDepth 100000
def errW:Option Int→Value
 |none=> .nilIface
 |some c=> .iface 0 (.int .i64 c)
theorem errW_none:errW none= .nilIface:=rfl
theorem errW_some(c:Int):errW (some c)= .iface 0 (.int .i64 c):=rfl
theorem info3:(Tryz.prog.info? 3).map (fun i=>(i.zero,i.size,i.bytes))=some (some (.int .i64 0),1,8):=by kernel_rfl
theorem info23:(Tryz.prog.info? 23).map (fun i=>(i.zero,i.size,i.bytes))=some (some (.slice none 0 0),1,24):=by kernel_rfl
theorem info76:(Tryz.prog.info? 76).map (fun i=>(i.zero,i.size,i.bytes))=some (some (.agg #[(.int .i64 0),(.int .i64 0),(.int .i64 0),(.int .i64 0)]),4,32):=by kernel_rfl
theorem info81:(Tryz.prog.info? 81).map (fun i=>(i.zero,i.size,i.bytes))=some (some (.agg #[(.int .i64 0),(.int .i64 0)]),2,16):=by kernel_rfl
structure S76 where
 f0:Int
 f1:Int
 f2:Int
 f3:Int
def z76:S76:=⟨(0:Int),(0:Int),(0:Int),(0:Int)⟩
def k76:Kd S76:=Kd.iso (Kd.pair (Kd.int .i64) (Kd.pair (Kd.int .i64) (Kd.pair (Kd.int .i64) (Kd.int .i64)))) (fun x:S76=>(x.f0,x.f1,x.f2,x.f3))
theorem k76_open{w:World}{x:S76}{cs:List Value}(h:k76.K w x cs):cs=[.int .i64 x.f0,.int .i64 x.f1,.int .i64 x.f2,.int .i64 x.f3]:=by
 obtain⟨_,_,rfl,rfl,⟨_,_,rfl,rfl,⟨_,_,rfl,rfl,rfl⟩⟩⟩:=h;exact rfl
theorem k76_openM{w:World}{base:Nat}{ok:Nat→Prop}{x:S76}{cs:List Value}(h:k76.M w base ok x cs):cs=[.int .i64 x.f0,.int .i64 x.f1,.int .i64 x.f2,.int .i64 x.f3]:=by
 obtain⟨_,_,rfl,rfl,⟨_,_,rfl,rfl,⟨_,_,rfl,rfl,rfl⟩⟩⟩:=h;exact rfl
theorem k76_mkM(w:World)(base:Nat)(ok:Nat→Prop)(x:S76):k76.M w base ok x [.int .i64 x.f0,.int .i64 x.f1,.int .i64 x.f2,.int .i64 x.f3]:=⟨[.int .i64 x.f0],[.int .i64 x.f1,.int .i64 x.f2,.int .i64 x.f3],rfl,rfl,⟨[.int .i64 x.f1],[.int .i64 x.f2,.int .i64 x.f3],rfl,rfl,⟨[.int .i64 x.f2],[.int .i64 x.f3],rfl,rfl,rfl⟩⟩⟩
def rd_T76(xs:List S76)(i:Int):S76:=xs.getD i.toNat z76
theorem at_T76{w:World}{A:Option Addr}{n:Nat}{xs:List S76}(h:Kd.C k76 w A n xs)(i:Int)(b:0≤i)(d:i<n): ∃ad,A=some ad∧w.cell? (ad.add (i.toNat*4))=some (.int .i64 (rd_T76 xs i).f0)∧w.cell? ⟨(ad.add (i.toNat*4)).block,(ad.add (i.toNat*4)).off+1,none⟩=some (.int .i64 (rd_T76 xs i).f1)∧w.cell? ⟨(ad.add (i.toNat*4)).block,(ad.add (i.toNat*4)).off+2,none⟩=some (.int .i64 (rd_T76 xs i).f2)∧w.cell? ⟨(ad.add (i.toNat*4)).block,(ad.add (i.toNat*4)).off+3,none⟩=some (.int .i64 (rd_T76 xs i).f3):=by
 obtain⟨ad,c,e,_,hK,a⟩:=Kd.C_get h z76 i b d;have hc: ∀j u,c[j]?=some u→w.cell? (ad.add (i.toNat*4+j))=some u:=a;obtain rfl:=k76_open hK;exact⟨ad,e,hc 0 _ rfl,by rw[←add_field _ _ 1 (by omega)];exact hc 1 _ rfl,by rw[←add_field _ _ 2 (by omega)];exact hc 2 _ rfl,by rw[←add_field _ _ 3 (by omega)];exact hc 3 _ rfl⟩
structure S81 where
 f0:Int
 f1:Int
def z81:S81:=⟨(0:Int),(0:Int)⟩
def k81:Kd S81:=Kd.iso (Kd.pair (Kd.int .i64) (Kd.int .i64)) (fun x:S81=>(x.f0,x.f1))
theorem k81_open{w:World}{x:S81}{cs:List Value}(h:k81.K w x cs):cs=[.int .i64 x.f0,.int .i64 x.f1]:=by
 obtain⟨_,_,rfl,rfl,rfl⟩:=h;exact rfl
theorem k81_openM{w:World}{base:Nat}{ok:Nat→Prop}{x:S81}{cs:List Value}(h:k81.M w base ok x cs):cs=[.int .i64 x.f0,.int .i64 x.f1]:=by
 obtain⟨_,_,rfl,rfl,rfl⟩:=h;exact rfl
theorem k81_mkM(w:World)(base:Nat)(ok:Nat→Prop)(x:S81):k81.M w base ok x [.int .i64 x.f0,.int .i64 x.f1]:=⟨[.int .i64 x.f0],[.int .i64 x.f1],rfl,rfl,rfl⟩
def rd_T81(xs:List S81)(i:Int):S81:=xs.getD i.toNat z81
theorem at_T81{w:World}{A:Option Addr}{n:Nat}{xs:List S81}(h:Kd.C k81 w A n xs)(i:Int)(b:0≤i)(d:i<n): ∃ad,A=some ad∧w.cell? (ad.add (i.toNat*2))=some (.int .i64 (rd_T81 xs i).f0)∧w.cell? ⟨(ad.add (i.toNat*2)).block,(ad.add (i.toNat*2)).off+1,none⟩=some (.int .i64 (rd_T81 xs i).f1):=by
 obtain⟨ad,c,e,_,hK,a⟩:=Kd.C_get h z81 i b d;have hc: ∀j u,c[j]?=some u→w.cell? (ad.add (i.toNat*2+j))=some u:=a;obtain rfl:=k81_open hK;exact⟨ad,e,hc 0 _ rfl,by rw[←add_field _ _ 1 (by omega)];exact hc 1 _ rfl⟩
def rd_L4(xs:List (List Int))(i:Int):(List Int):=xs.getD i.toNat ([]:List Int)
theorem at_L4{w:World}{A:Option Addr}{n:Nat}{xs:List (List Int)}(h:Kd.C (Kd.slice 3 (Kd.int .i64)) w A n xs)(i:Int)(f:0≤i)(g:i<n): ∃ad a b,A=some ad∧w.cell? (ad.add i.toNat)=some (.slice a (rd_L4 xs i).length b)∧(rd_L4 xs i).length≤b∧(Kd.int .i64).C w a (rd_L4 xs i).length (rd_L4 xs i):=by
 obtain⟨ad,c,e,_,hK,d⟩:=Kd.C_get h ([]:List Int) i f g;have hc: ∀j u,c[j]?=some u→w.cell? (ad.add (i.toNat*1+j))=some u:=d;obtain⟨a,b,rfl,k,l⟩:=hK;exact⟨ad,a,b,e,by have hq:=hc 0 _ rfl;rwa [Nat.mul_one,Nat.add_zero]at hq,k,l⟩
theorem eqA34(d:Nat)(w:World)(a b:Int)(c e:Int):
  (Op.equalIn (d+2) 34 (.agg #[.int .i64 a,.int .i64 c]) (.agg #[.int .i64 b,.int .i64 e])).run Tryz.prog w= .ok (a==b&&(c==e)) w:=by
 refine eqA_of Tryz.underlying34 (by kernel_rfl) ?_;refine eqf_cons (by rfl) (by go_simp;rfl) (by go_simp;rfl) (by go_simp) ?_;exact eqf_last (by rfl) (by go_simp;rfl) (by go_simp;rfl) (by go_simp)
def slices_Index_int_int.l0:Nat→List Int→Int→Int→Int→Option (Int)
 |0,_,_,_,_=>none
 |k+1,b,c,d,a=>if a<d then(if 0≤a then(if a<(b.length:Int)then(if c=(rd b a)then(some a)else(slices_Index_int_int.l0 k b c d (wrap64 (a+1))))else(none))else(none))else(some (-1))
def slices_Index_int_int.f(k:Nat)(a:List Int)(b:Int):Option (Int):=slices_Index_int_int.l0 k a b (a.length:Int) 0
theorem slices_Index_int_int.calls(k:Nat)(z:Option Addr)(A:Nat)(g:List Int)(l:Int)(r:Int)(w:World)(o:Kd.C (Kd.int .i64) w z g.length g)(p:g.length≤A)(h:slices_Index_int_int.f k g l=some r):
  Calls Tryz.prog 106 #[.slice z g.length A,.int .i64 l] w fun e w'=>e= .returned (.int .i64 r)∧Drawn0 w w':=by
 have q:=S.a o;have:=S.a p;clear o p;have H:(slices_Index_int_int.l0 k g l (g.length:Int) 0)=some r:=h;clear h;have H':=S.a H;clear H;go_enter Tryz.func106,Tryz.ntmps106;go_wp2;go_loopg [8] k (fun kq E w'=> ∃(b:Int),E= .int .i64 b∧Aside0 (slices_Index_int_int.l0 kq g l (g.length:Int) b=some r)∧Aside0 (kq≤k)∧Drawn0 w w')
 case atStart=>exact⟨(0),S.eA,H',⟨Nat.le_refl _⟩,by repeat(first|exact Drawn0.refl _|apply Drawn0.step)⟩
 case round=>
  clear H';obtain⟨b,rfl,HA,s,⟨_,rfl⟩⟩:=hrel
  cases gk with
  |zero=>exact absurd HA.1 (by simp[slices_Index_int_int.l0])
  |succ k1=>
   have H:=HA.1;clear HA;simp only[slices_Index_int_int.l0]at H;replace H:=S.dc H;rcases H with⟨H,t⟩|⟨H,t⟩
   ·by_cases x:0≤b
    ·rw[if_pos x]at H;have B:decide (0≤b)=true:=decide_eq_true x;clear x
     by_cases y:b<(g.length:Int)
     ·rw[if_pos y]at H;have D:decide (b<(g.length:Int))=true:=decide_eq_true y;clear y
      by_cases m:l=(rd g b)
      ·rw[if_pos m]at H;have u:(l==(rd g b))=true:=beq_iff_eq.mpr m;have v:(l !=(rd g b))=false:=bne_eq_false_iff_eq.mpr m;clear m;obtain rfl:=Option.some.inj H;have c:0≤(b:Int):=S.oD;have d:b<(g.length:Int):=S.oD;obtain⟨n,i,j⟩:=Kd.at_int q.1 b c d;cases i;replace c:=eq_true c;replace d:=eq_true d;go_wp2;go_ret;exact⟨S.eA,by repeat(first|exact Drawn0.refl _|apply Drawn0.step)⟩
      ·rw[if_neg m]at H;have u:(l==(rd g b))=false:=beq_eq_false_iff_ne.mpr m;have v:(l !=(rd g b))=true:=bne_iff_ne.mpr m;have H':=S.a H;clear H;have c:0≤(b:Int):=S.oD;have d:b<(g.length:Int):=S.oD;obtain⟨n,i,j⟩:=Kd.at_int q.1 b c d;cases i;replace c:=eq_true c;replace d:=eq_true d;go_wp2;go_roundg k1
       case measure=>have:=s.1;omega
       case rel=>exact⟨(wrap64 (b+1)),S.eA,H',⟨by have:=s.1;omega⟩,by repeat(first|exact Drawn0.refl _|apply Drawn0.step)⟩
     ·rw[if_neg y]at H;exact absurd H (by simp)
    ·rw[if_neg x]at H;exact absurd H (by simp)
   ·obtain rfl:=Option.some.inj H;go_wp2;go_ret;exact⟨S.eA,by repeat(first|exact Drawn0.refl _|apply Drawn0.step)⟩
def slices_Contains_int_int.f(k:Nat)(b:List Int)(c:Int):Option (Bool):=(slices_Index_int_int.f k b c).bind fun a=>(some (decide (a≥0)))
theorem slices_Contains_int_int.calls(k:Nat)(j:Option Addr)(l:Nat)(c:List Int)(d:Int)(r:Bool)(w:World)(g:Kd.C (Kd.int .i64) w j c.length c)(i:c.length≤l)(h:slices_Contains_int_int.f k c d=some r):
  Calls Tryz.prog 72 #[.slice j c.length l,.int .i64 d] w fun e w'=>e= .returned (.bool r)∧Drawn0 w w':=by
 have m:=S.a g;have n:=S.a i;clear g i;have H:((slices_Index_int_int.f k c d).bind fun b=>(some (decide (b≥0))))=some r:=h;clear h;replace H:=S.bd H;obtain⟨b,o,H⟩:=H;(try dsimp only at H);obtain rfl:=Option.some.inj H;go_enter Tryz.func72,Tryz.ntmps72;go_wp2_with (first|((with_reducible refine S.gF 106 ?_);refine S.gQ 7 Tryz.func106 #[.slice j c.length l,.int .i64 d] (slices_Index_int_int.calls k _ _ c d b _ ?s1 n.1 o.1) ?_;(case s1=>exact S.cD m.1);rintro e w' ⟨rfl,⟨nd,rfl⟩⟩;refine⟨_,rfl,?_⟩));go_ret;exact⟨S.eA,by repeat(first|exact Drawn0.refl _|apply Drawn0.step)⟩
def slices_Equal_int_int.l0:Nat→List Int→List Int→Int→Int→Option (Bool)
 |0,_,_,_,_=>none
 |k+1,c,d,b,a=>if a<b then(if 0≤a then(if a<(c.length:Int)then(if a<(d.length:Int)then(if(rd c a)=(rd d a)then(slices_Equal_int_int.l0 k c d b (wrap64 (a+1)))else(some false))else(none))else(none))else(none))else(some true)
def slices_Equal_int_int.f(k:Nat)(a:List Int)(b:List Int):Option (Bool):=if(a.length:Int)=(b.length:Int)then(slices_Equal_int_int.l0 k a b (a.length:Int) 0)else(some false)
theorem slices_Equal_int_int.calls(k:Nat)(U:Option Addr)(V:Nat)(c:List Int)(W:Option Addr)(R:Nat)(d:List Int)(r:Bool)(w:World)(z:Kd.C (Kd.int .i64) w U c.length c)(A:c.length≤V)(B:Kd.C (Kd.int .i64) w W d.length d)(D:d.length≤R)(h:slices_Equal_int_int.f k c d=some r):
  Calls Tryz.prog 74 #[.slice U c.length V,.slice W d.length R] w fun e w'=>e= .returned (.bool r)∧Drawn0 w w':=by
 have E:=S.a z;have:=S.a A;clear z A;have F:=S.a B;have:=S.a D;clear B D;have H:(if(c.length:Int)=(d.length:Int)then(slices_Equal_int_int.l0 k c d (c.length:Int) 0)else(some false))=some r:=h;clear h
 by_cases m:(c.length:Int)=(d.length:Int)
 ·rw[if_pos m]at H;have s:((c.length:Int)==(d.length:Int))=true:=beq_iff_eq.mpr m;have t:((c.length:Int) !=(d.length:Int))=false:=bne_eq_false_iff_eq.mpr m;have u:(c.length==d.length)=true:=by first|simpa using m|(simp at m⊢;omega)
  clear m;have H':=S.a H;clear H;go_enter Tryz.func74,Tryz.ntmps74;go_wp2
  repeat(go_quiet (fail);try go_wp2)
  go_loopg [13] k (fun kq T w'=> ∃(b:Int),T= .int .i64 b∧Aside0 (slices_Equal_int_int.l0 kq c d (c.length:Int) b=some r)∧Aside0 (kq≤k)∧Drawn0 w w')
  case atStart=>exact⟨(0),S.eA,H',⟨Nat.le_refl _⟩,by repeat(first|exact Drawn0.refl _|apply Drawn0.step)⟩
  case round=>
   clear H';try clear R
   try clear m
   try clear s
   try clear t
   try clear u
   obtain⟨b,rfl,HA,G,⟨_,rfl⟩⟩:=hrel
   cases gk with
   |zero=>exact absurd HA.1 (by simp[slices_Equal_int_int.l0])
   |succ k1=>
    have H:=HA.1;clear HA;simp only[slices_Equal_int_int.l0]at H;replace H:=S.dc H;rcases H with⟨H,I⟩|⟨H,I⟩
    ·by_cases M:0≤b
     ·rw[if_pos M]at H;have X:decide (0≤b)=true:=decide_eq_true M;clear M
      by_cases N:b<(c.length:Int)
      ·rw[if_pos N]at H;have Y:decide (b<(c.length:Int))=true:=decide_eq_true N;clear N
       by_cases O:b<(d.length:Int)
       ·rw[if_pos O]at H;have Z:decide (b<(d.length:Int))=true:=decide_eq_true O;clear O
        by_cases v:(rd c b)=(rd d b)
        ·rw[if_pos v]at H;have J:((rd c b)==(rd d b))=true:=beq_iff_eq.mpr v;have L:((rd c b) !=(rd d b))=false:=bne_eq_false_iff_eq.mpr v;clear v;have H':=S.a H;clear H;have g:0≤(b:Int):=S.oD;have i:b<(c.length:Int):=S.oD;obtain⟨x,n,o⟩:=Kd.at_int E.1 b g i;cases n;replace g:=eq_true g;replace i:=eq_true i;have j:0≤(b:Int):=S.oD;have l:b<(d.length:Int):=S.oD;obtain⟨y,p,q⟩:=Kd.at_int F.1 b j l;cases p;replace j:=eq_true j;replace l:=eq_true l;go_wp2
         repeat(go_quiet (fail);try go_wp2)
         go_roundg k1
         case measure=>have:=G.1;omega
         case rel=>exact⟨(wrap64 (b+1)),S.eA,H',⟨by have:=G.1;omega⟩,by repeat(first|exact Drawn0.refl _|apply Drawn0.step)⟩
        ·rw[if_neg v]at H;have J:((rd c b)==(rd d b))=false:=beq_eq_false_iff_ne.mpr v;have L:((rd c b) !=(rd d b))=true:=bne_iff_ne.mpr v;obtain rfl:=Option.some.inj H;have g:0≤(b:Int):=S.oD;have i:b<(c.length:Int):=S.oD;obtain⟨x,n,o⟩:=Kd.at_int E.1 b g i;cases n;replace g:=eq_true g;replace i:=eq_true i;have j:0≤(b:Int):=S.oD;have l:b<(d.length:Int):=S.oD;obtain⟨y,p,q⟩:=Kd.at_int F.1 b j l;cases p;replace j:=eq_true j;replace l:=eq_true l;go_wp2
         repeat(go_quiet (fail);try go_wp2)
         go_ret;exact⟨S.eA,by repeat(first|exact Drawn0.refl _|apply Drawn0.step)⟩
       ·rw[if_neg O]at H;exact absurd H (by simp)
      ·rw[if_neg N]at H;exact absurd H (by simp)
     ·rw[if_neg M]at H;exact absurd H (by simp)
    ·obtain rfl:=Option.some.inj H;go_wp2
     repeat(go_quiet (fail);try go_wp2)
     go_ret;exact⟨S.eA,by repeat(first|exact Drawn0.refl _|apply Drawn0.step)⟩
 ·rw[if_neg m]at H;have s:((c.length:Int)==(d.length:Int))=false:=beq_eq_false_iff_ne.mpr m;have t:((c.length:Int) !=(d.length:Int))=true:=bne_iff_ne.mpr m;have u:(c.length==d.length)=false:=by first|simpa using m|(simp at m⊢;omega)
  obtain rfl:=Option.some.inj H;go_enter Tryz.func74,Tryz.ntmps74;go_wp2
  repeat(go_quiet (fail);try go_wp2)
  go_ret;exact⟨S.eA,by repeat(first|exact Drawn0.refl _|apply Drawn0.step)⟩
def impl_InRange.f(a:Int)(b:Int)(c:Int):Option (Bool):=if b≤a then(some (decide (a≤c)))else(some false)
theorem impl_InRange.calls(b:Int)(c:Int)(d:Int)(r:Bool)(w:World)(h:impl_InRange.f b c d=some r):
  Calls Tryz.prog 66 #[.int .i64 b,.int .i64 c,.int .i64 d] w fun e w'=>e= .returned (.bool r)∧Drawn0 w w':=by
 have H:(if c≤b then(some (decide (b≤d)))else(some false))=some r:=h;clear h;replace H:=S.dc H;rcases H with⟨H,a⟩|⟨H,a⟩
 ·obtain rfl:=Option.some.inj H;go_enter Tryz.func66,Tryz.ntmps66;go_wp2;go_ret;exact⟨S.eA,by repeat(first|exact Drawn0.refl _|apply Drawn0.step)⟩
 ·obtain rfl:=Option.some.inj H;go_enter Tryz.func66,Tryz.ntmps66;go_wp2;go_ret;exact⟨S.eA,by repeat(first|exact Drawn0.refl _|apply Drawn0.step)⟩
def impl_IsPath.f(d:Int)(a:Int)(b:Int)(c:Int):Option (Bool):=(impl_InRange.f d 1 20).bind fun e=>(if e=true then((impl_InRange.f a 1 3).bind fun g=>(if g=true then((impl_InRange.f b 0 3).bind fun h=>(if h=true then((impl_InRange.f c 0 3).bind fun i=>(if i=true then(some ((b==c)==(a==2)))else(some false)))else(some false)))else(some false)))else(some false))
theorem impl_IsPath.calls(b:Int)(c:Int)(g:Int)(i:Int)(r:Bool)(w:World)(h:impl_IsPath.f b c g i=some r):
  Calls Tryz.prog 100 #[.agg #[.int .i64 b,.int .i64 c,.int .i64 g,.int .i64 i]] w fun e w'=>e= .returned (.bool r)∧Below w.heap.size w w':=by
 have:=Tryz.underlying76;have HB:=S.a (Below.refl w.heap.size w);have H:((impl_InRange.f b 1 20).bind fun m=>(if m=true then((impl_InRange.f c 1 3).bind fun n=>(if n=true then((impl_InRange.f g 0 3).bind fun o=>(if o=true then((impl_InRange.f i 0 3).bind fun p=>(if p=true then(some ((g==i)==(c==2)))else(some false)))else(some false)))else(some false)))else(some false)))=some r:=h;clear h;replace H:=S.bd H;obtain⟨m,q,H⟩:=H;(try dsimp only at H);replace H:=S.db H;rcases H with⟨rfl,H⟩|⟨rfl,H⟩
 ·replace H:=S.bd H;obtain⟨n,s,H⟩:=H;(try dsimp only at H);replace H:=S.db H;rcases H with⟨rfl,H⟩|⟨rfl,H⟩
  ·replace H:=S.bd H;obtain⟨o,u,H⟩:=H;(try dsimp only at H);replace H:=S.db H;rcases H with⟨rfl,H⟩|⟨rfl,H⟩
   ·replace H:=S.bd H;obtain⟨p,v,H⟩:=H;(try dsimp only at H);replace H:=S.db H;rcases H with⟨rfl,H⟩|⟨rfl,H⟩
    ·obtain rfl:=Option.some.inj H;go_enter Tryz.func100,Tryz.ntmps100;go_wp2_with (first|((with_reducible refine S.gN 1 ?_);refine S.bx 1 (cs:=#[.int .i64 b,.int .i64 c,.int .i64 g,.int .i64 i]) (t:=76) ?_;intro j hg x hbox hb;have d:=S.a hbox;have k:=S.geA hg;have l:=S.geA hg;replace HB:=S.sA hb;clear hb hbox hg;obtain⟨_,_,_,_,_,_,_,_⟩:=S.c4 d.1)|((with_reducible refine S.gF 66 ?_);refine S.gQ 5 Tryz.func66 #[.int .i64 b,.int .i64 1,.int .i64 20] (impl_InRange.calls b 1 20 true _ q.1) ?_;rintro e w' ⟨rfl,⟨nd,rfl⟩⟩;refine⟨_,rfl,?_⟩)|(go_at_call 66;(with_reducible refine(impl_InRange.calls c 1 3 true _ s.1).mono ?_);rintro e w' ⟨rfl,⟨nd,rfl⟩⟩)|(go_at_call 66;(with_reducible refine(impl_InRange.calls g 0 3 true _ u.1).mono ?_);rintro e w' ⟨rfl,⟨nd,rfl⟩⟩)|(go_at_call 66;(with_reducible refine(impl_InRange.calls i 0 3 true _ v.1).mono ?_);rintro e w' ⟨rfl,⟨nd,rfl⟩⟩));go_ret;exact⟨S.eW,S.bG⟩
    ·obtain rfl:=Option.some.inj H;go_enter Tryz.func100,Tryz.ntmps100;go_wp2_with (first|((with_reducible refine S.gN 1 ?_);refine S.bx 1 (cs:=#[.int .i64 b,.int .i64 c,.int .i64 g,.int .i64 i]) (t:=76) ?_;intro j hg y hbox hb;have d:=S.a hbox;have k:=S.geA hg;have l:=S.geA hg;replace HB:=S.sA hb;clear hb hbox hg;obtain⟨_,_,_,_,_,_,_,_⟩:=S.c4 d.1)|((with_reducible refine S.gF 66 ?_);refine S.gQ 5 Tryz.func66 #[.int .i64 b,.int .i64 1,.int .i64 20] (impl_InRange.calls b 1 20 true _ q.1) ?_;rintro e w' ⟨rfl,⟨nd,rfl⟩⟩;refine⟨_,rfl,?_⟩)|(go_at_call 66;(with_reducible refine(impl_InRange.calls c 1 3 true _ s.1).mono ?_);rintro e w' ⟨rfl,⟨nd,rfl⟩⟩)|(go_at_call 66;(with_reducible refine(impl_InRange.calls g 0 3 true _ u.1).mono ?_);rintro e w' ⟨rfl,⟨nd,rfl⟩⟩)|(go_at_call 66;(with_reducible refine(impl_InRange.calls i 0 3 false _ v.1).mono ?_);rintro e w' ⟨rfl,⟨nd,rfl⟩⟩));go_ret;exact⟨S.eW,S.bG⟩
   ·obtain rfl:=Option.some.inj H;go_enter Tryz.func100,Tryz.ntmps100;go_wp2_with (first|((with_reducible refine S.gN 1 ?_);refine S.bx 1 (cs:=#[.int .i64 b,.int .i64 c,.int .i64 g,.int .i64 i]) (t:=76) ?_;intro j hg z hbox hb;have d:=S.a hbox;have k:=S.geA hg;have l:=S.geA hg;replace HB:=S.sA hb;clear hb hbox hg;obtain⟨_,_,_,_,_,_,_,_⟩:=S.c4 d.1)|((with_reducible refine S.gF 66 ?_);refine S.gQ 5 Tryz.func66 #[.int .i64 b,.int .i64 1,.int .i64 20] (impl_InRange.calls b 1 20 true _ q.1) ?_;rintro e w' ⟨rfl,⟨nd,rfl⟩⟩;refine⟨_,rfl,?_⟩)|(go_at_call 66;(with_reducible refine(impl_InRange.calls c 1 3 true _ s.1).mono ?_);rintro e w' ⟨rfl,⟨nd,rfl⟩⟩)|(go_at_call 66;(with_reducible refine(impl_InRange.calls g 0 3 false _ u.1).mono ?_);rintro e w' ⟨rfl,⟨nd,rfl⟩⟩));go_ret;exact⟨S.eW,S.bG⟩
  ·obtain rfl:=Option.some.inj H;go_enter Tryz.func100,Tryz.ntmps100;go_wp2_with (first|((with_reducible refine S.gN 1 ?_);refine S.bx 1 (cs:=#[.int .i64 b,.int .i64 c,.int .i64 g,.int .i64 i]) (t:=76) ?_;intro j hg A hbox hb;have d:=S.a hbox;have k:=S.geA hg;have l:=S.geA hg;replace HB:=S.sA hb;clear hb hbox hg;obtain⟨_,_,_,_,_,_,_,_⟩:=S.c4 d.1)|((with_reducible refine S.gF 66 ?_);refine S.gQ 5 Tryz.func66 #[.int .i64 b,.int .i64 1,.int .i64 20] (impl_InRange.calls b 1 20 true _ q.1) ?_;rintro e w' ⟨rfl,⟨nd,rfl⟩⟩;refine⟨_,rfl,?_⟩)|(go_at_call 66;(with_reducible refine(impl_InRange.calls c 1 3 false _ s.1).mono ?_);rintro e w' ⟨rfl,⟨nd,rfl⟩⟩));go_ret;exact⟨S.eW,S.bG⟩
 ·obtain rfl:=Option.some.inj H;go_enter Tryz.func100,Tryz.ntmps100;go_wp2_with (first|((with_reducible refine S.gN 1 ?_);refine S.bx 1 (cs:=#[.int .i64 b,.int .i64 c,.int .i64 g,.int .i64 i]) (t:=76) ?_;intro j hg B hbox hb;have d:=S.a hbox;have k:=S.geA hg;have l:=S.geA hg;replace HB:=S.sA hb;clear hb hbox hg;obtain⟨_,_,_,_,_,_,_,_⟩:=S.c4 d.1)|((with_reducible refine S.gF 66 ?_);refine S.gQ 5 Tryz.func66 #[.int .i64 b,.int .i64 1,.int .i64 20] (impl_InRange.calls b 1 20 false _ q.1) ?_;rintro e w' ⟨rfl,⟨nd,rfl⟩⟩;refine⟨_,rfl,?_⟩));go_ret;exact⟨S.eW,S.bG⟩
def impl_ArePaths.l0:Nat→List (S76)→List (S76)→Int→Int→Option (Bool)
 |0,_,_,_,_=>none
 |k+1,d,b,e,a=>if a<e then(if 0≤a then(if a<(b.length:Int)then((impl_IsPath.f ((rd_T76 b a).f0) ((rd_T76 b a).f1) ((rd_T76 b a).f2) ((rd_T76 b a).f3)).bind fun c=>(if c=true then(if a>0 then(if 0≤(wrap64 (a-1))then(if(wrap64 (a-1))<(d.length:Int)then(if((rd_T76 b a).f0)≤((rd_T76 d (wrap64 (a-1))).f0)then(some false)else(impl_ArePaths.l0 k d b e (wrap64 (a+1))))else(none))else(none))else(impl_ArePaths.l0 k d b e (wrap64 (a+1))))else(some false)))else(none))else(none))else(some true)
def impl_ArePaths.f(k:Nat)(a:List (S76)):Option (Bool):=if(a.length:Int)>12 then(some false)else(impl_ArePaths.l0 k a a (a.length:Int) 0)
def impl_ArePaths.T6:Bool×List (List Nat×List Nat):=(true,[([],[]),([0],[0]),([1],[1]),([2,1],[2]),([3],[3]),([4,3],[3,4]),([5,3,3],[3,5]),([6],[6]),([7,6],[6,7]),([6],[6]),([6],[6]),([10,6],[6,10]),([9,11,6],[6,9,11]),([12,6],[6,12]),([13,6],[6,13]),([8,14,6],[6,8,14]),([6,15,3],[3,6,15]),([3,16],[3,16])])
def impl_ArePaths.B6:List Nat:=[0,1,3,7,15,31,63,127,255,127,127,1151,3711,7807,15999,32767,65535,131071]
theorem impl_ArePaths.tab6:rtab .any (opsOf Tryz.f68 6)=impl_ArePaths.T6:=by kernel_rfl
theorem impl_ArePaths.bits6:waitsOk impl_ArePaths.T6.2 impl_ArePaths.B6=true:=by kernel_rfl
theorem impl_ArePaths.calls(k:Nat)(A0:Option Addr)(c0:Nat)(d:List (S76))(r:Bool)(w:World)(ac:Kd.C k76 w A0 d.length d)(ad:d.length≤c0)(h:impl_ArePaths.f k d=some r):
  Calls Tryz.prog 68 #[.slice A0 d.length c0] w fun e w'=>e= .returned (.bool r)∧Below w.heap.size w w':=by
 have:=Tryz.underlying76;have R:=S.a ac;have:=S.a ad;clear ac ad;have HB:=S.a (Below.refl w.heap.size w);have H:(if(d.length:Int)>12 then(some false)else(impl_ArePaths.l0 k d d (d.length:Int) 0))=some r:=h;clear h
 by_cases Z:(d.length:Int)>12
 ·rw[if_pos Z]at H;have X:decide (12<(d.length:Int))=true:=decide_eq_true Z;have Y:decide (12<d.length)=true:=decide_eq_true (by omega);clear Z;obtain rfl:=Option.some.inj H;go_enter Tryz.func68,Tryz.ntmps68;go_wp2;go_ret;exact⟨S.eW,S.bA⟩
 ·rw[if_neg Z]at H;have X:decide (12<(d.length:Int))=false:=decide_eq_false Z;have Y:decide (12<d.length)=false:=decide_eq_false (by omega);clear Z;have H':=S.a H;clear H;go_enter Tryz.func68,Tryz.ntmps68;go_wp2;go_loopg [10] k (fun kq ag w'=> ∃(b:Int),ag= .int .i64 b∧Aside0 (impl_ArePaths.l0 kq d d (d.length:Int) b=some r)∧Aside0 (kq≤k)∧Aside0 (Below w.heap.size w w'))
  case atStart=>exact⟨(0),S.eA,H',⟨Nat.le_refl _⟩,⟨S.bA⟩⟩
  case round=>
   clear H';try clear Z
   try clear X
   try clear Y
   obtain⟨b,rfl,HA,U,HB⟩:=hrel
   cases gk with
   |zero=>exact absurd HA.1 (by simp[impl_ArePaths.l0])
   |succ k1=>
    have H:=HA.1;clear HA;simp only[impl_ArePaths.l0]at H;replace H:=S.dc H;rcases H with⟨H,ae⟩|⟨H,ae⟩
    ·by_cases c4:0≤b
     ·rw[if_pos c4]at H;have ar:decide (0≤b)=true:=decide_eq_true c4;clear c4
      by_cases c5:b<(d.length:Int)
      ·rw[if_pos c5]at H;have au:decide (b<(d.length:Int))=true:=decide_eq_true c5;clear c5;replace H:=S.bd H;obtain⟨_,A6,H⟩:=H;(try dsimp only at H);replace H:=S.db H;rcases H with⟨rfl,H⟩|⟨rfl,H⟩
       ·by_cases c8:b>0
        ·rw[if_pos c8]at H;have af:decide (0<b)=true:=decide_eq_true c8;clear c8;obtain⟨D,J⟩: ∃j_:Int,(wrap64 (b-1))=j_:=⟨_,rfl⟩;replace H:(if 0≤(D)then(if(D)<(d.length:Int)then(if((rd_T76 d b).f0)≤((rd_T76 d (D)).f0)then(some false)else(impl_ArePaths.l0 k1 d d (d.length:Int) (wrap64 (b+1))))else(none))else(none))=some r:=by first|(rw[J]at H;exact H)|(simp only[J]at H⊢;exact H)
         (try rw[J]at A6);have hji9w:(IntKind.i64.wrap (b-1))=D:=(i64_w _).trans J
         by_cases V:0≤(D)
         ·rw[if_pos V]at H;have ah:decide (0≤(D))=true:=decide_eq_true V;clear V
          by_cases W:(D)<(d.length:Int)
          ·rw[if_pos W]at H;have ai:decide ((D)<(d.length:Int))=true:=decide_eq_true W;clear W;replace H:=S.dc H;rcases H with⟨H,aa⟩|⟨H,aa⟩
           ·obtain rfl:=Option.some.inj H;have v:0≤(b:Int):=S.oD;have x:b<(d.length:Int):=S.oD;obtain⟨E,F,i,j,l,m⟩:=at_T76 R.1 b v x;cases F;replace i:=S.hb HB i;replace j:=S.hb HB j;replace l:=S.hb HB l;replace m:=S.hb HB m;replace v:=eq_true v;replace x:=eq_true x
            try go_wp2_with (first|((with_reducible refine S.gN 4 ?_);refine S.bx 4 (cs:=#[.int .i64 0,.int .i64 0,.int .i64 0,.int .i64 0]) (t:=76) ?_;intro g hg aj hbox hb;have c:=S.a hbox;have L:=S.geA hg;have M:=S.geA hg;replace HB:=S.sA hb;clear hb hbox hg;obtain⟨_,_,_,_,_,_,_,_⟩:=S.c4 c.1))
            generalize hq_:((((aj.setCell ⟨g,0,none⟩ (.int .i64 ((rd_T76 d b).f0))).setCell ⟨g,1,none⟩ (.int .i64 ((rd_T76 d b).f1))).setCell ⟨g,2,none⟩ (.int .i64 ((rd_T76 d b).f2))).setCell ⟨g,3,none⟩ (.int .i64 ((rd_T76 d b).f3)))=ak;replace c:=S.p4 hq_ c;replace HB:=S.bQ hq_;clear hq_;replace c:=S.a (blk_drew c.1);replace HB:=S.a (below_drew1 HB.1);have G:0≤((D):Int):=S.oD;have I:(D)<(d.length:Int):=S.oD;obtain⟨O,T,o,p,s,u⟩:=at_T76 R.1 (D) G I;have y:=u;have z:=s;have A:=p;have B:=o;obtain rfl:E=O:=(by injection T);replace o:=S.hb HB o;replace p:=S.hb HB p;replace s:=S.hb HB s;replace u:=S.hb HB u;replace G:=eq_true G;replace I:=eq_true I;refine S.st (n:=18) (ds:=[]) (S.bs 262144) (fun w_ h_=>have x_:=S.d4 (S.Q h_ c.1) (And.intro (S.q h_ (S.hb HB B)) (And.intro (S.q h_ (S.hb HB A)) (And.intro (S.q h_ (S.hb HB z)) (S.q h_ (S.hb HB y)))));x_) (fun hHeld=>?_);refine with_tabW impl_ArePaths.tab6 impl_ArePaths.bits6 (fun HT_ HW_=>?_);generalize ak.drew=av at c HB o p s u hHeld⊢;refine S.tK 0 15 (S.bs 262145) ?_;refine S.oN 1 16 (S.bs 262147) (fun K hK=>?_);refine S.go Tryz.func100 #[.agg #[.int .i64 ((rd_T76 d b).f0),.int .i64 ((rd_T76 d b).f1),.int .i64 ((rd_T76 d b).f2),.int .i64 ((rd_T76 d b).f3)]] ?_
            with_reducible refine(impl_IsPath.calls ((rd_T76 d b).f0) ((rd_T76 d b).f1) ((rd_T76 d b).f2) ((rd_T76 d b).f3) true _ A6.1).mono ?_
            rintro e aw ⟨rfl,hb⟩;refine⟨_,rfl,?_⟩;replace c:=S.kb c hb;replace HB:=S.sG hb;(try clear hb);(try clear ab);(try clear hk);(try clear hi);refine hK.out _ _ (S.d4 c.1 (And.intro ((S.hb HB B:)) (And.intro ((S.hb HB A:)) (And.intro ((S.hb HB z:)) ((S.hb HB y:)))))) (fun hHeld=>?_);clear hK K;refine S.nm 16 ?_;refine S.pS 2 17 ?_;refine S.pS 3 18 ?_;refine S.pS 4 19 ?_;refine S.pS 5 20 ?_;refine S.pS 6 21 ?_;refine S.pS 7 22 ?_;refine S.pS 9 24 ?_;refine S.pS 10 25 ?_;refine S.pS 11 26 ?_;refine S.pS 12 27 ?_;refine S.pS 13 28 ?_;refine S.tK 8 23 (S.bs 278527) ?_;refine S.tK 14 29 (S.bs 294911) ?_;refine S.pS 15 30 ?_;refine S.pS 16 31 ?_;refine S.pS 17 32 ?_;refine done_ (done_of HT_.1 (by kernel_rfl)) ?_;try go_wp2
            go_ret;exact⟨by first|rfl|(simp[errW_none,errW_some]<;>rfl)|(simp only[←J];first|rfl|(simp[errW_none,errW_some]<;>rfl))|(simp[*,errW_none,errW_some]<;>rfl),S.bG⟩
           ·have H':=S.a H;clear H;have v:0≤(b:Int):=S.oD;have x:b<(d.length:Int):=S.oD;obtain⟨E,F,i,j,l,m⟩:=at_T76 R.1 b v x;cases F;replace i:=S.hb HB i;replace j:=S.hb HB j;replace l:=S.hb HB l;replace m:=S.hb HB m;replace v:=eq_true v;replace x:=eq_true x
            try go_wp2_with (first|((with_reducible refine S.gN 4 ?_);refine S.bx 4 (cs:=#[.int .i64 0,.int .i64 0,.int .i64 0,.int .i64 0]) (t:=76) ?_;intro g hg al hbox hb;have c:=S.a hbox;have L:=S.geA hg;have M:=S.geA hg;replace HB:=S.sA hb;clear hb hbox hg;obtain⟨_,_,_,_,_,_,_,_⟩:=S.c4 c.1))
            generalize hq_:((((al.setCell ⟨g,0,none⟩ (.int .i64 ((rd_T76 d b).f0))).setCell ⟨g,1,none⟩ (.int .i64 ((rd_T76 d b).f1))).setCell ⟨g,2,none⟩ (.int .i64 ((rd_T76 d b).f2))).setCell ⟨g,3,none⟩ (.int .i64 ((rd_T76 d b).f3)))=am;replace c:=S.p4 hq_ c;replace HB:=S.bQ hq_;clear hq_;replace c:=S.a (blk_drew c.1);replace HB:=S.a (below_drew1 HB.1);have G:0≤((D):Int):=S.oD;have I:(D)<(d.length:Int):=S.oD;obtain⟨O,T,o,p,s,u⟩:=at_T76 R.1 (D) G I;have y:=u;have z:=s;have A:=p;have B:=o;obtain rfl:E=O:=(by injection T);replace o:=S.hb HB o;replace p:=S.hb HB p;replace s:=S.hb HB s;replace u:=S.hb HB u;replace G:=eq_true G;replace I:=eq_true I;refine S.st (n:=18) (ds:=[]) (S.bs 262144) (fun w_ h_=>have x_:=S.d4 (S.Q h_ c.1) (And.intro (S.q h_ (S.hb HB B)) (And.intro (S.q h_ (S.hb HB A)) (And.intro (S.q h_ (S.hb HB z)) (S.q h_ (S.hb HB y)))));x_) (fun hHeld=>?_);refine with_tabW impl_ArePaths.tab6 impl_ArePaths.bits6 (fun HT_ HW_=>?_);generalize am.drew=ax at c HB o p s u hHeld⊢;refine S.tK 0 15 (S.bs 262145) ?_;refine S.oN 1 16 (S.bs 262147) (fun K hK=>?_);refine S.go Tryz.func100 #[.agg #[.int .i64 ((rd_T76 d b).f0),.int .i64 ((rd_T76 d b).f1),.int .i64 ((rd_T76 d b).f2),.int .i64 ((rd_T76 d b).f3)]] ?_
            with_reducible refine(impl_IsPath.calls ((rd_T76 d b).f0) ((rd_T76 d b).f1) ((rd_T76 d b).f2) ((rd_T76 d b).f3) true _ A6.1).mono ?_
            rintro e ay ⟨rfl,hb⟩;refine⟨_,rfl,?_⟩;replace c:=S.kb c hb;replace HB:=S.sG hb;(try clear hb);(try clear ab);(try clear hk);(try clear hi);refine hK.out _ _ (S.d4 c.1 (And.intro ((S.hb HB B:)) (And.intro ((S.hb HB A:)) (And.intro ((S.hb HB z:)) ((S.hb HB y:)))))) (fun hHeld=>?_);clear hK K;refine S.nm 16 ?_;refine S.pS 2 17 ?_;refine S.pS 3 18 ?_;refine S.pS 4 19 ?_;refine S.pS 5 20 ?_;refine S.pS 6 21 ?_;refine S.pS 7 22 ?_;refine S.pS 9 24 ?_;refine S.pS 10 25 ?_;refine S.pS 11 26 ?_;refine S.pS 12 27 ?_;refine S.pS 13 28 ?_;refine S.tK 8 23 (S.bs 278527) ?_;refine S.tK 14 29 (S.bs 294911) ?_;refine S.pS 15 30 ?_;refine S.pS 16 31 ?_;refine S.pS 17 32 ?_;refine done_ (done_of HT_.1 (by kernel_rfl)) ?_;try go_wp2
            go_roundg k1
            case measure=>have:=U.1;omega
            case rel=>exact⟨(wrap64 (b+1)),S.eA,H',⟨by have:=U.1;omega⟩,⟨S.bG⟩⟩
          ·rw[if_neg W]at H;exact absurd H (by simp)
         ·rw[if_neg V]at H;exact absurd H (by simp)
        ·rw[if_neg c8]at H;have af:decide (0<b)=false:=decide_eq_false c8;clear c8;have H':=S.a H;clear H;have v:0≤(b:Int):=S.oD;have x:b<(d.length:Int):=S.oD;obtain⟨E,F,i,j,l,m⟩:=at_T76 R.1 b v x;cases F;replace i:=S.hb HB i;replace j:=S.hb HB j;replace l:=S.hb HB l;replace m:=S.hb HB m;replace v:=eq_true v;replace x:=eq_true x
         try go_wp2_with (first|((with_reducible refine S.gN 4 ?_);refine S.bx 4 (cs:=#[.int .i64 0,.int .i64 0,.int .i64 0,.int .i64 0]) (t:=76) ?_;intro g hg an hbox hb;have c:=S.a hbox;have L:=S.geA hg;have M:=S.geA hg;replace HB:=S.sA hb;clear hb hbox hg;obtain⟨_,_,_,_,_,_,_,_⟩:=S.c4 c.1))
         generalize hq_:((((an.setCell ⟨g,0,none⟩ (.int .i64 ((rd_T76 d b).f0))).setCell ⟨g,1,none⟩ (.int .i64 ((rd_T76 d b).f1))).setCell ⟨g,2,none⟩ (.int .i64 ((rd_T76 d b).f2))).setCell ⟨g,3,none⟩ (.int .i64 ((rd_T76 d b).f3)))=ao;replace c:=S.p4 hq_ c;replace HB:=S.bQ hq_;clear hq_;replace c:=S.a (blk_drew c.1);replace HB:=S.a (below_drew1 HB.1);refine S.st (n:=18) (ds:=[]) (S.bs 262144) (fun w_ h_=>have x_:=S.e4 (S.Q h_ c.1);x_) (fun hHeld=>?_);refine with_tabW impl_ArePaths.tab6 impl_ArePaths.bits6 (fun HT_ HW_=>?_);generalize ao.drew=az at c HB hHeld⊢;refine S.tK 0 15 (S.bs 262145) ?_;refine S.oN 1 16 (S.bs 262147) (fun K hK=>?_);refine S.go Tryz.func100 #[.agg #[.int .i64 ((rd_T76 d b).f0),.int .i64 ((rd_T76 d b).f1),.int .i64 ((rd_T76 d b).f2),.int .i64 ((rd_T76 d b).f3)]] ?_
         with_reducible refine(impl_IsPath.calls ((rd_T76 d b).f0) ((rd_T76 d b).f1) ((rd_T76 d b).f2) ((rd_T76 d b).f3) true _ A6.1).mono ?_
         rintro e a0 ⟨rfl,hb⟩;refine⟨_,rfl,?_⟩;replace c:=S.kb c hb;replace HB:=S.sG hb;(try clear hb);(try clear ab);(try clear hk);(try clear hi);refine hK.out _ _ (S.e4 c.1) (fun hHeld=>?_);clear hK K;refine S.nm 16 ?_;refine S.pS 2 17 ?_;refine S.pS 3 18 ?_;refine S.pS 4 19 ?_;refine S.pS 5 20 ?_;refine S.pS 6 21 ?_;refine S.pU 7 22 ?_;refine S.pU 8 23 ?_;refine S.pU 9 24 ?_;refine S.pU 10 25 ?_;refine S.pU 11 26 ?_;refine S.pU 12 27 ?_;refine S.pU 13 28 ?_;refine S.pU 14 29 ?_;refine S.pU 15 30 ?_;refine S.pS 16 31 ?_;refine S.pS 17 32 ?_;refine done_ (done_of HT_.1 (by kernel_rfl)) ?_;try go_wp2
         go_roundg k1
         case measure=>have:=U.1;omega
         case rel=>exact⟨(wrap64 (b+1)),S.eA,H',⟨by have:=U.1;omega⟩,⟨S.bG⟩⟩
       ·obtain rfl:=Option.some.inj H;have v:0≤(b:Int):=S.oD;have x:b<(d.length:Int):=S.oD;obtain⟨E,F,i,j,l,m⟩:=at_T76 R.1 b v x;cases F;replace i:=S.hb HB i;replace j:=S.hb HB j;replace l:=S.hb HB l;replace m:=S.hb HB m;replace v:=eq_true v;replace x:=eq_true x
        try go_wp2_with (first|((with_reducible refine S.gN 4 ?_);refine S.bx 4 (cs:=#[.int .i64 0,.int .i64 0,.int .i64 0,.int .i64 0]) (t:=76) ?_;intro g hg ap hbox hb;have c:=S.a hbox;have L:=S.geA hg;have M:=S.geA hg;replace HB:=S.sA hb;clear hb hbox hg;obtain⟨_,_,_,_,_,_,_,_⟩:=S.c4 c.1))
        generalize hq_:((((ap.setCell ⟨g,0,none⟩ (.int .i64 ((rd_T76 d b).f0))).setCell ⟨g,1,none⟩ (.int .i64 ((rd_T76 d b).f1))).setCell ⟨g,2,none⟩ (.int .i64 ((rd_T76 d b).f2))).setCell ⟨g,3,none⟩ (.int .i64 ((rd_T76 d b).f3)))=aq;replace c:=S.p4 hq_ c;replace HB:=S.bQ hq_;clear hq_;replace c:=S.a (blk_drew c.1);replace HB:=S.a (below_drew1 HB.1);refine S.st (n:=18) (ds:=[]) (S.bs 262144) (fun w_ h_=>have x_:=S.e4 (S.Q h_ c.1);x_) (fun hHeld=>?_);refine with_tabW impl_ArePaths.tab6 impl_ArePaths.bits6 (fun HT_ HW_=>?_);generalize aq.drew=a1 at c HB hHeld⊢;refine S.tK 0 15 (S.bs 262145) ?_;refine S.oN 1 16 (S.bs 262147) (fun K hK=>?_);refine S.go Tryz.func100 #[.agg #[.int .i64 ((rd_T76 d b).f0),.int .i64 ((rd_T76 d b).f1),.int .i64 ((rd_T76 d b).f2),.int .i64 ((rd_T76 d b).f3)]] ?_
        with_reducible refine(impl_IsPath.calls ((rd_T76 d b).f0) ((rd_T76 d b).f1) ((rd_T76 d b).f2) ((rd_T76 d b).f3) false _ A6.1).mono ?_
        rintro e a2 ⟨rfl,hb⟩;refine⟨_,rfl,?_⟩;replace c:=S.kb c hb;replace HB:=S.sG hb;(try clear hb);(try clear ab);(try clear hk);(try clear hi);refine hK.out _ _ (S.e4 c.1) (fun hHeld=>?_);clear hK K;refine S.nm 16 ?_;refine S.pS 2 17 ?_;refine S.pS 3 18 ?_;refine S.pU 4 19 ?_;refine S.pU 5 20 ?_;refine S.pU 6 21 ?_;refine S.pU 7 22 ?_;refine S.pU 8 23 ?_;refine S.pU 9 24 ?_;refine S.pU 10 25 ?_;refine S.pU 11 26 ?_;refine S.pU 12 27 ?_;refine S.pU 13 28 ?_;refine S.pU 14 29 ?_;refine S.pU 15 30 ?_;refine S.pU 16 31 ?_;refine S.pS 17 32 ?_;refine done_ (done_of HT_.1 (by kernel_rfl)) ?_;try go_wp2
        go_ret;exact⟨S.eW,S.bG⟩
      ·rw[if_neg c5]at H;exact absurd H (by simp)
     ·rw[if_neg c4]at H;exact absurd H (by simp)
    ·obtain rfl:=Option.some.inj H;go_wp2;go_ret;exact⟨S.eW,S.bA⟩
theorem impl_FindPath.idx(p:S76→Bool)(g:Nat)(lb:Array Value)(eg: ∀args w,(callFunc g args).run Tryz.prog w= .ok (.enter g args) w)(m:Option Addr)(n:Nat)(b:List S76)(w:World)
  (hp: ∀(W:World) (x:S76),Below w.heap.size w W→Calls Tryz.prog g (#[.agg #[.int .i64 x.f0,.int .i64 x.f1,.int .i64 x.f2,.int .i64 x.f3]]++lb) W fun e w'=>e= .returned (.bool (p x))∧Below w.heap.size w w')
  (i:Kd.C k76 w m b.length b)(o:b.length≤n):
  Calls Tryz.prog 101 #[.slice m b.length n,.func (.func g) #[] lb] w fun e w'=>e= .returned (.int .i64 (Go.Proofs.YtopchlafmfgpnaaGreat.Hnd.fidx p b 0))∧Below w.heap.size w w':=by
 have hbig:b.length≤9223372036854775807:=i.2.1;have l:=S.a i;have HP:=S.a hp;clear i hp;go_enter Tryz.func101,Tryz.ntmps101;go_wp2;go_loopg [5,8] b.length (fun gg _ s8 wr=> ∃kk:Nat,kk≤b.length∧b.length-kk≤gg∧s8= .int .i64 kk∧Aside0 (Below w.heap.size w wr)∧Aside0 (Go.Proofs.YtopchlafmfgpnaaGreat.Hnd.fidx p b 0=Go.Proofs.YtopchlafmfgpnaaGreat.Hnd.fidx p (b.drop kk) kk))
 case atStart=>exact⟨0,Nat.zero_le _,by omega,rfl,⟨Below.refl _ w⟩,⟨by simp⟩⟩
 case round=>
  obtain⟨kk,_,_,rfl,BW,A⟩:=hrel
  by_cases hlt:kk<b.length
  ·have hltz:(kk:Int)<(b.length:Int):=by omega
   obtain⟨_,j,c,d,f,h⟩:=at_T76 l.1 (kk:Int) (by omega) hltz;cases j;simp only[Int.toNat_natCast]at c d f h;replace c:=(BW.1.cell (World.block_lt_of_cell? w _ c)).trans c;replace d:=(BW.1.cell (World.block_lt_of_cell? w _ d)).trans d;replace f:=(BW.1.cell (World.block_lt_of_cell? w _ f)).trans f;replace h:=(BW.1.cell (World.block_lt_of_cell? w _ h)).trans h;have hcall:=HP.1 wr (rd_T76 b (kk:Int)) BW.1;have k:rd_T76 b (kk:Int)=b[kk]:=by simp[rd_T76,hlt]
   have E:Aside0 (Go.Proofs.YtopchlafmfgpnaaGreat.Hnd.fidx p b 0=if p (rd_T76 b (kk:Int))=true then(kk:Int)else Go.Proofs.YtopchlafmfgpnaaGreat.Hnd.fidx p (b.drop (kk+1)) (kk+1)):=⟨by rw[A.1,List.drop_eq_getElem_cons hlt,k];rfl⟩;clear A k;generalize rd_T76 b (kk:Int)=y at c d f h hcall E
   cases hq:p y with
   |true=>
    rw[hq]at hcall;go_wp2_with (fail);refine hcall.mono ?_;rintro e w' ⟨rfl,hb'⟩;clear hcall
    dsimp only
    go_wp2_with (fail);go_ret;exact⟨by rw[E.1,if_pos hq];rfl,hb'⟩
   |false=>
    rw[hq]at hcall;go_wp2_with (fail);refine hcall.mono ?_;rintro e w' ⟨rfl,hb'⟩;clear hcall
    dsimp only
    go_wp2_with (fail);go_roundg (b.length-(kk+1))
    case measure=>omega
    case rel=>exact⟨kk+1,by omega,by omega,by go_num,⟨hb'⟩,⟨by rw[E.1,hq];rfl⟩⟩
  ·have hltz: ¬(kk:Int)<(b.length:Int):=by omega
   have hkn:kk=b.length:=by omega
   have E:Aside0 (Go.Proofs.YtopchlafmfgpnaaGreat.Hnd.fidx p b 0= -1):=⟨by rw[A.1,hkn,List.drop_length];rfl⟩;clear A;subst hkn;go_wp2;go_ret;exact⟨by rw[E.1];rfl,BW.1⟩
theorem impl_FindPath.pred(b:Int)(B0:Nat)(w:World)(hB0:B0<w.heap.size)(hcB0:w.cell? ⟨B0,0,none⟩=some (.int .i64 b)):
  ∀(W:World) (x:S76),Below w.heap.size w W→Calls Tryz.prog 102 (#[.agg #[.int .i64 x.f0,.int .i64 x.f1,.int .i64 x.f2,.int .i64 x.f3]]++#[.pointer (some ⟨B0,0,none⟩)]) W fun e w'=>e= .returned (.bool (x.f0==b))∧Below w.heap.size w w':=fun W x hb=>by
 have cB0:W.cell? ⟨B0,0,none⟩=some (.int .i64 b):=(hb.cell (p:=⟨B0,0,none⟩) hB0).trans hcB0;have lB0:B0<W.heap.size:=Nat.lt_of_lt_of_le hB0 hb.size;have nB0:B0≠W.heap.size:=by omega
 have hB2:=S.a hb;clear hb hcB0
 show Calls Tryz.prog 102 #[.agg #[.int .i64 x.f0,.int .i64 x.f1,.int .i64 x.f2,.int .i64 x.f3],.pointer (some ⟨B0,0,none⟩)] W _
 go_enter Tryz.func102,Tryz.ntmps102;go_wp2;go_ret;exact⟨by first|rfl|simp,hB2.1.alloc hB2.1.size _⟩
def impl_FindPath.f(a:List (S76))(b:Int):Option (Int):=some (Go.Proofs.YtopchlafmfgpnaaGreat.Hnd.fidx (fun x:S76=>x.f0==b) a 0)
set_option maxHeartbeats 8000000 in
theorem impl_FindPath.calls(g:Option Addr)(i:Nat)(b:List (S76))(c:Int)(r:Int)(w:World)(d:Kd.C k76 w g b.length b)(j:b.length≤i)(h:impl_FindPath.f b c=some r):
  Calls Tryz.prog 69 #[.slice g b.length i,.int .i64 c] w fun e w'=>e= .returned (.int .i64 r)∧Below w.heap.size w w':=by
 obtain rfl:=Option.some.inj h;clear h;have eg: ∀args w,(callFunc 102 args).run Tryz.prog w= .ok (.enter 102 args) w:=Go.Proofs.YtopchlafmfgpnaaGreat.Hnd.enters_fn Tryz.func102 (by kernel_rfl) rfl;have hB1:Below w.heap.size w (w.alloc (.cells #[.int .i64 c] 3)):=((Below.refl _ w).alloc (Nat.le_refl _) _);have hcon:=impl_FindPath.idx (fun x:S76=>x.f0==c) 102 #[.pointer (some ⟨w.heap.size,0,none⟩)] eg g i b (w.alloc (.cells #[.int .i64 c] 3)) (impl_FindPath.pred c w.heap.size _ (by simp) (by simp)) (Kd.C_below d hB1) j;generalize Go.Proofs.YtopchlafmfgpnaaGreat.Hnd.fidx (fun x:S76=>x.f0==c) b 0=r at hcon⊢;clear d eg;have k:=S.a hB1;clear hB1;go_enter Tryz.func69,Tryz.ntmps69;go_wp2_with (fail);refine hcon.mono ?_;rintro e w' ⟨rfl,hb'⟩;clear hcon
 dsimp only
 go_wp2_with (fail);go_ret;exact⟨rfl,k.1.trans (hb'.mono (by simp))⟩
def impl_Interleave.l0:Nat→Int→Int→Int→Int→List Int→Int→Int→Option (Bool)
 |0,_,_,_,_,_,_,_=>none
 |k+1,b,d,e,g,c,h,a=>if a<h then(if 0≤a then(if a<(c.length:Int)then((impl_InRange.f (rd c a) 0 7).bind fun i=>(if i=true then(impl_Interleave.l0 k b d e g c h (wrap64 (a+1)))else(some false)))else(none))else(none))else(if b=d then(some false)else(if b=e then(some false)else(if b=g then(some false)else(if d=e then(some false)else(if d=g then(some false)else(if e=g then(some false)else(some ((decide ((Int.tmod (wrap64 ((wrap64 (e-b))+8)) 8)<(Int.tmod (wrap64 ((wrap64 (d-b))+8)) 8))) !=(decide ((Int.tmod (wrap64 ((wrap64 (g-b))+8)) 8)<(Int.tmod (wrap64 ((wrap64 (d-b))+8)) 8)))))))))))
def impl_Interleave.f(k:Nat)(b:Int)(c:Int)(d:Int)(e:Int):Option (Bool):=(some (([b,c,d,e]:List Int):List Int)).bind fun a=>(impl_Interleave.l0 k b c d e a (a.length:Int) 0)
theorem impl_Interleave.mono_l: ∀k,(∀b c d e f g i,LeO (impl_Interleave.l0 k b c d e f g i) (impl_Interleave.l0 (k+1) b c d e f g i))
 |0=>fun _ _ _ _ _ _ _ r h=>by simp[impl_Interleave.l0]at h
 |k+1=>by
  have a:=impl_Interleave.mono_l k
  ·intro b c d e f g i
   unfold impl_Interleave.l0
   repeat' first
   |(with_reducible exact a _ _ _ _ _ _ _)
   |(with_reducible exact LeO.refl _)
   |(with_reducible exact LeO.none _)
   |(with_reducible refine LeO.ite ?_ ?_)
   |(with_reducible refine LeO.bind ?_ (fun _=>?_))
   |exact a _ _ _ _ _ _ _
   |exact LeO.none _
   |refine LeO.ite ?_ ?_
   |refine LeO.bind ?_ (fun _=>?_)
theorem impl_Interleave.mono: ∀b c d e k,LeO (impl_Interleave.f k b c d e) (impl_Interleave.f (k+1) b c d e):=by
 intro b c d e k;have a:=impl_Interleave.mono_l k
 unfold impl_Interleave.f
 repeat' first
   |(with_reducible exact a _ _ _ _ _ _ _)
   |(with_reducible exact LeO.refl _)
   |(with_reducible exact LeO.none _)
   |(with_reducible refine LeO.ite ?_ ?_)
   |(with_reducible refine LeO.bind ?_ (fun _=>?_))
   |exact a _ _ _ _ _ _ _
   |exact LeO.none _
   |refine LeO.ite ?_ ?_
   |refine LeO.bind ?_ (fun _=>?_)
theorem impl_Interleave.calls(k:Nat)(d:Int)(g:Int)(i:Int)(j:Int)(r:Bool)(w:World)(h:impl_Interleave.f k d g i j=some r):
  Calls Tryz.prog 103 #[.int .i64 d,.int .i64 g,.int .i64 i,.int .i64 j] w fun e w'=>e= .returned (.bool r)∧Below w.heap.size w w':=by
 have HB:=S.a (Below.refl w.heap.size w);have H:((some (([d,g,i,j]:List Int):List Int)).bind fun c=>(impl_Interleave.l0 k d g i j c (c.length:Int) 0))=some r:=h;clear h;obtain⟨c,n⟩: ∃y_:List Int,y_=(([d,g,i,j]:List Int)):=⟨_,rfl⟩;have hY_:=n;replace H:(impl_Interleave.l0 k d g i j c (c.length:Int) 0)=some r:=S.rh;clear hY_;have x:=S.a n;clear n;have H':=S.a H;clear H;go_enter Tryz.func103,Tryz.ntmps103;go_wp2_with (first|((with_reducible refine S.gN 16 ?_);refine Kd.R_lit (Kd.int .i64) _ 3 ?hg (N:=16) ?hd (xs:=([d,g,i,j]:List Int)) (inner:=[.int .i64 d,.int .i64 g,.int .i64 i,.int .i64 j]) (ok:=fun _=>True) (okp:=fun _=>True) ?hr ?hp (fun _ hk=>hk) trivial (Below.refl _ _) (Nat.le_refl _) (by simp) ?_;(case hd=>rfl);(case hg=>rfl);(case hr=>first|(go_simp;done)|(go_simp;rfl));(case hp=>exact(Reps.one (show Kd.M (Kd.int .i64) _ _ _ d [.int .i64 d]from rfl) (Reps.one (show Kd.M (Kd.int .i64) _ _ _ g [.int .i64 g]from rfl) (Reps.one (show Kd.M (Kd.int .i64) _ _ _ i [.int .i64 i]from rfl) (Reps.one (show Kd.M (Kd.int .i64) _ _ _ j [.int .i64 j]from rfl) (Reps.none _ _))))));intro ag w5 y hb hg_ hnew_;clear hg_ hnew_;(first|rw[←x.1]at y|(simp only[Int.reduceToNat]at y;rw[←x.1]at y));have z:=S.lwA y;replace HB:=S.sA hb;clear hb y;obtain⟨ab,ac,ad⟩:=Kd.R_slice z.1;subst ad));go_loopg [18] k (fun kq ae w'=> ∃(b:Int),ae= .int .i64 b∧Aside0 (impl_Interleave.l0 kq d g i j c (c.length:Int) b=some r)∧Aside0 (kq≤k)∧Aside0 (Kd.R (Kd.int .i64) 3 w' w.heap.size (fun _=>True) (.slice ab c.length ac) c)∧Aside0 (Below w.heap.size w w'))
 case atStart=>exact⟨(0),S.eA,H',⟨Nat.le_refl _⟩,⟨S.uR z.1⟩,⟨S.bA⟩⟩
 case round=>
  clear H';obtain⟨b,rfl,HA,Y,o,HB⟩:=hrel
  cases gk with
  |zero=>exact absurd HA.1 (by simp[impl_Interleave.l0])
  |succ k1=>
   have H:=HA.1;clear HA;simp only[impl_Interleave.l0]at H;replace H:=S.dc H;rcases H with⟨H,Z⟩|⟨H,Z⟩
   ·by_cases c9:0≤b
    ·rw[if_pos c9]at H;have ah:decide (0≤b)=true:=decide_eq_true c9;clear c9
     by_cases C:b<(c.length:Int)
     ·rw[if_pos C]at H;have af:decide (b<(c.length:Int))=true:=decide_eq_true C;clear C;replace H:=S.bd H;obtain⟨_,aa,H⟩:=H;(try dsimp only at H);replace H:=S.db H;rcases H with⟨rfl,H⟩|⟨rfl,H⟩
      ·have H':=S.a H;clear H;have l:0≤(b:Int):=S.oD;have m:b<(c.length:Int):=S.oD;obtain⟨D,A,B⟩:=Kd.at_int (Kd.R_reads' o.1).2.2 b l m;cases A;replace l:=eq_true l;replace m:=eq_true m;go_wp2_with (first|((with_reducible refine S.gF 66 ?_);refine S.gQ 23 Tryz.func66 #[.int .i64 (rd c b),.int .i64 0,.int .i64 7] (impl_InRange.calls (rd c b) 0 7 true _ aa.1) ?_;rintro e w' ⟨rfl,⟨nd,rfl⟩⟩;refine⟨_,rfl,?_⟩));go_roundg k1
       case measure=>have:=Y.1;omega
       case rel=>exact⟨(wrap64 (b+1)),S.eA,H',⟨by have:=Y.1;omega⟩,⟨S.uR o.1⟩,⟨S.bA⟩⟩
      ·obtain rfl:=Option.some.inj H;have l:0≤(b:Int):=S.oD;have m:b<(c.length:Int):=S.oD;obtain⟨D,A,B⟩:=Kd.at_int (Kd.R_reads' o.1).2.2 b l m;cases A;replace l:=eq_true l;replace m:=eq_true m;go_wp2_with (first|((with_reducible refine S.gF 66 ?_);refine S.gQ 23 Tryz.func66 #[.int .i64 (rd c b),.int .i64 0,.int .i64 7] (impl_InRange.calls (rd c b) 0 7 false _ aa.1) ?_;rintro e w' ⟨rfl,⟨nd,rfl⟩⟩;refine⟨_,rfl,?_⟩));go_ret;exact⟨S.eW,S.bA⟩
     ·rw[if_neg C]at H;exact absurd H (by simp)
    ·rw[if_neg c9]at H;exact absurd H (by simp)
   ·by_cases p:d=g
    ·rw[if_pos p]at H;have E:(d==g)=true:=beq_iff_eq.mpr p;have F:(d !=g)=false:=bne_eq_false_iff_eq.mpr p;clear p;obtain rfl:=Option.some.inj H;go_wp2;go_ret;exact⟨S.eW,S.bA⟩
    ·rw[if_neg p]at H;have E:(d==g)=false:=beq_eq_false_iff_ne.mpr p;have F:(d !=g)=true:=bne_iff_ne.mpr p
     by_cases q:d=i
     ·rw[if_pos q]at H;have G:(d==i)=true:=beq_iff_eq.mpr q;have I:(d !=i)=false:=bne_eq_false_iff_eq.mpr q;clear q;obtain rfl:=Option.some.inj H;go_wp2;go_ret;exact⟨S.eW,S.bA⟩
     ·rw[if_neg q]at H;have G:(d==i)=false:=beq_eq_false_iff_ne.mpr q;have I:(d !=i)=true:=bne_iff_ne.mpr q
      by_cases s:d=j
      ·rw[if_pos s]at H;have J:(d==j)=true:=beq_iff_eq.mpr s;have L:(d !=j)=false:=bne_eq_false_iff_eq.mpr s;clear s;obtain rfl:=Option.some.inj H;go_wp2;go_ret;exact⟨S.eW,S.bA⟩
      ·rw[if_neg s]at H;have J:(d==j)=false:=beq_eq_false_iff_ne.mpr s;have L:(d !=j)=true:=bne_iff_ne.mpr s
       by_cases t:g=i
       ·rw[if_pos t]at H;have O:(g==i)=true:=beq_iff_eq.mpr t;have T:(g !=i)=false:=bne_eq_false_iff_eq.mpr t;clear t;obtain rfl:=Option.some.inj H;go_wp2;go_ret;exact⟨S.eW,S.bA⟩
       ·rw[if_neg t]at H;have O:(g==i)=false:=beq_eq_false_iff_ne.mpr t;have T:(g !=i)=true:=bne_iff_ne.mpr t
        by_cases u:g=j
        ·rw[if_pos u]at H;have U:(g==j)=true:=beq_iff_eq.mpr u;have V:(g !=j)=false:=bne_eq_false_iff_eq.mpr u;clear u;obtain rfl:=Option.some.inj H;go_wp2;go_ret;exact⟨S.eW,S.bA⟩
        ·rw[if_neg u]at H;have U:(g==j)=false:=beq_eq_false_iff_ne.mpr u;have V:(g !=j)=true:=bne_iff_ne.mpr u
         by_cases v:i=j
         ·rw[if_pos v]at H;have W:(i==j)=true:=beq_iff_eq.mpr v;have X:(i !=j)=false:=bne_eq_false_iff_eq.mpr v;clear v;obtain rfl:=Option.some.inj H;go_wp2;go_ret;exact⟨S.eW,S.bA⟩
         ·rw[if_neg v]at H;have W:(i==j)=false:=beq_eq_false_iff_ne.mpr v;have X:(i !=j)=true:=bne_iff_ne.mpr v;obtain rfl:=Option.some.inj H;go_wp2;go_ret;exact⟨S.eW,S.bA⟩
def impl_InPlace.f(b:Int):Option (Int):=(impl_InRange.f b 0 3).bind fun a=>(if a=true then(some (wrap64 (2*b)))else(some (-1)))
theorem impl_InPlace.calls(a:Int)(r:Int)(w:World)(h:impl_InPlace.f a=some r):
  Calls Tryz.prog 104 #[.int .i64 a] w fun e w'=>e= .returned (.int .i64 r)∧Drawn0 w w':=by
 have H:((impl_InRange.f a 0 3).bind fun b=>(if b=true then(some (wrap64 (2*a)))else(some (-1))))=some r:=h;clear h;replace H:=S.bd H;obtain⟨b,c,H⟩:=H;(try dsimp only at H);replace H:=S.db H;rcases H with⟨rfl,H⟩|⟨rfl,H⟩
 ·obtain rfl:=Option.some.inj H;go_enter Tryz.func104,Tryz.ntmps104;go_wp2_with (first|((with_reducible refine S.gF 66 ?_);refine S.gQ 4 Tryz.func66 #[.int .i64 a,.int .i64 0,.int .i64 3] (impl_InRange.calls a 0 3 true _ c.1) ?_;rintro e w' ⟨rfl,⟨nd,rfl⟩⟩;refine⟨_,rfl,?_⟩));go_ret;exact⟨S.eA,by repeat(first|exact Drawn0.refl _|apply Drawn0.step)⟩
 ·obtain rfl:=Option.some.inj H;go_enter Tryz.func104,Tryz.ntmps104;go_wp2_with (first|((with_reducible refine S.gF 66 ?_);refine S.gQ 4 Tryz.func66 #[.int .i64 a,.int .i64 0,.int .i64 3] (impl_InRange.calls a 0 3 false _ c.1) ?_;rintro e w' ⟨rfl,⟨nd,rfl⟩⟩;refine⟨_,rfl,?_⟩));go_ret;exact⟨S.eA,by repeat(first|exact Drawn0.refl _|apply Drawn0.step)⟩
def impl_OutPlace.f(b:Int):Option (Int):=(impl_InRange.f b 0 3).bind fun a=>(if a=true then(some (wrap64 ((wrap64 (2*b))+1)))else(some (-1)))
theorem impl_OutPlace.calls(a:Int)(r:Int)(w:World)(h:impl_OutPlace.f a=some r):
  Calls Tryz.prog 105 #[.int .i64 a] w fun e w'=>e= .returned (.int .i64 r)∧Drawn0 w w':=by
 have H:((impl_InRange.f a 0 3).bind fun b=>(if b=true then(some (wrap64 ((wrap64 (2*a))+1)))else(some (-1))))=some r:=h;clear h;replace H:=S.bd H;obtain⟨b,c,H⟩:=H;(try dsimp only at H);replace H:=S.db H;rcases H with⟨rfl,H⟩|⟨rfl,H⟩
 ·obtain rfl:=Option.some.inj H;go_enter Tryz.func105,Tryz.ntmps105;go_wp2_with (first|((with_reducible refine S.gF 66 ?_);refine S.gQ 4 Tryz.func66 #[.int .i64 a,.int .i64 0,.int .i64 3] (impl_InRange.calls a 0 3 true _ c.1) ?_;rintro e w' ⟨rfl,⟨nd,rfl⟩⟩;refine⟨_,rfl,?_⟩));go_ret;exact⟨S.eA,by repeat(first|exact Drawn0.refl _|apply Drawn0.step)⟩
 ·obtain rfl:=Option.some.inj H;go_enter Tryz.func105,Tryz.ntmps105;go_wp2_with (first|((with_reducible refine S.gF 66 ?_);refine S.gQ 4 Tryz.func66 #[.int .i64 a,.int .i64 0,.int .i64 3] (impl_InRange.calls a 0 3 false _ c.1) ?_;rintro e w' ⟨rfl,⟨nd,rfl⟩⟩;refine⟨_,rfl,?_⟩));go_ret;exact⟨S.eA,by repeat(first|exact Drawn0.refl _|apply Drawn0.step)⟩
def impl_Conflict.j0:Nat→Bool→Int→Int→Int→Int→Int→Int→Int→Int→Option (Bool)
 |0,_,_,_,_,_,_,_,_,_=>none
 |k+1,u,h,e,a,c,i,g,b,d=>if u=true then(some false)else(if e=2 then(if b=a then(some true)else(some (d==a)))else(if g=2 then(if a=b then(some true)else(some (c==b)))else(if a=b then((impl_InPlace.f a).bind fun j=>((impl_OutPlace.f c).bind fun l=>((impl_InPlace.f b).bind fun m=>((impl_OutPlace.f d).bind fun n=>((impl_Interleave.f k j l m n).bind fun o=>(some o))))))else(if c=d then(some true)else((impl_InPlace.f a).bind fun p=>((impl_OutPlace.f c).bind fun q=>((impl_InPlace.f b).bind fun r=>((impl_OutPlace.f d).bind fun s=>((impl_Interleave.f k p q r s).bind fun t=>(some t))))))))))
def impl_Conflict.f(k:Nat)(c:Int)(a:Int)(d:Int)(e:Int)(g:Int)(b:Int)(h:Int)(i:Int):Option (Bool):=(impl_IsPath.f c a d e).bind fun j=>(if j=true then((impl_IsPath.f g b h i).bind fun l=>(if l=true then(if a=2 then(impl_Conflict.j0 k (b==2) c a d e g b h i)else(impl_Conflict.j0 k false c a d e g b h i))else(impl_Conflict.j0 k true c a d e g b h i)))else(impl_Conflict.j0 k true c a d e g b h i))
def impl_Conflict.T7:Bool×List (List Nat×List Nat):=(true,[([],[]),([0],[0]),([],[]),([2],[2]),([1,3],[1,3]),([4],[4]),([5],[5]),([6,5],[5,6]),([5],[5]),([8,5],[5,8]),([7,9,5],[5,7,9]),([5,10],[5,10]),([11,5],[11]),([12],[12]),([13,12],[12,13]),([14,12,12],[12,14]),([12],[12]),([16,12],[12,16]),([17,15,12],[12,17]),([12],[12]),([19,12],[12,19]),([20,18,12],[12,20]),([12],[12]),([22,12],[12,22]),([23,21,12],[12,23]),([15,18,21,24,24,12],[12,15,18,21,24]),([12,25],[12,25]),([26,25,0,1,2,3,4,5,6,7,8,9,10,11,12,13,14,15,16,17,18,19,20,21,22,23,24,25,26],[26])])
def impl_Conflict.B7:List Nat:=[0,1,0,4,15,31,63,127,63,319,1023,2047,4095,8191,16383,32767,8191,73727,262143,8191,532479,2097151,8191,4202495,16777215,33554431,67108863,134217727]
theorem impl_Conflict.tab7:rtab .any (opsOf Tryz.f71 7)=impl_Conflict.T7:=by kernel_rfl
theorem impl_Conflict.bits7:waitsOk impl_Conflict.T7.2 impl_Conflict.B7=true:=by kernel_rfl
theorem impl_Conflict.calls(k:Nat)(q:Int)(l:Int)(d:Int)(m:Int)(s:Int)(p:Int)(g:Int)(o:Int)(r:Bool)(w:World)(h:impl_Conflict.f k q l d m s p g o=some r):
  Calls Tryz.prog 71 #[.agg #[.int .i64 q,.int .i64 l,.int .i64 d,.int .i64 m],.agg #[.int .i64 s,.int .i64 p,.int .i64 g,.int .i64 o]] w fun e w'=>e= .returned (.bool r)∧Below w.heap.size w w':=by
 have:=Tryz.underlying76;have HB:=S.a (Below.refl w.heap.size w);have H:((impl_IsPath.f q l d m).bind fun R=>(if R=true then((impl_IsPath.f s p g o).bind fun T=>(if T=true then(if l=2 then(impl_Conflict.j0 k (p==2) q l d m s p g o)else(impl_Conflict.j0 k false q l d m s p g o))else(impl_Conflict.j0 k true q l d m s p g o)))else(impl_Conflict.j0 k true q l d m s p g o)))=some r:=h;clear h;have U:=S.a H;clear H;go_enter Tryz.func71,Tryz.ntmps71;go_upto_region 1 with(first|((with_reducible refine S.gN 2 ?_);refine S.bx 2 (cs:=#[.int .i64 q,.int .i64 l,.int .i64 d,.int .i64 m]) (t:=76) ?_;intro V hg w4 hbox hb;have b:=S.a hbox;have:=S.geA hg;have:=S.geA hg;replace HB:=S.sA hb;clear hb hbox hg)|((with_reducible refine S.gN 3 ?_);refine S.bx 3 (cs:=#[.int .i64 s,.int .i64 p,.int .i64 g,.int .i64 o]) (t:=76) ?_;intro W hg w5 hbox hb;have c:=S.a hbox;have:=S.geG hg;have:=S.geG hg;replace HB:=S.sG hb;have i:=S.nl hg b;have j:=S.ng hg b;replace b:=S.kb b hb;clear hb hbox hg));(try simp only[Act.put,List.setIfInBounds_toArray,List.set_cons_zero,List.set_cons_succ]);go_cut [22] (fun an wc=> ∃(kq:Nat) (v:Bool),an= .bool v∧Aside0 (impl_Conflict.j0 kq v q l d m s p g o=some r)∧Aside0 (kq≤k)∧Aside0 (wc.heap[V]?=some (.cells #[.int .i64 q,.int .i64 l,.int .i64 d,.int .i64 m] 76 (0,0)))∧Aside0 (wc.heap[W]?=some (.cells #[.int .i64 s,.int .i64 p,.int .i64 g,.int .i64 o] 76 (0,0)))∧Aside0 (Below w.heap.size w wc))
 case first=>
  have H:=U.1;clear U;replace H:=S.bd H;obtain⟨R,A6,H⟩:=H;(try dsimp only at H);replace H:=S.db H;rcases H with⟨rfl,H⟩|⟨rfl,H⟩
  ·replace H:=S.bd H;obtain⟨T,A8,H⟩:=H;(try dsimp only at H);replace H:=S.db H;rcases H with⟨rfl,H⟩|⟨rfl,H⟩
   ·by_cases x:l=2
    ·rw[if_pos x]at H;have u:(l==2)=true:=beq_iff_eq.mpr x;have X:(l !=2)=false:=bne_eq_false_iff_eq.mpr x;clear x;(first|rw[u]|(simp only[i64_w,i32_w];rw[u])|skip);have H':=S.a H;clear H;have:=i.1;have:=j.1;obtain⟨_,_,_,_,_,_,_,_⟩:=S.c4 b.1;go_wp2_with (first|((with_reducible refine S.gF 100 ?_);refine S.gQ 6 Tryz.func100 #[.agg #[.int .i64 q,.int .i64 l,.int .i64 d,.int .i64 m]] (impl_IsPath.calls q l d m true _ A6.1) ?_;rintro e a1 ⟨rfl,hb⟩;refine⟨_,rfl,?_⟩;replace b:=S.kb b hb;replace c:=S.kb c hb;replace HB:=S.sG hb;(try clear hb);obtain⟨_,_,_,_,_,_,_,_⟩:=S.c4 c.1)|(go_at_call 100;(with_reducible refine(impl_IsPath.calls s p g o true _ A8.1).mono ?_);rintro e a2 ⟨rfl,hb⟩;replace b:=S.kb b hb;replace c:=S.kb c hb;replace HB:=S.sG hb;(try clear hb);obtain⟨_,_,_,_,_,_,_,_⟩:=S.c4 b.1;obtain⟨_,_,_,_,_,_,_,_⟩:=S.c4 c.1));go_meet
     case rel=>exact⟨_,((p==2)),S.eA,H',S.le,⟨S.uB b.1⟩,⟨S.uB c.1⟩,⟨S.bG⟩⟩
    ·rw[if_neg x]at H;have u:(l==2)=false:=beq_eq_false_iff_ne.mpr x;have X:(l !=2)=true:=bne_iff_ne.mpr x;(first|rw[u]|(simp only[i64_w,i32_w];rw[u])|skip);have H':=S.a H;clear H;have:=i.1;have:=j.1;obtain⟨_,_,_,_,_,_,_,_⟩:=S.c4 b.1;go_wp2_with (first|((with_reducible refine S.gF 100 ?_);refine S.gQ 6 Tryz.func100 #[.agg #[.int .i64 q,.int .i64 l,.int .i64 d,.int .i64 m]] (impl_IsPath.calls q l d m true _ A6.1) ?_;rintro e a3 ⟨rfl,hb⟩;refine⟨_,rfl,?_⟩;replace b:=S.kb b hb;replace c:=S.kb c hb;replace HB:=S.sG hb;(try clear hb);obtain⟨_,_,_,_,_,_,_,_⟩:=S.c4 c.1)|(go_at_call 100;(with_reducible refine(impl_IsPath.calls s p g o true _ A8.1).mono ?_);rintro e a4 ⟨rfl,hb⟩;replace b:=S.kb b hb;replace c:=S.kb c hb;replace HB:=S.sG hb;(try clear hb);obtain⟨_,_,_,_,_,_,_,_⟩:=S.c4 b.1));go_meet
     case rel=>exact⟨_,(false),S.eA,H',S.le,⟨S.uB b.1⟩,⟨S.uB c.1⟩,⟨S.bG⟩⟩
   ·have H':=S.a H;clear H;have:=i.1;have:=j.1;obtain⟨_,_,_,_,_,_,_,_⟩:=S.c4 b.1;go_wp2_with (first|((with_reducible refine S.gF 100 ?_);refine S.gQ 6 Tryz.func100 #[.agg #[.int .i64 q,.int .i64 l,.int .i64 d,.int .i64 m]] (impl_IsPath.calls q l d m true _ A6.1) ?_;rintro e a5 ⟨rfl,hb⟩;refine⟨_,rfl,?_⟩;replace b:=S.kb b hb;replace c:=S.kb c hb;replace HB:=S.sG hb;(try clear hb);obtain⟨_,_,_,_,_,_,_,_⟩:=S.c4 c.1)|(go_at_call 100;(with_reducible refine(impl_IsPath.calls s p g o false _ A8.1).mono ?_);rintro e a6 ⟨rfl,hb⟩;replace b:=S.kb b hb;replace c:=S.kb c hb;replace HB:=S.sG hb;(try clear hb)));go_meet
    case rel=>exact⟨_,(true),S.eA,H',S.le,⟨S.uB b.1⟩,⟨S.uB c.1⟩,⟨S.bG⟩⟩
  ·have H':=S.a H;clear H;have:=i.1;have:=j.1;obtain⟨_,_,_,_,_,_,_,_⟩:=S.c4 b.1;go_wp2_with (first|((with_reducible refine S.gF 100 ?_);refine S.gQ 6 Tryz.func100 #[.agg #[.int .i64 q,.int .i64 l,.int .i64 d,.int .i64 m]] (impl_IsPath.calls q l d m false _ A6.1) ?_;rintro e a7 ⟨rfl,hb⟩;refine⟨_,rfl,?_⟩;replace b:=S.kb b hb;replace c:=S.kb c hb;replace HB:=S.sG hb;(try clear hb)));go_meet
   case rel=>exact⟨_,(true),S.eA,H',S.le,⟨S.uB b.1⟩,⟨S.uB c.1⟩,⟨S.bG⟩⟩
 case rest=>
  clear U;obtain⟨kq,v,rfl,HA,_,b,c,HB⟩:=hcut
  cases kq with
  |zero=>exact absurd HA.1 (by simp[impl_Conflict.j0])
  |succ ak=>
   have H:=HA.1;clear HA;simp only[impl_Conflict.j0]at H;replace H:=S.db H;rcases H with⟨rfl,H⟩|⟨rfl,H⟩
   ·obtain rfl:=Option.some.inj H;go_wp2;go_ret;exact⟨S.eW,S.bG⟩
   ·by_cases y:l=2
    ·rw[if_pos y]at H;have Y:(l==2)=true:=beq_iff_eq.mpr y;have Z:(l !=2)=false:=bne_eq_false_iff_eq.mpr y;clear y
     by_cases z:g=d
     ·rw[if_pos z]at H;have aa:(g==d)=true:=beq_iff_eq.mpr z;have ab:(g !=d)=false:=bne_eq_false_iff_eq.mpr z;clear z;obtain rfl:=Option.some.inj H;have:=i.1;have:=j.1;obtain⟨_,_,_,_,_,_,_,_⟩:=S.c4 b.1;obtain⟨_,_,_,_,_,_,_,_⟩:=S.c4 c.1;go_wp2;go_ret;exact⟨S.eW,S.bG⟩
     ·rw[if_neg z]at H;have aa:(g==d)=false:=beq_eq_false_iff_ne.mpr z;have ab:(g !=d)=true:=bne_iff_ne.mpr z;obtain rfl:=Option.some.inj H;have:=i.1;have:=j.1;obtain⟨_,_,_,_,_,_,_,_⟩:=S.c4 b.1;obtain⟨_,_,_,_,_,_,_,_⟩:=S.c4 c.1;go_wp2;go_ret;exact⟨S.eW,S.bG⟩
    ·rw[if_neg y]at H;have Y:(l==2)=false:=beq_eq_false_iff_ne.mpr y;have Z:(l !=2)=true:=bne_iff_ne.mpr y
     by_cases A:p=2
     ·rw[if_pos A]at H;have ac:(p==2)=true:=beq_iff_eq.mpr A;have ad:(p !=2)=false:=bne_eq_false_iff_eq.mpr A;clear A
      by_cases B:d=g
      ·rw[if_pos B]at H;have ae:(d==g)=true:=beq_iff_eq.mpr B;have af:(d !=g)=false:=bne_eq_false_iff_eq.mpr B;clear B;obtain rfl:=Option.some.inj H;have:=i.1;have:=j.1;obtain⟨_,_,_,_,_,_,_,_⟩:=S.c4 b.1;obtain⟨_,_,_,_,_,_,_,_⟩:=S.c4 c.1;go_wp2;go_ret;exact⟨S.eW,S.bG⟩
      ·rw[if_neg B]at H;have ae:(d==g)=false:=beq_eq_false_iff_ne.mpr B;have af:(d !=g)=true:=bne_iff_ne.mpr B;obtain rfl:=Option.some.inj H;have:=i.1;have:=j.1;obtain⟨_,_,_,_,_,_,_,_⟩:=S.c4 b.1;obtain⟨_,_,_,_,_,_,_,_⟩:=S.c4 c.1;go_wp2;go_ret;exact⟨S.eW,S.bG⟩
     ·rw[if_neg A]at H;have ac:(p==2)=false:=beq_eq_false_iff_ne.mpr A;have ad:(p !=2)=true:=bne_iff_ne.mpr A
      by_cases C:d=g
      ·rw[if_pos C]at H;have ag:(d==g)=true:=beq_iff_eq.mpr C;have ah:(d !=g)=false:=bne_eq_false_iff_eq.mpr C;clear C;replace H:=S.bd H;obtain⟨E,ao,H⟩:=H;(try dsimp only at H);replace H:=S.bd H;obtain⟨F,ap,H⟩:=H;(try dsimp only at H);replace H:=S.bd H;obtain⟨G,aq,H⟩:=H;(try dsimp only at H);replace H:=S.bd H;obtain⟨I,ar,H⟩:=H;(try dsimp only at H);replace H:=S.bd H;obtain⟨al,au,H⟩:=H;(try dsimp only at H);obtain rfl:=Option.some.inj H;have:=i.1;have:=j.1;obtain⟨_,_,_,_,_,_,_,_⟩:=S.c4 b.1;obtain⟨_,_,_,_,_,_,_,_⟩:=S.c4 c.1;try go_wp2
       replace b:=S.a (blk_drew b.1);replace c:=S.a (blk_drew c.1);replace HB:=S.a (below_drew1 HB.1);refine S.st (n:=28) (ds:=[]) (S.bs 268435456) (fun w_ h_=>have x_:=S.d4 (S.Q h_ b.1) (S.e4 (S.Q h_ c.1));x_) (fun hHeld=>?_);refine with_tabW impl_Conflict.tab7 impl_Conflict.bits7 (fun HT_ HW_=>?_);generalize wc.drew=a8 at b c HB hHeld⊢;refine S.pS 0 53 ?_;refine S.pS 2 55 ?_;refine S.tK 1 54 (S.bs 268435463) ?_;refine S.tK 3 56 (S.bs 268435471) ?_;refine S.pS 4 57 ?_;refine S.pS 5 58 ?_;refine S.pU 6 59 ?_;refine S.pU 7 60 ?_;refine S.pU 8 61 ?_;refine S.pU 9 62 ?_;refine S.pU 10 63 ?_;refine S.pS 11 64 ?_;refine S.pS 12 65 ?_;refine S.pS 13 66 ?_;refine S.pS 16 69 ?_;refine S.pS 19 72 ?_;refine S.pS 22 75 ?_;refine S.tK 14 67 (S.bs 273252351) ?_;refine S.tK 17 70 (S.bs 273383423) ?_;refine S.tK 20 73 (S.bs 274431999) ?_;refine S.tK 23 76 (S.bs 282820607) ?_;refine S.oN 15 68 (S.bs 282853375) (fun K hK=>?_);refine S.go Tryz.func104 #[.int .i64 d] ?_
       with_reducible refine(impl_InPlace.calls d E _ ao.1).mono ?_
       rintro e w' ⟨rfl,⟨nd,rfl⟩⟩;refine⟨_,rfl,?_⟩;refine hK.out _ _ (S.d4 b.1 (S.e4 c.1)) (fun hHeld=>?_);clear hK K;refine S.nm 68 ?_;refine S.oN 18 71 (S.bs 283115519) (fun K hK=>?_);refine S.go Tryz.func105 #[.int .i64 m] ?_
       with_reducible refine(impl_OutPlace.calls m F _ ap.1).mono ?_
       rintro e w' ⟨rfl,⟨nd,rfl⟩⟩;refine⟨_,rfl,?_⟩;refine hK.out _ _ (S.d4 b.1 (S.e4 c.1)) (fun hHeld=>?_);clear hK K;refine S.nm 71 ?_;refine S.oN 21 74 (S.bs 285212671) (fun K hK=>?_);refine S.go Tryz.func104 #[.int .i64 g] ?_
       with_reducible refine(impl_InPlace.calls g G _ aq.1).mono ?_
       rintro e w' ⟨rfl,⟨nd,rfl⟩⟩;refine⟨_,rfl,?_⟩;refine hK.out _ _ (S.d4 b.1 (S.e4 c.1)) (fun hHeld=>?_);clear hK K;refine S.nm 74 ?_;refine S.oN 24 77 (S.bs 301989887) (fun K hK=>?_);refine S.go Tryz.func105 #[.int .i64 o] ?_
       with_reducible refine(impl_OutPlace.calls o I _ ar.1).mono ?_
       rintro e w' ⟨rfl,⟨nd,rfl⟩⟩;refine⟨_,rfl,?_⟩;refine hK.out _ _ (S.d4 b.1 (S.e4 c.1)) (fun hHeld=>?_);clear hK K;refine S.nm 77 ?_;refine S.oN 25 78 (S.bs 335544319) (fun K hK=>?_);refine S.go Tryz.func103 #[.int .i64 E,.int .i64 F,.int .i64 G,.int .i64 I] ?_
       with_reducible refine(impl_Interleave.calls ak E F G I al _ au.1).mono ?_
       rintro e a9 ⟨rfl,hb⟩;refine⟨_,rfl,?_⟩;replace b:=S.kb b hb;replace c:=S.kb c hb;replace HB:=S.sG hb;(try clear hb);(try clear av);(try clear hk);(try clear hi);refine hK.out _ _ (S.d4 b.1 (S.e4 c.1)) (fun hHeld=>?_);clear hK K;refine S.nm 78 ?_;refine S.pS 26 79 ?_;refine S.pS 27 4 ?_;refine done_ (done_of HT_.1 (by kernel_rfl)) ?_;try go_wp2
       go_ret;exact⟨S.eW,S.bG⟩
      ·rw[if_neg C]at H;have ag:(d==g)=false:=beq_eq_false_iff_ne.mpr C;have ah:(d !=g)=true:=bne_iff_ne.mpr C
       by_cases D:m=o
       ·rw[if_pos D]at H;have ai:(m==o)=true:=beq_iff_eq.mpr D;have aj:(m !=o)=false:=bne_eq_false_iff_eq.mpr D;clear D;obtain rfl:=Option.some.inj H;have:=i.1;have:=j.1;obtain⟨_,_,_,_,_,_,_,_⟩:=S.c4 b.1;obtain⟨_,_,_,_,_,_,_,_⟩:=S.c4 c.1;try go_wp2
        replace b:=S.a (blk_drew b.1);replace c:=S.a (blk_drew c.1);replace HB:=S.a (below_drew1 HB.1);refine S.st (n:=28) (ds:=[]) (S.bs 268435456) (fun w_ h_=>have x_:=S.d4 (S.Q h_ b.1) (S.e4 (S.Q h_ c.1));x_) (fun hHeld=>?_);refine with_tabW impl_Conflict.tab7 impl_Conflict.bits7 (fun HT_ HW_=>?_);generalize wc.drew=aA at b c HB hHeld⊢;refine S.pS 0 53 ?_;refine S.pS 2 55 ?_;refine S.tK 1 54 (S.bs 268435463) ?_;refine S.tK 3 56 (S.bs 268435471) ?_;refine S.pS 4 57 ?_;refine S.pS 5 58 ?_;refine S.pS 6 59 ?_;refine S.pS 8 61 ?_;refine S.tK 7 60 (S.bs 268435967) ?_;refine S.tK 9 62 (S.bs 268436479) ?_;refine S.pS 10 63 ?_;refine S.pS 11 64 ?_;refine S.pS 12 65 ?_;refine S.pU 13 66 ?_;refine S.pU 14 67 ?_;refine S.pU 15 68 ?_;refine S.pU 16 69 ?_;refine S.pU 17 70 ?_;refine S.pU 18 71 ?_;refine S.pU 19 72 ?_;refine S.pU 20 73 ?_;refine S.pU 21 74 ?_;refine S.pU 22 75 ?_;refine S.pU 23 76 ?_;refine S.pU 24 77 ?_;refine S.pU 25 78 ?_;refine S.pS 26 79 ?_;refine S.pS 27 4 ?_;refine done_ (done_of HT_.1 (by kernel_rfl)) ?_;try go_wp2
        go_ret;exact⟨S.eW,S.bG⟩
       ·rw[if_neg D]at H;have ai:(m==o)=false:=beq_eq_false_iff_ne.mpr D;have aj:(m !=o)=true:=bne_iff_ne.mpr D;replace H:=S.bd H;obtain⟨J,aw,H⟩:=H;(try dsimp only at H);replace H:=S.bd H;obtain⟨L,ax,H⟩:=H;(try dsimp only at H);replace H:=S.bd H;obtain⟨M,ay,H⟩:=H;(try dsimp only at H);replace H:=S.bd H;obtain⟨O,az,H⟩:=H;(try dsimp only at H);replace H:=S.bd H;obtain⟨am,a0,H⟩:=H;(try dsimp only at H);obtain rfl:=Option.some.inj H;have:=i.1;have:=j.1;obtain⟨_,_,_,_,_,_,_,_⟩:=S.c4 b.1;obtain⟨_,_,_,_,_,_,_,_⟩:=S.c4 c.1;try go_wp2
        replace b:=S.a (blk_drew b.1);replace c:=S.a (blk_drew c.1);replace HB:=S.a (below_drew1 HB.1);refine S.st (n:=28) (ds:=[]) (S.bs 268435456) (fun w_ h_=>have x_:=S.d4 (S.Q h_ b.1) (S.e4 (S.Q h_ c.1));x_) (fun hHeld=>?_);refine with_tabW impl_Conflict.tab7 impl_Conflict.bits7 (fun HT_ HW_=>?_);generalize wc.drew=aB at b c HB hHeld⊢;refine S.pS 0 53 ?_;refine S.pS 2 55 ?_;refine S.tK 1 54 (S.bs 268435463) ?_;refine S.tK 3 56 (S.bs 268435471) ?_;refine S.pS 4 57 ?_;refine S.pS 5 58 ?_;refine S.pS 6 59 ?_;refine S.pS 8 61 ?_;refine S.tK 7 60 (S.bs 268435967) ?_;refine S.tK 9 62 (S.bs 268436479) ?_;refine S.pS 10 63 ?_;refine S.pS 11 64 ?_;refine S.pS 12 65 ?_;refine S.pS 13 66 ?_;refine S.pS 16 69 ?_;refine S.pS 19 72 ?_;refine S.pS 22 75 ?_;refine S.tK 14 67 (S.bs 273252351) ?_;refine S.tK 17 70 (S.bs 273383423) ?_;refine S.tK 20 73 (S.bs 274431999) ?_;refine S.tK 23 76 (S.bs 282820607) ?_;refine S.oN 15 68 (S.bs 282853375) (fun K hK=>?_);refine S.go Tryz.func104 #[.int .i64 d] ?_
        with_reducible refine(impl_InPlace.calls d J _ aw.1).mono ?_
        rintro e w' ⟨rfl,⟨nd,rfl⟩⟩;refine⟨_,rfl,?_⟩;refine hK.out _ _ (S.d4 b.1 (S.e4 c.1)) (fun hHeld=>?_);clear hK K;refine S.nm 68 ?_;refine S.oN 18 71 (S.bs 283115519) (fun K hK=>?_);refine S.go Tryz.func105 #[.int .i64 m] ?_
        with_reducible refine(impl_OutPlace.calls m L _ ax.1).mono ?_
        rintro e w' ⟨rfl,⟨nd,rfl⟩⟩;refine⟨_,rfl,?_⟩;refine hK.out _ _ (S.d4 b.1 (S.e4 c.1)) (fun hHeld=>?_);clear hK K;refine S.nm 71 ?_;refine S.oN 21 74 (S.bs 285212671) (fun K hK=>?_);refine S.go Tryz.func104 #[.int .i64 g] ?_
        with_reducible refine(impl_InPlace.calls g M _ ay.1).mono ?_
        rintro e w' ⟨rfl,⟨nd,rfl⟩⟩;refine⟨_,rfl,?_⟩;refine hK.out _ _ (S.d4 b.1 (S.e4 c.1)) (fun hHeld=>?_);clear hK K;refine S.nm 74 ?_;refine S.oN 24 77 (S.bs 301989887) (fun K hK=>?_);refine S.go Tryz.func105 #[.int .i64 o] ?_
        with_reducible refine(impl_OutPlace.calls o O _ az.1).mono ?_
        rintro e w' ⟨rfl,⟨nd,rfl⟩⟩;refine⟨_,rfl,?_⟩;refine hK.out _ _ (S.d4 b.1 (S.e4 c.1)) (fun hHeld=>?_);clear hK K;refine S.nm 77 ?_;refine S.oN 25 78 (S.bs 335544319) (fun K hK=>?_);refine S.go Tryz.func103 #[.int .i64 J,.int .i64 L,.int .i64 M,.int .i64 O] ?_
        with_reducible refine(impl_Interleave.calls ak J L M O am _ a0.1).mono ?_
        rintro e aC ⟨rfl,hb⟩;refine⟨_,rfl,?_⟩;replace b:=S.kb b hb;replace c:=S.kb c hb;replace HB:=S.sG hb;(try clear hb);(try clear av);(try clear hk);(try clear hi);refine hK.out _ _ (S.d4 b.1 (S.e4 c.1)) (fun hHeld=>?_);clear hK K;refine S.nm 78 ?_;refine S.pS 26 79 ?_;refine S.pS 27 4 ?_;refine done_ (done_of HT_.1 (by kernel_rfl)) ?_;try go_wp2
        go_ret;exact⟨S.eW,S.bG⟩
mutual
def impl_IsTogether.l0:Nat→List (S76)→List Int→List Int→Int→Int→Option (Bool)
 |0,_,_,_,_,_=>none
 |k+1,g,e,c,d,a=>if a<d then(if 0≤a then(if a<(c.length:Int)then((impl_FindPath.f g (rd c a)).bind fun b=>(if b<0 then(impl_IsTogether.j1 k g e a b c d a true)else(if a>0 then(if 0≤(wrap64 (a-1))then(if(wrap64 (a-1))<(e.length:Int)then(impl_IsTogether.j1 k g e a b c d a (decide ((rd c a)≤(rd e (wrap64 (a-1))))))else(none))else(none))else(impl_IsTogether.j1 k g e a b c d a false))))else(none))else(none))else(some true)
def impl_IsTogether.j1:Nat→List (S76)→List Int→Int→Int→List Int→Int→Int→Bool→Option (Bool)
 |0,_,_,_,_,_,_,_,_=>none
 |k+1,g,a,b,h,c,d,e,f=>if f=true then(some false)else(if 0≤b then(if b≤(a.length:Int)then(impl_IsTogether.l1 k g a h c d e (a.take (b:Int).toNat) ((a.take (b:Int).toNat).length:Int) 0)else(none))else(none))
def impl_IsTogether.l1:Nat→List (S76)→List Int→Int→List Int→Int→Int→List Int→Int→Int→Option (Bool)
 |0,_,_,_,_,_,_,_,_,_=>none
 |k+1,b,m,d,g,h,i,e,j,c=>if c<j then(if 0≤c then(if c<(e.length:Int)then(if 0≤d then(if d<(b.length:Int)then((impl_FindPath.f b (rd e c)).bind fun a=>(if 0≤a then(if a<(b.length:Int)then((impl_Conflict.f k ((rd_T76 b d).f0) ((rd_T76 b d).f1) ((rd_T76 b d).f2) ((rd_T76 b d).f3) ((rd_T76 b a).f0) ((rd_T76 b a).f1) ((rd_T76 b a).f2) ((rd_T76 b a).f3)).bind fun l=>(if l=true then(some false)else(impl_IsTogether.l1 k b m d g h i e j (wrap64 (c+1)))))else(none))else(none)))else(none))else(none))else(none))else(none))else(impl_IsTogether.l0 k b m g h (wrap64 (i+1)))
end
def impl_IsTogether.f(k:Nat)(c:List (S76))(b:List Int):Option (Bool):=(impl_ArePaths.f k c).bind fun a=>(if a=true then(impl_IsTogether.l0 k c b b (b.length:Int) 0)else(some false))
def impl_IsTogether.T12:Bool×List (List Nat×List Nat):=(true,[([],[]),([],[]),([0,1],[0,1]),([2],[2]),([],[]),([],[]),([],[]),([5,6],[5,6]),([4,7],[4,7]),([8],[8]),([3,9,7],[3,9])])
def impl_IsTogether.B12:List Nat:=[0,0,3,7,0,0,0,96,240,496,1023]
theorem impl_IsTogether.tab12:rtab .any (opsOf Tryz.f65 12)=impl_IsTogether.T12:=by kernel_rfl
theorem impl_IsTogether.bits12:waitsOk impl_IsTogether.T12.2 impl_IsTogether.B12=true:=by kernel_rfl
theorem impl_IsTogether.calls(k:Nat)(A0:Option Addr)(c0:Nat)(i:List (S76))(A1:Option Addr)(c1:Nat)(G:List Int)(r:Bool)(w:World)(aK:Kd.C k76 w A0 i.length i)(aL:i.length≤c0)(aM:Kd.C (Kd.int .i64) w A1 G.length G)(aN:G.length≤c1)(h:impl_IsTogether.f k i G=some r):
  Calls Tryz.prog 65 #[.slice A0 i.length c0,.slice A1 G.length c1] w fun e w'=>e= .returned (.bool r)∧Below w.heap.size w w':=by
 have:=Tryz.underlying76;have X:=S.a aK;have al:=S.a aL;clear aK aL;have aA:=S.a aM;have aT:=S.a aN;clear aM aN;have HB:=S.a (Below.refl w.heap.size w);have H:((impl_ArePaths.f k i).bind fun a7=>(if a7=true then(impl_IsTogether.l0 k i G G (G.length:Int) 0)else(some false)))=some r:=h;clear h;replace H:=S.bd H;obtain⟨a7,A3,H⟩:=H;(try dsimp only at H);replace H:=S.db H;rcases H with⟨rfl,H⟩|⟨rfl,H⟩
 ·have H':=S.a H;clear H;go_enter Tryz.func65,Tryz.ntmps65;go_wp2_with (first|((with_reducible refine S.gF 68 ?_);refine S.gQ 11 Tryz.func68 #[.slice A0 i.length c0] (impl_ArePaths.calls k _ _ i true _ ?s1 al.1 A3.1) ?_;(case s1=>exact S.cD X.1);rintro e w5 ⟨rfl,hb⟩;refine⟨_,rfl,?_⟩;replace HB:=S.sA hb;(try clear hb)));go_loopg [15] k (fun kq aU w'=> ∃(b:Int),aU= .int .i64 b∧Aside0 (impl_IsTogether.l0 kq i G G (G.length:Int) b=some r)∧Aside0 (kq≤k)∧Aside0 (Below w.heap.size w w'))
  case atStart=>exact⟨(0),S.eA,H',⟨Nat.le_refl _⟩,⟨S.bA⟩⟩
  case round=>
   clear H';try clear c1
   try clear c4
   obtain⟨b,rfl,HA,ad,HB⟩:=hrel
   cases gk with
   |zero=>exact absurd HA.1 (by simp[impl_IsTogether.l0])
   |succ k1=>
    have H:=HA.1;clear HA;simp only[impl_IsTogether.l0]at H;replace H:=S.dc H;rcases H with⟨H,am⟩|⟨H,am⟩
    ·by_cases c7:0≤b
     ·rw[if_pos c7]at H;have a8:decide (0≤b)=true:=decide_eq_true c7;clear c7
      by_cases c8:b<(G.length:Int)
      ·rw[if_pos c8]at H;have a9:decide (b<(G.length:Int))=true:=decide_eq_true c8;clear c8;replace H:=S.bd H;obtain⟨c,A9,H⟩:=H;(try dsimp only at H);have an:=S.a H;clear H;have aa:0≤(b:Int):=S.oD;have ab:b<(G.length:Int):=S.oD;obtain⟨Y,aO,L⟩:=Kd.at_int aA.1 b aa ab;cases aO;replace L:=S.hb HB L;replace aa:=eq_true aa;replace ab:=eq_true ab;go_upto_region 7 with(first|((with_reducible refine S.gF 69 ?_);refine S.gQ 22 Tryz.func69 #[.slice A0 i.length c0,.int .i64 (rd G b)] (impl_FindPath.calls _ _ i (rd G b) c _ ?s1 al.1 A9.1) ?_;(case s1=>exact S.cA X.1);rintro e bg ⟨rfl,hb⟩;refine⟨_,rfl,?_⟩;replace HB:=S.sA hb;(try clear hb)));(try simp only[Act.put,List.setIfInBounds_toArray,List.set_cons_zero,List.set_cons_succ]);go_cut [37] (fun aV wc=> ∃(kq:Nat) (ae:Bool),aV= .bool ae∧Aside0 (impl_IsTogether.j1 kq i G b c G (G.length:Int) b ae=some r)∧Aside0 (kq≤k1)∧Aside0 (Below w.heap.size w wc))
       case first=>
        have H:=an.1;clear an;replace H:=S.dc H;rcases H with⟨H,M⟩|⟨H,M⟩
        ·(first|rw[M]|(simp only[i64_w,i32_w];rw[M])|skip);have H':=S.a H;clear H;go_wp2;go_meet
         case rel=>exact⟨_,(true),S.eA,H',⟨by have:=ad.1;first|omega|exact Nat.le_refl _⟩,⟨S.bA⟩⟩
        ·(first|rw[M]|(simp only[i64_w,i32_w];rw[M])|skip)
         by_cases ai:b>0
         ·rw[if_pos ai]at H;have aB:decide (0<b)=true:=decide_eq_true ai;clear ai;obtain⟨F,Z⟩: ∃j_:Int,(wrap64 (b-1))=j_:=⟨_,rfl⟩;replace H:(if 0≤(F)then(if(F)<(G.length:Int)then(impl_IsTogether.j1 k1 i G b c G (G.length:Int) b (decide ((rd G b)≤(rd G (F)))))else(none))else(none))=some r:=by first|(rw[Z]at H;exact H)|(simp only[Z]at H⊢;exact H)
          have hji14w:(IntKind.i64.wrap (b-1))=F:=(i64_w _).trans Z
          by_cases ax:0≤(F)
          ·rw[if_pos ax]at H;have aW:decide (0≤(F))=true:=decide_eq_true ax;clear ax
           by_cases ay:(F)<(G.length:Int)
           ·rw[if_pos ay]at H;have aX:decide ((F)<(G.length:Int))=true:=decide_eq_true ay;clear ay;have H':=S.a H;clear H;have ao:0≤((F):Int):=S.oD;have ap:(F)<(G.length:Int):=S.oD;obtain⟨aC,aP,ac⟩:=Kd.at_int aA.1 (F) ao ap;obtain rfl:Y=aC:=(by injection aP);replace ac:=S.hb HB ac;replace ao:=eq_true ao;replace ap:=eq_true ap;go_wp2;go_meet
            case rel=>exact⟨_,(decide ((rd G b)≤(rd G (F)))),(by first|rfl|(simp;done)|(simp only[←Z]<;>(first|rfl|simp))|(simp[*];done)),H',⟨by have:=ad.1;first|omega|exact Nat.le_refl _⟩,⟨S.bA⟩⟩
           ·rw[if_neg ay]at H;exact absurd H (by simp)
          ·rw[if_neg ax]at H;exact absurd H (by simp)
         ·rw[if_neg ai]at H;have aB:decide (0<b)=false:=decide_eq_false ai;clear ai;have H':=S.a H;clear H;go_wp2;go_meet
          case rel=>exact⟨_,(false),S.eA,H',⟨by have:=ad.1;first|omega|exact Nat.le_refl _⟩,⟨S.bA⟩⟩
       case rest=>
        clear an;try clear c1
        try clear c4
        try clear c6
        try clear am
        try clear c7
        try clear a8
        try clear c8
        try clear a9
        try clear L
        try clear aa
        try clear ab
        obtain⟨kq,ae,rfl,HA,az,HB⟩:=hcut
        cases kq with
        |zero=>exact absurd HA.1 (by simp[impl_IsTogether.j1])
        |succ aQ=>
         have H:=HA.1;clear HA;simp only[impl_IsTogether.j1]at H;replace H:=S.db H;rcases H with⟨rfl,H⟩|⟨rfl,H⟩
         ·obtain rfl:=Option.some.inj H;go_wp2;go_ret;exact⟨S.eW,S.bA⟩
         ·by_cases aj:0≤b
          ·rw[if_pos aj]at H;have aD:=eq_true aj;have aE:decide (0≤b)=true:=decide_eq_true aj;clear aj
           by_cases ak:b≤(G.length:Int)
           ·rw[if_pos ak]at H;have aF:=eq_true ak;have aG:decide (b≤(G.length:Int))=true:=decide_eq_true ak;clear ak;have H':=S.a H;clear H;obtain⟨_,aq,_,ar,_⟩:=info_parts info3;obtain⟨hcut20,hA20,hC20⟩:=print_take_of (P:=Tryz.prog) (Value.int .i64) 0 23 3 .i64 Tryz.underlying23 aq ar (some Y) c1 G b (S.oD) (S.oD) aT.1;have af:=S.a (Kd.C_of_reads (h1:=fun _=>rfl) (hA20 _ (Kd.reads_of_C aA.1)));have aH:=S.a hC20;clear hA20 hC20 aq ar;generalize G.take (b:Int).toNat=J at H' af aH hcut20⊢;go_wp2;go_loopg [42] aQ (fun kq aY w'=> ∃(g:Int),aY= .int .i64 g∧Aside0 (impl_IsTogether.l1 kq i G c G (G.length:Int) b J (J.length:Int) g=some r)∧Aside0 (kq≤aQ)∧Aside0 (Below w.heap.size w w'))
            case atStart=>exact⟨(0),S.eA,H',⟨Nat.le_refl _⟩,⟨S.bA⟩⟩
            case round=>
             clear H';try clear c1
             try clear c4
             try clear c6
             try clear am
             try clear c7
             try clear a8
             try clear c8
             try clear a9
             try clear bh
             try clear aj
             try clear aD
             try clear aE
             try clear ak
             try clear aF
             try clear aG
             try clear L
             try clear aa
             try clear ab
             obtain⟨g,rfl,HA,a0,HB⟩:=hrel
             cases gk with
             |zero=>exact absurd HA.1 (by simp[impl_IsTogether.l1])
             |succ k3=>
              have H:=HA.1;clear HA;simp only[impl_IsTogether.l1]at H;replace H:=S.dc H;rcases H with⟨H,aI⟩|⟨H,aI⟩
              ·by_cases a1:0≤g
               ·rw[if_pos a1]at H;have aZ:decide (0≤g)=true:=decide_eq_true a1;clear a1
                by_cases a2:g<(J.length:Int)
                ·rw[if_pos a2]at H;have ba:decide (g<(J.length:Int))=true:=decide_eq_true a2;clear a2
                 by_cases a3:0≤c
                 ·rw[if_pos a3]at H;have bb:decide (0≤c)=true:=decide_eq_true a3;clear a3
                  by_cases a4:c<(i.length:Int)
                  ·rw[if_pos a4]at H;have bc:decide (c<(i.length:Int))=true:=decide_eq_true a4;clear a4;replace H:=S.bd H;obtain⟨d,aR,H⟩:=H;(try dsimp only at H)
                   by_cases a5:0≤d
                   ·rw[if_pos a5]at H;have be:decide (0≤d)=true:=decide_eq_true a5;clear a5
                    by_cases a6:d<(i.length:Int)
                    ·rw[if_pos a6]at H;have bf:decide (d<(i.length:Int))=true:=decide_eq_true a6;clear a6;replace H:=S.bd H;obtain⟨_,aS,H⟩:=H;(try dsimp only at H);replace H:=S.db H;rcases H with⟨rfl,H⟩|⟨rfl,H⟩
                     ·obtain rfl:=Option.some.inj H;have N:0≤(g:Int):=S.oD;have O:g<(J.length:Int):=S.oD;obtain⟨ag,au,I⟩:=Kd.at_int af.1 g N O;obtain rfl:Y=ag:=(by injection au);replace I:=S.hb HB I;replace N:=eq_true N;replace O:=eq_true O;try go_wp2
                      replace HB:=S.a (below_drew1 HB.1);have R:0≤(c:Int):=S.oD;have T:c<(i.length:Int):=S.oD;obtain⟨U,av,j,l,m,o⟩:=at_T76 X.1 c R T;have v:=o;have x:=m;have y:=l;have z:=j;cases av;replace j:=S.hb HB j;replace l:=S.hb HB l;replace m:=S.hb HB m;replace o:=S.hb HB o;replace R:=eq_true R;replace T:=eq_true T;have V:0≤(d:Int):=S.oD;have W:d<(i.length:Int):=S.oD;obtain⟨ah,aw,p,s,t,u⟩:=at_T76 X.1 d V W;have A:=u;have B:=t;have D:=s;have E:=p;obtain rfl:U=ah:=(by injection aw);replace p:=S.hb HB p;replace s:=S.hb HB s;replace t:=S.hb HB t;replace u:=S.hb HB u;replace V:=eq_true V;replace W:=eq_true W;refine S.st (n:=11) (ds:=[]) (S.bs 2048) (fun w_ h_=>have x_:=And.intro (S.q h_ (S.hb HB z)) (And.intro (S.q h_ (S.hb HB y)) (And.intro (S.q h_ (S.hb HB x)) (And.intro (S.q h_ (S.hb HB v)) (And.intro (S.q h_ (S.hb HB E)) (And.intro (S.q h_ (S.hb HB D)) (And.intro (S.q h_ (S.hb HB B)) (S.q h_ (S.hb HB A))))))));x_) (fun hHeld=>?_);refine with_tabW impl_IsTogether.tab12 impl_IsTogether.bits12 (fun HT_ HW_=>?_);generalize wr.drew=bi at HB j l m o p s t u hHeld⊢;refine S.pS 0 46 ?_;refine S.pS 1 47 ?_;refine S.pS 2 48 ?_;refine S.pS 4 50 ?_;refine S.pS 5 51 ?_;refine S.pS 6 52 ?_;refine S.tK 3 49 (S.bs 2175) ?_;refine S.oN 7 53 (S.bs 2303) (fun K hK=>?_);refine S.go Tryz.func69 #[.slice (some U) i.length c0,.int .i64 (rd J g)] ?_
                      with_reducible refine(impl_FindPath.calls _ _ i (rd J g) d _ ?s1 ?s2 aR.1).mono ?_
                      (case s1=>exact S.cA X.1);(case s2=>exact al.1);rintro e bj ⟨rfl,hb⟩;refine⟨_,rfl,?_⟩;replace HB:=S.sA hb;(try clear hb);(try clear aJ);(try clear hk);(try clear hi);refine hK.out _ _ ⟨(S.hb HB z:),(S.hb HB y:),(S.hb HB x:),(S.hb HB v:),(S.hb HB E:),(S.hb HB D:),(S.hb HB B:),(S.hb HB A:)⟩ (fun hHeld=>?_);clear hK K;refine S.nm 53 ?_;refine S.pS 8 54 ?_;refine S.tK 9 55 (S.bs 3071) ?_;refine S.oN 10 56 (S.bs 4095) (fun K hK=>?_);refine S.go Tryz.func71 #[.agg #[.int .i64 ((rd_T76 i c).f0),.int .i64 ((rd_T76 i c).f1),.int .i64 ((rd_T76 i c).f2),.int .i64 ((rd_T76 i c).f3)],.agg #[.int .i64 ((rd_T76 i d).f0),.int .i64 ((rd_T76 i d).f1),.int .i64 ((rd_T76 i d).f2),.int .i64 ((rd_T76 i d).f3)]] ?_
                      with_reducible refine(impl_Conflict.calls k3 ((rd_T76 i c).f0) ((rd_T76 i c).f1) ((rd_T76 i c).f2) ((rd_T76 i c).f3) ((rd_T76 i d).f0) ((rd_T76 i d).f1) ((rd_T76 i d).f2) ((rd_T76 i d).f3) true _ aS.1).mono ?_
                      rintro e bk ⟨rfl,hb⟩;refine⟨_,rfl,?_⟩;replace HB:=S.sA hb;(try clear hb);(try clear aJ);(try clear hk);(try clear hi);refine hK.out _ _ ⟨(S.hb HB z:),(S.hb HB y:),(S.hb HB x:),(S.hb HB v:),(S.hb HB E:),(S.hb HB D:),(S.hb HB B:),(S.hb HB A:)⟩ (fun hHeld=>?_);clear hK K;refine S.nm 56 ?_;refine done_ (done_of HT_.1 (by kernel_rfl)) ?_;try go_wp2
                      go_ret;exact⟨S.eW,S.bA⟩
                     ·have H':=S.a H;clear H;have N:0≤(g:Int):=S.oD;have O:g<(J.length:Int):=S.oD;obtain⟨ag,au,I⟩:=Kd.at_int af.1 g N O;obtain rfl:Y=ag:=(by injection au);replace I:=S.hb HB I;replace N:=eq_true N;replace O:=eq_true O;try go_wp2
                      replace HB:=S.a (below_drew1 HB.1);have R:0≤(c:Int):=S.oD;have T:c<(i.length:Int):=S.oD;obtain⟨U,av,j,l,m,o⟩:=at_T76 X.1 c R T;have v:=o;have x:=m;have y:=l;have z:=j;cases av;replace j:=S.hb HB j;replace l:=S.hb HB l;replace m:=S.hb HB m;replace o:=S.hb HB o;replace R:=eq_true R;replace T:=eq_true T;have V:0≤(d:Int):=S.oD;have W:d<(i.length:Int):=S.oD;obtain⟨ah,aw,p,s,t,u⟩:=at_T76 X.1 d V W;have A:=u;have B:=t;have D:=s;have E:=p;obtain rfl:U=ah:=(by injection aw);replace p:=S.hb HB p;replace s:=S.hb HB s;replace t:=S.hb HB t;replace u:=S.hb HB u;replace V:=eq_true V;replace W:=eq_true W;refine S.st (n:=11) (ds:=[]) (S.bs 2048) (fun w_ h_=>have x_:=And.intro (S.q h_ (S.hb HB z)) (And.intro (S.q h_ (S.hb HB y)) (And.intro (S.q h_ (S.hb HB x)) (And.intro (S.q h_ (S.hb HB v)) (And.intro (S.q h_ (S.hb HB E)) (And.intro (S.q h_ (S.hb HB D)) (And.intro (S.q h_ (S.hb HB B)) (S.q h_ (S.hb HB A))))))));x_) (fun hHeld=>?_);refine with_tabW impl_IsTogether.tab12 impl_IsTogether.bits12 (fun HT_ HW_=>?_);generalize wr.drew=bl at HB j l m o p s t u hHeld⊢;refine S.pS 0 46 ?_;refine S.pS 1 47 ?_;refine S.pS 2 48 ?_;refine S.pS 4 50 ?_;refine S.pS 5 51 ?_;refine S.pS 6 52 ?_;refine S.tK 3 49 (S.bs 2175) ?_;refine S.oN 7 53 (S.bs 2303) (fun K hK=>?_);refine S.go Tryz.func69 #[.slice (some U) i.length c0,.int .i64 (rd J g)] ?_
                      with_reducible refine(impl_FindPath.calls _ _ i (rd J g) d _ ?s1 ?s2 aR.1).mono ?_
                      (case s1=>exact S.cA X.1);(case s2=>exact al.1);rintro e bm ⟨rfl,hb⟩;refine⟨_,rfl,?_⟩;replace HB:=S.sA hb;(try clear hb);(try clear aJ);(try clear hk);(try clear hi);refine hK.out _ _ ⟨(S.hb HB z:),(S.hb HB y:),(S.hb HB x:),(S.hb HB v:),(S.hb HB E:),(S.hb HB D:),(S.hb HB B:),(S.hb HB A:)⟩ (fun hHeld=>?_);clear hK K;refine S.nm 53 ?_;refine S.pS 8 54 ?_;refine S.tK 9 55 (S.bs 3071) ?_;refine S.oN 10 56 (S.bs 4095) (fun K hK=>?_);refine S.go Tryz.func71 #[.agg #[.int .i64 ((rd_T76 i c).f0),.int .i64 ((rd_T76 i c).f1),.int .i64 ((rd_T76 i c).f2),.int .i64 ((rd_T76 i c).f3)],.agg #[.int .i64 ((rd_T76 i d).f0),.int .i64 ((rd_T76 i d).f1),.int .i64 ((rd_T76 i d).f2),.int .i64 ((rd_T76 i d).f3)]] ?_
                      with_reducible refine(impl_Conflict.calls k3 ((rd_T76 i c).f0) ((rd_T76 i c).f1) ((rd_T76 i c).f2) ((rd_T76 i c).f3) ((rd_T76 i d).f0) ((rd_T76 i d).f1) ((rd_T76 i d).f2) ((rd_T76 i d).f3) false _ aS.1).mono ?_
                      rintro e bn ⟨rfl,hb⟩;refine⟨_,rfl,?_⟩;replace HB:=S.sA hb;(try clear hb);(try clear aJ);(try clear hk);(try clear hi);refine hK.out _ _ ⟨(S.hb HB z:),(S.hb HB y:),(S.hb HB x:),(S.hb HB v:),(S.hb HB E:),(S.hb HB D:),(S.hb HB B:),(S.hb HB A:)⟩ (fun hHeld=>?_);clear hK K;refine S.nm 56 ?_;refine done_ (done_of HT_.1 (by kernel_rfl)) ?_;try go_wp2
                      go_roundg k3
                      case measure=>have:=ad.1;have:=az.1;have:=a0.1;omega
                      case rel=>exact⟨(wrap64 (g+1)),S.eA,H',⟨by have:=ad.1;have:=az.1;have:=a0.1;omega⟩,⟨S.bA⟩⟩
                    ·rw[if_neg a6]at H;exact absurd H (by simp)
                   ·rw[if_neg a5]at H;exact absurd H (by simp)
                  ·rw[if_neg a4]at H;exact absurd H (by simp)
                 ·rw[if_neg a3]at H;exact absurd H (by simp)
                ·rw[if_neg a2]at H;exact absurd H (by simp)
               ·rw[if_neg a1]at H;exact absurd H (by simp)
              ·have H':=S.a H;clear H;go_wp2;go_roundg k3
               case measure=>have:=ad.1;have:=az.1;have:=a0.1;omega
               case rel=>exact⟨(wrap64 (b+1)),S.eA,H',⟨by have:=ad.1;have:=az.1;have:=a0.1;omega⟩,⟨S.bA⟩⟩
           ·rw[if_neg ak]at H;exact absurd H (by simp)
          ·rw[if_neg aj]at H;exact absurd H (by simp)
      ·rw[if_neg c8]at H;exact absurd H (by simp)
     ·rw[if_neg c7]at H;exact absurd H (by simp)
    ·obtain rfl:=Option.some.inj H;go_wp2;go_ret;exact⟨S.eW,S.bA⟩
 ·obtain rfl:=Option.some.inj H;go_enter Tryz.func65,Tryz.ntmps65;go_wp2_with (first|((with_reducible refine S.gF 68 ?_);refine S.gQ 11 Tryz.func68 #[.slice A0 i.length c0] (impl_ArePaths.calls k _ _ i false _ ?s1 al.1 A3.1) ?_;(case s1=>exact S.cD X.1);rintro e bo ⟨rfl,hb⟩;refine⟨_,rfl,?_⟩;replace HB:=S.sA hb;(try clear hb)));go_ret;exact⟨S.eW,S.bA⟩
end Go.Proofs.YtopchlafmfgpnaaGreat.PFnPrio

