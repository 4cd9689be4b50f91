/- Printed by a program: what the Go functions compute (.f), and that the calls come to just that (.calls). -/
import Derived.Test.YtopchlafmfgpnaaGreatProg
import Derived.Below
import Derived.Deep.Draws
import Derived.Deep.AppendLies
import Derived.Maps.AppendAt
import Derived.OwnWalk
import Derived.Laws.BytesArg
import Derived.Laws.MakeOwn
import Derived.Laws.OwnMore
import Derived.Deep.OwnRows
import Derived.Tactics
import Derived.Lib.ConvBytes
import Derived.Laws.Slices
import Derived.WalkKit
import Derived.KernelRfl
import Derived.RowKit3
import Derived.Deep.LoopGhost
import Derived.Deep.QuietTactic
import Derived.BigQuiet
import Derived.WideLaws
import Derived.Deep.DeepCutAuto
import Derived.Deep.CutBlock
import Derived.Deep.RegionHeld3
import Derived.Laws.Rows
import Derived.Lib.AppendStr
import Derived.ArgAppend
import Derived.Laws.IdiomCopy
import Derived.OrdersHeld
import Derived.Laws.BitsLemmas
import Derived.RowKit
import Derived.Lib.LazyBuf
import Derived.Test.YtopchlafmfgpnaaGreatHand
import Derived.Test.YtopchlafmfgpnaaGreatIns
import Derived.Test.YtopchlafmfgpnaaGreatShort
import Derived.Test.YtopchlafmfgpnaaGreatWWords
import Derived.Test.YtopchlafmfgpnaaGreatWLast
import Derived.Test.YtopchlafmfgpnaaGreatWTab
import Derived.Test.YtopchlafmfgpnaaGreatWFour
import Derived.Test.YtopchlafmfgpnaaGreatWQPut
import Derived.Test.YtopchlafmfgpnaaGreatWApart
import Derived.Test.YtopchlafmfgpnaaGreatWArr
import Derived.Test.YtopchlafmfgpnaaGreatWZeros
import Derived.Test.YtopchlafmfgpnaaGreatWFoot
import Derived.Test.YtopchlafmfgpnaaGreatWKept
import Derived.Test.YtopchlafmfgpnaaGreatWShare
import Derived.Test.YtopchlafmfgpnaaGreatWN
import Derived.Test.YtopchlafmfgpnaaGreatWFootNe
import Derived.Test.YtopchlafmfgpnaaGreatWAt
import Derived.Test.YtopchlafmfgpnaaGreatWEqStruct
import Derived.Test.YtopchlafmfgpnaaGreatWRepsOne
import Derived.Test.YtopchlafmfgpnaaGreatWInv
import Derived.Test.YtopchlafmfgpnaaGreatWInvWords
import Derived.Test.YtopchlafmfgpnaaGreatWGuard
import Derived.Test.YtopchlafmfgpnaaGreatWNEv
import Derived.Test.YtopchlafmfgpnaaGreatWMore
import Derived.Test.YtopchlafmfgpnaaGreatSq
namespace Go.Proofs.YtopchlafmfgpnaaGreat.PFnExactStepPrio
open Go.RowKit Go.Proofs.YtopchlafmfgpnaaGreatW.PrintWords Go.Proofs.YtopchlafmfgpnaaGreatW.PrintLast Go.Proofs.YtopchlafmfgpnaaGreatW.PrintMore
attribute [local go_sem] max2_int min2_int max_two min_two max_three min_three max_four min_four
set_option linter.unusedVariables false
set_option linter.unusedSimpArgs false
set_option maxHeartbeats 8000000
set_option maxRecDepth 100000
def errW:Option Int→Value
 |none=> .nilIface
 |some c=> .iface 0 (.int .i64 c)
theorem errW_none:errW none= .nilIface:=rfl
theorem errW_some(c:Int):errW (some c)= .iface 0 (.int .i64 c):=rfl
theorem info3:(Tryz.prog.info? 3).map (fun i=>(i.zero,i.size,i.bytes))=some (some (.int .i64 0),1,8):=by kernel_rfl
theorem info76:(Tryz.prog.info? 76).map (fun i=>(i.zero,i.size,i.bytes))=some (some (.agg #[(.int .i64 0),(.int .i64 0),(.int .i64 0),(.int .i64 0)]),4,32):=by kernel_rfl
theorem info81:(Tryz.prog.info? 81).map (fun i=>(i.zero,i.size,i.bytes))=some (some (.agg #[(.int .i64 0),(.int .i64 0)]),2,16):=by kernel_rfl
structure S78 where
 f0:Int
 f1:Int
 f2:Int
 f3:Int
def z78:S78:=⟨(0:Int),(0:Int),(0:Int),(0:Int)⟩
def k78:Kd S78:=Kd.iso (Kd.pair (Kd.int .i64) (Kd.pair (Kd.int .i64) (Kd.pair (Kd.int .i64) (Kd.int .i64)))) (fun x:S78=>(x.f0,x.f1,x.f2,x.f3))
theorem k78_open{w:World}{x:S78}{cs:List Value}(h:k78.K w x cs):cs=[.int .i64 x.f0,.int .i64 x.f1,.int .i64 x.f2,.int .i64 x.f3]:=by
 obtain⟨_,_,rfl,rfl,⟨_,_,rfl,rfl,⟨_,_,rfl,rfl,rfl⟩⟩⟩:=h;exact rfl
def rd_T78(xs:List S78)(i:Int):S78:=xs.getD i.toNat z78
theorem at_T78{w:World}{A:Option Addr}{n:Nat}{xs:List S78}(h:Kd.C k78 w A n xs)(i:Int)(b:0≤i)(d:i<n): ∃ad,A=some ad∧w.cell? (ad.add (i.toNat*4))=some (.int .i64 (rd_T78 xs i).f0)∧w.cell? ⟨(ad.add (i.toNat*4)).block,(ad.add (i.toNat*4)).off+1,none⟩=some (.int .i64 (rd_T78 xs i).f1)∧w.cell? ⟨(ad.add (i.toNat*4)).block,(ad.add (i.toNat*4)).off+2,none⟩=some (.int .i64 (rd_T78 xs i).f2)∧w.cell? ⟨(ad.add (i.toNat*4)).block,(ad.add (i.toNat*4)).off+3,none⟩=some (.int .i64 (rd_T78 xs i).f3):=by
 obtain⟨ad,c,e,_,hK,a⟩:=Kd.C_get h z78 i b d;have hc: ∀j u,c[j]?=some u→w.cell? (ad.add (i.toNat*4+j))=some u:=a;obtain rfl:=k78_open hK;exact⟨ad,e,hc 0 _ rfl,by rw[←add_field _ _ 1 (by omega)];exact hc 1 _ rfl,by rw[←add_field _ _ 2 (by omega)];exact hc 2 _ rfl,by rw[←add_field _ _ 3 (by omega)];exact hc 3 _ rfl⟩
structure S83 where
 f0:Int
 f1:Int
def z83:S83:=⟨(0:Int),(0:Int)⟩
def k83:Kd S83:=Kd.iso (Kd.pair (Kd.int .i64) (Kd.int .i64)) (fun x:S83=>(x.f0,x.f1))
theorem k83_open{w:World}{x:S83}{cs:List Value}(h:k83.K w x cs):cs=[.int .i64 x.f0,.int .i64 x.f1]:=by
 obtain⟨_,_,rfl,rfl,rfl⟩:=h;exact rfl
def rd_T83(xs:List S83)(i:Int):S83:=xs.getD i.toNat z83
theorem at_T83{w:World}{A:Option Addr}{n:Nat}{xs:List S83}(h:Kd.C k83 w A n xs)(i:Int)(b:0≤i)(d:i<n): ∃ad,A=some ad∧w.cell? (ad.add (i.toNat*2))=some (.int .i64 (rd_T83 xs i).f0)∧w.cell? ⟨(ad.add (i.toNat*2)).block,(ad.add (i.toNat*2)).off+1,none⟩=some (.int .i64 (rd_T83 xs i).f1):=by
 obtain⟨ad,c,e,_,hK,a⟩:=Kd.C_get h z83 i b d;have hc: ∀j u,c[j]?=some u→w.cell? (ad.add (i.toNat*2+j))=some u:=a;obtain rfl:=k83_open hK;exact⟨ad,e,hc 0 _ rfl,by rw[←add_field _ _ 1 (by omega)];exact hc 1 _ rfl⟩
structure S76 where
 f0:Int
 f1:Int
 f2:Int
 f3:Int
def z76:S76:=⟨(0:Int),(0:Int),(0:Int),(0:Int)⟩
def k76:Kd S76:=Kd.iso (Kd.pair (Kd.int .i64) (Kd.pair (Kd.int .i64) (Kd.pair (Kd.int .i64) (Kd.int .i64)))) (fun x:S76=>(x.f0,x.f1,x.f2,x.f3))
theorem k76_open{w:World}{x:S76}{cs:List Value}(h:k76.K w x cs):cs=[.int .i64 x.f0,.int .i64 x.f1,.int .i64 x.f2,.int .i64 x.f3]:=by
 obtain⟨_,_,rfl,rfl,⟨_,_,rfl,rfl,⟨_,_,rfl,rfl,rfl⟩⟩⟩:=h;exact rfl
theorem k76_openM{w:World}{base:Nat}{ok:Nat→Prop}{x:S76}{cs:List Value}(h:k76.M w base ok x cs):cs=[.int .i64 x.f0,.int .i64 x.f1,.int .i64 x.f2,.int .i64 x.f3]:=by
 obtain⟨_,_,rfl,rfl,⟨_,_,rfl,rfl,⟨_,_,rfl,rfl,rfl⟩⟩⟩:=h;exact rfl
theorem k76_mkM(w:World)(base:Nat)(ok:Nat→Prop)(x:S76):k76.M w base ok x [.int .i64 x.f0,.int .i64 x.f1,.int .i64 x.f2,.int .i64 x.f3]:=⟨[.int .i64 x.f0],[.int .i64 x.f1,.int .i64 x.f2,.int .i64 x.f3],rfl,rfl,⟨[.int .i64 x.f1],[.int .i64 x.f2,.int .i64 x.f3],rfl,rfl,⟨[.int .i64 x.f2],[.int .i64 x.f3],rfl,rfl,rfl⟩⟩⟩
def rd_T76(xs:List S76)(i:Int):S76:=xs.getD i.toNat z76
theorem at_T76{w:World}{A:Option Addr}{n:Nat}{xs:List S76}(h:Kd.C k76 w A n xs)(i:Int)(b:0≤i)(d:i<n): ∃ad,A=some ad∧w.cell? (ad.add (i.toNat*4))=some (.int .i64 (rd_T76 xs i).f0)∧w.cell? ⟨(ad.add (i.toNat*4)).block,(ad.add (i.toNat*4)).off+1,none⟩=some (.int .i64 (rd_T76 xs i).f1)∧w.cell? ⟨(ad.add (i.toNat*4)).block,(ad.add (i.toNat*4)).off+2,none⟩=some (.int .i64 (rd_T76 xs i).f2)∧w.cell? ⟨(ad.add (i.toNat*4)).block,(ad.add (i.toNat*4)).off+3,none⟩=some (.int .i64 (rd_T76 xs i).f3):=by
 obtain⟨ad,c,e,_,hK,a⟩:=Kd.C_get h z76 i b d;have hc: ∀j u,c[j]?=some u→w.cell? (ad.add (i.toNat*4+j))=some u:=a;obtain rfl:=k76_open hK;exact⟨ad,e,hc 0 _ rfl,by rw[←add_field _ _ 1 (by omega)];exact hc 1 _ rfl,by rw[←add_field _ _ 2 (by omega)];exact hc 2 _ rfl,by rw[←add_field _ _ 3 (by omega)];exact hc 3 _ rfl⟩
structure S81 where
 f0:Int
 f1:Int
def z81:S81:=⟨(0:Int),(0:Int)⟩
def k81:Kd S81:=Kd.iso (Kd.pair (Kd.int .i64) (Kd.int .i64)) (fun x:S81=>(x.f0,x.f1))
theorem k81_open{w:World}{x:S81}{cs:List Value}(h:k81.K w x cs):cs=[.int .i64 x.f0,.int .i64 x.f1]:=by
 obtain⟨_,_,rfl,rfl,rfl⟩:=h;exact rfl
theorem k81_openM{w:World}{base:Nat}{ok:Nat→Prop}{x:S81}{cs:List Value}(h:k81.M w base ok x cs):cs=[.int .i64 x.f0,.int .i64 x.f1]:=by
 obtain⟨_,_,rfl,rfl,rfl⟩:=h;exact rfl
theorem k81_mkM(w:World)(base:Nat)(ok:Nat→Prop)(x:S81):k81.M w base ok x [.int .i64 x.f0,.int .i64 x.f1]:=⟨[.int .i64 x.f0],[.int .i64 x.f1],rfl,rfl,rfl⟩
def rd_T81(xs:List S81)(i:Int):S81:=xs.getD i.toNat z81
theorem at_T81{w:World}{A:Option Addr}{n:Nat}{xs:List S81}(h:Kd.C k81 w A n xs)(i:Int)(b:0≤i)(d:i<n): ∃ad,A=some ad∧w.cell? (ad.add (i.toNat*2))=some (.int .i64 (rd_T81 xs i).f0)∧w.cell? ⟨(ad.add (i.toNat*2)).block,(ad.add (i.toNat*2)).off+1,none⟩=some (.int .i64 (rd_T81 xs i).f1):=by
 obtain⟨ad,c,e,_,hK,a⟩:=Kd.C_get h z81 i b d;have hc: ∀j u,c[j]?=some u→w.cell? (ad.add (i.toNat*2+j))=some u:=a;obtain rfl:=k81_open hK;exact⟨ad,e,hc 0 _ rfl,by rw[←add_field _ _ 1 (by omega)];exact hc 1 _ rfl⟩
theorem eqA34(d:Nat)(w:World)(a b:Int)(c e:Int):
  (Op.equalIn (d+2) 34 (.agg #[.int .i64 a,.int .i64 c]) (.agg #[.int .i64 b,.int .i64 e])).run Tryz.prog w= .ok (a==b&&(c==e)) w:=by
 refine eqA_of Tryz.underlying34 (by kernel_rfl) ?_;refine eqf_cons (by rfl) (by go_simp;rfl) (by go_simp;rfl) (by go_simp) ?_;exact eqf_last (by rfl) (by go_simp;rfl) (by go_simp;rfl) (by go_simp)
def slices_Index_int_int.l0:Nat→List Int→Int→Int→Int→Option (Int)
 |0,_,_,_,_=>none
 |k+1,b,c,d,a=>if a<d then(if 0≤a then(if a<(b.length:Int)then(if c=(rd b a)then(some a)else(slices_Index_int_int.l0 k b c d (wrap64 (a+1))))else(none))else(none))else(some (-1))
def slices_Index_int_int.f(k:Nat)(a:List Int)(b:Int):Option (Int):=slices_Index_int_int.l0 k a b (a.length:Int) 0
theorem slices_Index_int_int.calls(k:Nat)(z:Option Addr)(A:Nat)(g:List Int)(l:Int)(r:Int)(w:World)(o:Kd.C (Kd.int .i64) w z g.length g)(p:g.length≤A)(h:slices_Index_int_int.f k g l=some r):
  Calls Tryz.prog 106 #[.slice z g.length A,.int .i64 l] w fun e w'=>e= .returned (.int .i64 r)∧Drawn0 w w':=by
 have q:=S.a o;have:=S.a p;clear o p;have H:(slices_Index_int_int.l0 k g l (g.length:Int) 0)=some r:=h;clear h;have H':=S.a H;clear H;go_enter Tryz.func106,Tryz.ntmps106;go_wp2;go_loopg [8] k (fun kq E w'=> ∃(b:Int),E= .int .i64 b∧Aside0 (slices_Index_int_int.l0 kq g l (g.length:Int) b=some r)∧Aside0 (kq≤k)∧Drawn0 w w')
 case atStart=>exact⟨(0),S.eA,H',⟨Nat.le_refl _⟩,by repeat(first|exact Drawn0.refl _|apply Drawn0.step)⟩
 case round=>
  clear H';obtain⟨b,rfl,HA,s,⟨_,rfl⟩⟩:=hrel
  cases gk with
  |zero=>exact absurd HA.1 (by simp[slices_Index_int_int.l0])
  |succ k1=>
   have H:=HA.1;clear HA;simp only[slices_Index_int_int.l0]at H;replace H:=S.dc H;rcases H with⟨H,t⟩|⟨H,t⟩
   ·by_cases x:0≤b
    ·rw[if_pos x]at H;have B:decide (0≤b)=true:=decide_eq_true x;clear x
     by_cases y:b<(g.length:Int)
     ·rw[if_pos y]at H;have D:decide (b<(g.length:Int))=true:=decide_eq_true y;clear y
      by_cases m:l=(rd g b)
      ·rw[if_pos m]at H;have u:(l==(rd g b))=true:=beq_iff_eq.mpr m;have v:(l !=(rd g b))=false:=bne_eq_false_iff_eq.mpr m;clear m;obtain rfl:=Option.some.inj H;have c:0≤(b:Int):=S.oD;have d:b<(g.length:Int):=S.oD;obtain⟨n,i,j⟩:=Kd.at_int q.1 b c d;cases i;replace c:=eq_true c;replace d:=eq_true d;go_wp2;go_ret;exact⟨S.eA,by repeat(first|exact Drawn0.refl _|apply Drawn0.step)⟩
      ·rw[if_neg m]at H;have u:(l==(rd g b))=false:=beq_eq_false_iff_ne.mpr m;have v:(l !=(rd g b))=true:=bne_iff_ne.mpr m;have H':=S.a H;clear H;have c:0≤(b:Int):=S.oD;have d:b<(g.length:Int):=S.oD;obtain⟨n,i,j⟩:=Kd.at_int q.1 b c d;cases i;replace c:=eq_true c;replace d:=eq_true d;go_wp2;go_roundg k1
       case measure=>have:=s.1;omega
       case rel=>exact⟨(wrap64 (b+1)),S.eA,H',⟨by have:=s.1;omega⟩,by repeat(first|exact Drawn0.refl _|apply Drawn0.step)⟩
     ·rw[if_neg y]at H;exact absurd H (by simp)
    ·rw[if_neg x]at H;exact absurd H (by simp)
   ·obtain rfl:=Option.some.inj H;go_wp2;go_ret;exact⟨S.eA,by repeat(first|exact Drawn0.refl _|apply Drawn0.step)⟩
def slices_Contains_int_int.f(k:Nat)(b:List Int)(c:Int):Option (Bool):=(slices_Index_int_int.f k b c).bind fun a=>(some (decide (a≥0)))
theorem slices_Contains_int_int.calls(k:Nat)(j:Option Addr)(l:Nat)(c:List Int)(d:Int)(r:Bool)(w:World)(g:Kd.C (Kd.int .i64) w j c.length c)(i:c.length≤l)(h:slices_Contains_int_int.f k c d=some r):
  Calls Tryz.prog 72 #[.slice j c.length l,.int .i64 d] w fun e w'=>e= .returned (.bool r)∧Drawn0 w w':=by
 have m:=S.a g;have n:=S.a i;clear g i;have H:((slices_Index_int_int.f k c d).bind fun b=>(some (decide (b≥0))))=some r:=h;clear h;replace H:=S.bd H;obtain⟨b,o,H⟩:=H;(try dsimp only at H);obtain rfl:=Option.some.inj H;go_enter Tryz.func72,Tryz.ntmps72;go_wp2_with (first|((with_reducible refine gate_callee (f:=106) rfl ?_);refine S.gL (some 7) Tryz.func106 #[.slice j c.length l,.int .i64 d] ?_;(with_reducible refine(slices_Index_int_int.calls k _ _ c d b _ ?s1 n.1 o.1).mono ?_);(case s1=>exact S.cD m.1);rintro e w' ⟨rfl,⟨nd,rfl⟩⟩;refine⟨_,rfl,?_⟩));go_ret;exact⟨S.eA,by repeat(first|exact Drawn0.refl _|apply Drawn0.step)⟩
def slices_Equal_int_int.l0:Nat→List Int→List Int→Int→Int→Option (Bool)
 |0,_,_,_,_=>none
 |k+1,c,d,b,a=>if a<b then(if 0≤a then(if a<(c.length:Int)then(if a<(d.length:Int)then(if(rd c a)=(rd d a)then(slices_Equal_int_int.l0 k c d b (wrap64 (a+1)))else(some false))else(none))else(none))else(none))else(some true)
def slices_Equal_int_int.f(k:Nat)(a:List Int)(b:List Int):Option (Bool):=if(a.length:Int)=(b.length:Int)then(slices_Equal_int_int.l0 k a b (a.length:Int) 0)else(some false)
theorem slices_Equal_int_int.calls(k:Nat)(U:Option Addr)(V:Nat)(c:List Int)(W:Option Addr)(R:Nat)(d:List Int)(r:Bool)(w:World)(z:Kd.C (Kd.int .i64) w U c.length c)(A:c.length≤V)(B:Kd.C (Kd.int .i64) w W d.length d)(D:d.length≤R)(h:slices_Equal_int_int.f k c d=some r):
  Calls Tryz.prog 74 #[.slice U c.length V,.slice W d.length R] w fun e w'=>e= .returned (.bool r)∧Drawn0 w w':=by
 have E:=S.a z;have:=S.a A;clear z A;have F:=S.a B;have:=S.a D;clear B D;have H:(if(c.length:Int)=(d.length:Int)then(slices_Equal_int_int.l0 k c d (c.length:Int) 0)else(some false))=some r:=h;clear h
 by_cases m:(c.length:Int)=(d.length:Int)
 ·rw[if_pos m]at H;have s:((c.length:Int)==(d.length:Int))=true:=beq_iff_eq.mpr m;have t:((c.length:Int) !=(d.length:Int))=false:=bne_eq_false_iff_eq.mpr m;have u:(c.length==d.length)=true:=by first|simpa using m|(simp at m⊢;omega)
  clear m;have H':=S.a H;clear H;go_enter Tryz.func74,Tryz.ntmps74;go_wp2
  repeat(go_quiet (fail);try go_wp2)
  go_loopg [13] k (fun kq T w'=> ∃(b:Int),T= .int .i64 b∧Aside0 (slices_Equal_int_int.l0 kq c d (c.length:Int) b=some r)∧Aside0 (kq≤k)∧Drawn0 w w')
  case atStart=>exact⟨(0),S.eA,H',⟨Nat.le_refl _⟩,by repeat(first|exact Drawn0.refl _|apply Drawn0.step)⟩
  case round=>
   clear H';try clear R
   try clear m
   try clear s
   try clear t
   try clear u
   obtain⟨b,rfl,HA,G,⟨_,rfl⟩⟩:=hrel
   cases gk with
   |zero=>exact absurd HA.1 (by simp[slices_Equal_int_int.l0])
   |succ k1=>
    have H:=HA.1;clear HA;simp only[slices_Equal_int_int.l0]at H;replace H:=S.dc H;rcases H with⟨H,I⟩|⟨H,I⟩
    ·by_cases M:0≤b
     ·rw[if_pos M]at H;have X:decide (0≤b)=true:=decide_eq_true M;clear M
      by_cases N:b<(c.length:Int)
      ·rw[if_pos N]at H;have Y:decide (b<(c.length:Int))=true:=decide_eq_true N;clear N
       by_cases O:b<(d.length:Int)
       ·rw[if_pos O]at H;have Z:decide (b<(d.length:Int))=true:=decide_eq_true O;clear O
        by_cases v:(rd c b)=(rd d b)
        ·rw[if_pos v]at H;have J:((rd c b)==(rd d b))=true:=beq_iff_eq.mpr v;have L:((rd c b) !=(rd d b))=false:=bne_eq_false_iff_eq.mpr v;clear v;have H':=S.a H;clear H;have g:0≤(b:Int):=S.oD;have i:b<(c.length:Int):=S.oD;obtain⟨x,n,o⟩:=Kd.at_int E.1 b g i;cases n;replace g:=eq_true g;replace i:=eq_true i;have j:0≤(b:Int):=S.oD;have l:b<(d.length:Int):=S.oD;obtain⟨y,p,q⟩:=Kd.at_int F.1 b j l;cases p;replace j:=eq_true j;replace l:=eq_true l;go_wp2
         repeat(go_quiet (fail);try go_wp2)
         go_roundg k1
         case measure=>have:=G.1;omega
         case rel=>exact⟨(wrap64 (b+1)),S.eA,H',⟨by have:=G.1;omega⟩,by repeat(first|exact Drawn0.refl _|apply Drawn0.step)⟩
        ·rw[if_neg v]at H;have J:((rd c b)==(rd d b))=false:=beq_eq_false_iff_ne.mpr v;have L:((rd c b) !=(rd d b))=true:=bne_iff_ne.mpr v;obtain rfl:=Option.some.inj H;have g:0≤(b:Int):=S.oD;have i:b<(c.length:Int):=S.oD;obtain⟨x,n,o⟩:=Kd.at_int E.1 b g i;cases n;replace g:=eq_true g;replace i:=eq_true i;have j:0≤(b:Int):=S.oD;have l:b<(d.length:Int):=S.oD;obtain⟨y,p,q⟩:=Kd.at_int F.1 b j l;cases p;replace j:=eq_true j;replace l:=eq_true l;go_wp2
         repeat(go_quiet (fail);try go_wp2)
         go_ret;exact⟨S.eA,by repeat(first|exact Drawn0.refl _|apply Drawn0.step)⟩
       ·rw[if_neg O]at H;exact absurd H (by simp)
      ·rw[if_neg N]at H;exact absurd H (by simp)
     ·rw[if_neg M]at H;exact absurd H (by simp)
    ·obtain rfl:=Option.some.inj H;go_wp2
     repeat(go_quiet (fail);try go_wp2)
     go_ret;exact⟨S.eA,by repeat(first|exact Drawn0.refl _|apply Drawn0.step)⟩
 ·rw[if_neg m]at H;have s:((c.length:Int)==(d.length:Int))=false:=beq_eq_false_iff_ne.mpr m;have t:((c.length:Int) !=(d.length:Int))=true:=bne_iff_ne.mpr m;have u:(c.length==d.length)=false:=by first|simpa using m|(simp at m⊢;omega)
  obtain rfl:=Option.some.inj H;go_enter Tryz.func74,Tryz.ntmps74;go_wp2
  repeat(go_quiet (fail);try go_wp2)
  go_ret;exact⟨S.eA,by repeat(first|exact Drawn0.refl _|apply Drawn0.step)⟩
def laws_szPathS.f(a:List (S78))(b:Int):Option (Int):=if(wrap64 (b-(a.length:Int)))<0 then(some (-1))else(some (wrap64 (b-(a.length:Int))))
theorem laws_szPathS.calls(j:Option Addr)(k:Nat)(b:List (S78))(i:Int)(r:Int)(w:World)(c:Kd.C k78 w j b.length b)(d:b.length≤k)(h:laws_szPathS.f b i=some r):
  Calls Tryz.prog 5 #[.slice j b.length k,.int .i64 i] w fun e w'=>e= .returned (.int .i64 r)∧Drawn0 w w':=by
 have:=S.a c;have:=S.a d;clear c d;have H:(if(wrap64 (i-(b.length:Int)))<0 then(some (-1))else(some (wrap64 (i-(b.length:Int)))))=some r:=h;clear h;replace H:=S.dc H;rcases H with⟨H,g⟩|⟨H,g⟩
 ·obtain rfl:=Option.some.inj H;go_enter Tryz.func5,Tryz.ntmps5;go_wp2;go_ret;exact⟨S.eA,by repeat(first|exact Drawn0.refl _|apply Drawn0.step)⟩
 ·obtain rfl:=Option.some.inj H;go_enter Tryz.func5,Tryz.ntmps5;go_wp2;go_ret;exact⟨S.eA,by repeat(first|exact Drawn0.refl _|apply Drawn0.step)⟩
def laws_szIntS.f(a:List Int)(b:Int):Option (Int):=if(wrap64 (b-(a.length:Int)))<0 then(some (-1))else(some (wrap64 (b-(a.length:Int))))
theorem laws_szIntS.calls(j:Option Addr)(k:Nat)(b:List Int)(i:Int)(r:Int)(w:World)(c:Kd.C (Kd.int .i64) w j b.length b)(d:b.length≤k)(h:laws_szIntS.f b i=some r):
  Calls Tryz.prog 36 #[.slice j b.length k,.int .i64 i] w fun e w'=>e= .returned (.int .i64 r)∧Drawn0 w w':=by
 have:=S.a c;have:=S.a d;clear c d;have H:(if(wrap64 (i-(b.length:Int)))<0 then(some (-1))else(some (wrap64 (i-(b.length:Int)))))=some r:=h;clear h;replace H:=S.dc H;rcases H with⟨H,g⟩|⟨H,g⟩
 ·obtain rfl:=Option.some.inj H;go_enter Tryz.func36,Tryz.ntmps36;go_wp2;go_ret;exact⟨S.eA,by repeat(first|exact Drawn0.refl _|apply Drawn0.step)⟩
 ·obtain rfl:=Option.some.inj H;go_enter Tryz.func36,Tryz.ntmps36;go_wp2;go_ret;exact⟨S.eA,by repeat(first|exact Drawn0.refl _|apply Drawn0.step)⟩
def laws_szControl.f(c:List Int)(e:Int)(d:List Int)(g:Int)(h:Int):Option (Int):=(laws_szIntS.f c h).bind fun a=>(if a<0 then(some (-1))else((laws_szIntS.f d a).bind fun b=>(if b<0 then(some (-1))else(some b))))
theorem laws_szControl.calls(g:Option Addr)(i:Nat)(b:List Int)(n:Int)(j:Option Addr)(k:Nat)(c:List Int)(o:Int)(E:Int)(r:Int)(w:World)(s:Kd.C (Kd.int .i64) w g b.length b)(u:b.length≤i)(v:Kd.C (Kd.int .i64) w j c.length c)(x:c.length≤k)(h:laws_szControl.f b n c o E=some r):
  Calls Tryz.prog 6 #[.agg #[.slice g b.length i,.int .i64 n,.slice j c.length k,.int .i64 o],.int .i64 E] w fun e w'=>e= .returned (.int .i64 r)∧Below w.heap.size w w':=by
 have:=Tryz.underlying25;have p:=S.a s;have q:=S.a u;clear s u;have y:=S.a v;have z:=S.a x;clear v x;have HB:=S.a (Below.refl w.heap.size w);have H:((laws_szIntS.f b E).bind fun d=>(if d<0 then(some (-1))else((laws_szIntS.f c d).bind fun l=>(if l<0 then(some (-1))else(some l)))))=some r:=h;clear h;replace H:=S.bd H;obtain⟨d,J,H⟩:=H;(try dsimp only at H);replace H:=S.dc H;rcases H with⟨H,F⟩|⟨H,F⟩
 ·obtain rfl:=Option.some.inj H;go_enter Tryz.func6,Tryz.ntmps6;go_wp2_with (first|((with_reducible refine gate_dst (N:=2) rfl ?_);refine S.bx 2 (cs:=#[.slice g b.length i,.int .i64 n,.slice j c.length k,.int .i64 o]) (t:=25) ?_;intro A hg O hbox hb;have m:=S.a hbox;have B:=S.geA hg;have D:=S.geA hg;replace HB:=S.sA hb;clear hb hbox hg;obtain⟨_,_,_,_,_,_,_,_⟩:=S.c4 m.1)|((with_reducible refine gate_callee (f:=36) rfl ?_);refine S.gL (some 8) Tryz.func36 #[.slice g b.length i,.int .i64 E] ?_;(with_reducible refine(laws_szIntS.calls _ _ b E d _ ?s1 q.1 J.1).mono ?_);(case s1=>exact S.cA p.1);rintro e w' ⟨rfl,⟨nd,rfl⟩⟩;refine⟨_,rfl,?_⟩));go_ret;exact⟨S.eW,S.bG⟩
 ·replace H:=Option.bind_eq_some_iff.mp H;obtain⟨l,G,H⟩:=H;replace H:(if l<0 then(some (-1))else(some l))=some r:=H;have L:=S.a G;clear G;replace H:=S.dc H;rcases H with⟨H,I⟩|⟨H,I⟩
  ·obtain rfl:=Option.some.inj H;go_enter Tryz.func6,Tryz.ntmps6;go_wp2_with (first|((with_reducible refine gate_dst (N:=2) rfl ?_);refine S.bx 2 (cs:=#[.slice g b.length i,.int .i64 n,.slice j c.length k,.int .i64 o]) (t:=25) ?_;intro A hg R hbox hb;have m:=S.a hbox;have B:=S.geA hg;have D:=S.geA hg;replace HB:=S.sA hb;clear hb hbox hg;obtain⟨_,_,_,_,_,_,_,_⟩:=S.c4 m.1)|((with_reducible refine gate_callee (f:=36) rfl ?_);refine S.gL (some 8) Tryz.func36 #[.slice g b.length i,.int .i64 E] ?_;(with_reducible refine(laws_szIntS.calls _ _ b E d _ ?s1 q.1 J.1).mono ?_);(case s1=>exact S.cA p.1);rintro e w' ⟨rfl,⟨nd,rfl⟩⟩;refine⟨_,rfl,?_⟩)|((with_reducible refine gate_callee (f:=36) rfl ?_);refine S.gL (some 14) Tryz.func36 #[.slice j c.length k,.int .i64 d] ?_;(with_reducible refine(laws_szIntS.calls _ _ c d l _ ?s1 z.1 L.1).mono ?_);(case s1=>repeat(first|exact(Kd.C_below y.1 S.bG)|(with_reducible refine Kd.C_alloc ?_ _)|(with_reducible refine Kd.C_drewN ?_ _)|(with_reducible refine Kd.C_drew ?_)));rintro e w' ⟨rfl,⟨nd,rfl⟩⟩;refine⟨_,rfl,?_⟩));go_ret;exact⟨S.eW,S.bG⟩
  ·obtain rfl:=Option.some.inj H;go_enter Tryz.func6,Tryz.ntmps6;go_wp2_with (first|((with_reducible refine gate_dst (N:=2) rfl ?_);refine S.bx 2 (cs:=#[.slice g b.length i,.int .i64 n,.slice j c.length k,.int .i64 o]) (t:=25) ?_;intro A hg M hbox hb;have m:=S.a hbox;have B:=S.geA hg;have D:=S.geA hg;replace HB:=S.sA hb;clear hb hbox hg;obtain⟨_,_,_,_,_,_,_,_⟩:=S.c4 m.1)|((with_reducible refine gate_callee (f:=36) rfl ?_);refine S.gL (some 8) Tryz.func36 #[.slice g b.length i,.int .i64 E] ?_;(with_reducible refine(laws_szIntS.calls _ _ b E d _ ?s1 q.1 J.1).mono ?_);(case s1=>exact S.cA p.1);rintro e w' ⟨rfl,⟨nd,rfl⟩⟩;refine⟨_,rfl,?_⟩)|((with_reducible refine gate_callee (f:=36) rfl ?_);refine S.gL (some 14) Tryz.func36 #[.slice j c.length k,.int .i64 d] ?_;(with_reducible refine(laws_szIntS.calls _ _ c d l _ ?s1 z.1 L.1).mono ?_);(case s1=>repeat(first|exact(Kd.C_below y.1 S.bG)|(with_reducible refine Kd.C_alloc ?_ _)|(with_reducible refine Kd.C_drewN ?_ _)|(with_reducible refine Kd.C_drew ?_)));rintro e w' ⟨rfl,⟨nd,rfl⟩⟩;refine⟨_,rfl,?_⟩));go_ret;exact⟨S.eW,S.bG⟩
def laws_szWantS.f(a:List (S83))(b:Int):Option (Int):=if(wrap64 (b-(a.length:Int)))<0 then(some (-1))else(some (wrap64 (b-(a.length:Int))))
theorem laws_szWantS.calls(j:Option Addr)(k:Nat)(b:List (S83))(i:Int)(r:Int)(w:World)(c:Kd.C k83 w j b.length b)(d:b.length≤k)(h:laws_szWantS.f b i=some r):
  Calls Tryz.prog 7 #[.slice j b.length k,.int .i64 i] w fun e w'=>e= .returned (.int .i64 r)∧Drawn0 w w':=by
 have:=S.a c;have:=S.a d;clear c d;have H:(if(wrap64 (i-(b.length:Int)))<0 then(some (-1))else(some (wrap64 (i-(b.length:Int)))))=some r:=h;clear h;replace H:=S.dc H;rcases H with⟨H,g⟩|⟨H,g⟩
 ·obtain rfl:=Option.some.inj H;go_enter Tryz.func7,Tryz.ntmps7;go_wp2;go_ret;exact⟨S.eA,by repeat(first|exact Drawn0.refl _|apply Drawn0.step)⟩
 ·obtain rfl:=Option.some.inj H;go_enter Tryz.func7,Tryz.ntmps7;go_wp2;go_ret;exact⟨S.eA,by repeat(first|exact Drawn0.refl _|apply Drawn0.step)⟩
def spec_FindPath.l0:Nat→List (S76)→Int→Int→Option (Int)
 |0,_,_,_=>none
 |k+1,b,c,a=>if a<(b.length:Int)then(if 0≤a then(if((rd_T76 b a).f0)=c then(some a)else(spec_FindPath.l0 k b c (wrap64 (a+1))))else(none))else(some (-1))
def spec_FindPath.f(k:Nat)(a:List (S76))(b:Int):Option (Int):=spec_FindPath.l0 k a b 0
theorem spec_FindPath.calls(k:Nat)(B:Option Addr)(D:Nat)(g:List (S76))(o:Int)(r:Int)(w:World)(s:Kd.C k76 w B g.length g)(t:g.length≤D)(h:spec_FindPath.f k g o=some r):
  Calls Tryz.prog 81 #[.slice B g.length D,.int .i64 o] w fun e w'=>e= .returned (.int .i64 r)∧Drawn0 w w':=by
 have u:=S.a s;have:=S.a t;clear s t;have H:(spec_FindPath.l0 k g o 0)=some r:=h;clear h;have H':=S.a H;clear H;go_enter Tryz.func81,Tryz.ntmps81;go_wp2;go_loopg [5] k (fun kq F w'=> ∃(b:Int),F= .int .i64 b∧Aside0 (spec_FindPath.l0 kq g o b=some r)∧Aside0 (kq≤k)∧Drawn0 w w')
 case atStart=>exact⟨(0),S.eA,H',⟨Nat.le_refl _⟩,by repeat(first|exact Drawn0.refl _|apply Drawn0.step)⟩
 case round=>
  clear H';obtain⟨b,rfl,HA,v,⟨_,rfl⟩⟩:=hrel
  cases gk with
  |zero=>exact absurd HA.1 (by simp[spec_FindPath.l0])
  |succ k1=>
   have H:=HA.1;clear HA;simp only[spec_FindPath.l0]at H;replace H:=S.dc H;rcases H with⟨H,x⟩|⟨H,x⟩
   ·by_cases A:0≤b
    ·rw[if_pos A]at H;have E:decide (0≤b)=true:=decide_eq_true A;clear A
     by_cases p:((rd_T76 g b).f0)=o
     ·rw[if_pos p]at H;have y:(((rd_T76 g b).f0)==o)=true:=beq_iff_eq.mpr p;have z:(((rd_T76 g b).f0) !=o)=false:=bne_eq_false_iff_eq.mpr p;clear p;obtain rfl:=Option.some.inj H;have c:0≤(b:Int):=S.oD;have d:b<(g.length:Int):=S.oD;obtain⟨q,i,j,l,m,n⟩:=at_T76 u.1 b c d;cases i;replace c:=eq_true c;replace d:=eq_true d;go_wp2;go_ret;exact⟨S.eA,by repeat(first|exact Drawn0.refl _|apply Drawn0.step)⟩
     ·rw[if_neg p]at H;have y:(((rd_T76 g b).f0)==o)=false:=beq_eq_false_iff_ne.mpr p;have z:(((rd_T76 g b).f0) !=o)=true:=bne_iff_ne.mpr p;have H':=S.a H;clear H;have c:0≤(b:Int):=S.oD;have d:b<(g.length:Int):=S.oD;obtain⟨q,i,j,l,m,n⟩:=at_T76 u.1 b c d;cases i;replace c:=eq_true c;replace d:=eq_true d;go_wp2;go_roundg k1
      case measure=>have:=v.1;omega
      case rel=>exact⟨(wrap64 (b+1)),S.eA,H',⟨by have:=v.1;omega⟩,by repeat(first|exact Drawn0.refl _|apply Drawn0.step)⟩
    ·rw[if_neg A]at H;exact absurd H (by simp)
   ·obtain rfl:=Option.some.inj H;go_wp2;go_ret;exact⟨S.eA,by repeat(first|exact Drawn0.refl _|apply Drawn0.step)⟩
def spec_l1In.f(a:Int)(b:Int)(c:Int):Option (Bool):=if a≥b then(some (decide (a≤c)))else(some false)
theorem spec_l1In.calls(a:Int)(b:Int)(g:Int)(r:Bool)(w:World)(h:spec_l1In.f a b g=some r):
  Calls Tryz.prog 79 #[.int .i64 a,.int .i64 b,.int .i64 g] w fun e w'=>e= .returned (.bool r)∧Drawn0 w w':=by
 have H:(if a≥b then(some (decide (a≤g)))else(some false))=some r:=h;clear h
 by_cases c:a≥b
 ·rw[if_pos c]at H;have d:decide (b≤a)=true:=decide_eq_true c;clear c;obtain rfl:=Option.some.inj H;go_enter Tryz.func79,Tryz.ntmps79;go_wp2;go_ret;exact⟨S.eA,by repeat(first|exact Drawn0.refl _|apply Drawn0.step)⟩
 ·rw[if_neg c]at H;have d:decide (b≤a)=false:=decide_eq_false c;clear c;obtain rfl:=Option.some.inj H;go_enter Tryz.func79,Tryz.ntmps79;go_wp2;go_ret;exact⟨S.eA,by repeat(first|exact Drawn0.refl _|apply Drawn0.step)⟩
def spec_IsPath.f(d:Int)(a:Int)(b:Int)(c:Int):Option (Bool):=(spec_l1In.f d 1 20).bind fun e=>(if e=true then((spec_l1In.f a 1 3).bind fun g=>(if g=true then((spec_l1In.f b 0 3).bind fun h=>(if h=true then((spec_l1In.f c 0 3).bind fun i=>(if i=true then(some ((b==c)==(a==2)))else(some false)))else(some false)))else(some false)))else(some false))
theorem spec_IsPath.calls(b:Int)(c:Int)(g:Int)(i:Int)(r:Bool)(w:World)(h:spec_IsPath.f b c g i=some r):
  Calls Tryz.prog 113 #[.agg #[.int .i64 b,.int .i64 c,.int .i64 g,.int .i64 i]] w fun e w'=>e= .returned (.bool r)∧Below w.heap.size w w':=by
 have:=Tryz.underlying76;have HB:=S.a (Below.refl w.heap.size w);have H:((spec_l1In.f b 1 20).bind fun m=>(if m=true then((spec_l1In.f c 1 3).bind fun n=>(if n=true then((spec_l1In.f g 0 3).bind fun o=>(if o=true then((spec_l1In.f i 0 3).bind fun p=>(if p=true then(some ((g==i)==(c==2)))else(some false)))else(some false)))else(some false)))else(some false)))=some r:=h;clear h;replace H:=S.bd H;obtain⟨m,q,H⟩:=H;(try dsimp only at H);replace H:=S.db H;rcases H with⟨rfl,H⟩|⟨rfl,H⟩
 ·replace H:=S.bd H;obtain⟨n,s,H⟩:=H;(try dsimp only at H);replace H:=S.db H;rcases H with⟨rfl,H⟩|⟨rfl,H⟩
  ·replace H:=S.bd H;obtain⟨o,u,H⟩:=H;(try dsimp only at H);replace H:=S.db H;rcases H with⟨rfl,H⟩|⟨rfl,H⟩
   ·replace H:=S.bd H;obtain⟨p,v,H⟩:=H;(try dsimp only at H);replace H:=S.db H;rcases H with⟨rfl,H⟩|⟨rfl,H⟩
    ·obtain rfl:=Option.some.inj H;go_enter Tryz.func113,Tryz.ntmps113;go_wp2_with (first|((with_reducible refine gate_dst (N:=1) rfl ?_);refine S.bx 1 (cs:=#[.int .i64 b,.int .i64 c,.int .i64 g,.int .i64 i]) (t:=76) ?_;intro j hg x hbox hb;have d:=S.a hbox;have k:=S.geA hg;have l:=S.geA hg;replace HB:=S.sA hb;clear hb hbox hg;obtain⟨_,_,_,_,_,_,_,_⟩:=S.c4 d.1)|((with_reducible refine gate_callee (f:=79) rfl ?_);refine S.gL (some 5) Tryz.func79 #[.int .i64 b,.int .i64 1,.int .i64 20] ?_;(with_reducible refine(spec_l1In.calls b 1 20 true _ q.1).mono ?_);rintro e w' ⟨rfl,⟨nd,rfl⟩⟩;refine⟨_,rfl,?_⟩)|(go_at_call 79;(with_reducible refine(spec_l1In.calls c 1 3 true _ s.1).mono ?_);rintro e w' ⟨rfl,⟨nd,rfl⟩⟩)|(go_at_call 79;(with_reducible refine(spec_l1In.calls g 0 3 true _ u.1).mono ?_);rintro e w' ⟨rfl,⟨nd,rfl⟩⟩)|(go_at_call 79;(with_reducible refine(spec_l1In.calls i 0 3 true _ v.1).mono ?_);rintro e w' ⟨rfl,⟨nd,rfl⟩⟩));go_ret;exact⟨S.eW,S.bG⟩
    ·obtain rfl:=Option.some.inj H;go_enter Tryz.func113,Tryz.ntmps113;go_wp2_with (first|((with_reducible refine gate_dst (N:=1) rfl ?_);refine S.bx 1 (cs:=#[.int .i64 b,.int .i64 c,.int .i64 g,.int .i64 i]) (t:=76) ?_;intro j hg y hbox hb;have d:=S.a hbox;have k:=S.geA hg;have l:=S.geA hg;replace HB:=S.sA hb;clear hb hbox hg;obtain⟨_,_,_,_,_,_,_,_⟩:=S.c4 d.1)|((with_reducible refine gate_callee (f:=79) rfl ?_);refine S.gL (some 5) Tryz.func79 #[.int .i64 b,.int .i64 1,.int .i64 20] ?_;(with_reducible refine(spec_l1In.calls b 1 20 true _ q.1).mono ?_);rintro e w' ⟨rfl,⟨nd,rfl⟩⟩;refine⟨_,rfl,?_⟩)|(go_at_call 79;(with_reducible refine(spec_l1In.calls c 1 3 true _ s.1).mono ?_);rintro e w' ⟨rfl,⟨nd,rfl⟩⟩)|(go_at_call 79;(with_reducible refine(spec_l1In.calls g 0 3 true _ u.1).mono ?_);rintro e w' ⟨rfl,⟨nd,rfl⟩⟩)|(go_at_call 79;(with_reducible refine(spec_l1In.calls i 0 3 false _ v.1).mono ?_);rintro e w' ⟨rfl,⟨nd,rfl⟩⟩));go_ret;exact⟨S.eW,S.bG⟩
   ·obtain rfl:=Option.some.inj H;go_enter Tryz.func113,Tryz.ntmps113;go_wp2_with (first|((with_reducible refine gate_dst (N:=1) rfl ?_);refine S.bx 1 (cs:=#[.int .i64 b,.int .i64 c,.int .i64 g,.int .i64 i]) (t:=76) ?_;intro j hg z hbox hb;have d:=S.a hbox;have k:=S.geA hg;have l:=S.geA hg;replace HB:=S.sA hb;clear hb hbox hg;obtain⟨_,_,_,_,_,_,_,_⟩:=S.c4 d.1)|((with_reducible refine gate_callee (f:=79) rfl ?_);refine S.gL (some 5) Tryz.func79 #[.int .i64 b,.int .i64 1,.int .i64 20] ?_;(with_reducible refine(spec_l1In.calls b 1 20 true _ q.1).mono ?_);rintro e w' ⟨rfl,⟨nd,rfl⟩⟩;refine⟨_,rfl,?_⟩)|(go_at_call 79;(with_reducible refine(spec_l1In.calls c 1 3 true _ s.1).mono ?_);rintro e w' ⟨rfl,⟨nd,rfl⟩⟩)|(go_at_call 79;(with_reducible refine(spec_l1In.calls g 0 3 false _ u.1).mono ?_);rintro e w' ⟨rfl,⟨nd,rfl⟩⟩));go_ret;exact⟨S.eW,S.bG⟩
  ·obtain rfl:=Option.some.inj H;go_enter Tryz.func113,Tryz.ntmps113;go_wp2_with (first|((with_reducible refine gate_dst (N:=1) rfl ?_);refine S.bx 1 (cs:=#[.int .i64 b,.int .i64 c,.int .i64 g,.int .i64 i]) (t:=76) ?_;intro j hg A hbox hb;have d:=S.a hbox;have k:=S.geA hg;have l:=S.geA hg;replace HB:=S.sA hb;clear hb hbox hg;obtain⟨_,_,_,_,_,_,_,_⟩:=S.c4 d.1)|((with_reducible refine gate_callee (f:=79) rfl ?_);refine S.gL (some 5) Tryz.func79 #[.int .i64 b,.int .i64 1,.int .i64 20] ?_;(with_reducible refine(spec_l1In.calls b 1 20 true _ q.1).mono ?_);rintro e w' ⟨rfl,⟨nd,rfl⟩⟩;refine⟨_,rfl,?_⟩)|(go_at_call 79;(with_reducible refine(spec_l1In.calls c 1 3 false _ s.1).mono ?_);rintro e w' ⟨rfl,⟨nd,rfl⟩⟩));go_ret;exact⟨S.eW,S.bG⟩
 ·obtain rfl:=Option.some.inj H;go_enter Tryz.func113,Tryz.ntmps113;go_wp2_with (first|((with_reducible refine gate_dst (N:=1) rfl ?_);refine S.bx 1 (cs:=#[.int .i64 b,.int .i64 c,.int .i64 g,.int .i64 i]) (t:=76) ?_;intro j hg B hbox hb;have d:=S.a hbox;have k:=S.geA hg;have l:=S.geA hg;replace HB:=S.sA hb;clear hb hbox hg;obtain⟨_,_,_,_,_,_,_,_⟩:=S.c4 d.1)|((with_reducible refine gate_callee (f:=79) rfl ?_);refine S.gL (some 5) Tryz.func79 #[.int .i64 b,.int .i64 1,.int .i64 20] ?_;(with_reducible refine(spec_l1In.calls b 1 20 false _ q.1).mono ?_);rintro e w' ⟨rfl,⟨nd,rfl⟩⟩;refine⟨_,rfl,?_⟩));go_ret;exact⟨S.eW,S.bG⟩
def spec_ArePaths.l0:Nat→List (S76)→Int→Option (Bool)
 |0,_,_=>none
 |k+1,b,a=>if a<(b.length:Int)then(if 0≤a then((spec_IsPath.f ((rd_T76 b a).f0) ((rd_T76 b a).f1) ((rd_T76 b a).f2) ((rd_T76 b a).f3)).bind fun c=>(if c=true then(if a>0 then(if 0≤(wrap64 (a-1))then(if(wrap64 (a-1))<(b.length:Int)then(if((rd_T76 b (wrap64 (a-1))).f0)≥((rd_T76 b a).f0)then(some false)else(spec_ArePaths.l0 k b (wrap64 (a+1))))else(none))else(none))else(spec_ArePaths.l0 k b (wrap64 (a+1))))else(some false)))else(none))else(some (decide ((b.length:Int)≤12)))
def spec_ArePaths.f(k:Nat)(a:List (S76)):Option (Bool):=spec_ArePaths.l0 k a 0
def spec_ArePaths.T4:Bool×List (List Nat×List Nat):=(true,[([],[]),([],[]),([0,1],[0,1]),([2],[2]),([3],[3]),([4],[4]),([5,4],[5]),([6],[6]),([7,6],[6,7]),([8,6,6],[6,8]),([9],[9]),([9],[9]),([11,9],[9,11]),([10,12,9],[9,10,12]),([13,9],[9,13]),([14,9],[9,14]),([9],[9]),([9],[9]),([16,17,9],[9,16,17]),([18,9],[9,18]),([19,9],[9,19]),([15,20,9],[9,15,20]),([9,21,6],[6,9,21]),([6,22],[6,22])])
def spec_ArePaths.B4:List Nat:=[0,0,3,7,15,31,63,127,255,511,1023,1023,3071,8191,16383,32767,1023,1023,197631,459775,984063,2097151,4194303,8388607]
theorem spec_ArePaths.tab4:rtab .any (opsOf Tryz.f82 4)=spec_ArePaths.T4:=by kernel_rfl
theorem spec_ArePaths.bits4:waitsOk spec_ArePaths.T4.2 spec_ArePaths.B4=true:=by kernel_rfl
theorem spec_ArePaths.calls(k:Nat)(A0:Option Addr)(c0:Nat)(p:List (S76))(r:Bool)(w:World)(ai:Kd.C k76 w A0 p.length p)(aj:p.length≤c0)(h:spec_ArePaths.f k p=some r):
  Calls Tryz.prog 82 #[.slice A0 p.length c0] w fun e w'=>e= .returned (.bool r)∧Below w.heap.size w w':=by
 have:=Tryz.underlying76;have Y:=S.a ai;have:=S.a aj;clear ai aj;have HB:=S.a (Below.refl w.heap.size w);have H:(spec_ArePaths.l0 k p 0)=some r:=h;clear h;have H':=S.a H;clear H;go_enter Tryz.func82,Tryz.ntmps82;go_wp2;go_loopg [3] k (fun kq v3 w'=> ∃(b:Int),v3= .int .i64 b∧Aside0 (spec_ArePaths.l0 kq p b=some r)∧Aside0 (kq≤k)∧Aside0 (Below w.heap.size w w'))
 case atStart=>exact⟨(0),S.eA,H',⟨Nat.le_refl _⟩,⟨S.bA⟩⟩
 case round=>
  clear H';obtain⟨b,rfl,HA,af,HB⟩:=hrel
  cases gk with
  |zero=>exact absurd HA.1 (by simp[spec_ArePaths.l0])
  |succ k1=>
   have H:=HA.1;clear HA;simp only[spec_ArePaths.l0]at H;replace H:=S.dc H;rcases H with⟨H,ak⟩|⟨H,ak⟩
   ·by_cases c3:0≤b
    ·rw[if_pos c3]at H;have am:decide (0≤b)=true:=decide_eq_true c3;clear c3;replace H:=S.bd H;obtain⟨_,A4,H⟩:=H;(try dsimp only at H);replace H:=S.db H;rcases H with⟨rfl,H⟩|⟨rfl,H⟩
     ·by_cases c6:b>0
      ·rw[if_pos c6]at H;have al:decide (0<b)=true:=decide_eq_true c6;clear c6;obtain⟨E,Z⟩: ∃j_:Int,(wrap64 (b-1))=j_:=⟨_,rfl⟩;replace H:(if 0≤(E)then(if(E)<(p.length:Int)then(if((rd_T76 p (E)).f0)≥((rd_T76 p b).f0)then(some false)else(spec_ArePaths.l0 k1 p (wrap64 (b+1))))else(none))else(none))=some r:=by first|(rw[Z]at H;exact H)|(simp only[Z]at H⊢;exact H)
       (try rw[Z]at A4);have hji7w:(IntKind.i64.wrap (b-1))=E:=(i64_w _).trans Z
       by_cases c8:0≤(E)
       ·rw[if_pos c8]at H;have an:decide (0≤(E))=true:=decide_eq_true c8;clear c8
        by_cases c9:(E)<(p.length:Int)
        ·rw[if_pos c9]at H;have ao:decide ((E)<(p.length:Int))=true:=decide_eq_true c9;clear c9
         by_cases ac:((rd_T76 p (E)).f0)≥((rd_T76 p b).f0)
         ·rw[if_pos ac]at H;have ag:decide (((rd_T76 p b).f0)≤((rd_T76 p (E)).f0))=true:=decide_eq_true ac;clear ac;obtain rfl:=Option.some.inj H;try go_wp2
          replace HB:=S.a (below_drew1 HB.1);have B:0≤(b:Int):=S.oD;have D:b<(p.length:Int):=S.oD;obtain⟨R,T,c,d,g,i⟩:=at_T76 Y.1 b B D;have j:=i;have l:=g;have m:=d;have o:=c;cases T;replace c:=S.hb HB c;replace d:=S.hb HB d;replace g:=S.hb HB g;replace i:=S.hb HB i;replace B:=eq_true B;replace D:=eq_true D;have U:0≤((E):Int):=S.oD;have V:(E)<(p.length:Int):=S.oD;obtain⟨aa,ad,s,t,u,v⟩:=at_T76 Y.1 (E) U V;have F:=v;have G:=u;have I:=t;have J:=s;obtain rfl:R=aa:=(by injection ad);replace s:=S.hb HB s;replace t:=S.hb HB t;replace u:=S.hb HB u;replace v:=S.hb HB v;replace U:=eq_true U;replace V:=eq_true V;have W:0≤(b:Int):=S.oD;have X:b<(p.length:Int):=S.oD;obtain⟨ab,ae,x,y,z,A⟩:=at_T76 Y.1 b W X;have L:=A;have M:=z;have N:=y;have O:=x;obtain rfl:R=ab:=(by injection ae);replace x:=S.hb HB x;replace y:=S.hb HB y;replace z:=S.hb HB z;replace A:=S.hb HB A;replace W:=eq_true W;replace X:=eq_true X;refine S.st (n:=24) (ds:=[]) (S.bs 16777216) (fun w_ h_=>have x_:=And.intro (S.q h_ (S.hb HB o)) (And.intro (S.q h_ (S.hb HB m)) (And.intro (S.q h_ (S.hb HB l)) (And.intro (S.q h_ (S.hb HB j)) (And.intro (S.q h_ (S.hb HB J)) (And.intro (S.q h_ (S.hb HB I)) (And.intro (S.q h_ (S.hb HB G)) (And.intro (S.q h_ (S.hb HB F)) (And.intro (S.q h_ (S.hb HB O)) (And.intro (S.q h_ (S.hb HB N)) (And.intro (S.q h_ (S.hb HB M)) (S.q h_ (S.hb HB L))))))))))));x_) (fun hHeld=>?_);refine with_tabW spec_ArePaths.tab4 spec_ArePaths.bits4 (fun HT_ HW_=>?_);generalize wr.drew=ap at HB c d g i s t u v x y z A hHeld⊢;refine S.pS 0 10 ?_;refine S.pS 1 11 ?_;refine S.pS 2 12 ?_;refine S.tK 3 13 (S.bs 16777231) ?_;refine S.oN 4 14 (S.bs 16777247) (fun K hK=>?_);refine S.go Tryz.func113 #[.agg #[.int .i64 ((rd_T76 p b).f0),.int .i64 ((rd_T76 p b).f1),.int .i64 ((rd_T76 p b).f2),.int .i64 ((rd_T76 p b).f3)]] ?_
          with_reducible refine(spec_IsPath.calls ((rd_T76 p b).f0) ((rd_T76 p b).f1) ((rd_T76 p b).f2) ((rd_T76 p b).f3) true _ A4.1).mono ?_
          rintro e aq ⟨rfl,hb⟩;refine⟨_,rfl,?_⟩;replace HB:=S.sA hb;(try clear hb);(try clear ah);(try clear hk);(try clear hi);refine hK.out _ _ ⟨(S.hb HB o:),(S.hb HB m:),(S.hb HB l:),(S.hb HB j:),(S.hb HB J:),(S.hb HB I:),(S.hb HB G:),(S.hb HB F:),(S.hb HB O:),(S.hb HB N:),(S.hb HB M:),(S.hb HB L:)⟩ (fun hHeld=>?_);clear hK K;refine S.nm 14 ?_;refine S.pS 5 15 ?_;refine S.pS 6 16 ?_;refine S.pS 7 17 ?_;refine S.pS 8 18 ?_;refine S.pS 9 19 ?_;refine S.pS 10 20 ?_;refine S.pS 11 21 ?_;refine S.pS 12 22 ?_;refine S.pS 13 23 ?_;refine S.pS 14 24 ?_;refine S.pS 16 26 ?_;refine S.pS 17 27 ?_;refine S.pS 18 28 ?_;refine S.pS 19 29 ?_;refine S.tK 15 25 (S.bs 17825791) ?_;refine S.tK 20 30 (S.bs 18874367) ?_;refine S.pS 21 31 ?_;refine S.pS 22 32 ?_;refine S.pS 23 33 ?_;refine done_ (done_of HT_.1 (by kernel_rfl)) ?_;try go_wp2
          go_ret;exact⟨by first|rfl|(simp[errW_none,errW_some]<;>rfl)|(simp only[←Z];first|rfl|(simp[errW_none,errW_some]<;>rfl))|(simp[*,errW_none,errW_some]<;>rfl),S.bA⟩
         ·rw[if_neg ac]at H;have ag:decide (((rd_T76 p b).f0)≤((rd_T76 p (E)).f0))=false:=decide_eq_false ac;clear ac;have H':=S.a H;clear H;try go_wp2
          replace HB:=S.a (below_drew1 HB.1);have B:0≤(b:Int):=S.oD;have D:b<(p.length:Int):=S.oD;obtain⟨R,T,c,d,g,i⟩:=at_T76 Y.1 b B D;have j:=i;have l:=g;have m:=d;have o:=c;cases T;replace c:=S.hb HB c;replace d:=S.hb HB d;replace g:=S.hb HB g;replace i:=S.hb HB i;replace B:=eq_true B;replace D:=eq_true D;have U:0≤((E):Int):=S.oD;have V:(E)<(p.length:Int):=S.oD;obtain⟨aa,ad,s,t,u,v⟩:=at_T76 Y.1 (E) U V;have F:=v;have G:=u;have I:=t;have J:=s;obtain rfl:R=aa:=(by injection ad);replace s:=S.hb HB s;replace t:=S.hb HB t;replace u:=S.hb HB u;replace v:=S.hb HB v;replace U:=eq_true U;replace V:=eq_true V;have W:0≤(b:Int):=S.oD;have X:b<(p.length:Int):=S.oD;obtain⟨ab,ae,x,y,z,A⟩:=at_T76 Y.1 b W X;have L:=A;have M:=z;have N:=y;have O:=x;obtain rfl:R=ab:=(by injection ae);replace x:=S.hb HB x;replace y:=S.hb HB y;replace z:=S.hb HB z;replace A:=S.hb HB A;replace W:=eq_true W;replace X:=eq_true X;refine S.st (n:=24) (ds:=[]) (S.bs 16777216) (fun w_ h_=>have x_:=And.intro (S.q h_ (S.hb HB o)) (And.intro (S.q h_ (S.hb HB m)) (And.intro (S.q h_ (S.hb HB l)) (And.intro (S.q h_ (S.hb HB j)) (And.intro (S.q h_ (S.hb HB J)) (And.intro (S.q h_ (S.hb HB I)) (And.intro (S.q h_ (S.hb HB G)) (And.intro (S.q h_ (S.hb HB F)) (And.intro (S.q h_ (S.hb HB O)) (And.intro (S.q h_ (S.hb HB N)) (And.intro (S.q h_ (S.hb HB M)) (S.q h_ (S.hb HB L))))))))))));x_) (fun hHeld=>?_);refine with_tabW spec_ArePaths.tab4 spec_ArePaths.bits4 (fun HT_ HW_=>?_);generalize wr.drew=ar at HB c d g i s t u v x y z A hHeld⊢;refine S.pS 0 10 ?_;refine S.pS 1 11 ?_;refine S.pS 2 12 ?_;refine S.tK 3 13 (S.bs 16777231) ?_;refine S.oN 4 14 (S.bs 16777247) (fun K hK=>?_);refine S.go Tryz.func113 #[.agg #[.int .i64 ((rd_T76 p b).f0),.int .i64 ((rd_T76 p b).f1),.int .i64 ((rd_T76 p b).f2),.int .i64 ((rd_T76 p b).f3)]] ?_
          with_reducible refine(spec_IsPath.calls ((rd_T76 p b).f0) ((rd_T76 p b).f1) ((rd_T76 p b).f2) ((rd_T76 p b).f3) true _ A4.1).mono ?_
          rintro e au ⟨rfl,hb⟩;refine⟨_,rfl,?_⟩;replace HB:=S.sA hb;(try clear hb);(try clear ah);(try clear hk);(try clear hi);refine hK.out _ _ ⟨(S.hb HB o:),(S.hb HB m:),(S.hb HB l:),(S.hb HB j:),(S.hb HB J:),(S.hb HB I:),(S.hb HB G:),(S.hb HB F:),(S.hb HB O:),(S.hb HB N:),(S.hb HB M:),(S.hb HB L:)⟩ (fun hHeld=>?_);clear hK K;refine S.nm 14 ?_;refine S.pS 5 15 ?_;refine S.pS 6 16 ?_;refine S.pS 7 17 ?_;refine S.pS 8 18 ?_;refine S.pS 9 19 ?_;refine S.pS 10 20 ?_;refine S.pS 11 21 ?_;refine S.pS 12 22 ?_;refine S.pS 13 23 ?_;refine S.pS 14 24 ?_;refine S.pS 16 26 ?_;refine S.pS 17 27 ?_;refine S.pS 18 28 ?_;refine S.pS 19 29 ?_;refine S.tK 15 25 (S.bs 17825791) ?_;refine S.tK 20 30 (S.bs 18874367) ?_;refine S.pS 21 31 ?_;refine S.pS 22 32 ?_;refine S.pS 23 33 ?_;refine done_ (done_of HT_.1 (by kernel_rfl)) ?_;try go_wp2
          go_roundg k1
          case measure=>have:=af.1;omega
          case rel=>exact⟨(wrap64 (b+1)),S.eA,H',⟨by have:=af.1;omega⟩,⟨S.bA⟩⟩
        ·rw[if_neg c9]at H;exact absurd H (by simp)
       ·rw[if_neg c8]at H;exact absurd H (by simp)
      ·rw[if_neg c6]at H;have al:decide (0<b)=false:=decide_eq_false c6;clear c6;have H':=S.a H;clear H;try go_wp2
       replace HB:=S.a (below_drew1 HB.1);have B:0≤(b:Int):=S.oD;have D:b<(p.length:Int):=S.oD;obtain⟨R,T,c,d,g,i⟩:=at_T76 Y.1 b B D;have j:=i;have l:=g;have m:=d;have o:=c;cases T;replace c:=S.hb HB c;replace d:=S.hb HB d;replace g:=S.hb HB g;replace i:=S.hb HB i;replace B:=eq_true B;replace D:=eq_true D;refine S.st (n:=24) (ds:=[]) (S.bs 16777216) (fun w_ h_=>have x_:=And.intro (S.q h_ (S.hb HB o)) (And.intro (S.q h_ (S.hb HB m)) (And.intro (S.q h_ (S.hb HB l)) (S.q h_ (S.hb HB j))));x_) (fun hHeld=>?_);refine with_tabW spec_ArePaths.tab4 spec_ArePaths.bits4 (fun HT_ HW_=>?_);generalize wr.drew=av at HB c d g i hHeld⊢;refine S.pS 0 10 ?_;refine S.pS 1 11 ?_;refine S.pS 2 12 ?_;refine S.tK 3 13 (S.bs 16777231) ?_;refine S.oN 4 14 (S.bs 16777247) (fun K hK=>?_);refine S.go Tryz.func113 #[.agg #[.int .i64 ((rd_T76 p b).f0),.int .i64 ((rd_T76 p b).f1),.int .i64 ((rd_T76 p b).f2),.int .i64 ((rd_T76 p b).f3)]] ?_
       with_reducible refine(spec_IsPath.calls ((rd_T76 p b).f0) ((rd_T76 p b).f1) ((rd_T76 p b).f2) ((rd_T76 p b).f3) true _ A4.1).mono ?_
       rintro e aw ⟨rfl,hb⟩;refine⟨_,rfl,?_⟩;replace HB:=S.sA hb;(try clear hb);(try clear ah);(try clear hk);(try clear hi);refine hK.out _ _ ⟨(S.hb HB o:),(S.hb HB m:),(S.hb HB l:),(S.hb HB j:)⟩ (fun hHeld=>?_);clear hK K;refine S.nm 14 ?_;refine S.pS 5 15 ?_;refine S.pS 6 16 ?_;refine S.pS 7 17 ?_;refine S.pS 8 18 ?_;refine S.pS 9 19 ?_;refine S.pU 10 20 ?_;refine S.pU 11 21 ?_;refine S.pU 12 22 ?_;refine S.pU 13 23 ?_;refine S.pU 14 24 ?_;refine S.pU 15 25 ?_;refine S.pU 16 26 ?_;refine S.pU 17 27 ?_;refine S.pU 18 28 ?_;refine S.pU 19 29 ?_;refine S.pU 20 30 ?_;refine S.pU 21 31 ?_;refine S.pS 22 32 ?_;refine S.pS 23 33 ?_;refine done_ (done_of HT_.1 (by kernel_rfl)) ?_;try go_wp2
       go_roundg k1
       case measure=>have:=af.1;omega
       case rel=>exact⟨(wrap64 (b+1)),S.eA,H',⟨by have:=af.1;omega⟩,⟨S.bA⟩⟩
     ·obtain rfl:=Option.some.inj H;try go_wp2
      replace HB:=S.a (below_drew1 HB.1);have B:0≤(b:Int):=S.oD;have D:b<(p.length:Int):=S.oD;obtain⟨R,T,c,d,g,i⟩:=at_T76 Y.1 b B D;have j:=i;have l:=g;have m:=d;have o:=c;cases T;replace c:=S.hb HB c;replace d:=S.hb HB d;replace g:=S.hb HB g;replace i:=S.hb HB i;replace B:=eq_true B;replace D:=eq_true D;refine S.st (n:=24) (ds:=[]) (S.bs 16777216) (fun w_ h_=>have x_:=And.intro (S.q h_ (S.hb HB o)) (And.intro (S.q h_ (S.hb HB m)) (And.intro (S.q h_ (S.hb HB l)) (S.q h_ (S.hb HB j))));x_) (fun hHeld=>?_);refine with_tabW spec_ArePaths.tab4 spec_ArePaths.bits4 (fun HT_ HW_=>?_);generalize wr.drew=ax at HB c d g i hHeld⊢;refine S.pS 0 10 ?_;refine S.pS 1 11 ?_;refine S.pS 2 12 ?_;refine S.tK 3 13 (S.bs 16777231) ?_;refine S.oN 4 14 (S.bs 16777247) (fun K hK=>?_);refine S.go Tryz.func113 #[.agg #[.int .i64 ((rd_T76 p b).f0),.int .i64 ((rd_T76 p b).f1),.int .i64 ((rd_T76 p b).f2),.int .i64 ((rd_T76 p b).f3)]] ?_
      with_reducible refine(spec_IsPath.calls ((rd_T76 p b).f0) ((rd_T76 p b).f1) ((rd_T76 p b).f2) ((rd_T76 p b).f3) false _ A4.1).mono ?_
      rintro e ay ⟨rfl,hb⟩;refine⟨_,rfl,?_⟩;replace HB:=S.sA hb;(try clear hb);(try clear ah);(try clear hk);(try clear hi);refine hK.out _ _ ⟨(S.hb HB o:),(S.hb HB m:),(S.hb HB l:),(S.hb HB j:)⟩ (fun hHeld=>?_);clear hK K;refine S.nm 14 ?_;refine S.pS 5 15 ?_;refine S.pS 6 16 ?_;refine S.pU 7 17 ?_;refine S.pU 8 18 ?_;refine S.pU 9 19 ?_;refine S.pU 10 20 ?_;refine S.pU 11 21 ?_;refine S.pU 12 22 ?_;refine S.pU 13 23 ?_;refine S.pU 14 24 ?_;refine S.pU 15 25 ?_;refine S.pU 16 26 ?_;refine S.pU 17 27 ?_;refine S.pU 18 28 ?_;refine S.pU 19 29 ?_;refine S.pU 20 30 ?_;refine S.pU 21 31 ?_;refine S.pU 22 32 ?_;refine S.pS 23 33 ?_;refine done_ (done_of HT_.1 (by kernel_rfl)) ?_;try go_wp2
      go_ret;exact⟨S.eW,S.bA⟩
    ·rw[if_neg c3]at H;exact absurd H (by simp)
   ·obtain rfl:=Option.some.inj H;go_wp2;go_ret;exact⟨S.eW,S.bA⟩
mutual
def spec_Interleave.l0:Nat→Int→Int→Int→Int→List Int→Int→Option (Bool)
 |0,_,_,_,_,_,_=>none
 |k+1,b,c,d,e,f,a=>if a<4 then(spec_Interleave.l1 k b c d e f a 0)else(spec_Interleave.l2 k c d e 0 (Int.tmod (wrap64 (b+1)) 8))
def spec_Interleave.l1:Nat→Int→Int→Int→Int→List Int→Int→Int→Option (Bool)
 |0,_,_,_,_,_,_,_=>none
 |k+1,e,g,h,i,c,a,b=>if b<a then(if 0≤a then(if a<(c.length:Int)then(if 0≤b then(if b<(c.length:Int)then(if(rd c a)=(rd c b)then(some false)else(spec_Interleave.l1 k e g h i c a (wrap64 (b+1))))else(none))else(none))else(none))else(none))else(if 0≤a then(if a<(c.length:Int)then((spec_l1In.f (rd c a) 0 7).bind fun d=>(if d=true then(spec_Interleave.l0 k e g h i c (wrap64 (a+1)))else(some false)))else(none))else(none))
def spec_Interleave.l2:Nat→Int→Int→Int→Int→Int→Option (Bool)
 |0,_,_,_,_,_=>none
 |k+1,c,d,e,b,a=>if a=c then(some (b==1))else(if a=d then(spec_Interleave.l2 k c d e (wrap64 (b+1)) (Int.tmod (wrap64 (a+1)) 8))else(if a=e then(spec_Interleave.l2 k c d e (wrap64 (b+1)) (Int.tmod (wrap64 (a+1)) 8))else(spec_Interleave.l2 k c d e b (Int.tmod (wrap64 (a+1)) 8))))
end
def spec_Interleave.f(k:Nat)(a:Int)(b:Int)(c:Int)(d:Int):Option (Bool):=spec_Interleave.l0 k a b c d (([a,b,c,d]:List Int)) 0
theorem spec_Interleave.mono_l: ∀k,(∀d e f g i j,LeO (spec_Interleave.l0 k d e f g i j) (spec_Interleave.l0 (k+1) d e f g i j))∧(∀d e f g i j l,LeO (spec_Interleave.l1 k d e f g i j l) (spec_Interleave.l1 (k+1) d e f g i j l))∧(∀d e f g i,LeO (spec_Interleave.l2 k d e f g i) (spec_Interleave.l2 (k+1) d e f g i))
 |0=>⟨fun _ _ _ _ _ _ r h=>by simp[spec_Interleave.l0]at h,fun _ _ _ _ _ _ _ r h=>by simp[spec_Interleave.l1]at h,fun _ _ _ _ _ r h=>by simp[spec_Interleave.l2]at h⟩
 |k+1=>by
  obtain⟨a,b,c⟩:=spec_Interleave.mono_l k;refine⟨?_,?_,?_⟩
  ·intro d e f g i j
   unfold spec_Interleave.l0
   repeat' first
   |(with_reducible exact a _ _ _ _ _ _)
   |(with_reducible exact b _ _ _ _ _ _ _)
   |(with_reducible exact c _ _ _ _ _)
   |(with_reducible exact LeO.refl _)
   |(with_reducible exact LeO.none _)
   |(with_reducible refine LeO.ite ?_ ?_)
   |(with_reducible refine LeO.bind ?_ (fun _=>?_))
   |exact a _ _ _ _ _ _
   |exact b _ _ _ _ _ _ _
   |exact c _ _ _ _ _
   |exact LeO.none _
   |refine LeO.ite ?_ ?_
   |refine LeO.bind ?_ (fun _=>?_)
  ·intro d e f g i j l
   unfold spec_Interleave.l1
   repeat' first
   |(with_reducible exact a _ _ _ _ _ _)
   |(with_reducible exact b _ _ _ _ _ _ _)
   |(with_reducible exact c _ _ _ _ _)
   |(with_reducible exact LeO.refl _)
   |(with_reducible exact LeO.none _)
   |(with_reducible refine LeO.ite ?_ ?_)
   |(with_reducible refine LeO.bind ?_ (fun _=>?_))
   |exact a _ _ _ _ _ _
   |exact b _ _ _ _ _ _ _
   |exact c _ _ _ _ _
   |exact LeO.none _
   |refine LeO.ite ?_ ?_
   |refine LeO.bind ?_ (fun _=>?_)
  ·intro d e f g i
   unfold spec_Interleave.l2
   repeat' first
   |(with_reducible exact a _ _ _ _ _ _)
   |(with_reducible exact b _ _ _ _ _ _ _)
   |(with_reducible exact c _ _ _ _ _)
   |(with_reducible exact LeO.refl _)
   |(with_reducible exact LeO.none _)
   |(with_reducible refine LeO.ite ?_ ?_)
   |(with_reducible refine LeO.bind ?_ (fun _=>?_))
   |exact a _ _ _ _ _ _
   |exact b _ _ _ _ _ _ _
   |exact c _ _ _ _ _
   |exact LeO.none _
   |refine LeO.ite ?_ ?_
   |refine LeO.bind ?_ (fun _=>?_)
theorem spec_Interleave.mono: ∀d e g h k,LeO (spec_Interleave.f k d e g h) (spec_Interleave.f (k+1) d e g h):=by
 intro d e g h k;obtain⟨a,b,c⟩:=spec_Interleave.mono_l k
 unfold spec_Interleave.f
 repeat' first
   |(with_reducible exact a _ _ _ _ _ _)
   |(with_reducible exact b _ _ _ _ _ _ _)
   |(with_reducible exact c _ _ _ _ _)
   |(with_reducible exact LeO.refl _)
   |(with_reducible exact LeO.none _)
   |(with_reducible refine LeO.ite ?_ ?_)
   |(with_reducible refine LeO.bind ?_ (fun _=>?_))
   |exact a _ _ _ _ _ _
   |exact b _ _ _ _ _ _ _
   |exact c _ _ _ _ _
   |exact LeO.none _
   |refine LeO.ite ?_ ?_
   |refine LeO.bind ?_ (fun _=>?_)
theorem spec_Interleave.calls(k:Nat)(z:Int)(n:Int)(o:Int)(p:Int)(r:Bool)(w:World)(h:spec_Interleave.f k z n o p=some r):
  Calls Tryz.prog 124 #[.int .i64 z,.int .i64 n,.int .i64 o,.int .i64 p] w fun e w'=>e= .returned (.bool r)∧Below w.heap.size w w':=by
 have HB:=S.a (Below.refl w.heap.size w);have H:(spec_Interleave.l0 k z n o p (([z,n,o,p]:List Int)) 0)=some r:=h;clear h;obtain⟨c,B⟩: ∃y_:List Int,y_=(([z,n,o,p]:List Int)):=⟨_,rfl⟩;have hY_:=B;replace H:(spec_Interleave.l0 k z n o p c 0)=some r:=S.rh;clear hY_;have l:=S.a B;clear B;have H':=S.a H;clear H;go_enter Tryz.func124,Tryz.ntmps124;go_wp2_with (first|((with_reducible refine gate_dst (N:=18) rfl ?_);refine Kd.R_lit (Kd.int .i64) _ 3 ?hg (N:=18) ?hd (xs:=([z,n,o,p]:List Int)) (inner:=[.int .i64 z,.int .i64 n,.int .i64 o,.int .i64 p]) (ok:=fun _=>True) (okp:=fun _=>True) ?hr ?hp (fun _ hk=>hk) trivial (Below.refl _ _) (Nat.le_refl _) (by simp) ?_;(case hd=>rfl);(case hg=>rfl);(case hr=>first|(go_simp;done)|(go_simp;rfl));(case hp=>exact(Reps.one (show Kd.M (Kd.int .i64) _ _ _ z [.int .i64 z]from rfl) (Reps.one (show Kd.M (Kd.int .i64) _ _ _ n [.int .i64 n]from rfl) (Reps.one (show Kd.M (Kd.int .i64) _ _ _ o [.int .i64 o]from rfl) (Reps.one (show Kd.M (Kd.int .i64) _ _ _ p [.int .i64 p]from rfl) (Reps.none _ _))))));intro L w5 j hb hg_ hnew_;clear hg_ hnew_;(first|rw[←l.1]at j|(simp only[Int.reduceToNat]at j;rw[←l.1]at j));have C:=S.lwA j;replace HB:=S.sA hb;clear hb j))
 repeat(go_quiet (first|((with_reducible refine gate_dst (N:=18) rfl ?_);refine Kd.R_lit (Kd.int .i64) _ 3 ?hg (N:=18) ?hd (xs:=([z,n,o,p]:List Int)) (inner:=[.int .i64 z,.int .i64 n,.int .i64 o,.int .i64 p]) (ok:=fun _=>True) (okp:=fun _=>True) ?hr ?hp (fun _ hk=>hk) trivial (Below.refl _ _) (Nat.le_refl _) (by simp) ?_;(case hd=>rfl);(case hg=>rfl);(case hr=>first|(go_simp;done)|(go_simp;rfl));(case hp=>exact(Reps.one (show Kd.M (Kd.int .i64) _ _ _ z [.int .i64 z]from rfl) (Reps.one (show Kd.M (Kd.int .i64) _ _ _ n [.int .i64 n]from rfl) (Reps.one (show Kd.M (Kd.int .i64) _ _ _ o [.int .i64 o]from rfl) (Reps.one (show Kd.M (Kd.int .i64) _ _ _ p [.int .i64 p]from rfl) (Reps.none _ _))))));intro L w5 j hb hg_ hnew_;clear hg_ hnew_;(first|rw[←l.1]at j|(simp only[Int.reduceToNat]at j;rw[←l.1]at j));have C:=S.lwA j;replace HB:=S.sA hb;clear hb j));try go_wp2_with (first|((with_reducible refine gate_dst (N:=18) rfl ?_);refine Kd.R_lit (Kd.int .i64) _ 3 ?hg (N:=18) ?hd (xs:=([z,n,o,p]:List Int)) (inner:=[.int .i64 z,.int .i64 n,.int .i64 o,.int .i64 p]) (ok:=fun _=>True) (okp:=fun _=>True) ?hr ?hp (fun _ hk=>hk) trivial (Below.refl _ _) (Nat.le_refl _) (by simp) ?_;(case hd=>rfl);(case hg=>rfl);(case hr=>first|(go_simp;done)|(go_simp;rfl));(case hp=>exact(Reps.one (show Kd.M (Kd.int .i64) _ _ _ z [.int .i64 z]from rfl) (Reps.one (show Kd.M (Kd.int .i64) _ _ _ n [.int .i64 n]from rfl) (Reps.one (show Kd.M (Kd.int .i64) _ _ _ o [.int .i64 o]from rfl) (Reps.one (show Kd.M (Kd.int .i64) _ _ _ p [.int .i64 p]from rfl) (Reps.none _ _))))));intro L w5 j hb hg_ hnew_;clear hg_ hnew_;(first|rw[←l.1]at j|(simp only[Int.reduceToNat]at j;rw[←l.1]at j));have ao:=S.lwA j;have ap:=S.sA hb;clear HB;have C:=ao;have HB:=ap;clear ao ap;clear hb j)))
 go_loopg [10] k (fun kq ax w'=> ∃(b:Int),ax= .int .i64 b∧Aside0 (spec_Interleave.l0 kq z n o p c b=some r)∧Aside0 (kq≤k)∧Aside0 (Kd.R (Kd.int .i64) 3 w' w.heap.size (fun _=>True) L c)∧Aside0 (Below w.heap.size w w'))
 case atStart=>exact⟨(0),S.eA,H',⟨Nat.le_refl _⟩,⟨S.uR C.1⟩,⟨S.bA⟩⟩
 case round=>
  clear H';obtain⟨b,rfl,HA,A,i,HB⟩:=hrel
  cases gk with
  |zero=>exact absurd HA.1 (by simp[spec_Interleave.l0])
  |succ k1=>
   have H:=HA.1;clear HA;simp only[spec_Interleave.l0]at H;replace H:=S.dc H;rcases H with⟨H,T⟩|⟨H,T⟩
   ·have H':=S.a H;clear H;go_wp2
    repeat(go_quiet (fail);try go_wp2)
    go_loopg [11] k1 (fun kq ay w'=> ∃(g:Int),ay= .int .i64 g∧Aside0 (spec_Interleave.l1 kq z n o p c b g=some r)∧Aside0 (kq≤k1)∧Aside0 (Kd.R (Kd.int .i64) 3 w' w.heap.size (fun _=>True) L c)∧Aside0 (Below w.heap.size w w'))
    case atStart=>exact⟨(0),S.eA,H',⟨Nat.le_refl _⟩,⟨S.uR i.1⟩,⟨S.bA⟩⟩
    case round=>
     clear H';try clear c7
     try clear T
     obtain⟨g,rfl,HA,q,i,HB⟩:=hrel
     cases gk with
     |zero=>exact absurd HA.1 (by simp[spec_Interleave.l1])
     |succ k2=>
      have H:=HA.1;clear HA;simp only[spec_Interleave.l1]at H;replace H:=S.dc H;rcases H with⟨H,aq⟩|⟨H,aq⟩
      ·by_cases c9:0≤b
       ·rw[if_pos c9]at H;have aA:decide (0≤b)=true:=decide_eq_true c9;clear c9
        by_cases aa:b<(c.length:Int)
        ·rw[if_pos aa]at H;have az:decide (b<(c.length:Int))=true:=decide_eq_true aa;clear aa
         by_cases ab:0≤g
         ·rw[if_pos ab]at H;have a4:decide (0≤g)=true:=decide_eq_true ab;clear ab
          by_cases ac:g<(c.length:Int)
          ·rw[if_pos ac]at H;have a5:decide (g<(c.length:Int))=true:=decide_eq_true ac;clear ac
           by_cases D:(rd c b)=(rd c g)
           ·rw[if_pos D]at H;have af:((rd c b)==(rd c g))=true:=beq_iff_eq.mpr D;have ag:((rd c b) !=(rd c g))=false:=bne_eq_false_iff_eq.mpr D;clear D;obtain rfl:=Option.some.inj H;obtain⟨_,_,ar⟩:=Kd.R_slice i.1;subst ar;have s:0≤(b:Int):=S.oD;have t:b<(c.length:Int):=S.oD;obtain⟨E,U,V⟩:=Kd.at_int (Kd.R_reads' i.1).2.2 b s t;cases U;replace s:=eq_true s;replace t:=eq_true t;have u:0≤(g:Int):=S.oD;have v:g<(c.length:Int):=S.oD;obtain⟨F,W,X⟩:=Kd.at_int (Kd.R_reads' i.1).2.2 g u v;obtain rfl:E=F:=(by injection W);replace u:=eq_true u;replace v:=eq_true v;go_wp2
            repeat(go_quiet (fail);try go_wp2)
            go_ret;exact⟨S.eW,S.bA⟩
           ·rw[if_neg D]at H;have af:((rd c b)==(rd c g))=false:=beq_eq_false_iff_ne.mpr D;have ag:((rd c b) !=(rd c g))=true:=bne_iff_ne.mpr D;have H':=S.a H;clear H;obtain⟨_,_,au⟩:=Kd.R_slice i.1;subst au;have s:0≤(b:Int):=S.oD;have t:b<(c.length:Int):=S.oD;obtain⟨E,U,V⟩:=Kd.at_int (Kd.R_reads' i.1).2.2 b s t;cases U;replace s:=eq_true s;replace t:=eq_true t;have u:0≤(g:Int):=S.oD;have v:g<(c.length:Int):=S.oD;obtain⟨F,W,X⟩:=Kd.at_int (Kd.R_reads' i.1).2.2 g u v;obtain rfl:E=F:=(by injection W);replace u:=eq_true u;replace v:=eq_true v;go_wp2
            repeat(go_quiet (fail);try go_wp2)
            go_roundg k2
            case measure=>have:=A.1;have:=q.1;omega
            case rel=>exact⟨(wrap64 (g+1)),S.eA,H',⟨by have:=A.1;have:=q.1;omega⟩,⟨S.uR i.1⟩,⟨S.bA⟩⟩
          ·rw[if_neg ac]at H;exact absurd H (by simp)
         ·rw[if_neg ab]at H;exact absurd H (by simp)
        ·rw[if_neg aa]at H;exact absurd H (by simp)
       ·rw[if_neg c9]at H;exact absurd H (by simp)
      ·by_cases ad:0≤b
       ·rw[if_pos ad]at H;have a6:decide (0≤b)=true:=decide_eq_true ad;clear ad
        by_cases ae:b<(c.length:Int)
        ·rw[if_pos ae]at H;have a7:decide (b<(c.length:Int))=true:=decide_eq_true ae;clear ae;replace H:=S.bd H;obtain⟨_,O,H⟩:=H;(try dsimp only at H);replace H:=S.db H;rcases H with⟨rfl,H⟩|⟨rfl,H⟩
         ·have H':=S.a H;clear H;obtain⟨_,_,av⟩:=Kd.R_slice i.1;subst av;have x:0≤(b:Int):=S.oD;have y:b<(c.length:Int):=S.oD;obtain⟨ah,Y,Z⟩:=Kd.at_int (Kd.R_reads' i.1).2.2 b x y;cases Y;replace x:=eq_true x;replace y:=eq_true y;go_wp2_with (first|(go_at_call 79;(with_reducible refine(spec_l1In.calls (rd c b) 0 7 true _ O.1).mono ?_);rintro e w' ⟨rfl,⟨nd,rfl⟩⟩;(try first|exact⟨rfl,_,World.drewN_drewN _ _ _⟩|exact⟨rfl,_,Eq.trans (World.drewN_drewN _ _ _) (congrArg (World.drewN _) (Nat.add_assoc _ _ _))⟩)))
          repeat(go_quiet (first|(go_at_call 79;(with_reducible refine(spec_l1In.calls (rd c b) 0 7 true _ O.1).mono ?_);rintro e w' ⟨rfl,⟨nd,rfl⟩⟩;(try first|exact⟨rfl,_,World.drewN_drewN _ _ _⟩|exact⟨rfl,_,Eq.trans (World.drewN_drewN _ _ _) (congrArg (World.drewN _) (Nat.add_assoc _ _ _))⟩)));try go_wp2_with (first|(go_at_call 79;(with_reducible refine(spec_l1In.calls (rd c b) 0 7 true _ O.1).mono ?_);rintro e w' ⟨rfl,⟨nd,rfl⟩⟩;(try first|exact⟨rfl,_,World.drewN_drewN _ _ _⟩|exact⟨rfl,_,Eq.trans (World.drewN_drewN _ _ _) (congrArg (World.drewN _) (Nat.add_assoc _ _ _))⟩))))
          go_roundg k2
          case measure=>have:=A.1;have:=q.1;omega
          case rel=>exact⟨(wrap64 (b+1)),S.eA,H',⟨by have:=A.1;have:=q.1;omega⟩,⟨S.uR i.1⟩,⟨S.bA⟩⟩
         ·obtain rfl:=Option.some.inj H;obtain⟨_,_,aw⟩:=Kd.R_slice i.1;subst aw;have x:0≤(b:Int):=S.oD;have y:b<(c.length:Int):=S.oD;obtain⟨ah,Y,Z⟩:=Kd.at_int (Kd.R_reads' i.1).2.2 b x y;cases Y;replace x:=eq_true x;replace y:=eq_true y;go_wp2_with (first|(go_at_call 79;(with_reducible refine(spec_l1In.calls (rd c b) 0 7 false _ O.1).mono ?_);rintro e w' ⟨rfl,⟨nd,rfl⟩⟩;(try first|exact⟨rfl,_,World.drewN_drewN _ _ _⟩|exact⟨rfl,_,Eq.trans (World.drewN_drewN _ _ _) (congrArg (World.drewN _) (Nat.add_assoc _ _ _))⟩)))
          repeat(go_quiet (first|(go_at_call 79;(with_reducible refine(spec_l1In.calls (rd c b) 0 7 false _ O.1).mono ?_);rintro e w' ⟨rfl,⟨nd,rfl⟩⟩;(try first|exact⟨rfl,_,World.drewN_drewN _ _ _⟩|exact⟨rfl,_,Eq.trans (World.drewN_drewN _ _ _) (congrArg (World.drewN _) (Nat.add_assoc _ _ _))⟩)));try go_wp2_with (first|(go_at_call 79;(with_reducible refine(spec_l1In.calls (rd c b) 0 7 false _ O.1).mono ?_);rintro e w' ⟨rfl,⟨nd,rfl⟩⟩;(try first|exact⟨rfl,_,World.drewN_drewN _ _ _⟩|exact⟨rfl,_,Eq.trans (World.drewN_drewN _ _ _) (congrArg (World.drewN _) (Nat.add_assoc _ _ _))⟩))))
          go_ret;exact⟨S.eW,S.bA⟩
        ·rw[if_neg ae]at H;exact absurd H (by simp)
       ·rw[if_neg ad]at H;exact absurd H (by simp)
   ·have H':=S.a H;clear H;go_wp2
    repeat(go_quiet (fail);try go_wp2)
    go_loopg [12,13] k1 (fun kq a8 a9 w'=> ∃(m:Int) (d:Int),a8= .int .i64 m∧a9= .int .i64 d∧Aside0 (spec_Interleave.l2 kq n o p m d=some r)∧Aside0 (kq≤k1)∧Aside0 (Below w.heap.size w w'))
    case atStart=>exact⟨(0),(Int.tmod (wrap64 (z+1)) 8),S.eA,S.eA,H',⟨Nat.le_refl _⟩,⟨S.bA⟩⟩
    case round=>
     clear H';try clear c7
     try clear T
     obtain⟨m,d,rfl,rfl,HA,q,HB⟩:=hrel
     cases gk with
     |zero=>exact absurd HA.1 (by simp[spec_Interleave.l2])
     |succ k2=>
      have H:=HA.1;clear HA;simp only[spec_Interleave.l2]at H
      by_cases G:d=n
      ·rw[if_pos G]at H;have ai:(d==n)=true:=beq_iff_eq.mpr G;have aj:(d !=n)=false:=bne_eq_false_iff_eq.mpr G;clear G;obtain rfl:=Option.some.inj H;go_wp2
       repeat(go_quiet (fail);try go_wp2)
       go_ret;exact⟨S.eW,S.bA⟩
      ·rw[if_neg G]at H;have ai:(d==n)=false:=beq_eq_false_iff_ne.mpr G;have aj:(d !=n)=true:=bne_iff_ne.mpr G
       by_cases I:d=o
       ·rw[if_pos I]at H;have ak:(d==o)=true:=beq_iff_eq.mpr I;have al:(d !=o)=false:=bne_eq_false_iff_eq.mpr I;clear I;have H':=S.a H;clear H;go_wp2
        repeat(go_quiet (fail);try go_wp2)
        go_roundg k2
        case measure=>have:=A.1;have:=q.1;omega
        case rel=>exact⟨(wrap64 (m+1)),(Int.tmod (wrap64 (d+1)) 8),S.eA,S.eA,H',⟨by have:=A.1;have:=q.1;omega⟩,⟨S.bA⟩⟩
       ·rw[if_neg I]at H;have ak:(d==o)=false:=beq_eq_false_iff_ne.mpr I;have al:(d !=o)=true:=bne_iff_ne.mpr I
        by_cases J:d=p
        ·rw[if_pos J]at H;have am:(d==p)=true:=beq_iff_eq.mpr J;have an:(d !=p)=false:=bne_eq_false_iff_eq.mpr J;clear J;have H':=S.a H;clear H;go_wp2
         repeat(go_quiet (fail);try go_wp2)
         go_roundg k2
         case measure=>have:=A.1;have:=q.1;omega
         case rel=>exact⟨(wrap64 (m+1)),(Int.tmod (wrap64 (d+1)) 8),S.eA,S.eA,H',⟨by have:=A.1;have:=q.1;omega⟩,⟨S.bA⟩⟩
        ·rw[if_neg J]at H;have am:(d==p)=false:=beq_eq_false_iff_ne.mpr J;have an:(d !=p)=true:=bne_iff_ne.mpr J;have H':=S.a H;clear H;go_wp2
         repeat(go_quiet (fail);try go_wp2)
         go_roundg k2
         case measure=>have:=A.1;have:=q.1;omega
         case rel=>exact⟨(m),(Int.tmod (wrap64 (d+1)) 8),S.eA,S.eA,H',⟨by have:=A.1;have:=q.1;omega⟩,⟨S.bA⟩⟩
def spec_InPlace.f(b:Int):Option (Int):=(spec_l1In.f b 0 3).bind fun a=>(if a=true then(some (wrap64 (2*b)))else(some (-1)))
theorem spec_InPlace.calls(a:Int)(r:Int)(w:World)(h:spec_InPlace.f a=some r):
  Calls Tryz.prog 125 #[.int .i64 a] w fun e w'=>e= .returned (.int .i64 r)∧Drawn0 w w':=by
 have H:((spec_l1In.f a 0 3).bind fun b=>(if b=true then(some (wrap64 (2*a)))else(some (-1))))=some r:=h;clear h;replace H:=S.bd H;obtain⟨b,c,H⟩:=H;(try dsimp only at H);replace H:=S.db H;rcases H with⟨rfl,H⟩|⟨rfl,H⟩
 ·obtain rfl:=Option.some.inj H;go_enter Tryz.func125,Tryz.ntmps125;go_wp2_with (first|((with_reducible refine gate_callee (f:=79) rfl ?_);refine S.gL (some 4) Tryz.func79 #[.int .i64 a,.int .i64 0,.int .i64 3] ?_;(with_reducible refine(spec_l1In.calls a 0 3 true _ c.1).mono ?_);rintro e w' ⟨rfl,⟨nd,rfl⟩⟩;refine⟨_,rfl,?_⟩));go_ret;exact⟨S.eA,by repeat(first|exact Drawn0.refl _|apply Drawn0.step)⟩
 ·obtain rfl:=Option.some.inj H;go_enter Tryz.func125,Tryz.ntmps125;go_wp2_with (first|((with_reducible refine gate_callee (f:=79) rfl ?_);refine S.gL (some 4) Tryz.func79 #[.int .i64 a,.int .i64 0,.int .i64 3] ?_;(with_reducible refine(spec_l1In.calls a 0 3 false _ c.1).mono ?_);rintro e w' ⟨rfl,⟨nd,rfl⟩⟩;refine⟨_,rfl,?_⟩));go_ret;exact⟨S.eA,by repeat(first|exact Drawn0.refl _|apply Drawn0.step)⟩
def spec_OutPlace.f(b:Int):Option (Int):=(spec_l1In.f b 0 3).bind fun a=>(if a=true then(some (wrap64 ((wrap64 (2*b))+1)))else(some (-1)))
theorem spec_OutPlace.calls(a:Int)(r:Int)(w:World)(h:spec_OutPlace.f a=some r):
  Calls Tryz.prog 126 #[.int .i64 a] w fun e w'=>e= .returned (.int .i64 r)∧Drawn0 w w':=by
 have H:((spec_l1In.f a 0 3).bind fun b=>(if b=true then(some (wrap64 ((wrap64 (2*a))+1)))else(some (-1))))=some r:=h;clear h;replace H:=S.bd H;obtain⟨b,c,H⟩:=H;(try dsimp only at H);replace H:=S.db H;rcases H with⟨rfl,H⟩|⟨rfl,H⟩
 ·obtain rfl:=Option.some.inj H;go_enter Tryz.func126,Tryz.ntmps126;go_wp2_with (first|((with_reducible refine gate_callee (f:=79) rfl ?_);refine S.gL (some 4) Tryz.func79 #[.int .i64 a,.int .i64 0,.int .i64 3] ?_;(with_reducible refine(spec_l1In.calls a 0 3 true _ c.1).mono ?_);rintro e w' ⟨rfl,⟨nd,rfl⟩⟩;refine⟨_,rfl,?_⟩));go_ret;exact⟨S.eA,by repeat(first|exact Drawn0.refl _|apply Drawn0.step)⟩
 ·obtain rfl:=Option.some.inj H;go_enter Tryz.func126,Tryz.ntmps126;go_wp2_with (first|((with_reducible refine gate_callee (f:=79) rfl ?_);refine S.gL (some 4) Tryz.func79 #[.int .i64 a,.int .i64 0,.int .i64 3] ?_;(with_reducible refine(spec_l1In.calls a 0 3 false _ c.1).mono ?_);rintro e w' ⟨rfl,⟨nd,rfl⟩⟩;refine⟨_,rfl,?_⟩));go_ret;exact⟨S.eA,by repeat(first|exact Drawn0.refl _|apply Drawn0.step)⟩
def spec_Conflict.j0:Nat→Bool→Int→Int→Int→Int→Int→Int→Int→Int→Option (Bool)
 |0,_,_,_,_,_,_,_,_,_=>none
 |k+1,p,h,e,a,c,i,g,b,d=>if p=true then(some false)else(if e=2 then(if b=a then(some true)else(some (d==a)))else(if g=2 then(if a=b then(some true)else(some (c==b)))else(if a=b then(some false)else(if c=d then(some true)else((spec_InPlace.f a).bind fun j=>((spec_OutPlace.f c).bind fun l=>((spec_InPlace.f b).bind fun m=>((spec_OutPlace.f d).bind fun n=>((spec_Interleave.f k j l m n).bind fun o=>(some o))))))))))
def spec_Conflict.f(k:Nat)(c:Int)(a:Int)(d:Int)(e:Int)(g:Int)(b:Int)(h:Int)(i:Int):Option (Bool):=(spec_IsPath.f c a d e).bind fun j=>(if j=true then((spec_IsPath.f g b h i).bind fun l=>(if l=true then(if a=2 then(spec_Conflict.j0 k (b==2) c a d e g b h i)else(spec_Conflict.j0 k false c a d e g b h i))else(spec_Conflict.j0 k true c a d e g b h i)))else(spec_Conflict.j0 k true c a d e g b h i))
def spec_Conflict.T11:Bool×List (List Nat×List Nat):=(true,[([],[]),([0],[0]),([1],[1]),([],[]),([3],[3]),([4,2],[4]),([],[]),([6],[6]),([7,5],[7]),([],[]),([9],[9]),([10,8],[10]),([2,5,8,11,11],[2,5,8,11]),([12,12,0,1,2,3,4,5,6,7,8,9,10,11,12],[12])])
def spec_Conflict.B11:List Nat:=[0,1,3,0,8,31,0,64,255,0,512,2047,4095,8191]
theorem spec_Conflict.tab11:rtab .any (opsOf Tryz.f109 11)=spec_Conflict.T11:=by kernel_rfl
theorem spec_Conflict.bits11:waitsOk spec_Conflict.T11.2 spec_Conflict.B11=true:=by kernel_rfl
theorem spec_Conflict.calls(k:Nat)(q:Int)(l:Int)(d:Int)(m:Int)(s:Int)(o:Int)(j:Int)(p:Int)(r:Bool)(w:World)(h:spec_Conflict.f k q l d m s o j p=some r):
  Calls Tryz.prog 109 #[.agg #[.int .i64 q,.int .i64 l,.int .i64 d,.int .i64 m],.agg #[.int .i64 s,.int .i64 o,.int .i64 j,.int .i64 p]] w fun e w'=>e= .returned (.bool r)∧Below w.heap.size w w':=by
 have:=Tryz.underlying76;have HB:=S.a (Below.refl w.heap.size w);have H:((spec_IsPath.f q l d m).bind fun J=>(if J=true then((spec_IsPath.f s o j p).bind fun L=>(if L=true then(if l=2 then(spec_Conflict.j0 k (o==2) q l d m s o j p)else(spec_Conflict.j0 k false q l d m s o j p))else(spec_Conflict.j0 k true q l d m s o j p)))else(spec_Conflict.j0 k true q l d m s o j p)))=some r:=h;clear h;have M:=S.a H;clear H;go_enter Tryz.func109,Tryz.ntmps109;go_upto_region 1 with(first|((with_reducible refine gate_dst (N:=2) rfl ?_);refine S.bx 2 (cs:=#[.int .i64 q,.int .i64 l,.int .i64 d,.int .i64 m]) (t:=76) ?_;intro O hg w4 hbox hb;have b:=S.a hbox;have:=S.geA hg;have:=S.geA hg;replace HB:=S.sA hb;clear hb hbox hg)|((with_reducible refine gate_dst (N:=3) rfl ?_);refine S.bx 3 (cs:=#[.int .i64 s,.int .i64 o,.int .i64 j,.int .i64 p]) (t:=76) ?_;intro R hg w5 hbox hb;have c:=S.a hbox;have:=S.geG hg;have:=S.geG hg;replace HB:=S.sG hb;have g:=S.nl hg b;have i:=S.ng hg b;replace b:=S.kb b hb;clear hb hbox hg));(try simp only[Act.put,List.setIfInBounds_toArray,List.set_cons_zero,List.set_cons_succ]);go_cut [5] (fun v5 wc=> ∃(kq:Nat) (D:Bool),v5= .bool D∧Aside0 (spec_Conflict.j0 kq D q l d m s o j p=some r)∧Aside0 (kq≤k)∧Aside0 (wc.heap[O]?=some (.cells #[.int .i64 q,.int .i64 l,.int .i64 d,.int .i64 m] 76 (0,0)))∧Aside0 (wc.heap[R]?=some (.cells #[.int .i64 s,.int .i64 o,.int .i64 j,.int .i64 p] 76 (0,0)))∧Aside0 (Below w.heap.size w wc))
 case first=>
  have H:=M.1;clear M;replace H:=S.bd H;obtain⟨J,A6,H⟩:=H;(try dsimp only at H);replace H:=S.db H;rcases H with⟨rfl,H⟩|⟨rfl,H⟩
  ·replace H:=S.bd H;obtain⟨L,A8,H⟩:=H;(try dsimp only at H);replace H:=S.db H;rcases H with⟨rfl,H⟩|⟨rfl,H⟩
   ·by_cases v:l=2
    ·rw[if_pos v]at H;have u:(l==2)=true:=beq_iff_eq.mpr v;have T:(l !=2)=false:=bne_eq_false_iff_eq.mpr v;clear v;(first|rw[u]|(simp only[i64_w,i32_w];rw[u])|skip);have H':=S.a H;clear H;have:=g.1;have:=i.1;obtain⟨_,_,_,_,_,_,_,_⟩:=S.c4 b.1;go_wp2_with (first|((with_reducible refine gate_callee (f:=113) rfl ?_);refine S.gL (some 7) Tryz.func113 #[.agg #[.int .i64 q,.int .i64 l,.int .i64 d,.int .i64 m]] ?_;(with_reducible refine(spec_IsPath.calls q l d m true _ A6.1).mono ?_);rintro e an ⟨rfl,hb⟩;refine⟨_,rfl,?_⟩;replace b:=S.kb b hb;replace c:=S.kb c hb;replace HB:=S.sG hb;(try clear hb);obtain⟨_,_,_,_,_,_,_,_⟩:=S.c4 c.1)|(go_at_call 113;(with_reducible refine(spec_IsPath.calls s o j p true _ A8.1).mono ?_);rintro e ao ⟨rfl,hb⟩;replace b:=S.kb b hb;replace c:=S.kb c hb;replace HB:=S.sG hb;(try clear hb);obtain⟨_,_,_,_,_,_,_,_⟩:=S.c4 b.1;obtain⟨_,_,_,_,_,_,_,_⟩:=S.c4 c.1));go_meet
     case rel=>exact⟨_,((o==2)),S.eA,H',S.le,⟨S.uB b.1⟩,⟨S.uB c.1⟩,⟨S.bG⟩⟩
    ·rw[if_neg v]at H;have u:(l==2)=false:=beq_eq_false_iff_ne.mpr v;have T:(l !=2)=true:=bne_iff_ne.mpr v;(first|rw[u]|(simp only[i64_w,i32_w];rw[u])|skip);have H':=S.a H;clear H;have:=g.1;have:=i.1;obtain⟨_,_,_,_,_,_,_,_⟩:=S.c4 b.1;go_wp2_with (first|((with_reducible refine gate_callee (f:=113) rfl ?_);refine S.gL (some 7) Tryz.func113 #[.agg #[.int .i64 q,.int .i64 l,.int .i64 d,.int .i64 m]] ?_;(with_reducible refine(spec_IsPath.calls q l d m true _ A6.1).mono ?_);rintro e ap ⟨rfl,hb⟩;refine⟨_,rfl,?_⟩;replace b:=S.kb b hb;replace c:=S.kb c hb;replace HB:=S.sG hb;(try clear hb);obtain⟨_,_,_,_,_,_,_,_⟩:=S.c4 c.1)|(go_at_call 113;(with_reducible refine(spec_IsPath.calls s o j p true _ A8.1).mono ?_);rintro e aq ⟨rfl,hb⟩;replace b:=S.kb b hb;replace c:=S.kb c hb;replace HB:=S.sG hb;(try clear hb);obtain⟨_,_,_,_,_,_,_,_⟩:=S.c4 b.1));go_meet
     case rel=>exact⟨_,(false),S.eA,H',S.le,⟨S.uB b.1⟩,⟨S.uB c.1⟩,⟨S.bG⟩⟩
   ·have H':=S.a H;clear H;have:=g.1;have:=i.1;obtain⟨_,_,_,_,_,_,_,_⟩:=S.c4 b.1;go_wp2_with (first|((with_reducible refine gate_callee (f:=113) rfl ?_);refine S.gL (some 7) Tryz.func113 #[.agg #[.int .i64 q,.int .i64 l,.int .i64 d,.int .i64 m]] ?_;(with_reducible refine(spec_IsPath.calls q l d m true _ A6.1).mono ?_);rintro e ar ⟨rfl,hb⟩;refine⟨_,rfl,?_⟩;replace b:=S.kb b hb;replace c:=S.kb c hb;replace HB:=S.sG hb;(try clear hb);obtain⟨_,_,_,_,_,_,_,_⟩:=S.c4 c.1)|(go_at_call 113;(with_reducible refine(spec_IsPath.calls s o j p false _ A8.1).mono ?_);rintro e au ⟨rfl,hb⟩;replace b:=S.kb b hb;replace c:=S.kb c hb;replace HB:=S.sG hb;(try clear hb)));go_meet
    case rel=>exact⟨_,(true),S.eA,H',S.le,⟨S.uB b.1⟩,⟨S.uB c.1⟩,⟨S.bG⟩⟩
  ·have H':=S.a H;clear H;have:=g.1;have:=i.1;obtain⟨_,_,_,_,_,_,_,_⟩:=S.c4 b.1;go_wp2_with (first|((with_reducible refine gate_callee (f:=113) rfl ?_);refine S.gL (some 7) Tryz.func113 #[.agg #[.int .i64 q,.int .i64 l,.int .i64 d,.int .i64 m]] ?_;(with_reducible refine(spec_IsPath.calls q l d m false _ A6.1).mono ?_);rintro e av ⟨rfl,hb⟩;refine⟨_,rfl,?_⟩;replace b:=S.kb b hb;replace c:=S.kb c hb;replace HB:=S.sG hb;(try clear hb)));go_meet
   case rel=>exact⟨_,(true),S.eA,H',S.le,⟨S.uB b.1⟩,⟨S.uB c.1⟩,⟨S.bG⟩⟩
 case rest=>
  clear M;obtain⟨kq,D,rfl,HA,_,b,c,HB⟩:=hcut
  cases kq with
  |zero=>exact absurd HA.1 (by simp[spec_Conflict.j0])
  |succ ah=>
   have H:=HA.1;clear HA;simp only[spec_Conflict.j0]at H;replace H:=S.db H;rcases H with⟨rfl,H⟩|⟨rfl,H⟩
   ·obtain rfl:=Option.some.inj H;go_wp2;go_ret;exact⟨S.eW,S.bG⟩
   ·by_cases x:l=2
    ·rw[if_pos x]at H;have U:(l==2)=true:=beq_iff_eq.mpr x;have V:(l !=2)=false:=bne_eq_false_iff_eq.mpr x;clear x
     by_cases y:j=d
     ·rw[if_pos y]at H;have W:(j==d)=true:=beq_iff_eq.mpr y;have X:(j !=d)=false:=bne_eq_false_iff_eq.mpr y;clear y;obtain rfl:=Option.some.inj H;have:=g.1;have:=i.1;obtain⟨_,_,_,_,_,_,_,_⟩:=S.c4 b.1;obtain⟨_,_,_,_,_,_,_,_⟩:=S.c4 c.1;go_wp2;go_ret;exact⟨S.eW,S.bG⟩
     ·rw[if_neg y]at H;have W:(j==d)=false:=beq_eq_false_iff_ne.mpr y;have X:(j !=d)=true:=bne_iff_ne.mpr y;obtain rfl:=Option.some.inj H;have:=g.1;have:=i.1;obtain⟨_,_,_,_,_,_,_,_⟩:=S.c4 b.1;obtain⟨_,_,_,_,_,_,_,_⟩:=S.c4 c.1;go_wp2;go_ret;exact⟨S.eW,S.bG⟩
    ·rw[if_neg x]at H;have U:(l==2)=false:=beq_eq_false_iff_ne.mpr x;have V:(l !=2)=true:=bne_iff_ne.mpr x
     by_cases z:o=2
     ·rw[if_pos z]at H;have Y:(o==2)=true:=beq_iff_eq.mpr z;have Z:(o !=2)=false:=bne_eq_false_iff_eq.mpr z;clear z
      by_cases A:d=j
      ·rw[if_pos A]at H;have aa:(d==j)=true:=beq_iff_eq.mpr A;have ab:(d !=j)=false:=bne_eq_false_iff_eq.mpr A;clear A;obtain rfl:=Option.some.inj H;have:=g.1;have:=i.1;obtain⟨_,_,_,_,_,_,_,_⟩:=S.c4 b.1;obtain⟨_,_,_,_,_,_,_,_⟩:=S.c4 c.1;go_wp2;go_ret;exact⟨S.eW,S.bG⟩
      ·rw[if_neg A]at H;have aa:(d==j)=false:=beq_eq_false_iff_ne.mpr A;have ab:(d !=j)=true:=bne_iff_ne.mpr A;obtain rfl:=Option.some.inj H;have:=g.1;have:=i.1;obtain⟨_,_,_,_,_,_,_,_⟩:=S.c4 b.1;obtain⟨_,_,_,_,_,_,_,_⟩:=S.c4 c.1;go_wp2;go_ret;exact⟨S.eW,S.bG⟩
     ·rw[if_neg z]at H;have Y:(o==2)=false:=beq_eq_false_iff_ne.mpr z;have Z:(o !=2)=true:=bne_iff_ne.mpr z
      by_cases B:d=j
      ·rw[if_pos B]at H;have ac:(d==j)=true:=beq_iff_eq.mpr B;have ad:(d !=j)=false:=bne_eq_false_iff_eq.mpr B;clear B;obtain rfl:=Option.some.inj H;have:=g.1;have:=i.1;obtain⟨_,_,_,_,_,_,_,_⟩:=S.c4 b.1;obtain⟨_,_,_,_,_,_,_,_⟩:=S.c4 c.1;go_wp2;go_ret;exact⟨S.eW,S.bG⟩
      ·rw[if_neg B]at H;have ac:(d==j)=false:=beq_eq_false_iff_ne.mpr B;have ad:(d !=j)=true:=bne_iff_ne.mpr B
       by_cases C:m=p
       ·rw[if_pos C]at H;have ae:(m==p)=true:=beq_iff_eq.mpr C;have af:(m !=p)=false:=bne_eq_false_iff_eq.mpr C;clear C;obtain rfl:=Option.some.inj H;have:=g.1;have:=i.1;obtain⟨_,_,_,_,_,_,_,_⟩:=S.c4 b.1;obtain⟨_,_,_,_,_,_,_,_⟩:=S.c4 c.1;go_wp2;go_ret;exact⟨S.eW,S.bG⟩
       ·rw[if_neg C]at H;have ae:(m==p)=false:=beq_eq_false_iff_ne.mpr C;have af:(m !=p)=true:=bne_iff_ne.mpr C;replace H:=S.bd H;obtain⟨E,ai,H⟩:=H;(try dsimp only at H);replace H:=S.bd H;obtain⟨F,aj,H⟩:=H;(try dsimp only at H);replace H:=S.bd H;obtain⟨G,ak,H⟩:=H;(try dsimp only at H);replace H:=S.bd H;obtain⟨I,al,H⟩:=H;(try dsimp only at H);replace H:=S.bd H;obtain⟨ag,am,H⟩:=H;(try dsimp only at H);obtain rfl:=Option.some.inj H;have:=g.1;have:=i.1;obtain⟨_,_,_,_,_,_,_,_⟩:=S.c4 b.1;obtain⟨_,_,_,_,_,_,_,_⟩:=S.c4 c.1;try go_wp2
        replace b:=S.a (blk_drew b.1);replace c:=S.a (blk_drew c.1);replace HB:=S.a (below_drew1 HB.1);refine S.st (n:=14) (ds:=[]) (S.bs 16384) (fun w_ h_=>have x_:=S.d4 (S.Q h_ b.1) (S.e4 (S.Q h_ c.1));x_) (fun hHeld=>?_);refine with_tabW spec_Conflict.tab11 spec_Conflict.bits11 (fun HT_ HW_=>?_);generalize wc.drew=aw at b c HB hHeld⊢;refine S.pS 0 68 ?_;refine S.pS 3 71 ?_;refine S.pS 6 74 ?_;refine S.pS 9 77 ?_;refine S.tK 1 69 (S.bs 16971) ?_;refine S.tK 4 72 (S.bs 16987) ?_;refine S.tK 7 75 (S.bs 17115) ?_;refine S.tK 10 78 (S.bs 18139) ?_;refine S.oN 2 70 (S.bs 18143) (fun K hK=>?_);refine S.go Tryz.func125 #[.int .i64 d] ?_
        with_reducible refine(spec_InPlace.calls d E _ ai.1).mono ?_
        rintro e w' ⟨rfl,⟨nd,rfl⟩⟩;refine⟨_,rfl,?_⟩;refine hK.out _ _ (S.d4 b.1 (S.e4 c.1)) (fun hHeld=>?_);clear hK K;refine S.nm 70 ?_;refine S.oN 5 73 (S.bs 18175) (fun K hK=>?_);refine S.go Tryz.func126 #[.int .i64 m] ?_
        with_reducible refine(spec_OutPlace.calls m F _ aj.1).mono ?_
        rintro e w' ⟨rfl,⟨nd,rfl⟩⟩;refine⟨_,rfl,?_⟩;refine hK.out _ _ (S.d4 b.1 (S.e4 c.1)) (fun hHeld=>?_);clear hK K;refine S.nm 73 ?_;refine S.oN 8 76 (S.bs 18431) (fun K hK=>?_);refine S.go Tryz.func125 #[.int .i64 j] ?_
        with_reducible refine(spec_InPlace.calls j G _ ak.1).mono ?_
        rintro e w' ⟨rfl,⟨nd,rfl⟩⟩;refine⟨_,rfl,?_⟩;refine hK.out _ _ (S.d4 b.1 (S.e4 c.1)) (fun hHeld=>?_);clear hK K;refine S.nm 76 ?_;refine S.oN 11 79 (S.bs 20479) (fun K hK=>?_);refine S.go Tryz.func126 #[.int .i64 p] ?_
        with_reducible refine(spec_OutPlace.calls p I _ al.1).mono ?_
        rintro e w' ⟨rfl,⟨nd,rfl⟩⟩;refine⟨_,rfl,?_⟩;refine hK.out _ _ (S.d4 b.1 (S.e4 c.1)) (fun hHeld=>?_);clear hK K;refine S.nm 79 ?_;refine S.oN 12 80 (S.bs 24575) (fun K hK=>?_);refine S.go Tryz.func124 #[.int .i64 E,.int .i64 F,.int .i64 G,.int .i64 I] ?_
        with_reducible refine(spec_Interleave.calls ah E F G I ag _ am.1).mono ?_
        rintro e ax ⟨rfl,hb⟩;refine⟨_,rfl,?_⟩;replace b:=S.kb b hb;replace c:=S.kb c hb;replace HB:=S.sG hb;(try clear hb);(try clear ay);(try clear hk);(try clear hi);refine hK.out _ _ (S.d4 b.1 (S.e4 c.1)) (fun hHeld=>?_);clear hK K;refine S.nm 80 ?_;refine S.pS 13 4 ?_;refine done_ (done_of HT_.1 (by kernel_rfl)) ?_;try go_wp2
        go_ret;exact⟨S.eW,S.bG⟩
end Go.Proofs.YtopchlafmfgpnaaGreat.PFnExactStepPrio

