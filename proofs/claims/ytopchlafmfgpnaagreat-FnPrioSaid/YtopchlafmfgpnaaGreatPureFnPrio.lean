/- The law FnPrio of the given program, as a statement over numbers and lists alone, for all arguments; no conditions but the machine's own bounds. -/
import Derived.Test.YtopchlafmfgpnaaGreatPFnPriox
import Derived.Test.YtopchlafmfgpnaaGreatBase
namespace Go.Proofs.YtopchlafmfgpnaaGreat.Pure.FnPrio
open Go.RowKit Go.Proofs.YtopchlafmfgpnaaGreat.PFnPrio Go.Proofs.YtopchlafmfgpnaaGreatW.PrintWords Go.Proofs.YtopchlafmfgpnaaGreatW.PrintLast Go.Proofs.YtopchlafmfgpnaaGreat.Bas
set_option linter.unusedVariables false
set_option linter.unusedSimpArgs false
theorem spec_l1In_eq(a lo hi:Int):spec_l1In.f a lo hi=some (decide (lo≤a∧a≤hi)):=by
 unfold spec_l1In.f;grind
theorem impl_InRange_eq(a lo hi:Int):impl_InRange.f a lo hi=some (decide (lo≤a∧a≤hi)):=by
 unfold impl_InRange.f;grind
theorem spec_Min_eq(a b:Int):spec_Min.f a b=some (min a b):=by
 unfold spec_Min.f;grind
theorem rdT_Path(xs:List S76)(i:Nat)(h:i<xs.length):rd_T76 xs (i:Int)=xs[i]:=by simp[rd_T76,h]
theorem rdT_Want(xs:List S81)(i:Nat)(h:i<xs.length):rd_T81 xs (i:Int)=xs[i]:=by simp[rd_T81,h]
theorem impl_IsPath_eq(a b c d:Int):impl_IsPath.f a b c d=some (isPath a b c d):=by
 unfold impl_IsPath.f isPath
 simp only[impl_InRange_eq,Option.bind_some];grind
theorem spec_IsPath_eq(a b c d:Int):spec_IsPath.f a b c d=some (isPath a b c d):=by
 unfold spec_IsPath.f isPath
 simp only[spec_l1In_eq,Option.bind_some];grind
def isP(p:S76):Bool:=isPath p.f0 p.f1 p.f2 p.f3
def okAt(l:List S76)(i:Nat):Bool:=isP (rd_T76 l (i:Int))&&(decide (i=0)||decide ((rd_T76 l ((i:Int)-1)).f0<(rd_T76 l (i:Int)).f0))
def arePaths(l:List S76):Bool:=(List.range l.length).all (okAt l)&&decide (l.length≤12)
theorem arePaths_len{l:List S76}(h:arePaths l=true):l.length≤12:=by simp[arePaths]at h;exact h.2
theorem arePaths_at{l:List S76}(h:arePaths l=true)(i:Nat)(hi:i<l.length):isP l[i]=true:=by
 simp only[arePaths,Bool.and_eq_true,List.all_eq_true,List.mem_range]at h
 have:=h.1 i hi
 simp only[okAt,Bool.and_eq_true,rdT_Path _ _ hi]at this
 exact this.1
theorem arePaths_asc{l:List S76}(h:arePaths l=true)(i:Nat)(hi:i+1<l.length):(l[i]'(by omega)).f0<l[i+1].f0:=by
 simp only[arePaths,Bool.and_eq_true,List.all_eq_true,List.mem_range]at h
 have:=h.1 (i+1) hi
 simp only[okAt,Bool.and_eq_true,rdT_Path _ _ hi]at this
 rw[show ((i+1:Nat):Int)-1=(i:Int) by omega,rdT_Path _ _ (by omega)]at this
 simpa using this.2
def findP(l:List S76)(id:Int):Int:=Go.Proofs.YtopchlafmfgpnaaGreat.Hnd.fidx (fun x:S76=>x.f0==id) l 0
theorem findP_hi(l:List S76)(id:Int):findP l id<l.length:=fidx_hi _ _
theorem findP_at{l:List S76}{id:Int}(h:0≤findP l id): ∃(i:Nat) (hi:i<l.length),findP l id=(i:Int)∧l[i].f0=id:=by
 rcases fidx_cases (fun x:S76=>x.f0==id) l 0 with⟨h1,_⟩|⟨i,h1,h2,h3,_⟩
 ·unfold findP at h;omega
 ·exact⟨i,h2,by unfold findP;omega,by simpa using h3⟩
theorem findP_none{l:List S76}{id:Int}(h:findP l id<0): ∀x∈l,x.f0≠id:=by
 rcases fidx_cases (fun x:S76=>x.f0==id) l 0 with⟨_,h2⟩|⟨i,h1,_⟩
 ·intro x hx;simpa using h2 x hx
 ·unfold findP at h;omega
theorem spec_ArePaths_eq(l:List S76)(hl:l.length≤1048576):Ev (fun k=>spec_ArePaths.f k l) (arePaths l):=by
 unfold spec_ArePaths.f arePaths
 refine evAnd (g:=fun k i=>spec_ArePaths.l0 k l i) (fun i r h hP hr=>?_) (fun i h hP=>?_) ?_
 ·refine Ev.succ ?_
  unfold okAt isP at hP
  rw[Bool.and_eq_true]at hP
  simp only[spec_ArePaths.l0,show (i:Int)<(l.length:Int) by omega,show (0:Int)≤(i:Int) by omega,if_true,spec_IsPath_eq,Option.bind_some,hP.1,wrap_id (n:=(i:Int)+1) (by omega) (by omega)]
  by_cases h0:i=0
  ·subst h0;simpa using hr
  ·have h2:=hP.2
   rw[decide_eq_false h0,Bool.false_or,decide_eq_true_eq]at h2
   simp only[show (i:Int)>0 by omega,if_true,wrap_id (n:=(i:Int)-1) (by omega) (by omega),show (0:Int)≤(i:Int)-1 by omega,show (i:Int)-1<(l.length:Int) by omega,show¬(rd_T76 l ((i:Int)-1)).f0≥(rd_T76 l (i:Int)).f0 by omega,if_false]
   exact hr
 ·refine Ev.succ ?_
  unfold okAt isP at hP
  simp only[spec_ArePaths.l0,show (i:Int)<(l.length:Int) by omega,show (0:Int)≤(i:Int) by omega,if_true,spec_IsPath_eq,Option.bind_some,wrap_id (n:=(i:Int)+1) (by omega) (by omega)]
  cases hp:isPath (rd_T76 l (i:Int)).f0 (rd_T76 l (i:Int)).f1 (rd_T76 l (i:Int)).f2 (rd_T76 l (i:Int)).f3
  ·simp only[Bool.false_eq_true,if_false];exact Ev.now _
  ·rw[hp,Bool.true_and,Bool.or_eq_false_iff,decide_eq_false_iff_not,decide_eq_false_iff_not]at hP
   simp only[if_true,show (i:Int)>0 by omega,wrap_id (n:=(i:Int)-1) (by omega) (by omega),show (0:Int)≤(i:Int)-1 by omega,show (i:Int)-1<(l.length:Int) by omega,show (rd_T76 l ((i:Int)-1)).f0≥(rd_T76 l (i:Int)).f0 by omega]
   exact Ev.now _
 ·refine Ev.succ ?_
  simp only[spec_ArePaths.l0,Int.lt_irrefl,if_false]
  exact evq (Ev.now _) (by by_cases h:l.length≤12<;>simp[h]<;>omega)
theorem impl_ArePaths_eq(l:List S76)(hl:l.length≤1048576):Ev (fun k=>impl_ArePaths.f k l) (arePaths l):=by
 unfold impl_ArePaths.f arePaths
 by_cases h12:l.length≤12
 ·simp only[show¬((l.length:Int)>12) by omega,if_false,decide_eq_true h12]
  refine evAnd (g:=fun k i=>impl_ArePaths.l0 k l l (l.length:Int) i) (fun i r h hP hr=>?_) (fun i h hP=>?_) ?_
  ·refine Ev.succ ?_
   unfold okAt isP at hP
   rw[Bool.and_eq_true]at hP
   simp only[impl_ArePaths.l0,show (i:Int)<(l.length:Int) by omega,show (0:Int)≤(i:Int) by omega,if_true,impl_IsPath_eq,Option.bind_some,hP.1,wrap_id (n:=(i:Int)+1) (by omega) (by omega)]
   by_cases h0:i=0
   ·subst h0;simpa using hr
   ·have h2:=hP.2
    rw[decide_eq_false h0,Bool.false_or,decide_eq_true_eq]at h2
    simp only[show (i:Int)>0 by omega,if_true,wrap_id (n:=(i:Int)-1) (by omega) (by omega),show (0:Int)≤(i:Int)-1 by omega,show (i:Int)-1<(l.length:Int) by omega,show¬(rd_T76 l (i:Int)).f0≤(rd_T76 l ((i:Int)-1)).f0 by omega,if_false]
    exact hr
  ·refine Ev.succ ?_
   unfold okAt isP at hP
   simp only[impl_ArePaths.l0,show (i:Int)<(l.length:Int) by omega,show (0:Int)≤(i:Int) by omega,if_true,impl_IsPath_eq,Option.bind_some,wrap_id (n:=(i:Int)+1) (by omega) (by omega)]
   cases hp:isPath (rd_T76 l (i:Int)).f0 (rd_T76 l (i:Int)).f1 (rd_T76 l (i:Int)).f2 (rd_T76 l (i:Int)).f3
   ·simp only[Bool.false_eq_true,if_false];exact Ev.now _
   ·rw[hp,Bool.true_and,Bool.or_eq_false_iff,decide_eq_false_iff_not,decide_eq_false_iff_not]at hP
    simp only[if_true,show (i:Int)>0 by omega,wrap_id (n:=(i:Int)-1) (by omega) (by omega),show (0:Int)≤(i:Int)-1 by omega,show (i:Int)-1<(l.length:Int) by omega,show (rd_T76 l (i:Int)).f0≤(rd_T76 l ((i:Int)-1)).f0 by omega]
    exact Ev.now _
  ·refine Ev.succ ?_
   simp only[impl_ArePaths.l0,Int.lt_irrefl,if_false]
   exact Ev.now _
 ·simp only[show (l.length:Int)>12 by omega,if_true,decide_eq_false h12,Bool.and_false];exact Ev.now _
theorem spec_FindPath_eq(l:List S76)(id:Int)(hl:l.length≤1048576):Ev (fun k=>spec_FindPath.f k l id) (findP l id):=by
 unfold spec_FindPath.f findP
 have key: ∀(d i:Nat),i+d=l.length→Ev (fun k=>spec_FindPath.l0 k l id (i:Int)) (Go.Proofs.YtopchlafmfgpnaaGreat.Hnd.fidx (fun x:S76=>x.f0==id) (l.drop i) (0+i)):=by
  intro d
  induction d with
  |zero=>
   intro i hi
   refine Ev.succ ?_
   simp only[spec_FindPath.l0,show¬(i:Int)<(l.length:Int) by omega,if_false]
   exact evq (Ev.now _) (by rw[List.drop_eq_nil_of_le (by omega)];rfl)
  |succ d ih=>
   intro i hi
   refine Ev.succ ?_
   have ihh:=ih (i+1) (by omega)
   rw[show ((i+1:Nat):Int)=(i:Int)+1 by omega]at ihh
   simp only[spec_FindPath.l0,show (i:Int)<(l.length:Int) by omega,show (0:Int)≤(i:Int) by omega,if_true,rdT_Path _ _ (show i<l.length by omega),wrap_id (n:=(i:Int)+1) (by omega) (by omega)]
   rw[fidx_drop _ _ _ _ (by omega)]
   by_cases h1:l[i].f0=id
   ·simp only[h1,if_true,beq_self_eq_true,Nat.zero_add];exact Ev.now _
   ·simp only[h1,if_false,show ((l[i].f0==id)=true)=False by simp[h1]];exact ihh
 exact key l.length 0 (by omega)
theorem impl_FindPath_eq(l:List S76)(id:Int):impl_FindPath.f l id=some (findP l id):=rfl
def isBusP(l:List S76)(id:Int):Bool:=decide (0≤findP l id)&&((rd_T76 l (findP l id)).f1==3)
theorem impl_isBus_eq(l:List S76)(id:Int):impl_isBus.f l id=some (isBusP l id):=by
 unfold impl_isBus.f isBusP
 simp only[impl_FindPath_eq,Option.bind_some]
 have:=findP_hi l id
 by_cases h:0≤findP l id
 ·simp[h,this]
 ·simp[h]
def isPrio(l:List S76)(a b:Int):Bool:=arePaths l&&((a==0&&b==0)||(isBusP l a&&decide (1≤b∧b≤20)))
theorem impl_IsPrio_eq(l:List S76)(a b:Int)(hl:l.length≤1048576):Ev (fun k=>impl_IsPrio.f k l a b) (isPrio l a b):=by
 unfold impl_IsPrio.f isPrio
 refine Ev.bind (impl_ArePaths_eq l hl) ?_
 simp only[impl_isBus_eq,impl_InRange_eq,Option.bind_some]
 refine Ev.pure ?_
 cases arePaths l<;>cases (a==0&&b==0)<;>cases isBusP l a<;>simp
theorem spec_l6Has_eq(l:List Int)(x:Int)(hl:l.length≤140737488355328):Ev (fun k=>spec_l6Has.f k l x) (decide (x∈l)):=by
 unfold spec_l6Has.f
 have key: ∀(d i:Nat),i+d=l.length→Ev (fun k=>spec_l6Has.l0 k l x (i:Int)) (decide (x∈l.drop i)):=by
  intro d
  induction d with
  |zero=>
   intro i hi
   refine Ev.succ ?_
   simp only[spec_l6Has.l0,show¬(i:Int)<(l.length:Int) by omega,if_false]
   exact evq (Ev.now _) (by simp[List.drop_eq_nil_of_le (show l.length≤i by omega)])
  |succ d ih=>
   intro i hi
   refine Ev.succ ?_
   have ihh:=ih (i+1) (by omega)
   rw[show ((i+1:Nat):Int)=(i:Int)+1 by omega]at ihh
   simp only[spec_l6Has.l0,show (i:Int)<(l.length:Int) by omega,show (0:Int)≤(i:Int) by omega,if_true,rd_nat _ _ (show i<l.length by omega),wrap_id (n:=(i:Int)+1) (by omega) (by omega)]
   rw[mem_drop _ _ (by omega)]
   by_cases h1:l[i]=x
   ·simp only[h1,if_true,decide_true,Bool.true_or];exact Ev.now _
   ·rw[decide_eq_false (fun h:x=l[i]=>h1 h.symm),Bool.false_or];simp only[h1,if_false];exact ihh
 simpa using key l.length 0 (by omega)
theorem slices_Contains_eq(l:List Int)(x:Int)(hl:l.length≤140737488355328):Ev (fun k=>slices_Contains_int_int.f k l x) (decide (x∈l)):=by
 unfold slices_Contains_int_int.f slices_Index_int_int.f
 have key: ∀(d i:Nat),i+d=l.length→ ∃n:Int,Ev (fun k=>slices_Index_int_int.l0 k l x (l.length:Int) (i:Int)) n∧decide (n≥0)=decide (x∈l.drop i):=by
  intro d
  induction d with
  |zero=>
   intro i hi
   refine⟨-1,Ev.succ ?_,by simp[List.drop_eq_nil_of_le (show l.length≤i by omega)]⟩
   simp only[slices_Index_int_int.l0,show¬(i:Int)<(l.length:Int) by omega,if_false]
   exact Ev.now _
  | succ d ih=>
   intro i hi
   obtain⟨n,hn,he⟩:=ih (i+1) (by omega)
   rw[show ((i+1:Nat):Int)=(i:Int)+1 by omega]at hn
   rw[mem_drop _ _ (by omega)]
   by_cases h1:x=l[i]
   ·refine⟨(i:Int),Ev.succ ?_,by rw[decide_eq_true h1,Bool.true_or];simp⟩
    simp only[slices_Index_int_int.l0,show (i:Int)<(l.length:Int) by omega,show (0:Int)≤(i:Int) by omega,if_true,rd_nat _ _ (show i<l.length by omega),if_pos h1]
    exact Ev.now _
   ·refine⟨n,Ev.succ ?_,by rw[he,decide_eq_false h1,Bool.false_or]⟩
    simp only[slices_Index_int_int.l0,show (i:Int)<(l.length:Int) by omega,show (0:Int)≤(i:Int) by omega,if_true,rd_nat _ _ (show i<l.length by omega),if_neg h1,wrap_id (n:=(i:Int)+1) (by omega) (by omega)]
    exact hn
 obtain⟨n,hn,he⟩:=key l.length 0 (by omega)
 simp only[List.drop_zero]at he
 rw[←he]
 exact Ev.bind (by simpa using hn) (Ev.now _)
theorem spec_Max_eq(a b:Int):spec_Max.f a b=some (max a b):=by
 unfold spec_Max.f;grind
def clearOf(a b c d:Int):Int:=if isPath a b c d then(if b=1 then 2 else if b=3 then 3 else 5)else 0
theorem clearOf_bd(a b c d:Int):0≤clearOf a b c d∧clearOf a b c d≤5:=by unfold clearOf;split<;>(try split)<;>(try split)<;>omega
theorem impl_ClearOf_ev(a b c d:Int):Ev (fun k=>impl_ClearOf.f k a b c d) (clearOf a b c d):=by
 unfold impl_ClearOf.f clearOf
 simp only[impl_IsPath_eq,Option.bind_some]
 cases isPath a b c d
 ·simp only[Bool.false_eq_true,if_false];exact Ev.now _
 ·simp only[if_true]
  refine Ev.succ ?_
  simp only[impl_ClearOf.j0]
  by_cases h1:b=1
  ·simp only[h1,if_true];exact Ev.now _
  by_cases h3:b=3
  ·simp only[h1,h3,if_true,if_false]
   exact evq (Ev.now _) (by simp)
  ·simp only[h1,h3,if_false];exact Ev.now _
theorem spec_ClearOf_eq(a b c d:Int):spec_ClearOf.f a b c d=some (clearOf a b c d):=by
 unfold spec_ClearOf.f clearOf
 simp only[spec_IsPath_eq,Option.bind_some]
 cases h:isPath a b c d
 ·simp
 ·have:=isPath_bd h
  rcases(show b=1∨b=2∨b=3 by omega)with rfl|rfl|rfl<;>simp[rd]
theorem spec_l1New_ok(l:List Int)(hl:l.length≤1048576):EvP (fun k=>spec_l1New.f k l) (fun t=>t.1=l∧Cur t.1 t.2.1):=by
 unfold spec_l1New.f
 have key: ∀(d i:Nat) (h:Int),i+d=l.length→EvP (fun k=>spec_l1New.l0 k l h (i:Int)) (fun t=>t.1=l∧Cur t.1 t.2.1):=by
  intro d
  induction d with
  |zero=>
   intro i h hi
   refine EvP.succ ?_
   simp only[spec_l1New.l0,show¬(i:Int)<(l.length:Int) by omega,if_false]
   exact EvP.now ⟨rfl,Int.le_refl _,by show (0:Int)≤(l.length:Int);omega,hl⟩
  |succ d ih=>
   intro i h hi
   refine EvP.succ ?_
   simp only[spec_l1New.l0,show (i:Int)<(l.length:Int) by omega,show (0:Int)≤(i:Int) by omega,if_true,wrap_id (n:=(i:Int)+1) (by omega) (by omega)]
   refine EvP.ifd (fun _=>?_) (fun _=>EvP.now ⟨rfl,Int.le_refl _,by show (0:Int)≤(l.length:Int);omega,hl⟩)
   have:=ih (i+1) (Go.bits .and .i64 (wrap64 ((wrap64 ((wrap64 (h*137))+(wrap64 (rd l i))))+11)) 1073741823) (by omega)
   simpa using this
 exact key l.length 0 _ (by omega)
theorem spec_l1Byte_ok(b:List Int)(i h:Int)(hc:Cur b i):DrP (spec_l1Byte.f b i h) (fun t=>0≤t.1∧t.1<256∧Cur b t.2.1):=by
 unfold spec_l1Byte.f
 obtain⟨h0,h1,h2⟩:=hc
 by_cases hi:i<(b.length:Int)
 ·rw[if_pos hi,if_pos h0]
  refine DrP.now ⟨(and255 _).1,(and255 _).2,?_⟩
  simp only[wrap_id (n:=i+1) (by omega) (by omega)]
  unfold Cur;omega
 ·rw[if_neg hi]
  exact DrP.now ⟨(and255 _).1,(and255 _).2,h0,h1,h2⟩
theorem spec_l1Below_ok(b:List Int)(i h n:Int)(hc:Cur b i):DrP (spec_l1Below.f b i h n) (fun t=>(n≤0→t.1=0)∧(0<n→0≤t.1∧t.1<n)∧Cur b t.2.1):=by
 unfold spec_l1Below.f
 by_cases h0:n≤0
 ·rw[if_pos h0];exact DrP.now ⟨fun _=>rfl,fun h=>absurd h (by omega),hc⟩
 rw[if_neg h0]
 have hm: ∀x:Int,0≤x→0≤Int.tmod x n∧Int.tmod x n<n:=fun x hx=>by rw[tmod_nn hx];exact⟨Int.emod_nonneg _ (by omega),Int.emod_lt_of_pos _ (by omega)⟩
 by_cases h1:n≤256
 ·rw[if_pos h1]
  refine DrP.bind (spec_l1Byte_ok b i h hc) (fun t ht=>?_)
  rw[if_neg (by omega)]
  exact DrP.now ⟨fun h=>absurd h h0,fun _=>hm _ ht.1,ht.2.2⟩
 ·rw[if_neg h1]
  refine DrP.bind (spec_l1Byte_ok b i h hc) (fun t ht=>?_)
  refine DrP.bind (spec_l1Byte_ok b _ _ ht.2.2) (fun u hu=>?_)
  refine DrP.bind (spec_l1Byte_ok b _ _ hu.2.2) (fun v hv=>?_)
  rw[if_neg (by omega)]
  refine DrP.now ⟨fun h=>absurd h h0,fun _=>hm _ ?_,hv.2.2⟩
  obtain⟨t1,t2,_⟩:=ht
  obtain⟨u1,u2,_⟩:=hu
  obtain⟨v1,v2,_⟩:=hv
  rw[wrap_id (n:=t.1*65536) (by omega) (by omega),wrap_id (n:=u.1*256) (by omega) (by omega),wrap_id (n:=t.1*65536+u.1*256) (by omega) (by omega),wrap_id (by omega) (by omega)]
  omega
theorem spec_l1Once_ok(b:List Int)(i h n:Int)(hc:Cur b i):DrP (spec_l1Once.f b i h n) (fun t=>Cur b t.2.1):=by
 unfold spec_l1Once.f
 refine DrP.bind (spec_l1Below_ok b i h n hc) (fun t ht=>?_)
 exact DrP.now ht.2.2
theorem spec_l1Int_ok(b:List Int)(i h:Int)(l:List Int)(lo hi:Int)(hc:Cur b i)(hne:l.length≠0)(hb: ∀x∈l,lo≤x∧x≤hi):DrP (spec_l1Int.f b i h l) (fun t=>lo≤t.1∧t.1≤hi∧Cur b t.2.1):=by
 unfold spec_l1Int.f
 refine DrP.bind (spec_l1Below_ok b i h _ hc) (fun t ht=>?_)
 obtain⟨h1,h2⟩:=ht.2.1 (by omega)
 rw[if_pos h1,if_pos h2]
 refine DrP.now ?_
 have:rd l t.1∈l:=by
  obtain⟨n,hn⟩:=Int.eq_ofNat_of_zero_le h1
  rw[hn,rd_nat _ _ (by omega)]
  exact List.getElem_mem _
 have:=hb _ this
 exact⟨this.1,this.2,ht.2.2⟩
theorem spec_l1Int_cur(b:List Int)(i h:Int)(l:List Int)(hc:Cur b i)(hne:l.length≠0):DrP (spec_l1Int.f b i h l) (fun t=>Cur b t.2.1):=by
 unfold spec_l1Int.f
 refine DrP.bind (spec_l1Below_ok b i h _ hc) (fun t ht=>?_)
 obtain⟨h1,h2⟩:=ht.2.1 (by omega)
 rw[if_pos h1,if_pos h2]
 exact DrP.now ht.2.2
theorem spec_l4Raw_ok(b:List Int)(i h:Int)(hc:Cur b i):DrP (spec_l4Raw.f b i h) (fun t=>I64 t.1∧Cur b t.2.1):=by
 unfold spec_l4Raw.f
 refine DrP.bind (spec_l1Int_ok b i h _ (-9223372036854775808) 9223372036854775807 hc (by simp) (by decide)) (fun t ht=>?_)
 exact DrP.now ⟨⟨ht.1,ht.2.1⟩,ht.2.2⟩
theorem laws_big_eq(l:List Int):laws_big.f l=some (decide ((l.length:Int)>1048576)):=by unfold laws_big.f;rfl
theorem spec_l4Draw_ok(b:List Int)(i h a:Int)(hc:Cur b i):DrP (spec_l4Draw.f b i h a) (fun t=>Cur b t.2.2.2.2.1):=by
 unfold spec_l4Draw.f
 refine DrP.bind (spec_l1Below_ok b i h _ hc) (fun t1 h1=>?_)
 refine DrP.bind (spec_l1Below_ok b _ _ _ h1.2.2) (fun t2 h2=>?_)
 split
 ·exact DrP.now h2.2.2
 ·exact DrP.bind (spec_l1Below_ok b _ _ _ h2.2.2) (fun t3 h3=>DrP.now h3.2.2)
theorem spec_l5Draw_ok(b:List Int)(i h:Int)(hc:Cur b i):EvP (fun k=>spec_l5Draw.f k b i h) (fun t=>1≤t.1.length∧t.1.length≤7∧Cur b t.2.1):=by
 unfold spec_l5Draw.f
 have key: ∀(d:Nat) (n:Nat) (xs:List S76) (i h:Int),Cur b i→xs.length=n→n+d=7→EvP (fun k=>spec_l5Draw.l0 k xs ((n:Int)+1) b i h) (fun t=>1≤t.1.length∧t.1.length≤7∧Cur b t.2.1):=by
  intro d
  induction d with
  |zero=>
   intro n xs i h hc hn hd
   refine EvP.succ ?_
   simp only[spec_l5Draw.l0]
   refine EvP.bindD (spec_l1Below_ok b i h _ hc) (fun t1 h1=>?_)
   have h2:=h1.2.1 (by omega)
   simp only[wrap_id (n:=2+t1.1) (by omega) (by omega),show¬(n:Int)+1≤2+t1.1 by omega,if_false]
   exact EvP.now ⟨by show 1≤xs.length;omega,by show xs.length≤7;omega,h1.2.2⟩
  |succ d ih=>
   intro n xs i h hc hn hd
   refine EvP.succ ?_
   simp only[spec_l5Draw.l0]
   refine EvP.bindD (spec_l1Below_ok b i h _ hc) (fun t1 h1=>?_)
   have h2:=h1.2.1 (by omega)
   simp only[wrap_id (n:=2+t1.1) (by omega) (by omega),wrap_id (n:=(n:Int)+1+1) (by omega) (by omega),show xs.length<4398046511104 by omega,if_true]
   refine EvP.ifd (fun _=>?_) (fun h3=>EvP.now ⟨by show 1≤xs.length;omega,by show xs.length≤7;omega,h1.2.2⟩)
   refine EvP.bindD (spec_l4Draw_ok b _ _ _ h1.2.2) (fun t2 h4=>?_)
   have:=ih (n+1) (xs++ [⟨t2.1,t2.2.1,t2.2.2.1,t2.2.2.2.1⟩]) t2.2.2.2.2.1 t2.2.2.2.2.2 h4 (by rw[List.length_append,List.length_singleton];omega) (by omega)
   rw[show ((n+1:Nat):Int)+1=(n:Int)+1+1 by omega]at this
   exact this
 exact key 7 0 [] i h hc rfl rfl
theorem spec_l4Any_ok(b:List Int)(i h:Int)(hc:Cur b i):DrP (spec_l4Any.f b i h) (fun t=>Cur b t.2.2.2.2.1):=by
 unfold spec_l4Any.f
 refine DrP.bind (spec_l1Below_ok b i h _ hc) (fun t1 h1=>?_)
 refine DrP.bind (spec_l4Draw_ok b _ _ _ h1.2.2) (fun t2 h2=>?_)
 refine DrP.bind (spec_l1Below_ok b _ _ _ h2) (fun t3 h3=>?_)
 split
 ·exact DrP.bind (spec_l1Int_ok b _ _ _ (-9223372036854775808) 9223372036854775807 h3.2.2 (by simp) (by decide)) (fun t4 h4=>DrP.now h4.2.2)
 split
 ·exact DrP.bind (spec_l1Int_ok b _ _ _ (-9223372036854775808) 9223372036854775807 h3.2.2 (by simp) (by decide)) (fun t4 h4=>DrP.now h4.2.2)
 split
 ·exact DrP.bind (spec_l4Raw_ok b _ _ h3.2.2) (fun t4 h4=>DrP.now h4.2)
 split
 ·exact DrP.bind (spec_l4Raw_ok b _ _ h3.2.2) (fun t4 h4=>DrP.now h4.2)
 ·exact DrP.now h3.2.2
theorem spec_l5Any_ok(b:List Int)(i h:Int)(hc:Cur b i):EvP (fun k=>spec_l5Any.f k b i h) (fun t=>t.1.length≤7∧Cur b t.2.1):=by
 unfold spec_l5Any.f
 refine EvP.bind (spec_l5Draw_ok b i h hc) (fun t1 h1=>?_)
 refine EvP.bindD (spec_l1Once_ok b _ _ _ h1.2.2) (fun t2 h2=>?_)
 refine EvP.ifd (fun _=>?_) (fun _=>EvP.now ⟨h1.2.1,h2⟩)
 refine EvP.bindD (spec_l1Below_ok b _ _ _ h2) (fun t3 h3=>?_)
 refine EvP.bindD (spec_l4Any_ok b _ _ h3.2.2) (fun t4 h4=>?_)
 have h5:=h3.2.1 (by omega)
 simp only[h5.1,h5.2,if_true]
 exact EvP.now ⟨by rw[List.length_set];exact h1.2.1,h4⟩
theorem fidx_any{α:Type}(p:α→Bool): ∀(l:List α) (n:Nat),decide (0≤Go.Proofs.YtopchlafmfgpnaaGreat.Hnd.fidx p l n)=l.any p
 |[],n=>by simp[Go.Proofs.YtopchlafmfgpnaaGreat.Hnd.fidx]
 |x::xs,n=>by
  rw[List.any_cons]
  show decide (0≤(if p x=true then(n:Int)else Go.Proofs.YtopchlafmfgpnaaGreat.Hnd.fidx p xs (n+1)))=_
  cases h:p x
  ·simpa using fidx_any p xs (n+1)
  ·simp
def inter(a b c d:Int):Bool:=(impl_Interleave.f 60 a b c d).getD false
theorem inter_tab: ∀f t g u:Fin 4,impl_Interleave.f 60 (2*(f.val:Int)) (2*(t.val:Int)+1) (2*(g.val:Int)) (2*(u.val:Int)+1)=some (inter (2*(f.val:Int)) (2*(t.val:Int)+1) (2*(g.val:Int)) (2*(u.val:Int)+1))∧(f=g→inter (2*(f.val:Int)) (2*(t.val:Int)+1) (2*(g.val:Int)) (2*(u.val:Int)+1)=false):=by decide+kernel
theorem four{n:Int}(h:0≤n∧n≤3): ∃f:Fin 4,n=(f.val:Int):=⟨⟨n.toNat,by omega⟩,by show n=((n.toNat:Nat):Int);omega⟩
theorem impl_inter{a b c d:Int}(ha:0≤a∧a≤3)(hb:0≤b∧b≤3)(hc:0≤c∧c≤3)(hd:0≤d∧d≤3):Ev (fun k=>impl_Interleave.f k (2*a) (2*b+1) (2*c) (2*d+1)) (inter (2*a) (2*b+1) (2*c) (2*d+1))∧(a=c→inter (2*a) (2*b+1) (2*c) (2*d+1)=false):=by
 obtain⟨f,rfl⟩:=four ha
 obtain⟨t,rfl⟩:=four hb
 obtain⟨g,rfl⟩:=four hc
 obtain⟨u,rfl⟩:=four hd
 have:=inter_tab f t g u
 exact⟨Ev.of (fun k=>impl_Interleave.mono _ _ _ _ k) this.1,fun e=>this.2 (Fin.ext (by omega))⟩
def conflict(a b:S76):Bool:=isP a&&isP b&&!(decide (a.f1=2)&&decide (b.f1=2))&&(if a.f1=2 then decide (b.f2=a.f2)||decide (b.f3=a.f2)else if b.f1=2 then decide (a.f2=b.f2)||decide (a.f3=b.f2)else !decide (a.f2=b.f2)&&(decide (a.f3=b.f3)||inter (2*a.f2) (2*a.f3+1) (2*b.f2) (2*b.f3+1)))
theorem impl_InPlace_eq{n:Int}(h:0≤n∧n≤3):impl_InPlace.f n=some (2*n):=by
 unfold impl_InPlace.f;rw[impl_InRange_eq,decide_eq_true h];simp only[Option.bind_some,if_true];rw[wrap_id (by omega) (by omega)]
theorem impl_OutPlace_eq{n:Int}(h:0≤n∧n≤3):impl_OutPlace.f n=some (2*n+1):=by
 unfold impl_OutPlace.f;rw[impl_InRange_eq,decide_eq_true h];simp only[Option.bind_some,if_true];rw[wrap_id (n:=2*n) (by omega) (by omega),wrap_id (by omega) (by omega)]
theorem or_beq(p:Prop) [Decidable p](x y:Int)(A:Nat→Option Bool)(h:A=fun _=>if p then some true else some (x==y)):Ev A (decide p||decide (x=y)):=by
 subst h
 refine Ev.pure ?_
 by_cases hp:p
 ·simp[hp]
 ·simp[hp];rfl
theorem impl_Conflict_eq(a b:S76):Ev (fun k=>impl_Conflict.f k a.f0 a.f1 a.f2 a.f3 b.f0 b.f1 b.f2 b.f3) (conflict a b):=by
 have hj: ∀x:Bool,(x=false→isP a=true∧isP b=true∧ ¬(a.f1=2∧b.f1=2))→Ev (fun k=>impl_Conflict.j0 k x a.f0 a.f1 a.f2 a.f3 b.f0 b.f1 b.f2 b.f3) (!x&&(if a.f1=2 then decide (b.f2=a.f2)||decide (b.f3=a.f2)else if b.f1=2 then decide (a.f2=b.f2)||decide (a.f3=b.f2)else !decide (a.f2=b.f2)&&(decide (a.f3=b.f3)||inter (2*a.f2) (2*a.f3+1) (2*b.f2) (2*b.f3+1)))):=by
  intro x hx
  refine Ev.succ ?_
  cases x
  ·obtain⟨h1,h2,_⟩:=hx rfl
   have ha:=isPath_bd h1
   have hb:=isPath_bd h2
   simp only[impl_Conflict.j0,Bool.false_eq_true,if_false,Bool.not_false,Bool.true_and]
   by_cases ka:a.f1=2
   ·simp only[ka,if_true]
    exact or_beq _ _ _ _ rfl
   simp only[ka,if_false]
   by_cases kb:b.f1=2
   ·simp only[kb,if_true]
    exact or_beq _ _ _ _ rfl
   simp only[kb,if_false]
   have hi:=impl_inter (a:=a.f2) (b:=a.f3) (c:=b.f2) (d:=b.f3) (by omega) (by omega) (by omega) (by omega)
   simp only[impl_InPlace_eq (n:=a.f2) (by omega),impl_OutPlace_eq (n:=a.f3) (by omega),impl_InPlace_eq (n:=b.f2) (by omega),impl_OutPlace_eq (n:=b.f3) (by omega),Option.bind_some]
   by_cases e:a.f2=b.f2
   ·have:=hi.2 e
    simp only[e,if_true,decide_true,Bool.not_true,Bool.false_and]
    rw[e]at hi this
    exact evq (Ev.bind hi.1 (Ev.now _)) this
   ·simp only[e,if_false,decide_false,Bool.not_false,Bool.true_and]
    by_cases e2:a.f3=b.f3
    ·simp only[e2,if_true,decide_true,Bool.true_or];exact Ev.now _
    ·simp only[e2,if_false,decide_false,Bool.false_or]
     exact Ev.bind hi.1 (Ev.now _)
  ·simp only[impl_Conflict.j0,if_true,Bool.not_true,Bool.false_and];exact Ev.now _
 unfold impl_Conflict.f conflict isP
 simp only[impl_IsPath_eq,Option.bind_some]
 cases h1:isPath a.f0 a.f1 a.f2 a.f3
 ·simpa using hj true (by simp)
 cases h2:isPath b.f0 b.f1 b.f2 b.f3
 ·simpa using hj true (by simp)
 by_cases ka:a.f1=2
 ·by_cases kb:b.f1=2
  ·simpa [ka,kb]using hj true (by simp)
  ·have e:(b.f1==2)=false:=by simp[kb]
   have:=hj false (fun _=>⟨h1,h2,fun h=>kb h.2⟩)
   simp only[ka,e,kb,if_true,decide_true,decide_false,Bool.and_false,Bool.not_false,Bool.true_and]at this⊢
   exact this
 ·have:=hj false (fun _=>⟨h1,h2,fun h=>ka h.1⟩)
  simp only[ka,if_false,if_true,decide_false,Bool.false_and,Bool.not_false,Bool.true_and]at this⊢
  exact this
theorem inter_tabS: ∀f t g u:Fin 4,spec_Interleave.f 60 (2*(f.val:Int)) (2*(t.val:Int)+1) (2*(g.val:Int)) (2*(u.val:Int)+1)=some (inter (2*(f.val:Int)) (2*(t.val:Int)+1) (2*(g.val:Int)) (2*(u.val:Int)+1)):=by decide+kernel
theorem spec_inter{a b c d:Int}(ha:0≤a∧a≤3)(hb:0≤b∧b≤3)(hc:0≤c∧c≤3)(hd:0≤d∧d≤3):Ev (fun k=>spec_Interleave.f k (2*a) (2*b+1) (2*c) (2*d+1)) (inter (2*a) (2*b+1) (2*c) (2*d+1)):=by
 obtain⟨f,rfl⟩:=four ha
 obtain⟨t,rfl⟩:=four hb
 obtain⟨g,rfl⟩:=four hc
 obtain⟨u,rfl⟩:=four hd
 exact Ev.of (fun k=>spec_Interleave.mono _ _ _ _ k) (inter_tabS f t g u)
theorem spec_InPlace_eq{n:Int}(h:0≤n∧n≤3):spec_InPlace.f n=some (2*n):=by
 unfold spec_InPlace.f;rw[spec_l1In_eq,decide_eq_true h];simp only[Option.bind_some,if_true];rw[wrap_id (by omega) (by omega)]
theorem spec_OutPlace_eq{n:Int}(h:0≤n∧n≤3):spec_OutPlace.f n=some (2*n+1):=by
 unfold spec_OutPlace.f;rw[spec_l1In_eq,decide_eq_true h];simp only[Option.bind_some,if_true];rw[wrap_id (n:=2*n) (by omega) (by omega),wrap_id (by omega) (by omega)]
theorem spec_Conflict_eq(a b:S76):Ev (fun k=>spec_Conflict.f k a.f0 a.f1 a.f2 a.f3 b.f0 b.f1 b.f2 b.f3) (conflict a b):=by
 have hj: ∀x:Bool,(x=false→isP a=true∧isP b=true∧ ¬(a.f1=2∧b.f1=2))→Ev (fun k=>spec_Conflict.j0 k x a.f0 a.f1 a.f2 a.f3 b.f0 b.f1 b.f2 b.f3) (!x&&(if a.f1=2 then decide (b.f2=a.f2)||decide (b.f3=a.f2)else if b.f1=2 then decide (a.f2=b.f2)||decide (a.f3=b.f2)else !decide (a.f2=b.f2)&&(decide (a.f3=b.f3)||inter (2*a.f2) (2*a.f3+1) (2*b.f2) (2*b.f3+1)))):=by
  intro x hx
  refine Ev.succ ?_
  cases x
  ·obtain⟨h1,h2,_⟩:=hx rfl
   have ha:=isPath_bd h1
   have hb:=isPath_bd h2
   simp only[spec_Conflict.j0,Bool.false_eq_true,if_false,Bool.not_false,Bool.true_and]
   by_cases ka:a.f1=2
   ·simp only[ka,if_true]
    exact or_beq _ _ _ _ rfl
   simp only[ka,if_false]
   by_cases kb:b.f1=2
   ·simp only[kb,if_true]
    exact or_beq _ _ _ _ rfl
   simp only[kb,if_false]
   have hi:=spec_inter (a:=a.f2) (b:=a.f3) (c:=b.f2) (d:=b.f3) (by omega) (by omega) (by omega) (by omega)
   simp only[spec_InPlace_eq (n:=a.f2) (by omega),spec_OutPlace_eq (n:=a.f3) (by omega),spec_InPlace_eq (n:=b.f2) (by omega),spec_OutPlace_eq (n:=b.f3) (by omega),Option.bind_some]
   by_cases e:a.f2=b.f2
   ·simp only[e,if_true,decide_true,Bool.not_true,Bool.false_and]
    exact Ev.now _
   ·simp only[e,if_false,decide_false,Bool.not_false,Bool.true_and]
    by_cases e2:a.f3=b.f3
    ·simp only[e2,if_true,decide_true,Bool.true_or];exact Ev.now _
    ·simp only[e2,if_false,decide_false,Bool.false_or]
     exact Ev.bind hi (Ev.now _)
  ·simp only[spec_Conflict.j0,if_true,Bool.not_true,Bool.false_and];exact Ev.now _
 unfold spec_Conflict.f conflict isP
 simp only[spec_IsPath_eq,Option.bind_some]
 cases h1:isPath a.f0 a.f1 a.f2 a.f3
 ·simpa using hj true (by simp)
 cases h2:isPath b.f0 b.f1 b.f2 b.f3
 ·simpa using hj true (by simp)
 by_cases ka:a.f1=2
 ·by_cases kb:b.f1=2
  ·simpa [ka,kb]using hj true (by simp)
  ·have e:(b.f1==2)=false:=by simp[kb]
   have:=hj false (fun _=>⟨h1,h2,fun h=>kb h.2⟩)
   simp only[ka,e,kb,if_true,decide_true,decide_false,Bool.and_false,Bool.not_false,Bool.true_and]at this⊢
   exact this
 ·have:=hj false (fun _=>⟨h1,h2,fun h=>ka h.1⟩)
  simp only[ka,if_false,if_true,decide_false,Bool.false_and,Bool.not_false,Bool.true_and]at this⊢
  exact this
def confAt(l:List S76)(a b:Int):Bool:=conflict (rd_T76 l (findP l a)) (rd_T76 l (findP l b))
def tgAt(l:List S76)(v:List Int)(i:Nat):Bool:=decide (0≤findP l (rd v (i:Int)))&&(decide (i=0)||!decide (rd v (i:Int)≤rd v ((i:Int)-1)))&&(List.range i).all (fun(j:Nat)=>!confAt l (rd v (i:Int)) (rd v (j:Int)))
def together(l:List S76)(v:List Int):Bool:=(List.range v.length).all (tgAt l v)&&arePaths l
theorem together_at{l:List S76}{v:List Int}(h:together l v=true)(i:Nat)(hi:i<v.length):0≤findP l (rd v (i:Int)):=by
 unfold together at h
 simp only[Bool.and_eq_true,List.all_eq_true,List.mem_range]at h
 have:=h.1 i hi
 unfold tgAt at this
 simp only[Bool.and_eq_true,decide_eq_true_eq]at this
 exact this.1.1
theorem impl_IsTogether_eq(l:List S76)(v:List Int)(hl:l.length≤1048576)(hv:v.length≤1048576):Ev (fun k=>impl_IsTogether.f k l v) (together l v):=by
 unfold impl_IsTogether.f together
 refine Ev.bind (impl_ArePaths_eq l hl) ?_
 cases ha:arePaths l
 ·simp only[Bool.false_eq_true,if_false,Bool.and_false];exact Ev.now _
 simp only[if_true,Bool.and_true]
 have inner: ∀(i:Nat) (r:Bool),i<v.length→(∀j:Nat,j≤i→0≤findP l (rd v (j:Int)))→Ev (fun k=>impl_IsTogether.l0 k l v v (v.length:Int) ((i:Int)+1)) r→Ev (fun k=>impl_IsTogether.l1 k l v (findP l (rd v (i:Int))) v (v.length:Int) (i:Int) (v.take i) (((v.take i).length:Nat):Int) 0) ((List.range i).all (fun(j:Nat)=>!confAt l (rd v (i:Int)) (rd v (j:Int)))&&r):=by
  intro i r hi hf hr
  have hlt:(v.take i).length=i:=by rw[List.length_take];omega
  have hrd: ∀j:Nat,j<i→rd (v.take i) (j:Int)=rd v (j:Int):=fun j hj=>by rw[rd_nat _ _ (by omega),rd_nat _ _ (by omega)];simp
  have h1:=hf i (Nat.le_refl i)
  have h2:=findP_hi l (rd v (i:Int))
  rw[hlt]
  refine evAnd (g:=fun k j=>impl_IsTogether.l1 k l v (findP l (rd v (i:Int))) v (v.length:Int) (i:Int) (v.take i) (i:Int) j) (fun j s h hP hs=>?_) (fun j h hP=>?_) ?_
  ·refine Ev.succ ?_
   have h3:=hf j (by omega)
   have h4:=findP_hi l (rd v (j:Int))
   rw[Bool.not_eq_true']at hP
   simp only[impl_IsTogether.l1,show (j:Int)<(i:Int) by omega,show (0:Int)≤(j:Int) by omega,hlt,hrd j h,h1,h2,h3,h4,if_true,impl_FindPath_eq,Option.bind_some,wrap_id (n:=(j:Int)+1) (by omega) (by omega)]
   refine Ev.bind (impl_Conflict_eq _ _) ?_
   unfold confAt at hP
   simp only[hP,Bool.false_eq_true,if_false]
   exact hs
  ·refine Ev.succ ?_
   have h3:=hf j (by omega)
   have h4:=findP_hi l (rd v (j:Int))
   rw[Bool.not_eq_false']at hP
   simp only[impl_IsTogether.l1,show (j:Int)<(i:Int) by omega,show (0:Int)≤(j:Int) by omega,hlt,hrd j h,h1,h2,h3,h4,if_true,impl_FindPath_eq,Option.bind_some]
   refine Ev.bind (impl_Conflict_eq _ _) ?_
   unfold confAt at hP
   simp only[hP,if_true]
   exact Ev.now _
  ·refine Ev.succ ?_
   simp only[impl_IsTogether.l1,Int.lt_irrefl,if_false,wrap_id (n:=(i:Int)+1) (by omega) (by omega)]
   exact hr
 have key: ∀(d i:Nat),i+d=v.length→(∀j:Nat,j<i→0≤findP l (rd v (j:Int)))→Ev (fun k=>impl_IsTogether.l0 k l v v (v.length:Int) (i:Int)) ((List.range' i d).all (tgAt l v)):=by
  intro d
  induction d with
  |zero=>
   intro i hi hf
   refine Ev.succ ?_
   simp only[impl_IsTogether.l0,show¬(i:Int)<(v.length:Int) by omega,if_false]
   exact Ev.now _
  | succ d ih=>
   intro i hi hf
   refine Ev.succ ?_
   rw[List.range'_succ,List.all_cons]
   simp only[impl_IsTogether.l0,show (i:Int)<(v.length:Int) by omega,show (0:Int)≤(i:Int) by omega,if_true,impl_FindPath_eq,Option.bind_some]
   have hj: ∀b:Bool,0≤findP l (rd v (i:Int))∨b=true→Ev (fun k=>impl_IsTogether.j1 k l v (i:Int) (findP l (rd v (i:Int))) v (v.length:Int) (i:Int) b) (!b&&((List.range i).all (fun(j:Nat)=>!confAt l (rd v (i:Int)) (rd v (j:Int)))&&(List.range' (i+1) d).all (tgAt l v))):=by
    intro b hb
    refine Ev.succ ?_
    cases b
    ·have h0:0≤findP l (rd v (i:Int)):=by rcases hb with h|h;exact h;cases h
     simp only[impl_IsTogether.j1,Bool.false_eq_true,if_false,show (0:Int)≤(i:Int) by omega,show (i:Int)≤(v.length:Int) by omega,if_true,Bool.not_false,Bool.true_and,Int.toNat_natCast]
     have hf': ∀j:Nat,j<i+1→0≤findP l (rd v (j:Int)):=fun j hj=>by
      by_cases e:j=i
      ·rw[e];exact h0
      ·exact hf j (by omega)
     refine inner i _ (by omega) (fun j hj=>hf' j (by omega)) ?_
     have:=ih (i+1) (by omega) hf'
     rwa [show ((i+1:Nat):Int)=(i:Int)+1 by omega]at this
    ·simp only[impl_IsTogether.j1,if_true,Bool.not_true,Bool.false_and];exact Ev.now _
   by_cases h0:findP l (rd v (i:Int))<0
   ·simp only[h0,if_true]
    exact evq (hj true (.inr rfl)) (by simp[tgAt,show¬0≤findP l (rd v (i:Int)) by omega])
   ·simp only[h0,if_false]
    by_cases hi0:i=0
    ·subst hi0
     simp only[show¬(((0:Nat):Int)>0) by omega,if_false]
     refine evq (hj false (.inl (by omega))) ?_
     unfold tgAt
     rw[decide_eq_true (show 0≤findP l (rd v ((0:Nat):Int)) by omega)]
     simp
    ·simp only[show (i:Int)>0 by omega,if_true,wrap_id (n:=(i:Int)-1) (by omega) (by omega),show (0:Int)≤(i:Int)-1 by omega,show (i:Int)-1<(v.length:Int) by omega]
     refine evq (hj _ (.inl (by omega))) ?_
     unfold tgAt
     rw[decide_eq_true (show 0≤findP l (rd v (i:Int)) by omega),decide_eq_false hi0]
     simp only[Bool.true_and,Bool.false_or,Bool.and_assoc]
 have:=key v.length 0 (by omega) (fun j hj=>absurd hj (by omega))
 rwa [←List.range_eq_range']at this
theorem spec_IsTogether_eq(l:List S76)(v:List Int)(hl:l.length≤1048576)(hv:v.length≤1048576):Ev (fun k=>spec_IsTogether.f k l v) (together l v):=by
 unfold spec_IsTogether.f together
 have inner: ∀(i:Nat) (r:Bool),i<v.length→(∀j:Nat,j≤i→0≤findP l (rd v (j:Int)))→Ev (fun k=>spec_IsTogether.l0 k l v ((i:Int)+1)) r→Ev (fun k=>spec_IsTogether.l1 k l v (i:Int) (findP l (rd v (i:Int))) 0) ((List.range i).all (fun(j:Nat)=>!confAt l (rd v (i:Int)) (rd v (j:Int)))&&r):=by
  intro i r hi hf hr
  have h1:=hf i (Nat.le_refl i)
  have h2:=findP_hi l (rd v (i:Int))
  refine evAnd (g:=fun k j=>spec_IsTogether.l1 k l v (i:Int) (findP l (rd v (i:Int))) j) (fun j s h hP hs=>?_) (fun j h hP=>?_) ?_
  ·refine Ev.succ ?_
   have h3:=hf j (by omega)
   have h4:=findP_hi l (rd v (j:Int))
   rw[Bool.not_eq_true']at hP
   simp only[spec_IsTogether.l1,show (j:Int)<(i:Int) by omega,show (j:Int)<(v.length:Int) by omega,show (0:Int)≤(j:Int) by omega,h1,h2,if_true,wrap_id (n:=(j:Int)+1) (by omega) (by omega)]
   refine Ev.bind (spec_FindPath_eq l _ hl) ?_
   simp only[h3,h4,if_true]
   refine Ev.bind (spec_Conflict_eq _ _) ?_
   unfold confAt at hP
   simp only[hP,Bool.false_eq_true,if_false]
   exact hs
  ·refine Ev.succ ?_
   have h3:=hf j (by omega)
   have h4:=findP_hi l (rd v (j:Int))
   rw[Bool.not_eq_false']at hP
   simp only[spec_IsTogether.l1,show (j:Int)<(i:Int) by omega,show (j:Int)<(v.length:Int) by omega,show (0:Int)≤(j:Int) by omega,h1,h2,if_true]
   refine Ev.bind (spec_FindPath_eq l _ hl) ?_
   simp only[h3,h4,if_true]
   refine Ev.bind (spec_Conflict_eq _ _) ?_
   unfold confAt at hP
   simp only[hP,if_true]
   exact Ev.now _
  ·refine Ev.succ ?_
   simp only[spec_IsTogether.l1,Int.lt_irrefl,if_false,wrap_id (n:=(i:Int)+1) (by omega) (by omega)]
   exact hr
 have key: ∀(d i:Nat),i+d=v.length→(∀j:Nat,j<i→0≤findP l (rd v (j:Int)))→Ev (fun k=>spec_IsTogether.l0 k l v (i:Int)) ((List.range' i d).all (tgAt l v)&&arePaths l):=by
  intro d
  induction d with
  |zero=>
   intro i hi hf
   refine Ev.succ ?_
   simp only[spec_IsTogether.l0,show¬(i:Int)<(v.length:Int) by omega,if_false]
   exact Ev.bind (spec_ArePaths_eq l hl) (Ev.now _)
  | succ d ih=>
   intro i hi hf
   refine Ev.succ ?_
   rw[List.range'_succ,List.all_cons]
   simp only[spec_IsTogether.l0,show (i:Int)<(v.length:Int) by omega,show (0:Int)≤(i:Int) by omega,if_true]
   refine Ev.bind (spec_FindPath_eq l _ hl) ?_
   have hj: ∀b:Bool,0≤findP l (rd v (i:Int))∨b=true→Ev (fun k=>spec_IsTogether.j1 k l v (i:Int) (findP l (rd v (i:Int))) b) (!b&&((List.range i).all (fun(j:Nat)=>!confAt l (rd v (i:Int)) (rd v (j:Int)))&&((List.range' (i+1) d).all (tgAt l v)&&arePaths l))):=by
    intro b hb
    refine Ev.succ ?_
    cases b
    ·have h0:0≤findP l (rd v (i:Int)):=by rcases hb with h|h;exact h;cases h
     simp only[spec_IsTogether.j1,Bool.false_eq_true,if_false,Bool.not_false,Bool.true_and]
     have hf': ∀j:Nat,j<i+1→0≤findP l (rd v (j:Int)):=fun j hj=>by
      by_cases e:j=i
      ·rw[e];exact h0
      ·exact hf j (by omega)
     refine inner i _ (by omega) (fun j hj=>hf' j (by omega)) ?_
     have:=ih (i+1) (by omega) hf'
     rwa [show ((i+1:Nat):Int)=(i:Int)+1 by omega]at this
    ·simp only[spec_IsTogether.j1,if_true,Bool.not_true,Bool.false_and];exact Ev.now _
   by_cases h0:findP l (rd v (i:Int))<0
   ·simp only[h0,if_true]
    exact evq (hj true (.inr rfl)) (by simp[tgAt,show¬0≤findP l (rd v (i:Int)) by omega])
   ·simp only[h0,if_false]
    by_cases hi0:i=0
    ·subst hi0
     simp only[show¬(((0:Nat):Int)>0) by omega,if_false]
     refine evq (hj false (.inl (by omega))) ?_
     unfold tgAt
     rw[decide_eq_true (show 0≤findP l (rd v ((0:Nat):Int)) by omega)]
     simp[Bool.and_assoc]
    ·simp only[show (i:Int)>0 by omega,if_true,wrap_id (n:=(i:Int)-1) (by omega) (by omega),show (0:Int)≤(i:Int)-1 by omega,show (i:Int)-1<(v.length:Int) by omega]
     refine evq (hj _ (.inl (by omega))) ?_
     unfold tgAt
     rw[decide_eq_true (show 0≤findP l (rd v (i:Int)) by omega),decide_eq_false hi0]
     simp only[Bool.true_and,Bool.false_or,Bool.and_assoc,ge_iff_le]
 have:=key v.length 0 (by omega) (fun j hj=>absurd hj (by omega))
 rwa [←List.range_eq_range']at this
def closes(a b:List Int):List Int:=a.filter (fun x=>!decide (x∈b))
theorem closes_le(a b:List Int):(closes a b).length≤a.length:=List.length_filter_le _ _
theorem closes_mem{a b:List Int}{x:Int}(h:x∈closes a b):x∈a:=(List.mem_filter.1 h).1
theorem closes_step(a b:List Int)(i:Nat)(h:i<a.length):closes (a.drop i) b=(if a[i]∈b then []else [a[i]])++closes (a.drop (i+1)) b:=by
 unfold closes
 rw[List.drop_eq_getElem_cons h,List.filter_cons]
 by_cases e:a[i]∈b<;>simp[e]
theorem impl_Closes_eq(a b:List Int)(ha:a.length≤1048576)(hb:b.length≤1048576):Ev (fun k=>impl_Closes.f k a b) (closes a b):=by
 unfold impl_Closes.f impl_sieve.f
 have key: ∀(d i:Nat) (o:List Int),o.length≤i→i+d=a.length→Ev (fun k=>impl_sieve.l0 k b false o a (a.length:Int) (i:Int)) (o++closes (a.drop i) b):=by
  intro d
  induction d with
  |zero=>
   intro i o ho hi
   refine Ev.succ ?_
   simp only[impl_sieve.l0,show¬(i:Int)<(a.length:Int) by omega,if_false]
   exact evq (Ev.now _) (by rw[List.drop_eq_nil_of_le (show a.length≤i by omega)];simp[closes])
  | succ d ih=>
   intro i o ho hi
   refine Ev.succ ?_
   have hi2:i<a.length:=by omega
   simp only[impl_sieve.l0,show (i:Int)<(a.length:Int) by omega,show (0:Int)≤(i:Int) by omega,if_true,rd_nat _ _ hi2,wrap_id (n:=(i:Int)+1) (by omega) (by omega),show o.length<17592186044416 by omega]
   refine Ev.bind (slices_Contains_eq _ _ (by omega)) ?_
   rw[closes_step a b i hi2]
   by_cases e:a[i]∈b
   ·have:=ih (i+1) o (by omega) (by omega)
    rw[show ((i+1:Nat):Int)=(i:Int)+1 by omega]at this
    simpa [e]using this
   ·have:=ih (i+1) (o++ [a[i]]) (by rw[List.length_append,List.length_singleton];omega) (by omega)
    rw[show ((i+1:Nat):Int)=(i:Int)+1 by omega]at this
    simpa [e]using this
 exact Ev.bind (by simpa using key a.length 0 [] (Nat.le_refl _) (by omega)) (Ev.now _)
theorem spec_Closes_eq(a b:List Int)(ha:a.length≤1048576)(hb:b.length≤1048576):Ev (fun k=>spec_Closes.f k a b) (closes a b):=by
 unfold spec_Closes.f
 have key: ∀(d i:Nat) (o:List Int),o.length≤i→i+d=a.length→Ev (fun k=>spec_Closes.l0 k a b o (i:Int)) (o++closes (a.drop i) b):=by
  intro d
  induction d with
  |zero=>
   intro i o ho hi
   refine Ev.succ ?_
   simp only[spec_Closes.l0,show¬(i:Int)<(a.length:Int) by omega,if_false]
   exact evq (Ev.now _) (by rw[List.drop_eq_nil_of_le (show a.length≤i by omega)];simp[closes])
  | succ d ih=>
   intro i o ho hi
   refine Ev.succ ?_
   have hi2:i<a.length:=by omega
   simp only[spec_Closes.l0,show (i:Int)<(a.length:Int) by omega,show (0:Int)≤(i:Int) by omega,if_true,rd_nat _ _ hi2,wrap_id (n:=(i:Int)+1) (by omega) (by omega),show o.length<17592186044416 by omega]
   refine Ev.bind (spec_l6Has_eq _ _ (by omega)) ?_
   rw[closes_step a b i hi2]
   by_cases e:a[i]∈b
   ·have:=ih (i+1) o (by omega) (by omega)
    rw[show ((i+1:Nat):Int)=(i:Int)+1 by omega]at this
    simpa [e]using this
   ·have:=ih (i+1) (o++ [a[i]]) (by rw[List.length_append,List.length_singleton];omega) (by omega)
    rw[show ((i+1:Nat):Int)=(i:Int)+1 by omega]at this
    simpa [e]using this
 simpa using key a.length 0 [] (Nat.le_refl _) (by omega)
def clrOf(l:List S76)(x:Int):Int:=clearOf (rd_T76 l (findP l x)).f0 (rd_T76 l (findP l x)).f1 (rd_T76 l (findP l x)).f2 (rd_T76 l (findP l x)).f3
def cbIn(l:List S76)(x:Int)(ys:List Int)(m:Int):Int:=ys.foldl (fun m y=>if confAt l x y then max m (clrOf l x)else m) m
def cbOut(l:List S76)(xs ys:List Int)(m:Int):Int:=xs.foldl (fun m x=>cbIn l x ys m) m
def clearBetween(l:List S76)(a b:List Int):Int:=if together l a&&together l b then cbOut l (closes a b) (closes b a) 0 else 0
theorem together_mem{l:List S76}{v:List Int}(h:together l v=true){x:Int}(hx:x∈v):0≤findP l x:=by
 obtain⟨i,hi,rfl⟩:=List.getElem_of_mem hx
 have:=together_at h i hi
 rwa [rd_nat _ _ hi]at this
theorem mx_max(a b:Int):mx a b=max a b:=by unfold mx;omega
theorem impl_ClearBetween_eq(l:List S76)(a b:List Int)(hl:l.length≤1048576)(ha:a.length≤1048576)(hb:b.length≤1048576):Ev (fun k=>impl_ClearBetween.f k l a b) (clearBetween l a b):=by
 unfold impl_ClearBetween.f clearBetween
 refine Ev.bind (impl_IsTogether_eq l a hl ha) ?_
 cases h1:together l a
 ·simp only[Bool.false_eq_true,if_false,Bool.false_and]
  refine Ev.succ ?_
  simp only[impl_ClearBetween.j0,if_true];exact Ev.now _
 simp only[if_true,Bool.true_and]
 refine Ev.bind (impl_IsTogether_eq l b hl hb) ?_
 refine Ev.succ ?_
 cases h2:together l b
 ·simp only[impl_ClearBetween.j0,Bool.not_false,if_true,Bool.false_eq_true,if_false];exact Ev.now _
 simp only[impl_ClearBetween.j0,Bool.not_true,Bool.false_eq_true,if_false,if_true]
 refine Ev.bind (impl_Closes_eq a b ha hb) ?_
 have hx: ∀x∈closes a b,0≤findP l x:=fun x h=>together_mem h1 (closes_mem h)
 have hy: ∀x∈closes b a,0≤findP l x:=fun x h=>together_mem h2 (closes_mem h)
 have lx:=closes_le a b
 have ly:=closes_le b a
 have hC:=impl_Closes_eq b a hb ha
 generalize closes a b=xs at hx lx
 generalize closes b a=ys at hy ly hC
 have inner: ∀(i:Nat) (hi:i<xs.length) (r:Int→Int),(∀m:Int,Ev (fun k=>impl_ClearBetween.l0 k l a b m xs (xs.length:Int) ((i:Int)+1)) (r m))→ ∀(d j:Nat) (m:Int),j+d=ys.length→Ev (fun k=>impl_ClearBetween.l1 k l a b m (xs[i]) xs (xs.length:Int) (i:Int) ys (ys.length:Int) (j:Int)) (r (cbIn l xs[i] (ys.drop j) m)):=by
  intro i hi r hr d
  induction d with
  |zero=>
   intro j m hj
   refine Ev.succ ?_
   simp only[impl_ClearBetween.l1,show¬(j:Int)<(ys.length:Int) by omega,if_false,wrap_id (n:=(i:Int)+1) (by omega) (by omega)]
   refine evq (hr m) ?_
   rw[List.drop_eq_nil_of_le (show ys.length≤j by omega)];rfl
  | succ d ih=>
   intro j m hj
   refine Ev.succ ?_
   have hj2:j<ys.length:=by omega
   have f1:=hx _ (List.getElem_mem hi)
   have f2:=findP_hi l xs[i]
   have f3:=hy _ (List.getElem_mem hj2)
   have f4:=findP_hi l ys[j]
   simp only[impl_ClearBetween.l1,show (j:Int)<(ys.length:Int) by omega,show (0:Int)≤(j:Int) by omega,if_true,rd_nat _ _ hj2,impl_FindPath_eq,Option.bind_some,f1,f2,f3,f4,wrap_id (n:=(j:Int)+1) (by omega) (by omega)]
   refine Ev.bind (impl_Conflict_eq _ _) ?_
   have ih':=fun m=>ih (j+1) m (by omega)
   rw[show ((j+1:Nat):Int)=(j:Int)+1 by omega]at ih'
   have e:cbIn l xs[i] (ys.drop j) m=cbIn l xs[i] (ys.drop (j+1)) (if confAt l xs[i] ys[j]then max m (clrOf l xs[i])else m):=by
    unfold cbIn;rw[List.drop_eq_getElem_cons hj2,List.foldl_cons]
   rw[e]
   show Ev (fun k=>if confAt l xs[i] ys[j]=true then _ else _) _
   cases hc:confAt l xs[i] ys[j]
   ·simp only[Bool.false_eq_true,if_false];exact ih' m
   ·simp only[if_true]
    refine Ev.bind (impl_ClearOf_ev _ _ _ _) ?_
    simp only[mx_max]
    exact ih' _
 have outer: ∀(d i:Nat) (m:Int),i+d=xs.length→Ev (fun k=>impl_ClearBetween.l0 k l a b m xs (xs.length:Int) (i:Int)) (cbOut l (xs.drop i) ys m):=by
  intro d
  induction d with
  |zero=>
   intro i m hi
   refine Ev.succ ?_
   simp only[impl_ClearBetween.l0,show¬(i:Int)<(xs.length:Int) by omega,if_false]
   refine evq (Ev.now _) ?_
   rw[List.drop_eq_nil_of_le (show xs.length≤i by omega)];rfl
  | succ d ih=>
   intro i m hi
   refine Ev.succ ?_
   have hi2:i<xs.length:=by omega
   simp only[impl_ClearBetween.l0,show (i:Int)<(xs.length:Int) by omega,show (0:Int)≤(i:Int) by omega,if_true,rd_nat _ _ hi2]
   refine Ev.bind hC ?_
   have:=inner i hi2 (fun m=>cbOut l (xs.drop (i+1)) ys m) (fun m=>by
    have:=ih (i+1) m (by omega)
    rwa [show ((i+1:Nat):Int)=(i:Int)+1 by omega]at this) ys.length 0 m (by omega)
   refine evq this ?_
   unfold cbOut
   rw[List.drop_eq_getElem_cons hi2,List.foldl_cons];rfl
 exact outer xs.length 0 0 (by omega)
theorem spec_ClearBetween_eq(l:List S76)(a b:List Int)(hl:l.length≤1048576)(ha:a.length≤1048576)(hb:b.length≤1048576):Ev (fun k=>spec_ClearBetween.f k l a b) (clearBetween l a b):=by
 unfold spec_ClearBetween.f clearBetween
 refine Ev.bind (spec_Closes_eq a b ha hb) ?_
 refine Ev.bind (spec_Closes_eq b a hb ha) ?_
 have hx:together l a=true→ ∀x∈closes a b,0≤findP l x:=fun h1 x h=>together_mem h1 (closes_mem h)
 have hy:together l b=true→ ∀x∈closes b a,0≤findP l x:=fun h2 x h=>together_mem h2 (closes_mem h)
 have lx:=closes_le a b
 have ly:=closes_le b a
 generalize closes a b=xs at hx lx
 generalize closes b a=ys at hy ly
 by_cases hn:xs=[]
 ·subst hn
  refine Ev.succ ?_
  simp only[spec_ClearBetween.l0,show¬(0:Int)<(([]:List Int).length:Int) by simp,if_false]
  refine Ev.succ ?_
  simp only[spec_ClearBetween.j1,Bool.false_eq_true,if_false]
  refine evq (Ev.now _) ?_
  split<;>rfl
 have hpos:0<xs.length:=by cases xs with|nil=>exact absurd rfl hn|cons x y=>simp
 cases h1:together l a
 ·refine Ev.succ ?_
  simp only[spec_ClearBetween.l0,show (0:Int)<(xs.length:Int) by omega,if_true]
  refine Ev.bind (spec_IsTogether_eq l a hl ha) ?_
  rw[h1]
  simp only[Bool.false_eq_true,if_false,Bool.false_and]
  refine Ev.succ ?_
  simp only[spec_ClearBetween.j1,Bool.false_eq_true,if_false];exact Ev.now _
 cases h2:together l b
 ·refine Ev.succ ?_
  simp only[spec_ClearBetween.l0,show (0:Int)<(xs.length:Int) by omega,if_true]
  refine Ev.bind (spec_IsTogether_eq l a hl ha) ?_
  rw[h1]
  simp only[if_true]
  refine Ev.bind (spec_IsTogether_eq l b hl hb) ?_
  rw[h2]
  refine Ev.succ ?_
  simp only[spec_ClearBetween.j1,Bool.false_eq_true,if_false,Bool.and_false];exact Ev.now _
 simp only[Bool.and_self,if_true]
 have hx:=hx h1
 have hy:=hy h2
 have inner: ∀(i:Nat) (hi:i<xs.length) (r:Int→Int),(∀m:Int,Ev (fun k=>spec_ClearBetween.l0 k l a b m xs ys ((i:Int)+1)) (r m))→ ∀(d j:Nat) (m:Int),j+d=ys.length→Ev (fun k=>spec_ClearBetween.l1 k l a b m xs ys (i:Int) (j:Int)) (r (cbIn l xs[i] (ys.drop j) m)):=by
  intro i hi r hr d
  induction d with
  |zero=>
   intro j m hj
   refine Ev.succ ?_
   simp only[spec_ClearBetween.l1,show¬(j:Int)<(ys.length:Int) by omega,if_false,wrap_id (n:=(i:Int)+1) (by omega) (by omega)]
   refine evq (hr m) ?_
   rw[List.drop_eq_nil_of_le (show ys.length≤j by omega)];rfl
  | succ d ih=>
   intro j m hj
   refine Ev.succ ?_
   have hj2:j<ys.length:=by omega
   have f1:=hx _ (List.getElem_mem hi)
   have f2:=findP_hi l xs[i]
   have f3:=hy _ (List.getElem_mem hj2)
   have f4:=findP_hi l ys[j]
   simp only[spec_ClearBetween.l1,show (j:Int)<(ys.length:Int) by omega,show (0:Int)≤(j:Int) by omega,show (i:Int)<(xs.length:Int) by omega,show (0:Int)≤(i:Int) by omega,if_true,rd_nat _ _ hj2,rd_nat _ _ hi,wrap_id (n:=(j:Int)+1) (by omega) (by omega)]
   refine Ev.bind (spec_FindPath_eq l _ hl) ?_
   simp only[f1,f2,if_true]
   refine Ev.bind (spec_FindPath_eq l _ hl) ?_
   simp only[f3,f4,if_true]
   refine Ev.bind (spec_Conflict_eq _ _) ?_
   have ih':=fun m=>ih (j+1) m (by omega)
   rw[show ((j+1:Nat):Int)=(j:Int)+1 by omega]at ih'
   have e:cbIn l xs[i] (ys.drop j) m=cbIn l xs[i] (ys.drop (j+1)) (if confAt l xs[i] ys[j]then max m (clrOf l xs[i])else m):=by
    unfold cbIn;rw[List.drop_eq_getElem_cons hj2,List.foldl_cons]
   rw[e]
   show Ev (fun k=>if confAt l xs[i] ys[j]=true then _ else _) _
   cases hc:confAt l xs[i] ys[j]
   ·simp only[Bool.false_eq_true,if_false];exact ih' m
   ·simp only[if_true,spec_ClearOf_eq,spec_Max_eq,Option.bind_some];exact ih' _
 have outer: ∀(d i:Nat) (m:Int),i+d=xs.length→Ev (fun k=>spec_ClearBetween.l0 k l a b m xs ys (i:Int)) (cbOut l (xs.drop i) ys m):=by
  intro d
  induction d with
  |zero=>
   intro i m hi
   refine Ev.succ ?_
   simp only[spec_ClearBetween.l0,show¬(i:Int)<(xs.length:Int) by omega,if_false]
   refine Ev.succ ?_
   simp only[spec_ClearBetween.j1,Bool.false_eq_true,if_false]
   refine evq (Ev.now _) ?_
   rw[List.drop_eq_nil_of_le (show xs.length≤i by omega)];rfl
  | succ d ih=>
   intro i m hi
   refine Ev.succ ?_
   have hi2:i<xs.length:=by omega
   simp only[spec_ClearBetween.l0,show (i:Int)<(xs.length:Int) by omega,if_true]
   refine Ev.bind (spec_IsTogether_eq l a hl ha) ?_
   rw[h1]
   simp only[if_true]
   refine Ev.bind (spec_IsTogether_eq l b hl hb) ?_
   rw[h2]
   refine Ev.succ ?_
   simp only[spec_ClearBetween.j1,if_true]
   have:=inner i hi2 (fun m=>cbOut l (xs.drop (i+1)) ys m) (fun m=>by
    have:=ih (i+1) m (by omega)
    rwa [show ((i+1:Nat):Int)=(i:Int)+1 by omega]at this) ys.length 0 m (by omega)
   refine evq this ?_
   unfold cbOut
   rw[List.drop_eq_getElem_cons hi2,List.foldl_cons];rfl
 exact outer xs.length 0 0 (by omega)
def isControl(l:List S76)(s:List Int)(n:Int)(x:List Int)(f:Int):Bool:=together l s&&together l x&&!decide (s.length=0)&&decide (0≤n∧n≤1000000)&&(if x.length=0 then decide (f=0)else decide (1≤f∧f≤clearBetween l s x))
theorem impl_IsControl_eq(l:List S76)(s:List Int)(n:Int)(x:List Int)(f:Int)(hl:l.length≤1048576)(hs:s.length≤1048576)(hx:x.length≤1048576):Ev (fun k=>impl_IsControl.f k l s n x f) (isControl l s n x f):=by
 have hj: ∀b:Bool,Ev (fun k=>impl_IsControl.j0 k l b s n x f) (!b&&(if x.length=0 then decide (f=0)else decide (1≤f∧f≤clearBetween l s x))):=by
  intro b
  refine Ev.succ ?_
  cases b
  ·simp only[impl_IsControl.j0,Bool.false_eq_true,if_false,Bool.not_false,Bool.true_and]
   by_cases h0:x.length=0
   ·simp only[h0,show ((0:Nat):Int)=0 from rfl,if_true]
    exact Ev.now _
   ·simp only[h0,show¬(x.length:Int)=0 by omega,if_false]
    refine Ev.bind (impl_ClearBetween_eq l s x hl hs hx) ?_
    simp only[impl_InRange_eq,Option.bind_some]
    exact Ev.now _
  ·simp only[impl_IsControl.j0,if_true,Bool.not_true,Bool.false_and];exact Ev.now _
 unfold impl_IsControl.f isControl
 refine Ev.bind (impl_IsTogether_eq l s hl hs) ?_
 cases together l s
 ·simp only[Bool.false_eq_true,if_false,Bool.false_and];exact hj true
 simp only[if_true,Bool.true_and]
 refine Ev.bind (impl_IsTogether_eq l x hl hx) ?_
 cases together l x
 ·simp only[Bool.false_eq_true,if_false,Bool.false_and];exact hj true
 simp only[if_true,Bool.true_and]
 by_cases h0:s.length=0
 ·simp only[h0,show ((0:Nat):Int)=0 from rfl,if_true,decide_true,Bool.not_true,Bool.false_and];exact hj true
 ·simp only[h0,show¬(s.length:Int)=0 by omega,if_false,decide_false,Bool.not_false,Bool.true_and,impl_InRange_eq,Option.bind_some]
  refine evq (hj _) ?_
  rw[Bool.not_not]
theorem spec_IsControl_eq(l:List S76)(s:List Int)(n:Int)(x:List Int)(f:Int)(hl:l.length≤1048576)(hs:s.length≤1048576)(hx:x.length≤1048576):Ev (fun k=>spec_IsControl.f k l s n x f) (isControl l s n x f):=by
 have hj: ∀b:Bool,Ev (fun k=>spec_IsControl.j0 k l b s n x f) (!b&&(if x.length=0 then decide (f=0)else decide (1≤f∧f≤clearBetween l s x))):=by
  intro b
  refine Ev.succ ?_
  cases b
  ·simp only[spec_IsControl.j0,Bool.false_eq_true,if_false,Bool.not_false,Bool.true_and]
   by_cases h0:x.length=0
   ·simp only[h0,show ((0:Nat):Int)=0 from rfl,if_true]
    exact Ev.now _
   ·simp only[h0,show¬(x.length:Int)=0 by omega,if_false]
    refine Ev.bind (spec_ClearBetween_eq l s x hl hs hx) ?_
    simp only[spec_l1In_eq,Option.bind_some]
    exact Ev.now _
  ·simp only[spec_IsControl.j0,if_true,Bool.not_true,Bool.false_and];exact Ev.now _
 unfold spec_IsControl.f isControl
 by_cases h0:s.length=0
 ·simp only[h0,show ((0:Nat):Int)=0 from rfl,if_true,decide_true,Bool.not_true,Bool.and_false,Bool.false_and];exact hj true
 simp only[h0,show¬(s.length:Int)=0 by omega,if_false,decide_false,Bool.not_false,Bool.and_true]
 refine Ev.bind (spec_IsTogether_eq l s hl hs) ?_
 cases together l s
 ·simp only[Bool.false_eq_true,if_false,Bool.false_and];exact hj true
 simp only[if_true,Bool.true_and]
 refine Ev.bind (spec_IsTogether_eq l x hl hx) ?_
 cases together l x
 ·simp only[Bool.false_eq_true,if_false,Bool.false_and];exact hj true
 simp only[if_true,Bool.true_and,spec_l1In_eq,Option.bind_some]
 refine evq (hj _) ?_
 rw[Bool.not_not]
def walkAt(l:List S76)(x:Int):Bool:=decide (0≤findP l x)&&decide ((rd_T76 l (findP l x)).f1=2)
def leastGreen(l:List S76)(s:List Int):Int:=if s.any (walkAt l)then 7 else 5
theorem impl_LeastGreen_eq(l:List S76)(s:List Int)(hl:l.length≤1048576)(hs:s.length≤1048576):Ev (fun k=>impl_LeastGreen.f k l s) (leastGreen l s):=by
 unfold impl_LeastGreen.f leastGreen
 have key: ∀(d i:Nat),i+d=s.length→Ev (fun k=>impl_LeastGreen.l0 k l s (s.length:Int) (i:Int)) (if(s.drop i).any (walkAt l)then 7 else 5):=by
  intro d
  induction d with
  |zero=>
   intro i hi
   refine Ev.succ ?_
   simp only[impl_LeastGreen.l0,show¬(i:Int)<(s.length:Int) by omega,if_false]
   exact evq (Ev.now _) (by rw[List.drop_eq_nil_of_le (show s.length≤i by omega)];rfl)
  | succ d ih=>
   intro i hi
   refine Ev.succ ?_
   have hi2:i<s.length:=by omega
   have ihh:=ih (i+1) (by omega)
   rw[show ((i+1:Nat):Int)=(i:Int)+1 by omega]at ihh
   have f2:=findP_hi l s[i]
   rw[List.drop_eq_getElem_cons hi2,List.any_cons]
   simp only[impl_LeastGreen.l0,show (i:Int)<(s.length:Int) by omega,show (0:Int)≤(i:Int) by omega,if_true,rd_nat _ _ hi2,impl_FindPath_eq,Option.bind_some,f2,wrap_id (n:=(i:Int)+1) (by omega) (by omega)]
   by_cases h0:0≤findP l s[i]
   ·simp only[ge_iff_le,h0,if_true]
    by_cases h1:(rd_T76 l (findP l s[i])).f1=2
    ·have e:walkAt l s[i]=true:=by simp[walkAt,h0,h1]
     simp only[h1,if_true,e,Bool.true_or];exact Ev.now _
    ·have e:walkAt l s[i]=false:=by simp[walkAt,h1]
     simp only[h1,if_false,e,Bool.false_or];exact ihh
   ·have e:walkAt l s[i]=false:=by simp[walkAt,h0]
    simp only[ge_iff_le,h0,if_false,e,Bool.false_or];exact ihh
 simpa using key s.length 0 (by omega)
theorem spec_LeastGreen_eq(l:List S76)(s:List Int)(hl:l.length≤1048576)(hs:s.length≤1048576):Ev (fun k=>spec_LeastGreen.f k l s) (leastGreen l s):=by
 unfold spec_LeastGreen.f leastGreen
 have key: ∀(d i:Nat),i+d=s.length→Ev (fun k=>spec_LeastGreen.l0 k l s (i:Int)) (if(s.drop i).any (walkAt l)then 7 else 5):=by
  intro d
  induction d with
  |zero=>
   intro i hi
   refine Ev.succ ?_
   simp only[spec_LeastGreen.l0,show¬(i:Int)<(s.length:Int) by omega,if_false]
   exact evq (Ev.now _) (by rw[List.drop_eq_nil_of_le (show s.length≤i by omega)];rfl)
  | succ d ih=>
   intro i hi
   refine Ev.succ ?_
   have hi2:i<s.length:=by omega
   have ihh:=ih (i+1) (by omega)
   rw[show ((i+1:Nat):Int)=(i:Int)+1 by omega]at ihh
   have f2:=findP_hi l s[i]
   rw[List.drop_eq_getElem_cons hi2,List.any_cons]
   simp only[spec_LeastGreen.l0,show (i:Int)<(s.length:Int) by omega,show (0:Int)≤(i:Int) by omega,if_true,rd_nat _ _ hi2,wrap_id (n:=(i:Int)+1) (by omega) (by omega)]
   refine Ev.bind (spec_FindPath_eq l _ hl) ?_
   simp only[f2,if_true]
   by_cases h0:0≤findP l s[i]
   ·simp only[ge_iff_le,h0,if_true]
    by_cases h1:(rd_T76 l (findP l s[i])).f1=2
    ·have e:walkAt l s[i]=true:=by simp[walkAt,h0,h1]
     simp only[h1,if_true,e,Bool.true_or];exact Ev.now _
    ·have e:walkAt l s[i]=false:=by simp[walkAt,h1]
     simp only[h1,if_false,e,Bool.false_or];exact ihh
   ·have e:walkAt l s[i]=false:=by simp[walkAt,h0]
    simp only[ge_iff_le,h0,if_false,e,Bool.false_or];exact ihh
 simpa using key s.length 0 (by omega)
def canEnd(l:List S76)(s:List Int)(n:Int)(x:List Int)(f:Int):Bool:=isControl l s n x f&&decide (x.length=0)&&decide (n≥leastGreen l s)
theorem impl_CanEnd_eq(l:List S76)(s:List Int)(n:Int)(x:List Int)(f:Int)(hl:l.length≤1048576)(hs:s.length≤1048576)(hx:x.length≤1048576):Ev (fun k=>impl_CanEnd.f k l s n x f) (canEnd l s n x f):=by
 unfold impl_CanEnd.f canEnd
 refine Ev.bind (impl_IsControl_eq l s n x f hl hs hx) ?_
 cases isControl l s n x f
 ·simp only[Bool.false_eq_true,if_false,Bool.false_and];exact Ev.now _
 by_cases h:x.length=0
 ·simp only[h,show ((0:Nat):Int)=0 from rfl,if_true,decide_true,Bool.true_and]
  exact Ev.bind (impl_LeastGreen_eq l s hl hs) (Ev.now _)
 ·simp only[h,show¬(x.length:Int)=0 by omega,if_true,if_false,decide_false,Bool.true_and,Bool.false_and];exact Ev.now _
def wHold:ByteArray:=⟨#[104,111,108,100]⟩
def wCall:ByteArray:=⟨#[99,97,108,108]⟩
def wNone:ByteArray:=⟨#[]⟩
def prioWish(l:List S76)(s:List Int)(n:Int)(x:List Int)(f a b:Int):ByteArray:=
 if isControl l s n x f&&isPrio l a b&&!decide (a=0)then(if decide (a∈s)&&decide (x.length=0)then wHold else if !decide (a∈s)&&canEnd l s n x f then wCall else wNone)else wNone
theorem impl_PrioWish_eq(l:List S76)(s:List Int)(n:Int)(x:List Int)(f a b:Int)(hl:l.length≤1048576)(hs:s.length≤1048576)(hx:x.length≤1048576):Ev (fun k=>impl_PrioWish.f k l s n x f a b) (prioWish l s n x f a b):=by
 have hj: ∀y:Bool,Ev (fun k=>impl_PrioWish.j0 k l y s n x f a b) (if !y then(if decide (a∈s)&&decide (x.length=0)then wHold else if !decide (a∈s)&&canEnd l s n x f then wCall else wNone)else wNone):=by
  intro y
  refine Ev.succ ?_
  cases y
  ·simp only[impl_PrioWish.j0,Bool.false_eq_true,if_false,Bool.not_false,if_true]
   refine Ev.bind (slices_Contains_eq _ _ (by omega)) ?_
   by_cases h:a∈s
   ·simp only[h,decide_true,if_true,Bool.true_and,Bool.not_true,Bool.false_and,Bool.false_eq_true,if_false]
    refine Ev.succ ?_
    by_cases h0:x.length=0
    ·simp only[impl_PrioWish.j1,h0,show ((0:Nat):Int)=0 from rfl,beq_self_eq_true,if_true,decide_true];exact Ev.now _
    ·simp only[impl_PrioWish.j1,h0,show ((x.length:Int)==0)=false by rw[beq_eq_false_iff_ne];omega,Bool.false_eq_true,if_true,if_false,decide_false];exact Ev.now _
   ·simp only[h,decide_false,Bool.false_eq_true,if_false,Bool.false_and,Bool.not_false,Bool.true_and]
    refine Ev.succ ?_
    simp only[impl_PrioWish.j1,Bool.false_eq_true,if_false]
    refine Ev.bind (impl_CanEnd_eq l s n x f hl hs hx) ?_
    cases canEnd l s n x f
    ·simp only[Bool.false_eq_true,if_false];exact Ev.now _
    ·simp only[if_true];exact Ev.now _
  ·simp only[impl_PrioWish.j0,if_true,Bool.not_true,Bool.false_eq_true,if_false];exact Ev.now _
 unfold impl_PrioWish.f prioWish
 by_cases h0:a=0
 ·simp only[h0,if_true,decide_true,Bool.not_true,Bool.and_false]
  rw[h0]at hj
  exact hj true
 ·simp only[h0,if_false,decide_false,Bool.not_false,Bool.and_true]
  refine Ev.bind (impl_IsControl_eq l s n x f hl hs hx) ?_
  cases isControl l s n x f
  ·simp only[Bool.false_eq_true,if_false,Bool.false_and];exact hj true
  simp only[if_true,Bool.true_and]
  refine Ev.bind (impl_IsPrio_eq l a b hl) ?_
  refine evq (hj _) ?_
  rw[Bool.not_not]
def put:List Int→Int→List Int
 |[],n=>[n]
 |a::l,n=>if a<n then a::put l n else if a=n then a::l else n::a::l
theorem put_length: ∀(l:List Int) (n:Int),(put l n).length≤l.length+1
 |[],n=>by simp[put]
 | a::l,n=>by
  have:=put_length l n
  unfold put
  split
  ·simp;omega
  ·split
   ·simp
   ·simp
theorem put_mem: ∀(l:List Int) (n x:Int),x∈put l n↔x=n∨x∈l
 |[],n,x=>by simp[put]
 | a ::l,n,x=>by
  have:=put_mem l n x
  unfold put
  split
  ·simp only[List.mem_cons,this]
   constructor
   ·rintro(h|h|h)<;>simp[h]
   ·rintro(h|h|h)<;>simp[h]
  ·split
   ·rename_i h;simp only[List.mem_cons]
    constructor
    ·rintro(h|h)<;>simp[h]
    ·rintro(h2|h2|h2)
     ·left;omega
     ·simp[h2]
     ·simp[h2]
   ·simp
theorem spec_l6Put_eq(l:List Int)(n:Int)(hl:l.length≤4194304):Ev (fun k=>spec_l6Put.f k l n) (put l n):=by
 unfold spec_l6Put.f
 have key: ∀(d i:Nat),i+d=l.length→Ev (fun k=>spec_l6Put.l0 k l n (i:Int)) (l.take i++put (l.drop i) n):=by
  intro d
  induction d with
  |zero=>
   intro i hi
   refine Ev.succ ?_
   have hlt:(l.take i).length=i:=by rw[List.length_take];omega
   simp only[spec_l6Put.l0,show¬(i:Int)<(l.length:Int) by omega,if_false,Option.bind_some,show (0:Int)≤(i:Int) by omega,show (i:Int)≤(l.length:Int) by omega,if_true,Int.toNat_natCast,List.length_nil,Nat.zero_add,List.nil_append,List.length_append,List.length_singleton,List.length_drop,hlt,show i<17592186044416 by omega,show i+1<17592186044416 by omega,show i+1+(l.length-i)<17592186044416 by omega]
   exact evq (Ev.now _) (by rw[List.drop_eq_nil_of_le (show l.length≤i by omega)];simp[put])
  | succ d ih=>
   intro i hi
   refine Ev.succ ?_
   have hi2:i<l.length:=by omega
   have hlt:(l.take i).length=i:=by rw[List.length_take];omega
   have next:=ih (i+1) (by omega)
   rw[show ((i+1:Nat):Int)=(i:Int)+1 by omega]at next
   simp only[spec_l6Put.l0,show (i:Int)<(l.length:Int) by omega,if_true,Option.bind_some,show (0:Int)≤(i:Int) by omega,show (i:Int)≤(l.length:Int) by omega,rd_nat _ _ hi2,wrap_id (n:=(i:Int)+1) (by omega) (by omega),Int.toNat_natCast,List.length_nil,Nat.zero_add,List.nil_append,List.length_append,List.length_singleton,List.length_drop,hlt,show i<17592186044416 by omega,show i+1<17592186044416 by omega,show i+1+(l.length-i)<17592186044416 by omega,show l.length<17592186044416 by omega]
   rw[List.drop_eq_getElem_cons hi2]
   unfold put
   by_cases h1:l[i]<n
   ·simp only[h1,if_true]
    rw[List.take_succ_eq_append_getElem hi2,List.append_assoc,List.singleton_append]at next
    exact next
   ·simp only[h1,if_false]
    by_cases h2:l[i]=n
    ·simp only[h2,if_true]
     refine evq (Ev.now _) ?_
     rw[←h2,←List.drop_eq_getElem_cons hi2,List.take_append_drop]
    ·simp only[h2,if_false]
     refine evq (Ev.now _) ?_
     rw[List.append_assoc,List.singleton_append]
 simpa using key l.length 0 (by omega)
theorem laws_contains_eq(l:List Int)(a:Int)(hl:l.length≤1048576):Ev (fun k=>laws_contains.f k l a) (decide (a∈l)):=by
 unfold laws_contains.f
 have key: ∀(d i:Nat),i+d=l.length→Ev (fun k=>laws_contains.l0 k l a (i:Int)) (decide (a∈l.drop i)):=by
  intro d
  induction d with
  |zero=>
   intro i hi
   refine Ev.succ ?_
   simp only[laws_contains.l0,show¬(i:Int)<(l.length:Int) by omega,if_false]
   exact evq (Ev.now _) (by rw[List.drop_eq_nil_of_le (show l.length≤i by omega)];simp)
  | succ d ih=>
   intro i hi
   refine Ev.succ ?_
   have hi2:i<l.length:=by omega
   have next:=ih (i+1) (by omega)
   rw[show ((i+1:Nat):Int)=(i:Int)+1 by omega]at next
   simp only[laws_contains.l0,show (i:Int)<(l.length:Int) by omega,show (0:Int)≤(i:Int) by omega,if_true,rd_nat _ _ hi2,wrap_id (n:=(i:Int)+1) (by omega) (by omega)]
   rw[List.drop_eq_getElem_cons hi2]
   by_cases h:l[i]=a
   ·simp only[h,if_true]
    exact evq (Ev.now _) (by simp)
   ·simp only[h,if_false]
    exact evq next (decide_eq_decide.2 ⟨List.mem_cons_of_mem _,fun h2=>(List.mem_cons.1 h2).resolve_left (Ne.symm h)⟩)
 simpa using key l.length 0 (by omega)
theorem cbIn_bd(l:List S76)(x:Int): ∀(ys:List Int) (m:Int),0≤m→m≤5→0≤cbIn l x ys m∧cbIn l x ys m≤5
 |[],m,h0,h5=>⟨h0,h5⟩
 |y::ys,m,h0,h5=>by
  have hc:=clearOf_bd (rd_T76 l (findP l x)).f0 (rd_T76 l (findP l x)).f1 (rd_T76 l (findP l x)).f2 (rd_T76 l (findP l x)).f3
  show 0≤cbIn l x ys (if confAt l x y then max m (clrOf l x)else m)∧cbIn l x ys (if confAt l x y then max m (clrOf l x)else m)≤5
  refine cbIn_bd l x ys _ ?_ ?_
  ·unfold clrOf;split<;>omega
  ·unfold clrOf;split<;>omega
theorem cbOut_bd(l:List S76)(ys:List Int): ∀(xs:List Int) (m:Int),0≤m→m≤5→0≤cbOut l xs ys m∧cbOut l xs ys m≤5
 |[],m,h0,h5=>⟨h0,h5⟩
 |x::xs,m,h0,h5=>by
  have:=cbIn_bd l x ys m h0 h5
  exact cbOut_bd l ys xs (cbIn l x ys m) this.1 this.2
theorem clearBetween_bd(l:List S76)(a b:List Int):0≤clearBetween l a b∧clearBetween l a b≤5:=by
 unfold clearBetween
 split
 ·exact cbOut_bd l _ _ 0 (by omega) (by omega)
 ·omega
theorem slices_Clone_eq(l:List Int)(h:l.length≤1048576):slices_Clone_int_int.f l=some l:=by
 unfold slices_Clone_int_int.f;rw[if_pos (by omega)]
theorem impl_cloneControl_eq(s:List Int)(n:Int)(x:List Int)(f:Int)(hs:s.length≤1048576)(hx:x.length≤1048576):impl_cloneControl.f s n x f=some (s,n,x,f):=by
 unfold impl_cloneControl.f
 rw[slices_Clone_eq s hs,Option.bind_some,slices_Clone_eq x hx,Option.bind_some]
theorem spec_l14Copy_eq(s:List Int)(n:Int)(x:List Int)(f:Int)(hs:s.length≤1048576)(hx:x.length≤1048576):spec_l14Copy.f s n x f=some (s,n,x,f):=by
 unfold spec_l14Copy.f
 simp only[Option.bind_some,List.length_nil,Nat.zero_add,List.nil_append,show s.length<17592186044416 by omega,show x.length<17592186044416 by omega,if_true]
def tick(l:List S76)(s:List Int)(n:Int)(x:List Int)(f:Int):List Int×Int×List Int×Int:=if isControl l s n x f=true then(if x.length=0 then(s,min (n+1) 1000000,x,f)else if f>1 then(s,n,x,f-1)else(x,0,[],0))else(s,n,x,f)
theorem isControl_parts{l:List S76}{s:List Int}{n:Int}{x:List Int}{f:Int}(h:isControl l s n x f=true):together l s=true∧together l x=true∧ ¬s.length=0∧(0≤n∧n≤1000000)∧(x.length=0→f=0)∧(¬x.length=0→1≤f∧f≤clearBetween l s x):=by
 unfold isControl at h
 simp only[Bool.and_eq_true,Bool.not_eq_true',decide_eq_true_eq,decide_eq_false_iff_not]at h
 refine⟨h.1.1.1.1,h.1.1.1.2,h.1.1.2,h.1.2,fun h0=>?_,fun h0=>?_⟩
 ·have:=h.2;rw[if_pos h0]at this;exact of_decide_eq_true this
 ·have:=h.2;rw[if_neg h0]at this;exact of_decide_eq_true this
theorem isControl_of{l:List S76}{s:List Int}{n:Int}{x:List Int}{f:Int}(h1:together l s=true)(h2:together l x=true)(h3: ¬s.length=0)(h4:0≤n∧n≤1000000)(h5:x.length=0→f=0)(h6: ¬x.length=0→1≤f∧f≤clearBetween l s x):isControl l s n x f=true:=by
 unfold isControl
 rw[h1,h2,decide_eq_false h3,decide_eq_true h4]
 simp only[Bool.not_false,Bool.and_self,Bool.true_and]
 by_cases h0:x.length=0
 ·rw[if_pos h0];exact decide_eq_true (h5 h0)
 ·rw[if_neg h0];exact decide_eq_true (h6 h0)
theorem impl_TickControl_eq(l:List S76)(s:List Int)(n:Int)(x:List Int)(f:Int)(hl:l.length≤1048576)(hs:s.length≤1048576)(hx:x.length≤1048576):Ev (fun k=>impl_TickControl.f k l s n x f) (tick l s n x f):=by
 unfold impl_TickControl.f tick
 simp only[impl_cloneControl_eq s n x f hs hx,Option.bind_some]
 refine Ev.bind (impl_IsControl_eq l s n x f hl hs hx) ?_
 cases hc:isControl l s n x f
 ·simp only[Bool.false_eq_true,if_false];exact Ev.now _
 obtain⟨_,_,_,hn,h5,h6⟩:=isControl_parts hc
 simp only[if_true]
 by_cases h0:x.length=0
 ·simp only[h0,show ((0:Nat):Int)=0 from rfl,if_true,wrap_id (n:=n+1) (by omega) (by omega)]
  exact evq (Ev.now _) (by unfold mn;congr 2;split<;>omega)
 ·have hb:=clearBetween_bd l s x
  have hf:=h6 h0
  simp only[h0,show¬(x.length:Int)=0 by omega,if_false]
  by_cases h1:f>1
  ·simp only[h1,if_true,wrap_id (n:=f-1) (by omega) (by omega)];exact Ev.now _
  ·simp only[h1,if_false,slices_Clone_eq x hx,Option.bind_some];exact Ev.now _
theorem tick_len(l:List S76)(s:List Int)(n:Int)(x:List Int)(f:Int)(hs:s.length≤1048576)(hx:x.length≤1048576):(tick l s n x f).1.length≤1048576∧(tick l s n x f).2.2.1.length≤1048576:=by
 unfold tick
 split
 ·split
  ·exact⟨hs,hx⟩
  ·split
   ·exact⟨hs,hx⟩
   ·exact⟨hx,by simp⟩
 ·exact⟨hs,hx⟩
theorem spec_TickControl_eq(l:List S76)(s:List Int)(n:Int)(x:List Int)(f:Int)(hl:l.length≤1048576)(hs:s.length≤1048576)(hx:x.length≤1048576):Ev (fun k=>spec_TickControl.f k l s n x f) (tick l s n x f):=by
 unfold spec_TickControl.f tick
 simp only[spec_l14Copy_eq s n x f hs hx,Option.bind_some]
 refine Ev.bind (spec_IsControl_eq l s n x f hl hs hx) ?_
 cases hc:isControl l s n x f
 ·simp only[Bool.false_eq_true,if_false];exact Ev.now _
 obtain⟨_,_,_,hn,h5,h6⟩:=isControl_parts hc
 simp only[if_true]
 by_cases h0:x.length=0
 ·simp only[h0,show ((0:Nat):Int)=0 from rfl,if_true,wrap_id (n:=n+1) (by omega) (by omega),spec_Min_eq,Option.bind_some]
  exact evq (Ev.now _) (by rw[Int.min_comm])
 ·have hb:=clearBetween_bd l s x
  have hf:=h6 h0
  simp only[h0,show¬(x.length:Int)=0 by omega,if_false,wrap_id (n:=f-1) (by omega) (by omega)]
  by_cases h1:f>1
  ·simp only[h1,if_true,show¬f-1=0 by omega,if_false];exact Ev.now _
  ·simp only[h1,if_false,show f-1=0 by omega,if_true];exact Ev.now _
theorem together_arePaths{l:List S76}{v:List Int}(h:together l v=true):arePaths l=true:=by
 unfold together at h;rw[Bool.and_eq_true]at h;exact h.2
theorem together_nil{l:List S76}(h:arePaths l=true):together l []=true:=by
 unfold together;simp[h]
theorem isControl_paths{l:List S76}{s:List Int}{n:Int}{x:List Int}{f:Int}(h:isControl l s n x f=true):arePaths l=true:=together_arePaths (isControl_parts h).1
theorem isControl_new{l:List S76}{s:List Int}(h:together l s=true)(h0: ¬s.length=0):isControl l s 0 [] 0=true:=
 isControl_of h (together_nil (together_arePaths h)) h0 (by omega) (fun _=>rfl) (fun h=>absurd rfl h)
theorem tick_control{l:List S76}{s:List Int}{n:Int}{x:List Int}{f:Int}(h:isControl l s n x f=true):isControl l (tick l s n x f).1 (tick l s n x f).2.1 (tick l s n x f).2.2.1 (tick l s n x f).2.2.2=true:=by
 obtain⟨h1,h2,h3,h4,h5,h6⟩:=isControl_parts h
 unfold tick
 rw[if_pos h]
 split
 ·rename_i h0
  exact isControl_of h1 h2 h3 (by dsimp only;omega) h5 h6
 ·rename_i h0
  have h7:=h6 h0
  split
  ·exact isControl_of h1 h2 h3 h4 (fun h=>absurd h h0) (fun _=>by dsimp only;omega)
  ·exact isControl_new h2 h0
def light(s x:List Int)(q:Int):Int:=if q∈s then(if x.length>0 then(if q∈x then 1 else 2)else 1)else 0
def lightsOf(l:List S76)(s:List Int)(n:Int)(x:List Int)(f:Int):List Int:=if isControl l s n x f=true then l.map (fun q=>light s x q.f0)else []
theorem lightsOf_le(l:List S76)(s:List Int)(n:Int)(x:List Int)(f:Int):(lightsOf l s n x f).length≤l.length:=by
 unfold lightsOf;split<;>simp
theorem impl_LightsOf_eq(l:List S76)(s:List Int)(n:Int)(x:List Int)(f:Int)(hl:l.length≤1048576)(hs:s.length≤1048576)(hx:x.length≤1048576):Ev (fun k=>impl_LightsOf.f k l s n x f) (lightsOf l s n x f):=by
 unfold impl_LightsOf.f lightsOf
 simp only[Option.bind_some]
 refine Ev.bind (impl_IsControl_eq l s n x f hl hs hx) ?_
 cases hc:isControl l s n x f
 ·simp only[Bool.false_eq_true,if_false];exact Ev.now _
 simp only[if_true]
 have key: ∀(d i:Nat) (o:List Int),o.length≤i→i+d=l.length→Ev (fun k=>impl_LightsOf.l0 k o l (l.length:Int) (i:Int) s n x f) (o++(l.drop i).map (fun q=>light s x q.f0)):=by
  intro d
  induction d with
  |zero=>
   intro i o ho hi
   refine Ev.succ ?_
   simp only[impl_LightsOf.l0,show¬(i:Int)<(l.length:Int) by omega,if_false]
   exact evq (Ev.now _) (by rw[List.drop_eq_nil_of_le (show l.length≤i by omega)];simp)
  | succ d ih=>
   intro i o ho hi
   refine Ev.succ ?_
   have hi2:i<l.length:=by omega
   have next:=ih (i+1) (o++ [light s x l[i].f0]) (by rw[List.length_append,List.length_singleton];omega) (by omega)
   rw[show ((i+1:Nat):Int)=(i:Int)+1 by omega,List.append_assoc,List.singleton_append]at next
   rw[List.drop_eq_getElem_cons hi2,List.map_cons]
   simp only[impl_LightsOf.l0,show (i:Int)<(l.length:Int) by omega,show (0:Int)≤(i:Int) by omega,if_true,rdT_Path _ _ hi2,wrap_id (n:=(i:Int)+1) (by omega) (by omega),show o.length<17592186044416 by omega]
   refine Ev.bind (slices_Contains_eq s _ (by omega)) ?_
   by_cases h1:l[i].f0∈s
   ·simp only[h1,decide_true,if_true]
    by_cases h2:x.length>0
    ·simp only[show (x.length:Int)>0 by omega,if_true]
     refine Ev.bind (slices_Contains_eq x _ (by omega)) ?_
     by_cases h3:l[i].f0∈x
     ·have e:light s x l[i].f0=1:=by unfold light;simp[h1,h2,h3]
      simp only[h3,decide_true,if_true];rw[e]at next⊢;exact next
     ·have e:light s x l[i].f0=2:=by unfold light;simp[h1,h2,h3]
      simp only[h3,decide_false,Bool.false_eq_true,if_false];rw[e]at next⊢;exact next
    ·have e:light s x l[i].f0=1:=by unfold light;simp[h1];intro h;simp[h]at h2
     simp only[show¬(x.length:Int)>0 by omega,if_false];rw[e]at next⊢;exact next
   ·have e:light s x l[i].f0=0:=by unfold light;simp[h1]
    simp only[h1,decide_false,Bool.false_eq_true,if_false];rw[e]at next⊢;exact next
 simpa using key l.length 0 [] (Nat.le_refl _) (by omega)
theorem all_eq(x y:List Int)(h:x.length=y.length):(List.range x.length).all (fun(i:Nat)=>decide (rd x (i:Int)=rd y (i:Int)))=decide (x=y):=by
 by_cases e:x=y
 ·subst e
  rw[decide_eq_true rfl,List.all_eq_true]
  intro i _;simp
 ·rw[decide_eq_false e,List.all_eq_false]
  refine Classical.byContradiction (fun hn=>e (List.ext_getElem h (fun i h1 h2=>?_)))
  refine Classical.byContradiction (fun hne=>hn ⟨i,List.mem_range.2 h1,?_⟩)
  rw[rd_nat _ _ h1,rd_nat _ _ h2]
  simpa using hne
theorem slices_Equal_eq(x y:List Int)(hx:x.length≤1048576):Ev (fun k=>slices_Equal_int_int.f k x y) (decide (x=y)):=by
 unfold slices_Equal_int_int.f
 by_cases h:x.length=y.length
 ·simp only[show (x.length:Int)=(y.length:Int) by omega,if_true]
  rw[show (y.length:Int)=(x.length:Int) by omega,←all_eq x y h]
  refine Ev.all (g:=fun k i=>slices_Equal_int_int.l0 k x y (x.length:Int) i) x.length _ (fun i r hi hP hr=>?_) (fun i hi hP=>?_) ?_
  ·refine Ev.succ ?_
   simp only[slices_Equal_int_int.l0,show (i:Int)<(x.length:Int) by omega,show (i:Int)<(y.length:Int) by omega,show (0:Int)≤(i:Int) by omega,if_true,of_decide_eq_true hP,wrap_id (n:=(i:Int)+1) (by omega) (by omega)]
   exact hr
  ·refine Ev.succ ?_
   simp only[slices_Equal_int_int.l0,show (i:Int)<(x.length:Int) by omega,show (i:Int)<(y.length:Int) by omega,show (0:Int)≤(i:Int) by omega,if_true,of_decide_eq_false hP,if_false]
   exact Ev.now _
  ·refine Ev.succ ?_
   simp only[slices_Equal_int_int.l0,Int.lt_irrefl,if_false]
   exact Ev.now _
 ·simp only[show¬(x.length:Int)=(y.length:Int) by omega,if_false]
  exact evq (Ev.now _) (decide_eq_false (fun e=>h (by rw[e]))).symm
theorem spec_EqualInts_eq(x y:List Int)(hx:x.length≤1048576):Ev (fun k=>spec_EqualInts.f k x y) (decide (x=y)):=by
 unfold spec_EqualInts.f
 by_cases h:x.length=y.length
 ·simp only[show (x.length:Int)=(y.length:Int) by omega,if_true]
  rw[←all_eq x y h]
  refine Ev.all (g:=fun k i=>spec_EqualInts.l0 k x y i) x.length _ (fun i r hi hP hr=>?_) (fun i hi hP=>?_) ?_
  ·refine Ev.succ ?_
   simp only[spec_EqualInts.l0,show (i:Int)<(x.length:Int) by omega,show (i:Int)<(y.length:Int) by omega,show (0:Int)≤(i:Int) by omega,if_true,of_decide_eq_true hP,wrap_id (n:=(i:Int)+1) (by omega) (by omega)]
   exact hr
  ·refine Ev.succ ?_
   simp only[spec_EqualInts.l0,show (i:Int)<(x.length:Int) by omega,show (i:Int)<(y.length:Int) by omega,show (0:Int)≤(i:Int) by omega,if_true,of_decide_eq_false hP,if_false]
   exact Ev.now _
  ·refine Ev.succ ?_
   simp only[spec_EqualInts.l0,Int.lt_irrefl,if_false]
   exact Ev.now _
 ·simp only[show¬(x.length:Int)=(y.length:Int) by omega,if_false]
  exact evq (Ev.now _) (decide_eq_false (fun e=>h (by rw[e]))).symm
theorem ids_lt{l:List S76}(h:arePaths l=true): ∀(d i:Nat) (hd:i+d+1<l.length),(l[i]'(by omega)).f0<(l[i+d+1]).f0
 |0,i,hd=>arePaths_asc h i hd
 |d+1,i,hd=>by
  have h1:=ids_lt h d i (by omega)
  have h2:=arePaths_asc h (i+d+1) (by omega)
  exact Int.lt_trans h1 h2
theorem findP_self{l:List S76}(h:arePaths l=true)(i:Nat)(hi:i<l.length):findP l l[i].f0=(i:Int):=by
 have h0:0≤findP l l[i].f0:=Int.not_lt.1 (fun hn=>findP_none hn _ (List.getElem_mem hi) rfl)
 obtain⟨k,hk,e,he⟩:=findP_at h0
 rw[e]
 by_cases h1:k<i
 ·have:=ids_lt h (i-k-1) k (by omega)
  have e2:k+(i-k-1)+1=i:=by omega
  simp only[e2]at this
  omega
 ·by_cases h2:i<k
  ·have:=ids_lt h (k-i-1) i (by omega)
   have e2:i+(k-i-1)+1=k:=by omega
   simp only[e2]at this
   omega
  ·omega
theorem together_ascd{l:List S76}{v:List Int}(h:together l v=true): ∀(d i:Nat),i+d+1<v.length→rd v (i:Int)<rd v ((i+d+1:Nat):Int)
 | d,i,hd=>by
  have step: ∀j:Nat,j+1<v.length→rd v (j:Int)<rd v ((j+1:Nat):Int):=by
   intro j hj
   have hh:=h
   unfold together at hh
   simp only[Bool.and_eq_true,List.all_eq_true,List.mem_range]at hh
   have:=hh.1 (j+1) hj
   unfold tgAt at this
   simp only[Bool.and_eq_true,Bool.or_eq_true,decide_eq_true_eq,Bool.not_eq_true',decide_eq_false_iff_not,show ((j+1:Nat):Int)-1=(j:Int) by omega]at this
   omega
  induction d with
  |zero=>exact step i hd
  |succ d ih=>exact Int.lt_trans (ih (by omega)) (step (i+d+1) hd)
theorem together_conf{l:List S76}{v:List Int}(h:together l v=true){x y:Int}(hx:x∈v)(hy:y∈v)(hlt:y<x):confAt l x y=false:=by
 obtain⟨p,hp,ex⟩:=List.mem_iff_getElem.1 hx
 obtain⟨q,hq,ey⟩:=List.mem_iff_getElem.1 hy
 have rx:rd v (p:Int)=x:=by rw[rd_nat _ _ hp,ex]
 have ry:rd v (q:Int)=y:=by rw[rd_nat _ _ hq,ey]
 have hqp:q<p:=by
  refine Nat.lt_of_not_le (fun hle=>?_)
  by_cases e:p=q
  ·rw[e,ry]at rx;omega
  ·have:=together_ascd h (q-p-1) p (by omega)
   rw[show p+(q-p-1)+1=q by omega,rx,ry]at this
   omega
 have hh:=h
 unfold together at hh
 simp only[Bool.and_eq_true,List.all_eq_true,List.mem_range]at hh
 have:=hh.1 p hp
 unfold tgAt at this
 simp only[Bool.and_eq_true,List.all_eq_true,List.mem_range]at this
 have:=this.2 q hqp
 rw[rx,ry]at this
 simpa using this
def lightsSafe(l:List S76)(x:List Int):Prop:=x.length=l.length∧(∀i (hi:i<x.length),0≤x[i]∧x[i]≤2)∧ ∀i j (hi:i<l.length) (hj:j<i),conflict l[i] (l[j]'(by omega))=true→rd x (i:Int)=0∨rd x (j:Int)=0
theorem impl_IsSafeLights_true(l:List S76)(x:List Int)(hl:l.length≤1048576)(ha:arePaths l=true)(hs:lightsSafe l x):Ev (fun k=>impl_IsSafeLights.f k l x) true:=by
 unfold impl_IsSafeLights.f
 obtain⟨h1,h2,h3⟩:=hs
 refine Ev.bind (impl_ArePaths_eq l hl) ?_
 rw[ha,h1,bne_self_eq_false]
 simp only[if_true]
 refine Ev.succ ?_
 simp only[impl_IsSafeLights.j0,Bool.false_eq_true,if_false]
 have inner: ∀(i:Nat) (hi:i<l.length),Ev (fun k=>impl_IsSafeLights.l0 k l x l (l.length:Int) ((i:Int)+1)) true→ ∀(d j:Nat),j+d=i→Ev (fun k=>impl_IsSafeLights.l1 k l x (i:Int) l (l.length:Int) (i:Int) (l.take i) (i:Int) (j:Int) l[i].f0 l[i].f1 l[i].f2 l[i].f3) true:=by
  intro i hi hr d
  have htl:(l.take i).length=i:=by rw[List.length_take];omega
  induction d with
  |zero=>
   intro j hj
   refine Ev.succ ?_
   simp only[impl_IsSafeLights.l1,show¬(j:Int)<(i:Int) by omega,if_false,wrap_id (n:=(i:Int)+1) (by omega) (by omega)]
   exact hr
  | succ d ih=>
   intro j hj
   refine Ev.succ ?_
   have next:=ih (j+1) (by omega)
   rw[show ((j+1:Nat):Int)=(j:Int)+1 by omega]at next
   have hj2:j<(l.take i).length:=by omega
   have hrd:rd_T76 (l.take i) (j:Int)=l[j]'(by omega):=by rw[rdT_Path _ _ hj2];simp
   simp only[impl_IsSafeLights.l1,show (j:Int)<(i:Int) by omega,show (0:Int)≤(j:Int) by omega,htl,if_true,hrd,wrap_id (n:=(j:Int)+1) (by omega) (by omega)]
   refine Ev.bind (impl_Conflict_eq _ _) ?_
   cases hcf:conflict l[i] (l[j]'(by omega))
   ·simp only[Bool.false_eq_true,if_false];exact next
   ·simp only[if_true,show (0:Int)≤(i:Int) by omega,show (i:Int)<(x.length:Int) by omega,show (j:Int)<(x.length:Int) by omega]
    rcases h3 i j hi (by omega) hcf with e|e
    ·exact Ev.ifp e next
    ·refine Ev.ifd (fun _=>next) (fun _=>?_)
     exact Ev.ifp e next
 have key: ∀(d i:Nat),i+d=l.length→Ev (fun k=>impl_IsSafeLights.l0 k l x l (l.length:Int) (i:Int)) true:=by
  intro d
  induction d with
  |zero=>
   intro i hi
   refine Ev.succ ?_
   simp only[impl_IsSafeLights.l0,show¬(i:Int)<(l.length:Int) by omega,if_false]
   exact Ev.now _
  |succ d ih=>
   intro i hi
   refine Ev.succ ?_
   have next:=ih (i+1) (by omega)
   rw[show ((i+1:Nat):Int)=(i:Int)+1 by omega]at next
   have hi2:i<l.length:=by omega
   have hx:=h2 i (by omega)
   have htl:(l.take i).length=i:=by rw[List.length_take];omega
   have hrx:rd x (i:Int)=x[i]'(by omega):=rd_nat _ _ _
   simp only[impl_IsSafeLights.l0,show (i:Int)<(l.length:Int) by omega,show (0:Int)≤(i:Int) by omega,show (i:Int)<(x.length:Int) by omega,if_true,impl_InRange_eq,Option.bind_some,hrx,hx,and_self,decide_true,show (i:Int)≤(l.length:Int) by omega,Int.toNat_natCast,htl,rdT_Path _ _ hi2]
   exact inner i hi2 next i 0 (by omega)
 exact key l.length 0 (by omega)
theorem EvP.ofE{α:Type}{g:Nat→Option α}{v:α}(e:Ev g v):EvP g (fun t=>t=v):=EvP.of e rfl
theorem spec_IsFullStage_ok(l:List S76)(v:List Int)(hl:l.length≤1048576)(hv:v.length≤1048575):EvP (fun k=>spec_IsFullStage.f k l v) (fun _=>True):=by
 unfold spec_IsFullStage.f
 have key: ∀(d i:Nat),i+d=l.length→EvP (fun k=>spec_IsFullStage.l0 k l v (i:Int)) (fun _=>True):=by
  intro d
  induction d with
  |zero=>
   intro i hi
   refine EvP.succ ?_
   simp only[spec_IsFullStage.l0,show¬(i:Int)<(l.length:Int) by omega,if_false]
   refine EvP.bind (EvP.ofE (spec_IsTogether_eq l v hl (by omega))) (fun t _=>EvP.now trivial)
  |succ d ih=>
   intro i hi
   refine EvP.succ ?_
   have next:=ih (i+1) (by omega)
   rw[show ((i+1:Nat):Int)=(i:Int)+1 by omega]at next
   simp only[spec_IsFullStage.l0,show (i:Int)<(l.length:Int) by omega,show (0:Int)≤(i:Int) by omega,if_true,wrap_id (n:=(i:Int)+1) (by omega) (by omega)]
   refine EvP.bind (EvP.ofE (spec_l6Has_eq v _ (by omega))) (fun t _=>?_)
   refine EvP.ifd (fun _=>next) (fun _=>?_)
   refine EvP.bind (EvP.ofE (spec_l6Put_eq v _ (by omega))) (fun q hq=>?_)
   have hql:q.length≤1048576:=by rw[hq];have:=put_length v (rd_T76 l (i:Int)).f0;omega
   refine EvP.bind (EvP.ofE (spec_IsTogether_eq l q hl hql)) (fun t2 _=>?_)
   exact EvP.ifd (fun _=>EvP.now trivial) (fun _=>next)
 exact key l.length 0 (by omega)
theorem spec_l6Search_ok(l:List S76)(hl:l.length≤7): ∀(d i:Nat) (ids:List Int) (o:List (List Int)),i+d=l.length→ids.length≤i→o.length≤40→(∀v∈o,v.length≤7)→EvP (fun k=>spec_l6Search.f k l (i:Int) ids o) (fun t=>t.length≤40∧ ∀v∈t,v.length≤7)
 |0,i,ids,o,hi,h1,h2,h3=>by
  refine EvP.succ ?_
  simp only[spec_l6Search.f,show (i:Int)=(l.length:Int) by omega,if_true]
  refine EvP.ifd (fun _=>?_) (fun _=>EvP.now ⟨h2,h3⟩)
  refine EvP.ifd (fun h4=>?_) (fun _=>EvP.now ⟨h2,h3⟩)
  refine EvP.bind (spec_IsFullStage_ok l ids (by omega) (by omega)) (fun t _=>?_)
  refine EvP.ifd (fun _=>?_) (fun _=>EvP.now ⟨h2,h3⟩)
  simp only[Option.bind_some,List.nil_append,List.length_nil,List.length_cons,show 0+ids.length<17592186044416 by omega,if_true,show o.length+(0+1)<5864062014805 by omega]
  refine EvP.now ⟨by rw[List.length_append,List.length_singleton];omega,fun v hv=>?_⟩
  rcases List.mem_append.1 hv with h|h
  ·exact h3 v h
  ·rw[List.mem_singleton.1 h];omega
 | d+1,i,ids,o,hi,h1,h2,h3=>by
  refine EvP.succ ?_
  have ih:=spec_l6Search_ok l hl d (i+1)
  rw[show ((i+1:Nat):Int)=(i:Int)+1 by omega]at ih
  simp only[spec_l6Search.f,show¬(i:Int)=(l.length:Int) by omega,if_false,Option.bind_some,List.nil_append,List.length_nil,List.length_cons,show 0+ids.length<17592186044416 by omega,if_true,show (0:Int)≤(i:Int) by omega,show (i:Int)<(l.length:Int) by omega,show ids.length+(0+1)<17592186044416 by omega,wrap_id (n:=(i:Int)+1) (by omega) (by omega)]
  refine EvP.bind (EvP.ofE (spec_IsTogether_eq l _ (by omega) (by rw[List.length_append,List.length_singleton];omega))) (fun t _=>?_)
  refine EvP.ifd (fun _=>?_) (fun _=>?_)
  ·refine EvP.bind (ih _ o (by omega) (by rw[List.length_append,List.length_singleton];omega) h2 h3) (fun o2 ho=>?_)
   refine EvP.bind (ih ids o2 (by omega) (by omega) ho.1 ho.2) (fun o3 ho3=>EvP.now ho3)
  ·exact EvP.bind (ih ids o (by omega) (by omega) h2 h3) (fun o3 ho3=>EvP.now ho3)
theorem spec_StagesOf_ok(l:List S76)(hl:l.length≤7):EvP (fun k=>spec_StagesOf.f k l) (fun t=>t.length≤40∧ ∀v∈t,v.length≤7):=by
 unfold spec_StagesOf.f
 refine EvP.bind (EvP.ofE (spec_ArePaths_eq l (by omega))) (fun t _=>?_)
 refine EvP.ifd (fun _=>?_) (fun _=>EvP.now ⟨by simp,by simp⟩)
 exact EvP.bind (spec_l6Search_ok l hl l.length 0 [] [] (by omega) (by simp) (by simp) (by simp)) (fun t h=>EvP.now h)
theorem spec_CanEnd_ok(l:List S76)(s:List Int)(n:Int)(x:List Int)(f:Int)(hl:l.length≤1048576)(hs:s.length≤1048576)(hx:x.length≤1048576):EvP (fun k=>spec_CanEnd.f k l s n x f) (fun _=>True):=by
 unfold spec_CanEnd.f
 refine EvP.bind (EvP.ofE (spec_IsControl_eq l s n x f hl hs hx)) (fun t _=>?_)
 refine EvP.ifd (fun _=>?_) (fun _=>EvP.now trivial)
 refine EvP.ifd (fun _=>?_) (fun _=>EvP.now trivial)
 exact EvP.bind (EvP.ofE (spec_LeastGreen_eq l s hl hs)) (fun t _=>EvP.now trivial)
theorem spec_AskStage_ok(l:List S76)(s:List Int)(n:Int)(x:List Int)(f:Int)(v:List Int)(hl:l.length≤1048576)(hs:s.length≤1048576)(hx:x.length≤1048576)(hv:v.length≤1048576):EvP (fun k=>spec_AskStage.f k l s n x f v) (fun t=>t.1.length≤1048576∧t.2.2.1.length≤1048576):=by
 unfold spec_AskStage.f
 simp only[spec_l14Copy_eq s n x f hs hx,Option.bind_some]
 have j1: ∀b:Bool,EvP (fun k=>spec_AskStage.j0 k l v b s n x f s n x f) (fun t=>t.1.length≤1048576∧t.2.2.1.length≤1048576):=by
  intro b
  refine EvP.succ ?_
  simp only[spec_AskStage.j0]
  refine EvP.ifd (fun _=>EvP.now ⟨hs,hx⟩) (fun _=>?_)
  refine EvP.bind (EvP.ofE (spec_ClearBetween_eq l s v hl hs hv)) (fun t _=>?_)
  refine EvP.ifd (fun _=>?_) (fun _=>?_)
  ·simp only[Option.bind_some,List.nil_append,List.length_nil,show 0+v.length<17592186044416 by omega,if_true]
   exact EvP.now ⟨hv,by simp⟩
  ·simp only[Option.bind_some,List.nil_append,List.length_nil,show 0+v.length<17592186044416 by omega,if_true]
   exact EvP.now ⟨hs,hv⟩
 refine EvP.bind (spec_CanEnd_ok l s n x f hl hs hx) (fun t _=>?_)
 refine EvP.ifd (fun _=>?_) (fun _=>j1 _)
 refine EvP.ifd (fun _=>j1 _) (fun _=>?_)
 refine EvP.bind (EvP.ofE (spec_IsTogether_eq l v hl hv)) (fun t _=>?_)
 refine EvP.ifd (fun _=>?_) (fun _=>j1 _)
 exact EvP.bind (EvP.ofE (spec_EqualInts_eq v s hv)) (fun t _=>j1 _)
theorem spec_l14Draw_ok(b:List Int)(i h:Int)(l:List S76)(hc:Cur b i)(hl:l.length≤7):EvP (fun k=>spec_l14Draw.f k b i h l) (fun t=>t.1.length≤1048576∧t.2.2.1.length≤1048576∧Cur b t.2.2.2.2.1):=by
 unfold spec_l14Draw.f
 refine EvP.bind (spec_StagesOf_ok l hl) (fun S hS=>?_)
 refine EvP.ifd (fun _=>EvP.now ⟨by simp,by simp,hc⟩) (fun h0=>?_)
 have hrd: ∀q:Int,(rd_L4 S q).length≤7:=by
  intro q
  unfold rd_L4
  rw[List.getD_eq_getElem?_getD]
  cases hq:S[q.toNat]? with
  |none=>simp
  |some v=>exact hS.2 v (List.mem_of_getElem? hq)
 simp only[Option.bind_some,List.nil_append,List.length_nil]
 have loop: ∀(d:Nat) (s:List Int) (n:Int) (x:List Int) (f i h:Int),s.length≤1048576→x.length≤1048576→Cur b i→d≤10→EvP (fun k=>spec_l14Draw.l0 k l (d:Int) b i h s n x f) (fun t=>t.1.length≤1048576∧t.2.2.1.length≤1048576∧Cur b t.2.2.2.2.1):=by
  intro d
  induction d with
  |zero=>
   intro s n x f i h hs hx hc hd
   refine EvP.succ ?_
   simp only[spec_l14Draw.l0,show¬((0:Nat):Int)>0 by omega,if_false]
   exact EvP.now ⟨hs,hx,hc⟩
  |succ d ih=>
   intro s n x f i h hs hx hc hd
   refine EvP.succ ?_
   simp only[spec_l14Draw.l0,show ((d+1:Nat):Int)>0 by omega,if_true,show ((d+1:Nat):Int)-1=(d:Int) by omega,wrap_id (n:=(d:Int)) (by omega) (by omega)]
   refine EvP.bind (EvP.ofE (spec_TickControl_eq l s n x f (by omega) hs hx)) (fun t ht=>?_)
   have:=tick_len l s n x f hs hx
   rw[←ht]at this
   exact ih _ _ _ _ i h this.1 this.2 hc (by omega)
 refine EvP.bindD (spec_l1Below_ok b i h _ hc) (fun t1 g1=>?_)
 have e1:=g1.2.1 (by omega)
 have hr1:=hrd t1.1
 simp only[e1.1,e1.2,if_true,show 0+(rd_L4 S t1.1).length<17592186044416 by omega]
 refine EvP.bindD (spec_l1Below_ok b _ _ _ g1.2.2) (fun t2 g2=>?_)
 refine EvP.bindD (spec_l1Once_ok b _ _ _ g2.2.2) (fun t3 g3=>?_)
 refine EvP.ifd (fun _=>?_) (fun _=>EvP.now ⟨by show (rd_L4 S t1.1).length≤1048576;omega,by simp,g3⟩)
 refine EvP.bindD (spec_l1Below_ok b _ _ _ g3) (fun t4 g4=>?_)
 have e4:=g4.2.1 (by omega)
 have hr4:=hrd t4.1
 simp only[e4.1,e4.2,if_true]
 refine EvP.bind (spec_AskStage_ok l _ _ [] 0 _ (by omega) (by omega) (by simp) (by omega)) (fun t5 g5=>?_)
 refine EvP.bindD (spec_l1Below_ok b _ _ 3 g4.2.2) (fun t6 g6=>?_)
 have e6:=g6.2.1 (by omega)
 have:=loop t6.1.toNat t5.1 t5.2.1 t5.2.2.1 t5.2.2.2.1 t6.2.1 t6.2.2 g5.1 g5.2 g6.2.2 (by omega)
 rw[Int.toNat_of_nonneg e6.1]at this
 exact this
theorem spec_l14Any_ok(b:List Int)(i h:Int)(hc:Cur b i):EvP (fun k=>spec_l14Any.f k b i h) (fun t=>t.1.length≤7∧t.2.1.length≤1048576∧t.2.2.2.1.length≤1048576∧Cur b t.2.2.2.2.2.1):=by
 unfold spec_l14Any.f
 refine EvP.bind (spec_l5Any_ok b i h hc) (fun t ht=>?_)
 refine EvP.bind (spec_l14Draw_ok b _ _ _ ht.2 ht.1) (fun t1 g1=>?_)
 refine EvP.bindD (spec_l1Below_ok b _ _ _ g1.2.2) (fun t2 g2=>?_)
 refine EvP.ifd (fun _=>?_) (fun _=>?_)
 ·refine EvP.bindD (spec_l1Int_cur _ _ _ _ g2.2.2 (by simp)) (fun t3 g3=>?_)
  exact EvP.now ⟨ht.1,g1.1,g1.2.1,g3⟩
 refine EvP.ifd (fun _=>?_) (fun _=>?_)
 ·refine EvP.bindD (spec_l1Int_cur _ _ _ _ g2.2.2 (by simp)) (fun t3 g3=>?_)
  exact EvP.now ⟨ht.1,g1.1,g1.2.1,g3⟩
 refine EvP.ifd (fun _=>EvP.now ⟨ht.1,g1.1,by simp,g2.2.2⟩) (fun _=>?_)
 exact EvP.ifd (fun _=>EvP.now ⟨ht.1,by simp,g1.2.1,g2.2.2⟩) (fun _=>EvP.now ⟨ht.1,g1.1,g1.2.1,g2.2.2⟩)
theorem lights_rd{l:List S76}{s:List Int}{n:Int}{x:List Int}{f:Int}(h:isControl l s n x f=true)(i:Nat)(hi:i<l.length):rd (lightsOf l s n x f) (i:Int)=light s x l[i].f0:=by
 unfold lightsOf
 rw[if_pos h,rd_nat _ _ (by rw[List.length_map];exact hi),List.getElem_map]
theorem lights_safe{l:List S76}{s:List Int}{n:Int}{x:List Int}{f:Int}(h:isControl l s n x f=true):lightsSafe l (lightsOf l s n x f):=by
 have ha:=isControl_paths h
 have ht:=(isControl_parts h).1
 have hlen:(lightsOf l s n x f).length=l.length:=by unfold lightsOf;rw[if_pos h,List.length_map]
 refine⟨hlen,fun i hi=>?_,fun i j hi hj hc=>?_⟩
 ·have e:=lights_rd h i (by omega)
  rw[rd_nat _ _ hi]at e
  rw[e]
  unfold light
  split
  ·split
   ·split<;>omega
   ·omega
  ·omega
 ·rw [lights_rd h i hi,lights_rd h j (by omega)]
  by_cases h1:l[i].f0∈s
  ·by_cases h2:(l[j]'(by omega)).f0∈s
   ·have hlt:(l[j]'(by omega)).f0<l[i].f0:=by
     have:=ids_lt ha (i-j-1) j (by omega)
     have e:j+(i-j-1)+1=i:=by omega
     simp only[e]at this
     exact this
    have hf:=together_conf ht h1 h2 hlt
    unfold confAt at hf
    rw[findP_self ha i hi,findP_self ha j (by omega),rdT_Path _ _ hi,rdT_Path _ _ (show j<l.length by omega),hc]at hf
    cases hf
   ·right;unfold light;simp[h2]
  ·left;unfold light;simp[h1]
theorem impl_EqualControls_self(s:List Int)(n:Int)(x:List Int)(f:Int)(hs:s.length≤1048576)(hx:x.length≤1048576):Ev (fun k=>impl_EqualControls.f k s n x f s n x f) true:=by
 unfold impl_EqualControls.f
 simp only[if_true]
 refine Ev.bind (slices_Equal_eq s s hs) ?_
 rw[decide_eq_true rfl];simp only[if_true]
 refine Ev.bind (slices_Equal_eq x x hx) ?_
 exact evq (Ev.now _) (by simp)
def wantAt(l:List S76)(w:List S81)(i:Nat):Bool:=decide (0≤findP l (rd_T81 w (i:Int)).f0)&&decide (0≤(rd_T81 w (i:Int)).f1∧(rd_T81 w (i:Int)).f1≤100000)&&(decide (i=0)||!decide ((rd_T81 w (i:Int)).f0≤(rd_T81 w ((i:Int)-1)).f0))
def areWants(l:List S76)(w:List S81):Bool:=(List.range w.length).all (wantAt l w)&&arePaths l
theorem areWants_at{l:List S76}{w:List S81}(h:areWants l w=true){y:S81}(hy:y∈w):0≤findP l y.f0∧0≤y.f1∧y.f1≤100000:=by
 obtain⟨i,hi,rfl⟩:=List.getElem_of_mem hy
 unfold areWants at h
 simp only[Bool.and_eq_true,List.all_eq_true,List.mem_range]at h
 have:=h.1 i hi
 unfold wantAt at this
 rw[rdT_Want _ _ hi]at this
 simp only[Bool.and_eq_true,decide_eq_true_eq]at this
 exact⟨this.1.1,this.1.2.1,this.1.2.2⟩
theorem impl_AreWants_eq(l:List S76)(w:List S81)(hl:l.length≤1048576)(hw:w.length≤1048576):Ev (fun k=>impl_AreWants.f k l w) (areWants l w):=by
 unfold impl_AreWants.f areWants
 refine Ev.bind (impl_ArePaths_eq l hl) ?_
 cases arePaths l
 ·simp only[Bool.false_eq_true,if_false,Bool.and_false];exact Ev.now _
 simp only[if_true,Bool.and_true]
 refine Ev.all (g:=fun k i=>impl_AreWants.l0 k l w w (w.length:Int) i) w.length _ (fun i r hi hP hr=>?_) (fun i hi hP=>?_) ?_
 ·refine Ev.succ ?_
  unfold wantAt at hP
  simp only[Bool.and_eq_true,Bool.or_eq_true,Bool.not_eq_true',decide_eq_true_eq,decide_eq_false_iff_not]at hP
  obtain⟨⟨h1,h2⟩,h3⟩:=hP
  simp only[impl_AreWants.l0,show (i:Int)<(w.length:Int) by omega,show (0:Int)≤(i:Int) by omega,if_true,wrap_id (n:=(i:Int)+1) (by omega) (by omega),impl_FindPath_eq,Option.bind_some,show¬findP l (rd_T81 w (i:Int)).f0<0 by omega,if_false,impl_InRange_eq,h2,and_self,decide_true]
  by_cases h0:(i:Int)>0
  ·have h4:=h3.resolve_left (by omega)
   simp only[h0,if_true,wrap_id (n:=(i:Int)-1) (by omega) (by omega),show (0:Int)≤(i:Int)-1 by omega,show (i:Int)-1<(w.length:Int) by omega,h4,if_false]
   exact hr
  ·simp only[h0,if_false];exact hr
 ·refine Ev.succ ?_
  simp only[impl_AreWants.l0,show (i:Int)<(w.length:Int) by omega,show (0:Int)≤(i:Int) by omega,if_true,impl_FindPath_eq,Option.bind_some]
  by_cases h1:findP l (rd_T81 w (i:Int)).f0<0
  ·simp only[h1,if_true];exact Ev.now _
  simp only[h1,if_false,impl_InRange_eq,Option.bind_some]
  by_cases h2:0≤(rd_T81 w (i:Int)).f1∧(rd_T81 w (i:Int)).f1≤100000
  ·unfold wantAt at hP
   simp only[show 0≤findP l (rd_T81 w (i:Int)).f0 by omega,h2,and_self,decide_true,Bool.true_and,Bool.or_eq_false_iff,decide_eq_false_iff_not,Bool.not_eq_false',decide_eq_true_eq]at hP
   simp only[h2,and_self,decide_true,if_true,show (i:Int)>0 by omega,wrap_id (n:=(i:Int)-1) (by omega) (by omega),show (0:Int)≤(i:Int)-1 by omega,show (i:Int)-1<(w.length:Int) by omega,hP.2]
   exact Ev.now _
  ·simp only[h2,decide_false,Bool.false_eq_true,if_false];exact Ev.now _
 ·refine Ev.succ ?_
  simp only[impl_AreWants.l0,Int.lt_irrefl,if_false]
  exact Ev.now _
def lwStep(s:List Int)(b:Option S81)(x:S81):Option S81:=if x.f0∈s then b else match b with
 |none=>some x
 |some y=>if x.f1>y.f1 then some x else some y
def lwOf:Option S81→Int
 |none=>0
 |some y=>y.f0
def longest(w:List S81)(s:List Int):Int:=lwOf (w.foldl (lwStep s) none)
theorem impl_LongestWant_eq(w:List S81)(s:List Int)(hw:w.length≤1048576)(hs:s.length≤1048576):Ev (fun k=>impl_LongestWant.f k w s) (longest w s):=by
 unfold impl_LongestWant.f longest
 have key: ∀(d i:Nat) (b:Option S81),i+d=w.length→Ev (fun k=>impl_LongestWant.l0 k s b.isSome w (w.length:Int) (i:Int) (lwOf b) (b.elim 0 (fun y=>y.f1))) (lwOf ((w.drop i).foldl (lwStep s) b)):=by
  intro d
  induction d with
  |zero=>
   intro i b hi
   refine Ev.succ ?_
   simp only[impl_LongestWant.l0,show¬(i:Int)<(w.length:Int) by omega,if_false]
   exact evq (Ev.now _) (by rw[List.drop_eq_nil_of_le (show w.length≤i by omega)];rfl)
  | succ d ih=>
   intro i b hi
   refine Ev.succ ?_
   have hi2:i<w.length:=by omega
   have next:=ih (i+1) (lwStep s b w[i]) (by omega)
   rw[show ((i+1:Nat):Int)=(i:Int)+1 by omega]at next
   rw[List.drop_eq_getElem_cons hi2,List.foldl_cons]
   simp only[impl_LongestWant.l0,show (i:Int)<(w.length:Int) by omega,show (0:Int)≤(i:Int) by omega,if_true,rdT_Want _ _ hi2,wrap_id (n:=(i:Int)+1) (by omega) (by omega)]
   refine Ev.bind (slices_Contains_eq s _ (by omega)) ?_
   unfold lwStep at next⊢
   by_cases h1:w[i].f0∈s
   ·simp only[h1,if_true]at next
    simp only[h1,decide_true,if_true];exact next
   ·simp only[h1,if_false]at next
    simp only[h1,decide_false,Bool.false_eq_true,if_false]
    cases b with
    |none=>simp only[Option.isSome_none,Bool.false_eq_true,if_false];exact next
    |some y=>
     simp only[Option.isSome_some,if_true,Option.elim_some]
     by_cases h2:w[i].f1>y.f1
     ·simp only[h2,if_true]at next⊢;exact next
     ·simp only[h2,if_false]at next⊢;exact next
 exact key w.length 0 none (by omega)
theorem together_asc{l:List S76}{v:List Int}(h:together l v=true):v.Pairwise (· < ·):=by
 unfold together at h
 simp only[Bool.and_eq_true,List.all_eq_true,List.mem_range]at h
 have step: ∀i,i+1<v.length→rd v (i:Int)<rd v ((i:Int)+1):=by
  intro i hi
  have:=h.1 (i+1) hi
  unfold tgAt at this
  simp only[Bool.and_eq_true,Bool.or_eq_true,Bool.not_eq_true',decide_eq_true_eq,decide_eq_false_iff_not]at this
  have h2:=this.1.2.resolve_left (by omega)
  rw[show ((i+1:Nat):Int)-1=(i:Int) by omega,show ((i+1:Nat):Int)=(i:Int)+1 by omega]at h2
  omega
 rw[List.pairwise_iff_getElem]
 intro i j hi hj hij
 have key: ∀d,∀j,j=i+1+d→(hj:j<v.length)→rd v (i:Int)<rd v (j:Int):=by
  intro d
  induction d with
  |zero=>intro j hj1 hj2;subst hj1;have:=step i hj2;simpa using this
  |succ d ih=>
   intro j hj1 hj2
   have h1:=ih (i+1+d) rfl (by omega)
   have h2:=step (i+1+d) (by omega)
   rw[show ((i+1+d:Nat):Int)+1=(j:Int) by omega]at h2
   omega
 have:=key (j-i-1) j (by omega) hj
 rwa [rd_nat _ _ hi,rd_nat _ _ hj]at this
def addStep(l:List S76)(o:List Int)(p:S76):List Int:=if together l (put o p.f0)=true then put o p.f0 else o
def addTo(l:List S76)(v:List Int):List Int:=if together l v=true then l.foldl (addStep l) v else v
theorem addStep_len(l:List S76)(o:List Int)(p:S76):(addStep l o p).length≤o.length+1:=by
 unfold addStep
 have:=put_length o p.f0
 split<;>omega
theorem addStep_tog{l:List S76}{o:List Int}(h:together l o=true)(p:S76):together l (addStep l o p)=true:=by
 unfold addStep
 split
 ·assumption
 ·exact h
theorem addStep_mem{l:List S76}{o:List Int}(p:S76){x:Int}(h:x∈o):x∈addStep l o p:=by
 unfold addStep
 split
 ·exact(put_mem _ _ _).2 (.inr h)
 ·exact h
theorem addFold(l:List S76): ∀(ps:List S76) (o:List Int),together l o=true→together l (ps.foldl (addStep l) o)=true∧(ps.foldl (addStep l) o).length≤o.length+ps.length∧ ∀x∈o,x∈ps.foldl (addStep l) o
 |[],o,h=>⟨h,Nat.le_refl _,fun _ h=>h⟩
 |p::ps,o,h=>by
  obtain⟨h1,h2,h3⟩:=addFold l ps (addStep l o p) (addStep_tog h p)
  have:=addStep_len l o p
  exact⟨h1,by rw[List.length_cons];show (ps.foldl (addStep l) (addStep l o p)).length≤_;omega,fun x hx=>h3 x (addStep_mem p hx)⟩
theorem addTo_len(l:List S76)(v:List Int):(addTo l v).length≤v.length+12:=by
 unfold addTo
 split
 ·rename_i h
  have:=(addFold l l v h).2.1
  have:=arePaths_len (together_arePaths h)
  omega
 ·omega
theorem addTo_tog{l:List S76}{v:List Int}(h:together l v=true):together l (addTo l v)=true∧ ∀x∈v,x∈addTo l v:=by
 unfold addTo
 rw[if_pos h]
 exact⟨(addFold l l v h).1,(addFold l l v h).2.2⟩
def pos:List Int→Int→Nat
 |[],_=>0
 |a::l,x=>if a<x then pos l x+1 else 0
theorem pos_le: ∀(l:List Int) (x:Int),pos l x≤l.length
 |[],_=>Nat.le_refl _
 |a::l,x=>by
  have:=pos_le l x
  unfold pos
  split<;>simp<;>omega
theorem pos_lt: ∀(l:List Int) (x:Int) (i:Nat) (h:i<l.length),i<pos l x→l[i]<x
 | a::l,x,i,h,hp=>by
  unfold pos at hp
  split at hp
  ·cases i with
   |zero=>assumption
   |succ i=>exact pos_lt l x i (by simpa using h) (by omega)
  ·omega
theorem pos_ge: ∀(l:List Int) (x:Int) (i:Nat) (h:i<l.length),l.Pairwise (· < ·)→pos l x≤i→x≤l[i]
 | a::l,x,i,h,hs,hp=>by
  obtain⟨h1,h2⟩:=List.pairwise_cons.1 hs
  unfold pos at hp
  split at hp
  ·cases i with
   |zero=>omega
   |succ i=>exact pos_ge l x i (by simpa using h) h2 (by omega)
  ·rename_i hn
   cases i with
   |zero=>show x≤a;omega
   |succ i=>
    have:=h1 (l[i]'(by simpa using h)) (List.getElem_mem _)
    show x≤l[i]'(by simpa using h)
    omega
theorem put_pos: ∀(l:List Int) (x:Int),x∉l→put l x=l.take (pos l x)++x::l.drop (pos l x)
 |[],x,_=>rfl
 |a::l,x,h=>by
  have ih:=put_pos l x (fun hm=>h (List.mem_cons_of_mem _ hm))
  unfold put pos
  by_cases h1:a<x
  ·rw[if_pos h1,if_pos h1,ih];rfl
  ·rw[if_neg h1,if_neg h1,if_neg (fun(e:a=x)=>h (by rw[e];exact List.mem_cons_self))];rfl
theorem cmp_Less_eq(a b:Int):cmp_Less_int.f a b=some (decide (a<b)):=by
 unfold cmp_Less_int.f cmp_isNaN_int.f
 simp
theorem slices_BinarySearch_eq(v:List Int)(x:Int)(hv:v.length≤1048576)(hs:v.Pairwise (· < ·)): ∃b,Ev (fun k=>slices_BinarySearch_int_int.f k v x) ((pos v x:Int),b):=by
 unfold slices_BinarySearch_int_int.f
 have hp:=pos_le v x
 refine⟨if pos v x<v.length then decide (rd v (pos v x:Int)=x)else false,?_⟩
 have key: ∀(d a b:Nat),b≤a+d→a≤pos v x→pos v x≤b→b≤v.length→Ev (fun k=>slices_BinarySearch_int_int.l0 k v x (v.length:Int) (a:Int) (b:Int)) ((pos v x:Int),if pos v x<v.length then decide (rd v (pos v x:Int)=x)else false):=by
  intro d
  induction d with
  | zero=>
   intro a b hd h1 h2 h3
   refine Ev.succ ?_
   obtain rfl:a=pos v x:=by omega
   simp only[slices_BinarySearch_int_int.l0,show¬((pos v x:Nat):Int)<(b:Int) by omega,if_false]
   by_cases h:pos v x<v.length
   ·simp only[show ((pos v x:Nat):Int)<(v.length:Int) by omega,show (0:Int)≤((pos v x:Nat):Int) by omega,h,if_true]
    by_cases h4:rd v (pos v x:Int)=x
    ·simp only[h4,if_true,decide_true];exact Ev.now _
    ·simp only[h4,if_false,decide_false,slices_isNaN_int.f,bne_self_eq_false,Option.bind_some,Bool.false_eq_true];exact Ev.now _
   ·simp only[show¬((pos v x:Nat):Int)<(v.length:Int) by omega,h,if_false];exact Ev.now _
  | succ d ih=>
   intro a b hd h1 h2 h3
   by_cases hab:a<b
   ·refine Ev.succ ?_
    have hm:wrap64 ((IntKind.u64.wrap (wrap64 ((a:Int)+(b:Int))))/2)=(((a+b)/2:Nat):Int):=by
     rw[wrap_id (n:=(a:Int)+(b:Int)) (by omega) (by omega),show IntKind.u64.wrap ((a:Int)+(b:Int))=(a:Int)+(b:Int) by simp[IntKind.wrap,IntKind.bits,IntKind.signed];omega,wrap_id (by omega) (by omega)]
     omega
    have hh:(a+b)/2<v.length:=by omega
    simp only[slices_BinarySearch_int_int.l0,show (a:Int)<(b:Int) by omega,if_true,hm,show (0:Int)≤(((a+b)/2:Nat):Int) by omega,show (((a+b)/2:Nat):Int)<(v.length:Int) by omega,cmp_Less_eq,Option.bind_some,rd_nat _ _ hh,wrap_id (n:=(((a+b)/2:Nat):Int)+1) (by omega) (by omega)]
    by_cases h:v[(a+b)/2]<x
    ·simp only[h,decide_true,if_true]
     rw[show (((a+b)/2:Nat):Int)+1=(((a+b)/2+1:Nat):Int) by omega]
     refine ih _ b (by omega) ?_ h2 h3
     refine Classical.byContradiction (fun hn=>?_)
     have:=pos_ge v x ((a+b)/2) hh hs (by omega)
     omega
    ·simp only[h,decide_false,Bool.false_eq_true,if_false]
     refine ih a _ (by omega) h1 ?_ (by omega)
     refine Classical.byContradiction (fun hn=>?_)
     have:=pos_lt v x ((a+b)/2) hh (by omega)
     omega
   ·exact ih a b (by omega) h1 h2 h3
 have:=key v.length 0 v.length (by omega) (by omega) hp (Nat.le_refl _)
 exact this
theorem impl_inserted_eq(v:List Int)(x:Int)(hv:v.length≤1048576)(hs:v.Pairwise (· < ·))(hx:x∉v):Ev (fun k=>impl_inserted.f k v x) (put v x):=by
 unfold impl_inserted.f
 obtain⟨b,h⟩:=slices_BinarySearch_eq v x hv hs
 refine Ev.bind h ?_
 have:=pos_le v x
 rw[if_pos (show v.length<17592186044416∧(0:Int)≤((pos v x:Nat):Int)∧((pos v x:Nat):Int)≤(v.length:Int)from ⟨by omega,by omega,by omega⟩),Int.toNat_natCast,←put_pos v x hx]
 exact Ev.now _
theorem put_in: ∀(v:List Int) (x:Int),v.Pairwise (· < ·)→x∈v→put v x=v
 | a::v,x,hs,hx=>by
  obtain⟨h1,h2⟩:=List.pairwise_cons.1 hs
  unfold put
  rcases List.mem_cons.1 hx with rfl|hm
  ·rw[if_neg (by omega),if_pos rfl]
  ·have:=h1 x hm
   rw[if_pos this,put_in v x h2 hm]
theorem impl_AddToStage_eq(l:List S76)(v:List Int)(hl:l.length≤1048576)(hv:v.length≤1000000):Ev (fun k=>impl_AddToStage.f k l v) (addTo l v):=by
 unfold impl_AddToStage.f addTo
 simp only[slices_Clone_eq v (by omega),Option.bind_some]
 refine Ev.bind (impl_IsTogether_eq l v (by omega) (by omega)) ?_
 cases ht:together l v
 ·simp only[Bool.false_eq_true,if_false];exact Ev.now _
 simp only[if_true]
 have h12:=arePaths_len (together_arePaths ht)
 have key: ∀(d i:Nat) (o:List Int),i+d=l.length→o.length≤v.length+i→together l o=true→Ev (fun k=>impl_AddToStage.l0 k l o l (l.length:Int) (i:Int)) ((l.drop i).foldl (addStep l) o):=by
  intro d
  induction d with
  |zero=>
   intro i o hi ho hto
   refine Ev.succ ?_
   simp only[impl_AddToStage.l0,show¬(i:Int)<(l.length:Int) by omega,if_false]
   exact evq (Ev.now _) (by rw[List.drop_eq_nil_of_le (show l.length≤i by omega),List.foldl_nil])
  | succ d ih=>
   intro i o hi ho hto
   refine Ev.succ ?_
   have hi2:i<l.length:=by omega
   have next:=fun o ho hto=>ih (i+1) o (by omega) ho hto
   rw[show ((i+1:Nat):Int)=(i:Int)+1 by omega]at next
   have hp:=put_length o l[i].f0
   rw[List.drop_eq_getElem_cons hi2,List.foldl_cons]
   simp only[impl_AddToStage.l0,if_true,show (0:Int)≤(i:Int) by omega,show (i:Int)<(l.length:Int) by omega,rdT_Path _ _ hi2,wrap_id (n:=(i:Int)+1) (by omega) (by omega)]
   refine Ev.bind (slices_Contains_eq o _ (by omega)) ?_
   by_cases hm:l[i].f0∈o
   ·simp only[hm,decide_true,if_true]
    have e:addStep l o l[i]=o:=by unfold addStep;rw[put_in o _ (together_asc hto) hm,ite_self]
    rw[e];exact next _ (by omega) hto
   ·simp only[hm,decide_false,Bool.false_eq_true,if_false]
    refine Ev.bind (impl_inserted_eq o _ (by omega) (together_asc hto) hm) ?_
    refine Ev.bind (impl_IsTogether_eq l _ (by omega) (by omega)) ?_
    by_cases h:together l (put o l[i].f0)=true
    ·have e:addStep l o l[i]=put o l[i].f0:=if_pos h
     simp only[h,if_true,e];exact next _ (by omega) h
    ·have e:addStep l o l[i]=o:=if_neg h
     rw[Bool.not_eq_true]at h
     simp only[h,Bool.false_eq_true,if_false,e];exact next _ (by omega) hto
 exact key l.length 0 v (by omega) (by omega) ht
def askStage(l:List S76)(s:List Int)(n:Int)(x:List Int)(f:Int)(g:List Int):List Int×Int×List Int×Int×Bool:=if(canEnd l s n x f&&!decide (g.length=0)&&together l g&&!decide (g=s))=true then(if clearBetween l s g=0 then(g,0,[],0,true)else(s,n,g,clearBetween l s g,true))else(s,n,x,f,false)
theorem askStage_len(l:List S76)(s:List Int)(n:Int)(x:List Int)(f:Int)(g:List Int)(hs:s.length≤1048576)(hx:x.length≤1048576)(hg:g.length≤1048576):(askStage l s n x f g).1.length≤1048576∧(askStage l s n x f g).2.2.1.length≤1048576:=by
 unfold askStage
 split
 ·split
  ·exact⟨hg,by simp⟩
  ·exact⟨hs,hg⟩
 ·exact⟨hs,hx⟩
theorem askStage_control{l:List S76}{s:List Int}{n:Int}{x:List Int}{f:Int}(g:List Int)(h:isControl l s n x f=true):isControl l (askStage l s n x f g).1 (askStage l s n x f g).2.1 (askStage l s n x f g).2.2.1 (askStage l s n x f g).2.2.2.1=true:=by
 obtain⟨h1,h2,h3,h4,h5,h6⟩:=isControl_parts h
 unfold askStage
 split
 ·rename_i hc
  simp only[Bool.and_eq_true,Bool.not_eq_true',decide_eq_false_iff_not]at hc
  split
  ·exact isControl_new hc.1.2 hc.1.1.2
  ·have hb:=clearBetween_bd l s g
   exact isControl_of h1 hc.1.2 h3 h4 (fun h=>absurd h hc.1.1.2) (fun _=>⟨by dsimp only;omega,Int.le_refl _⟩)
 ·exact h
theorem impl_AskStage_eq(l:List S76)(s:List Int)(n:Int)(x:List Int)(f:Int)(g:List Int)(hl:l.length≤1048576)(hs:s.length≤1048576)(hx:x.length≤1048576)(hg:g.length≤1048576):Ev (fun k=>impl_AskStage.f k l s n x f g) (askStage l s n x f g):=by
 have hj1: ∀r,r=(s,n,x,f,false)→Ev (fun k=>impl_AskStage.j0 k l g true s n x f s n x f) r:=by
  rintro r rfl
  refine Ev.succ ?_
  simp only[impl_AskStage.j0,if_true];exact Ev.now _
 have hcb:=clearBetween_bd l s g
 have hj0:Ev (fun k=>impl_AskStage.j0 k l g false s n x f s n x f) (if clearBetween l s g=0 then(g,0,[],0,true)else(s,n,g,clearBetween l s g,true)):=by
  refine Ev.succ ?_
  simp only[impl_AskStage.j0,Bool.false_eq_true,if_false]
  refine Ev.bind (impl_ClearBetween_eq l s g hl hs hg) ?_
  by_cases h:clearBetween l s g=0
  ·simp only[h,if_true,show¬((0:Int)>0) by omega,if_false,slices_Clone_eq g hg,Option.bind_some];exact Ev.now _
  ·simp only[h,if_false,show clearBetween l s g>0 by omega,if_true,slices_Clone_eq g hg,Option.bind_some];exact Ev.now _
 unfold impl_AskStage.f askStage
 simp only[impl_cloneControl_eq s n x f hs hx,Option.bind_some]
 refine Ev.bind (impl_CanEnd_eq l s n x f hl hs hx) ?_
 cases canEnd l s n x f
 ·simp only[Bool.false_eq_true,if_false,Bool.false_and];exact hj1 _ rfl
 simp only[if_true,Bool.true_and]
 by_cases h0:g.length=0
 ·simp only[h0,show ((0:Nat):Int)=0 from rfl,if_true,decide_true,Bool.not_true,Bool.false_and,Bool.false_eq_true,if_false];exact hj1 _ rfl
 simp only[h0,show¬(g.length:Int)=0 by omega,if_false,decide_false,Bool.not_false,Bool.true_and]
 refine Ev.bind (impl_IsTogether_eq l g hl hg) ?_
 cases together l g
 ·simp only[Bool.false_eq_true,if_false,Bool.false_and];exact hj1 _ rfl
 simp only[if_true,Bool.true_and]
 refine Ev.bind (slices_Equal_eq g s hg) ?_
 by_cases h:g=s
 ·rw[decide_eq_true h];simp only[Bool.not_true,Bool.false_eq_true,if_false];exact hj1 _ rfl
 ·rw[decide_eq_false h];simp only[Bool.not_false,if_true];exact hj0
def nextStage(l:List S76)(s:List Int)(n:Int)(x:List Int)(f:Int)(w:List S81):List Int:=if(!decide (longest w s=0)&&isControl l s n x f&&areWants l w)=true then addTo l [longest w s]else []
theorem nextStage_len(l:List S76)(s:List Int)(n:Int)(x:List Int)(f:Int)(w:List S81):(nextStage l s n x f w).length≤13:=by
 unfold nextStage
 have:=addTo_len l [longest w s]
 rw[List.length_singleton]at this
 split
 ·omega
 ·simp
theorem impl_NextStage_eq(l:List S76)(s:List Int)(n:Int)(x:List Int)(f:Int)(w:List S81)(hl:l.length≤1048576)(hs:s.length≤1048576)(hx:x.length≤1048576)(hw:w.length≤1048576):Ev (fun k=>impl_NextStage.f k l s n x f w) (nextStage l s n x f w):=by
 unfold impl_NextStage.f nextStage
 refine Ev.bind (impl_LongestWant_eq w s hw hs) ?_
 by_cases h:longest w s=0
 ·simp only[h,if_true,decide_true,Bool.not_true,Bool.false_and,Bool.false_eq_true,if_false];exact Ev.now _
 simp only[h,if_false,decide_false,Bool.not_false,Bool.true_and]
 refine Ev.bind (impl_IsControl_eq l s n x f (by omega) hs hx) ?_
 cases isControl l s n x f
 ·simp only[Bool.false_eq_true,if_false,Bool.false_and];exact Ev.now _
 simp only[if_true,Bool.true_and]
 refine Ev.bind (impl_AreWants_eq l w (by omega) hw) ?_
 cases areWants l w
 ·simp only[Bool.false_eq_true,if_false];exact Ev.now _
 simp only[if_true]
 exact Ev.bind (impl_AddToStage_eq l _ hl (by simp)) (Ev.now _)
def mustChange(l:List S76)(s:List Int)(n:Int)(x:List Int)(f:Int)(w:List S81):Bool:=canEnd l s n x f&&!decide ((nextStage l s n x f w).length=0)&&(decide (n≥60)||!w.any (fun y=>decide (y.f0∈s)))
theorem impl_MustChange_eq(l:List S76)(s:List Int)(n:Int)(x:List Int)(f:Int)(w:List S81)(hl:l.length≤1048576)(hs:s.length≤1048576)(hx:x.length≤1048576)(hw:w.length≤1048576):Ev (fun k=>impl_MustChange.f k l s n x f w) (mustChange l s n x f w):=by
 unfold impl_MustChange.f mustChange
 refine Ev.bind (impl_CanEnd_eq l s n x f (by omega) hs hx) ?_
 cases canEnd l s n x f
 ·simp only[Bool.false_eq_true,if_false,Bool.false_and];exact Ev.now _
 simp only[if_true,Bool.true_and]
 refine Ev.bind (impl_NextStage_eq l s n x f w hl hs hx hw) ?_
 by_cases h0:(nextStage l s n x f w).length=0
 ·simp only[h0,show ((0:Nat):Int)=0 from rfl,if_true,decide_true,Bool.not_true,Bool.false_and];exact Ev.now _
 simp only[h0,show¬((nextStage l s n x f w).length:Int)=0 by omega,if_false,decide_false,Bool.not_false,Bool.true_and]
 by_cases h1:n≥60
 ·simp only[h1,if_true,decide_true,Bool.true_or];exact Ev.now _
 ·simp only[h1,if_false,decide_false,Bool.false_or,impl_Want_118.f,Option.bind_some,fidx_any];exact Ev.now _
def asked(l:List S76)(s:List Int)(n:Int)(x:List Int)(f:Int)(w:List S81):List Int×Int×List Int×Int:=if mustChange l s n x f w=true then((askStage l s n x f (nextStage l s n x f w)).1,(askStage l s n x f (nextStage l s n x f w)).2.1,(askStage l s n x f (nextStage l s n x f w)).2.2.1,(askStage l s n x f (nextStage l s n x f w)).2.2.2.1)else tick l s n x f
theorem asked_len(l:List S76)(s:List Int)(n:Int)(x:List Int)(f:Int)(w:List S81)(hl:l.length≤1048576)(hs:s.length≤1048576)(hx:x.length≤1048576):(asked l s n x f w).1.length≤1048576∧(asked l s n x f w).2.2.1.length≤1048576:=by
 unfold asked
 have:=nextStage_len l s n x f w
 split
 ·exact askStage_len l s n x f _ hs hx (by omega)
 ·exact tick_len l s n x f hs hx
theorem asked_control{l:List S76}{s:List Int}{n:Int}{x:List Int}{f:Int}(w:List S81)(h:isControl l s n x f=true):isControl l (asked l s n x f w).1 (asked l s n x f w).2.1 (asked l s n x f w).2.2.1 (asked l s n x f w).2.2.2=true:=by
 unfold asked
 split
 ·exact askStage_control _ h
 ·exact tick_control h
theorem impl_asked_eq(l:List S76)(s:List Int)(n:Int)(x:List Int)(f:Int)(w:List S81)(hl:l.length≤1048576)(hs:s.length≤1048576)(hx:x.length≤1048576)(hw:w.length≤1048576):Ev (fun k=>impl_asked.f k l s n x f w) (asked l s n x f w):=by
 unfold impl_asked.f asked
 refine Ev.bind (impl_MustChange_eq l s n x f w hl hs hx hw) ?_
 have:=nextStage_len l s n x f w
 cases mustChange l s n x f w
 ·simp only[Bool.false_eq_true,if_false]
  exact Ev.bind (impl_TickControl_eq l s n x f (by omega) hs hx) (Ev.now _)
 ·simp only[if_true]
  exact Ev.bind (impl_NextStage_eq l s n x f w hl hs hx hw) (Ev.bind (impl_AskStage_eq l s n x f _ (by omega) hs hx (by omega)) (Ev.now _))
def waitOne(l:List S76)(g:List Int)(y:S81):List S81:=if 0≤findP l y.f0∧findP l y.f0<(g.length:Int)∧rd g (findP l y.f0)=1 then []else [⟨y.f0,min (y.f1+1) 100000⟩]
def waits(l:List S76)(g:List Int)(w:List S81):List S81:=(w.map (waitOne l g)).flatten
theorem waits_len(l:List S76)(g:List Int): ∀w:List S81,(waits l g w).length≤w.length
 |[]=>Nat.le_refl _
 |y::w=>by
  have:=waits_len l g w
  have h1:(waitOne l g y).length≤1:=by unfold waitOne;split<;>simp
  unfold waits at this⊢
  rw[List.map_cons,List.flatten_cons,List.length_append,List.length_cons]
  omega
theorem impl_waited_eq(l:List S76)(s:List Int)(n:Int)(x:List Int)(f:Int)(w:List S81)(hl:l.length≤1048576)(hs:s.length≤1048576)(hx:x.length≤1048576)(hw:w.length≤1048576)(ha: ∀y∈w,0≤y.f1∧y.f1≤100000):Ev (fun k=>impl_waited.f k l s n x f w) (waits l (lightsOf l s n x f) w):=by
 unfold impl_waited.f
 refine Ev.bind (impl_LightsOf_eq l s n x f hl hs hx) ?_
 have hg:=lightsOf_le l s n x f
 generalize lightsOf l s n x f=g at hg⊢
 have key: ∀(d i:Nat) (o:List S81),o.length≤i→i+d=w.length→Ev (fun k=>impl_waited.l0 k l o g w (w.length:Int) (i:Int)) (o++waits l g (w.drop i)):=by
  intro d
  induction d with
  |zero=>
   intro i o ho hi
   refine Ev.succ ?_
   simp only[impl_waited.l0,show¬(i:Int)<(w.length:Int) by omega,if_false]
   exact evq (Ev.now _) (by rw[List.drop_eq_nil_of_le (show w.length≤i by omega)];simp[waits])
  | succ d ih=>
   intro i o ho hi
   refine Ev.succ ?_
   have hi2:i<w.length:=by omega
   have hy:=ha w[i] (List.getElem_mem hi2)
   have next:=fun o ho=>ih (i+1) o ho (by omega)
   rw[show ((i+1:Nat):Int)=(i:Int)+1 by omega]at next
   have e:waits l g (w.drop i)=waitOne l g w[i]++waits l g (w.drop (i+1)):=by rw[List.drop_eq_getElem_cons hi2];rfl
   have hm:mn (wrap64 (w[i].f1+1)) 100000=min (w[i].f1+1) 100000:=by rw[wrap_id (n:=w[i].f1+1) (by omega) (by omega)];unfold mn;split<;>omega
   simp only[impl_waited.l0,show (i:Int)<(w.length:Int) by omega,show (0:Int)≤(i:Int) by omega,if_true,rdT_Want _ _ hi2,wrap_id (n:=(i:Int)+1) (by omega) (by omega),impl_FindPath_eq,Option.bind_some,show o.length<8796093022208 by omega,hm]
   have hN: ¬(0≤findP l w[i].f0∧findP l w[i].f0<(g.length:Int)∧rd g (findP l w[i].f0)=1)→Ev (fun k=>impl_waited.l0 k l (o++ [⟨w[i].f0,min (w[i].f1+1) 100000⟩]) g w (w.length:Int) ((i:Int)+1)) (o++waits l g (w.drop i)):=by
    intro h
    have:=next (o++ [⟨w[i].f0,min (w[i].f1+1) 100000⟩]) (by rw[List.length_append,List.length_singleton];omega)
    rw[e,show waitOne l g w[i]=[⟨w[i].f0,min (w[i].f1+1) 100000⟩]from if_neg h,←List.append_assoc]
    exact this
   by_cases h1:findP l w[i].f0<0
   ·simp only[h1,if_true];exact hN (fun h=>by omega)
   simp only[h1,if_false,ge_iff_le]
   by_cases h2:(g.length:Int)≤findP l w[i].f0
   ·simp only[h2,if_true];exact hN (fun h=>by omega)
   simp only[h2,if_false,show 0≤findP l w[i].f0 by omega,show findP l w[i].f0<(g.length:Int) by omega,if_true]
   by_cases h3:rd g (findP l w[i].f0)=1
   ·simp only[h3,if_true]
    have:=next o (by omega)
    rw[e,show waitOne l g w[i]=[]from if_pos ⟨by omega,by omega,h3⟩,List.nil_append]
    exact this
   ·simp only[h3,if_false];exact hN (fun h=>h3 h.2.2)
 simpa using key w.length 0 [] (Nat.le_refl _) (by omega)
def shorter(a b:Int):Int×Int:=if b≤1 then(0,0)else(a,b-1)
def stepped(l:List S76)(s:List Int)(n:Int)(x:List Int)(f:Int)(w:List S81)(a b:Int):List Int×Int×List Int×Int:=if prioWish l s n x f a b=wHold then tick l s n x f else if prioWish l s n x f a b=wCall then((askStage l s n x f (addTo l [a])).1,(askStage l s n x f (addTo l [a])).2.1,(askStage l s n x f (addTo l [a])).2.2.1,(askStage l s n x f (addTo l [a])).2.2.2.1)else asked l s n x f w
def stepPrio(l:List S76)(s:List Int)(n:Int)(x:List Int)(f:Int)(w:List S81)(a b:Int):List Int×Int×List Int×Int×List S81×Int×Int:=if(isControl l s n x f&&areWants l w&&isPrio l a b)=true then((stepped l s n x f w a b).1,(stepped l s n x f w a b).2.1,(stepped l s n x f w a b).2.2.1,(stepped l s n x f w a b).2.2.2,waits l (lightsOf l (stepped l s n x f w a b).1 (stepped l s n x f w a b).2.1 (stepped l s n x f w a b).2.2.1 (stepped l s n x f w a b).2.2.2) w,(shorter a b).1,(shorter a b).2)else(s,n,x,f,w,a,b)
theorem stepped_len(l:List S76)(s:List Int)(n:Int)(x:List Int)(f:Int)(w:List S81)(a b:Int)(hl:l.length≤1048576)(hs:s.length≤1048576)(hx:x.length≤1048576):(stepped l s n x f w a b).1.length≤1048576∧(stepped l s n x f w a b).2.2.1.length≤1048576:=by
 unfold stepped
 have:=addTo_len l [a]
 rw[List.length_singleton]at this
 split
 ·exact tick_len l s n x f hs hx
 ·split
  ·exact askStage_len l s n x f _ hs hx (by omega)
  ·exact asked_len l s n x f w hl hs hx
theorem stepped_control{l:List S76}{s:List Int}{n:Int}{x:List Int}{f:Int}(w:List S81)(a b:Int)(h:isControl l s n x f=true):isControl l (stepped l s n x f w a b).1 (stepped l s n x f w a b).2.1 (stepped l s n x f w a b).2.2.1 (stepped l s n x f w a b).2.2.2=true:=by
 unfold stepped
 split
 ·exact tick_control h
 ·split
  ·exact askStage_control _ h
  ·exact asked_control w h
theorem isPrio_bd{l:List S76}{a b:Int}(h:isPrio l a b=true):0≤b∧b≤20:=by
 unfold isPrio at h
 grind
theorem impl_shorter_eq{a b:Int}(h:0≤b∧b≤20):impl_shorter.f a b=some (shorter a b):=by
 unfold impl_shorter.f shorter
 rw[wrap_id (n:=b-1) (by omega) (by omega)]
 split<;>rfl
theorem wHold_l:wHold.toList=([104,111,108,100]:List UInt8):=by simp[wHold,ByteArray.toList,ByteArray.toList.loop,ByteArray.size];exact⟨rfl,rfl,rfl,rfl⟩
theorem wCall_l:wCall.toList=([99,97,108,108]:List UInt8):=by simp[wCall,ByteArray.toList,ByteArray.toList.loop,ByteArray.size];exact⟨rfl,rfl,rfl,rfl⟩
theorem wNone_l:wNone.toList=([]:List UInt8):=by simp[wNone,ByteArray.toList,ByteArray.toList.loop,ByteArray.size]
theorem wish_cases(l:List S76)(s:List Int)(n:Int)(x:List Int)(f a b:Int):prioWish l s n x f a b=wHold∨prioWish l s n x f a b=wCall∨prioWish l s n x f a b=wNone:=by
 unfold prioWish
 split
 ·split
  ·exact .inl rfl
  ·split
   ·exact .inr (.inl rfl)
   ·exact .inr (.inr rfl)
 ·exact .inr (.inr rfl)
theorem wish_ne{u v:ByteArray}(h:u.toList≠v.toList):u≠v:=fun e=>h (by rw[e])
theorem stepped_hold{l:List S76}{s:List Int}{n:Int}{x:List Int}{f:Int}{w:List S81}{a b:Int}(h:prioWish l s n x f a b=wHold):stepped l s n x f w a b=tick l s n x f:=by
 unfold stepped;rw[if_pos h]
theorem stepped_call{l:List S76}{s:List Int}{n:Int}{x:List Int}{f:Int}{w:List S81}{a b:Int}(h:prioWish l s n x f a b=wCall):stepped l s n x f w a b=((askStage l s n x f (addTo l [a])).1,(askStage l s n x f (addTo l [a])).2.1,(askStage l s n x f (addTo l [a])).2.2.1,(askStage l s n x f (addTo l [a])).2.2.2.1):=by
 unfold stepped;rw[if_neg (by rw[h];exact wish_ne (by rw[wHold_l,wCall_l];decide)),if_pos h]
theorem stepped_none{l:List S76}{s:List Int}{n:Int}{x:List Int}{f:Int}{w:List S81}{a b:Int}(h:prioWish l s n x f a b=wNone):stepped l s n x f w a b=asked l s n x f w:=by
 unfold stepped;rw[if_neg (by rw[h];exact wish_ne (by rw[wHold_l,wNone_l];decide)),if_neg (by rw[h];exact wish_ne (by rw[wCall_l,wNone_l];decide))]
theorem impl_StepPrio_eq(l:List S76)(s:List Int)(n:Int)(x:List Int)(f:Int)(w:List S81)(a b:Int)(hl:l.length≤1048576)(hs:s.length≤1048576)(hx:x.length≤1048576)(hw:w.length≤1048576):Ev (fun k=>impl_StepPrio.f k l s n x f w a b) (stepPrio l s n x f w a b):=by
 have hj1: ∀r,r=(s,n,x,f,w,a,b)→Ev (fun k=>impl_StepPrio.j0 k l w true s n x f a b) r:=by
  rintro r rfl
  refine Ev.succ ?_
  simp only[impl_StepPrio.j0,if_true,impl_cloneControl_eq s n x f hs hx,Option.bind_some,impl_Want_51.f,show w.length<8796093022208 by omega]
  exact Ev.now _
 unfold impl_StepPrio.f stepPrio
 refine Ev.bind (impl_IsControl_eq l s n x f (by omega) hs hx) ?_
 cases hc:isControl l s n x f
 ·simp only[Bool.false_eq_true,if_false,Bool.false_and];exact hj1 _ rfl
 simp only[if_true,Bool.true_and]
 refine Ev.bind (impl_AreWants_eq l w (by omega) hw) ?_
 cases ha:areWants l w
 ·simp only[Bool.false_eq_true,if_false,Bool.false_and];exact hj1 _ rfl
 simp only[if_true,Bool.true_and]
 refine Ev.bind (impl_IsPrio_eq l a b (by omega)) ?_
 cases hp:isPrio l a b
 ·simp only[Bool.not_false,Bool.false_eq_true,if_false];exact hj1 _ rfl
 simp only[Bool.not_true,if_true]
 have hb:=isPrio_bd hp
 have hw2: ∀y∈w,0≤y.f1∧y.f1≤100000:=fun y hy=>(areWants_at ha hy).2
 have hlen:=stepped_len l s n x f w a b hl hs hx
 have hadd:=addTo_len l [a]
 rw[List.length_singleton]at hadd
 refine Ev.succ ?_
 simp only[impl_StepPrio.j0,Bool.false_eq_true,if_false]
 refine Ev.bind (impl_PrioWish_eq l s n x f a b (by omega) hs hx) ?_
 rcases wish_cases l s n x f a b with h|h|h
 ·rw[stepped_hold h]at hlen⊢
  simp only[h,wHold_l,if_true]
  refine Ev.bind (impl_TickControl_eq l s n x f (by omega) hs hx) ?_
  refine Ev.bind (impl_waited_eq l _ _ _ _ w (by omega) hlen.1 hlen.2 hw hw2) ?_
  simp only[impl_shorter_eq hb,Option.bind_some]
  exact Ev.now _
 ·rw[stepped_call h]at hlen⊢
  simp only[h,wCall_l,show¬(([99,97,108,108]:List UInt8)=[104,111,108,100]) by decide,if_false,if_true]
  refine Ev.bind (impl_AddToStage_eq l [a] hl (by simp)) ?_
  refine Ev.bind (impl_AskStage_eq l s n x f _ (by omega) hs hx (by omega)) ?_
  refine Ev.bind (impl_waited_eq l _ _ _ _ w (by omega) hlen.1 hlen.2 hw hw2) ?_
  simp only[impl_shorter_eq hb,Option.bind_some]
  exact Ev.now _
 ·rw[stepped_none h]at hlen⊢
  simp only[h,wNone_l,show¬(([]:List UInt8)=[104,111,108,100]) by decide,show¬(([]:List UInt8)=[99,97,108,108]) by decide,if_false]
  refine Ev.bind (impl_asked_eq l s n x f w hl hs hx hw) ?_
  refine Ev.bind (impl_waited_eq l _ _ _ _ w (by omega) hlen.1 hlen.2 hw hw2) ?_
  simp only[impl_shorter_eq hb,Option.bind_some]
  exact Ev.now _
theorem spec_l15Wants_ok(b:List Int)(i h:Int)(l:List S76)(hc:Cur b i)(hl:l.length≤7):EvP (fun k=>spec_l15Wants.f k b i h l) (fun t=>t.1.length≤7∧Cur b t.2.1):=by
 unfold spec_l15Wants.f
 have key: ∀(d i:Nat) (o:List S81) (p h:Int),i+d=l.length→o.length≤i→Cur b p→EvP (fun k=>spec_l15Wants.l0 k l o (i:Int) b p h) (fun t=>t.1.length≤7∧Cur b t.2.1):=by
  intro d
  induction d with
  |zero=>
   intro i o p h hi ho hc
   refine EvP.succ ?_
   simp only[spec_l15Wants.l0,show¬(i:Int)<(l.length:Int) by omega,if_false]
   exact EvP.now ⟨by show o.length≤7;omega,hc⟩
  |succ d ih=>
   intro i o p h hi ho hc
   refine EvP.succ ?_
   have next:=fun o p h=>ih (i+1) o p h
   rw[show ((i+1:Nat):Int)=(i:Int)+1 by omega]at next
   simp only[spec_l15Wants.l0,show (i:Int)<(l.length:Int) by omega,show (0:Int)≤(i:Int) by omega,if_true,wrap_id (n:=(i:Int)+1) (by omega) (by omega)]
   refine EvP.bindD (spec_l1Once_ok b p h 2 hc) (fun t g=>?_)
   refine EvP.ifd (fun _=>?_) (fun _=>next _ _ _ (by omega) (by omega) g)
   refine EvP.bindD (spec_l1Below_ok b _ _ 30 g) (fun t2 g2=>?_)
   simp only[show o.length<8796093022208 by omega,if_true]
   exact next _ _ _ (by omega) (by rw[List.length_append,List.length_singleton];omega) g2.2.2
 exact key l.length 0 [] i h (by omega) (by simp) hc
theorem spec_l15Any_ok(b:List Int)(i h:Int)(hc:Cur b i):EvP (fun k=>spec_l15Any.f k b i h) (fun t=>t.1.length≤7∧t.2.1.length≤1048576∧t.2.2.2.1.length≤1048576∧t.2.2.2.2.2.1.length≤7∧Cur b t.2.2.2.2.2.2.1):=by
 unfold spec_l15Any.f
 refine EvP.bind (spec_l14Any_ok b i h hc) (fun t ht=>?_)
 refine EvP.bind (spec_l15Wants_ok b _ _ _ ht.2.2.2 ht.1) (fun t1 g1=>?_)
 have j: ∀(w:List S81) (i h:Int),w.length≤7→Cur b i→EvP (fun k=>spec_l15Any.j0 k t.1 w b i h t.2.1 t.2.2.1 t.2.2.2.1 t.2.2.2.2.1) (fun t=>t.1.length≤7∧t.2.1.length≤1048576∧t.2.2.2.1.length≤1048576∧t.2.2.2.2.2.1.length≤7∧Cur b t.2.2.2.2.2.2.1):=by
  intro w i h hw hc
  refine EvP.succ ?_
  simp only[spec_l15Any.j0]
  refine EvP.bindD (spec_l1Once_ok b _ _ _ hc) (fun t2 g2=>?_)
  refine EvP.ifd (fun _=>?_) (fun _=>EvP.now ⟨ht.1,ht.2.1,ht.2.2.1,hw,g2⟩)
  refine EvP.ifd (fun _=>?_) (fun _=>EvP.now ⟨ht.1,ht.2.1,ht.2.2.1,hw,g2⟩)
  refine EvP.ifd (fun _=>?_) (fun _=>EvP.now ⟨ht.1,ht.2.1,ht.2.2.1,hw,g2⟩)
  exact EvP.bindD (spec_l1Int_cur _ _ _ _ g2 (by simp)) (fun t3 g3=>EvP.now ⟨ht.1,ht.2.1,ht.2.2.1,hw,g3⟩)
 refine EvP.ifd (fun h0=>?_) (fun _=>j _ _ _ g1.1 g1.2)
 refine EvP.bindD (spec_l1Below_ok b _ _ _ g1.2) (fun t2 g2=>?_)
 refine EvP.ifd (fun _=>?_) (fun _=>?_)
 ·refine EvP.bindD (spec_l1Below_ok b _ _ _ g2.2.2) (fun t3 g3=>?_)
  exact EvP.ifd (fun _=>j _ _ _ (by rw[List.length_set];exact g1.1) g3.2.2) (fun h1=>absurd h0 h1)
 refine EvP.ifd (fun _=>?_) (fun _=>j _ _ _ g1.1 g2.2.2)
 refine EvP.bindD (spec_l1Int_cur _ _ _ _ g2.2.2 (by simp)) (fun t3 g3=>?_)
 exact EvP.ifd (fun _=>j _ _ _ (by rw[List.length_set];exact g1.1) g3) (fun h1=>absurd h0 h1)
theorem spec_l16Prio_ok(b:List Int)(i h:Int)(l:List S76)(hc:Cur b i)(hl:l.length≤7):EvP (fun k=>spec_l16Prio.f k b i h l) (fun t=>Cur b t.2.2.1):=by
 unfold spec_l16Prio.f
 have key: ∀(d i:Nat) (p h:Int),i+d=l.length→Cur b p→EvP (fun k=>spec_l16Prio.l0 k l (i:Int) b p h) (fun t=>Cur b t.2.2.1):=by
  intro d
  induction d with
  |zero=>
   intro i p h hi hc
   refine EvP.succ ?_
   simp only[spec_l16Prio.l0,show¬(i:Int)<(l.length:Int) by omega,if_false]
   exact EvP.now hc
  |succ d ih=>
   intro i p h hi hc
   refine EvP.succ ?_
   have next:=fun p h=>ih (i+1) p h
   rw[show ((i+1:Nat):Int)=(i:Int)+1 by omega]at next
   simp only[spec_l16Prio.l0,show (i:Int)<(l.length:Int) by omega,show (0:Int)≤(i:Int) by omega,if_true,wrap_id (n:=(i:Int)+1) (by omega) (by omega)]
   refine EvP.ifd (fun _=>?_) (fun _=>next _ _ (by omega) hc)
   refine EvP.bindD (spec_l1Once_ok b p h 3 hc) (fun t g=>?_)
   refine EvP.ifd (fun _=>next _ _ (by omega) g) (fun _=>?_)
   exact EvP.bindD (spec_l1Below_ok b _ _ 20 g) (fun t2 g2=>EvP.now g2.2.2)
 exact key l.length 0 i h (by omega) hc
theorem spec_l16Any_ok(b:List Int)(i h:Int)(hc:Cur b i):EvP (fun k=>spec_l16Any.f k b i h) (fun t=>t.1.length≤7∧t.2.1.length≤1048576∧t.2.2.2.1.length≤1048576∧t.2.2.2.2.2.1.length≤7):=by
 unfold spec_l16Any.f
 refine EvP.bind (spec_l15Any_ok b i h hc) (fun t ht=>?_)
 have e:=ht.2.2
 refine EvP.bind (spec_l16Prio_ok b _ _ _ e.2.2 ht.1) (fun t1 g1=>?_)
 refine EvP.bindD (spec_l1Below_ok b _ _ _ g1) (fun t2 g2=>?_)
 refine EvP.ifd (fun _=>?_) (fun _=>?_)
 ·exact EvP.bindD (spec_l1Below_ok b _ _ _ g2.2.2) (fun t3 _=>EvP.now ⟨ht.1,ht.2.1,e.1,e.2.1⟩)
 refine EvP.ifd (fun _=>?_) (fun _=>EvP.now ⟨ht.1,ht.2.1,e.1,e.2.1⟩)
 exact EvP.bindD (spec_l1Int_cur _ _ _ _ g2.2.2 (by simp)) (fun t3 _=>EvP.now ⟨ht.1,ht.2.1,e.1,e.2.1⟩)
theorem spec_DrawStepPrio_ok(l:List Int)(hl:l.length≤1048576):EvP (fun k=>spec_DrawStepPrio.f k l) (fun t=>t.1.length≤7∧t.2.1.length≤1048576∧t.2.2.2.1.length≤1048576∧t.2.2.2.2.2.1.length≤7):=by
 unfold spec_DrawStepPrio.f
 refine EvP.bind (spec_l1New_ok l hl) (fun t ht=>?_)
 exact EvP.bind (spec_l16Any_ok _ _ _ ht.2) (fun t1 h1=>EvP.now h1)
theorem spec_DrawAskPrio_ok(l:List Int)(hl:l.length≤1048576):EvP (fun k=>spec_DrawAskPrio.f k l) (fun t=>t.1.length≤7):=by
 unfold spec_DrawAskPrio.f spec_DrawIsPrio.f
 refine EvP.bind (P:=fun t=>t.1.length≤7) ?_ (fun t ht=>?_)
 ·refine EvP.bind (spec_l1New_ok l hl) (fun t ht=>?_)
  exact EvP.bind (spec_l16Any_ok _ _ _ ht.2) (fun t1 h1=>EvP.now h1.1)
 refine EvP.bind (spec_l1New_ok l hl) (fun t1 h1=>?_)
 refine EvP.bindD (spec_l1Once_ok _ _ _ _ h1.2) (fun t2 h2=>?_)
 refine EvP.ifd (fun _=>?_) (fun _=>?_)
 ·exact EvP.bindD (spec_l1Below_ok _ _ _ _ h2) (fun t3 _=>EvP.now ht)
 ·exact EvP.bindD (spec_l1Below_ok _ _ _ _ h2) (fun t3 _=>EvP.now ht)
theorem wants_asc{l:List S76}{w:List S81}(h:areWants l w=true):w.Pairwise (fun y z=>y.f0<z.f0):=by
 have step: ∀(d i:Nat) (hd:i+d+1<w.length),(w[i]'(by omega)).f0<(w[i+d+1]).f0:=by
  have one: ∀(i:Nat) (hi:i+1<w.length),(w[i]'(by omega)).f0<(w[i+1]).f0:=by
   intro i hi
   have hh:=h
   unfold areWants at hh
   simp only[Bool.and_eq_true,List.all_eq_true,List.mem_range]at hh
   have:=hh.1 (i+1) hi
   unfold wantAt at this
   rw[rdT_Want _ _ hi,show ((i+1:Nat):Int)-1=(i:Int) by omega,rdT_Want _ _ (show i<w.length by omega)]at this
   simp only[Bool.and_eq_true,Bool.or_eq_true,decide_eq_true_eq,Bool.not_eq_true',decide_eq_false_iff_not]at this
   omega
  intro d
  induction d with
  |zero=>intro i hd;exact one i hd
  |succ d ih=>intro i hd;exact Int.lt_trans (ih i (by omega)) (one (i+d+1) hd)
 rw[List.pairwise_iff_getElem]
 intro i j hi hj hij
 have:=step (j-i-1) i (by omega)
 have e:i+(j-i-1)+1=j:=by omega
 simp only[e]at this
 exact this
theorem wants_of{l:List S76}{w:List S81}(ha:arePaths l=true)(h: ∀y∈w,0≤findP l y.f0∧0≤y.f1∧y.f1≤100000)(hp:w.Pairwise (fun y z=>y.f0<z.f0)):areWants l w=true:=by
 unfold areWants
 rw[ha,Bool.and_true,List.all_eq_true]
 intro i hi
 rw[List.mem_range]at hi
 have h1:=h _ (List.getElem_mem hi)
 unfold wantAt
 rw[rdT_Want _ _ hi,decide_eq_true h1.1,decide_eq_true h1.2]
 by_cases h0:i=0
 ·simp[h0]
 ·have hi2:i-1<w.length:=by omega
  have:=List.pairwise_iff_getElem.1 hp (i-1) i hi2 hi (by omega)
  rw[show (i:Int)-1=((i-1:Nat):Int) by omega,rdT_Want _ _ hi2]
  simp only[decide_eq_false h0,Bool.true_and,Bool.false_or,Bool.not_eq_true',decide_eq_false_iff_not]
  omega
theorem waits_wants{l:List S76}{w:List S81}(g:List Int)(h:areWants l w=true):areWants l (waits l g w)=true:=by
 have ha:arePaths l=true:=by
  unfold areWants at h
  rw[Bool.and_eq_true]at h
  exact h.2
 have hm: ∀y z,z∈waitOne l g y→z.f0=y.f0∧z.f1=min (y.f1+1) 100000:=by
  intro y z hz
  unfold waitOne at hz
  split at hz
  ·cases hz
  ·rw[List.mem_singleton.1 hz];exact⟨rfl,rfl⟩
 refine wants_of ha (fun z hz=>?_) ?_
 ·unfold waits at hz
  obtain⟨s,hs,hz⟩:=List.mem_flatten.1 hz
  obtain⟨y,hy,rfl⟩:=List.mem_map.1 hs
  have:=areWants_at h hy
  obtain⟨e1,e2⟩:=hm y z hz
  rw[e1,e2]
  exact⟨this.1,by omega,by omega⟩
 ·unfold waits
  rw[List.pairwise_flatten]
  refine⟨fun s hs=>?_,?_⟩
  ·obtain⟨y,hy,rfl⟩:=List.mem_map.1 hs
   unfold waitOne
   split
   ·exact List.Pairwise.nil
   ·exact List.pairwise_singleton _ _
  ·rw[List.pairwise_map]
   refine(wants_asc h).imp (fun{y z} hyz a ha b hb=>?_)
   rw[(hm y a ha).1,(hm z b hb).1]
   exact hyz
theorem shorter_prio{l:List S76}{a b:Int}(h:isPrio l a b=true):isPrio l (shorter a b).1 (shorter a b).2=true:=by
 unfold shorter
 unfold isPrio at h⊢
 simp only[Bool.and_eq_true,Bool.or_eq_true,beq_iff_eq,decide_eq_true_eq]at h⊢
 refine⟨h.1,?_⟩
 split
 ·exact .inl ⟨rfl,rfl⟩
 ·rcases h.2 with⟨h1,h2⟩|⟨h1,h2⟩
  ·omega
  ·exact .inr ⟨h1,by dsimp only;omega⟩
theorem prio_tog{l:List S76}{a b:Int}(h:isPrio l a b=true)(h0: ¬a=0):together l [a]=true:=by
 unfold isPrio at h
 simp only[Bool.and_eq_true,Bool.or_eq_true,beq_iff_eq,decide_eq_true_eq]at h
 rcases h.2 with⟨h1,_⟩|⟨h1,_⟩
 ·exact absurd h1 h0
 ·unfold isBusP at h1
  simp only[Bool.and_eq_true,decide_eq_true_eq]at h1
  unfold together
  rw[h.1,Bool.and_true,List.all_eq_true]
  intro i hi
  rw[List.mem_range,List.length_singleton]at hi
  have e:i=0:=by omega
  subst e
  unfold tgAt
  simp[rd,h1.1]
theorem wish_hold{l:List S76}{s:List Int}{n:Int}{x:List Int}{f a b:Int}(h:prioWish l s n x f a b=wHold):a∈s∧x.length=0:=by
 unfold prioWish at h
 split at h
 ·split at h
  ·rename_i h1
   simp only[Bool.and_eq_true,decide_eq_true_eq]at h1
   exact h1
  ·split at h
   ·exact absurd h.symm (wish_ne (by rw[wHold_l,wCall_l];decide))
   ·exact absurd h.symm (wish_ne (by rw[wHold_l,wNone_l];decide))
 ·exact absurd h.symm (wish_ne (by rw[wHold_l,wNone_l];decide))
theorem wish_call{l:List S76}{s:List Int}{n:Int}{x:List Int}{f a b:Int}(h:prioWish l s n x f a b=wCall):isPrio l a b=true∧ ¬a=0∧ ¬a∈s∧canEnd l s n x f=true:=by
 unfold prioWish at h
 split at h
 ·rename_i h0
  simp only[Bool.and_eq_true,Bool.not_eq_true',decide_eq_false_iff_not]at h0
  split at h
  ·exact absurd h (wish_ne (by rw[wHold_l,wCall_l];decide))
  ·split at h
   ·rename_i h1
    simp only[Bool.and_eq_true,Bool.not_eq_true',decide_eq_false_iff_not]at h1
    exact⟨h0.1.2,h0.2,h1.1,h1.2⟩
   ·exact absurd h.symm (wish_ne (by rw[wCall_l,wNone_l];decide))
 ·exact absurd h.symm (wish_ne (by rw[wCall_l,wNone_l];decide))
theorem stepped_wish_hold{l:List S76}{s:List Int}{n:Int}{x:List Int}{f:Int}{w:List S81}{a b:Int}(h:prioWish l s n x f a b=wHold):a∈(stepped l s n x f w a b).1:=by
 have h1:=wish_hold h
 rw[stepped_hold h]
 unfold tick
 split
 ·rw[if_pos h1.2];exact h1.1
 ·exact h1.1
theorem stepped_wish_call{l:List S76}{s:List Int}{n:Int}{x:List Int}{f:Int}{w:List S81}{a b:Int}(h:prioWish l s n x f a b=wCall):a∈(stepped l s n x f w a b).1∨a∈(stepped l s n x f w a b).2.2.1:=by
 obtain⟨h1,h2,h3,h4⟩:=wish_call h
 have ht:=addTo_tog (prio_tog h1 h2)
 have ha:=ht.2 a (List.mem_singleton.2 rfl)
 have hg: ¬(addTo l [a]).length=0:=fun e=>by rw[List.eq_nil_of_length_eq_zero e]at ha;cases ha
 rw[stepped_call h]
 unfold askStage
 rw[h4,ht.1,decide_eq_false hg,decide_eq_false (show¬addTo l [a]=s from fun e=>h3 (e▸ha))]
 simp only[Bool.not_false,Bool.and_self,if_true]
 split
 ·exact .inl ha
 ·exact .inr ha
theorem impl_AskPrio_eq(l:List S76)(a b p:Int)(hl:l.length≤1048576):Ev (fun k=>impl_AskPrio.f k l a b p) (if(isPrio l a b&&decide (a=0)&&isBusP l p)=true then(p,20,true)else(a,b,false)):=by
 unfold impl_AskPrio.f
 refine Ev.bind (impl_IsPrio_eq l a b hl) ?_
 cases isPrio l a b
 ·simp only[Bool.false_eq_true,if_false,Bool.false_and];exact Ev.now _
 simp only[if_true,Bool.true_and]
 by_cases h0:a=0
 ·simp only[h0,if_true,decide_true,Bool.true_and,impl_isBus_eq,Option.bind_some]
  cases isBusP l p
  ·simp only[Bool.false_eq_true,if_false];exact Ev.now _
  ·simp only[if_true];exact Ev.now _
 ·simp only[h0,if_false,decide_false,Bool.false_and,Bool.false_eq_true];exact Ev.now _
theorem asked_true(l0:List Int)(hl0:l0.length≤1048576):Ev (fun k=>laws_FnPrio.j2 k l0 false) true∧Ev (fun k=>laws_FnPrio.j3 k l0 false) true:=by
 have key: ∀t:List S76×Int×Int×Int,t.1.length≤7→Ev (fun k=>(impl_AskPrio.f k t.1 t.2.1 t.2.2.1 t.2.2.2).bind fun b=>(if b.2.2=true then(if b.1=t.2.2.2 then(if b.2.1=20 then((impl_IsPrio.f k t.1 b.1 b.2.1).bind fun c=>(if c=true then(some true)else(none)))else(none))else(none))else(some (b.1==t.2.1&&(b.2.1==t.2.2.1))))) true:=by
  intro t ht
  refine Ev.bind (impl_AskPrio_eq _ _ _ _ (by omega)) ?_
  by_cases h:(isPrio t.1 t.2.1 t.2.2.1&&decide (t.2.1=0)&&isBusP t.1 t.2.2.2)=true
  ·simp only[h,if_true]
   refine Ev.bind (impl_IsPrio_eq _ _ _ (by omega)) ?_
   have e:isPrio t.1 t.2.2.2 20=true:=by
    simp only[Bool.and_eq_true]at h
    unfold isPrio at h⊢
    simp only[Bool.and_eq_true,Bool.or_eq_true,beq_iff_eq,decide_eq_true_eq]at h⊢
    exact⟨h.1.1.1,.inr ⟨h.2,by omega⟩⟩
   rw[e];simp only[if_true];exact Ev.now _
  ·simp only[h,if_false,Bool.false_eq_true,beq_self_eq_true,Bool.and_self];exact Ev.now _
 refine⟨Ev.succ ?_,Ev.succ ?_⟩
 ·simp only[laws_FnPrio.j2,Bool.false_eq_true,if_false]
  exact Ev.bindP (spec_DrawAskPrio_ok l0 hl0) key
 ·simp only[laws_FnPrio.j3,Bool.false_eq_true,if_false]
  exact Ev.bindP (spec_DrawAskPrio_ok l0 hl0) key
theorem wished_true(l0:List Int)(hl0:l0.length≤1048576)(l:List S76)(s:List Int)(n:Int)(x:List Int)(f:Int)(w:List S81)(a b:Int)(hl:l.length≤7)(hs:s.length≤1048576)(hx:x.length≤1048576):Ev (fun k=>laws_FnPrio.j1 k l0 l false s n x f a b (stepped l s n x f w a b).1 (stepped l s n x f w a b).2.1 (stepped l s n x f w a b).2.2.1 (stepped l s n x f w a b).2.2.2) true:=by
 have hln:=stepped_len l s n x f w a b (by omega) hs hx
 refine Ev.succ ?_
 simp only[laws_FnPrio.j1,Bool.false_eq_true,if_false]
 refine Ev.bind (impl_PrioWish_eq l s n x f a b (by omega) hs hx) ?_
 rcases wish_cases l s n x f a b with h|h|h
 ·simp only[h,wHold_l,if_true]
  refine Ev.bind (laws_contains_eq _ _ hln.1) ?_
  rw[decide_eq_true (stepped_wish_hold h)]
  simp only[if_true,show¬(([104,111,108,100]:List UInt8)=[99,97,108,108]) by decide,if_false]
  exact(asked_true l0 hl0).1
 ·simp only[h,wCall_l,show¬(([99,97,108,108]:List UInt8)=[104,111,108,100]) by decide,if_false,if_true]
  refine Ev.bind (laws_contains_eq _ _ hln.1) ?_
  by_cases h1:a∈(stepped l s n x f w a b).1
  ·rw[decide_eq_true h1];simp only[if_true];exact(asked_true l0 hl0).1
  ·have h2:=(stepped_wish_call (w:=w) h).resolve_left h1
   rw[decide_eq_false h1];simp only[Bool.false_eq_true,if_false]
   refine Ev.bind (laws_contains_eq _ _ hln.2) ?_
   rw[decide_eq_true h2,Bool.not_true]
   exact(asked_true l0 hl0).1
 ·simp only[h,wNone_l,show¬(([]:List UInt8)=[104,111,108,100]) by decide,show¬(([]:List UInt8)=[99,97,108,108]) by decide,if_false]
  exact(asked_true l0 hl0).1
theorem holds: ∀(l0:List Int),l0.length≤maxLen→(∀x∈l0,(Lit.int .u8 x).wf=true)→ ∃k,laws_FnPrio.f k l0=some true:=by
 intro l0 _ _
 apply Ev.rounds
 unfold laws_FnPrio.f
 simp only[laws_big_eq,Option.bind_some]
 by_cases hb:(l0.length:Int)>1048576
 ·simp only[hb,decide_true,if_true];exact Ev.now _
 simp only[hb,decide_false,Bool.false_eq_true,if_false]
 have hl0:l0.length≤1048576:=by omega
 refine Ev.bindP (spec_DrawStepPrio_ok l0 hl0) (fun t ht=>?_)
 obtain⟨l,s,n,x,f,w,a,b⟩:=t
 obtain⟨h1,h2,h3,h4⟩:=ht
 dsimp only at h1 h2 h3 h4⊢
 have hw:w.length≤1048576:=by omega
 have hstep:=impl_StepPrio_eq l s n x f w a b (by omega) h2 h3 hw
 have hno: ∀k:Nat,True:=fun _=>trivial
 by_cases hc:(isControl l s n x f&&areWants l w&&isPrio l a b)=true
 ·have hsp:stepPrio l s n x f w a b=((stepped l s n x f w a b).1,(stepped l s n x f w a b).2.1,(stepped l s n x f w a b).2.2.1,(stepped l s n x f w a b).2.2.2,waits l (lightsOf l (stepped l s n x f w a b).1 (stepped l s n x f w a b).2.1 (stepped l s n x f w a b).2.2.1 (stepped l s n x f w a b).2.2.2) w,(shorter a b).1,(shorter a b).2):=by unfold stepPrio;rw[if_pos hc]
  rw[hsp]at hstep
  refine Ev.bind hstep ?_
  simp only[Bool.and_eq_true]at hc
  have hln:=stepped_len l s n x f w a b (by omega) h2 h3
  have hct:=stepped_control w a b hc.1.1
  have hwl:=waits_len l (lightsOf l (stepped l s n x f w a b).1 (stepped l s n x f w a b).2.1 (stepped l s n x f w a b).2.2.1 (stepped l s n x f w a b).2.2.2) w
  have hbd:=isPrio_bd hc.2
  refine Ev.bind (impl_IsControl_eq l s n x f (by omega) h2 h3) ?_
  rw[hc.1.1];simp only[if_true]
  refine Ev.bind (impl_AreWants_eq l w (by omega) hw) ?_
  rw[hc.1.2];simp only[if_true]
  refine Ev.bind (impl_IsPrio_eq l a b (by omega)) ?_
  rw[hc.2]
  refine Ev.succ ?_
  simp only[laws_FnPrio.j0,if_true]
  refine Ev.bind (impl_IsControl_eq l _ _ _ _ (by omega) hln.1 hln.2) ?_
  rw[hct];simp only[if_true]
  refine Ev.bind (impl_AreWants_eq l _ (by omega) (by omega)) ?_
  rw[waits_wants _ hc.1.2];simp only[if_true]
  refine Ev.bind (impl_IsPrio_eq l _ _ (by omega)) ?_
  rw[shorter_prio hc.2];simp only[if_true]
  have safe:Ev (fun k=>(impl_LightsOf.f k l (stepped l s n x f w a b).1 (stepped l s n x f w a b).2.1 (stepped l s n x f w a b).2.2.1 (stepped l s n x f w a b).2.2.2).bind fun g=>(impl_IsSafeLights.f k l g).bind fun t=>laws_FnPrio.j1 k l0 l (!t) s n x f a b (stepped l s n x f w a b).1 (stepped l s n x f w a b).2.1 (stepped l s n x f w a b).2.2.1 (stepped l s n x f w a b).2.2.2) true:=by
   refine Ev.bind (impl_LightsOf_eq l _ _ _ _ (by omega) hln.1 hln.2) ?_
   refine Ev.bind (impl_IsSafeLights_true l _ (by omega) (isControl_paths hct) (lights_safe hct)) ?_
   rw[Bool.not_true]
   exact wished_true l0 hl0 l s n x f w a b h1 h2 h3
  have hcase:(¬a=0∧1≤b)∨(a=0):=by
   by_cases h0:a=0
   ·exact .inr h0
   ·have hp:=hc.2
    unfold isPrio at hp
    simp only[Bool.and_eq_true,Bool.or_eq_true,beq_iff_eq,decide_eq_true_eq]at hp
    rcases hp.2 with⟨h,_⟩|⟨_,h⟩
    ·exact absurd h h0
    ·exact .inl ⟨h0,h.1⟩
  unfold impl_PrioEnds.f
  rcases hcase with⟨h0,h5⟩|h0
  ·have e:(if(shorter a b).1=0 then some 0 else some (shorter a b).2:Option Int)=some (b-1):=by
    unfold shorter
    by_cases h6:b≤1
    ·rw[if_pos h6];simp;omega
    ·rw[if_neg h6];simp[h0]
   simp only[h0,if_false,Option.bind_some,show b>0 by omega,if_true,e,wrap_id (n:=b-1) (by omega) (by omega),show¬b=0 by omega]
   exact safe
  ·have e:(if(shorter a b).1=0 then some 0 else some (shorter a b).2:Option Int)=some 0:=by
    unfold shorter
    by_cases h6:b≤1
    ·rw[if_pos h6];simp
    ·rw[if_neg h6];simp[h0]
   simp only[h0,if_true,Option.bind_some,show¬((0:Int)>0) by omega,if_false,e]at safe⊢
   rw[h0]at e
   simp only[e,Option.bind_some,if_true]
   exact safe
 ·have hsp:stepPrio l s n x f w a b=(s,n,x,f,w,a,b):=by unfold stepPrio;rw[if_neg hc]
  rw[hsp]at hstep
  refine Ev.bind hstep ?_
  have hj:Ev (fun k=>laws_FnPrio.j0 k l0 l w w false s n x f a b s n x f a b) true:=by
   refine Ev.succ ?_
   simp only[laws_FnPrio.j0,Bool.false_eq_true,if_false]
   refine Ev.bind (impl_EqualControls_self s n x f h2 h3) ?_
   simp only[if_true,beq_self_eq_true,Bool.not_true,Bool.or_self,Bool.false_eq_true,if_false,bne_self_eq_false]
   exact(asked_true l0 hl0).2
  refine Ev.bind (impl_IsControl_eq l s n x f (by omega) h2 h3) ?_
  cases hc1:isControl l s n x f
  ·simp only[Bool.false_eq_true,if_false];exact hj
  simp only[if_true]
  refine Ev.bind (impl_AreWants_eq l w (by omega) hw) ?_
  cases hc2:areWants l w
  ·simp only[Bool.false_eq_true,if_false];exact hj
  simp only[if_true]
  refine Ev.bind (impl_IsPrio_eq l a b (by omega)) ?_
  rw[show isPrio l a b=false by rw[hc1,hc2]at hc;simpa using hc]
  exact hj
end Go.Proofs.YtopchlafmfgpnaaGreat.Pure.FnPrio

