/- Part 22 of the proof that the law ChangeValid returns true for every input. -/
import Derived.Test.YtlgjmkfbkhfakaaGreatDoorK20
import Derived.Laws.Bits64b
import Derived.Lib.TrailingZeros
set_option maxHeartbeats 64000000
set_option maxRecDepth 100000
namespace Go.Koi
open Go.Proofs Tryz DT
def Bu(k:Int):Int:=if k=0∨k=1 then 0 else if k=4 then 1 else if k=2∨k=3 then 2 else -1
theorem Vm(k:Int):Pure prog 215 [AG k] (AG (Bu k)):=by
 refine Pure.AI func215 (by kernel_rfl) rfl (by simp) fun wf=>?_;rw[ntmps215];refine xW fun K hK=>?_;simp;apply hK;refine xS (xW fun K hK=>?_);simp;apply hK;refine Bw ?_;refine xS (xW fun K hK=>?_);simp;apply hK;by_cases h0:k=0
 ·subst h0;refine AU ?_;simp;refine xK ?_;refine AU ?_;simp;refine xW fun K hK=>?_;simp;apply hK;refine Ag ⟨_,_,AJ.refl,?_⟩;(try simp);simp[Bu]
 ·refine AU ?_;simp[h0];refine xV fun K hK=>?_;simp;apply hK;by_cases h1:k=1
  ·subst h1;refine AU ?_;simp;refine xW fun K hK=>?_;simp;apply hK;refine Ag ⟨_,_,AJ.refl,?_⟩;(try simp);simp[Bu]
  ·refine AU ?_;simp[h1];(repeat refine xS ?_);refine xV fun K hK=>?_;simp;refine hK _ _ ?_;(try simp only[xQ,reduceIte]);by_cases h2:k=4
   ·subst h2;refine AU ?_;simp;refine xW fun K hK=>?_;simp;apply hK;refine Ag ⟨_,_,AJ.refl,?_⟩;(try simp);simp[Bu]
   ·refine AU ?_;simp[h2];refine xS (xW fun K hK=>?_);simp;apply hK;by_cases h3:k=2
    ·subst h3;refine AU ?_;simp;refine xK ?_;refine AU ?_;simp;refine xW fun K hK=>?_;simp;apply hK;refine Ag ⟨_,_,AJ.refl,?_⟩;(try simp);simp[Bu]
    ·refine AU ?_;simp[h3];refine xV fun K hK=>?_;simp;apply hK;by_cases h4:k=3
     ·subst h4;refine AU ?_;simp;refine xW fun K hK=>?_;simp;apply hK;refine Ag ⟨_,_,AJ.refl,?_⟩;(try simp);simp[Bu]
     ·refine AU ?_;simp[h4];refine CC ?_;refine xW fun K hK=>?_;simp;apply hK;refine Ag ⟨_,_,AJ.refl,?_⟩;(try simp);simp[Bu,h0,h1,h2,h3,h4]
def GC(u:List Bool)(i at_:Int):Option (List Bool):=if i<0∨at_≤i∨u.getD i.toNat false=true then none else some (u.set i.toNat true)
def Md(u:List Bool):Sg:=[.row true 1 [.row 1 u.length],.row true 1 (u.map fun b=>.d (.bool b))]
theorem Px(u:List Bool)(i at_:Int)(gz:at_≤u.length):AE prog 214 [.d (AG i),.d (AG at_),.ptr 0 1 0 0] (Md u) (.d (.bool (GC u i at_).isSome)) (Md ((GC u i at_).getD u)):=by
 unfold Md;refine AE.AI func214 (by kernel_rfl) rfl (by simp) fun wf _=>?_;rw[ntmps214];(repeat refine xS ?_);refine xV fun K hK=>?_;simp;refine hK _ _ ?_;(try simp only[xQ,reduceIte]);by_cases h:i<0
 ·have hu:GC u i at_=none:=by simp[GC,h]
  rw[hu];refine xS (Az fun K hK=>?_);(iterate 10 (refine B7 (by simp) ?_;simp[h]));((refine Dp rfl (by simp;try rfl) ?_);simp);((refine Dp rfl (by simp;try rfl) ?_);simp);refine xJ ?_;simp;refine Aj (hK _ _ ?_);(try simp only[xQ,reduceIte]);refine AU ?_;simp;refine xW fun K hK=>?_;simp;apply hK;refine Ag ?_;(try simp only[xQ,reduceIte]);refine⟨_,AJ.refl,?_⟩;simp[Am]
 ·by_cases h':at_≤i
  ·have hu:GC u i at_=none:=by simp[GC,h']
   rw[hu];refine xS (Az fun K hK=>?_);(iterate 10 (refine B7 (by simp) ?_;simp[h,h']));((refine Dp rfl (by simp;try rfl) ?_);simp);((refine Dp rfl (by simp;try rfl) ?_);simp);refine xJ ?_;simp;refine Aj (hK _ _ ?_);(try simp only[xQ,reduceIte]);refine AU ?_;simp;refine xW fun K hK=>?_;simp;apply hK;refine Ag ?_;(try simp only[xQ,reduceIte]);refine⟨_,AJ.refl,?_⟩;simp[Am]
  ·have h1:i<u.length:=by omega
   obtain⟨j,rfl⟩:∃j:Nat,i=j:=⟨i.toNat,by omega⟩;have h2:j<u.length:=by omega
   refine xS (xW fun K hK=>?_);simp[h,h',h1,h2];apply hK;cases hb:u[j]with
   |true=>
    have hu:GC u j at_=none:=by simp[GC,h2,hb]
    rw[hu];refine AU ?_;simp;refine xW fun K hK=>?_;simp;apply hK;refine Ag ?_;(try simp only[xQ,reduceIte]);refine⟨_,AJ.refl,?_⟩;simp[Am]
   |false=>
    have hu:GC u j at_=some (u.set j true):=by simp[GC,h2,hb];omega
    rw[hu];refine AU ?_;simp;refine xK ?_;refine xW fun K hK=>?_;simp[h2];apply hK;refine xW fun K hK=>?_;simp;apply hK;refine Ag ?_;(try simp only[xQ,reduceIte]);simp only[AE8];refine⟨_,AJ.refl,?_⟩;simp[Am]
def Ps(x:BM):Bool:=if x.kind=1 then decide (0≤x.lo)&&decide (x.lo≤x.hi)&&decide (x.hi≤255)else decide (0≤Bu x.kind)&&decide (x.lo=0)&&decide (x.hi=0)
def EK(u:List Bool)(at_:Nat)(x:BM):Option (List Bool):=
 if Ps x=false∨(Bu x.kind<1∧x.a≠0)∨(Bu x.kind<2∧x.b≠0)then none
 else if Bu x.kind<1 then some u
 else(GC u x.a at_).bind fun v=>if Bu x.kind<2 then some v else GC v x.b at_
def ABJ(p:List BM):Nat→Option (List Bool)
 |0=>some (List.replicate p.length false)
 |i+1=>(ABJ p i).bind fun u=>(p[i]?).bind fun x=>EK u i x
def AAq(p:List BM):Int:=
 if 512<p.length then 2 else
 match ABJ p p.length with
 |none=>40
 |some u=>if p=[]∨(u.take (p.length - 1)).any (fun b=>!b)=true then 40 else 0
theorem DY{u v:List Bool}{i at_:Int}(h:GC u i at_=some v):v.length=u.length:=by
 unfold GC at h;split at h
 ·cases h
 ·cases h;simp
theorem MJ{u v:List Bool}{at_:Nat}{x:BM}(h:EK u at_ x=some v):v.length=u.length:=by
 unfold EK at h;split at h
 ·cases h
 ·split at h
  ·cases h;rfl
  ·obtain⟨w,h1,h2⟩:=Option.bind_eq_some_iff.1 h;split at h2
   ·cases h2;exact DY h1
   ·rw[DY h2,DY h1]
theorem IH{p:List BM}:∀{i:Nat} {u:List Bool},ABJ p i=some u→u.length=p.length
 |0,u,h=>by cases h;simp
 |i+1,u,h=>by
  obtain⟨v,h1,h2⟩:=Option.bind_eq_some_iff.1 h;obtain⟨x,_,h3⟩:=Option.bind_eq_some_iff.1 h2;rw[MJ h3,IH h1]
theorem Hp{p:List BM}{i:Nat}(h:ABJ p i=none):∀k,ABJ p (i+k)=none
 |0=>h
 |k+1=>by rw[←Nat.add_assoc,ABJ,Hp h k];rfl
theorem IV(k:Int):Bu k= -1∨Bu k=0∨Bu k=1∨Bu k=2:=by
 unfold Bu;split
 ·simp
 ·split
  ·simp
  ·split<;>simp
theorem Qc{x:BM}(h:Bu x.kind= -1):Ps x=false:=by
 unfold Ps;have:x.kind≠1:=by intro e;rw[e]at h;simp[Bu]at h
 simp[this,h]
theorem Ja(p:List BM):Pure prog 185 [Ax p] (AG (AAq p)):=by
 refine Pure.AI func185 (by kernel_rfl) rfl (by simp) fun wf=>?_;have a1:p.length≤maxLen:=by simp[AAY,WFD,Ax]at wf;exact wf.1
 rw[ntmps185];refine xW fun K hK=>?_;simp;apply hK;refine xS (xW fun K hK=>?_);simp;apply hK;by_cases qg:512<p.length
 ·have iC:(512:Int)<p.length:=by omega
  refine AU ?_;simp[iC];refine xW fun K hK=>?_;simp;apply hK;refine Ag ⟨_,_,AJ.refl,?_⟩;(try simp);simp[AAq,qg]
 ·have iC:¬(512:Int)<p.length:=by omega
  have iG:(p.length:Int)≤1073741824:=by omega
  refine AU ?_;simp[iC];refine xK ?_;refine xW fun K hK=>?_;simp[iG];apply hK;refine xW fun K hK=>?_;simp;apply hK;refine xS (xW fun K hK=>?_);simp;apply hK;refine Bw ?_;refine DC p.length (fun i tm S=>(ABJ p i).isSome=true∧tm 0=.d (Ax p)∧tm 3=.ptr 1 1 0 0∧tm 4=.fn (.func 214) [] [.ptr 1 1 0 0]∧tm 17=.d (Ax p)∧tm 18=.d (.int .i64 p.length)∧tm 19=.d (.int .i64 i)∧S=[.row true 1 (((ABJ p i).getD []).map fun b=>.d (.bool b)),.row true 1 [.row 0 p.length]]) (i0:=0) (Nat.zero_le _) (by simp[ABJ]) ?_;rintro i tm S hi ⟨oG,t0,t3,t4,t17,t18,t19,rfl⟩;obtain⟨u,hu⟩:=Option.isSome_iff_exists.1 oG;have mN:=IH hu;simp only[hu,Option.getD_some];refine xW fun K hK=>?_;simp[t18,t19];apply hK;refine xC ?_;simp;refine⟨fun cx=>?_,fun hO=>?_⟩
  ·refine xK ?_;refine xB ?_;(repeat refine xS ?_);refine xV fun K hK=>?_;simp[t17,t19,cx];refine hK _ _ ?_;(try simp only[xQ,reduceIte]);have ia:(Ax p)=.sl (p.map AP):=rfl;generalize hx:p[i]=x at *;refine Az fun K hK=>?_;refine xJ ?_;simp;refine Bp (Vm x.kind) rfl (by simp) ?_;simp;refine xJ ?_;simp;refine Aj (hK _ _ ?_);refine xW fun K hK=>?_;simp;apply hK;refine AW.El (R:=fun tm S=>tm 0=.d (Ax p)∧tm 3=.ptr 1 1 0 0∧tm 4=.fn (.func 214) [] [.ptr 1 1 0 0]∧tm 5=.d (.int .i64 i)∧tm 6=.ptr 2 1 0 0∧tm 7=.d (AG (Bu x.kind))∧tm 8=.d (.bool (Ps x))∧tm 17=.d (Ax p)∧tm 18=.d (.int .i64 p.length)∧tm 19=.d (.int .i64 i)∧S=[.row true 1 (u.map fun b=>.d (.bool b)),.row true 1 [.row 0 p.length],.row true 5 [.d (AP x)]]) ?_ ?_
   ·refine Bw ?_;(repeat refine xS ?_);refine xV fun K hK=>?_;simp;refine hK _ _ ?_;(try simp only[xQ,reduceIte]);by_cases h1:x.kind=1
    ·refine AU ?_;simp[h1];refine xV fun K hK=>?_;simp;apply hK;simp[Ps,h1,AP,Bu,t0,t3,t4,t17,t18,t19]
    ·refine AU ?_;simp[h1];refine xW fun K hK=>?_;simp;apply hK;(repeat refine xS ?_);refine AW.BD (t:=!(decide (x.lo=0)&&decide (x.hi=0))) ?_ (fun hb=>?_) (fun hb=>?_)
     ·simp;rw[Bool.eq_iff_iff];simp
     ·refine xV fun K hK=>?_;simp;apply hK;simp at hb;have:Ps x=false:=by simp[Ps,h1];grind
      simp[this,AP,t0,t3,t4,t17,t18,t19]
     ·refine CC ?_;simp at hb;have:Ps x=decide (0≤Bu x.kind):=by simp[Ps,h1,hb]
      simp[this,AP,t0,t3,t4,t17,t18,t19]
   ·rintro tm S ⟨t0,t3,t4,t5,t6,t7,t8,t17,t18,t19,rfl⟩;have oH:ABJ p (i+1)=EK u i x:=by simp[ABJ,hu,cx,hx]
    have ma:EK u i x=none→AAq p=40:=fun h=>by
     have h1:=Hp (oH.trans h) (p.length - (i+1));rw[Nat.add_sub_cancel' (by omega)]at h1;simp[AAq,qg,h1]
    by_cases iq:Ps x=false∨(Bu x.kind<1∧x.a≠0)∨(Bu x.kind<2∧x.b≠0)
    ·have gy:EK u i x=none:=by simp only[EK,if_pos iq]
     have hr:=ma gy;have lI:Ps x=false∨Ps x=true∧Bu x.kind=0∧x.a≠0∨Ps x=true∧Bu x.kind=0∧x.a=0∧x.b≠0∨Ps x=true∧Bu x.kind=1∧x.b≠0:=by
      have:=IV x.kind;have:=@Qc x;grind
     rcases lI with h|⟨h,n1,h'⟩|⟨h,n1,h',h2⟩|⟨h,n1,h'⟩
     ·skip;refine Az fun K hK=>?_;refine xJ ?_;simp[AP,t4,t5,t6,t7,t8,h];((refine Dp rfl (by simp;try rfl) ?_);simp);refine xJ ?_;simp[t4,t5,t6,t7];((refine Dp rfl (by simp;try rfl) ?_);simp);refine xJ ?_;simp;refine Aj (hK _ _ ?_);refine AU ?_;simp;refine xW fun K hK=>?_;simp;apply hK;refine Ag ⟨_,_,AJ.refl,?_⟩;(try simp);simp[hr]
     ·skip;refine Az fun K hK=>?_;refine xJ ?_;simp[AP,t4,t5,t6,t7,t8,h,n1,h'];((refine Dp rfl (by simp;try rfl) ?_);simp);refine xJ ?_;simp[t4,t5,t6,t7,n1,h'];((refine Dp rfl (by simp;try rfl) ?_);simp);refine xJ ?_;simp[h'];refine Aj (hK _ _ ?_);refine AU ?_;simp[h'];refine xW fun K hK=>?_;simp;apply hK;refine Ag ⟨_,_,AJ.refl,?_⟩;(try simp);simp[hr]
     ·skip;refine Az fun K hK=>?_;refine xJ ?_;simp[AP,t4,t5,t6,t7,t8,h,n1,h',h2];((refine Dp rfl (by simp;try rfl) ?_);simp);refine xJ ?_;simp[t4,t5,t6,t7,n1,h2];((refine Dp rfl (by simp;try rfl) ?_);simp);refine xJ ?_;simp[h2];refine Aj (hK _ _ ?_);refine AU ?_;simp[h2];refine xW fun K hK=>?_;simp;apply hK;refine Ag ⟨_,_,AJ.refl,?_⟩;(try simp);simp[hr]
     ·skip;refine Az fun K hK=>?_;refine xJ ?_;simp[AP,t4,t5,t6,t7,t8,h,n1,h'];((refine Dp rfl (by simp[h'];try rfl) ?_);simp);refine xJ ?_;simp[t4,t5,t6,t7,n1,h'];((refine Dp rfl (by simp;try rfl) ?_);simp);refine xJ ?_;simp;refine Aj (hK _ _ ?_);refine AU ?_;simp;refine xW fun K hK=>?_;simp;apply hK;refine Ag ⟨_,_,AJ.refl,?_⟩;(try simp);simp[hr]
    ·have ig:Ps x=true:=by grind
     have hn:Bu x.kind=0∧x.a=0∧x.b=0∨Bu x.kind=1∧x.b=0∨Bu x.kind=2:=by
      have:=IV x.kind;have:=@Qc x;grind
     rcases hn with⟨n1,n2,n3⟩|⟨n1,n3⟩|n1
     ·have gy:EK u i x=some u:=by simp[EK,ig,n1,n2,n3]
      refine Az fun K hK=>?_;refine xJ ?_;simp[AP,ig,n1,n2,n3,t4,t5,t6,t7,t8];((refine Dp rfl (by simp;try rfl) ?_);simp);refine xJ ?_;simp[n1,t4,t5,t6,t7];((refine Dp rfl (by simp;try rfl) ?_);simp);refine xJ ?_;simp;refine Aj (hK _ _ ?_);refine AU ?_;simp;refine CC ?_;refine xV fun K hK=>?_;simp[t19];apply hK;refine⟨cx,_,_,AJ.drop 2 (by simp) (by simp) (by simp),?_⟩;rw[oH,gy];simp[clean,t0,t3,t4,t17,t18,AQ cx a1]
     ·have pe:=mN;refine Az fun K hK=>?_;refine xJ ?_;simp[AP,t4,t5,t6,t7,t8,ig,n1,n3];refine AS.KR (Px u x.a i (by omega)) [1,0] rfl rfl (by simp[Md,mN];try rfl) ?_;simp[Md];cases oI:GC u x.a i with
      |none=>
       have hr:=ma (by simp[EK,ig,n1,n3,oI]);refine xJ ?_;simp[t4,t5,t6,t7,n1];((refine Dp rfl (by simp;try rfl) ?_);simp);refine xJ ?_;simp;refine Aj (hK _ _ ?_);refine AU ?_;simp;refine xW fun K hK=>?_;simp;apply hK;refine Ag ⟨_,_,AJ.refl,?_⟩;(try simp);simp[hr]
      |some v=>
       have gy:EK u i x=some v:=by simp[EK,ig,n1,n3,oI]
       refine xJ ?_;simp[t4,t5,t6,t7,n1];((refine Dp rfl (by simp;try rfl) ?_);simp);refine xJ ?_;simp;refine Aj (hK _ _ ?_);refine AU ?_;simp;refine CC ?_;refine xV fun K hK=>?_;simp[t19];apply hK;refine⟨cx,_,_,AJ.drop 2 (by simp) (by simp) (by simp),?_⟩;rw[oH,gy];simp[clean,t0,t3,t4,t17,t18,AQ cx a1,DY oI,mN]
     ·refine Az fun K hK=>?_;refine xJ ?_;simp[AP,t4,t5,t6,t7,t8,ig,n1];refine AS.KR (Px u x.a i (by omega)) [1,0] rfl rfl (by simp[Md,mN];try rfl) ?_;simp[Md];cases oI:GC u x.a i with
      |none=>
       have hr:=ma (by simp[EK,ig,n1,oI]);refine xJ ?_;simp[t4,t5,t6,t7,n1];((refine Dp rfl (by simp;try rfl) ?_);simp);refine xJ ?_;simp;refine Aj (hK _ _ ?_);refine AU ?_;simp;refine xW fun K hK=>?_;simp;apply hK;refine Ag ⟨_,_,AJ.refl,?_⟩;(try simp);simp[hr]
      |some v=>
       have pe:=DY oI;refine xJ ?_;simp[t4,t5,t6,t7,n1];refine AS.KR (Px v x.b i (by omega)) [1,0] rfl rfl (by simp[Md,mN,pe];try rfl) ?_;simp[Md,mN,pe];cases ub:GC v x.b i with
       |none=>
        have hr:=ma (by simp[EK,ig,n1,oI,ub]);refine xJ ?_;simp;refine Aj (hK _ _ ?_);refine AU ?_;simp;refine xW fun K hK=>?_;simp;apply hK;refine Ag ⟨_,_,AJ.refl,?_⟩;(try simp);simp[hr]
       |some v2=>
        have gy:EK u i x=some v2:=by simp[EK,ig,n1,oI,ub]
        refine xJ ?_;simp;refine Aj (hK _ _ ?_);refine AU ?_;simp;refine CC ?_;refine xV fun K hK=>?_;simp[t19];apply hK;refine⟨cx,_,_,AJ.drop 2 (by simp) (by simp) (by simp),?_⟩;rw[oH,gy];simp[clean,t0,t3,t4,t17,t18,AQ cx a1,DY oI,DY ub,mN]
  ·have iD:i=p.length:=by omega
   subst iD;have kB:AAq p=if p=[]∨(u.take (p.length - 1)).any (fun b=>!b)=true then 40 else 0:=by simp[AAq,qg,hu]
   have hw:IntKind.wrap .i64 ((p.length:Int) - 1)=p.length - 1:=by rw[Go.IntKind.wrap_i64];omega
   refine Cu ?_;refine xS (xW fun K hK=>?_);simp[t0,hw];apply hK;refine Bw ?_;refine DC (p.length - 1) (fun k tm S=>(∀j (h:j<k) (h':j<u.length),u[j]=true)∧tm 0=.d (Ax p)∧tm 3=.ptr 1 1 0 0∧tm 104=.d (.int .i64 ((p.length:Int) - 1))∧tm 105=.d (.int .i64 k)∧S=[.row true 1 (u.map fun b=>.d (.bool b)),.row true 1 [.row 0 p.length]]) (i0:=0) (Nat.zero_le _) (by simp[t0,t3]) ?_;rintro k tm S hk ⟨gg,t0,t3,t104,t105,rfl⟩;refine xW fun K hK=>?_;simp[t104,t105];apply hK;refine xC ?_;simp;refine⟨fun cx=>?_,fun hO=>?_⟩
   ·have vD:k<u.length:=by omega
    have iN:k<p.length - 1:=by omega
    refine xK ?_;refine xB ?_;(repeat refine xS ?_);refine xV fun K hK=>?_;simp[t105];refine hK _ _ ?_;(try simp only[xQ,reduceIte]);have wS:k<p.length:=by omega
    (repeat refine xS ?_);refine xV fun K hK=>?_;simp[t3,wS,mN];refine hK _ _ ?_;(try simp only[xQ,reduceIte]);cases hb:u[k]with
    |false=>
     refine AU ?_;simp;refine xW fun K hK=>?_;simp;apply hK;refine Ag ⟨_,_,AJ.refl,?_⟩;(try simp);have:(u.take (p.length - 1)).any (fun b=>!b)=true:=by
      rw[List.any_eq_true];exact⟨u[k],List.mem_iff_getElem.2 ⟨k,by simp;omega,by simp⟩,by simp[hb]⟩
     simp[kB,this]
    |true=>
     refine AU ?_;simp;refine CC ?_;refine xV fun K hK=>?_;simp[t105];apply hK;refine⟨iN,_,_,AJ.refl,?_⟩;simp[t0,t3,t104,AQ vD (by omega:u.length≤maxLen)];intro j hj jL;by_cases e:j=k
     ·subst e;exact hb
     ·exact gg j (by omega) jL
   ·refine Cu ?_;refine xS (xW fun K hK=>?_);simp[t0];apply hK;by_cases nP:p=[]
    ·subst nP;refine AU ?_;simp;refine xW fun K hK=>?_;simp;apply hK;refine Ag ⟨_,_,AJ.refl,?_⟩;(try simp);simp[kB]
    ·have mv:p.length≠0:=by simpa using nP
     have oJ:¬(p.length:Int)=0:=by omega
     have gy:(u.take (p.length - 1)).any (fun b=>!b)=false:=by
      rw[List.any_eq_false];intro b hb;obtain⟨j,hj,rfl⟩:=List.mem_iff_getElem.1 hb;simp at hj;simp[gg j (by omega) (by omega)]
     refine AU ?_;simp[nP];refine xK ?_;refine xW fun K hK=>?_;simp;apply hK;refine Ag ⟨_,_,AJ.refl,?_⟩;(try simp);simp[kB,gy,nP]
open Go.Proofs Tryz DT
def YV(w:Nat):D:=.int .u64 w
theorem Vw(n:Nat):IntKind.u64.wrap (n:Int)=((n % 18446744073709551616:Nat):Int):=by rw[Go.IntKind.wrap_u64];omega
theorem Tp{n:Nat}(h:n<2 ^ 64):IntKind.u64.wrap (n:Int)=(n:Int):=by rw[Vw,Nat.mod_eq_of_lt (by omega)]
theorem u64_and(a b:Nat)(ha:a<2 ^ 64)(hb:b<2 ^ 64):IntKind.u64.wrap ((a % 2 ^ IntKind.u64.bits&&& b % 2 ^ IntKind.u64.bits:Nat):Int)=((a&&& b:Nat):Int):=by
 have e:IntKind.u64.bits=64:=rfl;have hx:a&&& b<2 ^ 64:=Nat.and_lt_two_pow _ (by omega);rw[e,Nat.mod_eq_of_lt ha,Nat.mod_eq_of_lt hb,Vw,Nat.mod_eq_of_lt (by omega)]
theorem u64_or(a b:Nat)(ha:a<2 ^ 64)(hb:b<2 ^ 64):IntKind.u64.wrap ((a % 2 ^ IntKind.u64.bits|||b % 2 ^ IntKind.u64.bits:Nat):Int)=((a|||b:Nat):Int):=by
 have e:IntKind.u64.bits=64:=rfl;have hx:a|||b<2 ^ 64:=Nat.or_lt_two_pow (by omega) (by omega);rw[e,Nat.mod_eq_of_lt ha,Nat.mod_eq_of_lt hb,Vw,Nat.mod_eq_of_lt (by omega)]
theorem YJ{w:Nat}(hw:w<2 ^ 64)(h0:w≠0):IntKind.u64.wrap ((w % 2 ^ IntKind.u64.bits&&& (IntKind.u64.wrap (-(w:Int)) % 2 ^ IntKind.u64.bits).toNat:Nat):Int)=((2 ^ Lib.ctz 64 w:Nat):Int):=by
 have e1:(IntKind.u64.wrap (-(w:Int)) % 2 ^ IntKind.u64.bits).toNat=(2 ^ 64 - w) % 2 ^ IntKind.u64.bits:=by
  have e:IntKind.u64.bits=64:=rfl;rw[e,Go.IntKind.wrap_u64];omega
 rw[e1,u64_and w (2 ^ 64 - w) hw (by omega),(Lib.lowest_bit 64 w h0 hw).1]
theorem Zj(q:Nat):((q:Int).fdiv (2 ^ min 58 IntKind.u64.bits))=((q / 288230376151711744:Nat):Int):=by
 have e:min 58 IntKind.u64.bits=58:=by decide
 rw[e,Int.fdiv_eq_ediv_of_nonneg _ (by decide)];have e2:(2:Int) ^ 58=288230376151711744:=by decide
 rw[e2];omega
theorem Ze{j k:Nat}(h:Lib.deBruijn64tab.getD j 0=k):BY.getD (j:Int).toNat 0=(k:Int):=by
 have:BY=Lib.deBruijn64tab.map fun(n:Nat)=>(n:Int):=by decide
 rw[this,←h,Int.toNat_natCast];simp only[List.getD_eq_getElem?_getD,List.getElem?_map];cases Lib.deBruijn64tab[j]?<;>rfl
theorem aD(w:Nat)(hw:w<2 ^ 64):Pure prog 233 [YV w] (AG (Lib.ctz 64 w)):=by
 refine Pure.AI func233 (by kernel_rfl) rfl (by simp) fun wf=>?_;rw[ntmps233];unfold YV;refine xW fun K hK=>?_;simp;apply hK;refine xS (xW fun K hK=>?_);simp;apply hK;by_cases h0:w=0
 ·subst h0;refine AU ?_;simp;refine xW fun K hK=>?_;simp;apply hK;refine Ag ⟨_,_,AJ.refl,?_⟩;(try simp);simp[Lib.ctz]
 ·have pf:¬(w:Int)=0:=by omega
  refine AU ?_;simp[h0];refine xK ?_;(repeat refine xS ?_);refine BX fun K hK=>?_;(repeat(refine B7 ?_ ?_;(·simp);simp));refine AS.neg (k:=.u64) (i:=w) rfl rfl (by simp) (by simp) ?_;simp;refine xO ?_;simp;obtain⟨oE,hk⟩:=Lib.lowest_bit 64 w h0 hw;obtain⟨hi,uc⟩:=Lib.deBruijn64_at _ hk;rw[YJ hw h0];generalize n9:Lib.ctz 64 w=k at *;generalize ud:2 ^ k=a at *;have hm:IntKind.u64.wrap ((a:Int) * 285870213051353865)=((a * 285870213051353865 % 18446744073709551616:Nat):Int):=by rw[Go.IntKind.wrap_u64];omega
  refine xO ?_;simp;rw[hm];generalize hq:a * 285870213051353865 % 18446744073709551616=q at *;refine xO ?_;simp;rw[Zj];generalize hj:q / 288230376151711744=j at *;(refine AS.aq (E:=5) (k:=.u64) (i:=j) rfl rfl (by kernel_rfl) (by simp) (by simp) (by simp) (by simp) (by omega) (by omega) ?_);rw[Ze uc];simp;have jN:IntKind.i64.wrap (k:Int)=k:=by rw[Go.IntKind.wrap_i64];omega
  refine xJ ?_;simp[jN];refine Aj (hK _ _ ?_);(try simp only[xQ,reduceIte]);refine Ag ⟨_,_,AJ.refl,?_⟩;try simp
def EI(ws:List Nat):List V:=ws.map fun(w:Nat)=>.d (.int .u64 (w:Int))
def Co(ws:List Nat):V:=.agg (EI ws)
def Fq(ws:List Nat):Prop:=ws.length=8∧∀w∈ws,w<2 ^ 64
def GZ(ws:List Nat)(i:Nat):List Nat:=ws.set (i / 64) (ws.getD (i / 64) 0|||2 ^ (i % 64))
theorem Fq.get{ws:List Nat}(h:Fq ws)(k:Nat)(hk:k<8):∃w,ws[k]?=some w∧w<2 ^ 64:=by
 have hl:k<ws.length:=by rw[h.1];exact hk
 exact⟨ws[k],by simp[hl],h.2 _ (List.getElem_mem hl)⟩
theorem Qi{ws:List Nat}(h:Fq ws)(i:Nat)(hi:i<512):Fq (GZ ws i):=by
 obtain⟨w,h1,h2⟩:=h.get (i / 64) (by omega);refine⟨by simp[GZ,h.1],fun x hx=>?_⟩;unfold GZ at hx;rcases List.mem_or_eq_of_mem_set hx with h3|h3
 ·exact h.2 _ h3
 ·rw[h3];simp[h1];exact Nat.or_lt_two_pow h2 (Nat.pow_lt_pow_right (by omega) (by omega))
theorem Xg{els:List V}{k:Nat}{e:V}{ws:List Nat}(he:els[k]?=some e)(hc:AAF e=EI ws)(ha:Ar e=true)(hw:Fq ws)(i:Nat)(hi:i<512):
  AE prog 227 [.ptr 0 els.length k 0,.d (AG i)] [.row true 8 els] (.Bd []) [.row true 8 (els.set k (Co (GZ ws i)))]:=by
 refine AE.AI func227 (by kernel_rfl) rfl (by simp) fun wf _=>?_;rw[ntmps227];obtain⟨w,jz,jm⟩:=hw.get (i / 64) (by omega);have hk:k<els.length:=by
  rcases Nat.lt_or_ge k els.length with h|h
  ·exact h
  ·rw[List.getElem?_eq_none h]at he;cases he
 have oK:GZ ws i=ws.set (i / 64) (ws.getD (i / 64) 0|||2 ^ (i % 64)):=rfl;obtain⟨q,hq⟩:∃q,i / 64=q:=⟨_,rfl⟩;obtain⟨r,hr⟩:∃r,i % 64=r:=⟨_,rfl⟩;rw[hq]at jz;rw[hq,hr]at oK;have hd:IntKind.i64.wrap ((i:Int) / 64)=(q:Int):=by rw[Go.IntKind.wrap_i64];omega
 have hm:(i:Int).tmod 64=(r:Int):=by rw[Int.tmod_eq_emod_of_nonneg (by omega)];omega
 have hj:q<8:=by omega
 have jL:(q:Int)<8:=by omega
 have iY:(EI ws).length=8:=by simp[EI,hw.1]
 have hp:(EI ws)[q]?=some (.d (.int .u64 w)):=by simp[EI,jz]
 have mw:q≤7:=by omega
 obtain rfl:els[k]=e:=by rw[List.getElem?_eq_getElem hk]at he;exact Option.some.inj he
 have h2:IntKind.u64.wrap (2 ^ min r IntKind.u64.bits)=((2 ^ r:Nat):Int):=by
  have e:min r IntKind.u64.bits=r:=by have:IntKind.u64.bits=64:=rfl;omega
  have:2 ^ r<2 ^ 64:=Nat.pow_lt_pow_right (by omega) (by omega);rw[e,←Tp this];simp
 have ue:2 ^ r<2 ^ 64:=Nat.pow_lt_pow_right (by omega) (by omega);rw[oK];generalize 2 ^ r=z at *;have h3:=u64_or w z jm ue;refine xE [0,2,4,6,8,10,12,14,16,18,20,22,25] (by kernel_rfl) fun K hK=>?_;simp;(iterate 10 (refine Ga (by simp[hk,jL,mw,hc,iY,ha]) ?_;simp[hd,hm,hk,hc,hp,h2,h3]));refine xA 1 ?_;simp[hk,jL];refine xX 4093 (by kernel_rfl) ?_;simp[hk,jL,mw,hc,iY,ha,AR];have iF:List.take q (EI ws)++V.d (D.int .u64 ((w|||z:Nat):Int))::List.drop (q+1) (EI ws)=EI (ws.set q (ws.getD q 0|||z)):=by
  rw[show EI (ws.set q (ws.getD q 0|||z))=(EI ws).set q (V.d (D.int .u64 ((w|||z:Nat):Int)))from by simp[EI,List.map_set,jz],List.set_eq_take_append_cons_drop,if_pos (by omega)]
 rw[iF];refine xM (hK _ _ ?_);refine⟨_,AJ.refl,?_⟩;simp[Am]
def HX(ss ts:List Nat):List Nat:=List.zipWith (·|||·) ss ts
theorem It{ss ts:List Nat}(h:Fq ss)(h':Fq ts):Fq (HX ss ts):=by
 refine⟨by simp[HX,h.1,h'.1],fun x hx=>?_⟩;obtain⟨j,hj,rfl⟩:=List.mem_iff_getElem.1 hx;simp[HX]at hj⊢;exact Nat.or_lt_two_pow (h.2 _ (List.getElem_mem _)) (h'.2 _ (List.getElem_mem _))
def Jp(ss ts:List Nat)(j:Nat):List Nat:=(HX ss ts).take j++ss.drop j
theorem Sn(ss ts:List Nat):Jp ss ts 0=ss:=by simp[Jp]
theorem WN{ss ts:List Nat}(h:Fq ss):Jp ss ts 8=HX ss ts:=by
 have h1:(HX ss ts).take 8=HX ss ts:=List.take_of_length_le (by simp[HX,h.1];omega);have h2:ss.drop 8=[]:=List.drop_eq_nil_of_le (by rw[h.1];exact Nat.le_refl _);simp[Jp,h1,h2]
theorem Xf{ss ts:List Nat}(h:Fq ss)(h':Fq ts)(j:Nat)(hj:j≤8):Fq (Jp ss ts j):=by
 refine⟨by simp[Jp,HX,h.1,h'.1];omega,fun x hx=>?_⟩;rcases List.mem_append.1 hx with h1|h1
 ·exact(It h h').2 _ (List.mem_of_mem_take h1)
 ·exact h.2 _ (List.mem_of_mem_drop h1)
theorem XU{ss ts:List Nat}(h:Fq ss)(h':Fq ts)(j:Nat)(hj:j<8):(Jp ss ts j)[j]?=ss[j]?:=by
 have:(List.take j (HX ss ts)).length=j:=by simp[HX,h.1,h'.1];omega
 unfold Jp;rw[List.getElem?_append_right (by omega),this];simp
theorem RF{ss ts:List Nat}(h:Fq ss)(h':Fq ts){j w z:Nat}(hj:j<8)(hw:ss[j]?=some w)(hz:ts[j]?=some z):Jp ss ts (j+1)=(Jp ss ts j).set j (w|||z):=by
 have hl:(List.take j (HX ss ts)).length=j:=by simp[HX,h.1,h'.1];omega
 have ho:(HX ss ts)[j]?=some (w|||z):=by simp[HX,List.getElem?_zipWith,hw,hz]
 have hd:ss.drop j=w::ss.drop (j+1):=by
  have iV:j<ss.length:=by rw[h.1];exact hj
  rw[List.drop_eq_getElem_cons iV];have:ss[j]=w:=by rw[List.getElem?_eq_getElem iV]at hw;exact Option.some.inj hw
  rw[this]
 unfold Jp;rw[List.take_add_one,ho,hd];rw[List.set_append_right _ _ (by omega),hl];simp
theorem XX{ws:List Nat}{j w:Nat}(h:ws[j]?=some w):(EI ws)[j]?=some (.d (.int .u64 (w:Int))):=by simp[EI,h]
theorem HC{ws:List Nat}{j w:Nat}(h:ws[j]?=some w)(hl:j<(EI ws).length):(EI ws)[j]=.d (.int .u64 (w:Int)):=by
 have:=XX h;rw[List.getElem?_eq_getElem hl]at this;exact Option.some.inj this
theorem BG{ws:List Nat}(h:Fq ws):(EI ws).length=8:=by simp[EI,h.1]
theorem XN{ws:List Nat}{q z:Nat}(h:Fq ws)(hq:q<8):List.take q (EI ws)++V.d (D.int .u64 (z:Int))::List.drop (q+1) (EI ws)=EI (ws.set q z):=by
 rw[show EI (ws.set q z)=(EI ws).set q (V.d (D.int .u64 (z:Int)))from by simp[EI,List.map_set],List.set_eq_take_append_cons_drop,if_pos (by rw[BG h];exact hq)]
theorem Gl(n:Nat):∀ws:List Nat,AAI n (EI ws)=true
 |[]=>rfl
 |w::ws=>by have:=Gl n ws;simp only[EI,List.map_cons]at *;simp[AAI]
theorem I3(n:Nat)(ws:List Nat):AAB n (Co ws)=true:=by
 unfold Co;exact Gl n ws
theorem Ee(n:Nat):∀fs:List (List Nat),AAI n (fs.map Co)=true
 |[]=>rfl
 |w::ws=>by simp only[List.map_cons];simp[AAI,I3];exact Ee n ws
theorem WD{els:List V}{k:Nat}{ss ts:List Nat}(he:els[k]?=some (Co ss))(hs:Fq ss)(ht:Fq ts)(iC:∀v,AAB 1 v=true→AAI 1 (els.set k v)=true):
  AE prog 225 [.ptr 0 els.length k 0,Co ts] [.row true 8 els] (.Bd []) [.row true 8 (els.set k (Co (HX ss ts)))]:=by
 refine AE.AI func225 (by kernel_rfl) rfl (by simp) fun wf _=>?_;rw[ntmps225];have hk:k<els.length:=by
  rcases Nat.lt_or_ge k els.length with h|h
  ·exact h
  ·rw[List.getElem?_eq_none h]at he;cases he
 have mJ:els=els.set k (Co ss):=by
  apply List.ext_getElem?;intro j;by_cases hjk:k=j
  ·subst hjk;rw[he];simp[hk]
  ·simp[hjk]
 have jA:=BG ht;refine xW fun K hK=>?_;simp[Co,jA];apply hK;refine xW fun K hK=>?_;simp;apply hK;refine Bw ?_;refine DC 8 (fun j tm S=>tm 0=.ptr 0 els.length k 0∧tm 3=.ptr 1 1 0 0∧tm 5=.d (.int .i64 j)∧S=[.row true 8 (els.set k (Co (Jp ss ts j))),.row true 8 [Co ts]]) (i0:=0) (Nat.zero_le _) (by simp[Sn,Co];exact mJ) ?_;rintro j tm S hj ⟨t0,t3,t5,rfl⟩;have kI:=Xf hs ht j hj;have qO:=BG kI;refine xW fun K hK=>?_;simp[t5];apply hK;refine xC ?_;simp;refine⟨fun cx=>?_,fun hO=>?_⟩
 ·have js:j<8:=by omega
  obtain⟨w,hw,jm⟩:=hs.get j js;obtain⟨z,hz,qh⟩:=ht.get j js;have vE:=XU hs ht j js;rw[hw]at vE;have ka:=RF hs ht js hw hz;have h3:=u64_or w z jm qh;have mv:=HC vE (by omega);have oJ:=HC hz (by omega);have mw:j≤7:=by omega
  have iF:=XN (z:=w|||z) kI js;rw[←ka]at iF;refine xK ?_;refine xB ?_;refine xW fun K hK=>?_;simp[t5];apply hK;refine xE [0,2,4,6,8,10,12,14,16,18,20,23] (by kernel_rfl) fun K hK=>?_;simp;(iterate 9 (refine Ga (by simp[t3,hk,mw,cx,qO,jA,Co]) ?_;simp[t0,t3,hk,js,cx,qO,jA,mv,oJ,h3,Co]));refine xA 1 ?_;simp[hk,cx];refine xX 2045 (by kernel_rfl) ?_;simp[hk,mw,cx,qO,AR];rw[iF];refine xM (hK _ _ ?_);refine xV fun K hK=>?_;simp[t5];apply hK;refine⟨js,_,_,AJ.refl,?_⟩;simp[t0,t3,Co];exact AQ js (by simp[maxLen])
 ·have js:j=8:=by omega
  subst js;refine Cu ?_;rw[WN hs];refine⟨_,AJ.AY 1 (by simp) (by simp) (by simp) (by simp;exact iC _ (I3 _ _)),?_⟩;simp[Am]
def GX(fs:List (List Nat)):O:=.row true 8 (fs.map Co)
theorem JT{n:Nat}{v:V}(hv:AAB n v=true):∀{l:List V} {k:Nat},AAI n l=true→AAI n (l.set k v)=true
 |[],_,_=>rfl
 |x::l,0,h=>by simp[AAI]at h⊢;exact⟨hv,h.2⟩
 |x::l,k+1,h=>by simp[AAI]at h⊢;exact⟨h.1,JT hv h.2⟩
theorem QU{fs:List (List Nat)}{k:Nat}{ss ts:List Nat}(he:fs[k]?=some ss)(hs:Fq ss)(ht:Fq ts):
  AE prog 225 [.ptr 0 fs.length k 0,Co ts] [GX fs] (.Bd []) [GX (fs.set k (HX ss ts))]:=by
 have:=WD (els:=fs.map Co) (k:=k) (by simp[he]) hs ht fun v hv=>JT hv (Ee _ _);simpa[GX,List.map_set]using this
theorem QZ{fs:List (List Nat)}{k:Nat}{ws:List Nat}(he:fs[k]?=some ws)(hw:Fq ws)(i:Nat)(hi:i<512):
  AE prog 227 [.ptr 0 fs.length k 0,.d (AG i)] [GX fs] (.Bd []) [GX (fs.set k (GZ ws i))]:=by
 have:=Xg (els:=fs.map Co) (k:=k) (e:=Co ws) (ws:=ws) (by simp[he]) (by simp[Co]) (by simp[Co]) hw i hi;simpa[GX,List.map_set]using this
open Go.Proofs Tryz DT
def Gy(base w:Nat):List Nat:=((List.range 64).filter fun i=>w.testBit i).map (base+ ·)
theorem Ij{p q:Nat→Bool}{c:Nat}(hp:p c=true)(hq:q c=false)(hl:∀j<c,p j=false∧q j=false)(hg:∀j,c<j→p j=q j):∀n,c<n→(List.range n).filter p=c::(List.range n).filter q
 |0,h=>by omega
 |n+1,h=>by
  rw[List.range_succ,List.filter_append,List.filter_append];by_cases hc:c<n
  ·rw[Ij hp hq hl hg n hc];have:=hg n hc;simp[List.filter,this]
  ·obtain rfl:c=n:=by omega
   have e1:(List.range c).filter p=[]:=List.filter_eq_nil_iff.2 fun j hj=>by simp[(hl j (by simpa using hj)).1]
   have e2:(List.range c).filter q=[]:=List.filter_eq_nil_iff.2 fun j hj=>by simp[(hl j (by simpa using hj)).2]
   simp[e1,e2,List.filter,hp,hq]
theorem QR{w:Nat}(hw:w<2 ^ 64)(h0:w≠0):∃m,w=2 ^ Lib.ctz 64 w * (2 * m+1)∧w&&& (w - 1)=2 ^ Lib.ctz 64 w * (2 * m)∧Lib.ctz 64 w<64:=by
 obtain⟨m,hm,hk⟩:=Lib.ctzFrom_spec 64 w (by omega) hw;have e:Lib.ctz 64 w=Lib.ctzFrom 64 w:=by simp[Lib.ctz,h0]
 rw[e];generalize Lib.ctzFrom 64 w=c at *;refine⟨m,hm,?_,hk⟩;have ki:0<2 ^ c:=Nat.two_pow_pos c;have h1:w - 1=2 ^ c * (2 * m)+(2 ^ c - 1):=by rw[hm,Nat.mul_add];omega
 apply Nat.eq_of_testBit_eq;intro j;have t1:w.testBit j=if j<c then false else(2 * m+1).testBit (j - c):=by
  have:=Nat.testBit_two_pow_mul_add (2 * m+1) (b:=0) (i:=c) ki j;rw[Nat.add_zero,←hm]at this;simpa using this
 have t2:(w - 1).testBit j=if j<c then(2 ^ c - 1).testBit j else(2 * m).testBit (j - c):=by
  rw[h1];exact Nat.testBit_two_pow_mul_add _ (by omega) j
 have t3:(2 ^ c * (2 * m)).testBit j=if j<c then false else(2 * m).testBit (j - c):=by
  have:=Nat.testBit_two_pow_mul_add (2 * m) (b:=0) (i:=c) ki j;simpa using this
 rw[Nat.testBit_and,t1,t2,t3];by_cases hj:j<c
 ·simp[hj]
 ·simp only[hj,if_false];cases hjc:j - c with
  |zero=>simp
  |succ d=>rw[Nat.testBit_succ,Nat.testBit_succ];simp[show(2 * m+1) / 2=m by omega]
theorem P7(base:Nat):Gy base 0=[]:=by
 simp[Gy]
theorem Oq(base:Nat){w:Nat}(hw:w<2 ^ 64)(h0:w≠0):Gy base w=(base+Lib.ctz 64 w)::Gy base (w&&& (w - 1)):=by
 obtain⟨m,hm,ha,hk⟩:=QR hw h0;generalize Lib.ctz 64 w=c at *;have ki:0<2 ^ c:=Nat.two_pow_pos c;have t1:∀j,w.testBit j=if j<c then false else(2 * m+1).testBit (j - c):=fun j=>by
  have:=Nat.testBit_two_pow_mul_add (2 * m+1) (b:=0) (i:=c) ki j;rw[Nat.add_zero,←hm]at this;simpa using this
 have t3:∀j,(2 ^ c * (2 * m)).testBit j=if j<c then false else(2 * m).testBit (j - c):=fun j=>by
  have:=Nat.testBit_two_pow_mul_add (2 * m) (b:=0) (i:=c) ki j;simpa using this
 have:=Ij (p:=fun i=>w.testBit i) (q:=fun i=>(2 ^ c * (2 * m)).testBit i) (c:=c) (by simp[t1]) (by simp[t3]) (fun j hj=>by simp[t1,t3,hj]) (fun j hj=>by
  have h:¬j<c:=by omega
  obtain⟨d,hd⟩:∃d,j - c=d+1:=⟨j - c - 1,by omega⟩;simp only[t1,t3,h,if_false,hd];rw[Nat.testBit_succ,Nat.testBit_succ,show(2 * m+1) / 2=m by omega,show(2 * m) / 2=m by omega]) 64 hk
 unfold Gy;rw[ha,this];rfl
theorem UI{w:Nat}(hw:w<2 ^ 64)(h0:w≠0):w&&& (w - 1)<w:=by
 have:=Nat.and_le_right (n:=w) (m:=w - 1);omega
def Ig(ws:List Nat)(k:Nat):List Nat:=((List.range 8).drop k).flatMap fun k=>Gy (64 * k) (ws.getD k 0)
def Dv(ws:List Nat):List Nat:=Ig ws 0
theorem PM{ws:List Nat}{k w:Nat}(hk:k<8)(hw:ws[k]?=some w):Ig ws k=Gy (64 * k) w++Ig ws (k+1):=by
 unfold Ig;rw[List.drop_eq_getElem_cons (by simpa using hk)];simp[hw]
theorem RV(ws:List Nat):Ig ws 8=[]:=rfl
def Hf(ss ts:List Nat):Bool:=(List.zipWith (fun a b=>a&&& b) ss ts).any fun x=>!decide (x=0)
theorem Us{fs:List (List Nat)}{k:Nat}{ss ts:List Nat}(he:fs[k]?=some ss)(hs:Fq ss)(ht:Fq ts):
  AE prog 229 [.ptr 0 fs.length k 0,Co ts] [GX fs] (.d (.bool (Hf ss ts))) [GX fs]:=by
 refine AE.AI func229 (by kernel_rfl) rfl (by simp) fun wf _=>?_;rw[ntmps229];have hk:k<fs.length:=by
  rcases Nat.lt_or_ge k fs.length with h|h
  ·exact h
  ·rw[List.getElem?_eq_none h]at he;cases he
 obtain rfl:fs[k]=ss:=by rw[List.getElem?_eq_getElem hk]at he;exact Option.some.inj he
 have jA:=BG ht;have mO:=BG hs;unfold GX;refine xW fun K hK=>?_;simp[Co,jA];apply hK;refine xS (xW fun K hK=>?_);simp;apply hK;refine Bw ?_;refine DC 8 (fun j tm S=>tm 0=.ptr 0 fs.length k 0∧tm 3=.ptr 1 1 0 0∧tm 6=.d (.int .i64 j)∧S=[.row true 8 (fs.map Co),.row true 8 [Co ts]]∧(∀i (h:i<j),fs[k].getD i 0&&& ts.getD i 0=0)) (i0:=0) (Nat.zero_le _) (by simp[Co]) ?_;rintro j tm S hj ⟨t0,t3,t6,rfl,gg⟩;refine xW fun K hK=>?_;simp[t6];apply hK;refine xC ?_;simp;refine⟨fun cx=>?_,fun hO=>?_⟩
 ·have js:j<8:=by omega
  obtain⟨w,hw,jm⟩:=hs.get j js;obtain⟨z,hz,qh⟩:=ht.get j js;have h3:=u64_and w z jm qh;have mv:=HC hw (by omega);have oJ:=HC hz (by omega);have mw:j≤7:=by omega
  have dI:((((w&&& z:Nat):Int))!=0)=!decide (w&&& z=0):=by
   by_cases h:w&&& z=0
   ·simp[h]
   ·have:¬((w&&& z:Nat):Int)=0:=by omega
    simp[h]
  refine xK ?_;refine xB ?_;refine xW fun K hK=>?_;simp[t6];apply hK;(repeat refine xS ?_);refine xE [0,2,4,6,8,10,12,14,16,18] (by kernel_rfl) fun K hK=>?_;simp;refine xA 0 ?_;simp[t0,t3,hk,js,mw,cx,mO,jA,mv,oJ,h3,Co,dI];refine xM (hK _ _ ?_);(try simp only[xQ,reduceIte]);by_cases lX:w&&& z=0
  ·refine AU ?_;simp[lX];refine CC ?_;refine xV fun K hK=>?_;simp[t6];apply hK;refine⟨js,_,_,AJ.refl,?_⟩;simp[t0,t3,Co,AQ js (by simp[maxLen])];intro i hi;by_cases e:i=j
   ·subst e;simp[hw,hz,lX]
   ·exact gg i (by omega)
  ·refine AU ?_;simp[lX];refine xW fun K hK=>?_;simp;apply hK;refine Ag ?_;(try simp only[xQ,reduceIte]);have hm:Hf fs[k] ts=true:=by
    unfold Hf;rw[List.any_eq_true];have h1:j<(List.zipWith (fun a b=>a&&& b) fs[k] ts).length:=by simp[hs.1,ht.1];omega
    refine⟨_,List.getElem_mem h1,?_⟩;have qI:j<fs[k].length:=by rw[hs.1];exact js
    have uf:j<ts.length:=by rw[ht.1];exact js
    have e1:fs[k][j]=w:=by rw[List.getElem?_eq_getElem qI]at hw;exact Option.some.inj hw
    have e2:ts[j]=z:=by rw[List.getElem?_eq_getElem uf]at hz;exact Option.some.inj hz
    simp[e1,e2,lX]
   rw[hm];refine⟨_,AJ.AY 1 (by simp) (by simp) (by simp) (by simp;exact Ee _ _),?_⟩;simp[Am,clean]
 ·have js:j=8:=by omega
  subst js;refine Cu ?_;refine xW fun K hK=>?_;simp;apply hK;refine Ag ?_;(try simp only[xQ,reduceIte]);have hm:Hf fs[k] ts=false:=by
   unfold Hf;rw[List.any_eq_false];intro x hx;obtain⟨i,hi,rfl⟩:=List.mem_iff_getElem.1 hx;have ug:i<8:=by simp[hs.1,ht.1]at hi;exact hi
   have qI:i<fs[k].length:=by rw[hs.1];exact ug
   have uf:i<ts.length:=by rw[ht.1];exact ug
   have:=gg i ug;simp[qI,uf]at this;simp[this]
  rw[hm];refine⟨_,AJ.AY 1 (by simp) (by simp) (by simp) (by simp;exact Ee _ _),?_⟩;simp[Am,clean]
def ZO{σ:Type}(enc:σ→Sg)(Good:σ→Prop)(step:σ→Nat→σ)(target:σ)(all rem:List Nat)(S:Sg):Prop:=∃s,S=enc s∧Good s∧rem.foldl step s=target∧∀b∈rem,b∈all
theorem e8{j c:Nat}(hj:j<8)(hc:c<64):IntKind.i64.wrap (IntKind.i64.wrap (64 * (j:Int))+(c:Int))=((64 * j+c:Nat):Int):=by rw[Go.IntKind.wrap_i64,Go.IntKind.wrap_i64];omega
theorem fO{m:Nat}(hm:m<2 ^ 64)(h0:m≠0):IntKind.u64.wrap ((m:Int) - 1)=((m - 1:Nat):Int):=by rw[Go.IntKind.wrap_u64];omega
theorem QB{σ:Type}(enc:σ→Sg)(Good:σ→Prop)(step:σ→Nat→σ)(ws:List Nat)(hw:Fq ws)(r:Nat)(f:FuncId)(caps:List V)
  (mo:∀s,Good s→(enc s)[r]?=some (.row true 8 [Co ws])) (hf:∀s b,b∈Dv ws→Good s→Good (step s b)∧AE prog f (.d (AG b)::caps) (enc s) (.Bd []) (enc (step s b))) (s0:σ) (h0:Good s0):
  AE prog 223 [.ptr r 1 0 0,.fn (.func f) [] caps] (enc s0) (.Bd []) (enc ((Dv ws).foldl step s0)):=by
 refine AE.AI func223 (by kernel_rfl) rfl (by simp) fun wf _=>?_;rw[ntmps223];have wT:=BG hw;refine xW fun K hK=>?_;simp;apply hK;refine Bw ?_;refine DC 8 (fun j tm S=>tm 1=.fn (.func f) [] caps∧tm 6=.ptr r 1 0 0∧tm 7=.d (.int .i64 j)∧ZO enc Good step ((Dv ws).foldl step s0) (Dv ws) (Ig ws j) S) (i0:=0) (Nat.zero_le _) (by simp;exact⟨s0,rfl,h0,rfl,fun _ h=>h⟩) ?_;rintro j tm S hj ⟨t1,t6,t7,s,rfl,hs,oc,jS⟩;refine xW fun K hK=>?_;simp[t7];apply hK;refine xC ?_;simp;refine⟨fun cx=>?_,fun hO=>?_⟩
 ·have js:j<8:=by omega
  have mw:j≤7:=by omega
  obtain⟨w,vF,jm⟩:=hw.get j js;have mv:=HC vF (by omega);have hr:=mo s hs;refine xK ?_;refine xB ?_;refine xD [0,2,4,6,8,10] (by kernel_rfl) fun K hK=>?_;simp;refine xA 0 ?_;simp[t6,t7,hr,cx,js,mw,wT,mv,Co];refine xM (hK _ _ ?_);refine Bw ?_;rw[PM js vF]at oc jS;refine AW.loop (fun m tm S=>m<2 ^ 64∧tm 1=.fn (.func f) [] caps∧tm 4=.d (.int .i64 j)∧tm 6=.ptr r 1 0 0∧tm 7=.d (.int .i64 j)∧tm 5=.d (.int .u64 (m:Int))∧ZO enc Good step ((Dv ws).foldl step s0) (Dv ws) (Gy (64 * j) m++Ig ws (j+1)) S) ⟨w,_,_,AJ.refl,jm,by simp[t1],by simp,by simp[t6],by simp[t7],by simp,s,rfl,hs,oc,jS⟩ ?_;rintro m tm S ⟨hm,t1,t4,t6,t7,t5,s,rfl,hs,oc,jS⟩;refine xS (xW fun K hK=>?_);simp[t5];apply hK;by_cases ib:m=0
  ·subst ib;rw[P7,List.nil_append]at oc jS;refine AU ?_;simp;refine Cu ?_;refine xV fun K hK=>?_;simp[t7];apply hK;refine⟨js,_,_,AJ.refl,?_⟩;simp[t1,t6,AQ js (by simp[maxLen])];exact⟨s,rfl,hs,oc,jS⟩
  ·have mh:¬(m:Int)=0:=by omega
   rw[Oq _ hm ib,List.cons_append]at oc jS;obtain⟨g1,g2⟩:=hf s (64 * j+Lib.ctz 64 m) (jS _ List.mem_cons_self) hs;have sP:=aD m hm;have hk:Lib.ctz 64 m<64:=(QR hm ib).choose_spec.2.2;have lz:m - 1<2 ^ 64:=by omega
   have ik:=UI hm ib;generalize lA:Lib.ctz 64 m=c at *;refine AU ?_;simp[ib];refine xK ?_;refine xB ?_;refine BX fun K hK=>?_;refine xJ ?_;simp[t1,t4,t5];refine Bp (sP) rfl (by simp[YV]) ?_;simp;refine xJ ?_;simp;rw[e8 js hk];refine AS.call rfl rfl (by simp) (f:=f) (args:=.d (AG ((64 * j+c:Nat):Int))::caps) (by simp;try rfl) (by simp) g2 ?_;simp;refine xJ ?_;simp;refine Aj (hK _ _ ?_);have h1:=fO hm ib;have h3:=u64_and m (m - 1) hm lz;refine xV fun K hK=>?_;simp[t5,h1,h3];apply hK;refine⟨m&&& (m - 1),UI hm ib,_,_,AJ.refl,?_⟩;simp[t1,t4,t6,t7];exact⟨Nat.lt_trans ik hm,step s (64 * j+c),rfl,g1,oc,fun b hb=>jS b (List.mem_cons_of_mem _ hb)⟩
 ·have js:j=8:=by omega
  subst js;rw[RV]at oc;simp at oc;refine Cu ?_;rw[←oc];refine⟨_,AJ.refl,?_⟩;simp[Am]
end Go.Koi
