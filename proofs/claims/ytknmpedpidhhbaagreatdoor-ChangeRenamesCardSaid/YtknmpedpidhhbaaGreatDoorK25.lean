/-
  Part 26 of the proof that the law ChangeRenames of the package koinelaw31 returns true for every input.
-/
import Derived.Test.YtknmpedpidhhbaaGreatDoorK24
set_option maxHeartbeats 64000000
set_option maxRecDepth 100000
namespace Go.Koi
open Go.Proofs Tryz DT
def My(t:Token):Bool:=decide (t.cls=0)
def MO(t:Token):Bool:=!decide (t.literal=⟨#[]⟩)
theorem PN(t:Token):Pure prog 190 [Aa t] (.bool (My t)):=by
 refine Pure.AI func190 (by kernel_rfl) rfl (by simp) fun wf=>?_;rw[ntmps190];refine xW fun K hK=>?_;simp;apply hK;refine xW fun K hK=>?_;simp[Aa];apply hK;refine Ag ⟨_,_,AJ.refl,?_⟩;(try simp);unfold My;rw[Bool.eq_iff_iff];simp
theorem VU(t:Token):Pure prog 191 [Aa t] (.bool (MO t)):=by
 refine Pure.AI func191 (by kernel_rfl) rfl (by simp) fun wf=>?_;rw[ntmps191];refine xW fun K hK=>?_;simp;apply hK;refine xW fun K hK=>?_;simp[Aa];apply hK;refine Ag ⟨_,_,AJ.refl,?_⟩;(try simp);simp[MO]
def AA6(g:AF)(kind:Token→Bool)(l:List Int)(i:Nat):Bool:=
 decide (0≤l.getD i 0)&&decide (l.getD i 0<g.Ak.length)&&!(decide (0<i)&&decide (l.getD i 0≤l.getD (i - 1) 0))&&(match g.Ak[(l.getD i 0).toNat]? with|some t=>kind t|none=>false)
def LM(g:AF)(kind:Token→Bool)(l:List Int):Bool:=(List.range l.length).all (AA6 g kind l)&&decide (0<l.length)
theorem GS(g:AF)(l:List Int)(k:FuncId)(kind:Token→Bool)(hk:∀t,Pure prog k [Aa t] (.bool (kind t))):
  AE prog 193 [.d (AB g),.d (Ci l),.fn (.func k) [] []] [] (.d (.bool (LM g kind l))) []:=by
 refine AE.AI func193 (by kernel_rfl) rfl (by simp) fun wf _=>?_;have a1:l.length≤maxLen:=by have:=wf.2.1;simp only[WFV,WFD,Ci]at this;simpa using this.1
 rw[ntmps193];refine xW fun K hK=>?_;simp;apply hK;refine xS (xW fun K hK=>?_);simp;apply hK;refine Bw ?_;refine DC l.length (fun i tm S=>tm 1=.d (Ci l)∧tm 2=.fn (.func k) [] []∧tm 3=.ptr 0 1 0 0∧tm 9=.d (Ci l)∧tm 10=.d (.int .i64 l.length)∧tm 11=.d (.int .i64 i)∧S=[.row true 9 [.d (AB g)]]∧(∀j<i,AA6 g kind l j=true)) (i0:=0) (Nat.zero_le _) (by simp[AB]) ?_;rintro i tm S hi ⟨t1,t2,t3,t9,t10,t11,rfl,hall⟩;refine xW fun K hK=>?_;simp[t10,t11];apply hK;refine xC ?_;simp;refine⟨fun hlt=>?_,fun hge=>?_⟩
 ·have hbad:AA6 g kind l i=false→LM g kind l=false:=fun h=>by
   have:(List.range l.length).all (AA6 g kind l)=false:=by
    rw[List.all_eq_false];exact⟨i,by simpa using hlt,by simp[h]⟩
   simp[LM,this]
  have hli:l.getD i 0=l[i]:=by simp[hlt]
  have hat:AA6 g kind l i=(decide (0≤l[i])&&decide (l[i] <g.Ak.length)&&!(decide (0<i)&&decide (l[i]≤l.getD (i - 1) 0))&&(match g.Ak[(l[i]).toNat]? with|some t=>kind t|none=>false)):=by unfold AA6;rw[hli]
  generalize hx:l[i]=x at *;refine xK ?_;refine xB ?_;(repeat refine xS ?_);refine xV fun K hK=>?_;simp[t9,t11,hlt,hx];refine hK _ _ ?_;(try simp only[xQ,reduceIte]);by_cases h0:x<0
  ·have h0':¬0≤x:=by omega
   refine Az fun K hK=>?_;(iterate 3 (refine B7 (by simp) ?_;simp[h0]));(repeat(refine Dp rfl ?_ ?_;(·simp);simp));(iterate 2 (refine B7 (by simp) ?_;simp));(repeat(refine Dp rfl ?_ ?_;(·simp);simp));(iterate 2 (refine B7 (by simp) ?_;simp));(repeat(refine Dp rfl ?_ ?_;(·simp);simp));refine xJ ?_;simp;refine Aj (hK _ _ ?_);refine AU ?_;simp;refine xW fun K hK=>?_;simp;apply hK;refine Ag ?_;(try simp only[xQ,reduceIte]);rw[hbad (by rw[hat];simp[h0'])];refine⟨_,AJ.AY 0 (by simp) (by simp) (by simp) (by simp),?_⟩;simp[Am,clean]
  ·have h0':0≤x:=by omega
   obtain⟨m,rfl⟩:∃m:Nat,x=m:=⟨x.toNat,by omega⟩;by_cases h1:m<g.Ak.length
   ·have hkc:=hk g.Ak[m];have h1n:¬(g.Ak.length:Int)≤m:=by omega
    have h1n':¬g.Ak.length≤m:=by omega
    cases i with
    |zero=>
     (repeat refine xS ?_);refine BX fun K hK=>?_;(iterate 13 (refine B7 (by simp[t3]) ?_;simp[h0,t3,h1n,AB]));(repeat(refine Dp rfl ?_ ?_;(·simp);simp));(iterate 3 (refine B7 (by simp) ?_;simp));(iterate 6 (refine B7 (by simp[t3,h1,Aa]) ?_;simp[t2,t3,h1,Aa]));refine AS.Cj (hkc) rfl rfl (by simp[xN];try rfl) ?_;simp;refine xJ ?_;simp;refine Aj (hK _ _ ?_);(try simp only[xQ,reduceIte]);cases hkt:kind g.Ak[m]with
     |false=>
      refine AU ?_;simp;refine xW fun K hK=>?_;simp;apply hK;refine Ag ?_;(try simp only[xQ,reduceIte]);rw[hbad (by rw[hat];simp[h1,hkt])];refine⟨_,AJ.AY 0 (by simp) (by simp) (by simp) (by simp),?_⟩;simp[Am,clean]
     |true=>
      refine AU ?_;simp;refine CC ?_;refine xV fun K hK=>?_;simp[t11];apply hK;refine⟨hlt,_,_,AJ.refl,?_⟩;have hw1:IntKind.i64.wrap 1=1:=by decide
      have ha0:AA6 g kind l 0=true:=by rw[hat];simp[h1,hkt]
      simp[t1,t2,t3,t9,t10,hw1,AB,ha0]
    |succ q=>
     have hq:q<l.length:=by omega
     have hlq:l.getD q 0=l[q]:=by simp[hq]
     have hwq:IntKind.i64.wrap ((q:Int)+1 - 1)=q:=by rw[show(q:Int)+1 - 1=q by omega,Go.IntKind.wrap_i64];unfold maxLen at a1;omega
     have hwq':IntKind.i64.wrap (q:Int)=q:=by rw[Go.IntKind.wrap_i64];unfold maxLen at a1;omega
     have hw2:IntKind.i64.wrap ((q:Int)+1+1)=(q:Int)+1+1:=by rw[Go.IntKind.wrap_i64];unfold maxLen at a1;omega
     have hq0:(0:Int)<(q:Int)+1:=by omega
     simp only[Nat.add_sub_cancel,hlq]at hat;by_cases hle:(m:Int)≤l[q]
     ·refine Az fun K hK=>?_;(iterate 23 (refine B7 (by simp[t3,hq]) ?_;simp[h0,t1,t3,h1n,AB,hq,hwq',hq0,hle]));(repeat(refine Dp rfl ?_ ?_;(·simp);simp));refine xJ ?_;simp;refine Aj (hK _ _ ?_);refine AU ?_;simp;refine xW fun K hK=>?_;simp;apply hK;refine Ag ?_;(try simp only[xQ,reduceIte]);rw[hbad (by rw[hat];simp[hle])];refine⟨_,AJ.AY 0 (by simp) (by simp) (by simp) (by simp),?_⟩;simp[Am,clean]
     ·(repeat refine xS ?_);refine BX fun K hK=>?_;(iterate 23 (refine B7 (by simp[t3,hq]) ?_;simp[h0,t1,t3,h1n,AB,hq,hwq',hq0,hle]));(iterate 6 (refine B7 (by simp[t3,h1,Aa]) ?_;simp[t2,t3,h1,Aa]));refine AS.Cj (hkc) rfl rfl (by simp[xN];try rfl) ?_;simp;refine xJ ?_;simp;refine Aj (hK _ _ ?_);(try simp only[xQ,reduceIte]);cases hkt:kind g.Ak[m]with
      |false=>
       refine AU ?_;simp;refine xW fun K hK=>?_;simp;apply hK;refine Ag ?_;(try simp only[xQ,reduceIte]);rw[hbad (by rw[hat];simp[h1,hkt])];refine⟨_,AJ.AY 0 (by simp) (by simp) (by simp) (by simp),?_⟩;simp[Am,clean]
      |true=>
       refine AU ?_;simp;refine CC ?_;refine xV fun K hK=>?_;simp[t11];apply hK;refine⟨hlt,_,_,AJ.refl,?_⟩;simp[t1,t2,t3,t9,t10,hw2,AB];intro j hj;by_cases e:j=q+1
       ·subst e;rw[hat];simp[h1,hkt,hle]
       ·exact hall j (by omega)
   ·have h1':g.Ak.length≤m:=by omega
    refine Az fun K hK=>?_;(iterate 10 (refine B7 (by simp[t3]) ?_;simp[h0,t3,h1',AB]));(repeat(refine Dp rfl ?_ ?_;(·simp);simp));(iterate 2 (refine B7 (by simp) ?_;simp));(repeat(refine Dp rfl ?_ ?_;(·simp);simp));refine xJ ?_;simp;refine Aj (hK _ _ ?_);refine AU ?_;simp;refine xW fun K hK=>?_;simp;apply hK;refine Ag ?_;(try simp only[xQ,reduceIte]);rw[hbad (by rw[hat];simp[h1])];refine⟨_,AJ.AY 0 (by simp) (by simp) (by simp) (by simp),?_⟩;simp[Am,clean]
 ·have hil:i=l.length:=by omega
  subst hil;have hall':(List.range l.length).all (AA6 g kind l)=true:=by
   rw[List.all_eq_true];intro j hj;exact hall j (by simpa using hj)
  refine Cu ?_;refine xW fun K hK=>?_;simp[t1];apply hK;refine Ag ?_;(try simp only[xQ,reduceIte]);refine⟨_,AJ.AY 0 (by simp) (by simp) (by simp) (by simp),?_⟩;simp[Am,clean,LM,hall']
def ABR(g:AF)(f:Filter):Bool:=
 decide (0≤f.parent)&&decide (0≤f.child)&&decide (0≤f.at_)&&(match g.AD[f.parent.toNat]?,g.AD[f.child.toNat]? with
  |some p,some c=>(match p.right[f.at_.toNat]? with|some s=>decide (s=⟨false,c.left⟩)|none=>false)
  |_,_=>false)
theorem QL(g:AF)(f:Filter):Pure prog 192 [AB g,AK f] (.bool (ABR g f)):=by
 refine Pure.AI func192 (by kernel_rfl) rfl (by simp) fun wf=>?_;rw[ntmps192];refine xW fun K hK=>?_;simp;apply hK;(repeat refine xS ?_);refine BX fun K hK=>?_;(repeat((refine B7 ?_ ?_);(focus(simp[AK,AB];try(first|omega|(simp +contextual[AK,AB];done)|grind);done));simp[AK,AB]));refine Aj (hK _ _ ?_);(try simp only[xQ,reduceIte]);(repeat refine xS ?_);refine AW.BD (t:=decide (f.parent<0)||decide ((g.AD.length:Int)≤f.parent)||decide (f.child<0)||decide ((g.AD.length:Int)≤f.child)) ?_ (fun hb=>?_) (fun hb=>?_)
 ·simp
 ·have hno:ABR g f=false:=by
   simp only[Bool.or_eq_true,decide_eq_true_eq]at hb;unfold ABR;rcases hb with((h|h)|h)|h
   ·simp[show ¬0≤f.parent by omega]
   ·by_cases h0:0≤f.parent
    ·rw[List.getElem?_eq_none (by omega)];simp
    ·simp[h0]
   ·simp[show ¬0≤f.child by omega]
   ·by_cases h0:0≤f.child
    ·rw[List.getElem?_eq_none (i:=f.child.toNat) (by omega)];cases g.AD[f.parent.toNat]?<;>simp
    ·simp[h0]
  refine xW fun K hK=>?_;simp;apply hK;refine Ag ⟨_,_,AJ.refl,?_⟩;(try simp);simp[hno]
 ·simp only[Bool.or_eq_false_iff,decide_eq_false_iff_not]at hb;obtain⟨⟨⟨p0,p1⟩,c0⟩,c1⟩:=hb;obtain⟨a,ha⟩:∃a:Nat,f.parent=a:=⟨f.parent.toNat,by omega⟩;obtain⟨c,hc⟩:∃c:Nat,f.child=c:=⟨f.child.toNat,by omega⟩;have ha1:a<g.AD.length:=by omega
  have hc1:c<g.AD.length:=by omega
  have hpk:ABR g f=(decide (0≤f.at_)&&(match g.AD[a].right[f.at_.toNat]? with|some s=>decide (s=⟨false,g.AD[c].left⟩)|none=>false)):=by
   unfold ABR;simp[ha,hc,ha1,hc1]
  refine xK ?_;(repeat refine xS ?_);refine xV fun K hK=>?_;simp[ha,ha1,AH];refine hK _ _ ?_;(try simp only[xQ,reduceIte]);generalize hr:g.AD[a].right=r at *;by_cases h0:0≤f.at_
  ·by_cases h1:f.at_<r.length
   ·obtain⟨b,hbb⟩:∃b:Nat,f.at_=b:=⟨f.at_.toNat,by omega⟩;have hb1:b<r.length:=by omega
    (repeat refine xS ?_);refine xE [0,2,4,6,8,10,12,14,16,18,20,22,24,26,28,30,32,34,36,38,40,42,44,46,48,50,52] (by kernel_rfl) fun K hK=>?_;simp;refine xA 0 ?_;simp[AH,hbb,hb1,hc,hc1,AL];refine xM (hK _ _ ?_);(try simp only[xQ,reduceIte]);refine Ag ⟨_,_,AJ.refl,?_⟩;(try simp);rw[hpk,hbb];simp[hb1];cases r[b];rw[Bool.eq_iff_iff];simp[AAk,deq]
   ·have hn:r[f.at_.toNat]?=none:=List.getElem?_eq_none (by omega);(repeat refine xS ?_);refine xE [0,2,4,6,8,10,12,14,16,18,20,22,24,26,28,30,32,34,36,38,40,42,44,46,48,50,52] (by kernel_rfl) fun K hK=>?_;simp;(iterate 11 (refine Ga (by simp) ?_;simp[h0,h1]));(repeat(refine Oi rfl rfl ?_ ?_;(·simp);simp));refine xA 0 ?_;simp;refine xM (hK _ _ ?_);(try simp only[xQ,reduceIte]);refine Ag ⟨_,_,AJ.refl,?_⟩;(try simp);rw[hpk,hn];simp
  ·(repeat refine xS ?_);refine xE [0,2,4,6,8,10,12,14,16,18,20,22,24,26,28,30,32,34,36,38,40,42,44,46,48,50,52] (by kernel_rfl) fun K hK=>?_;simp;(iterate 4 (refine Ga (by simp) ?_;simp[h0]));(repeat(refine Oi rfl rfl ?_ ?_;(·simp);simp));(iterate 2 (refine Ga (by simp) ?_;simp));(repeat(refine Oi rfl rfl ?_ ?_;(·simp);simp));refine xA 0 ?_;simp;refine xM (hK _ _ ?_);(try simp only[xQ,reduceIte]);refine Ag ⟨_,_,AJ.refl,?_⟩;(try simp);rw[hpk];simp[h0]
open Go.Proofs Tryz DT
def ABJ(g:AF)(i:Int)(q:Token→Bool):Bool:=decide (0≤i)&&(match g.Ak[i.toNat]? with|some t=>q t|none=>false)
noncomputable def FZ(g:AF)(f:Filter):Bool:=
 if f.kind=1∨f.kind=2 then DS f.cond g.conds.length&&ABR g f
 else if f.kind=3∨f.kind=4 then DS f.cond g.conds.length&&decide (0≤f.left)&&decide (f.left<g.BC.length)&&LM g My f.tokens
 else if f.kind=5 then DS f.cond g.conds.length&&LM g MO f.tokens&&ABJ g f.token (fun t=>My t&&!MO t)
 else false
def D8(f:Filter):Filter:=
 if f.kind=1∨f.kind=2 then {f with kind:=0,cond:=⟨[],0⟩,parent:=0,at_:=0,child:=0}
 else if f.kind=3∨f.kind=4 then {f with kind:=0,cond:=⟨[],0⟩,left:=0,tokens:=[]}
 else if f.kind=5 then {f with kind:=0,cond:=⟨[],0⟩,token:=0,tokens:=[]}
 else {f with kind:=0,cond:=⟨[],0⟩}
def Og(f:Filter):Bool:=decide (f.parent=0)&&decide (f.at_=0)&&decide (f.child=0)&&decide (f.left=0)&&decide (f.token=0)&&decide (f.tokens=[])
noncomputable def GU(g:AF)(f:Filter):Bool:=FZ g f&&Og (D8 f)
noncomputable def FH(g:AF):Bool:=g.AM.all (GU g)
def MF(f:Filter):V:=if f.kind=3∨f.kind=4∨f.kind=5 then .full []else .d (Ci f.tokens)
def XR(f:Filter)(tv:V):V:=.agg [.d (AG 0),.d (AG f.parent),.d (AG f.at_),.d (AG f.child),.d (AG f.left),.d (AG f.token),tv,.full [],.d (AG 0)]
theorem Jk(g:AF):Pure prog 159 [AB g] (AG (if FH g then 0 else 53)):=by
 refine Pure.AI func159 (by kernel_rfl) rfl (by simp) fun wf=>?_;have a1:g.AM.length≤maxLen:=by simp[AAY,WFD,AB]at wf;omega
 rw[ntmps159];refine xW fun K hK=>?_;simp;apply hK;refine xW fun K hK=>?_;simp;apply hK;refine xW fun K hK=>?_;simp;apply hK;refine xS (xW fun K hK=>?_);simp[AB];apply hK;refine Bw ?_;refine DC g.AM.length (fun i tm S=>tm 1=.ptr 0 1 0 0∧tm 3=.fn (.func 190) [] []∧tm 4=.fn (.func 191) [] []∧tm 10=.d (A8 g.AM)∧tm 11=.d (.int .i64 g.AM.length)∧tm 12=.d (.int .i64 i)∧S=[.row true 9 [.d (AB g)]]∧(∀j (h:j<i) (h':j<g.AM.length),GU g g.AM[j]=true)) (i0:=0) (Nat.zero_le _) (by simp[AB]) ?_;rintro i tm S hi ⟨t1,t3,t4,t10,t11,t12,rfl,hall⟩;refine xW fun K hK=>?_;simp[t11,t12];apply hK;refine xC ?_;simp;refine⟨fun hlt=>?_,fun hge=>?_⟩
 ·have hbad:GU g g.AM[i]=false→FH g=false:=fun h=>by
   unfold FH;rw[List.all_eq_false];exact⟨_,List.getElem_mem hlt,by simp[h]⟩
  generalize hx:g.AM[i]=x at *;refine xK ?_;refine xB ?_;refine xW fun K hK=>?_;simp[t10,t12,hlt,hx];apply hK;refine Az fun K hK=>?_;(repeat((refine B7 ?_ ?_);(focus(simp[t1,AB];try(first|omega|(simp +contextual[AK,t1,AB];done)|grind);done));simp[t1,AB]));refine Bp (IJ x.cond g.conds.length) rfl (by simp[AA]) ?_;simp;refine xJ ?_;simp;refine Aj (hK _ _ ?_);refine xW fun K hK=>?_;simp;apply hK;refine xW fun K hK=>?_;simp;apply hK;refine AW.El (R:=fun tm S=>tm 1=.ptr 0 1 0 0∧tm 3=.fn (.func 190) [] []∧tm 4=.fn (.func 191) [] []∧tm 10=.d (A8 g.AM)∧tm 11=.d (.int .i64 g.AM.length)∧tm 12=.d (.int .i64 i)∧tm 8=.ptr 2 1 0 0∧tm 7=.d (.bool (FZ g x))∧S=[.row true 9 [.d (AB g)],.row true 9 [.d (AK x)],.row true 9 [XR (D8 x) (MF x)]]) ?_ ?_
  ·refine xW fun K hK=>?_;simp;apply hK;refine Bw ?_;by_cases hk:x.kind=1
   ·refine xS (xW fun K hK=>?_);simp;apply hK;refine AU ?_;simp[hk];refine xK ?_;refine AU ?_;simp;refine xW fun K hK=>?_;simp;apply hK;refine BX fun K hK=>?_;refine xJ ?_;simp[t1];refine AS.CE (ds:=[AB g,AK x]) rfl rfl (by simp;rfl) (fun _=>QL g x) (by simp[hk,xN]) ?_;simp;(repeat((refine B7 ?_ ?_);(focus(simp;try(first|omega|(simp +contextual;done)|grind);done));simp));refine Aj (hK _ _ ?_);simp[t1,t3,t4,t10,t11,t12,FZ,D8,XR,MF,hk,AB,AK]
   ·by_cases hk2:x.kind=2
    ·have hk:=hk2;refine xS (xW fun K hK=>?_);simp;apply hK;refine AU ?_;simp[hk];refine xV fun K hK=>?_;simp;apply hK;refine AU ?_;simp;refine xW fun K hK=>?_;simp;apply hK;refine BX fun K hK=>?_;refine xJ ?_;simp[t1];refine AS.CE (ds:=[AB g,AK x]) rfl rfl (by simp;rfl) (fun _=>QL g x) (by simp[hk,xN]) ?_;simp;(repeat((refine B7 ?_ ?_);(focus(simp;try(first|omega|(simp +contextual;done)|grind);done));simp));refine Aj (hK _ _ ?_);simp[t1,t3,t4,t10,t11,t12,FZ,D8,XR,MF,hk,AB,AK]
    ·by_cases hk3:x.kind=3
     ·have hk:=hk3;refine xS (xW fun K hK=>?_);simp;apply hK;refine AU ?_;simp[hk];refine xV fun K hK=>?_;simp;apply hK;refine AU ?_;simp;refine xS (xW fun K hK=>?_);simp;apply hK;refine AU ?_;simp;refine xK ?_;refine AU ?_;simp;refine xW fun K hK=>?_;simp;apply hK;refine BX fun K hK=>?_;(repeat((refine B7 ?_ ?_);(focus(simp[t1];try(first|omega|(simp +contextual[t1,AB,AK];done)|grind);done));simp[t1]));refine AS.Hg rfl rfl (by simp[t3];rfl) (fun _=>GS g x.tokens 190 My PN) (by simp +contextual[t3,AB];try rfl) ?_;simp[t3];(repeat((refine B7 ?_ ?_);(focus(simp;try(first|omega|(simp +contextual;done)|grind);done));simp));refine Aj (hK _ _ ?_);simp[t1,t3,t4,t10,t11,t12,FZ,D8,XR,MF,hk,AB,AK]
     ·by_cases hk4:x.kind=4
      ·have hk:=hk4;refine xS (xW fun K hK=>?_);simp;apply hK;refine AU ?_;simp[hk];refine xV fun K hK=>?_;simp;apply hK;refine AU ?_;simp;refine xS (xW fun K hK=>?_);simp;apply hK;refine AU ?_;simp;refine xV fun K hK=>?_;simp;apply hK;refine AU ?_;simp;refine xW fun K hK=>?_;simp;apply hK;refine BX fun K hK=>?_;(repeat((refine B7 ?_ ?_);(focus(simp[t1];try(first|omega|(simp +contextual[t1,AB,AK];done)|grind);done));simp[t1]));refine AS.Hg rfl rfl (by simp[t3];rfl) (fun _=>GS g x.tokens 190 My PN) (by simp +contextual[t3,AB];try rfl) ?_;simp[t3];(repeat((refine B7 ?_ ?_);(focus(simp;try(first|omega|(simp +contextual;done)|grind);done));simp));refine Aj (hK _ _ ?_);simp[t1,t3,t4,t10,t11,t12,FZ,D8,XR,MF,hk,AB,AK]
      ·by_cases hk5:x.kind=5
       ·have hk:=hk5;refine xS (xW fun K hK=>?_);simp;apply hK;refine AU ?_;simp[hk];refine xV fun K hK=>?_;simp;apply hK;refine AU ?_;simp;refine xS (xW fun K hK=>?_);simp;apply hK;refine AU ?_;simp;refine xV fun K hK=>?_;simp;apply hK;refine AU ?_;simp;refine xW fun K hK=>?_;simp;apply hK;refine AU ?_;simp;refine xW fun K hK=>?_;simp;apply hK;(repeat refine xS ?_);refine BX fun K hK=>?_;(repeat((refine B7 ?_ ?_);(focus(simp[t1];try(first|omega|(simp +contextual[t1,AB,AK,t4];done)|grind);done));simp[t1,t4]));refine AS.Hg rfl rfl (by simp;rfl) (fun _=>GS g x.tokens 191 MO VU) (by simp +contextual[AB];try rfl) ?_;simp;(repeat((refine B7 ?_ ?_);(focus(simp[t1];try(first|omega|(simp +contextual[t1,AB];done)|grind);done));simp[t1]));refine Aj (hK _ _ ?_);(try simp only[xQ,reduceIte]);generalize hhv:(DS x.cond g.conds.length&&LM g MO x.tokens&&decide (0≤x.token)&&decide (x.token<g.Ak.length))=hv;cases hv with
        |false=>
         have hm:FZ g x=false:=by
          have:(DS x.cond g.conds.length&&LM g MO x.tokens&&ABJ g x.token fun t=>My t&&!MO t)=false:=by
           simp only[Bool.and_eq_false_iff,decide_eq_false_iff_not]at hhv⊢;rcases hhv with((h|h)|h)|h
           ·exact .inl (.inl h)
           ·exact .inl (.inr h)
           ·exact .inr (by simp[ABJ,h])
           ·refine .inr ?_;unfold ABJ;by_cases h0:0≤x.token
            ·rw[List.getElem?_eq_none (by omega)];simp
            ·simp[h0]
          unfold FZ;simp[hk,this]
         refine BX fun K hK=>?_;(iterate 2 (refine B7 (by simp) ?_;simp));(repeat(refine Dp rfl ?_ ?_;(·simp);simp));(iterate 2 (refine B7 (by simp) ?_;simp));(repeat(refine Dp rfl ?_ ?_;(·simp);simp));refine xJ ?_;simp;refine Aj (hK _ _ ?_);simp[t1,t3,t4,t10,t11,t12,hm,D8,XR,MF,hk,AB,AK]
        |true=>
         simp only[Bool.and_eq_true,decide_eq_true_eq]at hhv;obtain⟨⟨⟨hf1,hf2⟩,hf3⟩,hf4⟩:=hhv;obtain⟨b,hb⟩:∃b:Nat,x.token=b:=⟨x.token.toNat,by omega⟩;have hb1:b<g.Ak.length:=by omega
         have hm:FZ g x=(My g.Ak[b]&&!MO g.Ak[b]):=by
          unfold FZ ABJ;simp[hk,hf1,hf2,hb,hb1]
         have ho:=PN g.Ak[b];have hl:=VU g.Ak[b];refine BX fun K hK=>?_;refine xJ ?_;simp[t1,t3,hb,hb1];refine AS.Cj (ho) rfl rfl (by simp[xN];try rfl) ?_;simp;refine xJ ?_;simp[t1,t4,hb1];refine AS.CE (g:=My g.Ak[b]) (ds:=[Aa g.Ak[b]]) rfl rfl (by simp<;>rfl) (fun _=>hl) (by simp[xN]) ?_;simp;(repeat((refine B7 ?_ ?_);(focus(simp;try(first|omega|(simp +contextual;done)|grind);done));simp));refine Aj (hK _ _ ?_);simp[t1,t3,t4,t10,t11,t12,hm,D8,XR,MF,hk,hb,AB,AK]
       ·refine xS (xW fun K hK=>?_);simp;apply hK;refine AU ?_;simp[hk];refine xV fun K hK=>?_;simp;apply hK;refine AU ?_;simp[hk2];refine xS (xW fun K hK=>?_);simp;apply hK;refine AU ?_;simp[hk3];refine xV fun K hK=>?_;simp;apply hK;refine AU ?_;simp[hk4];refine xW fun K hK=>?_;simp;apply hK;refine AU ?_;simp[hk5];refine xV fun K hK=>?_;simp;apply hK;simp[t1,t3,t4,t10,t11,t12,FZ,D8,XR,MF,hk,hk2,hk3,hk4,hk5,AB,AK]
  ·rintro tm S ⟨t1,t3,t4,t10,t11,t12,t8,t7,rfl⟩;have htk:(D8 x).tokens=if x.kind=3∨x.kind=4∨x.kind=5 then []else x.tokens:=by
    unfold D8;by_cases k1:x.kind=1∨x.kind=2
    ·have:¬(x.kind=3∨x.kind=4∨x.kind=5):=by omega
     simp[k1,this]
    ·by_cases k2:x.kind=3∨x.kind=4
     ·have:x.kind=3∨x.kind=4∨x.kind=5:=by omega
      simp[k1,k2,this]
     ·by_cases k3:x.kind=5
      ·simp[k3]
      ·have:¬(x.kind=3∨x.kind=4∨x.kind=5):=by omega
       simp[k1,k2,k3]
   have hz:Og (D8 x)=(decide ((D8 x).parent=0)&&decide ((D8 x).at_=0)&&decide ((D8 x).child=0)&&decide ((D8 x).left=0)&&decide ((D8 x).token=0)&&decide ((D8 x).tokens=[])):=rfl;rw[htk]at hz;generalize hrr:D8 x=r at *;unfold XR MF;by_cases k3:x.kind=3∨x.kind=4∨x.kind=5
   ·rw[if_pos k3]at hz;simp only[if_pos k3];refine Az fun K hK=>?_;(repeat((refine B7 ?_ ?_);(focus(simp[t8];try(first|omega|(simp +contextual[t7,t8];done)|grind);done));simp[t7,t8]));refine Aj (hK _ _ ?_);(repeat refine xS ?_);refine AW.BD (t:=!(FZ g x&&Og r)) ?_ (fun hb=>?_) (fun hb=>?_)
    ·rw[hz];simp;rw[Bool.eq_iff_iff];simp[or_assoc]
    ·refine xW fun K hK=>?_;simp;apply hK;refine Ag ⟨_,_,AJ.refl,?_⟩;(try simp);have:GU g x=false:=by unfold GU;rw[hrr];simpa only[Bool.not_eq_true']using hb
     simp[hbad this]
    ·have hok:GU g x=true:=by unfold GU;rw[hrr];simpa only[Bool.not_eq_false']using hb
     refine CC ?_;refine xV fun K hK=>?_;simp[t12];apply hK;refine⟨hlt,_,_,AJ.drop 1 (by simp) (by simp) (by simp),?_⟩;simp[clean,t1,t3,t4,t10,t11,AQ hlt a1,AB];intro j hj hj';by_cases e:j=i
     ·subst e;rw[hx];exact hok
     ·exact hall j (by omega) hj'
   ·rw[if_neg k3]at hz;simp only[if_neg k3];refine Az fun K hK=>?_;(repeat((refine B7 ?_ ?_);(focus(simp[t8];try(first|omega|(simp +contextual[t7,t8];done)|grind);done));simp[t7,t8]));refine Aj (hK _ _ ?_);(repeat refine xS ?_);refine AW.BD (t:=!(FZ g x&&Og r)) ?_ (fun hb=>?_) (fun hb=>?_)
    ·rw[hz];simp;have hpos:0<x.tokens.length↔¬x.tokens=[]:=by cases x.tokens<;>simp
     rw[Bool.eq_iff_iff];simp[or_assoc,hpos]
    ·refine xW fun K hK=>?_;simp;apply hK;refine Ag ⟨_,_,AJ.refl,?_⟩;(try simp);have:GU g x=false:=by unfold GU;rw[hrr];simpa only[Bool.not_eq_true']using hb
     simp[hbad this]
    ·have hok:GU g x=true:=by unfold GU;rw[hrr];simpa only[Bool.not_eq_false']using hb
     refine CC ?_;refine xV fun K hK=>?_;simp[t12];apply hK;refine⟨hlt,_,_,AJ.drop 1 (by simp) (by simp) (by simp),?_⟩;simp[clean,t1,t3,t4,t10,t11,AQ hlt a1,AB];intro j hj hj';by_cases e:j=i
     ·subst e;rw[hx];exact hok
     ·exact hall j (by omega) hj'
 ·have hil:i=g.AM.length:=by omega
  subst hil;have hall':FH g=true:=by
   unfold FH;rw[List.all_eq_true];intro x hx;obtain⟨k,hk,rfl⟩:=List.mem_iff_getElem.1 hx;exact hall k hk hk
  refine Cu ?_;refine xW fun K hK=>?_;simp;apply hK;refine Ag ⟨_,_,AJ.refl,?_⟩;(try simp);simp[hall']
open Go.Proofs Tryz DT
noncomputable def C1(g:AF):List Int:=[if FY g then 0 else 54,if ES g then 0 else 51,if IY g then 0 else 50,AAg g [⟨#[]⟩] g.AD,if AAq g [] g.levels then 0 else 53,if FH g then 0 else 53]
def ABA:List Int→Int
 |[]=>0
 |e::l=>if e=0 then ABA l else e
theorem JP:∀{l:List Int},ABA l=0→∀e∈l,e=0
 |[],_,_,h=>by simp at h
 |a::l,h,e,he=>by
  unfold ABA at h;split at h
  ·rcases List.mem_cons.1 he with rfl|he
   ·assumption
   ·exact JP h e he
  ·rename_i hn;exact absurd h hn
theorem KP:∀{l:List Int},(∀e∈l,e=0)→ABA l=0
 |[],_=>rfl
 |a::l,h=>by simp[ABA,h a List.mem_cons_self];exact KP fun e he=>h e (List.mem_cons_of_mem _ he)
theorem Lk:∀{l:List Int} {i:Nat} (hi:i<l.length),(∀j (h:j<i),l[j]'(by omega)=0)→l[i]≠0→ABA l=l[i]
 |a::l,0,_,_,h=>by simp at h;simp[ABA,h]
 |a::l,i+1,hi,h0,h=>by
  have:a=0:=by simpa using h0 0 (by omega)
  simp only[ABA,this,if_true,List.getElem_cons_succ];exact Lk (by simpa using hi) (fun j hj=>by simpa using h0 (j+1) (by omega)) (by simpa using h)
noncomputable def DX(g:AF):Int:=if Dg g then 2 else ABA (C1 g)
def bk:List V:=[.fn (.func 154) [] [],.fn (.func 155) [] [],.fn (.func 156) [] [],.fn (.func 157) [] [],.fn (.func 158) [] [],.fn (.func 159) [] []]
theorem Zi(g:AF){i:Nat}(hi:i<6):∃(k:FuncId) (h:i<(C1 g).length),bk[i]?=some (.fn (.func k) [] [])∧Pure prog k [AB g] (AG (C1 g)[i]):=by
 match i,hi with
 |0,_=>exact⟨154,by simp[C1],rfl,Oc g⟩
 |1,_=>exact⟨155,by simp[C1],rfl,K5 g⟩
 |2,_=>exact⟨156,by simp[C1],rfl,Oe g⟩
 |3,_=>exact⟨157,by simp[C1],rfl,LD g⟩
 |4,_=>exact⟨158,by simp[C1],rfl,KV g⟩
 |5,_=>exact⟨159,by simp[C1],rfl,Jk g⟩
theorem RN(g:AF):Pure prog 118 [AB g] (AG (DX g)):=by
 refine Pure.AI func118 (by kernel_rfl) rfl (by simp) fun wf=>?_;rw[ntmps118];refine xW fun K hK=>?_;simp;apply hK;refine xS (Az fun K hK=>?_);refine xJ ?_;simp[AB];refine Bp (Um g) rfl (by simp[AB]) ?_;simp;refine xJ ?_;simp;refine Aj (hK _ _ ?_);(try simp only[xQ,reduceIte]);cases hl:Dg g with
 |true=>
  refine AU ?_;simp;refine xW fun K hK=>?_;simp;apply hK;refine Ag ⟨_,_,AJ.refl,?_⟩;(try simp);simp[DX,hl]
 |false=>
  refine AU ?_;simp;refine xK ?_;refine Az fun K hK=>?_;((refine AS.Gi rfl ?_ ?_);(focus(simp[AA3,maxLen];done));simp);refine xJ ?_;simp;refine Aj (hK _ _ ?_);refine xS (xW fun K hK=>?_);simp;apply hK;refine Bw ?_;refine DC 6 (fun i tm S=>tm 1=.ptr 0 1 0 0∧tm 10=.row 1 6∧tm 11=.d (.int .i64 6)∧tm 12=.d (.int .i64 i)∧S=[.row true 9 [.d (AB g)],.row true 1 bk]∧(∀j (h:j<i) (h':j<(C1 g).length),(C1 g)[j]=0)) (i0:=0) (Nat.zero_le _) (by simp[AB,bk]) ?_;rintro i tm S hi ⟨t1,t10,t11,t12,rfl,hall⟩;refine xW fun K hK=>?_;simp[t11,t12];apply hK;refine xC ?_;simp;refine⟨fun hlt=>?_,fun hge=>?_⟩
  ·have hi6:i<6:=by omega
   obtain⟨k,hkl,hk1,hk2⟩:=Zi g hi6;have hat:=Lk hkl (fun j hj=>hall j hj (by omega));generalize hx:(C1 g)[i]=e at *;have hfl:bk.length=6:=rfl;have hfi:i<bk.length:=by rw[hfl];exact hi6
   have hk1':bk[i]=.fn (.func k) [] []:=by rw[List.getElem?_eq_getElem hfi]at hk1;exact Option.some.inj hk1
   refine xK ?_;refine xB ?_;refine Az fun K hK=>?_;refine xJ ?_;simp[t10,t12,hi6,hlt,hfl,hk1'];refine Aj (hK _ _ ?_);refine Az fun K hK=>?_;refine xJ ?_;simp[t1,AB];refine Bp (hk2) rfl (by simp[AB]) ?_;simp;refine xJ ?_;simp;refine Aj (hK _ _ ?_);(repeat refine xS ?_);refine xV fun K hK=>?_;simp;refine hK _ _ ?_;(try simp only[xQ,reduceIte]);by_cases he:e=0
   ·refine AU ?_;simp[he];refine CC ?_;refine xV fun K hK=>?_;simp[t12];apply hK;refine⟨hi6,_,_,AJ.refl,?_⟩;simp[t1,t10,t11,AB];refine⟨AQ hi6 (by simp[maxLen]),fun j hj hj'=>?_⟩;by_cases ej:j=i
    ·subst ej;rw[hx];exact he
    ·exact hall j (by omega) hj'
   ·refine AU ?_;simp[he];refine xW fun K hK=>?_;simp;apply hK;refine Ag ⟨_,_,AJ.refl,?_⟩;(try simp);simp[DX,hl,hat he]
  ·have hi6:i=6:=by omega
   subst hi6;have h0:ABA (C1 g)=0:=KP fun e he=>by
    obtain⟨j,hj,rfl⟩:=List.mem_iff_getElem.1 he;exact hall j (by simpa[C1]using hj) hj
   refine Cu ?_;refine xW fun K hK=>?_;simp;apply hK;refine Ag ⟨_,_,AJ.refl,?_⟩;(try simp);simp[DX,hl,h0]
theorem Ir{g:AF}(h:DX g=0):Dg g=false∧FY g=true∧ES g=true∧IY g=true∧AAg g [⟨#[]⟩] g.AD=0∧AAq g [] g.levels=true∧FH g=true:=by
 unfold DX at h;split at h
 ·cases h
 ·rename_i hl;have hz:=JP h;have h1:=hz (if FY g then 0 else 54) (by simp[C1]);have h2:=hz (if ES g then 0 else 51) (by simp[C1]);have h3:=hz (if IY g then 0 else 50) (by simp[C1]);have h4:=hz (AAg g [⟨#[]⟩] g.AD) (by simp[C1]);have h5:=hz (if AAq g [] g.levels then 0 else 53) (by simp[C1]);have h6:=hz (if FH g then 0 else 53) (by simp[C1]);refine⟨by simpa using hl,?_,?_,?_,h4,?_,?_⟩
  ·cases h:FY g<;>simp[h]at h1⊢
  ·cases h:ES g<;>simp[h]at h2⊢
  ·cases h:IY g<;>simp[h]at h3⊢
  ·cases h:AAq g [] g.levels<;>simp[h]at h5⊢
  ·cases h:FH g<;>simp[h]at h6⊢
theorem Qq{c:Nat}:∀{l:List AT},(∀p∈l,p.right.length≤c)→(l.map (·.right.length)).sum≤l.length * c
 |[],_=>by simp
 |p::l,h=>by
  have h1:=h p List.mem_cons_self;have h2:=Qq fun q hq=>h q (List.mem_cons_of_mem _ hq);simp only[List.map_cons,List.sum_cons,List.length_cons,Nat.succ_mul];omega
theorem XH{g:AF}(hn:g.conds.length≤12)(h:DX g=0):bj g:=by
 obtain⟨h0,h1,h2,h3,h4,h5,h6⟩:=Ir h;simp only[Dg,Bool.or_eq_false_iff,decide_eq_false_iff_not,List.any_eq_false,Lp,Bool.or_eq_true,decide_eq_true_eq,not_or]at h0;obtain⟨⟨⟨⟨⟨⟨l1,l2⟩,l3⟩,l4⟩,l5⟩,l6⟩,l7⟩:=h0;have hpr:=Gm h4;refine⟨hn,?_,fun t ht=>?_,fun p hp=>?_,fun p hp s hs ht=>?_,by omega,?_⟩
 ·simp only[FY,Bool.and_eq_true]at h1;exact Kk h1.1.2
 ·simp only[ES,Bool.and_eq_true,List.all_eq_true]at h2;have:=h2.2 t ht;simp only[F6,Bool.and_eq_true]at this;exact Kk this.1.2
 ·have:=(hpr p hp).2;simp only[Mz,Bool.and_eq_true]at this;exact Kk this.1.1.1
 ·have:=(hpr p hp).1;simp only[LX,Bool.and_eq_true,List.all_eq_true]at this;have:=this.2 s hs;simp only[ABC,ht,if_true,Bool.and_eq_true,decide_eq_true_eq]at this;refine⟨this.1,?_⟩;rcases Nat.lt_or_ge s.index.toNat g.Ak.length with hl|hl
  ·omega
  ·rw[List.getElem?_eq_none hl]at this;simp at this
 ·have:=Qq (c:=16) fun p hp=>(show p.right.length≤16 by have:=(l7 p hp).1;omega);unfold Fits;have:g.AD.length * 16≤2000 * 16:=Nat.mul_le_mul_right _ (by omega);omega
theorem ACW(g:AF)(hn:g.conds.length≤12):At prog 16 [.d (AB g)] [] (fW g (DX g)):=SP g (DX g) (RN g) fun h=>XH hn h
def FcQ(g:AF)(e:Int)(v:V)(S':Sg):Prop:=S'=[]∧∃r:Int,v=.d (AG r)∧(e≠0∨¬ACX g→r=e)∧(r=e∨r=60)
theorem Ca(g:AF)(hn:g.conds.length≤12):At prog 16 [.d (AB g)] [] (FcQ g (DX g)):=
 (ACW g hn).mono fun v S' h=>by
  refine⟨h.1,fcE g (DX g),h.2,?_,?_⟩
  ·intro hh;unfold fcE;split
   ·rfl
   ·next hz=>rw[if_neg (hh.resolve_left hz)];simpa using Eq.symm (Classical.not_not.1 hz)
  ·unfold fcE;split
   ·exact .inl rfl
   ·next hz=>
    split
    ·exact .inr rfl
    ·exact .inl (Classical.not_not.1 hz).symm
end Go.Koi
